-- Written by this session: the contract of the reference's Runs.
import Derived.Test.YthdjdhcdhaicoaaLedR
import Derived.Test.YthdjdhcdhaicoaaLedP
namespace Go.Proofs.Ythdjdhcdhaicoaa.P
open Go.RowKit Go.Proofs.YthdjdhcdhaicoaaW.PrintWords Go.Proofs.YthdjdhcdhaicoaaW.PrintLast Go.Proofs.YthdjdhcdhaicoaaW.PrintMore
set_option linter.unusedVariables false
set_option linter.unusedSimpArgs false
theorem at_told46 {w : World} {A : Option Addr} {n : Nat} {xs : List S46} (h : Kd.C k46 w A n xs) (i : Nat) (hi : i < xs.length) : ∃ ad A1 c1 x, A = some ad ∧ xs[i]? = some x ∧ (w.cell? (ad.add (i * 13)) = some (.int .i64 x.f0) ∧ w.cell? ⟨(ad.add (i * 13)).block, (ad.add (i * 13)).off + 1, none⟩ = some (.int .i64 x.f1) ∧ w.cell? ⟨(ad.add (i * 13)).block, (ad.add (i * 13)).off + 2, none⟩ = some (.int .i64 x.f2.f0) ∧ w.cell? ⟨(ad.add (i * 13)).block, (ad.add (i * 13)).off + 3, none⟩ = some (.int .i64 x.f2.f1) ∧ w.cell? ⟨(ad.add (i * 13)).block, (ad.add (i * 13)).off + 4, none⟩ = some (.int .i64 x.f2.f2) ∧ w.cell? ⟨(ad.add (i * 13)).block, (ad.add (i * 13)).off + 5, none⟩ = some (.int .u8 x.f2.f3.f0) ∧ w.cell? ⟨(ad.add (i * 13)).block, (ad.add (i * 13)).off + 6, none⟩ = some (.int .u8 x.f2.f3.f1) ∧ w.cell? ⟨(ad.add (i * 13)).block, (ad.add (i * 13)).off + 7, none⟩ = some (.int .u8 x.f2.f3.f2) ∧ w.cell? ⟨(ad.add (i * 13)).block, (ad.add (i * 13)).off + 8, none⟩ = some (.int .u8 x.f2.f3.f3) ∧ w.cell? ⟨(ad.add (i * 13)).block, (ad.add (i * 13)).off + 9, none⟩ = some (.int .u8 x.f2.f3.f4) ∧ w.cell? ⟨(ad.add (i * 13)).block, (ad.add (i * 13)).off + 10, none⟩ = some (.int .u8 x.f2.f3.f5) ∧ w.cell? ⟨(ad.add (i * 13)).block, (ad.add (i * 13)).off + 11, none⟩ = some (.slice A1 x.f2.f4.length c1) ∧ w.cell? ⟨(ad.add (i * 13)).block, (ad.add (i * 13)).off + 12, none⟩ = some (.int .i64 x.f2.f5)) ∧ k46.K w x [.int .i64 x.f0, .int .i64 x.f1, .int .i64 x.f2.f0, .int .i64 x.f2.f1, .int .i64 x.f2.f2, .int .u8 x.f2.f3.f0, .int .u8 x.f2.f3.f1, .int .u8 x.f2.f3.f2, .int .u8 x.f2.f3.f3, .int .u8 x.f2.f3.f4, .int .u8 x.f2.f3.f5, .slice A1 x.f2.f4.length c1, .int .i64 x.f2.f5] := by
  have hn : xs.length = n := h.1
  obtain ⟨ad, c, e, _, hK, hc0⟩ := Kd.C_get h z46 (i : Int) (by omega) (by omega)
  have hc : ∀ j u, c[j]? = some u → w.cell? (ad.add ((i : Int).toNat * 13 + j)) = some u := hc0
  rw [Int.toNat_natCast] at hK hc
  obtain ⟨x, hx⟩ : ∃ x, xs.getD i z46 = x := ⟨_, rfl⟩
  rw [hx] at hK
  obtain ⟨A1, c1, rfl, l1, g1⟩ := k46_open hK
  exact ⟨ad, A1, c1, x, e, by rw [← hx, List.getD_eq_getElem?_getD, List.getElem?_eq_getElem hi]; rfl, ⟨hc 0 _ rfl, by rw [← add_field _ _ 1 (by omega)]; exact hc 1 _ rfl, by rw [← add_field _ _ 2 (by omega)]; exact hc 2 _ rfl, by rw [← add_field _ _ 3 (by omega)]; exact hc 3 _ rfl, by rw [← add_field _ _ 4 (by omega)]; exact hc 4 _ rfl, by rw [← add_field _ _ 5 (by omega)]; exact hc 5 _ rfl, by rw [← add_field _ _ 6 (by omega)]; exact hc 6 _ rfl, by rw [← add_field _ _ 7 (by omega)]; exact hc 7 _ rfl, by rw [← add_field _ _ 8 (by omega)]; exact hc 8 _ rfl, by rw [← add_field _ _ 9 (by omega)]; exact hc 9 _ rfl, by rw [← add_field _ _ 10 (by omega)]; exact hc 10 _ rfl, by rw [← add_field _ _ 11 (by omega)]; exact hc 11 _ rfl, by rw [← add_field _ _ 12 (by omega)]; exact hc 12 _ rfl⟩, hK⟩
theorem open_told46 {w : World} {x : S46} {a0 a1 a2 a3 a4 a5 a6 a7 a8 a9 a10 a12 : Value} {A : Option Addr} {n c : Nat} (h : k46.K w x [a0, a1, a2, a3, a4, a5, a6, a7, a8, a9, a10, .slice A n c, a12]) : True ∧ True ∧ True ∧ True ∧ n = x.f2.f4.length ∧ x.f2.f4.length ≤ c ∧ Kd.C (Kd.int .u8) w A x.f2.f4.length x.f2.f4 := by
  obtain ⟨A11, c11, he, l, g⟩ := k46_open h
  simp only [List.cons.injEq, Value.slice.injEq] at he
  obtain ⟨_, _, _, _, _, _, _, _, _, _, _, ⟨rfl, rfl, rfl⟩, _⟩ := he
  exact ⟨trivial, trivial, trivial, trivial, rfl, l, g⟩

def mineR (a1 a2 p0 p1 p2 p3 p4 p5 : Int) (x : S46) : Bool := (x.f2.f0 == 9) && ((x.f2.f1 == a1) && ((x.f2.f2 == a2) && (x.f2.f3.f0 == p0 && (x.f2.f3.f1 == p1 && (x.f2.f3.f2 == p2 && (x.f2.f3.f3 == p3 && (x.f2.f3.f4 == p4 && (x.f2.f3.f5 == p5))))))))
def rNew (o : List S27) (x : S46) : List S27 := if o.length = 0 ∨ (o.getD (o.length - 1) z27).f0 ≠ x.f1 then o ++ [⟨x.f1, []⟩] else o
def rAdd (o : List S27) (x : S46) : List S27 := o.set (o.length - 1) ⟨(o.getD (o.length - 1) z27).f0, (o.getD (o.length - 1) z27).f1 ++ [x.f2.f4]⟩
def rS (o : List S27) (x : S46) : List S27 := rAdd (rNew o x) x
def refRunsL (l : List S46) (a1 a2 p0 p1 p2 p3 p4 p5 : Int) : List S27 := (l.filter (mineR a1 a2 p0 p1 p2 p3 p4 p5)).foldl rS []
def antiphonref24_Runs.f (l0 : List S46) (a1 a2 a3_0 a3_1 a3_2 a3_3 a3_4 a3_5 : Int) : Option (List S27) := if l0.length ≤ 1000 ∧ ∀ x ∈ l0, x.f2.f4.length < 140737488355328 then some (refRunsL l0 a1 a2 a3_0 a3_1 a3_2 a3_3 a3_4 a3_5) else none
theorem rNew_pos (o : List S27) (x : S46) : 0 < (rNew o x).length := by
  unfold rNew
  split
  · simp
  · rename_i h; omega
theorem rS_len (o : List S27) (x : S46) : (rS o x).length ≤ o.length + 1 := by
  unfold rS rAdd rNew
  rw [List.length_set]
  split <;> simp
theorem fold_len (l : List S46) : ∀ o, (l.foldl rS o).length ≤ o.length + l.length := by
  induction l with
  | nil => intro o; simp
  | cons x l ih => intro o; have h1 := ih (rS o x); have h2 := rS_len o x; simp only [List.foldl_cons, List.length_cons]; omega
theorem rsum_set (o : List S27) : ∀ (m : Nat) (g : S27), m < o.length → ((o.set m g).map (fun y => y.f1.length)).sum + (o.getD m z27).f1.length = (o.map (fun y => y.f1.length)).sum + g.f1.length := by
  induction o with
  | nil => intro m g h; simp at h
  | cons a o ih =>
    intro m g h
    cases m with
    | zero => simp; omega
    | succ m => have := ih m g (by simpa using h); simp at this ⊢; omega
theorem rS_sum (o : List S27) (x : S46) : ((rS o x).map (fun y => y.f1.length)).sum ≤ (o.map (fun y => y.f1.length)).sum + 1 := by
  unfold rS rAdd
  have h := rsum_set (rNew o x) ((rNew o x).length - 1) ⟨((rNew o x).getD ((rNew o x).length - 1) z27).f0, ((rNew o x).getD ((rNew o x).length - 1) z27).f1 ++ [x.f2.f4]⟩ (by have := rNew_pos o x; omega)
  have h2 : ((rNew o x).map (fun y => y.f1.length)).sum = (o.map (fun y => y.f1.length)).sum := by
    unfold rNew; split <;> simp
  rw [List.length_append] at h
  simp only [List.length_singleton] at h
  omega
theorem fold_sum (l : List S46) : ∀ o, ((l.foldl rS o).map (fun y => y.f1.length)).sum ≤ (o.map (fun y => y.f1.length)).sum + l.length := by
  induction l with
  | nil => intro o; simp
  | cons x l ih => intro o; have h1 := ih (rS o x); have h2 := rS_sum o x; simp only [List.foldl_cons, List.length_cons]; omega
theorem f1_sum (o : List S27) (m : Nat) : (o.getD m z27).f1.length ≤ (o.map (fun y => y.f1.length)).sum := by
  induction o generalizing m with
  | nil => simp [z27]
  | cons a o ih =>
    cases m with
    | zero => simp
    | succ m => have := ih m; simp at this ⊢; omega
theorem q_form {w W : World} {v : Value} {o : List S27} {m : Nat} (h : Kd.S k27 27 W w.heap.size (fun _ => True) v o) (hm : o.length = m + 1) : ∃ g cap, v = .slice (some ⟨g, 0, none⟩) (m + 1) cap ∧ w.heap.size ≤ g := by
  obtain ⟨g, cap, e, hg, _⟩ := Kd.S_form h (by omega)
  exact ⟨g, cap, by rw [e, hm], hg⟩
theorem q_ne {w W : World} {g n cap b : Nat} {o : List S27} {cs : Array Value} (h : Kd.S k27 27 W w.heap.size (fun _ => True) (.slice (some ⟨g, 0, none⟩) n cap) o) (hb : W.heap[b]? = some (.cells cs 37 (0, 0))) : b ≠ g := by
  rintro rfl
  obtain ⟨cells, hc⟩ := Kd.S_typed h b (by simp [Value.ownBlock])
  rw [hc] at hb
  injection hb with hb
  injection hb with _ hb _
  exact absurd hb (by decide)
theorem rS_old (o : List S27) (x : S46) (m : Nat) (hm : o.length = m + 1) (he : (o.getD m z27).f0 = x.f1) : rS o x = o.set m ⟨(o.getD m z27).f0, (o.getD m z27).f1 ++ [x.f2.f4]⟩ := by
  have h1 : o.length - 1 = m := by omega
  have h2 : rNew o x = o := by
    unfold rNew
    rw [h1, if_neg (fun h => h.elim (by omega) (fun h => h he))]
  unfold rS rAdd
  rw [h2, h1]
theorem rS_new (o : List S27) (x : S46) (h : o.length = 0 ∨ (o.getD (o.length - 1) z27).f0 ≠ x.f1) : rS o x = (o ++ [(⟨x.f1, []⟩ : S27)]).set o.length ⟨((o ++ [(⟨x.f1, []⟩ : S27)]).getD o.length z27).f0, ((o ++ [(⟨x.f1, []⟩ : S27)]).getD o.length z27).f1 ++ [x.f2.f4]⟩ := by
  have h2 : rNew o x = o ++ [⟨x.f1, []⟩] := by
    unfold rNew
    rw [if_pos h]
  unfold rS rAdd
  rw [h2, List.length_append, List.length_singleton, Nat.add_sub_cancel]
theorem q_lend {w W : World} {g cap m : Nat} {o : List S27} (hS : Kd.S k27 27 W w.heap.size (fun _ => True) (.slice (some ⟨g, 0, none⟩) (m + 1) cap) o) :
    ∃ oki vl, Kd.R (Kd.slice 5 (Kd.int .u8)) 42 W w.heap.size oki vl (o.getD m z27).f1 ∧ W.cell? ⟨g, m * 2, none⟩ = some (.int .i64 (o.getD m z27).f0) ∧ W.cell? ⟨g, m * 2 + 1, none⟩ = some vl ∧ Kd.H k27 27 W w.heap.size (fun _ => True) (.slice (some ⟨g, 0, none⟩) (m + 1) cap) o (m : Int) oki [.int .i64 (o.getD m z27).f0, vl] := by
  obtain ⟨oki, c, hcl, hM, hcc, hoki, hH⟩ := Kd.S_lend hS z27 (m : Int) (by omega) (by omega)
  rw [Int.toNat_natCast] at hM hcc
  obtain ⟨vl, rfl, hR⟩ := k27_openM hM
  exact ⟨oki, vl, hR, hcc 0 _ rfl, hcc 1 _ rfl, hH⟩
theorem q_at {w W : World} {g cap m : Nat} {o : List S27} {oki : Nat → Prop} {e vl : Value} (hH : Kd.H k27 27 W w.heap.size (fun _ => True) (.slice (some ⟨g, 0, none⟩) (m + 1) cap) o (m : Int) oki [e, vl]) : W.cell? ⟨g, m * 2 + 1, none⟩ = some vl ∧ W.frozen? ⟨g, m * 2 + 1, none⟩ = false := by
  obtain ⟨h1, h2⟩ := Kd.H_at hH (by omega) (by omega)
  have h3 := h1 1 vl rfl
  have h4 := h2 1
  rw [Int.toNat_natCast] at h3 h4
  exact ⟨h3, h4⟩
theorem q_put {w W : World} {g cap m : Nat} {o : List S27} {oki : Nat → Prop} {e : Int} {vl v1 : Value} {last : List (List Int)} (hH : Kd.H k27 27 W w.heap.size (fun _ => True) (.slice (some ⟨g, 0, none⟩) (m + 1) cap) o (m : Int) oki [.int .i64 e, vl]) (hR : Kd.R (Kd.slice 5 (Kd.int .u8)) 42 W w.heap.size oki v1 last) :
    Kd.S k27 27 (W.setCell ⟨g, m * 2 + 1, none⟩ v1) w.heap.size (fun _ => True) (.slice (some ⟨g, 0, none⟩) (m + 1) cap) (o.set m ⟨e, last⟩) ∧ W.grownBy (W.setCell ⟨g, m * 2 + 1, none⟩ v1) (some g) := by
  have h := Kd.S_seg0 hH (by omega) (by omega) (seg := [v1]) (j := 1) (Nat.le_refl 2) (x' := ⟨e, last⟩) (okp := oki) (k27_mkM _ _ _ ⟨e, last⟩ hR) (fun _ h => h)
  have e : (m : Int).toNat * k27.sz + 1 = m * 2 + 1 := by show (m : Int).toNat * 2 + 1 = m * 2 + 1; omega
  rw [e, Int.toNat_natCast] at h
  exact h


set_option maxHeartbeats 16000000 in
set_option maxRecDepth 100000 in
/-- The reference's Runs. -/
theorem refRuns.walk (A0 : Option Addr) (c0 : Nat) (l : List S46) (a1 a2 p0 p1 p2 p3 p4 p5 : Int) (w : World) (hr : Kd.C k46 w A0 l.length l) (hc : l.length ≤ c0) (hl : l.length ≤ 1000) (hbd : ∀ x ∈ l, x.f2.f4.length < 140737488355328) :
    Calls Try.prog 20 #[.slice A0 l.length c0, .int .i64 a1, .int .i64 a2, .agg #[.int .u8 p0, .int .u8 p1, .int .u8 p2, .int .u8 p3, .int .u8 p4, .int .u8 p5]] w fun e w' => ∃ v, e = .returned v ∧ Kd.R k27 27 w' w.heap.size (fun _ => True) v (refRunsL l a1 a2 p0 p1 p2 p3 p4 p5) ∧ Below w.heap.size w w' := by
  have HR := Aside0.mk hr
  have HL := Aside0.mk hl
  have HD := Aside0.mk hbd
  have HB := Aside0.mk (Below.refl w.heap.size w)
  clear hr hl hbd
  go_enter Try.func20, Try.ntmps20
  go_wp2_with fail
  go_loopw [9, 10] (fun v9 v10 wr => ∃ (i : Nat), i ≤ l.length ∧ v10 = .int .i64 i ∧ Aside0 (Kd.S k27 27 wr w.heap.size (fun _ => True) v9 (((l.take i).filter (mineR a1 a2 p0 p1 p2 p3 p4 p5)).foldl rS [])) ∧ Aside0 (wr.heap[w.heap.size]? = some (.cells #[.int .u8 p0, .int .u8 p1, .int .u8 p2, .int .u8 p3, .int .u8 p4, .int .u8 p5] 37 (0, 0))) ∧ Aside0 (Below w.heap.size w wr)) (fun _ v10 _ => l.length - (intOf v10).toNat)
  case atStart => exact ⟨0, Nat.zero_le _, rfl, ⟨Kd.S_nil _ _ _ _ _⟩, ⟨blk_new w _⟩, ⟨below_alloc HB.out _⟩⟩
  case round =>
    clear HB
    obtain ⟨i, hi, rfl, HS, HP, HB⟩ := hrel
    by_cases hlt : i < l.length
    case neg =>
      obtain rfl : i = l.length := by omega
      have hs := HS.out
      rw [List.take_length] at hs
      have HS2 := Aside0.mk hs
      clear hs HS
      go_wp2_with fail
      go_ret
      exact ⟨_, rfl, Kd.S_R HS2.out, HB.out⟩
    obtain ⟨ad, A1, c1, x, ead, hx, hq, hK⟩ := at_told46 HR.out i hlt
    cases ead
    have HLT := Aside0.mk hlt
    have HTF := Aside0.mk (take_filter (mineR a1 a2 p0 p1 p2 p3 p4 p5) l i x hx)
    have hfl : ((l.take i).filter (mineR a1 a2 p0 p1 p2 p3 p4 p5)).length ≤ 1000 := Nat.le_trans (List.length_filter_le _ _) (Nat.le_trans (List.length_take_le' _ _) HL.out)
    have hol := fold_len ((l.take i).filter (mineR a1 a2 p0 p1 p2 p3 p4 p5)) []
    have hos := fold_sum ((l.take i).filter (mineR a1 a2 p0 p1 p2 p3 p4 p5)) []
    generalize (l.take i).filter (mineR a1 a2 p0 p1 p2 p3 p4 p5) = acc at HS HTF hfl hol hos
    obtain ⟨-, -, -, -, -, hl1, hg1⟩ := open_told46 hK
    have HCX := Aside0.mk (And.intro hg1 hl1)
    have HCF := Aside0.mk (Lib.copy_ref x.f2.f4 (by have := HD.out x (List.mem_of_getElem? hx); omega) 0)
    obtain ⟨oo, hoo⟩ : ∃ oo, acc.foldl rS [] = oo := ⟨_, rfl⟩
    rw [hoo] at HS hol hos
    have HL2 := Aside0.mk (show oo.length ≤ 1000 by simp at hol; omega)
    have HSM := Aside0.mk (show (oo.map (fun y => y.f1.length)).sum ≤ 1000 by simp at hos; omega)
    have HOO := Aside0.mk hoo
    clear hol hos hfl hoo
    obtain ⟨q0, q1, q2, q3, q4, q5, q6, q7, q8, q9, q10, q11, q12⟩ := hq
    replace q0 := pw_cell_below HB.out q0
    replace q1 := pw_cell_below HB.out q1
    replace q2 := pw_cell_below HB.out q2
    replace q3 := pw_cell_below HB.out q3
    replace q4 := pw_cell_below HB.out q4
    replace q5 := pw_cell_below HB.out q5
    replace q6 := pw_cell_below HB.out q6
    replace q7 := pw_cell_below HB.out q7
    replace q8 := pw_cell_below HB.out q8
    replace q9 := pw_cell_below HB.out q9
    replace q10 := pw_cell_below HB.out q10
    replace q11 := pw_cell_below HB.out q11
    replace q12 := pw_cell_below HB.out q12
    have b0 : ∀ o, (wr.alloc o).cell? ⟨w.heap.size, 0, none⟩ = some (.int .u8 p0) := fun o => (blk_cell (blk_alloc HP.out o) 0).trans rfl
    have b1 : ∀ o, (wr.alloc o).cell? ⟨w.heap.size, 1, none⟩ = some (.int .u8 p1) := fun o => (blk_cell (blk_alloc HP.out o) 1).trans rfl
    have b2 : ∀ o, (wr.alloc o).cell? ⟨w.heap.size, 2, none⟩ = some (.int .u8 p2) := fun o => (blk_cell (blk_alloc HP.out o) 2).trans rfl
    have b3 : ∀ o, (wr.alloc o).cell? ⟨w.heap.size, 3, none⟩ = some (.int .u8 p3) := fun o => (blk_cell (blk_alloc HP.out o) 3).trans rfl
    have b4 : ∀ o, (wr.alloc o).cell? ⟨w.heap.size, 4, none⟩ = some (.int .u8 p4) := fun o => (blk_cell (blk_alloc HP.out o) 4).trans rfl
    have b5 : ∀ o, (wr.alloc o).cell? ⟨w.heap.size, 5, none⟩ = some (.int .u8 p5) := fun o => (blk_cell (blk_alloc HP.out o) 5).trans rfl
    have z0 : (wr.alloc (.cells #[.int .i64 x.f0, .int .i64 x.f1, .int .i64 x.f2.f0, .int .i64 x.f2.f1, .int .i64 x.f2.f2, .int .u8 x.f2.f3.f0, .int .u8 x.f2.f3.f1, .int .u8 x.f2.f3.f2, .int .u8 x.f2.f3.f3, .int .u8 x.f2.f3.f4, .int .u8 x.f2.f3.f5, .slice A1 x.f2.f4.length c1, .int .i64 x.f2.f5] 46 (0, 0))).cell? ⟨wr.heap.size, 0, none⟩ = some (.int .i64 x.f0) := (blk_cell (blk_new wr _) 0).trans rfl
    have z1 : (wr.alloc (.cells #[.int .i64 x.f0, .int .i64 x.f1, .int .i64 x.f2.f0, .int .i64 x.f2.f1, .int .i64 x.f2.f2, .int .u8 x.f2.f3.f0, .int .u8 x.f2.f3.f1, .int .u8 x.f2.f3.f2, .int .u8 x.f2.f3.f3, .int .u8 x.f2.f3.f4, .int .u8 x.f2.f3.f5, .slice A1 x.f2.f4.length c1, .int .i64 x.f2.f5] 46 (0, 0))).cell? ⟨wr.heap.size, 1, none⟩ = some (.int .i64 x.f1) := (blk_cell (blk_new wr _) 1).trans rfl
    have z2 : (wr.alloc (.cells #[.int .i64 x.f0, .int .i64 x.f1, .int .i64 x.f2.f0, .int .i64 x.f2.f1, .int .i64 x.f2.f2, .int .u8 x.f2.f3.f0, .int .u8 x.f2.f3.f1, .int .u8 x.f2.f3.f2, .int .u8 x.f2.f3.f3, .int .u8 x.f2.f3.f4, .int .u8 x.f2.f3.f5, .slice A1 x.f2.f4.length c1, .int .i64 x.f2.f5] 46 (0, 0))).cell? ⟨wr.heap.size, 2, none⟩ = some (.int .i64 x.f2.f0) := (blk_cell (blk_new wr _) 2).trans rfl
    have z3 : (wr.alloc (.cells #[.int .i64 x.f0, .int .i64 x.f1, .int .i64 x.f2.f0, .int .i64 x.f2.f1, .int .i64 x.f2.f2, .int .u8 x.f2.f3.f0, .int .u8 x.f2.f3.f1, .int .u8 x.f2.f3.f2, .int .u8 x.f2.f3.f3, .int .u8 x.f2.f3.f4, .int .u8 x.f2.f3.f5, .slice A1 x.f2.f4.length c1, .int .i64 x.f2.f5] 46 (0, 0))).cell? ⟨wr.heap.size, 3, none⟩ = some (.int .i64 x.f2.f1) := (blk_cell (blk_new wr _) 3).trans rfl
    have z4 : (wr.alloc (.cells #[.int .i64 x.f0, .int .i64 x.f1, .int .i64 x.f2.f0, .int .i64 x.f2.f1, .int .i64 x.f2.f2, .int .u8 x.f2.f3.f0, .int .u8 x.f2.f3.f1, .int .u8 x.f2.f3.f2, .int .u8 x.f2.f3.f3, .int .u8 x.f2.f3.f4, .int .u8 x.f2.f3.f5, .slice A1 x.f2.f4.length c1, .int .i64 x.f2.f5] 46 (0, 0))).cell? ⟨wr.heap.size, 4, none⟩ = some (.int .i64 x.f2.f2) := (blk_cell (blk_new wr _) 4).trans rfl
    have z5 : (wr.alloc (.cells #[.int .i64 x.f0, .int .i64 x.f1, .int .i64 x.f2.f0, .int .i64 x.f2.f1, .int .i64 x.f2.f2, .int .u8 x.f2.f3.f0, .int .u8 x.f2.f3.f1, .int .u8 x.f2.f3.f2, .int .u8 x.f2.f3.f3, .int .u8 x.f2.f3.f4, .int .u8 x.f2.f3.f5, .slice A1 x.f2.f4.length c1, .int .i64 x.f2.f5] 46 (0, 0))).cell? ⟨wr.heap.size, 5, none⟩ = some (.int .u8 x.f2.f3.f0) := (blk_cell (blk_new wr _) 5).trans rfl
    have z6 : (wr.alloc (.cells #[.int .i64 x.f0, .int .i64 x.f1, .int .i64 x.f2.f0, .int .i64 x.f2.f1, .int .i64 x.f2.f2, .int .u8 x.f2.f3.f0, .int .u8 x.f2.f3.f1, .int .u8 x.f2.f3.f2, .int .u8 x.f2.f3.f3, .int .u8 x.f2.f3.f4, .int .u8 x.f2.f3.f5, .slice A1 x.f2.f4.length c1, .int .i64 x.f2.f5] 46 (0, 0))).cell? ⟨wr.heap.size, 6, none⟩ = some (.int .u8 x.f2.f3.f1) := (blk_cell (blk_new wr _) 6).trans rfl
    have z7 : (wr.alloc (.cells #[.int .i64 x.f0, .int .i64 x.f1, .int .i64 x.f2.f0, .int .i64 x.f2.f1, .int .i64 x.f2.f2, .int .u8 x.f2.f3.f0, .int .u8 x.f2.f3.f1, .int .u8 x.f2.f3.f2, .int .u8 x.f2.f3.f3, .int .u8 x.f2.f3.f4, .int .u8 x.f2.f3.f5, .slice A1 x.f2.f4.length c1, .int .i64 x.f2.f5] 46 (0, 0))).cell? ⟨wr.heap.size, 7, none⟩ = some (.int .u8 x.f2.f3.f2) := (blk_cell (blk_new wr _) 7).trans rfl
    have z8 : (wr.alloc (.cells #[.int .i64 x.f0, .int .i64 x.f1, .int .i64 x.f2.f0, .int .i64 x.f2.f1, .int .i64 x.f2.f2, .int .u8 x.f2.f3.f0, .int .u8 x.f2.f3.f1, .int .u8 x.f2.f3.f2, .int .u8 x.f2.f3.f3, .int .u8 x.f2.f3.f4, .int .u8 x.f2.f3.f5, .slice A1 x.f2.f4.length c1, .int .i64 x.f2.f5] 46 (0, 0))).cell? ⟨wr.heap.size, 8, none⟩ = some (.int .u8 x.f2.f3.f3) := (blk_cell (blk_new wr _) 8).trans rfl
    have z9 : (wr.alloc (.cells #[.int .i64 x.f0, .int .i64 x.f1, .int .i64 x.f2.f0, .int .i64 x.f2.f1, .int .i64 x.f2.f2, .int .u8 x.f2.f3.f0, .int .u8 x.f2.f3.f1, .int .u8 x.f2.f3.f2, .int .u8 x.f2.f3.f3, .int .u8 x.f2.f3.f4, .int .u8 x.f2.f3.f5, .slice A1 x.f2.f4.length c1, .int .i64 x.f2.f5] 46 (0, 0))).cell? ⟨wr.heap.size, 9, none⟩ = some (.int .u8 x.f2.f3.f4) := (blk_cell (blk_new wr _) 9).trans rfl
    have z10 : (wr.alloc (.cells #[.int .i64 x.f0, .int .i64 x.f1, .int .i64 x.f2.f0, .int .i64 x.f2.f1, .int .i64 x.f2.f2, .int .u8 x.f2.f3.f0, .int .u8 x.f2.f3.f1, .int .u8 x.f2.f3.f2, .int .u8 x.f2.f3.f3, .int .u8 x.f2.f3.f4, .int .u8 x.f2.f3.f5, .slice A1 x.f2.f4.length c1, .int .i64 x.f2.f5] 46 (0, 0))).cell? ⟨wr.heap.size, 10, none⟩ = some (.int .u8 x.f2.f3.f5) := (blk_cell (blk_new wr _) 10).trans rfl
    have z11 : (wr.alloc (.cells #[.int .i64 x.f0, .int .i64 x.f1, .int .i64 x.f2.f0, .int .i64 x.f2.f1, .int .i64 x.f2.f2, .int .u8 x.f2.f3.f0, .int .u8 x.f2.f3.f1, .int .u8 x.f2.f3.f2, .int .u8 x.f2.f3.f3, .int .u8 x.f2.f3.f4, .int .u8 x.f2.f3.f5, .slice A1 x.f2.f4.length c1, .int .i64 x.f2.f5] 46 (0, 0))).cell? ⟨wr.heap.size, 11, none⟩ = some (.slice A1 x.f2.f4.length c1) := (blk_cell (blk_new wr _) 11).trans rfl
    have z12 : (wr.alloc (.cells #[.int .i64 x.f0, .int .i64 x.f1, .int .i64 x.f2.f0, .int .i64 x.f2.f1, .int .i64 x.f2.f2, .int .u8 x.f2.f3.f0, .int .u8 x.f2.f3.f1, .int .u8 x.f2.f3.f2, .int .u8 x.f2.f3.f3, .int .u8 x.f2.f3.f4, .int .u8 x.f2.f3.f5, .slice A1 x.f2.f4.length c1, .int .i64 x.f2.f5] 46 (0, 0))).cell? ⟨wr.heap.size, 12, none⟩ = some (.int .i64 x.f2.f5) := (blk_cell (blk_new wr _) 12).trans rfl
    clear hx hK hl1 hg1
    have hw1 : wrap64 ((i : Nat) + 1 : Int) = (i : Int) + 1 := by unfold wrap64; have := HL.out; omega
    cases h9 : (x.f2.f0 == 9) with
    | false =>
      have n9 : (x.f2.f0 != 9) = true := by rw [bne, h9]; rfl
      have HQF := Aside0.mk (show mineR a1 a2 p0 p1 p2 p3 p4 p5 x = false by unfold mineR; rw [h9]; rfl)
      go_wp2_with fail
      exact ⟨⟨i + 1, HLT.out, by go_num, ⟨by rw [HTF.out, HQF.out, if_neg (by decide), List.append_nil, HOO.out]; exact Kd.S_alloc HS.out _⟩, ⟨blk_alloc HP.out _⟩, ⟨below_alloc HB.out _⟩⟩, by rw [hw1]; exact meas HLT.out⟩
    | true =>
      have n9 : (x.f2.f0 != 9) = false := by rw [bne, h9]; rfl
      cases h1 : (x.f2.f1 == a1) with
      | false =>
        have n1 : (x.f2.f1 != a1) = true := by rw [bne, h1]; rfl
        have HQF := Aside0.mk (show mineR a1 a2 p0 p1 p2 p3 p4 p5 x = false by unfold mineR; rw [h9, h1]; rfl)
        go_wp2_with fail
        exact ⟨⟨i + 1, HLT.out, by go_num, ⟨by rw [HTF.out, HQF.out, if_neg (by decide), List.append_nil, HOO.out]; exact Kd.S_alloc HS.out _⟩, ⟨blk_alloc HP.out _⟩, ⟨below_alloc HB.out _⟩⟩, by rw [hw1]; exact meas HLT.out⟩
      | true =>
        have n1 : (x.f2.f1 != a1) = false := by rw [bne, h1]; rfl
        cases h2 : (x.f2.f2 == a2) with
        | false =>
          have n2 : (x.f2.f2 != a2) = true := by rw [bne, h2]; rfl
          have HQF := Aside0.mk (show mineR a1 a2 p0 p1 p2 p3 p4 p5 x = false by unfold mineR; rw [h9, h1, h2]; rfl)
          go_wp2_with fail
          exact ⟨⟨i + 1, HLT.out, by go_num, ⟨by rw [HTF.out, HQF.out, if_neg (by decide), List.append_nil, HOO.out]; exact Kd.S_alloc HS.out _⟩, ⟨blk_alloc HP.out _⟩, ⟨below_alloc HB.out _⟩⟩, by rw [hw1]; exact meas HLT.out⟩
        | true =>
          have n2 : (x.f2.f2 != a2) = false := by rw [bne, h2]; rfl
          cases h3 : (x.f2.f3.f0 == p0 && (x.f2.f3.f1 == p1 && (x.f2.f3.f2 == p2 && (x.f2.f3.f3 == p3 && (x.f2.f3.f4 == p4 && (x.f2.f3.f5 == p5)))))) with
          | false =>
            have hpe : ∀ d W, (Op.equalIn (d + 2) 37 (.agg #[.int .u8 x.f2.f3.f0, .int .u8 x.f2.f3.f1, .int .u8 x.f2.f3.f2, .int .u8 x.f2.f3.f3, .int .u8 x.f2.f3.f4, .int .u8 x.f2.f3.f5]) (.agg #[.int .u8 p0, .int .u8 p1, .int .u8 p2, .int .u8 p3, .int .u8 p4, .int .u8 p5])).run Try.prog W = .ok false W := fun d W => by rw [eqA37, h3]
            have HQF := Aside0.mk (show mineR a1 a2 p0 p1 p2 p3 p4 p5 x = false by unfold mineR; rw [h9, h1, h2, h3]; rfl)
            go_wp2_with fail
            exact ⟨⟨i + 1, HLT.out, by go_num, ⟨by rw [HTF.out, HQF.out, if_neg (by decide), List.append_nil, HOO.out]; exact Kd.S_alloc HS.out _⟩, ⟨blk_alloc HP.out _⟩, ⟨below_alloc HB.out _⟩⟩, by rw [hw1]; exact meas HLT.out⟩
          | true =>
            have hpe : ∀ d W, (Op.equalIn (d + 2) 37 (.agg #[.int .u8 x.f2.f3.f0, .int .u8 x.f2.f3.f1, .int .u8 x.f2.f3.f2, .int .u8 x.f2.f3.f3, .int .u8 x.f2.f3.f4, .int .u8 x.f2.f3.f5]) (.agg #[.int .u8 p0, .int .u8 p1, .int .u8 p2, .int .u8 p3, .int .u8 p4, .int .u8 p5])).run Try.prog W = .ok true W := fun d W => by rw [eqA37, h3]
            have HQT := Aside0.mk (show ((l.take (i + 1)).filter (mineR a1 a2 p0 p1 p2 p3 p4 p5)).foldl rS [] = rS oo x by rw [HTF.out, if_pos (show mineR a1 a2 p0 p1 p2 p3 p4 p5 x = true by unfold mineR; rw [h9, h1, h2, h3]; rfl), List.foldl_append, HOO.out]; rfl)
            clear HTF HOO
            have hpx := blk_new wr (.cells #[.int .i64 x.f0, .int .i64 x.f1, .int .i64 x.f2.f0, .int .i64 x.f2.f1, .int .i64 x.f2.f2, .int .u8 x.f2.f3.f0, .int .u8 x.f2.f3.f1, .int .u8 x.f2.f3.f2, .int .u8 x.f2.f3.f3, .int .u8 x.f2.f3.f4, .int .u8 x.f2.f3.f5, .slice A1 x.f2.f4.length c1, .int .i64 x.f2.f5] 46 (0, 0))
            have hsw := Kd.S_alloc HS.out (.cells #[.int .i64 x.f0, .int .i64 x.f1, .int .i64 x.f2.f0, .int .i64 x.f2.f1, .int .i64 x.f2.f2, .int .u8 x.f2.f3.f0, .int .u8 x.f2.f3.f1, .int .u8 x.f2.f3.f2, .int .u8 x.f2.f3.f3, .int .u8 x.f2.f3.f4, .int .u8 x.f2.f3.f5, .slice A1 x.f2.f4.length c1, .int .i64 x.f2.f5] 46 (0, 0))
            have hbw := below_alloc HB.out (.cells #[.int .i64 x.f0, .int .i64 x.f1, .int .i64 x.f2.f0, .int .i64 x.f2.f1, .int .i64 x.f2.f2, .int .u8 x.f2.f3.f0, .int .u8 x.f2.f3.f1, .int .u8 x.f2.f3.f2, .int .u8 x.f2.f3.f3, .int .u8 x.f2.f3.f4, .int .u8 x.f2.f3.f5, .slice A1 x.f2.f4.length c1, .int .i64 x.f2.f5] 46 (0, 0))
            have hpw := blk_alloc HP.out (.cells #[.int .i64 x.f0, .int .i64 x.f1, .int .i64 x.f2.f0, .int .i64 x.f2.f1, .int .i64 x.f2.f2, .int .u8 x.f2.f3.f0, .int .u8 x.f2.f3.f1, .int .u8 x.f2.f3.f2, .int .u8 x.f2.f3.f3, .int .u8 x.f2.f3.f4, .int .u8 x.f2.f3.f5, .slice A1 x.f2.f4.length c1, .int .i64 x.f2.f5] 46 (0, 0))
            have HBL := Aside0.mk (blk_lt HP.out)
            cases oo with
            | nil =>
              obtain ⟨Au, cu, rfl⟩ : ∃ A c, u9 = .slice A 0 c := Kd.S_slice HS.out
              go_wp2_with fail
              clear z0 q0 z1 q1 z2 q2 z3 q3 z4 q4 z5 q5 z6 q6 z7 q7 z8 q8 z9 q9 z10 q10 z11 q11 z12 q12 b0 b1 b2 b3 b4 b5
              generalize wr.alloc (.cells #[.int .i64 x.f0, .int .i64 x.f1, .int .i64 x.f2.f0, .int .i64 x.f2.f1, .int .i64 x.f2.f2, .int .u8 x.f2.f3.f0, .int .u8 x.f2.f3.f1, .int .u8 x.f2.f3.f2, .int .u8 x.f2.f3.f3, .int .u8 x.f2.f3.f4, .int .u8 x.f2.f3.f5, .slice A1 x.f2.f4.length c1, .int .i64 x.f2.f5] 46 (0, 0)) = W at hpx hsw hbw hpw ⊢
              generalize wr.heap.size = b at hpx HBL ⊢
              go_quiet (fail)
              generalize hwq : W.drewN _ = w3
              have HS3 := Aside0.mk (show Kd.S k27 27 w3 w.heap.size (fun _ => True) (.slice Au 0 cu) [] by rw [← hwq]; exact Kd.S_drewN hsw _)
              have HB3 := Aside0.mk (show Below w.heap.size w w3 by rw [← hwq]; exact pw_below_drewN hbw _)
              have HPX3 := Aside0.mk (show w3.heap[b]? = some (.cells #[.int .i64 x.f0, .int .i64 x.f1, .int .i64 x.f2.f0, .int .i64 x.f2.f1, .int .i64 x.f2.f2, .int .u8 x.f2.f3.f0, .int .u8 x.f2.f3.f1, .int .u8 x.f2.f3.f2, .int .u8 x.f2.f3.f3, .int .u8 x.f2.f3.f4, .int .u8 x.f2.f3.f5, .slice A1 x.f2.f4.length c1, .int .i64 x.f2.f5] 46 (0, 0)) by rw [← hwq]; exact hpx)
              have HP3 := Aside0.mk (show w3.heap[w.heap.size]? = some (.cells #[.int .u8 p0, .int .u8 p1, .int .u8 p2, .int .u8 p3, .int .u8 p4, .int .u8 p5] 37 (0, 0)) by rw [← hwq]; exact hpw)
              have z1 : w3.cell? ⟨b, 1, none⟩ = some (.int .i64 x.f1) := (blk_cell HPX3.out 1).trans rfl
              clear hwq hpx hsw hbw hpw HS HB HP
              obtain ⟨m, hm⟩ : ∃ m : Nat, m = 0 := ⟨0, rfl⟩
              have HMH := Aside0.mk hm
              have HM2 := Aside0.mk (show m ≤ 1000 by omega)
              have hv3 : wrap64 ((m : Nat) : Int) = (m : Int) := by unfold wrap64; omega
              have hv4 : IntKind.i64.wrap (((m : Nat) : Int) + 1 - 1) = (m : Int) := by rw [i64_w]; unfold wrap64; omega
              have hv5 : ((m : Int) < (m : Int) + 1) = True := eq_true (by omega)
              clear hm
              go_wp2_with (first | ((with_reducible refine gate_builtin (b := .append) (xs := #[.tmp 63, .tmp 67]) rfl ?_); at_builtin; refine Kd.S_append k27 (w0 := w) w.heap.size rfl (.tmp 63) (.tmp 67) 28 27 (.agg #[.int .i64 0, .slice none 0 0]) 32 rfl Try.underlying28 info27_ rfl (by decide) (by omega) (.slice Au 0 cu) [] (⟨x.f1, []⟩ : S27) [.int .i64 x.f1, .slice none 0 0] (fun _ => True) (fun _ => False) rfl rfl ?aP (fun _ hk => hk.elim) ?aF ?aO ?aB ?aS ?aL ?_; (case aP => exact k27_mkM _ _ _ ⟨x.f1, []⟩ (Kd.R_nil _ _ _ _ _)); (case aF => exact fun _ _ => trivial); (case aO => exact Kd.S_mono HS3.out (fun k hk => ⟨hk, fun h => h⟩)); (case aB => exact HB3.out); (case aS => exact HB3.out.size); (case aL => have := HL2.out; omega); intro v4 w4 ho hb hg hat; obtain ⟨g, cap, rfl, hgb⟩ := q_form ho (m := m) (by rw [HMH.out]; rfl); have hs4 := Aside0.mk ho; have HB4 := Aside0.mk hb; have HPX4 := Aside0.mk (blk_only_ (o := .cells #[] 0 (0, 0)) HPX3.out hg hat (Kd.S_typed HS3.out) (by decide)); have HP4 := Aside0.mk (blk_only_ (o := .cells #[] 0 (0, 0)) HP3.out hg hat (Kd.S_typed HS3.out) (by decide)); clear ho hb hg hat HS3 HB3 HPX3 HP3) | fail)
              have hs := hs4.out
              have HGB := Aside0.mk hgb
              have HGW := Aside0.mk (q_ne hs HP4.out)
              have HSQ := Aside0.mk hs
              have HBW := HB4
              have HPX := HPX4
              have HPW := HP4
              clear hs hgb hs4 HB4 HPX4 HP4
              have HQT2 := Aside0.mk (show _ = (([] : List S27) ++ [(⟨x.f1, []⟩ : S27)]).set m ⟨((([] : List S27) ++ [(⟨x.f1, []⟩ : S27)]).getD m z27).f0, ((([] : List S27) ++ [(⟨x.f1, []⟩ : S27)]).getD m z27).f1 ++ [x.f2.f4]⟩ from HQT.out.trans (by rw [HMH.out]; exact rS_new [] x (.inl rfl)))
              have HLM := Aside0.mk (show ((([] : List S27) ++ [(⟨x.f1, []⟩ : S27)]).getD m z27).f1.length ≤ 1000 by rw [HMH.out]; exact Nat.zero_le _)
              clear HQT HMH
              generalize ([] : List S27) ++ [(⟨x.f1, []⟩ : S27)] = o at HSQ HQT2 HLM
              have hw3 : wrap64 ((m : Nat) : Int) = (m : Int) := by unfold wrap64; have := HM2.out; omega
              have hw4 : IntKind.i64.wrap (((m : Nat) : Int) + 1 - 1) = (m : Int) := by rw [i64_w]; unfold wrap64; have := HM2.out; omega
              have hw5 : ((m : Int) < (m : Int) + 1) = True := eq_true (by omega)
              try go_wp2_with fail
              obtain ⟨oki, vl, hR, -, -, hH⟩ := q_lend HSQ.out
              have HRV := Aside0.mk hR
              have HVL := Aside0.mk (Kd.R_lt hR)
              have HH := Aside0.mk (Kd.H_widen hH)
              have HCW := Aside0.mk (Kd.C_below HCX.out.1 HBW.out)
              clear hR hH HSQ
              refine start_ (n := 16) (S := fun w' => w'.cell? ⟨g, m * 2 + 1, none⟩ = some vl ∧ w'.cell? ⟨b, 11, none⟩ = some (.slice A1 x.f2.f4.length c1)) (ds := [12, 15]) #[false, false, false, false, false, false, false, false, false, false, false, false, false, false, false, false] (by kernel_rfl) rfl rfl ⟨(q_at HH.out).1, (blk_cell HPX.out 11).trans rfl⟩ (fun hHeld => ?_)
              refine pure_ (i := 0) (N := some 72) (v := ?_) (a' := ?_) #[true, false, false, false, false, false, false, false, false, false, false, false, false, false, false, false] rfl rfl (by kernel_rfl) (fun _ _ _ h => h) (Or.inl ⟨by rfl, ?_⟩) ?_ ?_
              rotate_left
              · intro w'
                go_simp
                with_reducible rfl
              rotate_left
              · simp only [Act.put, List.setIfInBounds_toArray, List.set_cons_zero, List.set_cons_succ, i64_w, i32_w]
                rfl
              refine pure_ (i := 1) (N := some 73) (v := ?_) (a' := ?_) #[true, true, false, false, false, false, false, false, false, false, false, false, false, false, false, false] rfl rfl (by kernel_rfl) (fun _ _ _ h => h) (Or.inl ⟨by rfl, ?_⟩) ?_ ?_
              rotate_left
              · intro w'
                go_simp
                with_reducible rfl
              rotate_left
              · simp only [Act.put, List.setIfInBounds_toArray, List.set_cons_zero, List.set_cons_succ, i64_w, i32_w]
                rfl
              refine pure_ (i := 2) (N := some 74) (v := ?_) (a' := ?_) #[true, true, true, false, false, false, false, false, false, false, false, false, false, false, false, false] rfl rfl (by kernel_rfl) (fun _ _ _ h => h) (Or.inl ⟨by rfl, ?_⟩) ?_ ?_
              rotate_left
              · intro w'
                go_simp
                with_reducible rfl
              rotate_left
              · simp only [Act.put, List.setIfInBounds_toArray, List.set_cons_zero, List.set_cons_succ, i64_w, i32_w]
                rfl
              refine pure_ (i := 3) (N := some 75) (v := ?_) (a' := ?_) #[true, true, true, true, false, false, false, false, false, false, false, false, false, false, false, false] rfl rfl (by kernel_rfl) (fun _ _ _ h => h) (Or.inl ⟨by rfl, ?_⟩) ?_ ?_
              rotate_left
              · intro w'
                go_simp
                with_reducible rfl
              rotate_left
              · simp only [Act.put, List.setIfInBounds_toArray, List.set_cons_zero, List.set_cons_succ, i64_w, i32_w]
                rfl
              refine pure_ (i := 4) (N := some 76) (v := ?_) (a' := ?_) #[true, true, true, true, true, false, false, false, false, false, false, false, false, false, false, false] rfl rfl (by kernel_rfl) (fun _ _ _ h => h) (Or.inl ⟨by rfl, ?_⟩) ?_ ?_
              rotate_left
              · intro w'
                go_simp
                with_reducible rfl
              rotate_left
              · simp only [Act.put, List.setIfInBounds_toArray, List.set_cons_zero, List.set_cons_succ, i64_w, i32_w]
                rfl
              refine pure_ (i := 5) (N := some 77) (v := ?_) (a' := ?_) #[true, true, true, true, true, true, false, false, false, false, false, false, false, false, false, false] rfl rfl (by kernel_rfl) (fun _ _ _ h => h) (Or.inl ⟨by rfl, ?_⟩) ?_ ?_
              rotate_left
              · intro w'
                go_simp
                with_reducible rfl
              rotate_left
              · simp only [Act.put, List.setIfInBounds_toArray, List.set_cons_zero, List.set_cons_succ, i64_w, i32_w]
                rfl
              refine pure_ (i := 7) (N := some 79) (v := ?_) (a' := ?_) #[true, true, true, true, true, true, false, true, false, false, false, false, false, false, false, false] rfl rfl (by kernel_rfl) (fun _ _ _ h => h) (Or.inl ⟨by rfl, ?_⟩) ?_ ?_
              rotate_left
              · intro w'
                go_simp
                with_reducible rfl
              rotate_left
              · simp only [Act.put, List.setIfInBounds_toArray, List.set_cons_zero, List.set_cons_succ, i64_w, i32_w]
                rfl
              refine pure_ (i := 8) (N := some 80) (v := ?_) (a' := ?_) #[true, true, true, true, true, true, false, true, true, false, false, false, false, false, false, false] rfl rfl (by kernel_rfl) (fun _ _ _ h => h) (Or.inl ⟨by rfl, ?_⟩) ?_ ?_
              rotate_left
              · intro w'
                go_simp
                with_reducible rfl
              rotate_left
              · simp only [Act.put, List.setIfInBounds_toArray, List.set_cons_zero, List.set_cons_succ, i64_w, i32_w]
                rfl
              refine take_ (i := 6) (N := some 78) (v := ?_) (a' := ?_) #[true, true, true, true, true, true, true, true, true, false, false, false, false, false, false, false] rfl rfl (by kernel_rfl) (fun _ _ _ h => h) (Or.inl ⟨by rfl, ?_⟩) hHeld ?_ ?_
              rotate_left
              · rintro w' ⟨s0, s1⟩
                go_simp
                with_reducible rfl
              rotate_left
              · simp only [Act.put, List.setIfInBounds_toArray, List.set_cons_zero, List.set_cons_succ, i64_w, i32_w]
                rfl
              refine take_ (i := 9) (N := some 81) (v := ?_) (a' := ?_) #[true, true, true, true, true, true, true, true, true, true, false, false, false, false, false, false] rfl rfl (by kernel_rfl) (fun _ _ _ h => h) (Or.inl ⟨by rfl, ?_⟩) hHeld ?_ ?_
              rotate_left
              · rintro w' ⟨s0, s1⟩
                go_simp
                with_reducible rfl
              rotate_left
              · simp only [Act.put, List.setIfInBounds_toArray, List.set_cons_zero, List.set_cons_succ, i64_w, i32_w]
                rfl
              refine one_ (i := 10) (N := some 82) #[true, true, true, true, true, true, true, true, true, true, true, false, false, false, false, false] rfl rfl (by kernel_rfl) (by decide) (fun K hK => ?_)
              refine goes_ Try.func27 (by kernel_rfl) rfl #[.slice A1 x.f2.f4.length c1] (by rfl) rfl rfl (by simp only [List.map_toArray, List.map_cons, List.map_nil]; rfl) ?_
              with_reducible refine (antiphonref1_Copy.calls _ A1 c1 x.f2.f4 x.f2.f4 _ (by (repeat (with_reducible first | exact HCW.out | apply Kd.C_drewN | apply Kd.C_drew))) HCX.out.2 HCF.out).mono ?_
              rintro e w5 ⟨v77, rfl, hR, hb⟩
              refine ⟨_, rfl, ?_⟩
              obtain ⟨A7, c7, rfl⟩ := Kd.R_slice hR
              have HR7 := Aside0.mk (show Kd.R (Kd.int .u8) 5 w5 w.heap.size (fun k => w4.heap.size ≤ k) (.slice A7 x.f2.f4.length c7) x.f2.f4 from Kd.R_lower (Kd.R_mono (Kd.R_bound hR) (fun k hk => hk.2.1)) HBW.out.size)
              have HRV5 := Aside0.mk (Kd.R_below (by (repeat (with_reducible first | exact HRV.out | apply Kd.R_drewN | apply Kd.R_drew))) hb)
              have HB5 := Aside0.mk (below_step (by (repeat (with_reducible first | exact HBW.out | apply pw_below_drewN | apply below_drew1 | apply below_drew))) hb)
              have HH5 := Aside0.mk (Kd.H_below (by (repeat (with_reducible first | exact HH.out | apply Kd.H_drewN | apply Kd.H_drew))) hb)
              have HPX5 := Aside0.mk (blk_below (g := b) (o := .cells #[.int .i64 x.f0, .int .i64 x.f1, .int .i64 x.f2.f0, .int .i64 x.f2.f1, .int .i64 x.f2.f2, .int .u8 x.f2.f3.f0, .int .u8 x.f2.f3.f1, .int .u8 x.f2.f3.f2, .int .u8 x.f2.f3.f3, .int .u8 x.f2.f3.f4, .int .u8 x.f2.f3.f5, .slice A1 x.f2.f4.length c1, .int .i64 x.f2.f5] 46 (0, 0)) (by (with_reducible repeat (first | refine blk_drewN ?_ _ | refine blk_drew ?_)); exact HPX.out) hb)
              have HP5 := Aside0.mk (blk_below (g := w.heap.size) (o := .cells #[.int .u8 p0, .int .u8 p1, .int .u8 p2, .int .u8 p3, .int .u8 p4, .int .u8 p5] 37 (0, 0)) (by (with_reducible repeat (first | refine blk_drewN ?_ _ | refine blk_drew ?_)); exact HPW.out) hb)
              have HSZ5 := Aside0.mk (show w4.heap.size ≤ w5.heap.size from hb.size)
              clear hR hb HRV HBW HH HPX HPW HCW
              refine hK.out _ _ ⟨(q_at HH5.out).1, (blk_cell HPX5.out 11).trans rfl⟩ (fun hHeld => ?_)
              clear hK K
              refine norm_ (a' := ?_) ?_ ?_
              rotate_left
              · show Act.put _ (some 82) _ = _
                simp only [Act.put, List.setIfInBounds_toArray, List.set_cons_zero, List.set_cons_succ, i64_w, i32_w]
                rfl
              refine one_ (i := 11) (N := some 83) #[true, true, true, true, true, true, true, true, true, true, true, true, false, false, false, false] rfl rfl (by kernel_rfl) (by decide) (fun K hK => ?_)
              have hh0 := hHeld
              refine value_ (w1 := ?_) (v := ?_) (by rfl) rfl ?_ ?_
              rotate_left 2
              · go_simp
                constructor
                · rfl
                · rfl
              refine hK.out _ _ ⟨pw_cell_below (below_alloc (Below.refl _ _) _) (hh0.1), pw_cell_below (below_alloc (Below.refl _ _) _) (hh0.2)⟩ (fun hHeld => ?_)
              clear hK K
              refine norm_ (a' := ?_) ?_ ?_
              rotate_left
              · show Act.put _ (some 83) _ = _
                simp only [Act.put, List.setIfInBounds_toArray, List.set_cons_zero, List.set_cons_succ, i64_w, i32_w]
                rfl
              refine last_ (i := 12) (N := some 84) #[true, true, true, true, true, true, true, true, true, true, true, true, true, false, false, false] rfl rfl (by kernel_rfl) (by decide) (fun K hK => ?_)
              try rw [drew_alloc_]
              refine Kd.R_append_step (Kd.slice 5 (Kd.int .u8)) (w0 := w) w.heap.size (by rfl) (.tmp 78) (.tmp 83) 22 42 (.slice none 0 0) 24 rfl Try.underlying22 info42_ rfl (by decide) (by omega) vl (o.getD m z27).f1 x.f2.f4 [.slice A7 x.f2.f4.length c7] (fun k => oki k ∨ True ∧ w4.heap.size ≤ k) (fun k => w4.heap.size ≤ k) rfl rfl ?aP ?aK ?aF ?aO ?aB ?aS ?aL ?_
              (case aP => exact ⟨_, rfl, (by (repeat (with_reducible first | exact HR7.out | apply Kd.R_drewN | apply Kd.R_drew)))⟩)
              (case aK => exact fun k hk => ⟨Or.inr ⟨trivial, hk⟩, fun he => by have := HVL.out k he.symm; omega⟩)
              (case aF => exact fun k hk => Or.inr ⟨trivial, by have h2 := HSZ5.out; have h3 : w5.heap.size ≤ k := hk; omega⟩)
              (case aO => exact Kd.R_mono (by (repeat (with_reducible first | exact HRV5.out | apply Kd.R_drewN | apply Kd.R_drew))) (fun _ h => Or.inl h))
              (case aB => exact (by (repeat (with_reducible first | exact HB5.out | apply pw_below_drewN | apply below_drew1 | apply below_drew))))
              (case aS => exact below_size (by (repeat (with_reducible first | exact HB5.out | apply pw_below_drewN | apply below_drew1 | apply below_drew))))
              (case aL => have := HLM.out; omega)
              intro v1 w7 ho hb hg hat
              obtain ⟨Av, nv, cv, rfl⟩ : ∃ A n c, v1 = .slice A n c := by obtain ⟨A, c, e⟩ := Kd.R_slice ho; exact ⟨A, _, c, e⟩
              have HO7 := Aside0.mk ho
              have HB7 := Aside0.mk hb
              have HH7 := Aside0.mk (Kd.H_grown (by (repeat (with_reducible first | exact HH5.out | apply Kd.H_drewN | apply Kd.H_drew))) hg (fun k hk => Or.inl (HRV5.out.1 k hk)))
              have HP7 := Aside0.mk (blk_only_ (o := .cells #[] 0 (0, 0)) (by (with_reducible repeat (first | refine blk_drewN ?_ _ | refine blk_drew ?_)); exact HP5.out) hg hat (Kd.R_typed (by (repeat (with_reducible first | exact HRV5.out | apply Kd.R_drewN | apply Kd.R_drew)))) (by decide))
              have hc1 := (q_at HH7.out).1
              have hf1 := (q_at HH7.out).2
              clear ho hb hg hat HR7 HRV5 HB5 HH5 HPX5 HP5
              refine hK.out _ _ ?_
              clear hK K
              refine norm_ (a' := ?_) ?_ ?_
              rotate_left
              · show Act.put _ (some 84) _ = _
                simp only [Act.put, List.setIfInBounds_toArray, List.set_cons_zero, List.set_cons_succ, i64_w, i32_w]
                rfl
              refine pure_ (i := 13) (N := some 85) (v := ?_) (a' := ?_) #[true, true, true, true, true, true, true, true, true, true, true, true, true, true, false, false] rfl rfl (by kernel_rfl) (fun _ _ _ h => h) (Or.inl ⟨by rfl, ?_⟩) ?_ ?_
              rotate_left
              · intro w'
                go_simp
                with_reducible rfl
              rotate_left
              · simp only [Act.put, List.setIfInBounds_toArray, List.set_cons_zero, List.set_cons_succ, i64_w, i32_w]
                rfl
              refine pure_ (i := 14) (N := some 86) (v := ?_) (a' := ?_) #[true, true, true, true, true, true, true, true, true, true, true, true, true, true, true, false] rfl rfl (by kernel_rfl) (fun _ _ _ h => h) (Or.inl ⟨by rfl, ?_⟩) ?_ ?_
              rotate_left
              · intro w'
                go_simp
                with_reducible rfl
              rotate_left
              · simp only [Act.put, List.setIfInBounds_toArray, List.set_cons_zero, List.set_cons_succ, i64_w, i32_w]
                rfl
              refine last_ (i := 15) (N := none) #[true, true, true, true, true, true, true, true, true, true, true, true, true, true, true, true] rfl rfl (by kernel_rfl) (by decide) (fun K hK => ?_)
              refine skip_ (w1 := ?_) (by rfl) rfl ?_ ?_
              rotate_left
              · go_simp
                rfl
              refine hK.out _ _ ?_
              clear hK K
              refine done_ (by kernel_rfl) ?_
              have HQ9 := q_put (o := o) (last := (o.getD m z27).f1 ++ [x.f2.f4]) HH7.out HO7.out
              have HPS := Aside0.mk HQ9.1
              have HPB := Aside0.mk (show Below w.heap.size w _ from HB7.out.grown HQ9.2 HB7.out.size (fun k hk => by cases hk; exact HGB.out))
              have HPP := Aside0.mk (blk_grown HP7.out HQ9.2 (fun he => HGW.out (by injection he)))
              clear HQ9 HO7 HH7 HB7 HP7
              go_wp2_with fail
              exact ⟨⟨i + 1, HLT.out, by go_num, ⟨by rw [HQT2.out]; exact HPS.out⟩, HPP, HPB⟩, by rw [hw1]; exact meas HLT.out⟩
            | cons y oo' =>
              obtain ⟨m, hm⟩ : ∃ m, (y :: oo').length = m + 1 := ⟨oo'.length, rfl⟩
              generalize y :: oo' = oo at *
              obtain ⟨g, cap, rfl, hgb⟩ := q_form HS.out hm
              have hw3 : wrap64 ((m : Nat) : Int) = (m : Int) := by unfold wrap64; have := HL2.out; omega
              have hw4 : IntKind.i64.wrap (((m : Nat) : Int) + 1 - 1) = (m : Int) := by rw [i64_w]; unfold wrap64; have := HL2.out; omega
              have hw5 : ((m : Int) < (m : Int) + 1) = True := eq_true (by omega)
              have hw6 : (((m : Nat) : Int) + 1 == 0) = false := beq_eq_false_iff_ne.mpr (by omega)
              have HM0 := Aside0.mk (show m ≤ 1000 by have := HL2.out; omega)
              have HGB := Aside0.mk hgb
              have HGW := Aside0.mk (q_ne HS.out HP.out)
              go_wp2_with fail
              clear z0 q0 z1 q1 z2 q2 z3 q3 z4 q4 z5 q5 z6 q6 z7 q7 z8 q8 z9 q9 z10 q10 z11 q11 z12 q12 b0 b1 b2 b3 b4 b5
              generalize wr.alloc (.cells #[.int .i64 x.f0, .int .i64 x.f1, .int .i64 x.f2.f0, .int .i64 x.f2.f1, .int .i64 x.f2.f2, .int .u8 x.f2.f3.f0, .int .u8 x.f2.f3.f1, .int .u8 x.f2.f3.f2, .int .u8 x.f2.f3.f3, .int .u8 x.f2.f3.f4, .int .u8 x.f2.f3.f5, .slice A1 x.f2.f4.length c1, .int .i64 x.f2.f5] 46 (0, 0)) = W at hpx hsw hbw hpw ⊢
              generalize wr.heap.size = b at hpx HBL ⊢
              have HSW := Aside0.mk hsw
              have HBW0 := Aside0.mk hbw
              have HPX0 := Aside0.mk hpx
              have HPW0 := Aside0.mk hpw
              clear hpx hsw hbw hpw HS HB HP hgb
              obtain ⟨-, -, -, hep, -, -⟩ := q_lend HSW.out
              have z1 : W.cell? ⟨b, 1, none⟩ = some (.int .i64 x.f1) := (blk_cell HPX0.out 1).trans rfl
              have HEE := Aside0.mk (Classical.em ((oo.getD m z27).f0 = x.f1))
              obtain ⟨ee, hee⟩ : ∃ ee, (oo.getD m z27).f0 = ee := ⟨_, rfl⟩
              rw [hee] at hep HEE
              have HEX := Aside0.mk hee
              clear hee
              go_quiet (fail)
              generalize hwq : W.drewN _ = w3
              have HS3 := Aside0.mk (show Kd.S k27 27 w3 w.heap.size (fun _ => True) (.slice (some ⟨g, 0, none⟩) (m + 1) cap) oo by rw [← hwq]; exact Kd.S_drewN HSW.out _)
              have HB3 := Aside0.mk (show Below w.heap.size w w3 by rw [← hwq]; exact pw_below_drewN HBW0.out _)
              have HPX3 := Aside0.mk (show w3.heap[b]? = some (.cells #[.int .i64 x.f0, .int .i64 x.f1, .int .i64 x.f2.f0, .int .i64 x.f2.f1, .int .i64 x.f2.f2, .int .u8 x.f2.f3.f0, .int .u8 x.f2.f3.f1, .int .u8 x.f2.f3.f2, .int .u8 x.f2.f3.f3, .int .u8 x.f2.f3.f4, .int .u8 x.f2.f3.f5, .slice A1 x.f2.f4.length c1, .int .i64 x.f2.f5] 46 (0, 0)) by rw [← hwq]; exact HPX0.out)
              have HP3 := Aside0.mk (show w3.heap[w.heap.size]? = some (.cells #[.int .u8 p0, .int .u8 p1, .int .u8 p2, .int .u8 p3, .int .u8 p4, .int .u8 p5] 37 (0, 0)) by rw [← hwq]; exact HPW0.out)
              clear z1 hep hwq HSW HBW0 HPX0 HPW0
              have z1 : w3.cell? ⟨b, 1, none⟩ = some (.int .i64 x.f1) := (blk_cell HPX3.out 1).trans rfl
              rcases HEE.out with he | he
              · have e3 : (ee != x.f1) = false := by rw [he]; exact bne_self_eq_false _
                rw [e3]
                have HSQ := HS3
                have HBW := HB3
                have HPX := HPX3
                have HPW := HP3
                have HM2 := HM0
                have HLM := Aside0.mk (Nat.le_trans (f1_sum oo m) HSM.out)
                have HQT2 := Aside0.mk (HQT.out.trans (rS_old oo x m hm (HEX.out.trans he)))
                clear z1 HS3 HB3 HPX3 HP3 HM0 HSM HL2 HQT HEX HEE he e3
                generalize oo = o at HSQ HLM HQT2
                have hw3 : wrap64 ((m : Nat) : Int) = (m : Int) := by unfold wrap64; have := HM2.out; omega
                have hw4 : IntKind.i64.wrap (((m : Nat) : Int) + 1 - 1) = (m : Int) := by rw [i64_w]; unfold wrap64; have := HM2.out; omega
                have hw5 : ((m : Int) < (m : Int) + 1) = True := eq_true (by omega)
                try go_wp2_with fail
                obtain ⟨oki, vl, hR, -, -, hH⟩ := q_lend HSQ.out
                have HRV := Aside0.mk hR
                have HVL := Aside0.mk (Kd.R_lt hR)
                have HH := Aside0.mk (Kd.H_widen hH)
                have HCW := Aside0.mk (Kd.C_below HCX.out.1 HBW.out)
                clear hR hH HSQ
                refine start_ (n := 16) (S := fun w' => w'.cell? ⟨g, m * 2 + 1, none⟩ = some vl ∧ w'.cell? ⟨b, 11, none⟩ = some (.slice A1 x.f2.f4.length c1)) (ds := [12, 15]) #[false, false, false, false, false, false, false, false, false, false, false, false, false, false, false, false] (by kernel_rfl) rfl rfl ⟨(q_at HH.out).1, (blk_cell HPX.out 11).trans rfl⟩ (fun hHeld => ?_)
                refine pure_ (i := 0) (N := some 72) (v := ?_) (a' := ?_) #[true, false, false, false, false, false, false, false, false, false, false, false, false, false, false, false] rfl rfl (by kernel_rfl) (fun _ _ _ h => h) (Or.inl ⟨by rfl, ?_⟩) ?_ ?_
                rotate_left
                · intro w'
                  go_simp
                  with_reducible rfl
                rotate_left
                · simp only [Act.put, List.setIfInBounds_toArray, List.set_cons_zero, List.set_cons_succ, i64_w, i32_w]
                  rfl
                refine pure_ (i := 1) (N := some 73) (v := ?_) (a' := ?_) #[true, true, false, false, false, false, false, false, false, false, false, false, false, false, false, false] rfl rfl (by kernel_rfl) (fun _ _ _ h => h) (Or.inl ⟨by rfl, ?_⟩) ?_ ?_
                rotate_left
                · intro w'
                  go_simp
                  with_reducible rfl
                rotate_left
                · simp only [Act.put, List.setIfInBounds_toArray, List.set_cons_zero, List.set_cons_succ, i64_w, i32_w]
                  rfl
                refine pure_ (i := 2) (N := some 74) (v := ?_) (a' := ?_) #[true, true, true, false, false, false, false, false, false, false, false, false, false, false, false, false] rfl rfl (by kernel_rfl) (fun _ _ _ h => h) (Or.inl ⟨by rfl, ?_⟩) ?_ ?_
                rotate_left
                · intro w'
                  go_simp
                  with_reducible rfl
                rotate_left
                · simp only [Act.put, List.setIfInBounds_toArray, List.set_cons_zero, List.set_cons_succ, i64_w, i32_w]
                  rfl
                refine pure_ (i := 3) (N := some 75) (v := ?_) (a' := ?_) #[true, true, true, true, false, false, false, false, false, false, false, false, false, false, false, false] rfl rfl (by kernel_rfl) (fun _ _ _ h => h) (Or.inl ⟨by rfl, ?_⟩) ?_ ?_
                rotate_left
                · intro w'
                  go_simp
                  with_reducible rfl
                rotate_left
                · simp only [Act.put, List.setIfInBounds_toArray, List.set_cons_zero, List.set_cons_succ, i64_w, i32_w]
                  rfl
                refine pure_ (i := 4) (N := some 76) (v := ?_) (a' := ?_) #[true, true, true, true, true, false, false, false, false, false, false, false, false, false, false, false] rfl rfl (by kernel_rfl) (fun _ _ _ h => h) (Or.inl ⟨by rfl, ?_⟩) ?_ ?_
                rotate_left
                · intro w'
                  go_simp
                  with_reducible rfl
                rotate_left
                · simp only [Act.put, List.setIfInBounds_toArray, List.set_cons_zero, List.set_cons_succ, i64_w, i32_w]
                  rfl
                refine pure_ (i := 5) (N := some 77) (v := ?_) (a' := ?_) #[true, true, true, true, true, true, false, false, false, false, false, false, false, false, false, false] rfl rfl (by kernel_rfl) (fun _ _ _ h => h) (Or.inl ⟨by rfl, ?_⟩) ?_ ?_
                rotate_left
                · intro w'
                  go_simp
                  with_reducible rfl
                rotate_left
                · simp only [Act.put, List.setIfInBounds_toArray, List.set_cons_zero, List.set_cons_succ, i64_w, i32_w]
                  rfl
                refine pure_ (i := 7) (N := some 79) (v := ?_) (a' := ?_) #[true, true, true, true, true, true, false, true, false, false, false, false, false, false, false, false] rfl rfl (by kernel_rfl) (fun _ _ _ h => h) (Or.inl ⟨by rfl, ?_⟩) ?_ ?_
                rotate_left
                · intro w'
                  go_simp
                  with_reducible rfl
                rotate_left
                · simp only [Act.put, List.setIfInBounds_toArray, List.set_cons_zero, List.set_cons_succ, i64_w, i32_w]
                  rfl
                refine pure_ (i := 8) (N := some 80) (v := ?_) (a' := ?_) #[true, true, true, true, true, true, false, true, true, false, false, false, false, false, false, false] rfl rfl (by kernel_rfl) (fun _ _ _ h => h) (Or.inl ⟨by rfl, ?_⟩) ?_ ?_
                rotate_left
                · intro w'
                  go_simp
                  with_reducible rfl
                rotate_left
                · simp only [Act.put, List.setIfInBounds_toArray, List.set_cons_zero, List.set_cons_succ, i64_w, i32_w]
                  rfl
                refine take_ (i := 6) (N := some 78) (v := ?_) (a' := ?_) #[true, true, true, true, true, true, true, true, true, false, false, false, false, false, false, false] rfl rfl (by kernel_rfl) (fun _ _ _ h => h) (Or.inl ⟨by rfl, ?_⟩) hHeld ?_ ?_
                rotate_left
                · rintro w' ⟨s0, s1⟩
                  go_simp
                  with_reducible rfl
                rotate_left
                · simp only [Act.put, List.setIfInBounds_toArray, List.set_cons_zero, List.set_cons_succ, i64_w, i32_w]
                  rfl
                refine take_ (i := 9) (N := some 81) (v := ?_) (a' := ?_) #[true, true, true, true, true, true, true, true, true, true, false, false, false, false, false, false] rfl rfl (by kernel_rfl) (fun _ _ _ h => h) (Or.inl ⟨by rfl, ?_⟩) hHeld ?_ ?_
                rotate_left
                · rintro w' ⟨s0, s1⟩
                  go_simp
                  with_reducible rfl
                rotate_left
                · simp only [Act.put, List.setIfInBounds_toArray, List.set_cons_zero, List.set_cons_succ, i64_w, i32_w]
                  rfl
                refine one_ (i := 10) (N := some 82) #[true, true, true, true, true, true, true, true, true, true, true, false, false, false, false, false] rfl rfl (by kernel_rfl) (by decide) (fun K hK => ?_)
                refine goes_ Try.func27 (by kernel_rfl) rfl #[.slice A1 x.f2.f4.length c1] (by rfl) rfl rfl (by simp only [List.map_toArray, List.map_cons, List.map_nil]; rfl) ?_
                with_reducible refine (antiphonref1_Copy.calls _ A1 c1 x.f2.f4 x.f2.f4 _ (by (repeat (with_reducible first | exact HCW.out | apply Kd.C_drewN | apply Kd.C_drew))) HCX.out.2 HCF.out).mono ?_
                rintro e w5 ⟨v77, rfl, hR, hb⟩
                refine ⟨_, rfl, ?_⟩
                obtain ⟨A7, c7, rfl⟩ := Kd.R_slice hR
                have HR7 := Aside0.mk (show Kd.R (Kd.int .u8) 5 w5 w.heap.size (fun k => w3.heap.size ≤ k) (.slice A7 x.f2.f4.length c7) x.f2.f4 from Kd.R_lower (Kd.R_mono (Kd.R_bound hR) (fun k hk => hk.2.1)) HBW.out.size)
                have HRV5 := Aside0.mk (Kd.R_below (by (repeat (with_reducible first | exact HRV.out | apply Kd.R_drewN | apply Kd.R_drew))) hb)
                have HB5 := Aside0.mk (below_step (by (repeat (with_reducible first | exact HBW.out | apply pw_below_drewN | apply below_drew1 | apply below_drew))) hb)
                have HH5 := Aside0.mk (Kd.H_below (by (repeat (with_reducible first | exact HH.out | apply Kd.H_drewN | apply Kd.H_drew))) hb)
                have HPX5 := Aside0.mk (blk_below (g := b) (o := .cells #[.int .i64 x.f0, .int .i64 x.f1, .int .i64 x.f2.f0, .int .i64 x.f2.f1, .int .i64 x.f2.f2, .int .u8 x.f2.f3.f0, .int .u8 x.f2.f3.f1, .int .u8 x.f2.f3.f2, .int .u8 x.f2.f3.f3, .int .u8 x.f2.f3.f4, .int .u8 x.f2.f3.f5, .slice A1 x.f2.f4.length c1, .int .i64 x.f2.f5] 46 (0, 0)) (by (with_reducible repeat (first | refine blk_drewN ?_ _ | refine blk_drew ?_)); exact HPX.out) hb)
                have HP5 := Aside0.mk (blk_below (g := w.heap.size) (o := .cells #[.int .u8 p0, .int .u8 p1, .int .u8 p2, .int .u8 p3, .int .u8 p4, .int .u8 p5] 37 (0, 0)) (by (with_reducible repeat (first | refine blk_drewN ?_ _ | refine blk_drew ?_)); exact HPW.out) hb)
                have HSZ5 := Aside0.mk (show w3.heap.size ≤ w5.heap.size from hb.size)
                clear hR hb HRV HBW HH HPX HPW HCW
                refine hK.out _ _ ⟨(q_at HH5.out).1, (blk_cell HPX5.out 11).trans rfl⟩ (fun hHeld => ?_)
                clear hK K
                refine norm_ (a' := ?_) ?_ ?_
                rotate_left
                · show Act.put _ (some 82) _ = _
                  simp only [Act.put, List.setIfInBounds_toArray, List.set_cons_zero, List.set_cons_succ, i64_w, i32_w]
                  rfl
                refine one_ (i := 11) (N := some 83) #[true, true, true, true, true, true, true, true, true, true, true, true, false, false, false, false] rfl rfl (by kernel_rfl) (by decide) (fun K hK => ?_)
                have hh0 := hHeld
                refine value_ (w1 := ?_) (v := ?_) (by rfl) rfl ?_ ?_
                rotate_left 2
                · go_simp
                  constructor
                  · rfl
                  · rfl
                refine hK.out _ _ ⟨pw_cell_below (below_alloc (Below.refl _ _) _) (hh0.1), pw_cell_below (below_alloc (Below.refl _ _) _) (hh0.2)⟩ (fun hHeld => ?_)
                clear hK K
                refine norm_ (a' := ?_) ?_ ?_
                rotate_left
                · show Act.put _ (some 83) _ = _
                  simp only [Act.put, List.setIfInBounds_toArray, List.set_cons_zero, List.set_cons_succ, i64_w, i32_w]
                  rfl
                refine last_ (i := 12) (N := some 84) #[true, true, true, true, true, true, true, true, true, true, true, true, true, false, false, false] rfl rfl (by kernel_rfl) (by decide) (fun K hK => ?_)
                try rw [drew_alloc_]
                refine Kd.R_append_step (Kd.slice 5 (Kd.int .u8)) (w0 := w) w.heap.size (by rfl) (.tmp 78) (.tmp 83) 22 42 (.slice none 0 0) 24 rfl Try.underlying22 info42_ rfl (by decide) (by omega) vl (o.getD m z27).f1 x.f2.f4 [.slice A7 x.f2.f4.length c7] (fun k => oki k ∨ True ∧ w3.heap.size ≤ k) (fun k => w3.heap.size ≤ k) rfl rfl ?aP ?aK ?aF ?aO ?aB ?aS ?aL ?_
                (case aP => exact ⟨_, rfl, (by (repeat (with_reducible first | exact HR7.out | apply Kd.R_drewN | apply Kd.R_drew)))⟩)
                (case aK => exact fun k hk => ⟨Or.inr ⟨trivial, hk⟩, fun he => by have := HVL.out k he.symm; omega⟩)
                (case aF => exact fun k hk => Or.inr ⟨trivial, by have h2 := HSZ5.out; have h3 : w5.heap.size ≤ k := hk; omega⟩)
                (case aO => exact Kd.R_mono (by (repeat (with_reducible first | exact HRV5.out | apply Kd.R_drewN | apply Kd.R_drew))) (fun _ h => Or.inl h))
                (case aB => exact (by (repeat (with_reducible first | exact HB5.out | apply pw_below_drewN | apply below_drew1 | apply below_drew))))
                (case aS => exact below_size (by (repeat (with_reducible first | exact HB5.out | apply pw_below_drewN | apply below_drew1 | apply below_drew))))
                (case aL => have := HLM.out; omega)
                intro v1 w7 ho hb hg hat
                obtain ⟨Av, nv, cv, rfl⟩ : ∃ A n c, v1 = .slice A n c := by obtain ⟨A, c, e⟩ := Kd.R_slice ho; exact ⟨A, _, c, e⟩
                have HO7 := Aside0.mk ho
                have HB7 := Aside0.mk hb
                have HH7 := Aside0.mk (Kd.H_grown (by (repeat (with_reducible first | exact HH5.out | apply Kd.H_drewN | apply Kd.H_drew))) hg (fun k hk => Or.inl (HRV5.out.1 k hk)))
                have HP7 := Aside0.mk (blk_only_ (o := .cells #[] 0 (0, 0)) (by (with_reducible repeat (first | refine blk_drewN ?_ _ | refine blk_drew ?_)); exact HP5.out) hg hat (Kd.R_typed (by (repeat (with_reducible first | exact HRV5.out | apply Kd.R_drewN | apply Kd.R_drew)))) (by decide))
                have hc1 := (q_at HH7.out).1
                have hf1 := (q_at HH7.out).2
                clear ho hb hg hat HR7 HRV5 HB5 HH5 HPX5 HP5
                refine hK.out _ _ ?_
                clear hK K
                refine norm_ (a' := ?_) ?_ ?_
                rotate_left
                · show Act.put _ (some 84) _ = _
                  simp only [Act.put, List.setIfInBounds_toArray, List.set_cons_zero, List.set_cons_succ, i64_w, i32_w]
                  rfl
                refine pure_ (i := 13) (N := some 85) (v := ?_) (a' := ?_) #[true, true, true, true, true, true, true, true, true, true, true, true, true, true, false, false] rfl rfl (by kernel_rfl) (fun _ _ _ h => h) (Or.inl ⟨by rfl, ?_⟩) ?_ ?_
                rotate_left
                · intro w'
                  go_simp
                  with_reducible rfl
                rotate_left
                · simp only [Act.put, List.setIfInBounds_toArray, List.set_cons_zero, List.set_cons_succ, i64_w, i32_w]
                  rfl
                refine pure_ (i := 14) (N := some 86) (v := ?_) (a' := ?_) #[true, true, true, true, true, true, true, true, true, true, true, true, true, true, true, false] rfl rfl (by kernel_rfl) (fun _ _ _ h => h) (Or.inl ⟨by rfl, ?_⟩) ?_ ?_
                rotate_left
                · intro w'
                  go_simp
                  with_reducible rfl
                rotate_left
                · simp only [Act.put, List.setIfInBounds_toArray, List.set_cons_zero, List.set_cons_succ, i64_w, i32_w]
                  rfl
                refine last_ (i := 15) (N := none) #[true, true, true, true, true, true, true, true, true, true, true, true, true, true, true, true] rfl rfl (by kernel_rfl) (by decide) (fun K hK => ?_)
                refine skip_ (w1 := ?_) (by rfl) rfl ?_ ?_
                rotate_left
                · go_simp
                  rfl
                refine hK.out _ _ ?_
                clear hK K
                refine done_ (by kernel_rfl) ?_
                have HQ9 := q_put (o := o) (last := (o.getD m z27).f1 ++ [x.f2.f4]) HH7.out HO7.out
                have HPS := Aside0.mk HQ9.1
                have HPB := Aside0.mk (show Below w.heap.size w _ from HB7.out.grown HQ9.2 HB7.out.size (fun k hk => by cases hk; exact HGB.out))
                have HPP := Aside0.mk (blk_grown HP7.out HQ9.2 (fun he => HGW.out (by injection he)))
                clear HQ9 HO7 HH7 HB7 HP7
                go_wp2_with fail
                exact ⟨⟨i + 1, HLT.out, by go_num, ⟨by rw [HQT2.out]; exact HPS.out⟩, HPP, HPB⟩, by rw [hw1]; exact meas HLT.out⟩
              · have e3 : (ee != x.f1) = true := bne_iff_ne.2 he
                rw [e3]
                clear HGB hw3 hw4 hw5 hw6
                obtain ⟨m2, hm2⟩ : ∃ m2 : Nat, m2 = m + 1 := ⟨_, rfl⟩
                have HM3 := Aside0.mk (show m2 ≤ 1000 by have := HL2.out; omega)
                have HMH := Aside0.mk (And.intro hm hm2)
                clear hm hm2
                have hv3 : wrap64 ((m2 : Nat) : Int) = (m2 : Int) := by unfold wrap64; have := HM3.out; omega
                have hv4 : IntKind.i64.wrap (((m2 : Nat) : Int) + 1 - 1) = (m2 : Int) := by rw [i64_w]; unfold wrap64; have := HM3.out; omega
                have hv5 : ((m2 : Int) < (m2 : Int) + 1) = True := eq_true (by omega)
                go_wp2_with (first | ((with_reducible refine gate_builtin (b := .append) (xs := #[.tmp 63, .tmp 67]) rfl ?_); at_builtin; refine Kd.S_append k27 (w0 := w) w.heap.size rfl (.tmp 63) (.tmp 67) 28 27 (.agg #[.int .i64 0, .slice none 0 0]) 32 rfl Try.underlying28 info27_ rfl (by decide) (by omega) (.slice (some ⟨g, 0, none⟩) (m + 1) cap) oo (⟨x.f1, []⟩ : S27) [.int .i64 x.f1, .slice none 0 0] (fun _ => True) (fun _ => False) rfl rfl ?aP (fun _ hk => hk.elim) ?aF ?aO ?aB ?aS ?aL ?_; (case aP => exact k27_mkM _ _ _ ⟨x.f1, []⟩ (Kd.R_nil _ _ _ _ _)); (case aF => exact fun _ _ => trivial); (case aO => exact Kd.S_mono HS3.out (fun k hk => ⟨hk, fun h => h⟩)); (case aB => exact HB3.out); (case aS => exact HB3.out.size); (case aL => have := HL2.out; omega); intro v4 w4 ho hb hg hat; obtain ⟨g, cap, rfl, hgb⟩ := q_form ho (m := m2) (by rw [List.length_append, HMH.out.1, HMH.out.2]; rfl); have hs4 := Aside0.mk ho; have HB4 := Aside0.mk hb; have HPX4 := Aside0.mk (blk_only_ (o := .cells #[] 0 (0, 0)) HPX3.out hg hat (Kd.S_typed HS3.out) (by decide)); have HP4 := Aside0.mk (blk_only_ (o := .cells #[] 0 (0, 0)) HP3.out hg hat (Kd.S_typed HS3.out) (by decide)); clear ho hb hg hat HS3 HB3 HPX3 HP3) | fail)
                have hs := hs4.out
                have HGB := Aside0.mk hgb
                have HGW := Aside0.mk (q_ne hs HP4.out)
                have HSQ := Aside0.mk hs
                have HBW := HB4
                have HPX := HPX4
                have HPW := HP4
                clear hs hgb hs4 HB4 HPX4 HP4
                have HM2 := HM3
                have HQT2 := Aside0.mk (HQT.out.trans (rS_new oo x (.inr (by rw [HMH.out.1, Nat.add_sub_cancel, HEX.out]; exact he))))
                rw [HMH.out.1, ← HMH.out.2] at HQT2
                have HLM := Aside0.mk (show ((oo ++ [(⟨x.f1, []⟩ : S27)]).getD m2 z27).f1.length ≤ 1000 from Nat.le_trans (f1_sum _ _) (by have := HSM.out; simpa using this))
                clear HQT HEX HEE he e3 HSM HL2 HM0 z1
                generalize oo ++ [(⟨x.f1, []⟩ : S27)] = o at HSQ HQT2 HLM
                clear HMH
                generalize m2 = m at *
                have hw3 : wrap64 ((m : Nat) : Int) = (m : Int) := by unfold wrap64; have := HM2.out; omega
                have hw4 : IntKind.i64.wrap (((m : Nat) : Int) + 1 - 1) = (m : Int) := by rw [i64_w]; unfold wrap64; have := HM2.out; omega
                have hw5 : ((m : Int) < (m : Int) + 1) = True := eq_true (by omega)
                try go_wp2_with fail
                obtain ⟨oki, vl, hR, -, -, hH⟩ := q_lend HSQ.out
                have HRV := Aside0.mk hR
                have HVL := Aside0.mk (Kd.R_lt hR)
                have HH := Aside0.mk (Kd.H_widen hH)
                have HCW := Aside0.mk (Kd.C_below HCX.out.1 HBW.out)
                clear hR hH HSQ
                refine start_ (n := 16) (S := fun w' => w'.cell? ⟨g, m * 2 + 1, none⟩ = some vl ∧ w'.cell? ⟨b, 11, none⟩ = some (.slice A1 x.f2.f4.length c1)) (ds := [12, 15]) #[false, false, false, false, false, false, false, false, false, false, false, false, false, false, false, false] (by kernel_rfl) rfl rfl ⟨(q_at HH.out).1, (blk_cell HPX.out 11).trans rfl⟩ (fun hHeld => ?_)
                refine pure_ (i := 0) (N := some 72) (v := ?_) (a' := ?_) #[true, false, false, false, false, false, false, false, false, false, false, false, false, false, false, false] rfl rfl (by kernel_rfl) (fun _ _ _ h => h) (Or.inl ⟨by rfl, ?_⟩) ?_ ?_
                rotate_left
                · intro w'
                  go_simp
                  with_reducible rfl
                rotate_left
                · simp only [Act.put, List.setIfInBounds_toArray, List.set_cons_zero, List.set_cons_succ, i64_w, i32_w]
                  rfl
                refine pure_ (i := 1) (N := some 73) (v := ?_) (a' := ?_) #[true, true, false, false, false, false, false, false, false, false, false, false, false, false, false, false] rfl rfl (by kernel_rfl) (fun _ _ _ h => h) (Or.inl ⟨by rfl, ?_⟩) ?_ ?_
                rotate_left
                · intro w'
                  go_simp
                  with_reducible rfl
                rotate_left
                · simp only [Act.put, List.setIfInBounds_toArray, List.set_cons_zero, List.set_cons_succ, i64_w, i32_w]
                  rfl
                refine pure_ (i := 2) (N := some 74) (v := ?_) (a' := ?_) #[true, true, true, false, false, false, false, false, false, false, false, false, false, false, false, false] rfl rfl (by kernel_rfl) (fun _ _ _ h => h) (Or.inl ⟨by rfl, ?_⟩) ?_ ?_
                rotate_left
                · intro w'
                  go_simp
                  with_reducible rfl
                rotate_left
                · simp only [Act.put, List.setIfInBounds_toArray, List.set_cons_zero, List.set_cons_succ, i64_w, i32_w]
                  rfl
                refine pure_ (i := 3) (N := some 75) (v := ?_) (a' := ?_) #[true, true, true, true, false, false, false, false, false, false, false, false, false, false, false, false] rfl rfl (by kernel_rfl) (fun _ _ _ h => h) (Or.inl ⟨by rfl, ?_⟩) ?_ ?_
                rotate_left
                · intro w'
                  go_simp
                  with_reducible rfl
                rotate_left
                · simp only [Act.put, List.setIfInBounds_toArray, List.set_cons_zero, List.set_cons_succ, i64_w, i32_w]
                  rfl
                refine pure_ (i := 4) (N := some 76) (v := ?_) (a' := ?_) #[true, true, true, true, true, false, false, false, false, false, false, false, false, false, false, false] rfl rfl (by kernel_rfl) (fun _ _ _ h => h) (Or.inl ⟨by rfl, ?_⟩) ?_ ?_
                rotate_left
                · intro w'
                  go_simp
                  with_reducible rfl
                rotate_left
                · simp only [Act.put, List.setIfInBounds_toArray, List.set_cons_zero, List.set_cons_succ, i64_w, i32_w]
                  rfl
                refine pure_ (i := 5) (N := some 77) (v := ?_) (a' := ?_) #[true, true, true, true, true, true, false, false, false, false, false, false, false, false, false, false] rfl rfl (by kernel_rfl) (fun _ _ _ h => h) (Or.inl ⟨by rfl, ?_⟩) ?_ ?_
                rotate_left
                · intro w'
                  go_simp
                  with_reducible rfl
                rotate_left
                · simp only [Act.put, List.setIfInBounds_toArray, List.set_cons_zero, List.set_cons_succ, i64_w, i32_w]
                  rfl
                refine pure_ (i := 7) (N := some 79) (v := ?_) (a' := ?_) #[true, true, true, true, true, true, false, true, false, false, false, false, false, false, false, false] rfl rfl (by kernel_rfl) (fun _ _ _ h => h) (Or.inl ⟨by rfl, ?_⟩) ?_ ?_
                rotate_left
                · intro w'
                  go_simp
                  with_reducible rfl
                rotate_left
                · simp only [Act.put, List.setIfInBounds_toArray, List.set_cons_zero, List.set_cons_succ, i64_w, i32_w]
                  rfl
                refine pure_ (i := 8) (N := some 80) (v := ?_) (a' := ?_) #[true, true, true, true, true, true, false, true, true, false, false, false, false, false, false, false] rfl rfl (by kernel_rfl) (fun _ _ _ h => h) (Or.inl ⟨by rfl, ?_⟩) ?_ ?_
                rotate_left
                · intro w'
                  go_simp
                  with_reducible rfl
                rotate_left
                · simp only [Act.put, List.setIfInBounds_toArray, List.set_cons_zero, List.set_cons_succ, i64_w, i32_w]
                  rfl
                refine take_ (i := 6) (N := some 78) (v := ?_) (a' := ?_) #[true, true, true, true, true, true, true, true, true, false, false, false, false, false, false, false] rfl rfl (by kernel_rfl) (fun _ _ _ h => h) (Or.inl ⟨by rfl, ?_⟩) hHeld ?_ ?_
                rotate_left
                · rintro w' ⟨s0, s1⟩
                  go_simp
                  with_reducible rfl
                rotate_left
                · simp only [Act.put, List.setIfInBounds_toArray, List.set_cons_zero, List.set_cons_succ, i64_w, i32_w]
                  rfl
                refine take_ (i := 9) (N := some 81) (v := ?_) (a' := ?_) #[true, true, true, true, true, true, true, true, true, true, false, false, false, false, false, false] rfl rfl (by kernel_rfl) (fun _ _ _ h => h) (Or.inl ⟨by rfl, ?_⟩) hHeld ?_ ?_
                rotate_left
                · rintro w' ⟨s0, s1⟩
                  go_simp
                  with_reducible rfl
                rotate_left
                · simp only [Act.put, List.setIfInBounds_toArray, List.set_cons_zero, List.set_cons_succ, i64_w, i32_w]
                  rfl
                refine one_ (i := 10) (N := some 82) #[true, true, true, true, true, true, true, true, true, true, true, false, false, false, false, false] rfl rfl (by kernel_rfl) (by decide) (fun K hK => ?_)
                refine goes_ Try.func27 (by kernel_rfl) rfl #[.slice A1 x.f2.f4.length c1] (by rfl) rfl rfl (by simp only [List.map_toArray, List.map_cons, List.map_nil]; rfl) ?_
                with_reducible refine (antiphonref1_Copy.calls _ A1 c1 x.f2.f4 x.f2.f4 _ (by (repeat (with_reducible first | exact HCW.out | apply Kd.C_drewN | apply Kd.C_drew))) HCX.out.2 HCF.out).mono ?_
                rintro e w5 ⟨v77, rfl, hR, hb⟩
                refine ⟨_, rfl, ?_⟩
                obtain ⟨A7, c7, rfl⟩ := Kd.R_slice hR
                have HR7 := Aside0.mk (show Kd.R (Kd.int .u8) 5 w5 w.heap.size (fun k => w4.heap.size ≤ k) (.slice A7 x.f2.f4.length c7) x.f2.f4 from Kd.R_lower (Kd.R_mono (Kd.R_bound hR) (fun k hk => hk.2.1)) HBW.out.size)
                have HRV5 := Aside0.mk (Kd.R_below (by (repeat (with_reducible first | exact HRV.out | apply Kd.R_drewN | apply Kd.R_drew))) hb)
                have HB5 := Aside0.mk (below_step (by (repeat (with_reducible first | exact HBW.out | apply pw_below_drewN | apply below_drew1 | apply below_drew))) hb)
                have HH5 := Aside0.mk (Kd.H_below (by (repeat (with_reducible first | exact HH.out | apply Kd.H_drewN | apply Kd.H_drew))) hb)
                have HPX5 := Aside0.mk (blk_below (g := b) (o := .cells #[.int .i64 x.f0, .int .i64 x.f1, .int .i64 x.f2.f0, .int .i64 x.f2.f1, .int .i64 x.f2.f2, .int .u8 x.f2.f3.f0, .int .u8 x.f2.f3.f1, .int .u8 x.f2.f3.f2, .int .u8 x.f2.f3.f3, .int .u8 x.f2.f3.f4, .int .u8 x.f2.f3.f5, .slice A1 x.f2.f4.length c1, .int .i64 x.f2.f5] 46 (0, 0)) (by (with_reducible repeat (first | refine blk_drewN ?_ _ | refine blk_drew ?_)); exact HPX.out) hb)
                have HP5 := Aside0.mk (blk_below (g := w.heap.size) (o := .cells #[.int .u8 p0, .int .u8 p1, .int .u8 p2, .int .u8 p3, .int .u8 p4, .int .u8 p5] 37 (0, 0)) (by (with_reducible repeat (first | refine blk_drewN ?_ _ | refine blk_drew ?_)); exact HPW.out) hb)
                have HSZ5 := Aside0.mk (show w4.heap.size ≤ w5.heap.size from hb.size)
                clear hR hb HRV HBW HH HPX HPW HCW
                refine hK.out _ _ ⟨(q_at HH5.out).1, (blk_cell HPX5.out 11).trans rfl⟩ (fun hHeld => ?_)
                clear hK K
                refine norm_ (a' := ?_) ?_ ?_
                rotate_left
                · show Act.put _ (some 82) _ = _
                  simp only [Act.put, List.setIfInBounds_toArray, List.set_cons_zero, List.set_cons_succ, i64_w, i32_w]
                  rfl
                refine one_ (i := 11) (N := some 83) #[true, true, true, true, true, true, true, true, true, true, true, true, false, false, false, false] rfl rfl (by kernel_rfl) (by decide) (fun K hK => ?_)
                have hh0 := hHeld
                refine value_ (w1 := ?_) (v := ?_) (by rfl) rfl ?_ ?_
                rotate_left 2
                · go_simp
                  constructor
                  · rfl
                  · rfl
                refine hK.out _ _ ⟨pw_cell_below (below_alloc (Below.refl _ _) _) (hh0.1), pw_cell_below (below_alloc (Below.refl _ _) _) (hh0.2)⟩ (fun hHeld => ?_)
                clear hK K
                refine norm_ (a' := ?_) ?_ ?_
                rotate_left
                · show Act.put _ (some 83) _ = _
                  simp only [Act.put, List.setIfInBounds_toArray, List.set_cons_zero, List.set_cons_succ, i64_w, i32_w]
                  rfl
                refine last_ (i := 12) (N := some 84) #[true, true, true, true, true, true, true, true, true, true, true, true, true, false, false, false] rfl rfl (by kernel_rfl) (by decide) (fun K hK => ?_)
                try rw [drew_alloc_]
                refine Kd.R_append_step (Kd.slice 5 (Kd.int .u8)) (w0 := w) w.heap.size (by rfl) (.tmp 78) (.tmp 83) 22 42 (.slice none 0 0) 24 rfl Try.underlying22 info42_ rfl (by decide) (by omega) vl (o.getD m z27).f1 x.f2.f4 [.slice A7 x.f2.f4.length c7] (fun k => oki k ∨ True ∧ w4.heap.size ≤ k) (fun k => w4.heap.size ≤ k) rfl rfl ?aP ?aK ?aF ?aO ?aB ?aS ?aL ?_
                (case aP => exact ⟨_, rfl, (by (repeat (with_reducible first | exact HR7.out | apply Kd.R_drewN | apply Kd.R_drew)))⟩)
                (case aK => exact fun k hk => ⟨Or.inr ⟨trivial, hk⟩, fun he => by have := HVL.out k he.symm; omega⟩)
                (case aF => exact fun k hk => Or.inr ⟨trivial, by have h2 := HSZ5.out; have h3 : w5.heap.size ≤ k := hk; omega⟩)
                (case aO => exact Kd.R_mono (by (repeat (with_reducible first | exact HRV5.out | apply Kd.R_drewN | apply Kd.R_drew))) (fun _ h => Or.inl h))
                (case aB => exact (by (repeat (with_reducible first | exact HB5.out | apply pw_below_drewN | apply below_drew1 | apply below_drew))))
                (case aS => exact below_size (by (repeat (with_reducible first | exact HB5.out | apply pw_below_drewN | apply below_drew1 | apply below_drew))))
                (case aL => have := HLM.out; omega)
                intro v1 w7 ho hb hg hat
                obtain ⟨Av, nv, cv, rfl⟩ : ∃ A n c, v1 = .slice A n c := by obtain ⟨A, c, e⟩ := Kd.R_slice ho; exact ⟨A, _, c, e⟩
                have HO7 := Aside0.mk ho
                have HB7 := Aside0.mk hb
                have HH7 := Aside0.mk (Kd.H_grown (by (repeat (with_reducible first | exact HH5.out | apply Kd.H_drewN | apply Kd.H_drew))) hg (fun k hk => Or.inl (HRV5.out.1 k hk)))
                have HP7 := Aside0.mk (blk_only_ (o := .cells #[] 0 (0, 0)) (by (with_reducible repeat (first | refine blk_drewN ?_ _ | refine blk_drew ?_)); exact HP5.out) hg hat (Kd.R_typed (by (repeat (with_reducible first | exact HRV5.out | apply Kd.R_drewN | apply Kd.R_drew)))) (by decide))
                have hc1 := (q_at HH7.out).1
                have hf1 := (q_at HH7.out).2
                clear ho hb hg hat HR7 HRV5 HB5 HH5 HPX5 HP5
                refine hK.out _ _ ?_
                clear hK K
                refine norm_ (a' := ?_) ?_ ?_
                rotate_left
                · show Act.put _ (some 84) _ = _
                  simp only [Act.put, List.setIfInBounds_toArray, List.set_cons_zero, List.set_cons_succ, i64_w, i32_w]
                  rfl
                refine pure_ (i := 13) (N := some 85) (v := ?_) (a' := ?_) #[true, true, true, true, true, true, true, true, true, true, true, true, true, true, false, false] rfl rfl (by kernel_rfl) (fun _ _ _ h => h) (Or.inl ⟨by rfl, ?_⟩) ?_ ?_
                rotate_left
                · intro w'
                  go_simp
                  with_reducible rfl
                rotate_left
                · simp only [Act.put, List.setIfInBounds_toArray, List.set_cons_zero, List.set_cons_succ, i64_w, i32_w]
                  rfl
                refine pure_ (i := 14) (N := some 86) (v := ?_) (a' := ?_) #[true, true, true, true, true, true, true, true, true, true, true, true, true, true, true, false] rfl rfl (by kernel_rfl) (fun _ _ _ h => h) (Or.inl ⟨by rfl, ?_⟩) ?_ ?_
                rotate_left
                · intro w'
                  go_simp
                  with_reducible rfl
                rotate_left
                · simp only [Act.put, List.setIfInBounds_toArray, List.set_cons_zero, List.set_cons_succ, i64_w, i32_w]
                  rfl
                refine last_ (i := 15) (N := none) #[true, true, true, true, true, true, true, true, true, true, true, true, true, true, true, true] rfl rfl (by kernel_rfl) (by decide) (fun K hK => ?_)
                refine skip_ (w1 := ?_) (by rfl) rfl ?_ ?_
                rotate_left
                · go_simp
                  rfl
                refine hK.out _ _ ?_
                clear hK K
                refine done_ (by kernel_rfl) ?_
                have HQ9 := q_put (o := o) (last := (o.getD m z27).f1 ++ [x.f2.f4]) HH7.out HO7.out
                have HPS := Aside0.mk HQ9.1
                have HPB := Aside0.mk (show Below w.heap.size w _ from HB7.out.grown HQ9.2 HB7.out.size (fun k hk => by cases hk; exact HGB.out))
                have HPP := Aside0.mk (blk_grown HP7.out HQ9.2 (fun he => HGW.out (by injection he)))
                clear HQ9 HO7 HH7 HB7 HP7
                go_wp2_with fail
                exact ⟨⟨i + 1, HLT.out, by go_num, ⟨by rw [HQT2.out]; exact HPS.out⟩, HPP, HPB⟩, by rw [hw1]; exact meas HLT.out⟩

end Go.Proofs.Ythdjdhcdhaicoaa.P
