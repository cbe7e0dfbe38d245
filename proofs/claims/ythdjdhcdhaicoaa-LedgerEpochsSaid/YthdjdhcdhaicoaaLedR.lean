-- Written by this session: the contract of ledger.Runs.
import Derived.Test.YthdjdhcdhaicoaaLedC
import Derived.Test.YthdjdhcdhaicoaaPx27
import Derived.ChangeKeysEq
namespace Go.Proofs.Ythdjdhcdhaicoaa.P
open Go.RowKit Go.Proofs.YthdjdhcdhaicoaaW.PrintWords Go.Proofs.YthdjdhcdhaicoaaW.PrintLast Go.Proofs.YthdjdhcdhaicoaaW.PrintMore
set_option linter.unusedVariables false
set_option linter.unusedSimpArgs false


section
variable {P : Program} {w : World} {d : Nat} {e : TypeId} {c i : Nat} {xs ys : Array Value} {is : List Nat} {a b : Value} {r s : Bool}
theorem eqi_cons (ha : (part e xs (i * c)).run P w = .ok a w) (hb : (part e ys (i * c)).run P w = .ok b w) (he : (Op.equalIn d e a b).run P w = .ok r w) (hr : (Op.eqItems d e c xs ys is).run P w = .ok s w) : (Op.eqItems d e c xs ys (i :: is)).run P w = .ok (r && s) w := by
  simp only [Op.eqItems, Sem.run_bind, ha, hb, he, Result.andThen_ok]
  cases r
  · simp
  · simpa using hr
theorem eqi_last (ha : (part e xs (i * c)).run P w = .ok a w) (hb : (part e ys (i * c)).run P w = .ok b w) (he : (Op.equalIn d e a b).run P w = .ok r w) : (Op.eqItems d e c xs ys [i]).run P w = .ok r w := by
  simp only [Op.eqItems, Sem.run_bind, ha, hb, he, Result.andThen_ok]
  cases r <;> simp
end
theorem eqA37 (d : Nat) (w : World) (x0 y0 : Int) (x1 y1 : Int) (x2 y2 : Int) (x3 y3 : Int) (x4 y4 : Int) (x5 y5 : Int) :
    (Op.equalIn (d + 2) 37 (.agg #[.int .u8 x0, .int .u8 x1, .int .u8 x2, .int .u8 x3, .int .u8 x4, .int .u8 x5]) (.agg #[.int .u8 y0, .int .u8 y1, .int .u8 y2, .int .u8 y3, .int .u8 y4, .int .u8 y5])).run Try.prog w = .ok (x0 == y0 && (x1 == y1 && (x2 == y2 && (x3 == y3 && (x4 == y4 && (x5 == y5)))))) w := by
  obtain ⟨i0, hi, hz0, hz1, hz2⟩ := info_parts info5_
  rw [run_equalIn_array w (d + 1) _ _ Try.underlying37 hi, show Try.prog.cellsOf 5 = 1 by kernel_rfl]
  refine eqi_cons (i := 0) (by go_simp; rfl) (by go_simp; rfl) (by go_simp) ?_
  refine eqi_cons (i := 1) (by go_simp; rfl) (by go_simp; rfl) (by go_simp) ?_
  refine eqi_cons (i := 2) (by go_simp; rfl) (by go_simp; rfl) (by go_simp) ?_
  refine eqi_cons (i := 3) (by go_simp; rfl) (by go_simp; rfl) (by go_simp) ?_
  refine eqi_cons (i := 4) (by go_simp; rfl) (by go_simp; rfl) (by go_simp) ?_
  exact eqi_last (i := 5) (by go_simp; rfl) (by go_simp; rfl) (by go_simp)
/-- Is it an item of that pair? -/
def mineB (a1 a2 p0 p1 p2 p3 p4 p5 : Int) (x : S56) : Bool := (x.f2.f0 == 9) && ((x.f2.f1 == a1) && ((x.f2.f2 == a2) && (x.f2.f3.f0 == p0 && (x.f2.f3.f1 == p1 && (x.f2.f3.f2 == p2 && (x.f2.f3.f3 == p3 && (x.f2.f3.f4 == p4 && (x.f2.f3.f5 == p5))))))))
def runS (g : List S56) : S47 := ⟨(g.head?.map ep56).getD 0, g.map (fun x => x.f2.f4)⟩
def runsS (l : List S56) (a1 a2 p0 p1 p2 p3 p4 p5 : Int) : List S47 := (Lib.cutL ep56 (l.filter (mineB a1 a2 p0 p1 p2 p3 p4 p5))).map runS
def ledger_Runs.f (l0 : List S56) (a1 a2 a3_0 a3_1 a3_2 a3_3 a3_4 a3_5 : Int) : Option (List S47) := if l0.length ≤ 1000 ∧ ∀ x ∈ l0, x.f2.f4.length < 140737488355328 then some (runsS l0 a1 a2 a3_0 a3_1 a3_2 a3_3 a3_4 a3_5) else none
theorem take_filter {α : Type} (q : α → Bool) (l : List α) (i : Nat) (x : α) (hx : l[i]? = some x) : (l.take (i + 1)).filter q = (l.take i).filter q ++ (if q x = true then [x] else []) := by
  rw [List.take_add_one, hx, List.filter_append]
  congr 1
  cases h : q x <;> simp [h]
theorem open_told {w : World} {x : S56} {a0 a1 a2 a3 a4 a5 a6 a7 a8 a9 a10 a12 : Value} {A : Option Addr} {n c : Nat} (h : k56.K w x [a0, a1, a2, a3, a4, a5, a6, a7, a8, a9, a10, .slice A n c, a12]) : True ∧ True ∧ True ∧ True ∧ n = x.f2.f4.length ∧ x.f2.f4.length ≤ c ∧ Kd.C (Kd.int .u8) w A x.f2.f4.length x.f2.f4 := by
  obtain ⟨A11, c11, he, l, g⟩ := k56_open h
  simp only [List.cons.injEq, Value.slice.injEq] at he
  obtain ⟨_, _, _, _, _, _, _, _, _, _, _, ⟨rfl, rfl, rfl⟩, _⟩ := he
  exact ⟨trivial, trivial, trivial, trivial, rfl, l, g⟩
theorem at_part {w W : World} {A : Option Addr} {n : Nat} {xs : List (List S56)} (h : Kd.C (kL w) W A n xs) (i : Nat) (hi : i < xs.length) : ∃ ad A1 c1 g, A = some ad ∧ xs[i]? = some g ∧ W.cell? (ad.add i) = some (.slice A1 g.length c1) ∧ g.length ≤ c1 ∧ Kd.C (Kd.fixed k56 w) W A1 g.length g := by
  have hn : xs.length = n := h.1
  obtain ⟨ad, c, e, _, hK, hc0⟩ := Kd.C_get h [] (i : Int) (by omega) (by omega)
  have hc : ∀ j u, c[j]? = some u → W.cell? (ad.add ((i : Int).toNat * 1 + j)) = some u := hc0
  rw [Int.toNat_natCast] at hK hc
  obtain ⟨g, hg⟩ : ∃ g, xs.getD i [] = g := ⟨_, rfl⟩
  rw [hg] at hK
  obtain ⟨A1, c1, rfl, l1, g1⟩ := hK
  have h1 := hc 0 _ rfl
  rw [Nat.mul_one, Nat.add_zero] at h1
  exact ⟨ad, A1, c1, g, e, by rw [← hg, List.getD_eq_getElem?_getD, List.getElem?_eq_getElem hi]; rfl, h1, l1, g1⟩
theorem meas {n i : Nat} (h : i < n) : n - (intOf (.int .i64 ((i : Int) + 1))).toNat < n - (intOf (.int .i64 (i : Int))).toNat := by
  show n - ((i : Int) + 1).toNat < n - (i : Int).toNat
  omega
theorem blk_grown {W W1 : World} {b : Nat} {o : Obj} {row : Option Nat} (h : W.heap[b]? = some o) (hg : W.grownBy W1 row) (hne : some b ≠ row) : W1.heap[b]? = some o := (hg.block b (blk_lt h) hne).trans h


set_option maxHeartbeats 16000000 in
set_option maxRecDepth 100000 in
/-- Runs: the items of a pair, by epochs. -/
theorem ledger_Runs.walk (A0 : Option Addr) (c0 : Nat) (l : List S56) (a1 a2 p0 p1 p2 p3 p4 p5 : Int) (w : World) (hr : Kd.C k56 w A0 l.length l) (hc : l.length ≤ c0) (hl : l.length ≤ 1000) (hbd : ∀ x ∈ l, x.f2.f4.length < 140737488355328) :
    Calls Try.prog 16 #[.slice A0 l.length c0, .int .i64 a1, .int .i64 a2, .agg #[.int .u8 p0, .int .u8 p1, .int .u8 p2, .int .u8 p3, .int .u8 p4, .int .u8 p5]] w fun e w' => ∃ v, e = .returned v ∧ Kd.R k47 47 w' w.heap.size (fun _ => True) v (runsS l a1 a2 p0 p1 p2 p3 p4 p5) ∧ Below w.heap.size w w' := by
  have HR := Aside0.mk hr
  have HL := Aside0.mk hl
  have HD := Aside0.mk hbd
  have HB := Aside0.mk (Below.refl w.heap.size w)
  clear hr hl hbd
  go_enter Try.func16, Try.ntmps16
  go_wp2_with fail
  go_loopw [9, 20] (fun v9 v20 wr => ∃ (i : Nat), i ≤ l.length ∧ v20 = .int .i64 i ∧ Aside0 (Kd.R (Kd.fixed k56 w) 56 wr w.heap.size (fun _ => True) v9 ((l.take i).filter (mineB a1 a2 p0 p1 p2 p3 p4 p5))) ∧ Aside0 (wr.heap[w.heap.size]? = some (.cells #[.int .u8 p0, .int .u8 p1, .int .u8 p2, .int .u8 p3, .int .u8 p4, .int .u8 p5] 37 (0, 0))) ∧ Aside0 (Below w.heap.size w wr)) (fun _ v20 _ => l.length - (intOf v20).toNat)
  case atStart => exact ⟨0, Nat.zero_le _, rfl, ⟨Kd.R_nil _ _ _ _ _⟩, ⟨blk_new w _⟩, ⟨below_alloc HB.out _⟩⟩
  case round =>
    clear HB
    obtain ⟨i, hi, rfl, HM, HP, HB⟩ := hrel
    by_cases hlt : i < l.length
    case neg =>
      obtain rfl : i = l.length := by omega
      obtain ⟨wr1, hwr⟩ : ∃ x, x = wr := ⟨_, rfl⟩
      subst hwr
      have hm := HM.out
      rw [List.take_length] at hm
      have hml : (l.filter (mineB a1 a2 p0 p1 p2 p3 p4 p5)).length ≤ 1000 := Nat.le_trans (List.length_filter_le _ _) HL.out
      have HMD := Aside0.mk (show ∀ x ∈ l.filter (mineB a1 a2 p0 p1 p2 p3 p4 p5), x.f2.f4.length < 140737488355328 from fun x hx => HD.out x (List.mem_filter.1 hx).1)
      have HRS := Aside0.mk (show runsS l a1 a2 p0 p1 p2 p3 p4 p5 = (Lib.cutL ep56 (l.filter (mineB a1 a2 p0 p1 p2 p3 p4 p5))).map runS from rfl)
      generalize l.filter (mineB a1 a2 p0 p1 p2 p3 p4 p5) = mine at hm hml HMD HRS
      obtain ⟨Am, cm, rfl, hcm, hCm⟩ := Kd.R_reads hm
      have HCM := Aside0.mk (And.intro (C_came hCm HB.out) (And.intro hcm hml))
      clear hm hml hcm hCm HM HP HD HR hi
      go_wp2_with fail
      refine (ledger_cut.calls Am cm mine _ HCM.out.1 HCM.out.2.1 HCM.out.2.2).mono ?_
      rintro e w2 ⟨vp, rfl, hP, hBp⟩
      obtain ⟨Ap, cp, rfl, hcp, hCp⟩ := Kd.R_reads hP
      have HCP := Aside0.mk hCp
      have HB2 := Aside0.mk (below_step HB.out hBp)
      have HBR := Aside0.mk hBp
      have HNE := Aside0.mk (Lib.cut_ne ep56 mine)
      have HPL := Aside0.mk (show (Lib.cutL ep56 mine).length ≤ 1000 from Nat.le_trans (Lib.cutN_len ep56 mine _) HCM.out.2.2)
      have HGL := Aside0.mk (show ∀ g ∈ Lib.cutL ep56 mine, g.length ≤ 1000 ∧ ∀ x ∈ g, x ∈ mine from fun g hg => ⟨Nat.le_trans (Lib.mem_sum hg) (Nat.le_trans (Lib.cutN_sum ep56 mine _) HCM.out.2.2), fun x hx => Lib.cut_mem ep56 mine g hg x hx⟩)
      generalize Lib.cutL ep56 mine = parts at HCP HNE HPL HGL HRS hcp ⊢
      clear hP hBp hCp hcp
      go_wp2_with fail
      go_loopw [12, 57] (fun v12 v57 wr2 => ∃ (j : Nat), j ≤ parts.length ∧ v57 = .int .i64 j ∧ Aside0 (Kd.R k47 47 wr2 w2.heap.size (fun _ => True) v12 ((parts.take j).map runS)) ∧ Aside0 (Below w2.heap.size w2 wr2)) (fun _ v57 _ => parts.length - (intOf v57).toNat)
      case atStart => exact ⟨0, Nat.zero_le _, rfl, ⟨Kd.R_nil _ _ _ _ _⟩, ⟨Below.refl _ _⟩⟩
      case round =>
        obtain ⟨wr2, hwr⟩ : ∃ x, x = wr := ⟨_, rfl⟩
        subst hwr
        obtain ⟨j, hj, rfl, HO, HBP⟩ := hrel
        by_cases hjl : j < parts.length
        case neg =>
          obtain rfl : j = parts.length := by omega
          have ho := HO.out
          rw [List.take_length, ← HRS.out] at ho
          have HO2 := Aside0.mk ho
          clear ho HO
          go_wp2_with fail
          go_ret
          exact ⟨u12, rfl, Kd.R_lower HO2.out HB2.out.size, below_step HB2.out HBP.out⟩
        obtain ⟨adp, Ag, cg, gg, eadp, hgg, hcell, hcg, hCg⟩ := at_part HCP.out j hjl
        cases eadp
        have qp := pw_cell_below HBP.out hcell
        have hCg2 := C_came (Kd.C_below hCg HBP.out) (below_step HBR.out HBP.out)
        have hmem : gg ∈ parts := List.mem_of_getElem? hgg
        obtain ⟨y, g', rfl⟩ : ∃ y g', gg = y :: g' := by
          cases gg with
          | nil => exact absurd rfl (HNE.out _ hmem)
          | cons y g' => exact ⟨y, g', rfl⟩
        obtain ⟨gg, hge⟩ : ∃ g, y :: g' = g := ⟨_, rfl⟩
        have HRG := Aside0.mk (show runS gg = ⟨y.f1, gg.map (fun x => x.f2.f4)⟩ by rw [← hge]; rfl)
        have h0g : 0 < gg.length := by rw [← hge]; exact Nat.succ_pos _
        have hy0 : gg[0]? = some y := by rw [← hge]; rfl
        rw [hge] at hCg2 hmem hgg qp
        have HCG := Aside0.mk hCg2
        have HTK := Aside0.mk (show (parts.take (j + 1)).map runS = (parts.take j).map runS ++ [runS gg] by rw [List.take_add_one, hgg, List.map_append]; rfl)
        have HGG := Aside0.mk (show gg.length ≤ 1000 ∧ ∀ x ∈ gg, x.f2.f4.length < 140737488355328 from ⟨(HGL.out gg hmem).1, fun x hx => HMD.out x ((HGL.out gg hmem).2 x hx)⟩)
        obtain ⟨ady, Ay, cy, y2, eady, hy2, hqy, hKy⟩ := at_told hCg2 0 h0g
        cases eady
        obtain rfl : y2 = y := by rw [hy0] at hy2; exact (Option.some.inj hy2).symm
        obtain ⟨-, qe, -⟩ := hqy
        have hay : ady.add (0 * 13) = ady := rfl
        rw [hay] at qe
        clear hay hy2 hKy hy0 hgg hmem hCg hCg2 hcell hge hcg
        have HJ := Aside0.mk hjl
        have hw2 : wrap64 ((j : Nat) + 1 : Int) = (j : Int) + 1 := by unfold wrap64; have := HPL.out; omega
        go_wp2_with fail
        have hbr := blk_new wr2 (.cells #[.int .i64 y2.f1, .slice none 0 0] 47 (0, 0))
        have hbb := below_alloc (Below.refl wr2.heap.size wr2) (.cells #[.int .i64 y2.f1, .slice none 0 0] 47 (0, 0))
        generalize hW3 : wr2.alloc (.cells #[.int .i64 y2.f1, .slice none 0 0] 47 (0, 0)) = w3 at hbr hbb ⊢
        obtain ⟨br, hbre⟩ : ∃ br, wr2.heap.size = br := ⟨_, rfl⟩
        have HBRE := Aside0.mk hbre
        rw [hbre] at hbr ⊢
        have HBR0 := Aside0.mk hbr
        have HBB0 := Aside0.mk hbb
        clear hbr hbb hW3 hbre qe qp
        go_loopw [68] (fun v68 wr3 => ∃ (m : Nat) (v : Value), m ≤ gg.length ∧ v68 = .int .i64 m ∧ Aside0 (wr3.heap[br]? = some (.cells #[.int .i64 y2.f1, v] 47 (0, 0))) ∧ Aside0 (Kd.R (Kd.slice 5 (Kd.int .u8)) 42 wr3 wr2.heap.size (fun k => k ≠ br) v ((gg.take m).map (fun x => x.f2.f4))) ∧ Aside0 (Below wr2.heap.size wr2 wr3)) (fun v68 _ => gg.length - (intOf v68).toNat)
        case atStart => exact ⟨0, .slice none 0 0, Nat.zero_le _, rfl, HBR0, ⟨Kd.R_nil _ _ _ _ _⟩, HBB0⟩
        case round =>
          clear HBR0 HBB0
          obtain ⟨wr3, hwr⟩ : ∃ x, x = wr := ⟨_, rfl⟩
          subst hwr
          obtain ⟨m, v, hm, rfl, HBL, HV, HBB⟩ := hrel
          by_cases hml : m < gg.length
          case neg =>
            obtain rfl : m = gg.length := by omega
            have hv := HV.out
            rw [List.take_length] at hv
            have HV2 := Aside0.mk hv
            clear hv HV
            have kb0 := (blk_cell HBL.out 0).trans rfl
            have kb1 := (blk_cell HBL.out 1).trans rfl
            have HO3 := Aside0.mk (Kd.R_below HO.out HBB.out)
            have HBJ3 := Aside0.mk (below_step HBP.out HBB.out)
            have HOL := Aside0.mk (show ((parts.take j).map runS).length ≤ 1000 by rw [List.length_map]; exact Nat.le_trans (List.length_take_le' _ _) HPL.out)
            have HOB := Aside0.mk (Kd.R_lt HO.out)
            generalize (parts.take j).map runS = acc at HO3 HOL HTK
            go_wp2_with (first | ((with_reducible refine gate_builtin (b := .append) (xs := #[.tmp 82, .tmp 84]) rfl ?_); at_builtin; refine Kd.R_append k47 (w0 := w2) w2.heap.size rfl (.tmp 82) (.tmp 84) 31 47 (.agg #[.int .i64 0, .slice none 0 0]) 32 rfl Try.underlying31 info47_ rfl (by decide) (by omega) u12 acc ⟨y2.f1, gg.map (fun x => x.f2.f4)⟩ [.int .i64 y2.f1, v] (fun _ => True) (fun k => wr2.heap.size ≤ k) rfl rfl ?aP ?aK ?aF ?aO ?aB ?aS ?aL ?_; (case aP => exact k47_mkM _ _ _ ⟨y2.f1, gg.map (fun x => x.f2.f4)⟩ (Kd.R_lower (Kd.R_mono (Kd.R_bound HV2.out) (fun k hk => hk.2.1)) HBP.out.size)); (case aK => exact fun k hk => ⟨trivial, fun he => by have := HOB.out k he.symm; omega⟩); (case aF => exact fun _ _ => trivial); (case aO => exact HO3.out); (case aB => exact HBJ3.out); (case aS => exact HBJ3.out.size); (case aL => have := HOL.out; omega); intro v5 w5 ho hb hg hat; have HO5 := Aside0.mk ho; have HB5 := Aside0.mk hb; clear ho hb hg hat) | fail)
            exact ⟨⟨j + 1, HJ.out, by go_num, ⟨by rw [HTK.out, HRG.out]; exact HO5.out⟩, HB5⟩, by rw [hw2]; exact meas HJ.out⟩
          obtain ⟨ad, A1, c1, x, ead, hx, hq, hK⟩ := at_told (Kd.C_below HCG.out HBB.out) m hml
          injection ead with ead
          subst ead
          obtain ⟨-, -, -, -, -, hl1, hg1⟩ := open_told hK
          have HMK := Aside0.mk (show (gg.take (m + 1)).map (fun x => x.f2.f4) = (gg.take m).map (fun x => x.f2.f4) ++ [x.f2.f4] by rw [List.take_add_one, hx, List.map_append]; rfl)
          have HCX := Aside0.mk (And.intro hg1 hl1)
          have HCF := Aside0.mk (show bytes_Clone.f x.f2.f4 = some x.f2.f4 by unfold bytes_Clone.f; rw [if_pos (HGG.out.2 x (List.mem_of_getElem? hx))])
          obtain ⟨q0, q1, q2, q3, q4, q5, q6, q7, q8, q9, q10, q11, q12⟩ := hq
          clear hx hK hl1 hg1
          have HML := Aside0.mk hml
          have hw3 : wrap64 ((m : Nat) + 1 : Int) = (m : Int) + 1 := by unfold wrap64; have := HGG.out.1; omega
          go_wp2_with fail
          have hpx := blk_new wr3 (.cells #[.int .i64 x.f0, .int .i64 x.f1, .int .i64 x.f2.f0, .int .i64 x.f2.f1, .int .i64 x.f2.f2, .int .u8 x.f2.f3.f0, .int .u8 x.f2.f3.f1, .int .u8 x.f2.f3.f2, .int .u8 x.f2.f3.f3, .int .u8 x.f2.f3.f4, .int .u8 x.f2.f3.f5, .slice A1 x.f2.f4.length c1, .int .i64 x.f2.f5] 56 (0, 0))
          have hbl := blk_alloc HBL.out (.cells #[.int .i64 x.f0, .int .i64 x.f1, .int .i64 x.f2.f0, .int .i64 x.f2.f1, .int .i64 x.f2.f2, .int .u8 x.f2.f3.f0, .int .u8 x.f2.f3.f1, .int .u8 x.f2.f3.f2, .int .u8 x.f2.f3.f3, .int .u8 x.f2.f3.f4, .int .u8 x.f2.f3.f5, .slice A1 x.f2.f4.length c1, .int .i64 x.f2.f5] 56 (0, 0))
          have hv3 := Kd.R_alloc HV.out (.cells #[.int .i64 x.f0, .int .i64 x.f1, .int .i64 x.f2.f0, .int .i64 x.f2.f1, .int .i64 x.f2.f2, .int .u8 x.f2.f3.f0, .int .u8 x.f2.f3.f1, .int .u8 x.f2.f3.f2, .int .u8 x.f2.f3.f3, .int .u8 x.f2.f3.f4, .int .u8 x.f2.f3.f5, .slice A1 x.f2.f4.length c1, .int .i64 x.f2.f5] 56 (0, 0))
          have hbb := below_alloc HBB.out (.cells #[.int .i64 x.f0, .int .i64 x.f1, .int .i64 x.f2.f0, .int .i64 x.f2.f1, .int .i64 x.f2.f2, .int .u8 x.f2.f3.f0, .int .u8 x.f2.f3.f1, .int .u8 x.f2.f3.f2, .int .u8 x.f2.f3.f3, .int .u8 x.f2.f3.f4, .int .u8 x.f2.f3.f5, .slice A1 x.f2.f4.length c1, .int .i64 x.f2.f5] 56 (0, 0))
          have hc3 := Kd.C_alloc HCX.out.1 (.cells #[.int .i64 x.f0, .int .i64 x.f1, .int .i64 x.f2.f0, .int .i64 x.f2.f1, .int .i64 x.f2.f2, .int .u8 x.f2.f3.f0, .int .u8 x.f2.f3.f1, .int .u8 x.f2.f3.f2, .int .u8 x.f2.f3.f3, .int .u8 x.f2.f3.f4, .int .u8 x.f2.f3.f5, .slice A1 x.f2.f4.length c1, .int .i64 x.f2.f5] 56 (0, 0))
          generalize wr3.alloc (.cells #[.int .i64 x.f0, .int .i64 x.f1, .int .i64 x.f2.f0, .int .i64 x.f2.f1, .int .i64 x.f2.f2, .int .u8 x.f2.f3.f0, .int .u8 x.f2.f3.f1, .int .u8 x.f2.f3.f2, .int .u8 x.f2.f3.f3, .int .u8 x.f2.f3.f4, .int .u8 x.f2.f3.f5, .slice A1 x.f2.f4.length c1, .int .i64 x.f2.f5] 56 (0, 0)) = W at hpx hbl hv3 hbb hc3 ⊢
          generalize wr3.heap.size = b at hpx ⊢
          have HPX := Aside0.mk hpx
          have HBLW := Aside0.mk hbl
          have HVW := Aside0.mk hv3
          have HBBW := Aside0.mk hbb
          have HCW := Aside0.mk (And.intro hc3 HCX.out.2)
          have HVL := Aside0.mk (Kd.R_lt hv3)
          have HBRL := Aside0.mk (blk_lt hbl)
          clear hpx hbl hv3 hbb hc3 HBL HV HBB HCX q0 q1 q2 q3 q4 q5 q6 q7 q8 q9 q10 q11 q12
          refine start_ (n := 10) (S := fun w' => w'.cell? ⟨br, 1, none⟩ = some v ∧ w'.cell? ⟨b, 11, none⟩ = some (.slice A1 x.f2.f4.length c1)) (ds := [7, 9]) #[false, false, false, false, false, false, false, false, false, false] (by kernel_rfl) rfl rfl ⟨(blk_cell HBLW.out 1).trans rfl, (blk_cell HPX.out 11).trans rfl⟩ (fun hHeld => ?_)
          refine pure_ (i := 0) (N := some 72) (v := ?_) (a' := ?_) #[true, false, false, false, false, false, false, false, false, false] rfl rfl (by kernel_rfl) (fun _ _ _ h => h) (Or.inl ⟨by rfl, ?_⟩) ?_ ?_
          rotate_left
          · intro w'
            go_simp
            with_reducible rfl
          rotate_left
          · simp only [Act.put, List.setIfInBounds_toArray, List.set_cons_zero, List.set_cons_succ, i64_w, i32_w]
            rfl
          refine pure_ (i := 2) (N := some 74) (v := ?_) (a' := ?_) #[true, false, true, false, false, false, false, false, false, false] rfl rfl (by kernel_rfl) (fun _ _ _ h => h) (Or.inl ⟨by rfl, ?_⟩) ?_ ?_
          rotate_left
          · intro w'
            go_simp
            with_reducible rfl
          rotate_left
          · simp only [Act.put, List.setIfInBounds_toArray, List.set_cons_zero, List.set_cons_succ, i64_w, i32_w]
            rfl
          refine pure_ (i := 3) (N := some 75) (v := ?_) (a' := ?_) #[true, false, true, true, false, false, false, false, false, false] rfl rfl (by kernel_rfl) (fun _ _ _ h => h) (Or.inl ⟨by rfl, ?_⟩) ?_ ?_
          rotate_left
          · intro w'
            go_simp
            with_reducible rfl
          rotate_left
          · simp only [Act.put, List.setIfInBounds_toArray, List.set_cons_zero, List.set_cons_succ, i64_w, i32_w]
            rfl
          refine take_ (i := 1) (N := some 73) (v := ?_) (a' := ?_) #[true, true, true, true, false, false, false, false, false, false] rfl rfl (by kernel_rfl) (fun _ _ _ h => h) (Or.inl ⟨by rfl, ?_⟩) hHeld ?_ ?_
          rotate_left
          · rintro w' ⟨s0, s1⟩
            go_simp
            with_reducible rfl
          rotate_left
          · simp only [Act.put, List.setIfInBounds_toArray, List.set_cons_zero, List.set_cons_succ, i64_w, i32_w]
            rfl
          refine take_ (i := 4) (N := some 76) (v := ?_) (a' := ?_) #[true, true, true, true, true, false, false, false, false, false] rfl rfl (by kernel_rfl) (fun _ _ _ h => h) (Or.inl ⟨by rfl, ?_⟩) hHeld ?_ ?_
          rotate_left
          · rintro w' ⟨s0, s1⟩
            go_simp
            with_reducible rfl
          rotate_left
          · simp only [Act.put, List.setIfInBounds_toArray, List.set_cons_zero, List.set_cons_succ, i64_w, i32_w]
            rfl
          refine one_ (i := 5) (N := some 77) #[true, true, true, true, true, true, false, false, false, false] rfl rfl (by kernel_rfl) (by decide) (fun K hK => ?_)
          refine goes_ Try.func26 (by kernel_rfl) rfl #[.slice A1 x.f2.f4.length c1] (by rfl) rfl rfl (by simp only [List.map_toArray, List.map_cons, List.map_nil]; rfl) ?_
          with_reducible refine (bytes_Clone.calls A1 c1 x.f2.f4 x.f2.f4 _ (by (repeat (with_reducible first | exact HCW.out.1 | apply Kd.C_drewN | apply Kd.C_drew))) HCW.out.2 HCF.out).mono ?_
          rintro e w4 ⟨v77, rfl, hR, hb⟩
          refine ⟨_, rfl, ?_⟩
          obtain ⟨A7, c7, rfl⟩ := Kd.R_slice hR
          have HR7 := Aside0.mk (show Kd.R (Kd.int .u8) 5 w4 wr2.heap.size (fun k => W.heap.size ≤ k) (.slice A7 x.f2.f4.length c7) x.f2.f4 from Kd.R_lower (Kd.R_mono (Kd.R_bound hR) (fun k hk => hk.2.1)) HBBW.out.size)
          have HV4 := Aside0.mk (Kd.R_below (by (repeat (with_reducible first | exact HVW.out | apply Kd.R_drewN | apply Kd.R_drew))) hb)
          have HB4 := Aside0.mk (below_step (by (repeat (with_reducible first | exact HBBW.out | apply pw_below_drewN | apply below_drew1 | apply below_drew))) hb)
          have HBL4 := Aside0.mk (blk_below (g := br) (o := (.cells #[.int .i64 y2.f1, v] 47 (0, 0))) (by (with_reducible repeat (first | refine blk_drewN ?_ _ | refine blk_drew ?_)); exact HBLW.out) hb)
          have HPX4 := Aside0.mk (blk_below (g := b) (o := .cells #[.int .i64 x.f0, .int .i64 x.f1, .int .i64 x.f2.f0, .int .i64 x.f2.f1, .int .i64 x.f2.f2, .int .u8 x.f2.f3.f0, .int .u8 x.f2.f3.f1, .int .u8 x.f2.f3.f2, .int .u8 x.f2.f3.f3, .int .u8 x.f2.f3.f4, .int .u8 x.f2.f3.f5, .slice A1 x.f2.f4.length c1, .int .i64 x.f2.f5] 56 (0, 0)) (by (with_reducible repeat (first | refine blk_drewN ?_ _ | refine blk_drew ?_)); exact HPX.out) hb)
          have HSZ4 := Aside0.mk (show W.heap.size ≤ w4.heap.size from hb.size)
          clear hR hb HVW HBBW HBLW HPX
          refine hK.out _ _ ⟨(blk_cell HBL4.out 1).trans rfl, (blk_cell HPX4.out 11).trans rfl⟩ (fun hHeld => ?_)
          clear hK K
          refine norm_ (a' := ?_) ?_ ?_
          rotate_left
          · show Act.put _ (some 77) _ = _
            simp only [Act.put, List.setIfInBounds_toArray, List.set_cons_zero, List.set_cons_succ, i64_w, i32_w]
            rfl
          refine one_ (i := 6) (N := some 78) #[true, true, true, true, true, true, true, false, false, false] rfl rfl (by kernel_rfl) (by decide) (fun K hK => ?_)
          have hh0 := hHeld
          refine value_ (w1 := ?_) (v := ?_) (by rfl) rfl ?_ ?_
          rotate_left 2
          · go_simp
            constructor
            · rfl
            · rfl
          refine hK.out _ _ ⟨pw_cell_below (below_alloc (Below.refl _ _) _) (hh0.1), pw_cell_below (below_alloc (Below.refl _ _) _) (hh0.2)⟩ (fun hHeld => ?_)
          clear hK K
          refine norm_ (a' := ?_) ?_ ?_
          rotate_left
          · show Act.put _ (some 78) _ = _
            simp only [Act.put, List.setIfInBounds_toArray, List.set_cons_zero, List.set_cons_succ, i64_w, i32_w]
            rfl
          refine last_ (i := 7) (N := some 79) #[true, true, true, true, true, true, true, true, false, false] rfl rfl (by kernel_rfl) (by decide) (fun K hK => ?_)
          try rw [drew_alloc_]
          refine Kd.R_append_step (Kd.slice 5 (Kd.int .u8)) (w0 := wr2) wr2.heap.size (by rfl) (.tmp 73) (.tmp 78) 22 42 (.slice none 0 0) 24 rfl Try.underlying22 info42_ rfl (by decide) (by omega) v ((gg.take m).map (fun x => x.f2.f4)) x.f2.f4 [.slice A7 x.f2.f4.length c7] (fun k => k ≠ br) (fun k => W.heap.size ≤ k) rfl rfl ?aP ?aK ?aF ?aO ?aB ?aS ?aL ?_
          (case aP => exact ⟨_, rfl, (by (repeat (with_reducible first | exact HR7.out | apply Kd.R_drewN | apply Kd.R_drew)))⟩)
          (case aK => exact fun k hk => ⟨fun he => by have := HBRL.out; omega, fun he => by have := HVL.out k he.symm; omega⟩)
          (case aF => exact fun k hk he => by have h1 := HBRL.out; have h2 := HSZ4.out; have h3 : w4.heap.size ≤ k := hk; omega)
          (case aO => exact (by (repeat (with_reducible first | exact HV4.out | apply Kd.R_drewN | apply Kd.R_drew))))
          (case aB => exact (by (repeat (with_reducible first | exact HB4.out | apply pw_below_drewN | apply below_drew1 | apply below_drew))))
          (case aS => exact below_size (by (repeat (with_reducible first | exact HB4.out | apply pw_below_drewN | apply below_drew1 | apply below_drew))))
          (case aL => have := HGG.out.1; have := HML.out; rw [List.length_map]; have := List.length_take_le m gg; omega)
          intro v1 w7 ho hb hg hat
          obtain ⟨Av, nv, cv, rfl⟩ : ∃ A n c, v1 = .slice A n c := by obtain ⟨A, c, e⟩ := Kd.R_slice ho; exact ⟨A, _, c, e⟩
          have HV7 := Aside0.mk ho
          have HBB7 := Aside0.mk hb
          have HBL7 := Aside0.mk (blk_grown (o := (.cells #[.int .i64 y2.f1, v] 47 (0, 0))) (by (with_reducible repeat (first | refine blk_drewN ?_ _ | refine blk_drew ?_)); exact HBL4.out) hg (fun he => HV4.out.1 br he.symm rfl))
          have hc1 := (blk_cell HBL7.out 1).trans rfl
          have hf1 := blk_frozen HBL7.out 1
          clear ho hb hg hat HR7 HV4 HB4 HBL4 HPX4
          refine hK.out _ _ ?_
          clear hK K
          refine norm_ (a' := ?_) ?_ ?_
          rotate_left
          · show Act.put _ (some 79) _ = _
            simp only [Act.put, List.setIfInBounds_toArray, List.set_cons_zero, List.set_cons_succ, i64_w, i32_w]
            rfl
          refine pure_ (i := 8) (N := some 80) (v := ?_) (a' := ?_) #[true, true, true, true, true, true, true, true, true, false] rfl rfl (by kernel_rfl) (fun _ _ _ h => h) (Or.inl ⟨by rfl, ?_⟩) ?_ ?_
          rotate_left
          · intro w'
            go_simp
            with_reducible rfl
          rotate_left
          · simp only [Act.put, List.setIfInBounds_toArray, List.set_cons_zero, List.set_cons_succ, i64_w, i32_w]
            rfl
          refine last_ (i := 9) (N := none) #[true, true, true, true, true, true, true, true, true, true] rfl rfl (by kernel_rfl) (by decide) (fun K hK => ?_)
          refine skip_ (w1 := ?_) (by rfl) rfl ?_ ?_
          rotate_left
          · go_simp
            rfl
          refine hK.out _ _ ?_
          clear hK K
          refine done_ (by kernel_rfl) ?_
          have HVS := Aside0.mk (Kd.R_far HV7.out (p := ⟨br, 1, none⟩) (fun k hk => hk) (.slice Av nv cv))
          have HBLS := Aside0.mk (show (w7.setCell ⟨br, 1, none⟩ (.slice Av nv cv)).heap[br]? = some (.cells #[.int .i64 y2.f1, .slice Av nv cv] 47 (0, 0)) from blk_put HBL7.out 1 _ rfl)
          have HBBS := Aside0.mk (show Below wr2.heap.size wr2 (w7.setCell ⟨br, 1, none⟩ (.slice Av nv cv)) from below_set HBB7.out (Nat.le_of_eq HBRE.out))
          clear HV7 HBL7 HBB7
          go_wp2_with fail
          exact ⟨⟨m + 1, .slice Av nv cv, HML.out, by go_num, HBLS, ⟨by rw [HMK.out]; exact HVS.out⟩, HBBS⟩, by rw [hw3]; exact meas HML.out⟩
    obtain ⟨ad, A1, c1, x, ead, hx, hq, hK⟩ := at_told HR.out i hlt
    cases ead
    have HTF := Aside0.mk (take_filter (mineB a1 a2 p0 p1 p2 p3 p4 p5) l i x hx)
    have HAL := Aside0.mk (show ((l.take i).filter (mineB a1 a2 p0 p1 p2 p3 p4 p5)).length ≤ 1000 from Nat.le_trans (List.length_filter_le _ _) (Nat.le_trans (List.length_take_le' _ _) HL.out))
    have HK := Aside0.mk hK
    generalize (l.take i).filter (mineB a1 a2 p0 p1 p2 p3 p4 p5) = acc at HM HTF HAL
    obtain ⟨q0, q1, q2, q3, q4, q5, q6, q7, q8, q9, q10, q11, q12⟩ := hq
    replace q0 := pw_cell_below HB.out q0
    replace q1 := pw_cell_below HB.out q1
    replace q2 := pw_cell_below HB.out q2
    replace q3 := pw_cell_below HB.out q3
    replace q4 := pw_cell_below HB.out q4
    replace q5 := pw_cell_below HB.out q5
    replace q6 := pw_cell_below HB.out q6
    replace q7 := pw_cell_below HB.out q7
    replace q8 := pw_cell_below HB.out q8
    replace q9 := pw_cell_below HB.out q9
    replace q10 := pw_cell_below HB.out q10
    replace q11 := pw_cell_below HB.out q11
    replace q12 := pw_cell_below HB.out q12
    have b0 : ∀ o, (wr.alloc o).cell? ⟨w.heap.size, 0, none⟩ = some (.int .u8 p0) := fun o => (blk_cell (blk_alloc HP.out o) 0).trans rfl
    have b1 : ∀ o, (wr.alloc o).cell? ⟨w.heap.size, 1, none⟩ = some (.int .u8 p1) := fun o => (blk_cell (blk_alloc HP.out o) 1).trans rfl
    have b2 : ∀ o, (wr.alloc o).cell? ⟨w.heap.size, 2, none⟩ = some (.int .u8 p2) := fun o => (blk_cell (blk_alloc HP.out o) 2).trans rfl
    have b3 : ∀ o, (wr.alloc o).cell? ⟨w.heap.size, 3, none⟩ = some (.int .u8 p3) := fun o => (blk_cell (blk_alloc HP.out o) 3).trans rfl
    have b4 : ∀ o, (wr.alloc o).cell? ⟨w.heap.size, 4, none⟩ = some (.int .u8 p4) := fun o => (blk_cell (blk_alloc HP.out o) 4).trans rfl
    have b5 : ∀ o, (wr.alloc o).cell? ⟨w.heap.size, 5, none⟩ = some (.int .u8 p5) := fun o => (blk_cell (blk_alloc HP.out o) 5).trans rfl
    have z0 : (wr.alloc (.cells #[.int .i64 x.f0, .int .i64 x.f1, .int .i64 x.f2.f0, .int .i64 x.f2.f1, .int .i64 x.f2.f2, .int .u8 x.f2.f3.f0, .int .u8 x.f2.f3.f1, .int .u8 x.f2.f3.f2, .int .u8 x.f2.f3.f3, .int .u8 x.f2.f3.f4, .int .u8 x.f2.f3.f5, .slice A1 x.f2.f4.length c1, .int .i64 x.f2.f5] 56 (0, 0))).cell? ⟨wr.heap.size, 0, none⟩ = some (.int .i64 x.f0) := (blk_cell (blk_new wr _) 0).trans rfl
    have z1 : (wr.alloc (.cells #[.int .i64 x.f0, .int .i64 x.f1, .int .i64 x.f2.f0, .int .i64 x.f2.f1, .int .i64 x.f2.f2, .int .u8 x.f2.f3.f0, .int .u8 x.f2.f3.f1, .int .u8 x.f2.f3.f2, .int .u8 x.f2.f3.f3, .int .u8 x.f2.f3.f4, .int .u8 x.f2.f3.f5, .slice A1 x.f2.f4.length c1, .int .i64 x.f2.f5] 56 (0, 0))).cell? ⟨wr.heap.size, 1, none⟩ = some (.int .i64 x.f1) := (blk_cell (blk_new wr _) 1).trans rfl
    have z2 : (wr.alloc (.cells #[.int .i64 x.f0, .int .i64 x.f1, .int .i64 x.f2.f0, .int .i64 x.f2.f1, .int .i64 x.f2.f2, .int .u8 x.f2.f3.f0, .int .u8 x.f2.f3.f1, .int .u8 x.f2.f3.f2, .int .u8 x.f2.f3.f3, .int .u8 x.f2.f3.f4, .int .u8 x.f2.f3.f5, .slice A1 x.f2.f4.length c1, .int .i64 x.f2.f5] 56 (0, 0))).cell? ⟨wr.heap.size, 2, none⟩ = some (.int .i64 x.f2.f0) := (blk_cell (blk_new wr _) 2).trans rfl
    have z3 : (wr.alloc (.cells #[.int .i64 x.f0, .int .i64 x.f1, .int .i64 x.f2.f0, .int .i64 x.f2.f1, .int .i64 x.f2.f2, .int .u8 x.f2.f3.f0, .int .u8 x.f2.f3.f1, .int .u8 x.f2.f3.f2, .int .u8 x.f2.f3.f3, .int .u8 x.f2.f3.f4, .int .u8 x.f2.f3.f5, .slice A1 x.f2.f4.length c1, .int .i64 x.f2.f5] 56 (0, 0))).cell? ⟨wr.heap.size, 3, none⟩ = some (.int .i64 x.f2.f1) := (blk_cell (blk_new wr _) 3).trans rfl
    have z4 : (wr.alloc (.cells #[.int .i64 x.f0, .int .i64 x.f1, .int .i64 x.f2.f0, .int .i64 x.f2.f1, .int .i64 x.f2.f2, .int .u8 x.f2.f3.f0, .int .u8 x.f2.f3.f1, .int .u8 x.f2.f3.f2, .int .u8 x.f2.f3.f3, .int .u8 x.f2.f3.f4, .int .u8 x.f2.f3.f5, .slice A1 x.f2.f4.length c1, .int .i64 x.f2.f5] 56 (0, 0))).cell? ⟨wr.heap.size, 4, none⟩ = some (.int .i64 x.f2.f2) := (blk_cell (blk_new wr _) 4).trans rfl
    have z5 : (wr.alloc (.cells #[.int .i64 x.f0, .int .i64 x.f1, .int .i64 x.f2.f0, .int .i64 x.f2.f1, .int .i64 x.f2.f2, .int .u8 x.f2.f3.f0, .int .u8 x.f2.f3.f1, .int .u8 x.f2.f3.f2, .int .u8 x.f2.f3.f3, .int .u8 x.f2.f3.f4, .int .u8 x.f2.f3.f5, .slice A1 x.f2.f4.length c1, .int .i64 x.f2.f5] 56 (0, 0))).cell? ⟨wr.heap.size, 5, none⟩ = some (.int .u8 x.f2.f3.f0) := (blk_cell (blk_new wr _) 5).trans rfl
    have z6 : (wr.alloc (.cells #[.int .i64 x.f0, .int .i64 x.f1, .int .i64 x.f2.f0, .int .i64 x.f2.f1, .int .i64 x.f2.f2, .int .u8 x.f2.f3.f0, .int .u8 x.f2.f3.f1, .int .u8 x.f2.f3.f2, .int .u8 x.f2.f3.f3, .int .u8 x.f2.f3.f4, .int .u8 x.f2.f3.f5, .slice A1 x.f2.f4.length c1, .int .i64 x.f2.f5] 56 (0, 0))).cell? ⟨wr.heap.size, 6, none⟩ = some (.int .u8 x.f2.f3.f1) := (blk_cell (blk_new wr _) 6).trans rfl
    have z7 : (wr.alloc (.cells #[.int .i64 x.f0, .int .i64 x.f1, .int .i64 x.f2.f0, .int .i64 x.f2.f1, .int .i64 x.f2.f2, .int .u8 x.f2.f3.f0, .int .u8 x.f2.f3.f1, .int .u8 x.f2.f3.f2, .int .u8 x.f2.f3.f3, .int .u8 x.f2.f3.f4, .int .u8 x.f2.f3.f5, .slice A1 x.f2.f4.length c1, .int .i64 x.f2.f5] 56 (0, 0))).cell? ⟨wr.heap.size, 7, none⟩ = some (.int .u8 x.f2.f3.f2) := (blk_cell (blk_new wr _) 7).trans rfl
    have z8 : (wr.alloc (.cells #[.int .i64 x.f0, .int .i64 x.f1, .int .i64 x.f2.f0, .int .i64 x.f2.f1, .int .i64 x.f2.f2, .int .u8 x.f2.f3.f0, .int .u8 x.f2.f3.f1, .int .u8 x.f2.f3.f2, .int .u8 x.f2.f3.f3, .int .u8 x.f2.f3.f4, .int .u8 x.f2.f3.f5, .slice A1 x.f2.f4.length c1, .int .i64 x.f2.f5] 56 (0, 0))).cell? ⟨wr.heap.size, 8, none⟩ = some (.int .u8 x.f2.f3.f3) := (blk_cell (blk_new wr _) 8).trans rfl
    have z9 : (wr.alloc (.cells #[.int .i64 x.f0, .int .i64 x.f1, .int .i64 x.f2.f0, .int .i64 x.f2.f1, .int .i64 x.f2.f2, .int .u8 x.f2.f3.f0, .int .u8 x.f2.f3.f1, .int .u8 x.f2.f3.f2, .int .u8 x.f2.f3.f3, .int .u8 x.f2.f3.f4, .int .u8 x.f2.f3.f5, .slice A1 x.f2.f4.length c1, .int .i64 x.f2.f5] 56 (0, 0))).cell? ⟨wr.heap.size, 9, none⟩ = some (.int .u8 x.f2.f3.f4) := (blk_cell (blk_new wr _) 9).trans rfl
    have z10 : (wr.alloc (.cells #[.int .i64 x.f0, .int .i64 x.f1, .int .i64 x.f2.f0, .int .i64 x.f2.f1, .int .i64 x.f2.f2, .int .u8 x.f2.f3.f0, .int .u8 x.f2.f3.f1, .int .u8 x.f2.f3.f2, .int .u8 x.f2.f3.f3, .int .u8 x.f2.f3.f4, .int .u8 x.f2.f3.f5, .slice A1 x.f2.f4.length c1, .int .i64 x.f2.f5] 56 (0, 0))).cell? ⟨wr.heap.size, 10, none⟩ = some (.int .u8 x.f2.f3.f5) := (blk_cell (blk_new wr _) 10).trans rfl
    have z11 : (wr.alloc (.cells #[.int .i64 x.f0, .int .i64 x.f1, .int .i64 x.f2.f0, .int .i64 x.f2.f1, .int .i64 x.f2.f2, .int .u8 x.f2.f3.f0, .int .u8 x.f2.f3.f1, .int .u8 x.f2.f3.f2, .int .u8 x.f2.f3.f3, .int .u8 x.f2.f3.f4, .int .u8 x.f2.f3.f5, .slice A1 x.f2.f4.length c1, .int .i64 x.f2.f5] 56 (0, 0))).cell? ⟨wr.heap.size, 11, none⟩ = some (.slice A1 x.f2.f4.length c1) := (blk_cell (blk_new wr _) 11).trans rfl
    have z12 : (wr.alloc (.cells #[.int .i64 x.f0, .int .i64 x.f1, .int .i64 x.f2.f0, .int .i64 x.f2.f1, .int .i64 x.f2.f2, .int .u8 x.f2.f3.f0, .int .u8 x.f2.f3.f1, .int .u8 x.f2.f3.f2, .int .u8 x.f2.f3.f3, .int .u8 x.f2.f3.f4, .int .u8 x.f2.f3.f5, .slice A1 x.f2.f4.length c1, .int .i64 x.f2.f5] 56 (0, 0))).cell? ⟨wr.heap.size, 12, none⟩ = some (.int .i64 x.f2.f5) := (blk_cell (blk_new wr _) 12).trans rfl
    clear hx hK
    have HSZ := Aside0.mk (show wr.heap.size + 1 = (wr.alloc (.cells #[.int .i64 x.f0, .int .i64 x.f1, .int .i64 x.f2.f0, .int .i64 x.f2.f1, .int .i64 x.f2.f2, .int .u8 x.f2.f3.f0, .int .u8 x.f2.f3.f1, .int .u8 x.f2.f3.f2, .int .u8 x.f2.f3.f3, .int .u8 x.f2.f3.f4, .int .u8 x.f2.f3.f5, .slice A1 x.f2.f4.length c1, .int .i64 x.f2.f5] 56 (0, 0))).heap.size from (Array.size_push _).symm)
    have hw1 : wrap64 ((i : Nat) + 1 : Int) = (i : Int) + 1 := by unfold wrap64; have := HL.out; omega
    cases h9 : (x.f2.f0 == 9) with
    | false =>
      have HQF := Aside0.mk (show mineB a1 a2 p0 p1 p2 p3 p4 p5 x = false by unfold mineB; rw [h9]; rfl)
      go_wp2_with fail
      exact ⟨⟨i + 1, by omega, by go_num, ⟨by rw [HTF.out, HQF.out, if_neg (by decide), List.append_nil]; exact Kd.R_alloc HM.out _⟩, ⟨blk_alloc HP.out _⟩, ⟨below_alloc HB.out _⟩⟩, by rw [hw1]; exact meas hlt⟩
    | true =>
      cases h1 : (x.f2.f1 == a1) with
      | false =>
        have HQF := Aside0.mk (show mineB a1 a2 p0 p1 p2 p3 p4 p5 x = false by unfold mineB; rw [h9, h1]; rfl)
        go_wp2_with fail
        exact ⟨⟨i + 1, by omega, by go_num, ⟨by rw [HTF.out, HQF.out, if_neg (by decide), List.append_nil]; exact Kd.R_alloc HM.out _⟩, ⟨blk_alloc HP.out _⟩, ⟨below_alloc HB.out _⟩⟩, by rw [hw1]; exact meas hlt⟩
      | true =>
        cases h2 : (x.f2.f2 == a2) with
        | false =>
          have HQF := Aside0.mk (show mineB a1 a2 p0 p1 p2 p3 p4 p5 x = false by unfold mineB; rw [h9, h1, h2]; rfl)
          go_wp2_with fail
          exact ⟨⟨i + 1, by omega, by go_num, ⟨by rw [HTF.out, HQF.out, if_neg (by decide), List.append_nil]; exact Kd.R_alloc HM.out _⟩, ⟨blk_alloc HP.out _⟩, ⟨below_alloc HB.out _⟩⟩, by rw [hw1]; exact meas hlt⟩
        | true =>
          cases h3 : (x.f2.f3.f0 == p0 && (x.f2.f3.f1 == p1 && (x.f2.f3.f2 == p2 && (x.f2.f3.f3 == p3 && (x.f2.f3.f4 == p4 && (x.f2.f3.f5 == p5)))))) with
          | false =>
            have hpe : ∀ d W, (Op.equalIn (d + 2) 37 (.agg #[.int .u8 x.f2.f3.f0, .int .u8 x.f2.f3.f1, .int .u8 x.f2.f3.f2, .int .u8 x.f2.f3.f3, .int .u8 x.f2.f3.f4, .int .u8 x.f2.f3.f5]) (.agg #[.int .u8 p0, .int .u8 p1, .int .u8 p2, .int .u8 p3, .int .u8 p4, .int .u8 p5])).run Try.prog W = .ok false W := fun d W => by rw [eqA37, h3]
            have HQF := Aside0.mk (show mineB a1 a2 p0 p1 p2 p3 p4 p5 x = false by unfold mineB; rw [h9, h1, h2, h3]; rfl)
            go_wp2_with fail
            exact ⟨⟨i + 1, by omega, by go_num, ⟨by rw [HTF.out, HQF.out, if_neg (by decide), List.append_nil]; exact Kd.R_alloc HM.out _⟩, ⟨blk_alloc HP.out _⟩, ⟨below_alloc HB.out _⟩⟩, by rw [hw1]; exact meas hlt⟩
          | true =>
            have hpe : ∀ d W, (Op.equalIn (d + 2) 37 (.agg #[.int .u8 x.f2.f3.f0, .int .u8 x.f2.f3.f1, .int .u8 x.f2.f3.f2, .int .u8 x.f2.f3.f3, .int .u8 x.f2.f3.f4, .int .u8 x.f2.f3.f5]) (.agg #[.int .u8 p0, .int .u8 p1, .int .u8 p2, .int .u8 p3, .int .u8 p4, .int .u8 p5])).run Try.prog W = .ok true W := fun d W => by rw [eqA37, h3]
            have HQT := Aside0.mk (show mineB a1 a2 p0 p1 p2 p3 p4 p5 x = true by unfold mineB; rw [h9, h1, h2, h3]; rfl)
            go_wp2_with (first | ((with_reducible refine gate_builtin (b := .append) (xs := #[.tmp 49, .tmp 51]) rfl ?_); at_builtin; refine Kd.R_append (Kd.fixed k56 w) (w0 := w) w.heap.size rfl (.tmp 49) (.tmp 51) 40 56 (.agg #[.int .i64 0, .int .i64 0, .int .i64 0, .int .i64 0, .int .i64 0, .int .u8 0, .int .u8 0, .int .u8 0, .int .u8 0, .int .u8 0, .int .u8 0, .slice none 0 0, .int .i64 0]) 80 rfl Try.underlying40 info56_ rfl (show 0 < 13 by decide) (by omega) u9 acc x [.int .i64 x.f0, .int .i64 x.f1, .int .i64 x.f2.f0, .int .i64 x.f2.f1, .int .i64 x.f2.f2, .int .u8 x.f2.f3.f0, .int .u8 x.f2.f3.f1, .int .u8 x.f2.f3.f2, .int .u8 x.f2.f3.f3, .int .u8 x.f2.f3.f4, .int .u8 x.f2.f3.f5, .slice A1 x.f2.f4.length c1, .int .i64 x.f2.f5] (fun _ => True) (fun _ => False) rfl (congrArg (fun n => Value.slice (some ⟨n, 0, none⟩) 1 1) HSZ.out) ?aP (fun _ hk => hk.elim) ?aF ?aO ?aB ?aS ?aL ?_; (case aP => exact HK.out); (case aF => exact fun _ _ => trivial); (case aO => exact Kd.R_alloc HM.out _); (case aB => exact below_alloc HB.out _); (case aS => exact below_size (below_alloc HB.out _)); (case aL => have := HAL.out; omega); intro v5 w5 ho hb hg hat; have HM5 := Aside0.mk ho; have HB5 := Aside0.mk hb; have HP5 := Aside0.mk (blk_only_ (o := .cells #[] 0 (0, 0)) (blk_alloc HP.out _) hg hat (Kd.R_typed (Kd.R_alloc HM.out _)) (by decide)); clear ho hb hg hat) | fail)
            exact ⟨⟨i + 1, by omega, by go_num, ⟨by rw [HTF.out, HQT.out, if_pos rfl]; exact HM5.out⟩, HP5, HB5⟩, by rw [hw1]; exact meas hlt⟩

end Go.Proofs.Ythdjdhcdhaicoaa.P
