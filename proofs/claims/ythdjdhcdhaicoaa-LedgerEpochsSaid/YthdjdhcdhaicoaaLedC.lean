-- Written by this session: rows cut by what makes them one (ledger.cut): its contract.
import Derived.Test.YthdjdhcdhaicoaaPx0
import Derived.Test.YthdjdhcdhaicoaaRunsL
import Derived.RegionTactic
import Derived.Deep.QuietTactic
import Derived.BigQuiet
namespace Go.Proofs.Ythdjdhcdhaicoaa.P
open Go.RowKit Go.Proofs.YthdjdhcdhaicoaaW.PrintWords Go.Proofs.YthdjdhcdhaicoaaW.PrintLast Go.Proofs.YthdjdhcdhaicoaaW.PrintMore
set_option linter.unusedVariables false
set_option linter.unusedSimpArgs false
section
variable {P : Program} {md : Region.Mode} {ops : Array Oper} {Q : Exit → Act → World → Prop}
theorem goesV_ {oi : Oper} {N : Option Tmp} {a : Act} {w : World} {K : Act → World → Prop} {f : FuncId} {fn : Func} {xs : Array Operand} {ts : Array TypeId} (hf : P.funcs[f]? = some fn) (hname : (fn.name == "runtime.NumGoroutine") = false) (hb : fn.body.isSome = true) (args : Array Value)
    (hw : Region.wanted oi (yielded ops a.tmps) = true) (hN : oi.dst = N) (x : Operand) (hop : oi.op = .call { callee := .value x, args := xs, argTypes := ts }) (hx : a.eval x = .func (.func f) #[] #[]) (hargs : xs.map a.eval = args)
    (h : Calls P f args w fun e w' => ∃ v, e = .returned v ∧ K (a.put N v) w') : if Region.wanted oi (yielded ops a.tmps) = true then Oper.wp P oi a w K Q else K (a.put N undef) w := by
  refine call_ f args hw hN ?_ h
  have he := enters_ hf hname hb args w
  unfold execOp
  simp [hop, resolve, Deferred.ofValue, invoke, hx, hargs, he]
end
/-- A row whose elements came: read in a later world. -/
theorem C_came {α : Type} {d : Kd α} {w0 W : World} {A : Option Addr} {n : Nat} {xs : List α} (h : (Kd.fixed d w0).C W A n xs) (hb : Below w0.heap.size w0 W) : d.C W A n xs := ReadsRow.imp_ h (Below.refl _ _) (fun _ _ hp => d.K_below hb hp)
set_option maxHeartbeats 4000000 in
set_option maxRecDepth 100000 in
/-- Are two of one epoch? -/
theorem runs_one.calls (x y : S56) (A B : Option Addr) (c d : Nat) (w : World) :
    Calls Try.prog 25 #[.agg #[.int .i64 x.f0, .int .i64 x.f1, .int .i64 x.f2.f0, .int .i64 x.f2.f1, .int .i64 x.f2.f2, .int .u8 x.f2.f3.f0, .int .u8 x.f2.f3.f1, .int .u8 x.f2.f3.f2, .int .u8 x.f2.f3.f3, .int .u8 x.f2.f3.f4, .int .u8 x.f2.f3.f5, .slice A x.f2.f4.length c, .int .i64 x.f2.f5], .agg #[.int .i64 y.f0, .int .i64 y.f1, .int .i64 y.f2.f0, .int .i64 y.f2.f1, .int .i64 y.f2.f2, .int .u8 y.f2.f3.f0, .int .u8 y.f2.f3.f1, .int .u8 y.f2.f3.f2, .int .u8 y.f2.f3.f3, .int .u8 y.f2.f3.f4, .int .u8 y.f2.f3.f5, .slice B y.f2.f4.length d, .int .i64 y.f2.f5]] w fun e w' => e = .returned (.bool (x.f1 == y.f1)) ∧ Below w.heap.size w w' := by
  have h1 : ∀ o o', ((w.alloc o).alloc o').heap.size = w.heap.size + 1 + 1 := fun o o' => by rw [show ((w.alloc o).alloc o').heap = (w.heap.push o).push o' from rfl]; simp
  go_enter Try.func25, Try.ntmps25
  go_wp2
  go_ret
  exact ⟨rfl, below_alloc (below_alloc (Below.refl _ _) _) _⟩

theorem info42_ : (Try.prog.info? 42).map (fun i => (i.zero, i.size, i.bytes)) = some (some (.slice none 0 0), 1, 24) := by kernel_rfl
theorem info47_ : (Try.prog.info? 47).map (fun i => (i.zero, i.size, i.bytes)) = some (some (.agg #[.int .i64 0, .slice none 0 0]), 2, 32) := by kernel_rfl
theorem info27_ : (Try.prog.info? 27).map (fun i => (i.zero, i.size, i.bytes)) = some (some (.agg #[.int .i64 0, .slice none 0 0]), 2, 32) := by kernel_rfl
theorem info5_ : (Try.prog.info? 5).map (fun i => (i.zero, i.size, i.bytes)) = some (some (.int .u8 0), 1, 1) := by kernel_rfl
theorem info40_ : (Try.prog.info? 40).map (fun i => (i.zero, i.size, i.bytes)) = some (some (.slice none 0 0), 1, 24) := by kernel_rfl
theorem info56_ : (Try.prog.info? 56).map (fun i => (i.zero, i.size, i.bytes)) = some (some (.agg #[.int .i64 0, .int .i64 0, .int .i64 0, .int .i64 0, .int .i64 0, .int .u8 0, .int .u8 0, .int .u8 0, .int .u8 0, .int .u8 0, .int .u8 0, .slice none 0 0, .int .i64 0]), 13, 80) := by kernel_rfl
abbrev ep56 (x : S56) : Int := x.f1
abbrev kL (w : World) : Kd (List S56) := Kd.slice 56 (Kd.fixed k56 w)
theorem blk_only_ {W W1 : World} {b : Nat} {o : Obj} {v v1 : Value} {cs : Array Value} {t e : TypeId} (h : W.heap[b]? = some (.cells cs t (0, 0))) (hg : W.grownBy W1 v.ownBlock) (hat : v1.ownBlock = v.ownBlock ∨ ∃ b, v1.ownBlock = some b ∧ W.heap.size ≤ b) (hty : ∀ k, v.ownBlock = some k → ∃ cells, W.heap[k]? = some (.cells cells e (0, 0))) (hne : e ≠ t) : W1.heap[b]? = some (.cells cs t (0, 0)) := by
  refine (hg.block b (blk_lt h) (fun he => ?_)).trans h
  obtain ⟨cells, hc⟩ := hty b he.symm
  rw [hc] at h
  injection h with h
  injection h with _ h _
  exact hne h
theorem drew_alloc_ (w : World) (o : Obj) : (w.alloc o).drew = w.drew.alloc o := rfl
theorem cut_put {w W : World} {g cap m : Nat} {o : List (List S56)} {oki : Nat → Prop} {vl v1 : Value} {last : List S56} (hH : Kd.H (kL w) 40 W w.heap.size (fun _ => True) (.slice (some ⟨g, 0, none⟩) (m + 1) cap) o (m : Int) oki [vl]) (hR : Kd.R (Kd.fixed k56 w) 56 W w.heap.size oki v1 last) :
    Kd.S (kL w) 40 (W.setCell ⟨g, m, none⟩ v1) w.heap.size (fun _ => True) (.slice (some ⟨g, 0, none⟩) (m + 1) cap) (o.set m last) ∧ W.grownBy (W.setCell ⟨g, m, none⟩ v1) (some g) := by
  have h := Kd.S_seg0 hH (by omega) (by omega) (seg := [v1]) (j := 0) (Nat.le_refl 1) (x' := last) (okp := oki) ⟨v1, rfl, hR⟩ (fun _ h => h)
  have e : (m : Int).toNat * (kL w).sz + 0 = m := by show (m : Int).toNat * 1 + 0 = m; omega
  rw [e, Int.toNat_natCast] at h
  exact h
theorem cut_form {w W : World} {v : Value} {o : List (List S56)} {m : Nat} (h : Kd.S (kL w) 40 W w.heap.size (fun _ => True) v o) (hm : o.length = m + 1) : ∃ g cap, v = .slice (some ⟨g, 0, none⟩) (m + 1) cap ∧ w.heap.size ≤ g := by
  obtain ⟨g, cap, e, hg, _⟩ := Kd.S_form h (by omega)
  exact ⟨g, cap, by rw [e, hm], hg⟩
/-- The last part lent: its row, where it lies, and the rest. -/
theorem cut_lend {w W : World} {g cap m : Nat} {o : List (List S56)} (hS : Kd.S (kL w) 40 W w.heap.size (fun _ => True) (.slice (some ⟨g, 0, none⟩) (m + 1) cap) o) :
    ∃ oki vl, Kd.R (Kd.fixed k56 w) 56 W w.heap.size oki vl (o.getD m []) ∧ W.cell? ⟨g, m, none⟩ = some vl ∧ Kd.H (kL w) 40 W w.heap.size (fun _ => True) (.slice (some ⟨g, 0, none⟩) (m + 1) cap) o (m : Int) oki [vl] := by
  obtain ⟨oki, c, hcl, hM, hcc, hoki, hH⟩ := Kd.S_lend hS [] (m : Int) (by omega) (by omega)
  rw [Int.toNat_natCast] at hM hcc
  obtain ⟨vl, rfl, hR⟩ := hM
  refine ⟨oki, vl, hR, ?_, hH⟩
  have := hcc 0 vl rfl
  rwa [show m * (kL w).sz + 0 = m by show m * 1 + 0 = m; omega] at this
theorem cut_at {w W : World} {g cap m : Nat} {o : List (List S56)} {oki : Nat → Prop} {vl : Value} (hH : Kd.H (kL w) 40 W w.heap.size (fun _ => True) (.slice (some ⟨g, 0, none⟩) (m + 1) cap) o (m : Int) oki [vl]) : W.cell? ⟨g, m, none⟩ = some vl ∧ W.frozen? ⟨g, m, none⟩ = false := by
  obtain ⟨h1, h2⟩ := Kd.H_at hH (by omega) (by omega)
  have h3 := h1 0 vl rfl
  have h4 := h2 0
  have e : (m : Int).toNat * (kL w).sz + 0 = m := by show (m : Int).toNat * 1 + 0 = m; omega
  rw [e] at h3 h4
  exact ⟨h3, h4⟩
/-- Element i of a row of what was told: its cells, and that they are it. -/
theorem at_told {w : World} {A : Option Addr} {n : Nat} {xs : List S56} (h : Kd.C k56 w A n xs) (i : Nat) (hi : i < xs.length) : ∃ ad A1 c1 x, A = some ad ∧ xs[i]? = some x ∧ (w.cell? (ad.add (i * 13)) = some (.int .i64 x.f0) ∧ w.cell? ⟨(ad.add (i * 13)).block, (ad.add (i * 13)).off + 1, none⟩ = some (.int .i64 x.f1) ∧ w.cell? ⟨(ad.add (i * 13)).block, (ad.add (i * 13)).off + 2, none⟩ = some (.int .i64 x.f2.f0) ∧ w.cell? ⟨(ad.add (i * 13)).block, (ad.add (i * 13)).off + 3, none⟩ = some (.int .i64 x.f2.f1) ∧ w.cell? ⟨(ad.add (i * 13)).block, (ad.add (i * 13)).off + 4, none⟩ = some (.int .i64 x.f2.f2) ∧ w.cell? ⟨(ad.add (i * 13)).block, (ad.add (i * 13)).off + 5, none⟩ = some (.int .u8 x.f2.f3.f0) ∧ w.cell? ⟨(ad.add (i * 13)).block, (ad.add (i * 13)).off + 6, none⟩ = some (.int .u8 x.f2.f3.f1) ∧ w.cell? ⟨(ad.add (i * 13)).block, (ad.add (i * 13)).off + 7, none⟩ = some (.int .u8 x.f2.f3.f2) ∧ w.cell? ⟨(ad.add (i * 13)).block, (ad.add (i * 13)).off + 8, none⟩ = some (.int .u8 x.f2.f3.f3) ∧ w.cell? ⟨(ad.add (i * 13)).block, (ad.add (i * 13)).off + 9, none⟩ = some (.int .u8 x.f2.f3.f4) ∧ w.cell? ⟨(ad.add (i * 13)).block, (ad.add (i * 13)).off + 10, none⟩ = some (.int .u8 x.f2.f3.f5) ∧ w.cell? ⟨(ad.add (i * 13)).block, (ad.add (i * 13)).off + 11, none⟩ = some (.slice A1 x.f2.f4.length c1) ∧ w.cell? ⟨(ad.add (i * 13)).block, (ad.add (i * 13)).off + 12, none⟩ = some (.int .i64 x.f2.f5)) ∧ k56.K w x [.int .i64 x.f0, .int .i64 x.f1, .int .i64 x.f2.f0, .int .i64 x.f2.f1, .int .i64 x.f2.f2, .int .u8 x.f2.f3.f0, .int .u8 x.f2.f3.f1, .int .u8 x.f2.f3.f2, .int .u8 x.f2.f3.f3, .int .u8 x.f2.f3.f4, .int .u8 x.f2.f3.f5, .slice A1 x.f2.f4.length c1, .int .i64 x.f2.f5] := by
  have hn : xs.length = n := h.1
  obtain ⟨ad, c, e, _, hK, hc0⟩ := Kd.C_get h z56 (i : Int) (by omega) (by omega)
  have hc : ∀ j u, c[j]? = some u → w.cell? (ad.add ((i : Int).toNat * 13 + j)) = some u := hc0
  rw [Int.toNat_natCast] at hK hc
  obtain ⟨x, hx⟩ : ∃ x, xs.getD i z56 = x := ⟨_, rfl⟩
  rw [hx] at hK
  obtain ⟨A1, c1, rfl, l1, g1⟩ := k56_open hK
  exact ⟨ad, A1, c1, x, e, by rw [← hx, List.getD_eq_getElem?_getD, List.getElem?_eq_getElem hi]; rfl, ⟨hc 0 _ rfl, by rw [← add_field _ _ 1 (by omega)]; exact hc 1 _ rfl, by rw [← add_field _ _ 2 (by omega)]; exact hc 2 _ rfl, by rw [← add_field _ _ 3 (by omega)]; exact hc 3 _ rfl, by rw [← add_field _ _ 4 (by omega)]; exact hc 4 _ rfl, by rw [← add_field _ _ 5 (by omega)]; exact hc 5 _ rfl, by rw [← add_field _ _ 6 (by omega)]; exact hc 6 _ rfl, by rw [← add_field _ _ 7 (by omega)]; exact hc 7 _ rfl, by rw [← add_field _ _ 8 (by omega)]; exact hc 8 _ rfl, by rw [← add_field _ _ 9 (by omega)]; exact hc 9 _ rfl, by rw [← add_field _ _ 10 (by omega)]; exact hc 10 _ rfl, by rw [← add_field _ _ 11 (by omega)]; exact hc 11 _ rfl, by rw [← add_field _ _ 12 (by omega)]; exact hc 12 _ rfl⟩, hK⟩


set_option maxHeartbeats 16000000 in
set_option maxRecDepth 100000 in
/-- cut: the parts of a row. -/
theorem ledger_cut.calls (A0 : Option Addr) (c0 : Nat) (l : List S56) (w : World) (hr : Kd.C k56 w A0 l.length l) (hc : l.length ≤ c0) (hl : l.length ≤ 1000) :
    Calls Try.prog 24 #[.slice A0 l.length c0, .func (.func 25) #[] #[]] w fun e w' => ∃ v, e = .returned v ∧ Kd.R (kL w) 40 w' w.heap.size (fun _ => True) v (Lib.cutL ep56 l) ∧ Below w.heap.size w w' := by
  have HR := Aside0.mk hr
  have HL := Aside0.mk hl
  have HB := Aside0.mk (Below.refl w.heap.size w)
  clear hr hl
  go_enter Try.func24, Try.ntmps24
  go_wp2_with fail
  go_loopw [5, 10] (fun v5 v10 wr => ∃ (i : Nat), i ≤ l.length ∧ v10 = .int .i64 i ∧ Aside0 (Kd.S (kL w) 40 wr w.heap.size (fun _ => True) v5 (Lib.cutN ep56 l i)) ∧ Aside0 (Below w.heap.size w wr)) (fun _ v10 _ => l.length - (intOf v10).toNat)
  case atStart => exact ⟨0, Nat.zero_le _, rfl, ⟨Kd.S_nil _ _ _ _ _⟩, HB⟩
  case round =>
    clear HB
    obtain ⟨i, hi, rfl, HS, HB⟩ := hrel
    by_cases hlt : i < l.length
    case neg =>
      obtain rfl : i = l.length := by omega
      go_wp2_with fail
      go_ret
      exact ⟨_, rfl, Kd.S_R HS.out, HB.out⟩
    obtain ⟨ad, A1, c1, x, ead, hx, hq, hK⟩ := at_told HR.out i hlt
    cases ead
    have HX := Aside0.mk hx
    have HK := Aside0.mk hK
    have HQ := Aside0.mk hq
    clear hx hK
    obtain ⟨q0, q1, q2, q3, q4, q5, q6, q7, q8, q9, q10, q11, q12⟩ := hq
    replace q0 := pw_cell_below HB.out q0
    replace q1 := pw_cell_below HB.out q1
    replace q2 := pw_cell_below HB.out q2
    replace q3 := pw_cell_below HB.out q3
    replace q4 := pw_cell_below HB.out q4
    replace q5 := pw_cell_below HB.out q5
    replace q6 := pw_cell_below HB.out q6
    replace q7 := pw_cell_below HB.out q7
    replace q8 := pw_cell_below HB.out q8
    replace q9 := pw_cell_below HB.out q9
    replace q10 := pw_cell_below HB.out q10
    replace q11 := pw_cell_below HB.out q11
    replace q12 := pw_cell_below HB.out q12
    by_cases h0 : i = 0
    · subst h0
      have HLT := Aside0.mk hlt
      have ha : ad.add (0 * 13) = ad := rfl
      simp only [ha] at q0 q1 q2 q3 q4 q5 q6 q7 q8 q9 q10 q11 q12
      clear ha
      go_wp2_with fail
      have hpx := blk_new wr (.cells #[.int .i64 x.f0, .int .i64 x.f1, .int .i64 x.f2.f0, .int .i64 x.f2.f1, .int .i64 x.f2.f2, .int .u8 x.f2.f3.f0, .int .u8 x.f2.f3.f1, .int .u8 x.f2.f3.f2, .int .u8 x.f2.f3.f3, .int .u8 x.f2.f3.f4, .int .u8 x.f2.f3.f5, .slice A1 x.f2.f4.length c1, .int .i64 x.f2.f5] 56 (0, 0))
      have hsw := Kd.S_alloc HS.out (.cells #[.int .i64 x.f0, .int .i64 x.f1, .int .i64 x.f2.f0, .int .i64 x.f2.f1, .int .i64 x.f2.f2, .int .u8 x.f2.f3.f0, .int .u8 x.f2.f3.f1, .int .u8 x.f2.f3.f2, .int .u8 x.f2.f3.f3, .int .u8 x.f2.f3.f4, .int .u8 x.f2.f3.f5, .slice A1 x.f2.f4.length c1, .int .i64 x.f2.f5] 56 (0, 0))
      have hbw := below_alloc HB.out (.cells #[.int .i64 x.f0, .int .i64 x.f1, .int .i64 x.f2.f0, .int .i64 x.f2.f1, .int .i64 x.f2.f2, .int .u8 x.f2.f3.f0, .int .u8 x.f2.f3.f1, .int .u8 x.f2.f3.f2, .int .u8 x.f2.f3.f3, .int .u8 x.f2.f3.f4, .int .u8 x.f2.f3.f5, .slice A1 x.f2.f4.length c1, .int .i64 x.f2.f5] 56 (0, 0))
      have hbge := HB.out.size
      generalize wr.alloc (.cells #[.int .i64 x.f0, .int .i64 x.f1, .int .i64 x.f2.f0, .int .i64 x.f2.f1, .int .i64 x.f2.f2, .int .u8 x.f2.f3.f0, .int .u8 x.f2.f3.f1, .int .u8 x.f2.f3.f2, .int .u8 x.f2.f3.f3, .int .u8 x.f2.f3.f4, .int .u8 x.f2.f3.f5, .slice A1 x.f2.f4.length c1, .int .i64 x.f2.f5] 56 (0, 0)) = W at hpx hsw hbw ⊢
      generalize wr.heap.size = b at hpx hbge ⊢
      have HPX := Aside0.mk hpx
      have HSW := Aside0.mk hsw
      have HBW := Aside0.mk hbw
      have HBG := Aside0.mk hbge
      clear hpx hsw hbw hbge HS HB q0 q1 q2 q3 q4 q5 q6 q7 q8 q9 q10 q11 q12
      go_quiet (fail)
      generalize hwq : W.drewN _ = w3
      have HS := Aside0.mk (show Kd.S (kL w) 40 w3 w.heap.size (fun _ => True) u5 (Lib.cutN ep56 l 0) by rw [← hwq]; exact Kd.S_drewN HSW.out _)
      have HBW3 := Aside0.mk (show Below w.heap.size w w3 by rw [← hwq]; exact pw_below_drewN HBW.out _)
      have HPX3 := Aside0.mk (show w3.heap[b]? = some (.cells #[.int .i64 x.f0, .int .i64 x.f1, .int .i64 x.f2.f0, .int .i64 x.f2.f1, .int .i64 x.f2.f2, .int .u8 x.f2.f3.f0, .int .u8 x.f2.f3.f1, .int .u8 x.f2.f3.f2, .int .u8 x.f2.f3.f3, .int .u8 x.f2.f3.f4, .int .u8 x.f2.f3.f5, .slice A1 x.f2.f4.length c1, .int .i64 x.f2.f5] 56 (0, 0)) by rw [← hwq]; exact HPX.out)
      have HNX3 := Aside0.mk ((show Lib.cutN ep56 l (0 + 1) = Lib.cutS ep56 (Lib.cutN ep56 l 0) none x from by rw [Lib.cutN_next ep56 l 0 x HX.out, if_pos rfl]).trans (Lib.cutS_new ep56 (Lib.cutN ep56 l 0) none x (.inl rfl)))
      have hlen := Lib.cutN_len ep56 l 0
      have hsum := Lib.cutN_sum ep56 l 0
      clear hwq HSW HBW HPX HQ
      have HBW := HBW3
      have HPX := HPX3
      clear HBW3 HPX3
      generalize Lib.cutN ep56 l 0 = oo at *
      have HL2 := Aside0.mk (show oo.length ≤ 1000 by omega)
      have HSM := Aside0.mk (show (oo.map List.length).sum ≤ 1000 by omega)
      clear hlen hsum
      go_wp2_with (first | ((with_reducible refine gate_builtin (b := .append) (xs := #[.tmp 28, .tmp 29]) rfl ?_); at_builtin; refine Kd.S_append (kL w) (w0 := w) w.heap.size rfl (.tmp 28) (.tmp 29) 59 40 (.slice none 0 0) 24 rfl Try.underlying59 info40_ rfl (show 0 < 1 by decide) (by omega) u5 (oo) [] [.slice none 0 0] (fun _ => True) (fun _ => False) rfl rfl ?aP (fun _ hk => hk.elim) ?aF ?aO ?aB ?aS ?aL ?_; (case aP => exact ⟨.slice none 0 0, rfl, Kd.R_nil _ _ _ _ _⟩); (case aF => exact fun _ _ => trivial); (case aO => exact Kd.S_mono HS.out (fun k hk => ⟨hk, fun h => h⟩)); (case aB => exact HBW.out); (case aS => exact HBW.out.size); (case aL => have := HL2.out; omega); intro v4 w4 ho hb hg hat; have hs4 := Aside0.mk ho; have HB4 := Aside0.mk hb; have HP4 := Aside0.mk (blk_only_ (o := .cells #[] 0 (0, 0)) HPX.out hg hat (Kd.S_typed HS.out) (by decide)); clear ho hb hg hat HS HBW HPX) | fail)
      obtain ⟨m, hm⟩ : ∃ m, oo.length = m := ⟨_, rfl⟩
      have hs := hs4.out
      obtain ⟨g, cap, rfl, hgb⟩ := cut_form hs (m := m) (by rw [List.length_append, hm]; rfl)
      have HGB := Aside0.mk hgb
      have HM2 := Aside0.mk (show m ≤ 1000 by have := HL2.out; omega)
      have HLM := Aside0.mk (show ((oo ++ [[]]).getD m []).length ≤ 1000 from Nat.le_trans (Lib.len_sum _ m) (by have := HSM.out; simpa using this))
      have HS := Aside0.mk hs
      have HBW := HB4
      have HPX := HP4
      rw [hm] at HNX3
      clear hs hgb hs4 HL2 HSM hm HB4 HP4
      generalize oo ++ [[]] = o at HLM HS HNX3
      have hw3 : wrap64 ((m : Nat) : Int) = (m : Int) := by unfold wrap64; have := HM2.out; omega
      have hw4 : IntKind.i64.wrap (((m : Nat) : Int) + 1 - 1) = (m : Int) := by rw [i64_w]; unfold wrap64; have := HM2.out; omega
      have hw5 : ((m : Int) < (m : Int) + 1) = True := eq_true (by omega)
      obtain ⟨oki, vl, hR, hcl, hH⟩ := cut_lend HS.out
      have HRV := Aside0.mk hR
      have HCL := Aside0.mk hcl
      have HH := Aside0.mk hH
      clear hR hcl hH HS
      refine start_ (n := 15) (S := fun w' => w'.cell? ⟨g, m, none⟩ = some vl ∧ w'.cell? ⟨b, 0, none⟩ = some (.int .i64 x.f0) ∧ w'.cell? ⟨b, 1, none⟩ = some (.int .i64 x.f1) ∧ w'.cell? ⟨b, 2, none⟩ = some (.int .i64 x.f2.f0) ∧ w'.cell? ⟨b, 3, none⟩ = some (.int .i64 x.f2.f1) ∧ w'.cell? ⟨b, 4, none⟩ = some (.int .i64 x.f2.f2) ∧ w'.cell? ⟨b, 5, none⟩ = some (.int .u8 x.f2.f3.f0) ∧ w'.cell? ⟨b, 6, none⟩ = some (.int .u8 x.f2.f3.f1) ∧ w'.cell? ⟨b, 7, none⟩ = some (.int .u8 x.f2.f3.f2) ∧ w'.cell? ⟨b, 8, none⟩ = some (.int .u8 x.f2.f3.f3) ∧ w'.cell? ⟨b, 9, none⟩ = some (.int .u8 x.f2.f3.f4) ∧ w'.cell? ⟨b, 10, none⟩ = some (.int .u8 x.f2.f3.f5) ∧ w'.cell? ⟨b, 11, none⟩ = some (.slice A1 x.f2.f4.length c1) ∧ w'.cell? ⟨b, 12, none⟩ = some (.int .i64 x.f2.f5)) (ds := [12, 14]) #[false, false, false, false, false, false, false, false, false, false, false, false, false, false, false] (by kernel_rfl) rfl rfl ⟨HCL.out, (blk_cell HPX.out 0).trans rfl, (blk_cell HPX.out 1).trans rfl, (blk_cell HPX.out 2).trans rfl, (blk_cell HPX.out 3).trans rfl, (blk_cell HPX.out 4).trans rfl, (blk_cell HPX.out 5).trans rfl, (blk_cell HPX.out 6).trans rfl, (blk_cell HPX.out 7).trans rfl, (blk_cell HPX.out 8).trans rfl, (blk_cell HPX.out 9).trans rfl, (blk_cell HPX.out 10).trans rfl, (blk_cell HPX.out 11).trans rfl, (blk_cell HPX.out 12).trans rfl⟩ (fun hHeld => ?_)
      refine pure_ (i := 0) (N := some 31) (v := ?_) (a' := ?_) #[true, false, false, false, false, false, false, false, false, false, false, false, false, false, false] rfl rfl (by kernel_rfl) (fun _ _ _ h => h) (Or.inl ⟨by rfl, ?_⟩) ?_ ?_
      rotate_left
      · intro w'
        go_simp
        with_reducible rfl
      rotate_left
      · simp only [Act.put, List.setIfInBounds_toArray, List.set_cons_zero, List.set_cons_succ, i64_w, i32_w]
        rfl
      refine pure_ (i := 1) (N := some 32) (v := ?_) (a' := ?_) #[true, true, false, false, false, false, false, false, false, false, false, false, false, false, false] rfl rfl (by kernel_rfl) (fun _ _ _ h => h) (Or.inl ⟨by rfl, ?_⟩) ?_ ?_
      rotate_left
      · intro w'
        go_simp
        with_reducible rfl
      rotate_left
      · simp only [Act.put, List.setIfInBounds_toArray, List.set_cons_zero, List.set_cons_succ, i64_w, i32_w]
        rfl
      refine pure_ (i := 2) (N := some 33) (v := ?_) (a' := ?_) #[true, true, true, false, false, false, false, false, false, false, false, false, false, false, false] rfl rfl (by kernel_rfl) (fun _ _ _ h => h) (Or.inl ⟨by rfl, ?_⟩) ?_ ?_
      rotate_left
      · intro w'
        go_simp
        with_reducible rfl
      rotate_left
      · simp only [Act.put, List.setIfInBounds_toArray, List.set_cons_zero, List.set_cons_succ, i64_w, i32_w]
        rfl
      refine pure_ (i := 3) (N := some 34) (v := ?_) (a' := ?_) #[true, true, true, true, false, false, false, false, false, false, false, false, false, false, false] rfl rfl (by kernel_rfl) (fun _ _ _ h => h) (Or.inl ⟨by rfl, ?_⟩) ?_ ?_
      rotate_left
      · intro w'
        go_simp
        with_reducible rfl
      rotate_left
      · simp only [Act.put, List.setIfInBounds_toArray, List.set_cons_zero, List.set_cons_succ, i64_w, i32_w]
        rfl
      refine pure_ (i := 4) (N := some 35) (v := ?_) (a' := ?_) #[true, true, true, true, true, false, false, false, false, false, false, false, false, false, false] rfl rfl (by kernel_rfl) (fun _ _ _ h => h) (Or.inl ⟨by rfl, ?_⟩) ?_ ?_
      rotate_left
      · intro w'
        go_simp
        with_reducible rfl
      rotate_left
      · simp only [Act.put, List.setIfInBounds_toArray, List.set_cons_zero, List.set_cons_succ, i64_w, i32_w]
        rfl
      refine pure_ (i := 5) (N := some 36) (v := ?_) (a' := ?_) #[true, true, true, true, true, true, false, false, false, false, false, false, false, false, false] rfl rfl (by kernel_rfl) (fun _ _ _ h => h) (Or.inl ⟨by rfl, ?_⟩) ?_ ?_
      rotate_left
      · intro w'
        go_simp
        with_reducible rfl
      rotate_left
      · simp only [Act.put, List.setIfInBounds_toArray, List.set_cons_zero, List.set_cons_succ, i64_w, i32_w]
        rfl
      refine pure_ (i := 6) (N := some 37) (v := ?_) (a' := ?_) #[true, true, true, true, true, true, true, false, false, false, false, false, false, false, false] rfl rfl (by kernel_rfl) (fun _ _ _ h => h) (Or.inl ⟨by rfl, ?_⟩) ?_ ?_
      rotate_left
      · intro w'
        go_simp
        with_reducible rfl
      rotate_left
      · simp only [Act.put, List.setIfInBounds_toArray, List.set_cons_zero, List.set_cons_succ, i64_w, i32_w]
        rfl
      refine pure_ (i := 7) (N := some 38) (v := ?_) (a' := ?_) #[true, true, true, true, true, true, true, true, false, false, false, false, false, false, false] rfl rfl (by kernel_rfl) (fun _ _ _ h => h) (Or.inl ⟨by rfl, ?_⟩) ?_ ?_
      rotate_left
      · intro w'
        go_simp
        with_reducible rfl
      rotate_left
      · simp only [Act.put, List.setIfInBounds_toArray, List.set_cons_zero, List.set_cons_succ, i64_w, i32_w]
        rfl
      refine pure_ (i := 8) (N := some 39) (v := ?_) (a' := ?_) #[true, true, true, true, true, true, true, true, true, false, false, false, false, false, false] rfl rfl (by kernel_rfl) (fun _ _ _ h => h) (Or.inl ⟨by rfl, ?_⟩) ?_ ?_
      rotate_left
      · intro w'
        go_simp
        with_reducible rfl
      rotate_left
      · simp only [Act.put, List.setIfInBounds_toArray, List.set_cons_zero, List.set_cons_succ, i64_w, i32_w]
        rfl
      refine take_ (i := 9) (N := some 40) (v := ?_) (a' := ?_) #[true, true, true, true, true, true, true, true, true, true, false, false, false, false, false] rfl rfl (by kernel_rfl) (fun _ _ _ h => h) (Or.inl ⟨by rfl, ?_⟩) hHeld ?_ ?_
      rotate_left
      · rintro w' ⟨s0, s1, s2, s3, s4, s5, s6, s7, s8, s9, s10, s11, s12, s13⟩
        go_simp
        with_reducible rfl
      rotate_left
      · simp only [Act.put, List.setIfInBounds_toArray, List.set_cons_zero, List.set_cons_succ, i64_w, i32_w]
        rfl
      refine take_ (i := 10) (N := some 41) (v := ?_) (a' := ?_) #[true, true, true, true, true, true, true, true, true, true, true, false, false, false, false] rfl rfl (by kernel_rfl) (fun _ _ _ h => h) (Or.inl ⟨by rfl, ?_⟩) hHeld ?_ ?_
      rotate_left
      · rintro w' ⟨s0, s1, s2, s3, s4, s5, s6, s7, s8, s9, s10, s11, s12, s13⟩
        go_simp
        with_reducible rfl
      rotate_left
      · simp only [Act.put, List.setIfInBounds_toArray, List.set_cons_zero, List.set_cons_succ, i64_w, i32_w]
        rfl
      refine one_ (i := 11) (N := some 42) #[true, true, true, true, true, true, true, true, true, true, true, true, false, false, false] rfl rfl (by kernel_rfl) (by decide) (fun K hK => ?_)
      have hh0 := hHeld
      refine value_ (w1 := ?_) (v := ?_) (by rfl) rfl ?_ ?_
      rotate_left 2
      · go_simp
        constructor
        · rfl
        · rfl
      refine hK.out _ _ ⟨pw_cell_below (below_alloc (Below.refl _ _) _) (hh0.1), pw_cell_below (below_alloc (Below.refl _ _) _) (hh0.2.1), pw_cell_below (below_alloc (Below.refl _ _) _) (hh0.2.2.1), pw_cell_below (below_alloc (Below.refl _ _) _) (hh0.2.2.2.1), pw_cell_below (below_alloc (Below.refl _ _) _) (hh0.2.2.2.2.1), pw_cell_below (below_alloc (Below.refl _ _) _) (hh0.2.2.2.2.2.1), pw_cell_below (below_alloc (Below.refl _ _) _) (hh0.2.2.2.2.2.2.1), pw_cell_below (below_alloc (Below.refl _ _) _) (hh0.2.2.2.2.2.2.2.1), pw_cell_below (below_alloc (Below.refl _ _) _) (hh0.2.2.2.2.2.2.2.2.1), pw_cell_below (below_alloc (Below.refl _ _) _) (hh0.2.2.2.2.2.2.2.2.2.1), pw_cell_below (below_alloc (Below.refl _ _) _) (hh0.2.2.2.2.2.2.2.2.2.2.1), pw_cell_below (below_alloc (Below.refl _ _) _) (hh0.2.2.2.2.2.2.2.2.2.2.2.1), pw_cell_below (below_alloc (Below.refl _ _) _) (hh0.2.2.2.2.2.2.2.2.2.2.2.2.1), pw_cell_below (below_alloc (Below.refl _ _) _) (hh0.2.2.2.2.2.2.2.2.2.2.2.2.2)⟩ (fun hHeld => ?_)
      clear hK K
      refine norm_ (a' := ?_) ?_ ?_
      rotate_left
      · show Act.put _ (some 42) _ = _
        simp only [Act.put, List.setIfInBounds_toArray, List.set_cons_zero, List.set_cons_succ, i64_w, i32_w]
        rfl
      refine last_ (i := 12) (N := some 43) #[true, true, true, true, true, true, true, true, true, true, true, true, true, false, false] rfl rfl (by kernel_rfl) (by decide) (fun K hK => ?_)
      rw [drew_alloc_]
      refine Kd.R_append_step (Kd.fixed k56 w) (w0 := w) w.heap.size (by rfl) (.tmp 40) (.tmp 42) 40 56 (.agg #[.int .i64 0, .int .i64 0, .int .i64 0, .int .i64 0, .int .i64 0, .int .u8 0, .int .u8 0, .int .u8 0, .int .u8 0, .int .u8 0, .int .u8 0, .slice none 0 0, .int .i64 0]) 80 rfl Try.underlying40 info56_ rfl (show 0 < 13 by decide) (by omega) vl (o.getD m []) x [.int .i64 x.f0, .int .i64 x.f1, .int .i64 x.f2.f0, .int .i64 x.f2.f1, .int .i64 x.f2.f2, .int .u8 x.f2.f3.f0, .int .u8 x.f2.f3.f1, .int .u8 x.f2.f3.f2, .int .u8 x.f2.f3.f3, .int .u8 x.f2.f3.f4, .int .u8 x.f2.f3.f5, .slice A1 x.f2.f4.length c1, .int .i64 x.f2.f5] (fun k => oki k ∨ w4.heap.size ≤ k) (fun _ => False) rfl rfl ?aP (fun _ hk => hk.elim) ?aF ?aO ?aB ?aS ?aL ?_
      (case aP => exact HK.out)
      (case aF => exact fun _ h => .inr h)
      (case aO => exact Kd.R_mono (by (repeat (with_reducible first | exact HRV.out | apply Kd.R_drewN | apply Kd.R_drew))) (fun _ h => .inl h))
      (case aB => exact (by (repeat (with_reducible first | exact HBW.out | apply pw_below_drewN | apply below_drew1 | apply below_drew))))
      (case aS => exact below_size (by (repeat (with_reducible first | exact HBW.out | apply pw_below_drewN | apply below_drew1 | apply below_drew))))
      (case aL => have := HLM.out; omega)
      intro v1 w1 ho hb hg hat
      obtain ⟨Av, nv, cv, rfl⟩ : ∃ A n c, v1 = .slice A n c := by obtain ⟨A, c, e⟩ := Kd.R_slice ho; exact ⟨A, _, c, e⟩
      have HO1 := Aside0.mk ho
      have HB1 := Aside0.mk hb
      have HH1 := Aside0.mk (Kd.H_grown (Kd.H_widen (by (repeat (with_reducible first | exact HH.out | apply Kd.H_drewN | apply Kd.H_drew)))) hg (fun k hk => .inl (HRV.out.1 k hk)))
      have hc1 := (cut_at HH1.out).1
      have hf1 := (cut_at HH1.out).2
      clear ho hb hg hat HRV HCL HH HBW HPX
      refine hK.out _ _ ?_
      clear hK K
      refine norm_ (a' := ?_) ?_ ?_
      rotate_left
      · show Act.put _ (some 43) _ = _
        simp only [Act.put, List.setIfInBounds_toArray, List.set_cons_zero, List.set_cons_succ, i64_w, i32_w]
        rfl
      refine pure_ (i := 13) (N := some 44) (v := ?_) (a' := ?_) #[true, true, true, true, true, true, true, true, true, true, true, true, true, true, false] rfl rfl (by kernel_rfl) (fun _ _ _ h => h) (Or.inl ⟨by rfl, ?_⟩) ?_ ?_
      rotate_left
      · intro w'
        go_simp
        with_reducible rfl
      rotate_left
      · simp only [Act.put, List.setIfInBounds_toArray, List.set_cons_zero, List.set_cons_succ, i64_w, i32_w]
        rfl
      refine last_ (i := 14) (N := none) #[true, true, true, true, true, true, true, true, true, true, true, true, true, true, true] rfl rfl (by kernel_rfl) (by decide) (fun K hK => ?_)
      refine skip_ (w1 := ?_) (by rfl) rfl ?_ ?_
      rotate_left
      · go_simp
        rfl
      refine hK.out _ _ ?_
      clear hK K
      refine done_ (by kernel_rfl) ?_
      have HP := cut_put (o := o) (last := o.getD m [] ++ [x]) (oki := fun k => oki k ∨ True ∧ w4.heap.size ≤ k) HH1.out (Kd.R_mono HO1.out (fun k hk => hk.elim .inl (fun h => .inr ⟨trivial, h⟩)))
      have HPS := Aside0.mk HP.1
      have HPB := Aside0.mk (show Below w.heap.size w _ from HB1.out.grown HP.2 HB1.out.size (fun k hk => by cases hk; exact HGB.out))
      clear HP HO1 HH1 HB1
      go_wp2_with fail
      exact ⟨⟨1, HLT.out, by go_num, ⟨by rw [HNX3.out]; exact HPS.out⟩, HPB⟩, by have := HLT.out; simp [intOf]; omega⟩
    · obtain ⟨p, rfl⟩ : ∃ p, i = p + 1 := ⟨i - 1, by omega⟩
      obtain ⟨ad', A2, c2, y, ead', hy, hq', hK'⟩ := at_told HR.out p (by omega)
      cases ead'
      have HY := Aside0.mk hy
      have HQ' := Aside0.mk hq'
      clear hy hq' hK'
      have e0 : (((p + 1 : Nat) : Int) == 0) = false := beq_eq_false_iff_ne.mpr (by omega)
      have e1 : (((p : Nat) : Int) + 1 == 0) = false := beq_eq_false_iff_ne.mpr (by omega)
      have hw1 : IntKind.i64.wrap (((p : Nat) : Int) + 1 - 1) = (p : Int) := by rw [i64_w]; unfold wrap64; have := HL.out; omega
      have hw2 : wrap64 ((p : Nat) : Int) = (p : Int) := by unfold wrap64; have := HL.out; omega
      have hp : p < l.length := by omega
      have HLT := Aside0.mk hlt
      go_wp2_with fail
      have hpx := blk_new wr (.cells #[.int .i64 x.f0, .int .i64 x.f1, .int .i64 x.f2.f0, .int .i64 x.f2.f1, .int .i64 x.f2.f2, .int .u8 x.f2.f3.f0, .int .u8 x.f2.f3.f1, .int .u8 x.f2.f3.f2, .int .u8 x.f2.f3.f3, .int .u8 x.f2.f3.f4, .int .u8 x.f2.f3.f5, .slice A1 x.f2.f4.length c1, .int .i64 x.f2.f5] 56 (0, 0))
      have hsw := Kd.S_alloc HS.out (.cells #[.int .i64 x.f0, .int .i64 x.f1, .int .i64 x.f2.f0, .int .i64 x.f2.f1, .int .i64 x.f2.f2, .int .u8 x.f2.f3.f0, .int .u8 x.f2.f3.f1, .int .u8 x.f2.f3.f2, .int .u8 x.f2.f3.f3, .int .u8 x.f2.f3.f4, .int .u8 x.f2.f3.f5, .slice A1 x.f2.f4.length c1, .int .i64 x.f2.f5] 56 (0, 0))
      have hbw := below_alloc HB.out (.cells #[.int .i64 x.f0, .int .i64 x.f1, .int .i64 x.f2.f0, .int .i64 x.f2.f1, .int .i64 x.f2.f2, .int .u8 x.f2.f3.f0, .int .u8 x.f2.f3.f1, .int .u8 x.f2.f3.f2, .int .u8 x.f2.f3.f3, .int .u8 x.f2.f3.f4, .int .u8 x.f2.f3.f5, .slice A1 x.f2.f4.length c1, .int .i64 x.f2.f5] 56 (0, 0))
      have hbge := HB.out.size
      generalize wr.alloc (.cells #[.int .i64 x.f0, .int .i64 x.f1, .int .i64 x.f2.f0, .int .i64 x.f2.f1, .int .i64 x.f2.f2, .int .u8 x.f2.f3.f0, .int .u8 x.f2.f3.f1, .int .u8 x.f2.f3.f2, .int .u8 x.f2.f3.f3, .int .u8 x.f2.f3.f4, .int .u8 x.f2.f3.f5, .slice A1 x.f2.f4.length c1, .int .i64 x.f2.f5] 56 (0, 0)) = W at hpx hsw hbw ⊢
      generalize wr.heap.size = b at hpx hbge ⊢
      have HPX := Aside0.mk hpx
      have HSW := Aside0.mk hsw
      have HBW := Aside0.mk hbw
      have HBG := Aside0.mk hbge
      clear hpx hsw hbw hbge HS HB q0 q1 q2 q3 q4 q5 q6 q7 q8 q9 q10 q11 q12
      have k0 := pw_cell_below HBW.out (HQ'.out.1)
      have k1 := pw_cell_below HBW.out (HQ'.out.2.1)
      have k2 := pw_cell_below HBW.out (HQ'.out.2.2.1)
      have k3 := pw_cell_below HBW.out (HQ'.out.2.2.2.1)
      have k4 := pw_cell_below HBW.out (HQ'.out.2.2.2.2.1)
      have k5 := pw_cell_below HBW.out (HQ'.out.2.2.2.2.2.1)
      have k6 := pw_cell_below HBW.out (HQ'.out.2.2.2.2.2.2.1)
      have k7 := pw_cell_below HBW.out (HQ'.out.2.2.2.2.2.2.2.1)
      have k8 := pw_cell_below HBW.out (HQ'.out.2.2.2.2.2.2.2.2.1)
      have k9 := pw_cell_below HBW.out (HQ'.out.2.2.2.2.2.2.2.2.2.1)
      have k10 := pw_cell_below HBW.out (HQ'.out.2.2.2.2.2.2.2.2.2.2.1)
      have k11 := pw_cell_below HBW.out (HQ'.out.2.2.2.2.2.2.2.2.2.2.2.1)
      have k12 := pw_cell_below HBW.out (HQ'.out.2.2.2.2.2.2.2.2.2.2.2.2)
      refine start_ (n := 13) (S := fun w' => w'.cell? (ad.add (p * 13)) = some (.int .i64 y.f0) ∧ w'.cell? ⟨(ad.add (p * 13)).block, (ad.add (p * 13)).off + 1, none⟩ = some (.int .i64 y.f1) ∧ w'.cell? ⟨(ad.add (p * 13)).block, (ad.add (p * 13)).off + 2, none⟩ = some (.int .i64 y.f2.f0) ∧ w'.cell? ⟨(ad.add (p * 13)).block, (ad.add (p * 13)).off + 3, none⟩ = some (.int .i64 y.f2.f1) ∧ w'.cell? ⟨(ad.add (p * 13)).block, (ad.add (p * 13)).off + 4, none⟩ = some (.int .i64 y.f2.f2) ∧ w'.cell? ⟨(ad.add (p * 13)).block, (ad.add (p * 13)).off + 5, none⟩ = some (.int .u8 y.f2.f3.f0) ∧ w'.cell? ⟨(ad.add (p * 13)).block, (ad.add (p * 13)).off + 6, none⟩ = some (.int .u8 y.f2.f3.f1) ∧ w'.cell? ⟨(ad.add (p * 13)).block, (ad.add (p * 13)).off + 7, none⟩ = some (.int .u8 y.f2.f3.f2) ∧ w'.cell? ⟨(ad.add (p * 13)).block, (ad.add (p * 13)).off + 8, none⟩ = some (.int .u8 y.f2.f3.f3) ∧ w'.cell? ⟨(ad.add (p * 13)).block, (ad.add (p * 13)).off + 9, none⟩ = some (.int .u8 y.f2.f3.f4) ∧ w'.cell? ⟨(ad.add (p * 13)).block, (ad.add (p * 13)).off + 10, none⟩ = some (.int .u8 y.f2.f3.f5) ∧ w'.cell? ⟨(ad.add (p * 13)).block, (ad.add (p * 13)).off + 11, none⟩ = some (.slice A2 y.f2.f4.length c2) ∧ w'.cell? ⟨(ad.add (p * 13)).block, (ad.add (p * 13)).off + 12, none⟩ = some (.int .i64 y.f2.f5) ∧ w'.cell? ⟨b, 0, none⟩ = some (.int .i64 x.f0) ∧ w'.cell? ⟨b, 1, none⟩ = some (.int .i64 x.f1) ∧ w'.cell? ⟨b, 2, none⟩ = some (.int .i64 x.f2.f0) ∧ w'.cell? ⟨b, 3, none⟩ = some (.int .i64 x.f2.f1) ∧ w'.cell? ⟨b, 4, none⟩ = some (.int .i64 x.f2.f2) ∧ w'.cell? ⟨b, 5, none⟩ = some (.int .u8 x.f2.f3.f0) ∧ w'.cell? ⟨b, 6, none⟩ = some (.int .u8 x.f2.f3.f1) ∧ w'.cell? ⟨b, 7, none⟩ = some (.int .u8 x.f2.f3.f2) ∧ w'.cell? ⟨b, 8, none⟩ = some (.int .u8 x.f2.f3.f3) ∧ w'.cell? ⟨b, 9, none⟩ = some (.int .u8 x.f2.f3.f4) ∧ w'.cell? ⟨b, 10, none⟩ = some (.int .u8 x.f2.f3.f5) ∧ w'.cell? ⟨b, 11, none⟩ = some (.slice A1 x.f2.f4.length c1) ∧ w'.cell? ⟨b, 12, none⟩ = some (.int .i64 x.f2.f5)) (ds := [10]) #[false, false, false, false, false, false, false, false, false, false, false, false, false] (by kernel_rfl) rfl rfl ⟨k0, k1, k2, k3, k4, k5, k6, k7, k8, k9, k10, k11, k12, (blk_cell HPX.out 0).trans rfl, (blk_cell HPX.out 1).trans rfl, (blk_cell HPX.out 2).trans rfl, (blk_cell HPX.out 3).trans rfl, (blk_cell HPX.out 4).trans rfl, (blk_cell HPX.out 5).trans rfl, (blk_cell HPX.out 6).trans rfl, (blk_cell HPX.out 7).trans rfl, (blk_cell HPX.out 8).trans rfl, (blk_cell HPX.out 9).trans rfl, (blk_cell HPX.out 10).trans rfl, (blk_cell HPX.out 11).trans rfl, (blk_cell HPX.out 12).trans rfl⟩ (fun hHeld => ?_)
      refine pure_ (i := 0) (N := some 15) (v := ?_) (a' := ?_) #[true, false, false, false, false, false, false, false, false, false, false, false, false] rfl rfl (by kernel_rfl) (fun _ _ _ h => h) (Or.inl ⟨by rfl, ?_⟩) ?_ ?_
      rotate_left
      · intro w'
        go_simp
        with_reducible rfl
      rotate_left
      · simp only [Act.put, List.setIfInBounds_toArray, List.set_cons_zero, List.set_cons_succ, i64_w, i32_w]
        rfl
      refine pure_ (i := 1) (N := some 16) (v := ?_) (a' := ?_) #[true, true, false, false, false, false, false, false, false, false, false, false, false] rfl rfl (by kernel_rfl) (fun _ _ _ h => h) (Or.inl ⟨by rfl, ?_⟩) ?_ ?_
      rotate_left
      · intro w'
        go_simp
        with_reducible rfl
      rotate_left
      · simp only [Act.put, List.setIfInBounds_toArray, List.set_cons_zero, List.set_cons_succ, i64_w, i32_w]
        rfl
      refine pure_ (i := 2) (N := some 17) (v := ?_) (a' := ?_) #[true, true, true, false, false, false, false, false, false, false, false, false, false] rfl rfl (by kernel_rfl) (fun _ _ _ h => h) (Or.inl ⟨by rfl, ?_⟩) ?_ ?_
      rotate_left
      · intro w'
        go_simp
        with_reducible rfl
      rotate_left
      · simp only [Act.put, List.setIfInBounds_toArray, List.set_cons_zero, List.set_cons_succ, i64_w, i32_w]
        rfl
      refine pure_ (i := 3) (N := some 18) (v := ?_) (a' := ?_) #[true, true, true, true, false, false, false, false, false, false, false, false, false] rfl rfl (by kernel_rfl) (fun _ _ _ h => h) (Or.inl ⟨by rfl, ?_⟩) ?_ ?_
      rotate_left
      · intro w'
        go_simp
        with_reducible rfl
      rotate_left
      · simp only [Act.put, List.setIfInBounds_toArray, List.set_cons_zero, List.set_cons_succ, i64_w, i32_w]
        rfl
      refine pure_ (i := 4) (N := some 19) (v := ?_) (a' := ?_) #[true, true, true, true, true, false, false, false, false, false, false, false, false] rfl rfl (by kernel_rfl) (fun _ _ _ h => h) (Or.inl ⟨by rfl, ?_⟩) ?_ ?_
      rotate_left
      · intro w'
        go_simp
        with_reducible rfl
      rotate_left
      · simp only [Act.put, List.setIfInBounds_toArray, List.set_cons_zero, List.set_cons_succ, i64_w, i32_w]
        rfl
      refine pure_ (i := 5) (N := some 20) (v := ?_) (a' := ?_) #[true, true, true, true, true, true, false, false, false, false, false, false, false] rfl rfl (by kernel_rfl) (fun _ _ _ h => h) (Or.inl ⟨by rfl, ?_⟩) ?_ ?_
      rotate_left
      · intro w'
        go_simp
        with_reducible rfl
      rotate_left
      · simp only [Act.put, List.setIfInBounds_toArray, List.set_cons_zero, List.set_cons_succ, i64_w, i32_w]
        rfl
      refine pure_ (i := 6) (N := some 21) (v := ?_) (a' := ?_) #[true, true, true, true, true, true, true, false, false, false, false, false, false] rfl rfl (by kernel_rfl) (fun _ _ _ h => h) (Or.inl ⟨by rfl, ?_⟩) ?_ ?_
      rotate_left
      · intro w'
        go_simp
        with_reducible rfl
      rotate_left
      · simp only [Act.put, List.setIfInBounds_toArray, List.set_cons_zero, List.set_cons_succ, i64_w, i32_w]
        rfl
      refine pure_ (i := 7) (N := some 22) (v := ?_) (a' := ?_) #[true, true, true, true, true, true, true, true, false, false, false, false, false] rfl rfl (by kernel_rfl) (fun _ _ _ h => h) (Or.inl ⟨by rfl, ?_⟩) ?_ ?_
      rotate_left
      · intro w'
        go_simp
        with_reducible rfl
      rotate_left
      · simp only [Act.put, List.setIfInBounds_toArray, List.set_cons_zero, List.set_cons_succ, i64_w, i32_w]
        rfl
      refine take_ (i := 8) (N := some 23) (v := ?_) (a' := ?_) #[true, true, true, true, true, true, true, true, true, false, false, false, false] rfl rfl (by kernel_rfl) (fun _ _ _ h => h) (Or.inl ⟨by rfl, ?_⟩) hHeld ?_ ?_
      rotate_left
      · rintro w' ⟨s0, s1, s2, s3, s4, s5, s6, s7, s8, s9, s10, s11, s12, s13, s14, s15, s16, s17, s18, s19, s20, s21, s22, s23, s24, s25⟩
        go_simp
        with_reducible rfl
      rotate_left
      · simp only [Act.put, List.setIfInBounds_toArray, List.set_cons_zero, List.set_cons_succ, i64_w, i32_w]
        rfl
      refine take_ (i := 9) (N := some 24) (v := ?_) (a' := ?_) #[true, true, true, true, true, true, true, true, true, true, false, false, false] rfl rfl (by kernel_rfl) (fun _ _ _ h => h) (Or.inl ⟨by rfl, ?_⟩) hHeld ?_ ?_
      rotate_left
      · rintro w' ⟨s0, s1, s2, s3, s4, s5, s6, s7, s8, s9, s10, s11, s12, s13, s14, s15, s16, s17, s18, s19, s20, s21, s22, s23, s24, s25⟩
        go_simp
        with_reducible rfl
      rotate_left
      · simp only [Act.put, List.setIfInBounds_toArray, List.set_cons_zero, List.set_cons_succ, i64_w, i32_w]
        rfl
      refine last_ (i := 10) (N := some 25) #[true, true, true, true, true, true, true, true, true, true, true, false, false] rfl rfl (by kernel_rfl) (by decide) (fun K hK => ?_)
      refine goesV_ Try.func25 (by kernel_rfl) rfl #[.agg #[.int .i64 y.f0, .int .i64 y.f1, .int .i64 y.f2.f0, .int .i64 y.f2.f1, .int .i64 y.f2.f2, .int .u8 y.f2.f3.f0, .int .u8 y.f2.f3.f1, .int .u8 y.f2.f3.f2, .int .u8 y.f2.f3.f3, .int .u8 y.f2.f3.f4, .int .u8 y.f2.f3.f5, .slice A2 y.f2.f4.length c2, .int .i64 y.f2.f5], .agg #[.int .i64 x.f0, .int .i64 x.f1, .int .i64 x.f2.f0, .int .i64 x.f2.f1, .int .i64 x.f2.f2, .int .u8 x.f2.f3.f0, .int .u8 x.f2.f3.f1, .int .u8 x.f2.f3.f2, .int .u8 x.f2.f3.f3, .int .u8 x.f2.f3.f4, .int .u8 x.f2.f3.f5, .slice A1 x.f2.f4.length c1, .int .i64 x.f2.f5]] (by rfl) rfl (.tmp 18) rfl rfl (by simp only [List.map_toArray, List.map_cons, List.map_nil]; rfl) ?_
      with_reducible refine (runs_one.calls y x A2 A1 c2 c1 _).mono ?_
      rintro e w3 ⟨rfl, hb⟩
      refine ⟨_, rfl, ?_⟩
      have HS3 := Aside0.mk (Kd.S_below (by (repeat (with_reducible first | exact HSW.out | apply Kd.S_drewN | apply Kd.S_drew))) hb)
      have HB3 := Aside0.mk (below_step (by (repeat (with_reducible first | exact HBW.out | apply pw_below_drewN | apply below_drew1 | apply below_drew))) hb)
      have HPX3 := Aside0.mk (blk_below (g := b) (o := .cells #[.int .i64 x.f0, .int .i64 x.f1, .int .i64 x.f2.f0, .int .i64 x.f2.f1, .int .i64 x.f2.f2, .int .u8 x.f2.f3.f0, .int .u8 x.f2.f3.f1, .int .u8 x.f2.f3.f2, .int .u8 x.f2.f3.f3, .int .u8 x.f2.f3.f4, .int .u8 x.f2.f3.f5, .slice A1 x.f2.f4.length c1, .int .i64 x.f2.f5] 56 (0, 0)) (by (with_reducible repeat (first | refine blk_drewN ?_ _ | refine blk_drew ?_)); exact HPX.out) hb)
      clear hb HSW HBW HPX k0 k1 k2 k3 k4 k5 k6 k7 k8 k9 k10 k11 k12
      refine hK.out _ _ ?_
      clear hK K
      refine norm_ (a' := ?_) ?_ ?_
      rotate_left
      · show Act.put _ (some 25) _ = _
        simp only [Act.put, List.setIfInBounds_toArray, List.set_cons_zero, List.set_cons_succ, i64_w, i32_w]
        rfl
      refine pure_ (i := 11) (N := some 26) (v := ?_) (a' := ?_) #[true, true, true, true, true, true, true, true, true, true, true, true, false] rfl rfl (by kernel_rfl) (fun _ _ _ h => h) (Or.inl ⟨by rfl, ?_⟩) ?_ ?_
      rotate_left
      · intro w'
        go_simp
        with_reducible rfl
      rotate_left
      · simp only [Act.put, List.setIfInBounds_toArray, List.set_cons_zero, List.set_cons_succ, i64_w, i32_w]
        rfl
      refine pure_ (i := 12) (N := some 27) (v := ?_) (a' := ?_) #[true, true, true, true, true, true, true, true, true, true, true, true, true] rfl rfl (by kernel_rfl) (fun _ _ _ h => h) (Or.inl ⟨by rfl, ?_⟩) ?_ ?_
      rotate_left
      · intro w'
        go_simp
        with_reducible rfl
      rotate_left
      · simp only [Act.put, List.setIfInBounds_toArray, List.set_cons_zero, List.set_cons_succ, i64_w, i32_w]
        rfl
      refine done_ (by kernel_rfl) ?_
      clear HQ' HQ
      obtain ⟨-, hst⟩ := Lib.cut_ref ep56 (fun x => x.f2.f4) l (p + 1) (by omega)
      obtain ⟨o0, y0, g0, z0, ho0, hyz, -, hz0⟩ := hst.resolve_left (fun h => by have := h.1; omega)
      have hlen := Lib.cutN_len ep56 l (p + 1)
      have hsum := Lib.cutN_sum ep56 l (p + 1)
      have HNX := Aside0.mk (Lib.cutN_next ep56 l (p + 1) x HX.out)
      generalize Lib.cutN ep56 l (p + 1) = oo at *
      have HL2 := Aside0.mk (show oo.length ≤ 1000 by have := HL.out; omega)
      have HSM := Aside0.mk (show (oo.map List.length).sum ≤ 1000 by have := HL.out; omega)
      have hzy : z0 = y := by
        rw [show p + 1 - 1 = p by omega, HY.out] at hz0
        exact (Option.some.inj hz0).symm
      have HYY := Aside0.mk HY.out
      have HNX2 := Aside0.mk (show Lib.cutN ep56 l (p + 1 + 1) = Lib.cutS ep56 oo (some y) x from by rw [HNX.out, if_neg (by omega), show p + 1 - 1 = p by omega, HY.out])
      have HBW := HB3
      have HPX := HPX3
      clear HB3 HPX3 HNX HY hz0 hlen hsum hyz
      by_cases he : y.f1 = x.f1
      · have e3 : (y.f1 == x.f1) = true := beq_iff_eq.2 he
        rw [e3]
        have hs := HS3.out
        obtain ⟨m, hm⟩ : ∃ m, oo.length = m + 1 := ⟨o0.length, by rw [ho0]; simp⟩
        obtain ⟨g, cap, rfl, hgb⟩ := cut_form hs hm
        have HGB := Aside0.mk hgb
        have HM2 := Aside0.mk (show m ≤ 1000 by have := HL2.out; omega)
        have HLM := Aside0.mk (show (oo.getD m []).length ≤ 1000 from Nat.le_trans (Lib.len_sum oo m) HSM.out)
        have HS := Aside0.mk hs
        have HNX3 := Aside0.mk (HNX2.out.trans (Lib.cutS_old ep56 oo y x m he hm))
        clear hs hgb HS3 HNX2 HL2 HSM ho0 hm hzy he
        generalize oo = o at HLM HS HNX3
        have hw3 : wrap64 ((m : Nat) : Int) = (m : Int) := by unfold wrap64; have := HM2.out; omega
        have hw4 : IntKind.i64.wrap (((m : Nat) : Int) + 1 - 1) = (m : Int) := by rw [i64_w]; unfold wrap64; have := HM2.out; omega
        have hw5 : ((m : Int) < (m : Int) + 1) = True := eq_true (by omega)
        go_wp2_with fail
        obtain ⟨oki, vl, hR, hcl, hH⟩ := cut_lend HS.out
        have HRV := Aside0.mk hR
        have HCL := Aside0.mk hcl
        have HH := Aside0.mk hH
        clear hR hcl hH HS
        refine start_ (n := 15) (S := fun w' => w'.cell? ⟨g, m, none⟩ = some vl ∧ w'.cell? ⟨b, 0, none⟩ = some (.int .i64 x.f0) ∧ w'.cell? ⟨b, 1, none⟩ = some (.int .i64 x.f1) ∧ w'.cell? ⟨b, 2, none⟩ = some (.int .i64 x.f2.f0) ∧ w'.cell? ⟨b, 3, none⟩ = some (.int .i64 x.f2.f1) ∧ w'.cell? ⟨b, 4, none⟩ = some (.int .i64 x.f2.f2) ∧ w'.cell? ⟨b, 5, none⟩ = some (.int .u8 x.f2.f3.f0) ∧ w'.cell? ⟨b, 6, none⟩ = some (.int .u8 x.f2.f3.f1) ∧ w'.cell? ⟨b, 7, none⟩ = some (.int .u8 x.f2.f3.f2) ∧ w'.cell? ⟨b, 8, none⟩ = some (.int .u8 x.f2.f3.f3) ∧ w'.cell? ⟨b, 9, none⟩ = some (.int .u8 x.f2.f3.f4) ∧ w'.cell? ⟨b, 10, none⟩ = some (.int .u8 x.f2.f3.f5) ∧ w'.cell? ⟨b, 11, none⟩ = some (.slice A1 x.f2.f4.length c1) ∧ w'.cell? ⟨b, 12, none⟩ = some (.int .i64 x.f2.f5)) (ds := [12, 14]) #[false, false, false, false, false, false, false, false, false, false, false, false, false, false, false] (by kernel_rfl) rfl rfl ⟨HCL.out, (blk_cell HPX.out 0).trans rfl, (blk_cell HPX.out 1).trans rfl, (blk_cell HPX.out 2).trans rfl, (blk_cell HPX.out 3).trans rfl, (blk_cell HPX.out 4).trans rfl, (blk_cell HPX.out 5).trans rfl, (blk_cell HPX.out 6).trans rfl, (blk_cell HPX.out 7).trans rfl, (blk_cell HPX.out 8).trans rfl, (blk_cell HPX.out 9).trans rfl, (blk_cell HPX.out 10).trans rfl, (blk_cell HPX.out 11).trans rfl, (blk_cell HPX.out 12).trans rfl⟩ (fun hHeld => ?_)
        refine pure_ (i := 0) (N := some 31) (v := ?_) (a' := ?_) #[true, false, false, false, false, false, false, false, false, false, false, false, false, false, false] rfl rfl (by kernel_rfl) (fun _ _ _ h => h) (Or.inl ⟨by rfl, ?_⟩) ?_ ?_
        rotate_left
        · intro w'
          go_simp
          with_reducible rfl
        rotate_left
        · simp only [Act.put, List.setIfInBounds_toArray, List.set_cons_zero, List.set_cons_succ, i64_w, i32_w]
          rfl
        refine pure_ (i := 1) (N := some 32) (v := ?_) (a' := ?_) #[true, true, false, false, false, false, false, false, false, false, false, false, false, false, false] rfl rfl (by kernel_rfl) (fun _ _ _ h => h) (Or.inl ⟨by rfl, ?_⟩) ?_ ?_
        rotate_left
        · intro w'
          go_simp
          with_reducible rfl
        rotate_left
        · simp only [Act.put, List.setIfInBounds_toArray, List.set_cons_zero, List.set_cons_succ, i64_w, i32_w]
          rfl
        refine pure_ (i := 2) (N := some 33) (v := ?_) (a' := ?_) #[true, true, true, false, false, false, false, false, false, false, false, false, false, false, false] rfl rfl (by kernel_rfl) (fun _ _ _ h => h) (Or.inl ⟨by rfl, ?_⟩) ?_ ?_
        rotate_left
        · intro w'
          go_simp
          with_reducible rfl
        rotate_left
        · simp only [Act.put, List.setIfInBounds_toArray, List.set_cons_zero, List.set_cons_succ, i64_w, i32_w]
          rfl
        refine pure_ (i := 3) (N := some 34) (v := ?_) (a' := ?_) #[true, true, true, true, false, false, false, false, false, false, false, false, false, false, false] rfl rfl (by kernel_rfl) (fun _ _ _ h => h) (Or.inl ⟨by rfl, ?_⟩) ?_ ?_
        rotate_left
        · intro w'
          go_simp
          with_reducible rfl
        rotate_left
        · simp only [Act.put, List.setIfInBounds_toArray, List.set_cons_zero, List.set_cons_succ, i64_w, i32_w]
          rfl
        refine pure_ (i := 4) (N := some 35) (v := ?_) (a' := ?_) #[true, true, true, true, true, false, false, false, false, false, false, false, false, false, false] rfl rfl (by kernel_rfl) (fun _ _ _ h => h) (Or.inl ⟨by rfl, ?_⟩) ?_ ?_
        rotate_left
        · intro w'
          go_simp
          with_reducible rfl
        rotate_left
        · simp only [Act.put, List.setIfInBounds_toArray, List.set_cons_zero, List.set_cons_succ, i64_w, i32_w]
          rfl
        refine pure_ (i := 5) (N := some 36) (v := ?_) (a' := ?_) #[true, true, true, true, true, true, false, false, false, false, false, false, false, false, false] rfl rfl (by kernel_rfl) (fun _ _ _ h => h) (Or.inl ⟨by rfl, ?_⟩) ?_ ?_
        rotate_left
        · intro w'
          go_simp
          with_reducible rfl
        rotate_left
        · simp only [Act.put, List.setIfInBounds_toArray, List.set_cons_zero, List.set_cons_succ, i64_w, i32_w]
          rfl
        refine pure_ (i := 6) (N := some 37) (v := ?_) (a' := ?_) #[true, true, true, true, true, true, true, false, false, false, false, false, false, false, false] rfl rfl (by kernel_rfl) (fun _ _ _ h => h) (Or.inl ⟨by rfl, ?_⟩) ?_ ?_
        rotate_left
        · intro w'
          go_simp
          with_reducible rfl
        rotate_left
        · simp only [Act.put, List.setIfInBounds_toArray, List.set_cons_zero, List.set_cons_succ, i64_w, i32_w]
          rfl
        refine pure_ (i := 7) (N := some 38) (v := ?_) (a' := ?_) #[true, true, true, true, true, true, true, true, false, false, false, false, false, false, false] rfl rfl (by kernel_rfl) (fun _ _ _ h => h) (Or.inl ⟨by rfl, ?_⟩) ?_ ?_
        rotate_left
        · intro w'
          go_simp
          with_reducible rfl
        rotate_left
        · simp only [Act.put, List.setIfInBounds_toArray, List.set_cons_zero, List.set_cons_succ, i64_w, i32_w]
          rfl
        refine pure_ (i := 8) (N := some 39) (v := ?_) (a' := ?_) #[true, true, true, true, true, true, true, true, true, false, false, false, false, false, false] rfl rfl (by kernel_rfl) (fun _ _ _ h => h) (Or.inl ⟨by rfl, ?_⟩) ?_ ?_
        rotate_left
        · intro w'
          go_simp
          with_reducible rfl
        rotate_left
        · simp only [Act.put, List.setIfInBounds_toArray, List.set_cons_zero, List.set_cons_succ, i64_w, i32_w]
          rfl
        refine take_ (i := 9) (N := some 40) (v := ?_) (a' := ?_) #[true, true, true, true, true, true, true, true, true, true, false, false, false, false, false] rfl rfl (by kernel_rfl) (fun _ _ _ h => h) (Or.inl ⟨by rfl, ?_⟩) hHeld ?_ ?_
        rotate_left
        · rintro w' ⟨s0, s1, s2, s3, s4, s5, s6, s7, s8, s9, s10, s11, s12, s13⟩
          go_simp
          with_reducible rfl
        rotate_left
        · simp only [Act.put, List.setIfInBounds_toArray, List.set_cons_zero, List.set_cons_succ, i64_w, i32_w]
          rfl
        refine take_ (i := 10) (N := some 41) (v := ?_) (a' := ?_) #[true, true, true, true, true, true, true, true, true, true, true, false, false, false, false] rfl rfl (by kernel_rfl) (fun _ _ _ h => h) (Or.inl ⟨by rfl, ?_⟩) hHeld ?_ ?_
        rotate_left
        · rintro w' ⟨s0, s1, s2, s3, s4, s5, s6, s7, s8, s9, s10, s11, s12, s13⟩
          go_simp
          with_reducible rfl
        rotate_left
        · simp only [Act.put, List.setIfInBounds_toArray, List.set_cons_zero, List.set_cons_succ, i64_w, i32_w]
          rfl
        refine one_ (i := 11) (N := some 42) #[true, true, true, true, true, true, true, true, true, true, true, true, false, false, false] rfl rfl (by kernel_rfl) (by decide) (fun K hK => ?_)
        have hh0 := hHeld
        refine value_ (w1 := ?_) (v := ?_) (by rfl) rfl ?_ ?_
        rotate_left 2
        · go_simp
          constructor
          · rfl
          · rfl
        refine hK.out _ _ ⟨pw_cell_below (below_alloc (Below.refl _ _) _) (hh0.1), pw_cell_below (below_alloc (Below.refl _ _) _) (hh0.2.1), pw_cell_below (below_alloc (Below.refl _ _) _) (hh0.2.2.1), pw_cell_below (below_alloc (Below.refl _ _) _) (hh0.2.2.2.1), pw_cell_below (below_alloc (Below.refl _ _) _) (hh0.2.2.2.2.1), pw_cell_below (below_alloc (Below.refl _ _) _) (hh0.2.2.2.2.2.1), pw_cell_below (below_alloc (Below.refl _ _) _) (hh0.2.2.2.2.2.2.1), pw_cell_below (below_alloc (Below.refl _ _) _) (hh0.2.2.2.2.2.2.2.1), pw_cell_below (below_alloc (Below.refl _ _) _) (hh0.2.2.2.2.2.2.2.2.1), pw_cell_below (below_alloc (Below.refl _ _) _) (hh0.2.2.2.2.2.2.2.2.2.1), pw_cell_below (below_alloc (Below.refl _ _) _) (hh0.2.2.2.2.2.2.2.2.2.2.1), pw_cell_below (below_alloc (Below.refl _ _) _) (hh0.2.2.2.2.2.2.2.2.2.2.2.1), pw_cell_below (below_alloc (Below.refl _ _) _) (hh0.2.2.2.2.2.2.2.2.2.2.2.2.1), pw_cell_below (below_alloc (Below.refl _ _) _) (hh0.2.2.2.2.2.2.2.2.2.2.2.2.2)⟩ (fun hHeld => ?_)
        clear hK K
        refine norm_ (a' := ?_) ?_ ?_
        rotate_left
        · show Act.put _ (some 42) _ = _
          simp only [Act.put, List.setIfInBounds_toArray, List.set_cons_zero, List.set_cons_succ, i64_w, i32_w]
          rfl
        refine last_ (i := 12) (N := some 43) #[true, true, true, true, true, true, true, true, true, true, true, true, true, false, false] rfl rfl (by kernel_rfl) (by decide) (fun K hK => ?_)
        rw [drew_alloc_]
        refine Kd.R_append_step (Kd.fixed k56 w) (w0 := w) w.heap.size (by rfl) (.tmp 40) (.tmp 42) 40 56 (.agg #[.int .i64 0, .int .i64 0, .int .i64 0, .int .i64 0, .int .i64 0, .int .u8 0, .int .u8 0, .int .u8 0, .int .u8 0, .int .u8 0, .int .u8 0, .slice none 0 0, .int .i64 0]) 80 rfl Try.underlying40 info56_ rfl (show 0 < 13 by decide) (by omega) vl (o.getD m []) x [.int .i64 x.f0, .int .i64 x.f1, .int .i64 x.f2.f0, .int .i64 x.f2.f1, .int .i64 x.f2.f2, .int .u8 x.f2.f3.f0, .int .u8 x.f2.f3.f1, .int .u8 x.f2.f3.f2, .int .u8 x.f2.f3.f3, .int .u8 x.f2.f3.f4, .int .u8 x.f2.f3.f5, .slice A1 x.f2.f4.length c1, .int .i64 x.f2.f5] (fun k => oki k ∨ w3.heap.size ≤ k) (fun _ => False) rfl rfl ?aP (fun _ hk => hk.elim) ?aF ?aO ?aB ?aS ?aL ?_
        (case aP => exact HK.out)
        (case aF => exact fun _ h => .inr h)
        (case aO => exact Kd.R_mono (by (repeat (with_reducible first | exact HRV.out | apply Kd.R_drewN | apply Kd.R_drew))) (fun _ h => .inl h))
        (case aB => exact (by (repeat (with_reducible first | exact HBW.out | apply pw_below_drewN | apply below_drew1 | apply below_drew))))
        (case aS => exact below_size (by (repeat (with_reducible first | exact HBW.out | apply pw_below_drewN | apply below_drew1 | apply below_drew))))
        (case aL => have := HLM.out; omega)
        intro v1 w1 ho hb hg hat
        obtain ⟨Av, nv, cv, rfl⟩ : ∃ A n c, v1 = .slice A n c := by obtain ⟨A, c, e⟩ := Kd.R_slice ho; exact ⟨A, _, c, e⟩
        have HO1 := Aside0.mk ho
        have HB1 := Aside0.mk hb
        have HH1 := Aside0.mk (Kd.H_grown (Kd.H_widen (by (repeat (with_reducible first | exact HH.out | apply Kd.H_drewN | apply Kd.H_drew)))) hg (fun k hk => .inl (HRV.out.1 k hk)))
        have hc1 := (cut_at HH1.out).1
        have hf1 := (cut_at HH1.out).2
        clear ho hb hg hat HRV HCL HH HBW HPX
        refine hK.out _ _ ?_
        clear hK K
        refine norm_ (a' := ?_) ?_ ?_
        rotate_left
        · show Act.put _ (some 43) _ = _
          simp only [Act.put, List.setIfInBounds_toArray, List.set_cons_zero, List.set_cons_succ, i64_w, i32_w]
          rfl
        refine pure_ (i := 13) (N := some 44) (v := ?_) (a' := ?_) #[true, true, true, true, true, true, true, true, true, true, true, true, true, true, false] rfl rfl (by kernel_rfl) (fun _ _ _ h => h) (Or.inl ⟨by rfl, ?_⟩) ?_ ?_
        rotate_left
        · intro w'
          go_simp
          with_reducible rfl
        rotate_left
        · simp only [Act.put, List.setIfInBounds_toArray, List.set_cons_zero, List.set_cons_succ, i64_w, i32_w]
          rfl
        refine last_ (i := 14) (N := none) #[true, true, true, true, true, true, true, true, true, true, true, true, true, true, true] rfl rfl (by kernel_rfl) (by decide) (fun K hK => ?_)
        refine skip_ (w1 := ?_) (by rfl) rfl ?_ ?_
        rotate_left
        · go_simp
          rfl
        refine hK.out _ _ ?_
        clear hK K
        refine done_ (by kernel_rfl) ?_
        have HP := cut_put (o := o) (last := o.getD m [] ++ [x]) (oki := fun k => oki k ∨ True ∧ w3.heap.size ≤ k) HH1.out (Kd.R_mono HO1.out (fun k hk => hk.elim .inl (fun h => .inr ⟨trivial, h⟩)))
        have HPS := Aside0.mk HP.1
        have HPB := Aside0.mk (show Below w.heap.size w _ from HB1.out.grown HP.2 HB1.out.size (fun k hk => by cases hk; exact HGB.out))
        clear HP HO1 HH1 HB1
        go_wp2_with fail
        have hw6 : wrap64 (((p : Nat) : Int) + 1 + 1) = ((p + 1 + 1 : Nat) : Int) := by unfold wrap64; have := HLT.out; have := HL.out; omega
        rw [hw6]
        exact ⟨⟨p + 1 + 1, HLT.out, rfl, ⟨by rw [HNX3.out]; exact HPS.out⟩, HPB⟩, by have := HLT.out; simp only [intOf, Int.toNat_natCast]; omega⟩
      · have e3 : (y.f1 == x.f1) = false := beq_eq_false_iff_ne.2 he
        rw [e3]
        have HS := HS3
        have HNX3 := Aside0.mk (HNX2.out.trans (Lib.cutS_new ep56 oo (some y) x (.inr ⟨y, rfl, he⟩)))
        clear HS3 HNX2 hzy ho0 he
        go_wp2_with (first | ((with_reducible refine gate_builtin (b := .append) (xs := #[.tmp 28, .tmp 29]) rfl ?_); at_builtin; refine Kd.S_append (kL w) (w0 := w) w.heap.size rfl (.tmp 28) (.tmp 29) 59 40 (.slice none 0 0) 24 rfl Try.underlying59 info40_ rfl (show 0 < 1 by decide) (by omega) u5 (oo) [] [.slice none 0 0] (fun _ => True) (fun _ => False) rfl rfl ?aP (fun _ hk => hk.elim) ?aF ?aO ?aB ?aS ?aL ?_; (case aP => exact ⟨.slice none 0 0, rfl, Kd.R_nil _ _ _ _ _⟩); (case aF => exact fun _ _ => trivial); (case aO => exact Kd.S_mono HS.out (fun k hk => ⟨hk, fun h => h⟩)); (case aB => exact HBW.out); (case aS => exact HBW.out.size); (case aL => have := HL2.out; omega); intro v4 w4 ho hb hg hat; have hs4 := Aside0.mk ho; have HB4 := Aside0.mk hb; have HP4 := Aside0.mk (blk_only_ (o := .cells #[] 0 (0, 0)) HPX.out hg hat (Kd.S_typed HS.out) (by decide)); clear ho hb hg hat HS HBW HPX) | fail)
        obtain ⟨m, hm⟩ : ∃ m, oo.length = m := ⟨_, rfl⟩
        have hs := hs4.out
        obtain ⟨g, cap, rfl, hgb⟩ := cut_form hs (m := m) (by rw [List.length_append, hm]; rfl)
        have HGB := Aside0.mk hgb
        have HM2 := Aside0.mk (show m ≤ 1000 by have := HL2.out; omega)
        have HLM := Aside0.mk (show ((oo ++ [[]]).getD m []).length ≤ 1000 from Nat.le_trans (Lib.len_sum _ m) (by have := HSM.out; simpa using this))
        have HS := Aside0.mk hs
        have HBW := HB4
        have HPX := HP4
        rw [hm] at HNX3
        clear hs hgb hs4 HL2 HSM hm HB4 HP4
        generalize oo ++ [[]] = o at HLM HS HNX3
        have hw3 : wrap64 ((m : Nat) : Int) = (m : Int) := by unfold wrap64; have := HM2.out; omega
        have hw4 : IntKind.i64.wrap (((m : Nat) : Int) + 1 - 1) = (m : Int) := by rw [i64_w]; unfold wrap64; have := HM2.out; omega
        have hw5 : ((m : Int) < (m : Int) + 1) = True := eq_true (by omega)
        obtain ⟨oki, vl, hR, hcl, hH⟩ := cut_lend HS.out
        have HRV := Aside0.mk hR
        have HCL := Aside0.mk hcl
        have HH := Aside0.mk hH
        clear hR hcl hH HS
        refine start_ (n := 15) (S := fun w' => w'.cell? ⟨g, m, none⟩ = some vl ∧ w'.cell? ⟨b, 0, none⟩ = some (.int .i64 x.f0) ∧ w'.cell? ⟨b, 1, none⟩ = some (.int .i64 x.f1) ∧ w'.cell? ⟨b, 2, none⟩ = some (.int .i64 x.f2.f0) ∧ w'.cell? ⟨b, 3, none⟩ = some (.int .i64 x.f2.f1) ∧ w'.cell? ⟨b, 4, none⟩ = some (.int .i64 x.f2.f2) ∧ w'.cell? ⟨b, 5, none⟩ = some (.int .u8 x.f2.f3.f0) ∧ w'.cell? ⟨b, 6, none⟩ = some (.int .u8 x.f2.f3.f1) ∧ w'.cell? ⟨b, 7, none⟩ = some (.int .u8 x.f2.f3.f2) ∧ w'.cell? ⟨b, 8, none⟩ = some (.int .u8 x.f2.f3.f3) ∧ w'.cell? ⟨b, 9, none⟩ = some (.int .u8 x.f2.f3.f4) ∧ w'.cell? ⟨b, 10, none⟩ = some (.int .u8 x.f2.f3.f5) ∧ w'.cell? ⟨b, 11, none⟩ = some (.slice A1 x.f2.f4.length c1) ∧ w'.cell? ⟨b, 12, none⟩ = some (.int .i64 x.f2.f5)) (ds := [12, 14]) #[false, false, false, false, false, false, false, false, false, false, false, false, false, false, false] (by kernel_rfl) rfl rfl ⟨HCL.out, (blk_cell HPX.out 0).trans rfl, (blk_cell HPX.out 1).trans rfl, (blk_cell HPX.out 2).trans rfl, (blk_cell HPX.out 3).trans rfl, (blk_cell HPX.out 4).trans rfl, (blk_cell HPX.out 5).trans rfl, (blk_cell HPX.out 6).trans rfl, (blk_cell HPX.out 7).trans rfl, (blk_cell HPX.out 8).trans rfl, (blk_cell HPX.out 9).trans rfl, (blk_cell HPX.out 10).trans rfl, (blk_cell HPX.out 11).trans rfl, (blk_cell HPX.out 12).trans rfl⟩ (fun hHeld => ?_)
        refine pure_ (i := 0) (N := some 31) (v := ?_) (a' := ?_) #[true, false, false, false, false, false, false, false, false, false, false, false, false, false, false] rfl rfl (by kernel_rfl) (fun _ _ _ h => h) (Or.inl ⟨by rfl, ?_⟩) ?_ ?_
        rotate_left
        · intro w'
          go_simp
          with_reducible rfl
        rotate_left
        · simp only [Act.put, List.setIfInBounds_toArray, List.set_cons_zero, List.set_cons_succ, i64_w, i32_w]
          rfl
        refine pure_ (i := 1) (N := some 32) (v := ?_) (a' := ?_) #[true, true, false, false, false, false, false, false, false, false, false, false, false, false, false] rfl rfl (by kernel_rfl) (fun _ _ _ h => h) (Or.inl ⟨by rfl, ?_⟩) ?_ ?_
        rotate_left
        · intro w'
          go_simp
          with_reducible rfl
        rotate_left
        · simp only [Act.put, List.setIfInBounds_toArray, List.set_cons_zero, List.set_cons_succ, i64_w, i32_w]
          rfl
        refine pure_ (i := 2) (N := some 33) (v := ?_) (a' := ?_) #[true, true, true, false, false, false, false, false, false, false, false, false, false, false, false] rfl rfl (by kernel_rfl) (fun _ _ _ h => h) (Or.inl ⟨by rfl, ?_⟩) ?_ ?_
        rotate_left
        · intro w'
          go_simp
          with_reducible rfl
        rotate_left
        · simp only [Act.put, List.setIfInBounds_toArray, List.set_cons_zero, List.set_cons_succ, i64_w, i32_w]
          rfl
        refine pure_ (i := 3) (N := some 34) (v := ?_) (a' := ?_) #[true, true, true, true, false, false, false, false, false, false, false, false, false, false, false] rfl rfl (by kernel_rfl) (fun _ _ _ h => h) (Or.inl ⟨by rfl, ?_⟩) ?_ ?_
        rotate_left
        · intro w'
          go_simp
          with_reducible rfl
        rotate_left
        · simp only [Act.put, List.setIfInBounds_toArray, List.set_cons_zero, List.set_cons_succ, i64_w, i32_w]
          rfl
        refine pure_ (i := 4) (N := some 35) (v := ?_) (a' := ?_) #[true, true, true, true, true, false, false, false, false, false, false, false, false, false, false] rfl rfl (by kernel_rfl) (fun _ _ _ h => h) (Or.inl ⟨by rfl, ?_⟩) ?_ ?_
        rotate_left
        · intro w'
          go_simp
          with_reducible rfl
        rotate_left
        · simp only [Act.put, List.setIfInBounds_toArray, List.set_cons_zero, List.set_cons_succ, i64_w, i32_w]
          rfl
        refine pure_ (i := 5) (N := some 36) (v := ?_) (a' := ?_) #[true, true, true, true, true, true, false, false, false, false, false, false, false, false, false] rfl rfl (by kernel_rfl) (fun _ _ _ h => h) (Or.inl ⟨by rfl, ?_⟩) ?_ ?_
        rotate_left
        · intro w'
          go_simp
          with_reducible rfl
        rotate_left
        · simp only [Act.put, List.setIfInBounds_toArray, List.set_cons_zero, List.set_cons_succ, i64_w, i32_w]
          rfl
        refine pure_ (i := 6) (N := some 37) (v := ?_) (a' := ?_) #[true, true, true, true, true, true, true, false, false, false, false, false, false, false, false] rfl rfl (by kernel_rfl) (fun _ _ _ h => h) (Or.inl ⟨by rfl, ?_⟩) ?_ ?_
        rotate_left
        · intro w'
          go_simp
          with_reducible rfl
        rotate_left
        · simp only [Act.put, List.setIfInBounds_toArray, List.set_cons_zero, List.set_cons_succ, i64_w, i32_w]
          rfl
        refine pure_ (i := 7) (N := some 38) (v := ?_) (a' := ?_) #[true, true, true, true, true, true, true, true, false, false, false, false, false, false, false] rfl rfl (by kernel_rfl) (fun _ _ _ h => h) (Or.inl ⟨by rfl, ?_⟩) ?_ ?_
        rotate_left
        · intro w'
          go_simp
          with_reducible rfl
        rotate_left
        · simp only [Act.put, List.setIfInBounds_toArray, List.set_cons_zero, List.set_cons_succ, i64_w, i32_w]
          rfl
        refine pure_ (i := 8) (N := some 39) (v := ?_) (a' := ?_) #[true, true, true, true, true, true, true, true, true, false, false, false, false, false, false] rfl rfl (by kernel_rfl) (fun _ _ _ h => h) (Or.inl ⟨by rfl, ?_⟩) ?_ ?_
        rotate_left
        · intro w'
          go_simp
          with_reducible rfl
        rotate_left
        · simp only [Act.put, List.setIfInBounds_toArray, List.set_cons_zero, List.set_cons_succ, i64_w, i32_w]
          rfl
        refine take_ (i := 9) (N := some 40) (v := ?_) (a' := ?_) #[true, true, true, true, true, true, true, true, true, true, false, false, false, false, false] rfl rfl (by kernel_rfl) (fun _ _ _ h => h) (Or.inl ⟨by rfl, ?_⟩) hHeld ?_ ?_
        rotate_left
        · rintro w' ⟨s0, s1, s2, s3, s4, s5, s6, s7, s8, s9, s10, s11, s12, s13⟩
          go_simp
          with_reducible rfl
        rotate_left
        · simp only [Act.put, List.setIfInBounds_toArray, List.set_cons_zero, List.set_cons_succ, i64_w, i32_w]
          rfl
        refine take_ (i := 10) (N := some 41) (v := ?_) (a' := ?_) #[true, true, true, true, true, true, true, true, true, true, true, false, false, false, false] rfl rfl (by kernel_rfl) (fun _ _ _ h => h) (Or.inl ⟨by rfl, ?_⟩) hHeld ?_ ?_
        rotate_left
        · rintro w' ⟨s0, s1, s2, s3, s4, s5, s6, s7, s8, s9, s10, s11, s12, s13⟩
          go_simp
          with_reducible rfl
        rotate_left
        · simp only [Act.put, List.setIfInBounds_toArray, List.set_cons_zero, List.set_cons_succ, i64_w, i32_w]
          rfl
        refine one_ (i := 11) (N := some 42) #[true, true, true, true, true, true, true, true, true, true, true, true, false, false, false] rfl rfl (by kernel_rfl) (by decide) (fun K hK => ?_)
        have hh0 := hHeld
        refine value_ (w1 := ?_) (v := ?_) (by rfl) rfl ?_ ?_
        rotate_left 2
        · go_simp
          constructor
          · rfl
          · rfl
        refine hK.out _ _ ⟨pw_cell_below (below_alloc (Below.refl _ _) _) (hh0.1), pw_cell_below (below_alloc (Below.refl _ _) _) (hh0.2.1), pw_cell_below (below_alloc (Below.refl _ _) _) (hh0.2.2.1), pw_cell_below (below_alloc (Below.refl _ _) _) (hh0.2.2.2.1), pw_cell_below (below_alloc (Below.refl _ _) _) (hh0.2.2.2.2.1), pw_cell_below (below_alloc (Below.refl _ _) _) (hh0.2.2.2.2.2.1), pw_cell_below (below_alloc (Below.refl _ _) _) (hh0.2.2.2.2.2.2.1), pw_cell_below (below_alloc (Below.refl _ _) _) (hh0.2.2.2.2.2.2.2.1), pw_cell_below (below_alloc (Below.refl _ _) _) (hh0.2.2.2.2.2.2.2.2.1), pw_cell_below (below_alloc (Below.refl _ _) _) (hh0.2.2.2.2.2.2.2.2.2.1), pw_cell_below (below_alloc (Below.refl _ _) _) (hh0.2.2.2.2.2.2.2.2.2.2.1), pw_cell_below (below_alloc (Below.refl _ _) _) (hh0.2.2.2.2.2.2.2.2.2.2.2.1), pw_cell_below (below_alloc (Below.refl _ _) _) (hh0.2.2.2.2.2.2.2.2.2.2.2.2.1), pw_cell_below (below_alloc (Below.refl _ _) _) (hh0.2.2.2.2.2.2.2.2.2.2.2.2.2)⟩ (fun hHeld => ?_)
        clear hK K
        refine norm_ (a' := ?_) ?_ ?_
        rotate_left
        · show Act.put _ (some 42) _ = _
          simp only [Act.put, List.setIfInBounds_toArray, List.set_cons_zero, List.set_cons_succ, i64_w, i32_w]
          rfl
        refine last_ (i := 12) (N := some 43) #[true, true, true, true, true, true, true, true, true, true, true, true, true, false, false] rfl rfl (by kernel_rfl) (by decide) (fun K hK => ?_)
        rw [drew_alloc_]
        refine Kd.R_append_step (Kd.fixed k56 w) (w0 := w) w.heap.size (by rfl) (.tmp 40) (.tmp 42) 40 56 (.agg #[.int .i64 0, .int .i64 0, .int .i64 0, .int .i64 0, .int .i64 0, .int .u8 0, .int .u8 0, .int .u8 0, .int .u8 0, .int .u8 0, .int .u8 0, .slice none 0 0, .int .i64 0]) 80 rfl Try.underlying40 info56_ rfl (show 0 < 13 by decide) (by omega) vl (o.getD m []) x [.int .i64 x.f0, .int .i64 x.f1, .int .i64 x.f2.f0, .int .i64 x.f2.f1, .int .i64 x.f2.f2, .int .u8 x.f2.f3.f0, .int .u8 x.f2.f3.f1, .int .u8 x.f2.f3.f2, .int .u8 x.f2.f3.f3, .int .u8 x.f2.f3.f4, .int .u8 x.f2.f3.f5, .slice A1 x.f2.f4.length c1, .int .i64 x.f2.f5] (fun k => oki k ∨ w4.heap.size ≤ k) (fun _ => False) rfl rfl ?aP (fun _ hk => hk.elim) ?aF ?aO ?aB ?aS ?aL ?_
        (case aP => exact HK.out)
        (case aF => exact fun _ h => .inr h)
        (case aO => exact Kd.R_mono (by (repeat (with_reducible first | exact HRV.out | apply Kd.R_drewN | apply Kd.R_drew))) (fun _ h => .inl h))
        (case aB => exact (by (repeat (with_reducible first | exact HBW.out | apply pw_below_drewN | apply below_drew1 | apply below_drew))))
        (case aS => exact below_size (by (repeat (with_reducible first | exact HBW.out | apply pw_below_drewN | apply below_drew1 | apply below_drew))))
        (case aL => have := HLM.out; omega)
        intro v1 w1 ho hb hg hat
        obtain ⟨Av, nv, cv, rfl⟩ : ∃ A n c, v1 = .slice A n c := by obtain ⟨A, c, e⟩ := Kd.R_slice ho; exact ⟨A, _, c, e⟩
        have HO1 := Aside0.mk ho
        have HB1 := Aside0.mk hb
        have HH1 := Aside0.mk (Kd.H_grown (Kd.H_widen (by (repeat (with_reducible first | exact HH.out | apply Kd.H_drewN | apply Kd.H_drew)))) hg (fun k hk => .inl (HRV.out.1 k hk)))
        have hc1 := (cut_at HH1.out).1
        have hf1 := (cut_at HH1.out).2
        clear ho hb hg hat HRV HCL HH HBW HPX
        refine hK.out _ _ ?_
        clear hK K
        refine norm_ (a' := ?_) ?_ ?_
        rotate_left
        · show Act.put _ (some 43) _ = _
          simp only [Act.put, List.setIfInBounds_toArray, List.set_cons_zero, List.set_cons_succ, i64_w, i32_w]
          rfl
        refine pure_ (i := 13) (N := some 44) (v := ?_) (a' := ?_) #[true, true, true, true, true, true, true, true, true, true, true, true, true, true, false] rfl rfl (by kernel_rfl) (fun _ _ _ h => h) (Or.inl ⟨by rfl, ?_⟩) ?_ ?_
        rotate_left
        · intro w'
          go_simp
          with_reducible rfl
        rotate_left
        · simp only [Act.put, List.setIfInBounds_toArray, List.set_cons_zero, List.set_cons_succ, i64_w, i32_w]
          rfl
        refine last_ (i := 14) (N := none) #[true, true, true, true, true, true, true, true, true, true, true, true, true, true, true] rfl rfl (by kernel_rfl) (by decide) (fun K hK => ?_)
        refine skip_ (w1 := ?_) (by rfl) rfl ?_ ?_
        rotate_left
        · go_simp
          rfl
        refine hK.out _ _ ?_
        clear hK K
        refine done_ (by kernel_rfl) ?_
        have HP := cut_put (o := o) (last := o.getD m [] ++ [x]) (oki := fun k => oki k ∨ True ∧ w4.heap.size ≤ k) HH1.out (Kd.R_mono HO1.out (fun k hk => hk.elim .inl (fun h => .inr ⟨trivial, h⟩)))
        have HPS := Aside0.mk HP.1
        have HPB := Aside0.mk (show Below w.heap.size w _ from HB1.out.grown HP.2 HB1.out.size (fun k hk => by cases hk; exact HGB.out))
        clear HP HO1 HH1 HB1
        go_wp2_with fail
        have hw6 : wrap64 (((p : Nat) : Int) + 1 + 1) = ((p + 1 + 1 : Nat) : Int) := by unfold wrap64; have := HLT.out; have := HL.out; omega
        rw [hw6]
        exact ⟨⟨p + 1 + 1, HLT.out, rfl, ⟨by rw [HNX3.out]; exact HPS.out⟩, HPB⟩, by have := HLT.out; simp only [intOf, Int.toNat_natCast]; omega⟩

end Go.Proofs.Ythdjdhcdhaicoaa.P
