/- A frame whose length lies, or behind whose data something else stands than noughts, is none. -/
-- Put together by wip/print2/mergelaw.py: printed words (what this claim does not use is left out), printed functions, texts of this session.
import Derived.Test.YtpalloofjljhkaaMMacLength2
/-! REnc -/
namespace Go.Proofs.Ytpalloofjljhkaa.P
open Go.RowKit Go.Proofs.Ytpalloofjljhkaa.Lib Go.Proofs.YtpalloofjljhkaaW.PrintWords Go.Proofs.YtpalloofjljhkaaW.PrintLast Go.Proofs.YtpalloofjljhkaaW.PrintMore
set_option linter.unusedVariables false
set_option linter.unusedSimpArgs false
attribute [local go_sem] max2_int min2_int max_two min_two max_three min_three max_four min_four   -- for this text's walks alone
theorem enc_byte {tt fr l : List Int} (h1 : byteRow tt) (h2 : byteRow fr) (h3 : byteRow l) : byteRow (encB tt fr l) := by
  intro c hc
  unfold encB at hc
  rcases List.mem_append.mp hc with hc | hc
  · rcases List.mem_append.mp hc with hc | hc
    · rcases List.mem_append.mp hc with hc | hc
      · rcases List.mem_append.mp hc with hc | hc
        · exact h1 c hc
        · exact h2 c hc
      · exact beN_bytes 2 _ c hc
    · exact h3 c hc
  · rw [List.eq_of_mem_replicate hc]; exact ⟨by decide, by decide⟩
theorem rgrp_f (x : Int) (a b c d e : Int) : antiphonref1_Group.f x a b c d e = some (isGrp x) := rfl
set_option maxHeartbeats 8000000 in
set_option maxRecDepth 100000 in
theorem ref_Encode.ok (t0 t1 t2 t3 t4 t5 f0 f1 f2 f3 f4 f5 : Int) (A0 : Option Addr) (c0 : Nat) (l0 : List Int) (w : World) (hr0 : Kd.C (Kd.int .u8) w A0 l0.length l0) (hc0 : l0.length ≤ c0) (hg : isGrp f0 = false) (hl : l0.length ≤ 1500) (hb : byteRow l0) (hbt : byteRow [t0, t1, t2, t3, t4, t5]) (hbf : byteRow [f0, f1, f2, f3, f4, f5]) :
    Calls Try.prog 33 #[.agg #[.int .u8 t0, .int .u8 t1, .int .u8 t2, .int .u8 t3, .int .u8 t4, .int .u8 t5, .int .u8 f0, .int .u8 f1, .int .u8 f2, .int .u8 f3, .int .u8 f4, .int .u8 f5, .slice A0 l0.length c0]] w fun e w' => ∃ v, e = .returned (.tuple #[v, .int .i64 0]) ∧ Kd.R (Kd.int .u8) 5 w' w.heap.size (fun _ => True) v (sealI (encB [t0, t1, t2, t3, t4, t5] [f0, f1, f2, f3, f4, f5] l0)) ∧ Below w.heap.size w w' := by
  have d1 : decide ((1500 : Int) < (l0.length : Int)) = false := decide_eq_false (by omega)
  have HC := Aside0.mk hc0
  have HL := Aside0.mk hl
  have HCP := Aside0.mk (copy_any (a := [t0, t1, t2, t3, t4, t5]) (show 6 ≤ 140737488355328 by decide))
  have HPU := Aside0.mk (show antiphonref1_Put.f 10 (l0.length : Int) 2 = some (beN 2 (l0.length : Int)) by
    have h := put_ref (l0.length : Int) 2 0
    rw [h]
    unfold putL
    rw [if_pos ⟨by decide, by decide, by omega, by show (l0.length : Int) < 2 ^ 16; omega⟩]
    rfl)
  have HBE := Aside0.mk (beN_length 2 (l0.length : Int))
  have HBYT := Aside0.mk (enc_byte hbt hbf hb)
  have HLEN := Aside0.mk (show (encB [t0, t1, t2, t3, t4, t5] [f0, f1, f2, f3, f4, f5] l0).length < 140737488355000 by
    unfold encB
    simp only [List.length_append, List.length_cons, List.length_nil, List.length_replicate, beN_length]
    omega)
  have HEN := Aside0.mk (show encB [t0, t1, t2, t3, t4, t5] [f0, f1, f2, f3, f4, f5] l0 = [t0, t1, t2, t3, t4, t5] ++ [f0, f1, f2, f3, f4, f5] ++ beN 2 (l0.length : Int) ++ l0 ++ List.replicate (46 - l0.length) 0 from rfl)
  generalize hbe : beN 2 (l0.length : Int) = be at HPU HBE HEN
  generalize encB [t0, t1, t2, t3, t4, t5] [f0, f1, f2, f3, f4, f5] l0 = G at HBYT HLEN HEN ⊢
  clear hc0 hb hbt hbf hbe
  have HR := Aside0.mk hr0
  have hm0 : l0.length ≤ 9223372036854775807 := hr0.2.1
  clear hr0
  go_enter Try.func33, Try.ntmps33
  go_wp2_with fail
  have hb1 := blk_new w (.cells #[.int .u8 t0, .int .u8 t1, .int .u8 t2, .int .u8 t3, .int .u8 t4, .int .u8 t5, .int .u8 f0, .int .u8 f1, .int .u8 f2, .int .u8 f3, .int .u8 f4, .int .u8 f5, .slice A0 l0.length c0] 45 (0, 0))
  have hbw : Below w.heap.size w (w.alloc (.cells #[.int .u8 t0, .int .u8 t1, .int .u8 t2, .int .u8 t3, .int .u8 t4, .int .u8 t5, .int .u8 f0, .int .u8 f1, .int .u8 f2, .int .u8 f3, .int .u8 f4, .int .u8 f5, .slice A0 l0.length c0] 45 (0, 0))) := below_alloc (Below.refl _ _) _
  generalize w.alloc (.cells #[.int .u8 t0, .int .u8 t1, .int .u8 t2, .int .u8 t3, .int .u8 t4, .int .u8 t5, .int .u8 f0, .int .u8 f1, .int .u8 f2, .int .u8 f3, .int .u8 f4, .int .u8 f5, .slice A0 l0.length c0] 45 (0, 0)) = w1 at hb1 hbw ⊢
  have HB := Aside0.mk hbw
  have HF := Aside0.mk hb1
  clear hb1 hbw
  refine (antiphonref1_Group.calls f0 f1 f2 f3 f4 f5 _ _ (rgrp_f _ _ _ _ _ _)).mono ?_
  rintro e w2 ⟨rfl, hB⟩
  replace HF := Aside0.mk (blk_below HF.out hB)
  replace HB := Aside0.mk (below_step HB.out hB)
  have hk12 := (show w2.cell? ⟨w.heap.size, 12, none⟩ = some (.slice A0 l0.length c0) from (blk_cell HF.out 12).trans rfl)
  clear hB
  rw [hg]
  go_wp2_with fail
  refine start_ (n := 7) (S := fun w' => True) (ds := []) #[false, false, false, false, false, false, false] (by kernel_rfl) rfl rfl trivial (fun hHeld => ?_)
  refine pure_ (i := 0) (N := some 13) (v := ?_) (a' := ?_) #[true, false, false, false, false, false, false] rfl rfl (by kernel_rfl) (fun _ _ _ h => h) (Or.inl ⟨by rfl, ?_⟩) ?_ ?_
  rotate_left
  · intro w'
    go_simp
    with_reducible rfl
  rotate_left
  · simp only [Act.put, List.setIfInBounds_toArray, List.set_cons_zero, List.set_cons_succ, i64_w, i32_w]
    rfl
  refine pure_ (i := 1) (N := some 14) (v := ?_) (a' := ?_) #[true, true, false, false, false, false, false] rfl rfl (by kernel_rfl) (fun _ _ _ h => h) (Or.inl ⟨by rfl, ?_⟩) ?_ ?_
  rotate_left
  · intro w'
    go_simp
    with_reducible rfl
  rotate_left
  · simp only [Act.put, List.setIfInBounds_toArray, List.set_cons_zero, List.set_cons_succ, i64_w, i32_w]
    rfl
  refine pure_ (i := 3) (N := some 16) (v := ?_) (a' := ?_) #[true, true, false, true, false, false, false] rfl rfl (by kernel_rfl) (fun _ _ _ h => h) (Or.inl ⟨by rfl, ?_⟩) ?_ ?_
  rotate_left
  · intro w'
    go_simp
    with_reducible rfl
  rotate_left
  · simp only [Act.put, List.setIfInBounds_toArray, List.set_cons_zero, List.set_cons_succ, i64_w, i32_w]
    rfl
  refine pure_ (i := 4) (N := some 17) (v := ?_) (a' := ?_) #[true, true, false, true, true, false, false] rfl rfl (by kernel_rfl) (fun _ _ _ h => h) (Or.inl ⟨by rfl, ?_⟩) ?_ ?_
  rotate_left
  · intro w'
    go_simp
    with_reducible rfl
  rotate_left
  · simp only [Act.put, List.setIfInBounds_toArray, List.set_cons_zero, List.set_cons_succ, i64_w, i32_w]
    rfl
  refine one_ (i := 2) (N := some 15) #[true, true, true, true, true, false, false] rfl rfl (by kernel_rfl) (by decide) (fun K hK => ?_)
  replace HF := Aside0.mk (show w2.drew.heap[w.heap.size]? = some (.cells #[.int .u8 t0, .int .u8 t1, .int .u8 t2, .int .u8 t3, .int .u8 t4, .int .u8 t5, .int .u8 f0, .int .u8 f1, .int .u8 f2, .int .u8 f3, .int .u8 f4, .int .u8 f5, .slice A0 l0.length c0] 45 (0, 0)) from HF.out)
  replace HB := Aside0.mk (below_drew1 HB.out)
  refine goes_ Try.func22 (by kernel_rfl) rfl #[.slice (some ⟨w.heap.size, 0, none⟩) 6 6] (by rfl) rfl rfl (by simp only [List.map_toArray, List.map_cons, List.map_nil]; rfl) ?_
  refine (antiphonref1_Copy.calls _ _ 6 [t0, t1, t2, t3, t4, t5] [t0, t1, t2, t3, t4, t5] w2.drew (part_C (off := 0) (xs := [t0, t1, t2, t3, t4, t5]) HF.out rfl (show 6 ≤ 9223372036854775807 by decide) (six rfl rfl rfl rfl rfl rfl)) (show 6 ≤ 6 from Nat.le_refl _) HCP.out).mono ?_
  rintro e w3 ⟨v3, rfl, hR, hB⟩
  refine ⟨_, rfl, ?_⟩
  have HX := Aside0.mk (Kd.R_lower hR HB.out.size)
  replace HF := Aside0.mk (blk_below HF.out hB)
  replace HB := Aside0.mk (below_step HB.out hB)
  clear hR hB
  refine hK.out _ _ trivial (fun hHeld => ?_)
  clear hK K
  refine norm_ (a' := ?_) ?_ ?_
  rotate_left
  · show Act.put _ (some 15) _ = _
    simp only [Act.put, List.setIfInBounds_toArray, List.set_cons_zero, List.set_cons_succ, i64_w, i32_w]
    rfl
  refine one_ (i := 5) (N := some 18) #[true, true, true, true, true, true, false] rfl rfl (by kernel_rfl) (by decide) (fun K hK => ?_)
  refine Kd.R_append_rows_step (Kd.int .u8) (w0 := w) w.heap.size (by rfl) (.tmp 15) (.tmp 17) 22 5 (.int .u8 0) 1 rfl Try.underlying22 info5 rfl (by decide) (by omega) v3 [t0, t1, t2, t3, t4, t5] [f0, f1, f2, f3, f4, f5] (some ⟨w.heap.size, 6, none⟩) 6 6 (fun _ => True) (fun _ => False) rfl rfl HX.out (part_C (off := 6) (xs := [f0, f1, f2, f3, f4, f5]) HF.out rfl (show 6 ≤ 9223372036854775807 by decide) (six rfl rfl rfl rfl rfl rfl)) (fun _ _ h => h) (fun _ h => h.elim) (fun _ _ => trivial) HB.out HB.out.size (by simp) ?_
  intro v4 w4 ho hb hg hat
  replace HF := Aside0.mk ((hg.block _ (blk_lt HF.out) (Kd.R_ne HX.out HF.out (by decide))).trans HF.out)
  replace HX := Aside0.mk ho
  replace HB := Aside0.mk hb
  clear ho hb hg hat
  refine hK.out _ _ trivial (fun hHeld => ?_)
  clear hK K
  refine norm_ (a' := ?_) ?_ ?_
  rotate_left
  · show Act.put _ (some 18) _ = _
    simp only [Act.put, List.setIfInBounds_toArray, List.set_cons_zero, List.set_cons_succ, i64_w, i32_w]
    rfl
  refine pure_ (i := 6) (N := some 4) (v := ?_) (a' := ?_) #[true, true, true, true, true, true, true] rfl rfl (by kernel_rfl) (fun _ _ _ h => h) (Or.inl ⟨by rfl, ?_⟩) ?_ ?_
  rotate_left
  · intro w'
    go_simp
    with_reducible rfl
  rotate_left
  · simp only [Act.put, List.setIfInBounds_toArray, List.set_cons_zero, List.set_cons_succ, i64_w, i32_w]
    rfl
  refine done_ (by kernel_rfl) ?_
  have hk12 := (show w4.cell? ⟨w.heap.size, 12, none⟩ = some (.slice A0 l0.length c0) from (blk_cell HF.out 12).trans rfl)
  go_wp2_with fail
  refine (antiphonref1_Put.calls 10 _ _ _ _ HPU.out).mono ?_
  rintro e w5 ⟨v5, rfl, hR5, hB⟩
  obtain ⟨A5, c5, rfl, hc5, hC5⟩ := Kd.R_reads hR5
  have HC5 := Aside0.mk hC5
  replace HF := Aside0.mk (blk_below HF.out hB)
  replace HX := Aside0.mk (Kd.R_below HX.out hB)
  replace HB := Aside0.mk (below_step HB.out hB)
  have hk12 := (show w5.cell? ⟨w.heap.size, 12, none⟩ = some (.slice A0 l0.length c0) from (blk_cell HF.out 12).trans rfl)
  clear hB hR5 hC5 hc5
  go_wp2_with (first
    | (at_builtin; refine Kd.R_append_rows (Kd.int .u8) (w0 := w) w.heap.size rfl (.tmp 19) (.tmp 23) 22 5 (.int .u8 0) 1 rfl Try.underlying22 info5 rfl (by decide) (by omega) v4 ([t0, t1, t2, t3, t4, t5] ++ [f0, f1, f2, f3, f4, f5]) be A5 be.length c5 (fun _ => True) (fun _ => False) rfl rfl HX.out HC5.out (fun _ _ h => h) (fun _ h => h.elim) (fun _ _ => trivial) HB.out HB.out.size (by have := HBE.out; have := HL.out; simp only [List.length_append, List.length_cons, List.length_nil]; omega) ?_; intro v6 w6 ho hb hg hat; replace HF := Aside0.mk ((hg.block _ (blk_lt HF.out) (Kd.R_ne HX.out HF.out (by decide))).trans HF.out); have hk12 := (show w6.cell? ⟨w.heap.size, 12, none⟩ = some (.slice A0 l0.length c0) from (blk_cell HF.out 12).trans rfl); replace HX := Aside0.mk ho; replace HB := Aside0.mk hb; clear ho hb hg hat)
    | (at_builtin; refine Kd.R_append_rows (Kd.int .u8) (w0 := w) w.heap.size rfl (.tmp 25) (.tmp 27) 22 5 (.int .u8 0) 1 rfl Try.underlying22 info5 rfl (by decide) (by omega) v6 ([t0, t1, t2, t3, t4, t5] ++ [f0, f1, f2, f3, f4, f5] ++ be) l0 A0 l0.length c0 (fun _ => True) (fun _ => False) rfl rfl HX.out (Kd.C_below HR.out HB.out) (fun _ _ h => h) (fun _ h => h.elim) (fun _ _ => trivial) HB.out HB.out.size (by have := HBE.out; have := HL.out; simp only [List.length_append, List.length_cons, List.length_nil]; omega) ?_; intro v7 w7 ho hb hg hat; replace HF := Aside0.mk ((hg.block _ (blk_lt HF.out) (Kd.R_ne HX.out HF.out (by decide))).trans HF.out); have hk12 := (show w7.cell? ⟨w.heap.size, 12, none⟩ = some (.slice A0 l0.length c0) from (blk_cell HF.out 12).trans rfl); replace HX := Aside0.mk ho; replace HB := Aside0.mk hb; clear ho hb hg hat))
  have HXL := Aside0.mk (show ([t0, t1, t2, t3, t4, t5] ++ [f0, f1, f2, f3, f4, f5] ++ be ++ l0).length ≤ 2000 by have := HBE.out; have := HL.out; simp only [List.length_append, List.length_cons, List.length_nil]; omega)
  generalize [t0, t1, t2, t3, t4, t5] ++ [f0, f1, f2, f3, f4, f5] ++ be ++ l0 = X at HX HXL HEN
  go_loopw [5, 4] (fun v5 v4 wr => ∃ j : Nat, j ≤ 46 - l0.length ∧ v5 = .int .i64 ((l0.length + j : Nat) : Int) ∧ Aside0 (Kd.R (Kd.int .u8) 5 wr w.heap.size (fun _ => True) v4 (X ++ List.replicate j 0)) ∧ Aside0 (Below w.heap.size w wr)) (fun v5 _ _ => 46 - (intOf v5).toNat)
  case atStart => exact ⟨0, Nat.zero_le _, by simp, ⟨by rw [List.replicate_zero, List.append_nil]; exact HX.out⟩, HB⟩
  case round =>
    obtain ⟨j, hj, rfl, HO, HB9⟩ := hrel
    by_cases hlt : l0.length + j < 46
    · have d2 : decide (((l0.length + j : Nat) : Int) < 46) = true := decide_eq_true (by omega)
      have e2 : X ++ List.replicate j 0 ++ [0] = X ++ List.replicate (j + 1) 0 := by rw [List.append_assoc, ← List.replicate_succ']
      have HE2 := Aside0.mk e2
      clear e2
      have hq1 : j + 1 ≤ 46 - l0.length := by omega
      have HQJ := Aside0.mk (show ((l0.length + (j + 1) : Nat) : Int) = ((l0.length + j : Nat) : Int) + 1 by omega)
      have HJL := Aside0.mk hj
      generalize hjj : l0.length + j = q at d2 HQJ ⊢
      have hq46 : q < 46 := by omega
      clear hjj
      go_wp2_with (at_builtin; refine Kd.R_append_rows (Kd.int .u8) (w0 := w) w.heap.size rfl (.tmp 36) (.tmp 37) 22 5 (.int .u8 0) 1 rfl Try.underlying22 info5 rfl (by decide) (by omega) _ (X ++ List.replicate j 0) [0] (some ⟨World.heap _ |>.size, 0, none⟩) 1 1 (fun _ => True) (fun _ => False) rfl rfl (Kd.R_alloc HO.out _) (lit_C (xs := [0]) (blk_new _ _) rfl (by decide)) (fun _ _ h => h) (fun _ h => h.elim) (fun _ _ => trivial) (below_alloc HB9.out _) (below_alloc HB9.out _).size (by have := HXL.out; have := HJL.out; simp only [List.length_append, List.length_replicate, List.length_cons, List.length_nil]; omega) ?_; intro v9 w9 ho hb hg hat; rw [HE2.out] at ho; replace HO := Aside0.mk ho; replace HB9 := Aside0.mk hb; clear ho hb hg hat)
      go_round
      case rel => exact ⟨j + 1, hq1, by rw [HQJ.out], HO, HB9⟩
      case measure => simp [intOf]; omega
    · obtain rfl : j = 46 - l0.length := by omega
      have d2 : decide (((l0.length + (46 - l0.length) : Nat) : Int) < 46) = false := decide_eq_false (by omega)
      rw [← HEN.out] at HO
      obtain ⟨A8, c8, hv8, hc8, hC8⟩ := Kd.R_reads HO.out
      subst hv8
      have HC8 := Aside0.mk hC8
      have Hc8 := Aside0.mk hc8
      clear hC8 hc8
      generalize hjj : l0.length + (46 - l0.length) = q at d2 ⊢
      clear hjj
      go_wp2_with fail
      refine (ref_Seal.calls A8 c8 G _ HC8.out Hc8.out HBYT.out HLEN.out).mono ?_
      rintro e w9 ⟨v9, rfl, hR9, hB⟩
      have HR9 := Aside0.mk (Kd.R_lower hR9 HB9.out.size)
      replace HB9 := Aside0.mk (below_step HB9.out hB)
      clear hB hR9
      go_wp2_with fail
      go_ret2
      exact ⟨_, rfl, HR9.out, HB9.out⟩
end Go.Proofs.Ytpalloofjljhkaa.P
/-! RDec -/
namespace Go.Proofs.Ytpalloofjljhkaa.P
open Go.RowKit Go.Proofs.Ytpalloofjljhkaa.Lib Go.Proofs.YtpalloofjljhkaaW.PrintWords Go.Proofs.YtpalloofjljhkaaW.PrintLast Go.Proofs.YtpalloofjljhkaaW.PrintMore
set_option linter.unusedVariables false
set_option linter.unusedSimpArgs false
attribute [local go_sem] max2_int min2_int max_two min_two max_three min_three max_four min_four   -- for this text's walks alone
theorem info5_ : (Try.prog.info? 5).map (·.size) = some 1 := by kernel_rfl
section
variable {P : Program}
theorem wpList_store_byte {ops : Array Oper} {rest : List Oper} {op : Oper} {a : Act} {w : World} {Q : Exit → Act → World → Prop} (hgd : op.guard = none) (x y : Operand) (ho : op.op = .store 5 x y)
    (g i : Nat) (v : Int) (Z Z' : Array Value) (t : TypeId) (hx : a.eval x = .pointer (some ⟨g, i, none⟩)) (hy : a.eval y = .int .u8 v) (hZ : w.heap[g]? = some (.cells Z t (0, 0))) (hi : i + 1 ≤ Z.size) (hov : overRow Z i [.int .u8 v] = Z')
    (hu : (P.info? 5).map (·.size) = some 1)
    (h : ∀ W', W'.heap[g]? = some (.cells Z' t (0, 0)) → w.grownBy W' (some g) → wpList P ops Q rest (a.put op.dst undef) W') : wpList P ops Q (op :: rest) a w := by
  refine wpList_plain hgd fun K hK => ?_
  have hrun := run_store_run (P := P) 5 (.int .u8 v) [.int .u8 v] hZ rfl hu hi (by intro q hq; rw [List.mem_singleton.mp hq]; rfl)
  unfold Oper.wp execOp
  simp only [ho, hx, hy, Sem.run_bind, Sem.run_pure, Result.andThen_ok, hrun]
  refine hK _ _ (h _ ?_ (grown_setCells _ _ _ _))
  rw [← hov]
  exact heap_setCells g t _ i w Z hZ
end
theorem byte_at {W : World} {g n i : Nat} {X : List Int} (h : Kd.C (Kd.int .u8) W (some ⟨g, 0, none⟩) n X) (hi : i < n) : W.cell? ⟨g, i, none⟩ = some (.int .u8 (hdv X i)) := by
  obtain ⟨ad, e1, hx⟩ := Kd.at_int h (i : Int) (by omega) (by omega)
  injection e1 with e1
  subst e1
  rw [rd_nat, Int.toNat_natCast] at hx
  have ha : (Addr.add ⟨g, 0, none⟩ i) = ⟨g, i, none⟩ := by unfold Addr.add; split <;> simp_all
  rw [ha] at hx
  exact hx
theorem piece_C {W : World} {g : Nat} {X : List Int} (h : Kd.C (Kd.int .u8) W (some ⟨g, 0, none⟩) X.length X) (off n : Nat) (ho : off + n ≤ X.length) : Kd.C (Kd.int .u8) W (some ⟨g, off, none⟩) n ((X.drop off).take n) := by
  have hl : ((X.drop off).take n).length = n := by rw [List.length_take, List.length_drop]; omega
  refine Kd.C_of_reads (d := (0 : Int)) (h1 := fun _ => rfl) ⟨hl, by have := h.2.1; omega, fun _ => ⟨⟨g, off, none⟩, rfl, fun j hj => ?_⟩⟩
  have ha : (Addr.add ⟨g, off, none⟩ j) = ⟨g, off + j, none⟩ := by unfold Addr.add; split <;> simp_all
  rw [ha, byte_at h (by omega)]
  unfold hdv
  rw [List.getD_eq_getElem?_getD, List.getD_eq_getElem?_getD, List.getElem?_take, if_pos hj, List.getElem?_drop]
theorem cut_part (g n c lo hi : Nat) (h1 : lo ≤ hi) (h2 : hi ≤ n) (hc : n ≤ c) (h0 : lo < c) : ∀ W : World, (Instr.slice 22 (.slice (some ⟨g, 0, none⟩) n c) (some (.int .i64 (lo : Int))) (some (.int .i64 (hi : Int))) none).run Try.prog W = .ok (.slice (some ⟨g, lo, none⟩) (hi - lo) (c - lo)) W := by
  intro W
  obtain ⟨i0, hi0, hz0, hz1, hz2⟩ := info_parts info5
  rw [cut_mid 22 5 .i64 .i64 (P := Try.prog) Try.underlying22 hi0 1 hz1 (some ⟨g, 0, none⟩) n c (lo : Int) (hi : Int) (by omega) (by omega) (by omega) hc W]
  have ha : (Addr.add ⟨g, 0, none⟩ (lo * 1)) = ⟨g, lo, none⟩ := by unfold Addr.add; split <;> simp_all
  rw [Int.toNat_natCast, Int.toNat_natCast, if_neg (by omega), Option.map_some, ha]
theorem rget2 {X : List Int} (hb : byteRow X) (h : 14 ≤ X.length) : antiphonref1_Get.f 11 ((X.drop 12).take 2) = some (be16 X) := by
  have h1 : X.drop 12 = hdv X 12 :: X.drop 13 := by
    unfold hdv
    rw [List.getD_eq_getElem?_getD, List.getElem?_eq_getElem (show 12 < X.length by omega)]
    exact List.drop_eq_getElem_cons (by omega)
  have h2 : X.drop 13 = hdv X 13 :: X.drop 14 := by
    unfold hdv
    rw [List.getD_eq_getElem?_getD, List.getElem?_eq_getElem (show 13 < X.length by omega)]
    exact List.drop_eq_getElem_cons (by omega)
  have b1 : 0 ≤ hdv X 12 ∧ hdv X 12 < 256 := getD_byte hb 12
  have b2 : 0 ≤ hdv X 13 ∧ hdv X 13 < 256 := getD_byte hb 13
  have e : (X.drop 12).take 2 = [hdv X 12, hdv X 13] := by rw [h1, h2]; rfl
  have hbb : Bytes [hdv X 12, hdv X 13] := by
    intro c hc
    simp only [List.mem_cons, List.not_mem_nil, or_false] at hc
    rcases hc with rfl | rfl
    · exact b1
    · exact b2
  rw [e, get_ref [hdv X 12, hdv X 13] hbb 0]
  unfold getL be16 numL
  simp
set_option maxHeartbeats 8000000 in
set_option maxRecDepth 100000 in
theorem ref_Decode.short (A0 : Option Addr) (c0 : Nat) (l0 : List Int) (w : World) (hr0 : Kd.C (Kd.int .u8) w A0 l0.length l0) (hc0 : l0.length ≤ c0) (hl : l0.length < 64) :
    Calls Try.prog 35 #[.slice A0 l0.length c0] w fun e w' => e = .returned (.tuple #[.agg #[.int .u8 0, .int .u8 0, .int .u8 0, .int .u8 0, .int .u8 0, .int .u8 0, .int .u8 0, .int .u8 0, .int .u8 0, .int .u8 0, .int .u8 0, .int .u8 0, .slice none 0 0], .int .i64 2]) ∧ Below w.heap.size w w' := by
  have d1 : decide ((l0.length : Int) < 64) = true := decide_eq_true (by omega)
  have HR := Aside0.mk hr0
  have HC := Aside0.mk hc0
  have hm0 : l0.length ≤ 9223372036854775807 := hr0.2.1
  have hu45 := Try.underlying45
  have hu43 := Try.underlying43
  clear hr0 hc0
  go_enter Try.func35, Try.ntmps35
  go_upto_region 1 with fail
  have hb1 := blk_new w (.cells #[.int .u8 0, .int .u8 0, .int .u8 0, .int .u8 0, .int .u8 0, .int .u8 0, .int .u8 0, .int .u8 0, .int .u8 0, .int .u8 0, .int .u8 0, .int .u8 0, .slice none 0 0] 45 (0, 0))
  have hbw := below_alloc (Below.refl w.heap.size w) (.cells #[.int .u8 0, .int .u8 0, .int .u8 0, .int .u8 0, .int .u8 0, .int .u8 0, .int .u8 0, .int .u8 0, .int .u8 0, .int .u8 0, .int .u8 0, .int .u8 0, .slice none 0 0] 45 (0, 0))
  generalize w.alloc (.cells #[.int .u8 0, .int .u8 0, .int .u8 0, .int .u8 0, .int .u8 0, .int .u8 0, .int .u8 0, .int .u8 0, .int .u8 0, .int .u8 0, .int .u8 0, .int .u8 0, .slice none 0 0] 45) = w1 at hb1 hbw ⊢
  have HB := Aside0.mk hbw
  have H2 := Aside0.mk hb1
  clear hb1 hbw
  go_wp2_with (first
    | (refine wpList_store_part rfl 45 (.tmp 2) (.tmp 13) rfl w.heap.size 0 #[.int .u8 0, .int .u8 0, .int .u8 0, .int .u8 0, .int .u8 0, .int .u8 0, .int .u8 0, .int .u8 0, .int .u8 0, .int .u8 0, .int .u8 0, .int .u8 0, .slice none 0 0] #[.int .u8 0, .int .u8 0, .int .u8 0, .int .u8 0, .int .u8 0, .int .u8 0, .int .u8 0, .int .u8 0, .int .u8 0, .int .u8 0, .int .u8 0, .int .u8 0, .slice none 0 0] #[.int .u8 0, .int .u8 0, .int .u8 0, .int .u8 0, .int .u8 0, .int .u8 0, .int .u8 0, .int .u8 0, .int .u8 0, .int .u8 0, .int .u8 0, .int .u8 0, .slice none 0 0] 45 rfl rfl H2.out (by decide) (by rfl) info45_ (by rfl) ?_; intro wz hZ hG; replace H2 := Aside0.mk hZ; replace HB := Aside0.mk (below_own HB.out hG (Nat.le_refl _)); clear hZ hG))
  exact bodyPost_ret (results_frame rfl _ _ w.heap.size _ rfl rfl H2.out) rfl ⟨rfl, HB.out⟩
set_option maxHeartbeats 8000000 in
set_option maxRecDepth 100000 in
theorem ref_Decode.sum (A0 : Option Addr) (c0 : Nat) (l0 : List Int) (w : World) (hr0 : Kd.C (Kd.int .u8) w A0 l0.length l0) (hc0 : l0.length ≤ c0) (hl : 64 ≤ l0.length) (hb : byteRow l0) (hmx : l0.length < 140737488355000) (hop : openB l0 = false) :
    Calls Try.prog 35 #[.slice A0 l0.length c0] w fun e w' => e = .returned (.tuple #[.agg #[.int .u8 0, .int .u8 0, .int .u8 0, .int .u8 0, .int .u8 0, .int .u8 0, .int .u8 0, .int .u8 0, .int .u8 0, .int .u8 0, .int .u8 0, .int .u8 0, .slice none 0 0], .int .i64 5]) ∧ Below w.heap.size w w' := by
  have d1 : decide ((l0.length : Int) < 64) = false := decide_eq_false (by omega)
  have HOP := Aside0.mk hop
  have HBY := Aside0.mk hb
  have HMX := Aside0.mk hmx
  clear hop hb hmx
  have HR := Aside0.mk hr0
  have HC := Aside0.mk hc0
  have hm0 : l0.length ≤ 9223372036854775807 := hr0.2.1
  have hu45 := Try.underlying45
  have hu43 := Try.underlying43
  clear hr0 hc0
  go_enter Try.func35, Try.ntmps35
  go_upto_region 1 with fail
  have hb1 := blk_new w (.cells #[.int .u8 0, .int .u8 0, .int .u8 0, .int .u8 0, .int .u8 0, .int .u8 0, .int .u8 0, .int .u8 0, .int .u8 0, .int .u8 0, .int .u8 0, .int .u8 0, .slice none 0 0] 45 (0, 0))
  have hbw := below_alloc (Below.refl w.heap.size w) (.cells #[.int .u8 0, .int .u8 0, .int .u8 0, .int .u8 0, .int .u8 0, .int .u8 0, .int .u8 0, .int .u8 0, .int .u8 0, .int .u8 0, .int .u8 0, .int .u8 0, .slice none 0 0] 45 (0, 0))
  generalize w.alloc (.cells #[.int .u8 0, .int .u8 0, .int .u8 0, .int .u8 0, .int .u8 0, .int .u8 0, .int .u8 0, .int .u8 0, .int .u8 0, .int .u8 0, .int .u8 0, .int .u8 0, .slice none 0 0] 45) = w1 at hb1 hbw ⊢
  have HB := Aside0.mk hbw
  have H2 := Aside0.mk hb1
  clear hb1 hbw
  go_wp2_with fail
  refine (ref_Open.calls _ _ _ _ (Kd.C_below HR.out HB.out) HC.out HBY.out HMX.out).mono ?_
  rintro e w4 ⟨v4, rfl, hR, hB⟩
  rw [HOP.out]
  replace H2 := Aside0.mk (blk_below H2.out hB)
  replace HB := Aside0.mk (below_step HB.out hB)
  clear hB hR
  go_wp2_with (first
    | (refine wpList_store_part rfl 45 (.tmp 2) (.tmp 21) rfl w.heap.size 0 #[.int .u8 0, .int .u8 0, .int .u8 0, .int .u8 0, .int .u8 0, .int .u8 0, .int .u8 0, .int .u8 0, .int .u8 0, .int .u8 0, .int .u8 0, .int .u8 0, .slice none 0 0] #[.int .u8 0, .int .u8 0, .int .u8 0, .int .u8 0, .int .u8 0, .int .u8 0, .int .u8 0, .int .u8 0, .int .u8 0, .int .u8 0, .int .u8 0, .int .u8 0, .slice none 0 0] #[.int .u8 0, .int .u8 0, .int .u8 0, .int .u8 0, .int .u8 0, .int .u8 0, .int .u8 0, .int .u8 0, .int .u8 0, .int .u8 0, .int .u8 0, .int .u8 0, .slice none 0 0] 45 rfl rfl H2.out (by decide) (by rfl) info45_ (by rfl) ?_; intro wz hZ hG; replace H2 := Aside0.mk hZ; replace HB := Aside0.mk (below_own HB.out hG (Nat.le_refl _)); clear hZ hG))
  exact bodyPost_ret (results_frame rfl _ _ w.heap.size _ rfl rfl H2.out) rfl ⟨rfl, HB.out⟩
set_option maxHeartbeats 8000000 in
set_option maxRecDepth 100000 in
theorem ref_Decode.body (A0 : Option Addr) (c0 : Nat) (l0 : List Int) (w : World) (hr0 : Kd.C (Kd.int .u8) w A0 l0.length l0) (hc0 : l0.length ≤ c0) (hl : 64 ≤ l0.length) (hb : byteRow l0) (hmx : l0.length < 140737488355000) (hop : openB l0 = true) :
    Calls Try.prog 35 #[.slice A0 l0.length c0] w fun e w' => ∃ A c, e = .returned (.tuple #[.agg (frame (decH l0) A (decD l0).length c), .int .i64 (decE l0)]) ∧ (decD l0).length ≤ c ∧ Kd.C (Kd.int .u8) w' A (decD l0).length (decD l0) ∧ Below w.heap.size w w' := by
  have d1 : decide ((l0.length : Int) < 64) = false := decide_eq_false (by omega)
  have HOP := Aside0.mk hop
  have HBY := Aside0.mk hb
  have HMX := Aside0.mk hmx
  obtain ⟨X, hX⟩ : ∃ X, openL l0 = X := ⟨_, rfl⟩
  have hXe : X = l0.take (l0.length - 4) := by rw [← hX]; unfold openL; rw [hop, if_pos rfl]
  have HXL := Aside0.mk (show 60 ≤ X.length ∧ X.length < 140737488355000 by rw [hXe, List.length_take]; omega)
  have HXB := Aside0.mk (show byteRow X by rw [hXe]; exact fun c hc => hb c (List.mem_of_mem_take hc))
  have HX := Aside0.mk hX
  have HDE := Aside0.mk (show decE l0 = if headOk X && padOk X then 0 else 4 by unfold decE; rw [if_neg (by omega), hop, if_pos rfl, hX])
  have HDD := Aside0.mk (show decD l0 = if decE l0 = 0 then (X.drop 14).take (be16 X).toNat else [] by unfold decD; rw [hX])
  clear hop hb hmx hX hXe
  have HR := Aside0.mk hr0
  have HC := Aside0.mk hc0
  have hm0 : l0.length ≤ 9223372036854775807 := hr0.2.1
  have hu45 := Try.underlying45
  have hu43 := Try.underlying43
  clear hr0 hc0
  go_enter Try.func35, Try.ntmps35
  go_upto_region 1 with fail
  have hb1 := blk_new w (.cells #[.int .u8 0, .int .u8 0, .int .u8 0, .int .u8 0, .int .u8 0, .int .u8 0, .int .u8 0, .int .u8 0, .int .u8 0, .int .u8 0, .int .u8 0, .int .u8 0, .slice none 0 0] 45 (0, 0))
  have hbw := below_alloc (Below.refl w.heap.size w) (.cells #[.int .u8 0, .int .u8 0, .int .u8 0, .int .u8 0, .int .u8 0, .int .u8 0, .int .u8 0, .int .u8 0, .int .u8 0, .int .u8 0, .int .u8 0, .int .u8 0, .slice none 0 0] 45 (0, 0))
  generalize w.alloc (.cells #[.int .u8 0, .int .u8 0, .int .u8 0, .int .u8 0, .int .u8 0, .int .u8 0, .int .u8 0, .int .u8 0, .int .u8 0, .int .u8 0, .int .u8 0, .int .u8 0, .slice none 0 0] 45) = w1 at hb1 hbw ⊢
  have HB := Aside0.mk hbw
  have H2 := Aside0.mk hb1
  clear hb1 hbw
  go_wp2_with fail
  refine (ref_Open.calls _ _ _ _ (Kd.C_below HR.out HB.out) HC.out HBY.out HMX.out).mono ?_
  rintro e w4 ⟨v4, rfl, hR, hB⟩
  rw [HOP.out]
  rw [HX.out] at hR
  obtain ⟨A4, c4, rfl, hc4, hC4⟩ := Kd.R_reads hR
  obtain ⟨gx, rfl⟩ := R_some_ hR (by have := HXL.out; omega)
  have HC4 := Aside0.mk hC4
  have Hc4 := Aside0.mk hc4
  replace H2 := Aside0.mk (blk_below H2.out hB)
  have HN0 := Aside0.mk (blk_lt H2.out)
  replace HB := Aside0.mk (below_step HB.out hB)
  clear hB hR hC4 hc4
  go_upto_region 7 with fail
  have hbf := blk_new w4 (.cells #[.int .u8 0, .int .u8 0, .int .u8 0, .int .u8 0, .int .u8 0, .int .u8 0, .int .u8 0, .int .u8 0, .int .u8 0, .int .u8 0, .int .u8 0, .int .u8 0, .slice none 0 0] 45 (0, 0))
  have hbw := below_alloc (Below.refl w4.heap.size w4) (.cells #[.int .u8 0, .int .u8 0, .int .u8 0, .int .u8 0, .int .u8 0, .int .u8 0, .int .u8 0, .int .u8 0, .int .u8 0, .int .u8 0, .int .u8 0, .int .u8 0, .slice none 0 0] 45 (0, 0))
  generalize w4.alloc (.cells #[.int .u8 0, .int .u8 0, .int .u8 0, .int .u8 0, .int .u8 0, .int .u8 0, .int .u8 0, .int .u8 0, .int .u8 0, .int .u8 0, .int .u8 0, .int .u8 0, .slice none 0 0] 45) = w5 at hbf hbw ⊢
  obtain ⟨gf, hgf⟩ : ∃ gf, w4.heap.size = gf := ⟨_, rfl⟩
  have HB4 := Aside0.mk hbw
  replace H2 := Aside0.mk (blk_below H2.out hbw)
  replace HB := Aside0.mk (below_step HB.out hbw)
  have HN := Aside0.mk (show w.heap.size < gf by have := HN0.out; omega)
  have HGF := Aside0.mk (Nat.le_of_eq hgf)
  rw [hgf] at hbf ⊢
  have HF := Aside0.mk hbf
  have hxl : 60 ≤ X.length := HXL.out.1
  have hxm : X.length ≤ 9223372036854775807 := by have := HXL.out; omega
  clear hbf hbw hgf HN0
  go_wp2_with fail
  refine wp_loop_rounds 7 ?_
  rw [rounds_succ]
  have hx := (show w5.cell? ⟨gx, 0, none⟩ = some (.int .u8 (hdv X 0)) from byte_at (Kd.C_below HC4.out HB4.out) (by have := HXL.out; omega))
  go_wp2_with (first
    | (refine wpList_store_byte rfl (.tmp 33) (.tmp 31) rfl gf 0 (hdv X 0) #[.int .u8 0, .int .u8 0, .int .u8 0, .int .u8 0, .int .u8 0, .int .u8 0, .int .u8 0, .int .u8 0, .int .u8 0, .int .u8 0, .int .u8 0, .int .u8 0, .slice none 0 0] #[.int .u8 (hdv X 0), .int .u8 0, .int .u8 0, .int .u8 0, .int .u8 0, .int .u8 0, .int .u8 0, .int .u8 0, .int .u8 0, .int .u8 0, .int .u8 0, .int .u8 0, .slice none 0 0] 45 rfl rfl HF.out (show 0 + 1 ≤ 13 from by decide) (by rfl) info5_ ?_; intro r0a hZ hG; replace HF := Aside0.mk hZ; replace H2 := Aside0.mk (blk_grown_ H2.out hG (by have := HN.out; omega)); replace HB := Aside0.mk (below_own HB.out hG (by have := HN.out; omega)); replace HB4 := Aside0.mk (below_own HB4.out hG HGF.out); clear hx; have hx := (show r0a.cell? ⟨gx, 6, none⟩ = some (.int .u8 (hdv X 6)) from byte_at (Kd.C_below HC4.out HB4.out) (by have := HXL.out; omega)); clear hZ hG)
    | (refine wpList_store_byte rfl (.tmp 41) (.tmp 39) rfl gf 6 (hdv X 6) #[.int .u8 (hdv X 0), .int .u8 0, .int .u8 0, .int .u8 0, .int .u8 0, .int .u8 0, .int .u8 0, .int .u8 0, .int .u8 0, .int .u8 0, .int .u8 0, .int .u8 0, .slice none 0 0] #[.int .u8 (hdv X 0), .int .u8 0, .int .u8 0, .int .u8 0, .int .u8 0, .int .u8 0, .int .u8 (hdv X 6), .int .u8 0, .int .u8 0, .int .u8 0, .int .u8 0, .int .u8 0, .slice none 0 0] 45 rfl rfl HF.out (show 6 + 1 ≤ 13 from by decide) (by rfl) info5_ ?_; intro r0b hZ hG; replace HF := Aside0.mk hZ; replace H2 := Aside0.mk (blk_grown_ H2.out hG (by have := HN.out; omega)); replace HB := Aside0.mk (below_own HB.out hG (by have := HN.out; omega)); replace HB4 := Aside0.mk (below_own HB4.out hG HGF.out); clear hx hZ hG))
  rw [rounds_succ]
  have hx := (show r0b.cell? ⟨gx, 1, none⟩ = some (.int .u8 (hdv X 1)) from byte_at (Kd.C_below HC4.out HB4.out) (by have := HXL.out; omega))
  go_wp2_with (first
    | (refine wpList_store_byte rfl (.tmp 33) (.tmp 31) rfl gf 1 (hdv X 1) #[.int .u8 (hdv X 0), .int .u8 0, .int .u8 0, .int .u8 0, .int .u8 0, .int .u8 0, .int .u8 (hdv X 6), .int .u8 0, .int .u8 0, .int .u8 0, .int .u8 0, .int .u8 0, .slice none 0 0] #[.int .u8 (hdv X 0), .int .u8 (hdv X 1), .int .u8 0, .int .u8 0, .int .u8 0, .int .u8 0, .int .u8 (hdv X 6), .int .u8 0, .int .u8 0, .int .u8 0, .int .u8 0, .int .u8 0, .slice none 0 0] 45 rfl rfl HF.out (show 1 + 1 ≤ 13 from by decide) (by rfl) info5_ ?_; intro r1a hZ hG; replace HF := Aside0.mk hZ; replace H2 := Aside0.mk (blk_grown_ H2.out hG (by have := HN.out; omega)); replace HB := Aside0.mk (below_own HB.out hG (by have := HN.out; omega)); replace HB4 := Aside0.mk (below_own HB4.out hG HGF.out); clear hx; have hx := (show r1a.cell? ⟨gx, 7, none⟩ = some (.int .u8 (hdv X 7)) from byte_at (Kd.C_below HC4.out HB4.out) (by have := HXL.out; omega)); clear hZ hG)
    | (refine wpList_store_byte rfl (.tmp 41) (.tmp 39) rfl gf 7 (hdv X 7) #[.int .u8 (hdv X 0), .int .u8 (hdv X 1), .int .u8 0, .int .u8 0, .int .u8 0, .int .u8 0, .int .u8 (hdv X 6), .int .u8 0, .int .u8 0, .int .u8 0, .int .u8 0, .int .u8 0, .slice none 0 0] #[.int .u8 (hdv X 0), .int .u8 (hdv X 1), .int .u8 0, .int .u8 0, .int .u8 0, .int .u8 0, .int .u8 (hdv X 6), .int .u8 (hdv X 7), .int .u8 0, .int .u8 0, .int .u8 0, .int .u8 0, .slice none 0 0] 45 rfl rfl HF.out (show 7 + 1 ≤ 13 from by decide) (by rfl) info5_ ?_; intro r1b hZ hG; replace HF := Aside0.mk hZ; replace H2 := Aside0.mk (blk_grown_ H2.out hG (by have := HN.out; omega)); replace HB := Aside0.mk (below_own HB.out hG (by have := HN.out; omega)); replace HB4 := Aside0.mk (below_own HB4.out hG HGF.out); clear hx hZ hG))
  rw [rounds_succ]
  have hx := (show r1b.cell? ⟨gx, 2, none⟩ = some (.int .u8 (hdv X 2)) from byte_at (Kd.C_below HC4.out HB4.out) (by have := HXL.out; omega))
  go_wp2_with (first
    | (refine wpList_store_byte rfl (.tmp 33) (.tmp 31) rfl gf 2 (hdv X 2) #[.int .u8 (hdv X 0), .int .u8 (hdv X 1), .int .u8 0, .int .u8 0, .int .u8 0, .int .u8 0, .int .u8 (hdv X 6), .int .u8 (hdv X 7), .int .u8 0, .int .u8 0, .int .u8 0, .int .u8 0, .slice none 0 0] #[.int .u8 (hdv X 0), .int .u8 (hdv X 1), .int .u8 (hdv X 2), .int .u8 0, .int .u8 0, .int .u8 0, .int .u8 (hdv X 6), .int .u8 (hdv X 7), .int .u8 0, .int .u8 0, .int .u8 0, .int .u8 0, .slice none 0 0] 45 rfl rfl HF.out (show 2 + 1 ≤ 13 from by decide) (by rfl) info5_ ?_; intro r2a hZ hG; replace HF := Aside0.mk hZ; replace H2 := Aside0.mk (blk_grown_ H2.out hG (by have := HN.out; omega)); replace HB := Aside0.mk (below_own HB.out hG (by have := HN.out; omega)); replace HB4 := Aside0.mk (below_own HB4.out hG HGF.out); clear hx; have hx := (show r2a.cell? ⟨gx, 8, none⟩ = some (.int .u8 (hdv X 8)) from byte_at (Kd.C_below HC4.out HB4.out) (by have := HXL.out; omega)); clear hZ hG)
    | (refine wpList_store_byte rfl (.tmp 41) (.tmp 39) rfl gf 8 (hdv X 8) #[.int .u8 (hdv X 0), .int .u8 (hdv X 1), .int .u8 (hdv X 2), .int .u8 0, .int .u8 0, .int .u8 0, .int .u8 (hdv X 6), .int .u8 (hdv X 7), .int .u8 0, .int .u8 0, .int .u8 0, .int .u8 0, .slice none 0 0] #[.int .u8 (hdv X 0), .int .u8 (hdv X 1), .int .u8 (hdv X 2), .int .u8 0, .int .u8 0, .int .u8 0, .int .u8 (hdv X 6), .int .u8 (hdv X 7), .int .u8 (hdv X 8), .int .u8 0, .int .u8 0, .int .u8 0, .slice none 0 0] 45 rfl rfl HF.out (show 8 + 1 ≤ 13 from by decide) (by rfl) info5_ ?_; intro r2b hZ hG; replace HF := Aside0.mk hZ; replace H2 := Aside0.mk (blk_grown_ H2.out hG (by have := HN.out; omega)); replace HB := Aside0.mk (below_own HB.out hG (by have := HN.out; omega)); replace HB4 := Aside0.mk (below_own HB4.out hG HGF.out); clear hx hZ hG))
  rw [rounds_succ]
  have hx := (show r2b.cell? ⟨gx, 3, none⟩ = some (.int .u8 (hdv X 3)) from byte_at (Kd.C_below HC4.out HB4.out) (by have := HXL.out; omega))
  go_wp2_with (first
    | (refine wpList_store_byte rfl (.tmp 33) (.tmp 31) rfl gf 3 (hdv X 3) #[.int .u8 (hdv X 0), .int .u8 (hdv X 1), .int .u8 (hdv X 2), .int .u8 0, .int .u8 0, .int .u8 0, .int .u8 (hdv X 6), .int .u8 (hdv X 7), .int .u8 (hdv X 8), .int .u8 0, .int .u8 0, .int .u8 0, .slice none 0 0] #[.int .u8 (hdv X 0), .int .u8 (hdv X 1), .int .u8 (hdv X 2), .int .u8 (hdv X 3), .int .u8 0, .int .u8 0, .int .u8 (hdv X 6), .int .u8 (hdv X 7), .int .u8 (hdv X 8), .int .u8 0, .int .u8 0, .int .u8 0, .slice none 0 0] 45 rfl rfl HF.out (show 3 + 1 ≤ 13 from by decide) (by rfl) info5_ ?_; intro r3a hZ hG; replace HF := Aside0.mk hZ; replace H2 := Aside0.mk (blk_grown_ H2.out hG (by have := HN.out; omega)); replace HB := Aside0.mk (below_own HB.out hG (by have := HN.out; omega)); replace HB4 := Aside0.mk (below_own HB4.out hG HGF.out); clear hx; have hx := (show r3a.cell? ⟨gx, 9, none⟩ = some (.int .u8 (hdv X 9)) from byte_at (Kd.C_below HC4.out HB4.out) (by have := HXL.out; omega)); clear hZ hG)
    | (refine wpList_store_byte rfl (.tmp 41) (.tmp 39) rfl gf 9 (hdv X 9) #[.int .u8 (hdv X 0), .int .u8 (hdv X 1), .int .u8 (hdv X 2), .int .u8 (hdv X 3), .int .u8 0, .int .u8 0, .int .u8 (hdv X 6), .int .u8 (hdv X 7), .int .u8 (hdv X 8), .int .u8 0, .int .u8 0, .int .u8 0, .slice none 0 0] #[.int .u8 (hdv X 0), .int .u8 (hdv X 1), .int .u8 (hdv X 2), .int .u8 (hdv X 3), .int .u8 0, .int .u8 0, .int .u8 (hdv X 6), .int .u8 (hdv X 7), .int .u8 (hdv X 8), .int .u8 (hdv X 9), .int .u8 0, .int .u8 0, .slice none 0 0] 45 rfl rfl HF.out (show 9 + 1 ≤ 13 from by decide) (by rfl) info5_ ?_; intro r3b hZ hG; replace HF := Aside0.mk hZ; replace H2 := Aside0.mk (blk_grown_ H2.out hG (by have := HN.out; omega)); replace HB := Aside0.mk (below_own HB.out hG (by have := HN.out; omega)); replace HB4 := Aside0.mk (below_own HB4.out hG HGF.out); clear hx hZ hG))
  rw [rounds_succ]
  have hx := (show r3b.cell? ⟨gx, 4, none⟩ = some (.int .u8 (hdv X 4)) from byte_at (Kd.C_below HC4.out HB4.out) (by have := HXL.out; omega))
  go_wp2_with (first
    | (refine wpList_store_byte rfl (.tmp 33) (.tmp 31) rfl gf 4 (hdv X 4) #[.int .u8 (hdv X 0), .int .u8 (hdv X 1), .int .u8 (hdv X 2), .int .u8 (hdv X 3), .int .u8 0, .int .u8 0, .int .u8 (hdv X 6), .int .u8 (hdv X 7), .int .u8 (hdv X 8), .int .u8 (hdv X 9), .int .u8 0, .int .u8 0, .slice none 0 0] #[.int .u8 (hdv X 0), .int .u8 (hdv X 1), .int .u8 (hdv X 2), .int .u8 (hdv X 3), .int .u8 (hdv X 4), .int .u8 0, .int .u8 (hdv X 6), .int .u8 (hdv X 7), .int .u8 (hdv X 8), .int .u8 (hdv X 9), .int .u8 0, .int .u8 0, .slice none 0 0] 45 rfl rfl HF.out (show 4 + 1 ≤ 13 from by decide) (by rfl) info5_ ?_; intro r4a hZ hG; replace HF := Aside0.mk hZ; replace H2 := Aside0.mk (blk_grown_ H2.out hG (by have := HN.out; omega)); replace HB := Aside0.mk (below_own HB.out hG (by have := HN.out; omega)); replace HB4 := Aside0.mk (below_own HB4.out hG HGF.out); clear hx; have hx := (show r4a.cell? ⟨gx, 10, none⟩ = some (.int .u8 (hdv X 10)) from byte_at (Kd.C_below HC4.out HB4.out) (by have := HXL.out; omega)); clear hZ hG)
    | (refine wpList_store_byte rfl (.tmp 41) (.tmp 39) rfl gf 10 (hdv X 10) #[.int .u8 (hdv X 0), .int .u8 (hdv X 1), .int .u8 (hdv X 2), .int .u8 (hdv X 3), .int .u8 (hdv X 4), .int .u8 0, .int .u8 (hdv X 6), .int .u8 (hdv X 7), .int .u8 (hdv X 8), .int .u8 (hdv X 9), .int .u8 0, .int .u8 0, .slice none 0 0] #[.int .u8 (hdv X 0), .int .u8 (hdv X 1), .int .u8 (hdv X 2), .int .u8 (hdv X 3), .int .u8 (hdv X 4), .int .u8 0, .int .u8 (hdv X 6), .int .u8 (hdv X 7), .int .u8 (hdv X 8), .int .u8 (hdv X 9), .int .u8 (hdv X 10), .int .u8 0, .slice none 0 0] 45 rfl rfl HF.out (show 10 + 1 ≤ 13 from by decide) (by rfl) info5_ ?_; intro r4b hZ hG; replace HF := Aside0.mk hZ; replace H2 := Aside0.mk (blk_grown_ H2.out hG (by have := HN.out; omega)); replace HB := Aside0.mk (below_own HB.out hG (by have := HN.out; omega)); replace HB4 := Aside0.mk (below_own HB4.out hG HGF.out); clear hx hZ hG))
  rw [rounds_succ]
  have hx := (show r4b.cell? ⟨gx, 5, none⟩ = some (.int .u8 (hdv X 5)) from byte_at (Kd.C_below HC4.out HB4.out) (by have := HXL.out; omega))
  go_wp2_with (first
    | (refine wpList_store_byte rfl (.tmp 33) (.tmp 31) rfl gf 5 (hdv X 5) #[.int .u8 (hdv X 0), .int .u8 (hdv X 1), .int .u8 (hdv X 2), .int .u8 (hdv X 3), .int .u8 (hdv X 4), .int .u8 0, .int .u8 (hdv X 6), .int .u8 (hdv X 7), .int .u8 (hdv X 8), .int .u8 (hdv X 9), .int .u8 (hdv X 10), .int .u8 0, .slice none 0 0] #[.int .u8 (hdv X 0), .int .u8 (hdv X 1), .int .u8 (hdv X 2), .int .u8 (hdv X 3), .int .u8 (hdv X 4), .int .u8 (hdv X 5), .int .u8 (hdv X 6), .int .u8 (hdv X 7), .int .u8 (hdv X 8), .int .u8 (hdv X 9), .int .u8 (hdv X 10), .int .u8 0, .slice none 0 0] 45 rfl rfl HF.out (show 5 + 1 ≤ 13 from by decide) (by rfl) info5_ ?_; intro r5a hZ hG; replace HF := Aside0.mk hZ; replace H2 := Aside0.mk (blk_grown_ H2.out hG (by have := HN.out; omega)); replace HB := Aside0.mk (below_own HB.out hG (by have := HN.out; omega)); replace HB4 := Aside0.mk (below_own HB4.out hG HGF.out); clear hx; have hx := (show r5a.cell? ⟨gx, 11, none⟩ = some (.int .u8 (hdv X 11)) from byte_at (Kd.C_below HC4.out HB4.out) (by have := HXL.out; omega)); clear hZ hG)
    | (refine wpList_store_byte rfl (.tmp 41) (.tmp 39) rfl gf 11 (hdv X 11) #[.int .u8 (hdv X 0), .int .u8 (hdv X 1), .int .u8 (hdv X 2), .int .u8 (hdv X 3), .int .u8 (hdv X 4), .int .u8 (hdv X 5), .int .u8 (hdv X 6), .int .u8 (hdv X 7), .int .u8 (hdv X 8), .int .u8 (hdv X 9), .int .u8 (hdv X 10), .int .u8 0, .slice none 0 0] #[.int .u8 (hdv X 0), .int .u8 (hdv X 1), .int .u8 (hdv X 2), .int .u8 (hdv X 3), .int .u8 (hdv X 4), .int .u8 (hdv X 5), .int .u8 (hdv X 6), .int .u8 (hdv X 7), .int .u8 (hdv X 8), .int .u8 (hdv X 9), .int .u8 (hdv X 10), .int .u8 (hdv X 11), .slice none 0 0] 45 rfl rfl HF.out (show 11 + 1 ≤ 13 from by decide) (by rfl) info5_ ?_; intro r5b hZ hG; replace HF := Aside0.mk hZ; replace H2 := Aside0.mk (blk_grown_ H2.out hG (by have := HN.out; omega)); replace HB := Aside0.mk (below_own HB.out hG (by have := HN.out; omega)); replace HB4 := Aside0.mk (below_own HB4.out hG HGF.out); clear hx hZ hG))
  rw [rounds_succ]
  have q1 := cut_part gx X.length c4 12 14 (by decide) (by have := HXL.out; omega) Hc4.out (by have := HXL.out; have := Hc4.out; omega)
  rw [show ((12 : Nat) : Int) = 12 from rfl, show ((14 : Nat) : Int) = 14 from rfl, show 14 - 12 = 2 from rfl] at q1
  have HGF := Aside0.mk (rget2 HXB.out (by have := HXL.out; omega))
  have HGC := Aside0.mk (piece_C HC4.out 12 2 (by have := HXL.out; omega))
  have hGl : ((X.drop 12).take 2).length = 2 := by rw [List.length_take, List.length_drop]; have := HXL.out; omega
  generalize (X.drop 12).take 2 = G at HGF HGC hGl
  have HGE := Aside0.mk (antiphonref1_Get.calls 11 (some ⟨gx, 12, none⟩) (c4 - 12) G (be16 X))
  rw [hGl] at HGE
  clear hGl
  go_wp2_with fail
  refine (HGE.out _ (Kd.C_below HGC.out HB4.out) (by have := HXL.out; have := Hc4.out; omega) HGF.out).mono ?_
  rintro e w6 ⟨rfl, hd⟩
  have hB := Drawn0.below hd
  replace HF := Aside0.mk (blk_below HF.out hB)
  replace H2 := Aside0.mk (blk_below H2.out hB)
  replace HB := Aside0.mk (below_step HB.out hB)
  replace HB4 := Aside0.mk (below_step HB4.out hB)
  clear hB hd q1 HGE HGC HGF
  obtain ⟨nn, hnn, hn6⟩ := be16_nat HXB.out
  obtain ⟨mm, hM⟩ : ∃ mm : Nat, (if (nn : Int) < 46 then 46 else (nn : Int)) = (mm : Int) := ⟨if nn < 46 then 46 else nn, by split <;> split <;> omega⟩
  have HMM := Aside0.mk (show nn ≤ mm ∧ mm ≤ 65535 by split at hM <;> omega)
  have HPD := Aside0.mk (show padOk X = (X.drop (14 + nn)).all (· == 0) by unfold padOk; rw [hnn, Int.toNat_natCast])
  have HDY := Aside0.mk (show decD l0 = if decE l0 = 0 then (X.drop 14).take nn else [] by rw [HDD.out, hnn, Int.toNat_natCast])
  have HHD := Aside0.mk (show headOk X = (!isGrp (hdv X 6) && decide ((nn : Int) ≤ 1500) && decide ((X.length : Int) = 14 + (mm : Int))) by
    unfold headOk
    rw [hnn, hM, show decide ((X.length : Int) - 14 = (mm : Int)) = decide ((X.length : Int) = 14 + (mm : Int)) from decide_eq_decide.2 ⟨fun h => by omega, fun h => by omega⟩])
  rw [hnn]
  have HN65 := Aside0.mk hn6
  have hn65 : nn ≤ 65535 := hn6
  have hm65 : mm ≤ 65535 := HMM.out.2
  clear hnn HDD hn6
  have hk6 := (show w6.cell? ⟨gf, 6, none⟩ = some (.int .u8 (hdv X 6)) from (blk_cell HF.out 6).trans rfl)
  have hk7 := (show w6.cell? ⟨gf, 7, none⟩ = some (.int .u8 (hdv X 7)) from (blk_cell HF.out 7).trans rfl)
  have hk8 := (show w6.cell? ⟨gf, 8, none⟩ = some (.int .u8 (hdv X 8)) from (blk_cell HF.out 8).trans rfl)
  have hk9 := (show w6.cell? ⟨gf, 9, none⟩ = some (.int .u8 (hdv X 9)) from (blk_cell HF.out 9).trans rfl)
  have hk10 := (show w6.cell? ⟨gf, 10, none⟩ = some (.int .u8 (hdv X 10)) from (blk_cell HF.out 10).trans rfl)
  have hk11 := (show w6.cell? ⟨gf, 11, none⟩ = some (.int .u8 (hdv X 11)) from (blk_cell HF.out 11).trans rfl)
  go_wp2_with fail
  refine (antiphonref1_Group.calls _ _ _ _ _ _ _ _ (rgrp_f _ _ _ _ _ _)).mono ?_
  rintro e w7 ⟨rfl, hB⟩
  replace HF := Aside0.mk (blk_below HF.out hB)
  replace H2 := Aside0.mk (blk_below H2.out hB)
  replace HB := Aside0.mk (below_step HB.out hB)
  replace HB4 := Aside0.mk (below_step HB4.out hB)
  clear hB hk6 hk7 hk8 hk9 hk10 hk11
  cases hgg : isGrp (hdv X 6) with
  | true =>
    rw [hgg] at HHD
    clear hgg
    have hde : decE l0 = 4 := by rw [HDE.out, HHD.out]; rfl
    obtain ⟨hfr, hnil⟩ := frame_no hde
    have HFR := Aside0.mk hfr
    have HNIL := Aside0.mk hnil
    have HDE4 := Aside0.mk hde
    clear hfr hnil hde
    go_wp2_with (first
      | (refine wpList_store_part rfl 45 (.tmp 2) (.tmp 60) rfl w.heap.size 0 #[.int .u8 0, .int .u8 0, .int .u8 0, .int .u8 0, .int .u8 0, .int .u8 0, .int .u8 0, .int .u8 0, .int .u8 0, .int .u8 0, .int .u8 0, .int .u8 0, .slice none 0 0] #[.int .u8 0, .int .u8 0, .int .u8 0, .int .u8 0, .int .u8 0, .int .u8 0, .int .u8 0, .int .u8 0, .int .u8 0, .int .u8 0, .int .u8 0, .int .u8 0, .slice none 0 0] #[.int .u8 0, .int .u8 0, .int .u8 0, .int .u8 0, .int .u8 0, .int .u8 0, .int .u8 0, .int .u8 0, .int .u8 0, .int .u8 0, .int .u8 0, .int .u8 0, .slice none 0 0] 45 rfl rfl H2.out (by decide) (by rfl) info45_ (by rfl) ?_; intro wz hZ hG; replace H2 := Aside0.mk hZ; replace HB := Aside0.mk (below_own HB.out hG (Nat.le_refl _)); clear hZ hG))
    refine bodyPost_ret (results_frame rfl _ _ w.heap.size _ rfl rfl H2.out) rfl ⟨none, 0, by rw [HFR.out, HDE4.out]; rfl, by rw [HNIL.out]; exact Nat.le_refl _, by rw [HNIL.out]; exact C_nil _, HB.out⟩
  | false =>
    rw [hgg] at HHD
    clear hgg
    by_cases h15 : 1500 < nn
    · have d15 : decide ((1500 : Int) < (nn : Int)) = true := decide_eq_true (by omega)
      have HH0 := Aside0.mk (show headOk X = false by rw [HHD.out, decide_eq_false (show ¬ (nn : Int) ≤ 1500 by omega)]; rfl)
      clear h15
      have hde : decE l0 = 4 := by rw [HDE.out, HH0.out]; rfl
      obtain ⟨hfr, hnil⟩ := frame_no hde
      have HFR := Aside0.mk hfr
      have HNIL := Aside0.mk hnil
      have HDE4 := Aside0.mk hde
      clear hfr hnil hde
      go_wp2_with (first
        | (refine wpList_store_part rfl 45 (.tmp 2) (.tmp 60) rfl w.heap.size 0 #[.int .u8 0, .int .u8 0, .int .u8 0, .int .u8 0, .int .u8 0, .int .u8 0, .int .u8 0, .int .u8 0, .int .u8 0, .int .u8 0, .int .u8 0, .int .u8 0, .slice none 0 0] #[.int .u8 0, .int .u8 0, .int .u8 0, .int .u8 0, .int .u8 0, .int .u8 0, .int .u8 0, .int .u8 0, .int .u8 0, .int .u8 0, .int .u8 0, .int .u8 0, .slice none 0 0] #[.int .u8 0, .int .u8 0, .int .u8 0, .int .u8 0, .int .u8 0, .int .u8 0, .int .u8 0, .int .u8 0, .int .u8 0, .int .u8 0, .int .u8 0, .int .u8 0, .slice none 0 0] 45 rfl rfl H2.out (by decide) (by rfl) info45_ (by rfl) ?_; intro wz hZ hG; replace H2 := Aside0.mk hZ; replace HB := Aside0.mk (below_own HB.out hG (Nat.le_refl _)); clear hZ hG))
      refine bodyPost_ret (results_frame rfl _ _ w.heap.size _ rfl rfl H2.out) rfl ⟨none, 0, by rw [HFR.out, HDE4.out]; rfl, by rw [HNIL.out]; exact Nat.le_refl _, by rw [HNIL.out]; exact C_nil _, HB.out⟩
    have d15 : decide ((1500 : Int) < (nn : Int)) = false := decide_eq_false (by omega)
    by_cases hyn : X.length = 14 + mm
    case neg =>
      have b1 : ((X.length : Int) != 14 + (mm : Int)) = true := bne_iff_ne.mpr (by omega)
      have HH0 := Aside0.mk (show headOk X = false by rw [HHD.out, decide_eq_false (show ¬ (X.length : Int) = 14 + (mm : Int) by omega), Bool.and_false])
      clear hyn
      have hde : decE l0 = 4 := by rw [HDE.out, HH0.out]; rfl
      obtain ⟨hfr, hnil⟩ := frame_no hde
      have HFR := Aside0.mk hfr
      have HNIL := Aside0.mk hnil
      have HDE4 := Aside0.mk hde
      clear hfr hnil hde
      go_wp2_with (first
        | (refine wpList_store_part rfl 45 (.tmp 2) (.tmp 60) rfl w.heap.size 0 #[.int .u8 0, .int .u8 0, .int .u8 0, .int .u8 0, .int .u8 0, .int .u8 0, .int .u8 0, .int .u8 0, .int .u8 0, .int .u8 0, .int .u8 0, .int .u8 0, .slice none 0 0] #[.int .u8 0, .int .u8 0, .int .u8 0, .int .u8 0, .int .u8 0, .int .u8 0, .int .u8 0, .int .u8 0, .int .u8 0, .int .u8 0, .int .u8 0, .int .u8 0, .slice none 0 0] #[.int .u8 0, .int .u8 0, .int .u8 0, .int .u8 0, .int .u8 0, .int .u8 0, .int .u8 0, .int .u8 0, .int .u8 0, .int .u8 0, .int .u8 0, .int .u8 0, .slice none 0 0] 45 rfl rfl H2.out (by decide) (by rfl) info45_ (by rfl) ?_; intro wz hZ hG; replace H2 := Aside0.mk hZ; replace HB := Aside0.mk (below_own HB.out hG (Nat.le_refl _)); clear hZ hG))
      refine bodyPost_ret (results_frame rfl _ _ w.heap.size _ rfl rfl H2.out) rfl ⟨none, 0, by rw [HFR.out, HDE4.out]; rfl, by rw [HNIL.out]; exact Nat.le_refl _, by rw [HNIL.out]; exact C_nil _, HB.out⟩
    have b1 : ((X.length : Int) != 14 + (mm : Int)) = false := bne_eq_false_iff_eq.mpr (by omega)
    have HHT := Aside0.mk (show headOk X = true by rw [HHD.out, decide_eq_true (show (nn : Int) ≤ 1500 by omega), decide_eq_true (show (X.length : Int) = 14 + (mm : Int) by omega)]; rfl)
    have HNY := Aside0.mk (show 14 + nn ≤ X.length by have := HMM.out; omega)
    clear hyn h15
    go_wp2_with fail
    go_loop [9] (fun v9 => ∃ k : Nat, 14 + nn ≤ k ∧ k ≤ X.length ∧ v9 = .int .i64 k ∧ Aside0 (∀ j, 14 + nn ≤ j → j < k → X.getD j 0 = 0)) (fun v9 => X.length - (intOf v9).toNat)
    case atStart => exact ⟨14 + nn, Nat.le_refl _, HNY.out, by rw [Int.natCast_add]; rfl, ⟨fun j h1 h2 => absurd h2 (Nat.not_lt.2 h1)⟩⟩
    case round =>
      obtain ⟨k, hk0, hk, rfl, HZ⟩ := hrel
      by_cases hlt : k < X.length
      · have hx := (show w7.cell? ⟨gx, k, none⟩ = some (.int .u8 (hdv X k)) from byte_at (Kd.C_below HC4.out HB4.out) hlt)
        have HK0 := Aside0.mk hk0
        clear hk0
        by_cases hc : X.getD k 0 = 0
        · rw [show hdv X k = 0 from hc] at hx
          have HC0 := Aside0.mk hc
          clear hc
          go_wp2_with fail
          go_round
          case rel => exact ⟨k + 1, by have := HK0.out; omega, by omega, by go_num, ⟨fun j h1 hj => by rcases Nat.lt_succ_iff_lt_or_eq.mp hj with h | rfl; exact HZ.out j h1 h; exact HC0.out⟩⟩
          case measure => simp [intOf]; omega
        · have HPF := Aside0.mk (show padOk X = false by
            rw [HPD.out]
            refine Bool.eq_false_iff.mpr fun h => hc ?_
            have hm : X.getD k 0 ∈ X.drop (14 + nn) := by
              rw [List.getD_eq_getElem?_getD, List.getElem?_eq_getElem hlt, Option.getD_some]
              refine List.mem_iff_getElem?.2 ⟨k - (14 + nn), ?_⟩
              rw [List.getElem?_drop, show 14 + nn + (k - (14 + nn)) = k by have := HK0.out; omega, List.getElem?_eq_getElem hlt]
            have := List.all_eq_true.mp h _ hm
            simpa using this)
          have bc : (hdv X k != 0) = true := bne_iff_ne.mpr hc
          generalize hdv X k = c at hx bc
          clear hc
          have hde : decE l0 = 4 := by rw [HDE.out, HPF.out, Bool.and_false]; rfl
          obtain ⟨hfr, hnil⟩ := frame_no hde
          have HFR := Aside0.mk hfr
          have HNIL := Aside0.mk hnil
          have HDE4 := Aside0.mk hde
          clear hfr hnil hde
          go_wp2_with (first
            | (refine wpList_store_part rfl 45 (.tmp 2) (.tmp 74) rfl w.heap.size 0 #[.int .u8 0, .int .u8 0, .int .u8 0, .int .u8 0, .int .u8 0, .int .u8 0, .int .u8 0, .int .u8 0, .int .u8 0, .int .u8 0, .int .u8 0, .int .u8 0, .slice none 0 0] #[.int .u8 0, .int .u8 0, .int .u8 0, .int .u8 0, .int .u8 0, .int .u8 0, .int .u8 0, .int .u8 0, .int .u8 0, .int .u8 0, .int .u8 0, .int .u8 0, .slice none 0 0] #[.int .u8 0, .int .u8 0, .int .u8 0, .int .u8 0, .int .u8 0, .int .u8 0, .int .u8 0, .int .u8 0, .int .u8 0, .int .u8 0, .int .u8 0, .int .u8 0, .slice none 0 0] 45 rfl rfl H2.out (by decide) (by rfl) info45_ (by rfl) ?_; intro wz hZ hG; replace H2 := Aside0.mk hZ; replace HB := Aside0.mk (below_own HB.out hG (Nat.le_refl _)); clear hZ hG))
          refine bodyPost_ret (results_frame rfl _ _ w.heap.size _ rfl rfl H2.out) rfl ⟨none, 0, by rw [HFR.out, HDE4.out]; rfl, by rw [HNIL.out]; exact Nat.le_refl _, by rw [HNIL.out]; exact C_nil _, HB.out⟩
      · obtain rfl : k = X.length := by omega
        have HPT := Aside0.mk (show padOk X = true by
          rw [HPD.out, List.all_eq_true]
          intro c hc
          obtain ⟨j, hj, rfl⟩ := List.getElem_of_mem hc
          have hj2 : 14 + nn + j < X.length := by rw [List.length_drop] at hj; omega
          have := HZ.out (14 + nn + j) (by omega) hj2
          rw [List.getD_eq_getElem?_getD, List.getElem?_eq_getElem hj2] at this
          rw [List.getElem_drop]
          simpa using this)
        have HE0 := Aside0.mk (show decE l0 = 0 by rw [HDE.out, HHT.out, HPT.out]; rfl)
        have HDD0 := Aside0.mk (show decD l0 = (X.drop 14).take nn by rw [HDY.out, HE0.out, if_pos rfl])
        have q2 := cut_part gx X.length c4 14 (14 + nn) (by omega) HNY.out Hc4.out (by have := HXL.out; have := Hc4.out; omega)
        rw [show ((14 : Nat) : Int) = 14 from rfl, show ((14 + nn : Nat) : Int) = 14 + (nn : Int) from rfl, show 14 + nn - 14 = nn by omega] at q2
        obtain ⟨Y, hY⟩ : ∃ Y, (X.drop 14).take nn = Y := ⟨_, rfl⟩
        have hYl : Y.length = nn := by rw [← hY, List.length_take, List.length_drop]; have := HNY.out; omega
        have HYC := Aside0.mk (piece_C HC4.out 14 nn HNY.out)
        rw [hY] at HYC HDD0
        have HCP := Aside0.mk (antiphonref1_Copy.calls (nn + 1) (some ⟨gx, 14, none⟩) (c4 - 14) Y Y)
        have HCF := Aside0.mk (show antiphonref1_Copy.f (nn + 1) Y = some Y by have := copy_any (a := Y) (by rw [hYl]; omega); rw [hYl] at this; exact this)
        rw [hYl] at HCP
        have HYL := Aside0.mk hYl
        have HG7 := Aside0.mk (blk_lt HF.out)
        clear hY hYl hlt hk hk0
        go_wp2_with fail
        refine (HCP.out _ (Kd.C_below HYC.out HB4.out) (by have := HNY.out; have := Hc4.out; omega) HCF.out).mono ?_
        rintro e w8 ⟨v8, rfl, hR, hB⟩
        replace HF := Aside0.mk (blk_below HF.out hB)
        replace H2 := Aside0.mk (blk_below H2.out hB)
        replace HB := Aside0.mk (below_step HB.out hB)
        have HD := Aside0.mk hR
        have hc12 := (show w8.cell? ⟨gf, 12, none⟩ = some (.slice none 0 0) from (blk_cell HF.out 12).trans rfl)
        have hf12 := blk_frozen HF.out 12
        clear hR hB q2
        obtain ⟨AD, cD, rfl⟩ := Kd.R_slice HD.out
        obtain ⟨dl, hdl⟩ : ∃ dl, Y.length = dl := ⟨_, rfl⟩
        rw [hdl] at HD ⊢
        go_upto_region 21 with fail
        have hF' := blk_put HF.out 12 (.slice AD dl cD) (cs' := #[.int .u8 (hdv X 0), .int .u8 (hdv X 1), .int .u8 (hdv X 2), .int .u8 (hdv X 3), .int .u8 (hdv X 4), .int .u8 (hdv X 5), .int .u8 (hdv X 6), .int .u8 (hdv X 7), .int .u8 (hdv X 8), .int .u8 (hdv X 9), .int .u8 (hdv X 10), .int .u8 (hdv X 11), .slice AD dl cD]) rfl
        have hD' := Kd.R_set HD.out HF.out (by decide) 12 (.slice AD dl cD)
        have hG := only_set (w := w8) (g := gf) 12 (.slice AD dl cD)
        generalize w8.setCell ⟨gf, 12, none⟩ (.slice AD dl cD) = w9 at hF' hD' hG ⊢
        replace H2 := Aside0.mk (blk_grown_ H2.out hG (by have := HN.out; omega))
        replace HB := Aside0.mk (below_own HB.out hG (by have := HN.out; omega))
        replace HF := Aside0.mk hF'
        replace HD := Aside0.mk hD'
        have HDL := Aside0.mk hdl
        have HFR := Aside0.mk (frame_yes HE0.out HX.out AD dl cD)
        clear hF' hD' hG hc12 hf12 hdl
        go_wp2_with ((refine wpList_load_row rfl 45 (.tmp 6) rfl gf rfl 45 #[.int .u8 (hdv X 0), .int .u8 (hdv X 1), .int .u8 (hdv X 2), .int .u8 (hdv X 3), .int .u8 (hdv X 4), .int .u8 (hdv X 5), .int .u8 (hdv X 6), .int .u8 (hdv X 7), .int .u8 (hdv X 8), .int .u8 (hdv X 9), .int .u8 (hdv X 10), .int .u8 (hdv X 11), .slice AD dl cD] (0, 0) _ HF.out Try.underlying45 rfl info45_ ?_; refine wpList_store_part rfl 45 (.tmp 2) (.tmp 81) rfl w.heap.size 0 #[.int .u8 (hdv X 0), .int .u8 (hdv X 1), .int .u8 (hdv X 2), .int .u8 (hdv X 3), .int .u8 (hdv X 4), .int .u8 (hdv X 5), .int .u8 (hdv X 6), .int .u8 (hdv X 7), .int .u8 (hdv X 8), .int .u8 (hdv X 9), .int .u8 (hdv X 10), .int .u8 (hdv X 11), .slice AD dl cD] #[.int .u8 0, .int .u8 0, .int .u8 0, .int .u8 0, .int .u8 0, .int .u8 0, .int .u8 0, .int .u8 0, .int .u8 0, .int .u8 0, .int .u8 0, .int .u8 0, .slice none 0 0] #[.int .u8 (hdv X 0), .int .u8 (hdv X 1), .int .u8 (hdv X 2), .int .u8 (hdv X 3), .int .u8 (hdv X 4), .int .u8 (hdv X 5), .int .u8 (hdv X 6), .int .u8 (hdv X 7), .int .u8 (hdv X 8), .int .u8 (hdv X 9), .int .u8 (hdv X 10), .int .u8 (hdv X 11), .slice AD dl cD] 45 rfl rfl H2.out (show 0 + 13 ≤ 13 from by decide) (overRow_all _ _ rfl) info45_ (by rfl) ?_; intro wz hZ hG; replace HD := Aside0.mk (R_pastG HD.out hG (by have := HG7.out; have := HN.out; omega)); replace H2 := Aside0.mk hZ; replace HB := Aside0.mk (below_own HB.out hG (Nat.le_refl _)); clear hZ hG))
        refine bodyPost_ret (results_frame rfl _ _ w.heap.size _ rfl rfl H2.out) rfl ?_
        obtain ⟨A_, c_, he_, hcl_, hC_⟩ := Kd.R_reads HD.out
        injection he_ with e1_ e2_ e3_
        subst e1_
        subst e3_
        refine ⟨AD, cD, ?_, ?_, ?_, HB.out⟩
        · rw [HE0.out, HDD0.out, HDL.out, HFR.out]
          rfl
        · rw [HDD0.out]
          exact hcl_
        · rw [HDD0.out]
          exact hC_
end Go.Proofs.Ytpalloofjljhkaa.P
/-! LenW -/
namespace Go.Proofs.Ytpalloofjljhkaa.P
open Go.RowKit Go.Proofs.Ytpalloofjljhkaa.Lib Go.Proofs.YtpalloofjljhkaaW.PrintWords Go.Proofs.YtpalloofjljhkaaW.PrintLast Go.Proofs.YtpalloofjljhkaaW.PrintMore
set_option linter.unusedVariables false
set_option linter.unusedSimpArgs false
section
variable {P : Program}
theorem run_store_R {w : World} {g i : Nat} {v : Int} {n cap base : Nat} {ok : Nat → Prop} {xs : List Int} (HR : Kd.R (Kd.int .u8) 5 w base ok (.slice (some ⟨g, 0, none⟩) n cap) xs) (hi : i < n) (hu : (P.info? 5).map (·.size) = some 1) :
    (Instr.storeAt 5 (.pointer (some ⟨g, i, none⟩)) (.int .u8 v)).run P w = .ok () (w.setCell ⟨g, i, none⟩ (.int .u8 v)) := by
  obtain ⟨_, inner, hown, hr⟩ := HR
  rcases hown.2 with ⟨hv, _⟩ | ⟨g', cap', cur, hv, hb, hh, hnc, hcm, hcs, _⟩
  · cases hv
  · injection hv with ha _ hc
    injection ha with ha
    injection ha with hg'
    subst hg'; subst hc
    refine run_store_run (P := P) 5 (.int .u8 v) [.int .u8 v] hh rfl hu ?_ (by intro q hq; rw [List.mem_singleton.mp hq]; rfl)
    show i + 1 ≤ cur.size
    have h2 : n * 1 ≤ cap * 1 := Nat.mul_le_mul_right _ (by omega)
    have h3 : (Kd.int .u8).sz = 1 := rfl
    rw [h3] at hcs
    omega
theorem wpList_store_R {ops : Array Oper} {rest : List Oper} {op : Oper} {a : Act} {w : World} {Q : Exit → Act → World → Prop} (hgd : op.guard = none) (x y : Operand) (ho : op.op = .store 5 x y)
    (g i : Nat) (v : Int) {n cap base : Nat} {ok : Nat → Prop} {xs : List Int} (HR : Kd.R (Kd.int .u8) 5 w base ok (.slice (some ⟨g, 0, none⟩) n cap) xs) (hx : a.eval x = .pointer (some ⟨g, i, none⟩)) (hy : a.eval y = .int .u8 v) (hi : i < n) (hu : (P.info? 5).map (·.size) = some 1)
    (h : ∀ W', Kd.R (Kd.int .u8) 5 W' base ok (.slice (some ⟨g, 0, none⟩) n cap) (xs.set i v) → w.grownBy W' (some g) → wpList P ops Q rest (a.put op.dst undef) W') : wpList P ops Q (op :: rest) a w := by
  refine wpList_plain hgd fun K hK => ?_
  have hrun := run_store_R (P := P) (v := v) HR hi hu
  unfold Oper.wp execOp
  simp only [ho, hx, hy, Sem.run_bind, Sem.run_pure, Result.andThen_ok, hrun]
  have h2 := Kd.R_putg HR (i : Int) v
  rw [Int.toNat_natCast] at h2
  exact hK _ _ (h _ h2.1 h2.2)
theorem wp_store_R {op : Oper} {a : Act} {w : World} {K : Act → World → Prop} {Q : Exit → Act → World → Prop} (x y : Operand) (ho : op.op = .store 5 x y)
    (g i : Nat) (v : Int) {n cap base : Nat} {ok : Nat → Prop} {xs : List Int} (HR : Kd.R (Kd.int .u8) 5 w base ok (.slice (some ⟨g, 0, none⟩) n cap) xs) (hx : a.eval x = .pointer (some ⟨g, i, none⟩)) (hy : a.eval y = .int .u8 v) (hi : i < n) (hu : (P.info? 5).map (·.size) = some 1)
    (h : ∀ W', Kd.R (Kd.int .u8) 5 W' base ok (.slice (some ⟨g, 0, none⟩) n cap) (xs.set i v) → w.grownBy W' (some g) → K (a.put op.dst undef) W') : op.wp P a w K Q := by
  have hrun := run_store_R (P := P) (v := v) HR hi hu
  unfold Oper.wp execOp
  simp only [ho, hx, hy, Sem.run_bind, Sem.run_pure, Result.andThen_ok, hrun]
  have h2 := Kd.R_putg HR (i : Int) v
  rw [Int.toNat_natCast] at h2
  exact h _ h2.1 h2.2
end
theorem w64n {k m : Nat} (h : k < m) (hm : m ≤ 9223372036854775807) : wrap64 (k : Int) = (k : Int) := by unfold wrap64; omega
theorem w64_14 {L m0 : Nat} (h : 14 + L = m0) (hL : L ≤ 1500) : wrap64 (14 + (L : Int)) = (m0 : Int) := by unfold wrap64; omega
theorem w64_46 {L t : Nat} (h : 46 - L = t) (ht : 0 < t) : wrap64 (46 - (L : Int)) = (t : Int) := by unfold wrap64; omega
section
variable {P : Program} {md : Region.Mode} {ops : Array Oper} {Q : Exit → Act → World → Prop} {S : World → Prop} {ds : List Nat}
theorem one_store_row_ {i : Nat} {N : Option Tmp} {oi : Oper} {fuel : Nat} {l : Array Bool} {a : Act} {w : World} (l' : Array Bool) (hi : ops[i]? = some oi) (hN : oi.dst = N) (hc : readyB md ops l l' i = true) (hd : i ∉ ds)
    (hw : Region.wanted oi (yielded ops a.tmps) = true) (ty : TypeId) (x y : Operand) (ho : oi.op = .store ty x y) (g : Nat) (cs : Array Value) (hx : a.eval x = .pointer (some ⟨g, 0, none⟩)) (hy : a.eval y = .agg cs) (t : TypeId) (old : Array Value)
    (hg : w.heap[g]? = some (.cells old t (0, 0))) (hinf : (P.info? ty).map (·.size) = some cs.size) (hold : old.size = cs.size) (h1 : cs.all (·.oneCell') = true) (hS : S (w.setRow g cs))
    (h : wpAnyLast P md ops Q S ds fuel l' (a.put N undef) (w.setRow g cs)) : wpAnyLast P md ops Q S ds (fuel + 1) l a w :=
  one_ l' hi hN hc hd fun K hK => by
    subst hN
    rw [if_pos hw]
    exact wp_store_row ty x y ho g cs hx hy t old hg hinf hold h1 (hK.out _ _ hS (fun _ => h))
end
theorem if_pos_ {c : Prop} [Decidable c] {a b : Prop} (h : c) (ha : a) : if c then a else b := by rw [if_pos h]; exact ha
theorem w64q {q : Nat} (h : q < 65536) : wrap64 (q : Int) = (q : Int) := by unfold wrap64; omega
theorem w64r {L t r : Nat} (ht : 46 - L = t) (h : r < t) : wrap64 (r : Int) = (r : Int) := by unfold wrap64; omega
theorem ne_of_pos_ {t : Nat} (h : 0 < t) : ¬ (t = 0) := by omega
theorem nez_ {t : Nat} (h : 0 < t) : ¬ ((t : Int) = 0) := by omega
theorem pos46 {L t : Nat} (ht : 46 - L = t) (h : ¬ 46 ≤ L) : 0 < t := by omega
theorem lt46 {L t r : Nat} (ht : 46 - L = t) (h : r < t) : r < 46 - L := by omega
theorem le9 {n : Nat} (h : n ≤ 1514) : n ≤ 9223372036854775807 := by omega
theorem idx_lt {L t r m0 m n : Nat} (hn : 14 + L + (46 - L) = n) (ht : 46 - L = t) (hr : r < t) (h0 : 14 + L = m0) (hm : m0 + r = m) : m < n := by omega
theorem reads_own {base g n c : Nat} {ok : Nat → Prop} {W : World} {xs : List Int} (h : Kd.R (Kd.int .u8) 5 W base ok (.slice (some ⟨g, 0, none⟩) n c) xs) (hl : xs.length = n) : Kd.C (Kd.int .u8) W (some ⟨g, 0, none⟩) n xs := by
  obtain ⟨A, c', he, hc, hC⟩ := Kd.R_reads h
  injection he with e1 e2 e3
  subst e1
  rw [hl] at hC
  exact hC
theorem len_next {C : List Int} {a k : Nat} {b : Bool} (h : true = true ↔ ∀ j, a ≤ j → j < k → hdv C j = 0) (hk : a ≤ k) (hb : b = true ↔ hdv C k = 0) : b = true ↔ ∀ j, a ≤ j → j < k + 1 → hdv C j = 0 := by
  rw [hb]
  constructor
  · intro h0 j h1 h2
    rcases Nat.lt_succ_iff_lt_or_eq.mp h2 with h3 | rfl
    · exact h.1 rfl j h1 h3
    · exact h0
  · intro h0
    exact h0 k hk (Nat.lt_succ_self k)
theorem R_base_ {e base : Nat} {ok : Nat → Prop} {W : World} {g n c : Nat} {xs : List Int} (h : Kd.R (Kd.int .u8) e W base ok (.slice (some ⟨g, 0, none⟩) n c) xs) : base ≤ g := Kd.R_base h g (by simp [Value.ownBlock])
theorem frame_one (h : Nat → Int) (A : Option Addr) (n c : Nat) : (frame h A n c).all (·.oneCell') = true := by
  unfold frame
  simp [Value.oneCell']
def antiphonlaw3_lengths.f (a0_0 : Int) (a0_1 : Int) (a0_2 : Int) (a0_3 : Int) (a0_4 : Int) (a0_5 : Int) (a0_6 : Int) (a0_7 : Int) (a0_8 : Int) (a0_9 : Int) (a0_10 : Int) (a0_11 : Int) (l0_12 : List Int) (a1 : Int) (a2 : Int) (a3 : Int) : Option Bool := if (∀ c ∈ [a0_0, a0_1, a0_2, a0_3, a0_4, a0_5], 0 ≤ c ∧ c < 256) ∧ (∀ c ∈ [a0_6, a0_7, a0_8, a0_9, a0_10, a0_11], 0 ≤ c ∧ c < 256) ∧ (∀ c ∈ l0_12, 0 ≤ c ∧ c < 256) ∧ (0 ≤ a1 ∧ a1 < 65536) ∧ (0 ≤ a2 ∧ a2 < 65536) ∧ (0 ≤ a3 ∧ a3 < 256) then some true else none
end Go.Proofs.Ytpalloofjljhkaa.P
/-! LenA -/
namespace Go.Proofs.Ytpalloofjljhkaa.P
open Go.RowKit Go.Proofs.Ytpalloofjljhkaa.Lib Go.Proofs.YtpalloofjljhkaaW.PrintWords Go.Proofs.YtpalloofjljhkaaW.PrintLast Go.Proofs.YtpalloofjljhkaaW.PrintMore
set_option linter.unusedVariables false
set_option linter.unusedSimpArgs false
attribute [local go_sem] max2_int min2_int max_two min_two max_three min_three max_four min_four   -- for this text's walks alone
set_option maxHeartbeats 8000000 in
set_option maxRecDepth 100000 in
theorem antiphonlaw3_lengths.callsA (a0_0 : Int) (a0_1 : Int) (a0_2 : Int) (a0_3 : Int) (a0_4 : Int) (a0_5 : Int) (a0_6 : Int) (a0_7 : Int) (a0_8 : Int) (a0_9 : Int) (a0_10 : Int) (a0_11 : Int) (A0_12 : Option Addr) (c0_12 : Nat) (l0_12 : List Int) (a1 : Int) (a2 : Int) (a3 : Int) (r : Bool) (w : World) (hr0_12 : Kd.C (Kd.int .u8) w A0_12 l0_12.length l0_12) (hc0_12 : l0_12.length ≤ c0_12) (hs : ¬ (a1 ≤ 1500 ∧ 14 + (if a1.toNat < 46 then 46 else a1.toNat) = 14 + l0_12.length + (46 - l0_12.length))) (h : antiphonlaw3_lengths.f a0_0 a0_1 a0_2 a0_3 a0_4 a0_5 a0_6 a0_7 a0_8 a0_9 a0_10 a0_11 l0_12 a1 a2 a3 = some r) :
    Calls Try.prog 39 #[.agg #[.int .u8 a0_0, .int .u8 a0_1, .int .u8 a0_2, .int .u8 a0_3, .int .u8 a0_4, .int .u8 a0_5, .int .u8 a0_6, .int .u8 a0_7, .int .u8 a0_8, .int .u8 a0_9, .int .u8 a0_10, .int .u8 a0_11, .slice A0_12 l0_12.length c0_12], .int .u16 a1, .int .u16 a2, .int .u8 a3] w fun e w' => e = .returned (.bool r) ∧ Below w.heap.size w w' := by
  unfold antiphonlaw3_lengths.f at h
  split at h
  case isFalse => exact absurd h (by simp)
  case isTrue hcd =>
  obtain ⟨hbt, hbf, hbd, h0, h1, h2⟩ := hcd
  obtain rfl := Option.some.inj h
  clear h
  have HBT := Aside0.mk (show byteRow [a0_0, a0_1, a0_2, a0_3, a0_4, a0_5] from hbt)
  have HBF := Aside0.mk (show byteRow [a0_6, a0_7, a0_8, a0_9, a0_10, a0_11] from hbf)
  have HBD := Aside0.mk (show byteRow l0_12 from hbd)
  have HR := Aside0.mk hr0_12
  have HC := Aside0.mk hc0_12
  have hm0 : l0_12.length ≤ 9223372036854775807 := hr0_12.2.1
  have hu45 := Try.underlying45
  have hu43 := Try.underlying43
  have HU1 := Aside0.mk h0
  have HSEL := Aside0.mk hs
  clear hs
  have HU2 := Aside0.mk h1
  have HU3 := Aside0.mk h2
  clear h0 h1 h2
  clear hbt hbf hbd hr0_12 hc0_12
  go_enter Try.func39, Try.ntmps39
  go_upto_region 1 with fail
  have hb1 := blk_new w (.cells #[.int .u8 a0_0, .int .u8 a0_1, .int .u8 a0_2, .int .u8 a0_3, .int .u8 a0_4, .int .u8 a0_5, .int .u8 a0_6, .int .u8 a0_7, .int .u8 a0_8, .int .u8 a0_9, .int .u8 a0_10, .int .u8 a0_11, .slice A0_12 l0_12.length c0_12] 45 (0, 0))
  have hbw := below_alloc (Below.refl w.heap.size w) (.cells #[.int .u8 a0_0, .int .u8 a0_1, .int .u8 a0_2, .int .u8 a0_3, .int .u8 a0_4, .int .u8 a0_5, .int .u8 a0_6, .int .u8 a0_7, .int .u8 a0_8, .int .u8 a0_9, .int .u8 a0_10, .int .u8 a0_11, .slice A0_12 l0_12.length c0_12] 45 (0, 0))
  generalize w.alloc (.cells #[.int .u8 a0_0, .int .u8 a0_1, .int .u8 a0_2, .int .u8 a0_3, .int .u8 a0_4, .int .u8 a0_5, .int .u8 a0_6, .int .u8 a0_7, .int .u8 a0_8, .int .u8 a0_9, .int .u8 a0_10, .int .u8 a0_11, .slice A0_12 l0_12.length c0_12] 45 (0, 0)) = w0 at hb1 hbw ⊢
  obtain ⟨gf, hgf⟩ : ∃ gf, w.heap.size = gf := ⟨_, rfl⟩
  have HGF := Aside0.mk hgf
  rw [hgf] at hb1 ⊢
  have HB := Aside0.mk (show Below w.heap.size w w0 from hbw)
  have HF := Aside0.mk hb1
  clear hb1 hbw hgf
  have hk6 := (show w0.cell? ⟨gf, 6, none⟩ = some (.int .u8 a0_6) from (blk_cell HF.out 6).trans rfl)
  have hk7 := (show w0.cell? ⟨gf, 7, none⟩ = some (.int .u8 a0_7) from (blk_cell HF.out 7).trans rfl)
  have hk8 := (show w0.cell? ⟨gf, 8, none⟩ = some (.int .u8 a0_8) from (blk_cell HF.out 8).trans rfl)
  have hk9 := (show w0.cell? ⟨gf, 9, none⟩ = some (.int .u8 a0_9) from (blk_cell HF.out 9).trans rfl)
  have hk10 := (show w0.cell? ⟨gf, 10, none⟩ = some (.int .u8 a0_10) from (blk_cell HF.out 10).trans rfl)
  have hk11 := (show w0.cell? ⟨gf, 11, none⟩ = some (.int .u8 a0_11) from (blk_cell HF.out 11).trans rfl)
  have hk12 := (show w0.cell? ⟨gf, 12, none⟩ = some (.slice A0_12 l0_12.length c0_12) from (blk_cell HF.out 12).trans rfl)
  by_cases hl : l0_12.length ≤ 1500
  case neg =>
    have d1 : decide ((1500 : Int) < (l0_12.length : Int)) = true := decide_eq_true (by omega)
    clear hl
    go_wp2_with fail
    refine (awake3_calls _).mono ?_
    rintro e wz ⟨rfl, hB⟩
    replace HB := Aside0.mk (below_step HB.out hB)
    clear hB
    go_wp2_with fail
    go_ret
    exact ⟨rfl, HB.out⟩
  have d1 : decide ((1500 : Int) < (l0_12.length : Int)) = false := decide_eq_false (by omega)
  have HL := Aside0.mk hl
  clear hl
  go_wp2_with fail
  refine (mac_Group.calls _ _ _ _ _ _ _ _ (grp_f _ _ _ _ _ _)).mono ?_
  rintro e wb ⟨rfl, hB⟩
  replace HF := Aside0.mk (blk_below HF.out hB)
  replace HB := Aside0.mk (below_step HB.out hB)
  clear hB hk6 hk7 hk8 hk9 hk10 hk11 hk12
  cases hg : isGrp a0_6 with
  | true =>
    clear hg
    go_wp2_with fail
    refine (awake3_calls _).mono ?_
    rintro e wz ⟨rfl, hB⟩
    replace HB := Aside0.mk (below_step HB.out hB)
    clear hB
    go_wp2_with fail
    go_ret
    exact ⟨rfl, HB.out⟩
  | false =>
    go_wp2_with fail
    refine (crc_Make.calls _).mono ?_
    rintro e w1 ⟨rfl, hB⟩
    replace HF := Aside0.mk (blk_below HF.out hB)
    have hS := (show Below wb.heap.size wb w1 from below_step (by repeat (first | with_reducible exact Below.refl _ _ | with_reducible apply below_drew1 | with_reducible apply pw_below_drewN | with_reducible apply below_alloc)) hB)
    replace HB := Aside0.mk (below_step HB.out hS)
    clear hS hB
    go_wp2_with (first
      | (refine wpList_store_tab rfl (.tmp 9) (.tmp 30) rfl w1.heap.size rfl true rfl Try.zeroCells27 (blk_new w1 _) zsz27 ?_; intro w2 hI hG; have hS := (show Below w1.heap.size w1 w2 from (below_alloc (Below.refl _ _) _).grown hG (below_alloc (Below.refl _ _) _).size (fun k hk => by cases hk; exact Nat.le_refl _)); have HG := Aside0.mk (HB.out.size); replace HB := Aside0.mk (below_step HB.out hS); generalize w1.heap.size = g at hI HG ⊢; have HI := Aside0.mk hI; replace HF := Aside0.mk (blk_below HF.out hS); clear hI hG hS)
      | (refine wpList_load_row rfl 27 (.tmp 9) rfl g rfl 27 (tabRow true) (0, 0) _ HI.out Try.underlying27 rfl (tabInf true) ?_)
      | (refine wpList_load_row rfl 45 (.tmp 4) rfl gf rfl 45 #[.int .u8 a0_0, .int .u8 a0_1, .int .u8 a0_2, .int .u8 a0_3, .int .u8 a0_4, .int .u8 a0_5, .int .u8 a0_6, .int .u8 a0_7, .int .u8 a0_8, .int .u8 a0_9, .int .u8 a0_10, .int .u8 a0_11, .slice A0_12 l0_12.length c0_12] (0, 0) _ HF.out Try.underlying45 rfl info45_ ?_))
    have HGR := Aside0.mk hg
    clear hg
    have HD0 := Aside0.mk (decE_enc (t0 := a0_0) (t1 := a0_1) (t2 := a0_2) (t3 := a0_3) (t4 := a0_4) (t5 := a0_5) (f0 := a0_6) (f1 := a0_7) (f2 := a0_8) (f3 := a0_9) (f4 := a0_10) (f5 := a0_11) HGR.out HL.out)
    have HXY := Aside0.mk (sealI_byte (enc_byte HBT.out HBF.out HBD.out))
    have HXL := Aside0.mk (show (sealI (encB [a0_0, a0_1, a0_2, a0_3, a0_4, a0_5] [a0_6, a0_7, a0_8, a0_9, a0_10, a0_11] l0_12)).length = 18 + l0_12.length + (46 - l0_12.length) by rw [sealI_len, encB_len]; omega)
    refine (mac_Encode.ok a0_0 a0_1 a0_2 a0_3 a0_4 a0_5 a0_6 a0_7 a0_8 a0_9 a0_10 a0_11 A0_12 c0_12 l0_12 _ (Kd.C_below HR.out HB.out) HC.out HGR.out HL.out HBD.out HBT.out HBF.out).mono ?_
    rintro e w6 ⟨v6, rfl, hR, hB⟩
    have HPB := Aside0.mk (enc_byte HBT.out HBF.out HBD.out)
    have HEF := Aside0.mk (encF_ok (t0 := a0_0) (t1 := a0_1) (t2 := a0_2) (t3 := a0_3) (t4 := a0_4) (t5 := a0_5) (f0 := a0_6) (f1 := a0_7) (f2 := a0_8) (f3 := a0_9) (f4 := a0_10) (f5 := a0_11) HGR.out HL.out)
    generalize encB [a0_0, a0_1, a0_2, a0_3, a0_4, a0_5] [a0_6, a0_7, a0_8, a0_9, a0_10, a0_11] l0_12 = P at HPB HEF HD0 HXY HXL hR
    obtain ⟨n, hn⟩ : ∃ n, 14 + l0_12.length + (46 - l0_12.length) = n := ⟨_, rfl⟩
    rw [hn] at HEF
    have hPl : P.length = n := HEF.out.1
    have hTK : (sealI P).take n = P := by unfold sealI; rw [← hPl, List.take_left]
    have hSL : (sealI P).length = n + 4 := by rw [sealI_len, hPl]
    have HSN := Aside0.mk hn
    generalize sealI P = B at HD0 HXY HXL hR hTK hSL
    obtain ⟨A6, c6, rfl, hc6, hC6⟩ := Kd.R_reads hR
    obtain ⟨ga, rfl⟩ := R_some_ hR (by omega)
    have HC6 := Aside0.mk hC6
    have hm6 : B.length ≤ 9223372036854775807 := hC6.2.1
    replace HF := Aside0.mk (blk_below HF.out hB)
    replace HI := Aside0.mk (HI.out.below hB)
    replace HB := Aside0.mk (below_step HB.out hB)
    have hnc : n ≤ c6 := by omega
    have hB4 : (B.length : Int) - 4 = (n : Int) := by omega
    have hn60 : 60 ≤ n := by omega
    have hn15 : n ≤ 1514 := by have := HL.out; omega
    obtain ⟨mx, hmx⟩ : ∃ mx : Int, (if (l0_12.length : Int) < 46 then 46 else (l0_12.length : Int)) = mx := ⟨_, rfl⟩
    have hmb : (B.length : Int) = 18 + mx := by rw [← hmx]; split <;> omega
    have hmx1 : 46 ≤ mx := by rw [← hmx]; split <;> omega
    have hmx2 : mx ≤ 1500 := by have := HL.out; rw [← hmx]; split <;> omega
    have b5 : decide ((B.length : Int) < 18 + mx) = false := decide_eq_false (by omega)
    have hk12 := (show w6.cell? ⟨gf, 12, none⟩ = some (.slice A0_12 l0_12.length c0_12) from (blk_cell HF.out 12).trans rfl)
    have HCT := Aside0.mk (Kd.C_take HC6.out (show n ≤ B.length by omega))
    rw [hTK, hPl] at HCT
    have HCP := Aside0.mk (antiphonref1_Copy.calls (n + 1) (some ⟨ga, 0, none⟩) c6 P P)
    rw [hPl] at HCP
    have HCF := Aside0.mk (show antiphonref1_Copy.f (n + 1) P = some P by have := copy_any (a := P) (by omega); rw [hPl] at this; exact this)
    have HPL := Aside0.mk hPl
    obtain ⟨u, rfl⟩ : ∃ u : Nat, a1 = (u : Int) := ⟨a1.toNat, by have := HU1.out; omega⟩
    have hu65 : u < 65536 := by have := HU1.out; omega
    obtain ⟨q, rfl⟩ : ∃ q : Nat, a2 = (q : Int) := ⟨a2.toNat, by have := HU2.out; omega⟩
    have hq65 : q < 65536 := by have := HU2.out; omega
    clear hB hR hC6 hc6 hmb hTK hSL hPl hn
    go_wp2_with fail
    refine (HCP.out _ HCT.out hnc HCF.out).mono ?_
    rintro e w7 ⟨vc, rfl, hR, hB⟩
    obtain ⟨Ac, cc, rfl⟩ := Kd.R_slice hR
    obtain ⟨gc, rfl⟩ := R_some_ hR (by have := HPL.out; omega)
    rw [HPL.out] at hR ⊢
    have HX := Aside0.mk hR
    have HBc := Aside0.mk hB
    have HGC := Aside0.mk (R_base_ hR)
    have hncc : n ≤ cc := by obtain ⟨_, _, he, hc, _⟩ := Kd.R_reads hR; injection he with e1 e2 e3; rw [HPL.out] at hc; omega
    clear hR hB hk12 b5
    have h12n : 12 < n := by omega
    have h13n : 13 < n := by omega
    go_wp2_with (first
      | (refine wpList_store_R rfl (.tmp 62) (.tmp 59) rfl gc 12 _ HX.out rfl rfl h12n info5_ ?_; intro r1 hZ hG; replace HX := Aside0.mk hZ; replace HBc := Aside0.mk (below_own HBc.out hG HGC.out); clear hZ hG)
      | (refine wpList_store_R rfl (.tmp 63) (.tmp 61) rfl gc 13 _ HX.out rfl rfl h13n info5_ ?_; intro r2 hZ hG; replace HX := Aside0.mk hZ; replace HBc := Aside0.mk (below_own HBc.out hG HGC.out); clear hZ hG))
    have HLI := Aside0.mk (lied_ok (u := u) HEF.out HPB.out hn60 hu65 (e1 := (u : Int) / 256) (e2 := (u : Int) % 256) rfl rfl)
    generalize (P.set 12 ((u : Int) / 256)).set 13 ((u : Int) % 256) = C at HX HLI
    have hCl : C.length = n := HLI.out.1
    have HCB := Aside0.mk (show byteRow C from HLI.out.2.1)
    have HSE := Aside0.mk (crc_Seal.calls (some ⟨gc, 0, none⟩) cc C)
    rw [hCl] at HSE
    have HSN15 := Aside0.mk (show n < 140737488355000 by omega)
    have HSB := Aside0.mk (sealI_byte HCB.out)
    have HSL := Aside0.mk (show (sealI C).length < 140737488355000 by rw [sealI_len, hCl]; omega)
    have HDC := Aside0.mk (fun (b : Bool) hb => lied_dec HLI.out hn60 b hb)
    generalize sealI C = S at HSE HSB HSL HDC
    have HCC := Aside0.mk (reads_own HX.out hCl)
    have hcc : n ≤ cc := hncc
    have HIc := HI
    replace HI := Aside0.mk (HI.out.below HBc.out)
    have HCL := Aside0.mk hCl
    clear hCl
    have HB6 := Aside0.mk (Below.refl r2.heap.size r2)
    have HI6 := HI
    refine start_ (n := 11) (S := fun w' => IsTab true w' g) (ds := []) #[false, false, false, false, false, false, false, false, false, false, false] (by kernel_rfl) rfl rfl (HI.out.drew1) (fun hHeld => ?_)
    refine pure_ (i := 2) (N := some 67) (v := ?_) (a' := ?_) #[false, false, true, false, false, false, false, false, false, false, false] rfl rfl (by kernel_rfl) (fun _ _ _ h => h) (Or.inl ⟨by rfl, ?_⟩) ?_ ?_
    rotate_left
    · intro w'
      go_simp
      with_reducible rfl
    rotate_left
    · simp only [Act.put, List.setIfInBounds_toArray, List.set_cons_zero, List.set_cons_succ, i64_w, i32_w]
      rfl
    refine take_ (i := 0) (N := some 65) (v := tabV true) #[true, false, true, false, false, false, false, false, false, false, false] rfl rfl (by kernel_rfl) (fun _ _ _ h => h) ?_ hHeld rfl ?_
    · exact yields_tab (by rfl) _ rfl _ rfl true (by intro w' s0; exact s0)
    refine norm_ (a' := ?_) ?_ ?_
    rotate_left
    · show Act.put _ (some 65) _ = _
      simp only [Act.put, List.setIfInBounds_toArray, List.set_cons_zero, List.set_cons_succ, i64_w, i32_w]
      rfl
    refine take_ (i := 1) (N := some 66) (v := tabV true) #[true, true, true, false, false, false, false, false, false, false, false] rfl rfl (by kernel_rfl) (fun _ _ _ h => h) ?_ hHeld rfl ?_
    · exact yields_tab (by rfl) _ rfl _ rfl true (by intro w' s0; exact s0)
    refine norm_ (a' := ?_) ?_ ?_
    rotate_left
    · show Act.put _ (some 66) _ = _
      simp only [Act.put, List.setIfInBounds_toArray, List.set_cons_zero, List.set_cons_succ, i64_w, i32_w]
      rfl
    refine join_ (σ := Option Addr × Nat × Option Addr × Nat × Nat) 2 #[true, true, true, true, true, true, true, true, true, false, false] (fun s_ => [(68, .slice s_.1 S.length s_.2.1), (69, .tuple #[.agg (frame (decH S) s_.2.2.1 (decD S).length s_.2.2.2.1), .int .i64 (decE S)]), (13, .pointer (some ⟨s_.2.2.2.2, 0, none⟩)), (64, .tuple #[.agg (frame (decH S) s_.2.2.1 (decD S).length s_.2.2.2.1), .int .i64 (decE S)]), (70, .agg (frame (decH S) s_.2.2.1 (decD S).length s_.2.2.2.1)), (71, .int .i64 (decE S))]) (fun s_ w' => IsTab true w' g ∧ (Below r2.heap.size r2 w' ∧ w'.heap[s_.2.2.2.2]? = some (.cells #[.int .u8 0, .int .u8 0, .int .u8 0, .int .u8 0, .int .u8 0, .int .u8 0, .int .u8 0, .int .u8 0, .int .u8 0, .int .u8 0, .int .u8 0, .int .u8 0, .slice none 0 0] 45 (0, 0)) ∧ r2.heap.size ≤ s_.2.2.2.2)) ?_ ?_
    rotate_left
    · intro hCont
      refine two_ (i := 3) (j := 8) (Ni := some 68) (Nj := some 13) #[true, true, true, true, false, false, false, false, false, false, false] #[true, true, true, false, false, false, false, false, true, false, false] rfl rfl rfl rfl (by kernel_rfl) (by decide) (by decide) (fun K hK => ?_) (fun K hK => ?_)
      · skip
        replace HI := Aside0.mk HI.out.drew1
        replace HB6 := Aside0.mk (below_drew1 HB6.out)
        refine goes_ Try.func26 (by kernel_rfl) rfl #[tabV true, .slice (some ⟨gc, 0, none⟩) n cc] (by rfl) rfl rfl (by go_simp) ?_
        refine (HSE.out _ (Kd.C_below HCC.out HB6.out) hcc HCB.out HSN15.out).mono ?_
        rintro e y_3 ⟨vx, rfl, hR, h2⟩
        refine ⟨_, rfl, ?_⟩
        obtain ⟨AX, cX, rfl, hcX, hCX⟩ := Kd.R_reads hR
        have HCX := Aside0.mk hCX
        have HcX := Aside0.mk hcX
        replace HI := Aside0.mk (HI.out.below h2)
        replace HB6 := Aside0.mk (below_step HB6.out h2)
        clear hR h2 hcX hCX
        refine hK.out _ _ (HI.out) (fun hHeld => ?_)
        clear hK K
        refine norm_ (a' := ?_) ?_ ?_
        rotate_left
        · show Act.put _ (some 68) _ = _
          simp only [Act.put, List.setIfInBounds_toArray, List.set_cons_zero, List.set_cons_succ, i64_w, i32_w]
          rfl
        refine two_ (i := 4) (j := 8) (Ni := some 69) (Nj := some 13) #[true, true, true, true, true, false, false, false, false, false, false] #[true, true, true, true, false, false, false, false, true, false, false] rfl rfl rfl rfl (by kernel_rfl) (by decide) (by decide) (fun K hK => ?_) (fun K hK => ?_)
        · skip
          refine goes_ Try.func34 (by kernel_rfl) rfl #[tabV true, .slice AX S.length cX] (by rfl) rfl rfl (by go_simp) ?_
          refine (mac_Decode.calls AX cX S _ HCX.out HcX.out HSB.out HSL.out).mono ?_
          rintro e y_3_4 ⟨AD, cD, rfl, hcD, hCD, h2⟩
          refine ⟨_, rfl, ?_⟩
          replace HI := Aside0.mk (HI.out.below h2)
          replace HB6 := Aside0.mk (below_step HB6.out h2)
          clear hcD hCD h2
          refine hK.out _ _ (HI.out) (fun hHeld => ?_)
          clear hK K
          refine norm_ (a' := ?_) ?_ ?_
          rotate_left
          · show Act.put _ (some 69) _ = _
            simp only [Act.put, List.setIfInBounds_toArray, List.set_cons_zero, List.set_cons_succ, i64_w, i32_w]
            rfl
          refine pure_ (i := 5) (N := some 64) (v := ?_) (a' := ?_) #[true, true, true, true, true, true, false, false, false, false, false] rfl rfl (by kernel_rfl) (fun _ _ _ h => h) (Or.inl ⟨by rfl, ?_⟩) ?_ ?_
          rotate_left
          · intro w'
            go_simp
            with_reducible rfl
          rotate_left
          · simp only [Act.put, List.setIfInBounds_toArray, List.set_cons_zero, List.set_cons_succ, i64_w, i32_w]
            rfl
          refine pure_ (i := 6) (N := some 70) (v := ?_) (a' := ?_) #[true, true, true, true, true, true, true, false, false, false, false] rfl rfl (by kernel_rfl) (fun _ _ _ h => h) (Or.inl ⟨by rfl, ?_⟩) ?_ ?_
          rotate_left
          · intro w'
            go_simp
            with_reducible rfl
          rotate_left
          · simp only [Act.put, List.setIfInBounds_toArray, List.set_cons_zero, List.set_cons_succ, i64_w, i32_w]
            rfl
          refine pure_ (i := 7) (N := some 71) (v := ?_) (a' := ?_) #[true, true, true, true, true, true, true, true, false, false, false] rfl rfl (by kernel_rfl) (fun _ _ _ h => h) (Or.inl ⟨by rfl, ?_⟩) ?_ ?_
          rotate_left
          · intro w'
            go_simp
            with_reducible rfl
          rotate_left
          · simp only [Act.put, List.setIfInBounds_toArray, List.set_cons_zero, List.set_cons_succ, i64_w, i32_w]
            rfl
          refine one_ (i := 8) (N := some 13) #[true, true, true, true, true, true, true, true, true, false, false] rfl rfl (by kernel_rfl) (by decide) (fun K hK => ?_)
          refine value_ (w1 := y_3_4.alloc (.cells #[.int .u8 0, .int .u8 0, .int .u8 0, .int .u8 0, .int .u8 0, .int .u8 0, .int .u8 0, .int .u8 0, .int .u8 0, .int .u8 0, .int .u8 0, .int .u8 0, .slice none 0 0] 45 (0, 0))) (v := .pointer (some ⟨y_3_4.heap.size, 0, none⟩)) (by rfl) rfl ?_ ?_
          · first | (go_simp; done) | (go_simp; constructor <;> rfl) | (go_simp; rfl)
          have h1 := blk_new y_3_4 (.cells #[.int .u8 0, .int .u8 0, .int .u8 0, .int .u8 0, .int .u8 0, .int .u8 0, .int .u8 0, .int .u8 0, .int .u8 0, .int .u8 0, .int .u8 0, .int .u8 0, .slice none 0 0] 45 (0, 0))
          have h2 := below_alloc (Below.refl y_3_4.heap.size y_3_4) (.cells #[.int .u8 0, .int .u8 0, .int .u8 0, .int .u8 0, .int .u8 0, .int .u8 0, .int .u8 0, .int .u8 0, .int .u8 0, .int .u8 0, .int .u8 0, .int .u8 0, .slice none 0 0] 45 (0, 0))
          have HK6 := Aside0.mk (show r2.heap.size ≤ y_3_4.heap.size from HB6.out.size)
          generalize y_3_4.alloc (.cells #[.int .u8 0, .int .u8 0, .int .u8 0, .int .u8 0, .int .u8 0, .int .u8 0, .int .u8 0, .int .u8 0, .int .u8 0, .int .u8 0, .int .u8 0, .int .u8 0, .slice none 0 0] 45 (0, 0)) = y_3_4_8 at h1 h2 ⊢
          have HZ := Aside0.mk h1
          replace HI := Aside0.mk (HI.out.below h2)
          replace HB6 := Aside0.mk (below_step HB6.out h2)
          clear h1 h2
          refine hK.out _ _ (HI.out) (fun hHeld => ?_)
          clear hK K
          refine norm_ (a' := ?_) ?_ ?_
          rotate_left
          · show Act.put _ (some 13) _ = _
            simp only [Act.put, List.setIfInBounds_toArray, List.set_cons_zero, List.set_cons_succ, i64_w, i32_w]
            rfl
          exact norm_ (by simp only [putAll, Act.put, List.setIfInBounds_toArray, List.set_cons_zero, List.set_cons_succ]) (hCont (AX, cX, AD, cD, y_3_4.heap.size) _ ⟨HI.out, HB6.out, HZ.out, HK6.out⟩)
        · skip
          refine value_ (w1 := y_3.alloc (.cells #[.int .u8 0, .int .u8 0, .int .u8 0, .int .u8 0, .int .u8 0, .int .u8 0, .int .u8 0, .int .u8 0, .int .u8 0, .int .u8 0, .int .u8 0, .int .u8 0, .slice none 0 0] 45 (0, 0))) (v := .pointer (some ⟨y_3.heap.size, 0, none⟩)) (by rfl) rfl ?_ ?_
          · first | (go_simp; done) | (go_simp; constructor <;> rfl) | (go_simp; rfl)
          have h1 := blk_new y_3 (.cells #[.int .u8 0, .int .u8 0, .int .u8 0, .int .u8 0, .int .u8 0, .int .u8 0, .int .u8 0, .int .u8 0, .int .u8 0, .int .u8 0, .int .u8 0, .int .u8 0, .slice none 0 0] 45 (0, 0))
          have h2 := below_alloc (Below.refl y_3.heap.size y_3) (.cells #[.int .u8 0, .int .u8 0, .int .u8 0, .int .u8 0, .int .u8 0, .int .u8 0, .int .u8 0, .int .u8 0, .int .u8 0, .int .u8 0, .int .u8 0, .int .u8 0, .slice none 0 0] 45 (0, 0))
          have HK6 := Aside0.mk (show r2.heap.size ≤ y_3.heap.size from HB6.out.size)
          replace HCX := Aside0.mk (Kd.C_below HCX.out h2)
          generalize y_3.alloc (.cells #[.int .u8 0, .int .u8 0, .int .u8 0, .int .u8 0, .int .u8 0, .int .u8 0, .int .u8 0, .int .u8 0, .int .u8 0, .int .u8 0, .int .u8 0, .int .u8 0, .slice none 0 0] 45 (0, 0)) = y_3_8 at h1 h2 HCX ⊢
          have HZ := Aside0.mk h1
          replace HI := Aside0.mk (HI.out.below h2)
          replace HB6 := Aside0.mk (below_step HB6.out h2)
          clear h1 h2
          refine hK.out _ _ (HI.out) (fun hHeld => ?_)
          clear hK K
          refine norm_ (a' := ?_) ?_ ?_
          rotate_left
          · show Act.put _ (some 13) _ = _
            simp only [Act.put, List.setIfInBounds_toArray, List.set_cons_zero, List.set_cons_succ, i64_w, i32_w]
            rfl
          refine one_ (i := 4) (N := some 69) #[true, true, true, true, true, false, false, false, true, false, false] rfl rfl (by kernel_rfl) (by decide) (fun K hK => ?_)
          refine goes_ Try.func34 (by kernel_rfl) rfl #[tabV true, .slice AX S.length cX] (by rfl) rfl rfl (by go_simp) ?_
          refine (mac_Decode.calls AX cX S _ HCX.out HcX.out HSB.out HSL.out).mono ?_
          rintro e y_3_8_4 ⟨AD, cD, rfl, hcD, hCD, h2⟩
          refine ⟨_, rfl, ?_⟩
          replace HI := Aside0.mk (HI.out.below h2)
          replace HB6 := Aside0.mk (below_step HB6.out h2)
          replace HZ := Aside0.mk (blk_below HZ.out h2)
          clear hcD hCD h2
          refine hK.out _ _ (HI.out) (fun hHeld => ?_)
          clear hK K
          refine norm_ (a' := ?_) ?_ ?_
          rotate_left
          · show Act.put _ (some 69) _ = _
            simp only [Act.put, List.setIfInBounds_toArray, List.set_cons_zero, List.set_cons_succ, i64_w, i32_w]
            rfl
          refine pure_ (i := 5) (N := some 64) (v := ?_) (a' := ?_) #[true, true, true, true, true, true, false, false, true, false, false] rfl rfl (by kernel_rfl) (fun _ _ _ h => h) (Or.inl ⟨by rfl, ?_⟩) ?_ ?_
          rotate_left
          · intro w'
            go_simp
            with_reducible rfl
          rotate_left
          · simp only [Act.put, List.setIfInBounds_toArray, List.set_cons_zero, List.set_cons_succ, i64_w, i32_w]
            rfl
          refine pure_ (i := 6) (N := some 70) (v := ?_) (a' := ?_) #[true, true, true, true, true, true, true, false, true, false, false] rfl rfl (by kernel_rfl) (fun _ _ _ h => h) (Or.inl ⟨by rfl, ?_⟩) ?_ ?_
          rotate_left
          · intro w'
            go_simp
            with_reducible rfl
          rotate_left
          · simp only [Act.put, List.setIfInBounds_toArray, List.set_cons_zero, List.set_cons_succ, i64_w, i32_w]
            rfl
          refine pure_ (i := 7) (N := some 71) (v := ?_) (a' := ?_) #[true, true, true, true, true, true, true, true, true, false, false] rfl rfl (by kernel_rfl) (fun _ _ _ h => h) (Or.inl ⟨by rfl, ?_⟩) ?_ ?_
          rotate_left
          · intro w'
            go_simp
            with_reducible rfl
          rotate_left
          · simp only [Act.put, List.setIfInBounds_toArray, List.set_cons_zero, List.set_cons_succ, i64_w, i32_w]
            rfl
          exact norm_ (by simp only [putAll, Act.put, List.setIfInBounds_toArray, List.set_cons_zero, List.set_cons_succ]) (hCont (AX, cX, AD, cD, y_3.heap.size) _ ⟨HI.out, HB6.out, HZ.out, HK6.out⟩)
      · skip
        replace HI := Aside0.mk HI.out.drew1
        replace HB6 := Aside0.mk (below_drew1 HB6.out)
        refine value_ (w1 := r2.drew.alloc (.cells #[.int .u8 0, .int .u8 0, .int .u8 0, .int .u8 0, .int .u8 0, .int .u8 0, .int .u8 0, .int .u8 0, .int .u8 0, .int .u8 0, .int .u8 0, .int .u8 0, .slice none 0 0] 45 (0, 0))) (v := .pointer (some ⟨r2.drew.heap.size, 0, none⟩)) (by rfl) rfl ?_ ?_
        · first | (go_simp; done) | (go_simp; constructor <;> rfl) | (go_simp; rfl)
        have h1 := blk_new r2.drew (.cells #[.int .u8 0, .int .u8 0, .int .u8 0, .int .u8 0, .int .u8 0, .int .u8 0, .int .u8 0, .int .u8 0, .int .u8 0, .int .u8 0, .int .u8 0, .int .u8 0, .slice none 0 0] 45 (0, 0))
        have h2 := below_alloc (Below.refl r2.drew.heap.size r2.drew) (.cells #[.int .u8 0, .int .u8 0, .int .u8 0, .int .u8 0, .int .u8 0, .int .u8 0, .int .u8 0, .int .u8 0, .int .u8 0, .int .u8 0, .int .u8 0, .int .u8 0, .slice none 0 0] 45 (0, 0))
        have HK6 := Aside0.mk (show r2.heap.size ≤ r2.drew.heap.size from HB6.out.size)
        generalize r2.drew.alloc (.cells #[.int .u8 0, .int .u8 0, .int .u8 0, .int .u8 0, .int .u8 0, .int .u8 0, .int .u8 0, .int .u8 0, .int .u8 0, .int .u8 0, .int .u8 0, .int .u8 0, .slice none 0 0] 45 (0, 0)) = y_8 at h1 h2 ⊢
        have HZ := Aside0.mk h1
        replace HI := Aside0.mk (HI.out.below h2)
        replace HB6 := Aside0.mk (below_step HB6.out h2)
        clear h1 h2
        refine hK.out _ _ (HI.out) (fun hHeld => ?_)
        clear hK K
        refine norm_ (a' := ?_) ?_ ?_
        rotate_left
        · show Act.put _ (some 13) _ = _
          simp only [Act.put, List.setIfInBounds_toArray, List.set_cons_zero, List.set_cons_succ, i64_w, i32_w]
          rfl
        refine one_ (i := 3) (N := some 68) #[true, true, true, true, false, false, false, false, true, false, false] rfl rfl (by kernel_rfl) (by decide) (fun K hK => ?_)
        refine goes_ Try.func26 (by kernel_rfl) rfl #[tabV true, .slice (some ⟨gc, 0, none⟩) n cc] (by rfl) rfl rfl (by go_simp) ?_
        refine (HSE.out _ (Kd.C_below HCC.out HB6.out) hcc HCB.out HSN15.out).mono ?_
        rintro e y_8_3 ⟨vx, rfl, hR, h2⟩
        refine ⟨_, rfl, ?_⟩
        obtain ⟨AX, cX, rfl, hcX, hCX⟩ := Kd.R_reads hR
        have HCX := Aside0.mk hCX
        have HcX := Aside0.mk hcX
        replace HI := Aside0.mk (HI.out.below h2)
        replace HB6 := Aside0.mk (below_step HB6.out h2)
        replace HZ := Aside0.mk (blk_below HZ.out h2)
        clear hR h2 hcX hCX
        refine hK.out _ _ (HI.out) (fun hHeld => ?_)
        clear hK K
        refine norm_ (a' := ?_) ?_ ?_
        rotate_left
        · show Act.put _ (some 68) _ = _
          simp only [Act.put, List.setIfInBounds_toArray, List.set_cons_zero, List.set_cons_succ, i64_w, i32_w]
          rfl
        refine one_ (i := 4) (N := some 69) #[true, true, true, true, true, false, false, false, true, false, false] rfl rfl (by kernel_rfl) (by decide) (fun K hK => ?_)
        refine goes_ Try.func34 (by kernel_rfl) rfl #[tabV true, .slice AX S.length cX] (by rfl) rfl rfl (by go_simp) ?_
        refine (mac_Decode.calls AX cX S _ HCX.out HcX.out HSB.out HSL.out).mono ?_
        rintro e y_8_3_4 ⟨AD, cD, rfl, hcD, hCD, h2⟩
        refine ⟨_, rfl, ?_⟩
        replace HI := Aside0.mk (HI.out.below h2)
        replace HB6 := Aside0.mk (below_step HB6.out h2)
        replace HZ := Aside0.mk (blk_below HZ.out h2)
        clear hcD hCD h2
        refine hK.out _ _ (HI.out) (fun hHeld => ?_)
        clear hK K
        refine norm_ (a' := ?_) ?_ ?_
        rotate_left
        · show Act.put _ (some 69) _ = _
          simp only [Act.put, List.setIfInBounds_toArray, List.set_cons_zero, List.set_cons_succ, i64_w, i32_w]
          rfl
        refine pure_ (i := 5) (N := some 64) (v := ?_) (a' := ?_) #[true, true, true, true, true, true, false, false, true, false, false] rfl rfl (by kernel_rfl) (fun _ _ _ h => h) (Or.inl ⟨by rfl, ?_⟩) ?_ ?_
        rotate_left
        · intro w'
          go_simp
          with_reducible rfl
        rotate_left
        · simp only [Act.put, List.setIfInBounds_toArray, List.set_cons_zero, List.set_cons_succ, i64_w, i32_w]
          rfl
        refine pure_ (i := 6) (N := some 70) (v := ?_) (a' := ?_) #[true, true, true, true, true, true, true, false, true, false, false] rfl rfl (by kernel_rfl) (fun _ _ _ h => h) (Or.inl ⟨by rfl, ?_⟩) ?_ ?_
        rotate_left
        · intro w'
          go_simp
          with_reducible rfl
        rotate_left
        · simp only [Act.put, List.setIfInBounds_toArray, List.set_cons_zero, List.set_cons_succ, i64_w, i32_w]
          rfl
        refine pure_ (i := 7) (N := some 71) (v := ?_) (a' := ?_) #[true, true, true, true, true, true, true, true, true, false, false] rfl rfl (by kernel_rfl) (fun _ _ _ h => h) (Or.inl ⟨by rfl, ?_⟩) ?_ ?_
        rotate_left
        · intro w'
          go_simp
          with_reducible rfl
        rotate_left
        · simp only [Act.put, List.setIfInBounds_toArray, List.set_cons_zero, List.set_cons_succ, i64_w, i32_w]
          rfl
        exact norm_ (by simp only [putAll, Act.put, List.setIfInBounds_toArray, List.set_cons_zero, List.set_cons_succ]) (hCont (AX, cX, AD, cD, r2.drew.heap.size) _ ⟨HI.out, HB6.out, HZ.out, HK6.out⟩)
    rintro ⟨AX, cX, AD, cD, k_⟩ w90 ⟨hI_, hB_, hZ_, hK_⟩
    clear HI HB6
    have HI := Aside0.mk hI_
    have HB6 := Aside0.mk hB_
    have HZ := Aside0.mk hZ_
    have HKK := Aside0.mk hK_
    have hHeld : IsTab true w90 g := hI_
    clear hI_ hB_ hZ_ hK_
    refine norm_ (a' := ?_) ?_ ?_
    rotate_left
    · simp only [putAll, Act.put, List.setIfInBounds_toArray, List.set_cons_zero, List.set_cons_succ]
      rfl
    have hS := below_setRow HB6.out HKK.out (frame (decH S) AD (decD S).length cD)
    refine one_store_row_ (i := 9) (N := none) (oi := { dst := none, op := Go.Op.store 45 (Go.Operand.tmp 13) (Go.Operand.tmp 70), type := 0, pos := "law.go:179", after := #[{ on := 8, ground := Go.Ground.data }, { on := 6, ground := Go.Ground.data }, { on := 4, ground := Go.Ground.chain }, { on := 0, ground := Go.Ground.phase }, { on := 1, ground := Go.Ground.phase }, { on := 2, ground := Go.Ground.phase }, { on := 3, ground := Go.Ground.phase }, { on := 4, ground := Go.Ground.phase }, { on := 5, ground := Go.Ground.phase }, { on := 6, ground := Go.Ground.phase }, { on := 7, ground := Go.Ground.textOnly Go.Departure.lateStores }, { on := 8, ground := Go.Ground.phase }], guard := none }) #[true, true, true, true, true, true, true, true, true, true, false] (by kernel_rfl) rfl (by kernel_rfl) (by decide) (by kernel_rfl) 45 (.tmp 13) (.tmp 70) rfl k_ (frame (decH S) AD (decD S).length cD) (by simp [Act.eval]) (by simp [Act.eval]) 45 #[.int .u8 0, .int .u8 0, .int .u8 0, .int .u8 0, .int .u8 0, .int .u8 0, .int .u8 0, .int .u8 0, .int .u8 0, .int .u8 0, .int .u8 0, .int .u8 0, .slice none 0 0] HZ.out info45_ rfl (frame_one _ _ _ _) (HI6.out.below hS) ?_
    generalize w90.setRow k_ (frame (decH S) AD (decD S).length cD) = w9 at hS ⊢
    replace HI := Aside0.mk (HI6.out.below hS)
    have HS9 := Aside0.mk hS
    have hHeld : IsTab true w9 g := HI.out
    clear hS HB6 HZ HI6
    refine norm_ (a' := ?_) ?_ ?_
    rotate_left
    · show Act.put _ none _ = _
      simp only [Act.put]
      rfl
    refine pure_ (i := 10) (N := some 14) (v := ?_) (a' := ?_) #[true, true, true, true, true, true, true, true, true, true, true] rfl rfl (by kernel_rfl) (fun _ _ _ h => h) (Or.inl ⟨by rfl, ?_⟩) ?_ ?_
    rotate_left
    · intro w'
      go_simp
      with_reducible rfl
    rotate_left
    · simp only [Act.put, List.setIfInBounds_toArray, List.set_cons_zero, List.set_cons_succ, i64_w, i32_w]
      rfl
    refine done_ (by kernel_rfl) ?_
    replace HBc := Aside0.mk (below_step HBc.out HS9.out)
    replace HX := Aside0.mk (Kd.R_below HX.out HS9.out)
    clear HS9 HSE HSB HSL HCB HLI HIc
    obtain ⟨mu, hmu⟩ : ∃ mu : Nat, (if u < 46 then 46 else u) = mu := ⟨_, rfl⟩
    have hmu2 : (if (u : Int) < 46 then 46 else (u : Int)) = (mu : Int) := by rw [← hmu]; split <;> split <;> omega
    have hmu3 : mu ≤ 65536 := by rw [← hmu]; split <;> omega
    have HMU := Aside0.mk hmu
    clear hmu
    have HLB := Aside0.mk (show u ≤ mu ∧ 46 ≤ mu by rw [← HMU.out]; split <;> omega)
    replace HSEL := HSEL.out
    rw [Int.toNat_natCast, HSN.out, HMU.out] at HSEL
    by_cases h15 : u ≤ 1500
    case neg =>
      have e15 : decide ((u : Int) ≤ 1500) = false := decide_eq_false (by omega)
      have he : decE S = 4 := (HDC.out false ⟨fun h => absurd h (by decide), fun h => absurd h.1.1 h15⟩).trans rfl
      clear h15 HDC HSEL
      go_wp2_with fail
      refine wp_loop_rounds 1 ?_
      rw [rounds_succ]
      go_wp2_with fail
      refine (HCP.out _ (Kd.C_below HCT.out HBc.out) hnc HCF.out).mono ?_
      rintro e v1 ⟨vd, rfl, hR, hB⟩
      obtain ⟨Ad, cd, rfl⟩ := Kd.R_slice hR
      obtain ⟨gd, rfl⟩ := R_some_ hR (by have := HPL.out; omega)
      rw [HPL.out] at hR ⊢
      have HXd := Aside0.mk hR
      have HB9 := Aside0.mk hB
      have HGD := Aside0.mk (R_base_ hR)
      have hcd : n ≤ cd := by obtain ⟨_, _, he, hc, _⟩ := Kd.R_reads hR; injection he with e1 e2 e3; rw [HPL.out] at hc; omega
      have hk12 := (show v1.cell? ⟨gf, 12, none⟩ = some (.slice A0_12 l0_12.length c0_12) from (blk_cell (blk_below HF.out (below_step HBc.out hB)) 12).trans rfl)
      clear hR hB
      by_cases h46 : 46 ≤ l0_12.length
      case pos =>
        have d46 : decide ((46 : Int) ≤ (l0_12.length : Int)) = true := decide_eq_true (by omega)
        clear h46
        go_wp2_with fail
        refine (awake3_calls _).mono ?_
        rintro e vz ⟨rfl, hB⟩
        go_wp2_with fail
        go_ret
        exact ⟨rfl, below_step (below_step (below_step HB.out HBc.out) HB9.out) hB⟩
      have d46 : decide ((46 : Int) ≤ (l0_12.length : Int)) = false := decide_eq_false (by omega)
      by_cases hx0 : a3 = 0
      case pos =>
        have bx : (a3 == 0) = true := beq_iff_eq.2 hx0
        clear hx0 h46
        go_wp2_with fail
        refine (awake3_calls _).mono ?_
        rintro e vz ⟨rfl, hB⟩
        go_wp2_with fail
        go_ret
        exact ⟨rfl, below_step (below_step (below_step HB.out HBc.out) HB9.out) hB⟩
      have bx : (a3 == 0) = false := beq_eq_false_iff_ne.2 hx0
      go_wp2_with fail
      obtain ⟨t, ht⟩ : ∃ t : Nat, 46 - l0_12.length = t := ⟨_, rfl⟩
      have ht0 : 0 < t := pos46 ht h46
      obtain ⟨r, hr⟩ : ∃ r : Nat, q % t = r := ⟨_, rfl⟩
      have hrt : r < t := by rw [← hr]; exact Nat.mod_lt _ ht0
      obtain ⟨m0, hm0'⟩ : ∃ m0 : Nat, 14 + l0_12.length = m0 := ⟨_, rfl⟩
      obtain ⟨m, hm⟩ : ∃ m : Nat, m0 + r = m := ⟨_, rfl⟩
      have hmn : m < n := idx_lt HSN.out ht hrt hm0' hm
      have HPD := Aside0.mk (show decE (sealI (P.set m a3)) = 4 by rw [← hm, ← hm0']; exact pad_dec HEF.out HSN.out.symm (lt46 ht hrt) hx0)
      have hn9 : n ≤ 9223372036854775807 := le9 hn15
      have e4 : wrap64 (14 + (l0_12.length : Int)) = (m0 : Int) := w64_14 hm0' HL.out
      have e10 : wrap64 (46 - (l0_12.length : Int)) = (t : Int) := w64_46 ht ht0
      have ht2 : ¬ (t = 0) := ne_of_pos_ ht0
      have ht1 : ¬ ((t : Int) = 0) := nez_ ht0
      have e6 : wrap64 (q : Int) = (q : Int) := w64q hq65
      have HTM := Aside0.mk (show (q : Int).tmod (t : Int) = (r : Int) by rw [← hr]; rfl)
      have e11 : (q : Int).tmod (t : Int) = (r : Int) := by rw [← hr]; rfl
      have e11w : wrap64 (r : Int) = (r : Int) := w64r ht hrt
      have e12 : (m0 : Int) + (r : Int) = (m : Int) := by rw [← hm]; rfl
      have e12w : wrap64 (m : Int) = (m : Int) := w64n hmn hn9
      have HMN2 := Aside0.mk hmn
      have HDB := Aside0.mk (show byteRow (P.set m a3) from byteRow_set HPB.out HU3.out)
      have HDL := Aside0.mk (show (P.set m a3).length = n by rw [List.length_set]; exact HPL.out)
      clear h46 hx0 ht hr hm0' hm ht0 hrt
      refine start_ (n := 16) (S := fun w' => w'.cell? ⟨gf, 12, none⟩ = some (.slice A0_12 l0_12.length c0_12)) (ds := []) #[false, false, false, false, false, false, false, false, false, false, false, false, false, false, false, false] (by kernel_rfl) rfl rfl (hk12) (fun hHeld => ?_)
      refine pure_ (i := 0) (N := some 120) (v := ?_) (a' := ?_) #[true, false, false, false, false, false, false, false, false, false, false, false, false, false, false, false] rfl rfl (by kernel_rfl) (fun _ _ _ h => h) (Or.inl ⟨by rfl, ?_⟩) ?_ ?_
      rotate_left
      · intro w'
        go_simp
        with_reducible rfl
      rotate_left
      · simp only [Act.put, List.setIfInBounds_toArray, List.set_cons_zero, List.set_cons_succ, i64_w, i32_w]
        rfl
      refine pure_ (i := 1) (N := some 121) (v := ?_) (a' := ?_) #[true, true, false, false, false, false, false, false, false, false, false, false, false, false, false, false] rfl rfl (by kernel_rfl) (fun _ _ _ h => h) (Or.inl ⟨by rfl, ?_⟩) ?_ ?_
      rotate_left
      · intro w'
        go_simp
        with_reducible rfl
      rotate_left
      · simp only [Act.put, List.setIfInBounds_toArray, List.set_cons_zero, List.set_cons_succ, i64_w, i32_w]
        rfl
      refine pure_ (i := 5) (N := some 125) (v := ?_) (a' := ?_) #[true, true, false, false, false, true, false, false, false, false, false, false, false, false, false, false] rfl rfl (by kernel_rfl) (fun _ _ _ h => h) (Or.inl ⟨by rfl, ?_⟩) ?_ ?_
      rotate_left
      · intro w'
        go_simp
        with_reducible rfl
      rotate_left
      · simp only [Act.put, List.setIfInBounds_toArray, List.set_cons_zero, List.set_cons_succ, i64_w, i32_w]
        rfl
      refine pure_ (i := 6) (N := some 126) (v := ?_) (a' := ?_) #[true, true, false, false, false, true, true, false, false, false, false, false, false, false, false, false] rfl rfl (by kernel_rfl) (fun _ _ _ h => h) (Or.inl ⟨by rfl, ?_⟩) ?_ ?_
      rotate_left
      · intro w'
        go_simp
        with_reducible rfl
      rotate_left
      · simp only [Act.put, List.setIfInBounds_toArray, List.set_cons_zero, List.set_cons_succ, i64_w, i32_w]
        rfl
      refine pure_ (i := 7) (N := some 127) (v := ?_) (a' := ?_) #[true, true, false, false, false, true, true, true, false, false, false, false, false, false, false, false] rfl rfl (by kernel_rfl) (fun _ _ _ h => h) (Or.inl ⟨by rfl, ?_⟩) ?_ ?_
      rotate_left
      · intro w'
        go_simp
        with_reducible rfl
      rotate_left
      · simp only [Act.put, List.setIfInBounds_toArray, List.set_cons_zero, List.set_cons_succ, i64_w, i32_w]
        rfl
      refine pure_ (i := 13) (N := some 133) (v := ?_) (a' := ?_) #[true, true, false, false, false, true, true, true, false, false, false, false, false, true, false, false] rfl rfl (by kernel_rfl) (fun _ _ _ h => h) (Or.inl ⟨by rfl, ?_⟩) ?_ ?_
      rotate_left
      · intro w'
        go_simp
        with_reducible rfl
      rotate_left
      · simp only [Act.put, List.setIfInBounds_toArray, List.set_cons_zero, List.set_cons_succ, i64_w, i32_w]
        rfl
      refine take_ (i := 2) (N := some 122) (v := ?_) (a' := ?_) #[true, true, true, false, false, true, true, true, false, false, false, false, false, true, false, false] rfl rfl (by kernel_rfl) (fun _ _ _ h => h) (Or.inl ⟨by rfl, ?_⟩) hHeld ?_ ?_
      rotate_left
      · intro w' s0
        go_simp
        with_reducible rfl
      rotate_left
      · simp only [Act.put, List.setIfInBounds_toArray, List.set_cons_zero, List.set_cons_succ, i64_w, i32_w]
        rfl
      refine pure_ (i := 3) (N := some 123) (v := ?_) (a' := ?_) #[true, true, true, true, false, true, true, true, false, false, false, false, false, true, false, false] rfl rfl (by kernel_rfl) (fun _ _ _ h => h) (Or.inl ⟨by rfl, ?_⟩) ?_ ?_
      rotate_left
      · intro w'
        go_simp
        with_reducible rfl
      rotate_left
      · simp only [Act.put, List.setIfInBounds_toArray, List.set_cons_zero, List.set_cons_succ, i64_w, i32_w]
        rfl
      refine pure_ (i := 4) (N := some 124) (v := ?_) (a' := ?_) #[true, true, true, true, true, true, true, true, false, false, false, false, false, true, false, false] rfl rfl (by kernel_rfl) (fun _ _ _ h => h) (Or.inl ⟨by rfl, ?_⟩) ?_ ?_
      rotate_left
      · intro w'
        go_simp
        with_reducible rfl
      rotate_left
      · simp only [Act.put, List.setIfInBounds_toArray, List.set_cons_zero, List.set_cons_succ, i64_w, i32_w]
        rfl
      refine take_ (i := 8) (N := some 128) (v := ?_) (a' := ?_) #[true, true, true, true, true, true, true, true, true, false, false, false, false, true, false, false] rfl rfl (by kernel_rfl) (fun _ _ _ h => h) (Or.inl ⟨by rfl, ?_⟩) hHeld ?_ ?_
      rotate_left
      · intro w' s0
        go_simp
        with_reducible rfl
      rotate_left
      · simp only [Act.put, List.setIfInBounds_toArray, List.set_cons_zero, List.set_cons_succ, i64_w, i32_w]
        rfl
      refine pure_ (i := 9) (N := some 129) (v := ?_) (a' := ?_) #[true, true, true, true, true, true, true, true, true, true, false, false, false, true, false, false] rfl rfl (by kernel_rfl) (fun _ _ _ h => h) (Or.inl ⟨by rfl, ?_⟩) ?_ ?_
      rotate_left
      · intro w'
        go_simp
        with_reducible rfl
      rotate_left
      · simp only [Act.put, List.setIfInBounds_toArray, List.set_cons_zero, List.set_cons_succ, i64_w, i32_w]
        rfl
      refine pure_ (i := 10) (N := some 130) (v := ?_) (a' := ?_) #[true, true, true, true, true, true, true, true, true, true, true, false, false, true, false, false] rfl rfl (by kernel_rfl) (fun _ _ _ h => h) (Or.inl ⟨by rfl, ?_⟩) ?_ ?_
      rotate_left
      · intro w'
        go_simp
        with_reducible rfl
      rotate_left
      · simp only [Act.put, List.setIfInBounds_toArray, List.set_cons_zero, List.set_cons_succ, i64_w, i32_w]
        rfl
      refine pure_ (i := 11) (N := some 131) (v := ?_) (a' := ?_) #[true, true, true, true, true, true, true, true, true, true, true, true, false, true, false, false] rfl rfl (by kernel_rfl) (fun _ _ _ h => h) (Or.inl ⟨by rfl, ?_⟩) ?_ ?_
      rotate_left
      · intro w'
        go_simp
        with_reducible rfl
      rotate_left
      · simp only [Act.put, List.setIfInBounds_toArray, List.set_cons_zero, List.set_cons_succ, i64_w, i32_w]
        rfl
      refine pure_ (i := 12) (N := some 132) (v := ?_) (a' := ?_) #[true, true, true, true, true, true, true, true, true, true, true, true, true, true, false, false] rfl rfl (by kernel_rfl) (fun _ _ _ h => h) (Or.inl ⟨by rfl, ?_⟩) ?_ ?_
      rotate_left
      · intro w'
        go_simp
        with_reducible rfl
      rotate_left
      · simp only [Act.put, List.setIfInBounds_toArray, List.set_cons_zero, List.set_cons_succ, i64_w, i32_w]
        rfl
      refine pure_ (i := 14) (N := some 134) (v := ?_) (a' := ?_) #[true, true, true, true, true, true, true, true, true, true, true, true, true, true, true, false] rfl rfl (by kernel_rfl) (fun _ _ _ h => h) (Or.inl ⟨by rfl, ?_⟩) ?_ ?_
      rotate_left
      · intro w'
        go_simp
        with_reducible rfl
      rotate_left
      · simp only [Act.put, List.setIfInBounds_toArray, List.set_cons_zero, List.set_cons_succ, i64_w, i32_w]
        rfl
      refine one_ (i := 15) (N := none) #[true, true, true, true, true, true, true, true, true, true, true, true, true, true, true, true] rfl rfl (by kernel_rfl) (by decide) (fun K hK => ?_)
      refine if_pos_ (by rfl) ?_
      refine wp_store_R (.tmp 134) (.tmp 133) rfl gd m a3 (Kd.R_below HXd.out (below_drew1 (Below.refl v1.heap.size v1))) rfl rfl HMN2.out info5_ ?_
      intro v2 hZ hG
      replace HXd := Aside0.mk hZ
      replace HB9 := Aside0.mk (below_own (below_drew1 HB9.out) hG HGD.out)
      have hHeld : v2.cell? ⟨gf, 12, none⟩ = some (.slice A0_12 l0_12.length c0_12) := (blk_cell (blk_below HF.out (below_step HBc.out HB9.out)) 12).trans rfl
      clear hZ hG
      refine hK.out _ _ (hHeld) (fun hHeld => ?_)
      clear hK K
      refine norm_ (a' := ?_) ?_ ?_
      rotate_left
      · show Act.put _ none _ = _
        simp only [Act.put]
        rfl
      refine done_ (by kernel_rfl) ?_
      clear hk12
      go_wp2_with fail
      generalize P.set m a3 = D at HXd HPD HDB HDL
      replace HI := Aside0.mk (HI.out.below HB9.out)
      have HCC := Aside0.mk (reads_own HXd.out HDL.out)
      have HCB := HDB
      have HSE := Aside0.mk (crc_Seal.calls (some ⟨gd, 0, none⟩) cd D)
      rw [HDL.out] at HSE
      have HSB := Aside0.mk (sealI_byte HDB.out)
      have HSL := Aside0.mk (show (sealI D).length < 140737488355000 by rw [sealI_len, HDL.out]; omega)
      generalize sealI D = S2 at HSE HSB HSL HPD
      clear e4 e10 ht1 ht2 e6 e11 e11w e12 e12w
      have HB6 := Aside0.mk (Below.refl v2.heap.size v2)
      have HI6 := HI
      refine start_ (n := 11) (S := fun w' => IsTab true w' g) (ds := []) #[false, false, false, false, false, false, false, false, false, false, false] (by kernel_rfl) rfl rfl (HI.out.drew1) (fun hHeld => ?_)
      refine pure_ (i := 2) (N := some 138) (v := ?_) (a' := ?_) #[false, false, true, false, false, false, false, false, false, false, false] rfl rfl (by kernel_rfl) (fun _ _ _ h => h) (Or.inl ⟨by rfl, ?_⟩) ?_ ?_
      rotate_left
      · intro w'
        go_simp
        with_reducible rfl
      rotate_left
      · simp only [Act.put, List.setIfInBounds_toArray, List.set_cons_zero, List.set_cons_succ, i64_w, i32_w]
        rfl
      refine take_ (i := 0) (N := some 136) (v := tabV true) #[true, false, true, false, false, false, false, false, false, false, false] rfl rfl (by kernel_rfl) (fun _ _ _ h => h) ?_ hHeld rfl ?_
      · exact yields_tab (by rfl) _ rfl _ rfl true (by intro w' s0; exact s0)
      refine norm_ (a' := ?_) ?_ ?_
      rotate_left
      · show Act.put _ (some 136) _ = _
        simp only [Act.put, List.setIfInBounds_toArray, List.set_cons_zero, List.set_cons_succ, i64_w, i32_w]
        rfl
      refine take_ (i := 1) (N := some 137) (v := tabV true) #[true, true, true, false, false, false, false, false, false, false, false] rfl rfl (by kernel_rfl) (fun _ _ _ h => h) ?_ hHeld rfl ?_
      · exact yields_tab (by rfl) _ rfl _ rfl true (by intro w' s0; exact s0)
      refine norm_ (a' := ?_) ?_ ?_
      rotate_left
      · show Act.put _ (some 137) _ = _
        simp only [Act.put, List.setIfInBounds_toArray, List.set_cons_zero, List.set_cons_succ, i64_w, i32_w]
        rfl
      refine join_ (σ := Option Addr × Nat × Option Addr × Nat × Nat) 2 #[true, true, true, true, true, true, true, true, true, false, false] (fun s_ => [(139, .slice s_.1 S2.length s_.2.1), (140, .tuple #[.agg (frame (decH S2) s_.2.2.1 (decD S2).length s_.2.2.2.1), .int .i64 (decE S2)]), (18, .pointer (some ⟨s_.2.2.2.2, 0, none⟩)), (135, .tuple #[.agg (frame (decH S2) s_.2.2.1 (decD S2).length s_.2.2.2.1), .int .i64 (decE S2)]), (141, .agg (frame (decH S2) s_.2.2.1 (decD S2).length s_.2.2.2.1)), (142, .int .i64 (decE S2))]) (fun s_ w' => IsTab true w' g ∧ (Below v2.heap.size v2 w' ∧ w'.heap[s_.2.2.2.2]? = some (.cells #[.int .u8 0, .int .u8 0, .int .u8 0, .int .u8 0, .int .u8 0, .int .u8 0, .int .u8 0, .int .u8 0, .int .u8 0, .int .u8 0, .int .u8 0, .int .u8 0, .slice none 0 0] 45 (0, 0)) ∧ v2.heap.size ≤ s_.2.2.2.2)) ?_ ?_
      rotate_left
      · intro hCont
        refine two_ (i := 3) (j := 8) (Ni := some 139) (Nj := some 18) #[true, true, true, true, false, false, false, false, false, false, false] #[true, true, true, false, false, false, false, false, true, false, false] rfl rfl rfl rfl (by kernel_rfl) (by decide) (by decide) (fun K hK => ?_) (fun K hK => ?_)
        · skip
          replace HI := Aside0.mk HI.out.drew1
          replace HB6 := Aside0.mk (below_drew1 HB6.out)
          refine goes_ Try.func26 (by kernel_rfl) rfl #[tabV true, .slice (some ⟨gd, 0, none⟩) n cd] (by rfl) rfl rfl (by go_simp) ?_
          refine (HSE.out _ (Kd.C_below HCC.out HB6.out) hcd HCB.out HSN15.out).mono ?_
          rintro e z_3 ⟨vx, rfl, hR, h2⟩
          refine ⟨_, rfl, ?_⟩
          obtain ⟨AX, cX, rfl, hcX, hCX⟩ := Kd.R_reads hR
          have HCX := Aside0.mk hCX
          have HcX := Aside0.mk hcX
          replace HI := Aside0.mk (HI.out.below h2)
          replace HB6 := Aside0.mk (below_step HB6.out h2)
          clear hR h2 hcX hCX
          refine hK.out _ _ (HI.out) (fun hHeld => ?_)
          clear hK K
          refine norm_ (a' := ?_) ?_ ?_
          rotate_left
          · show Act.put _ (some 139) _ = _
            simp only [Act.put, List.setIfInBounds_toArray, List.set_cons_zero, List.set_cons_succ, i64_w, i32_w]
            rfl
          refine two_ (i := 4) (j := 8) (Ni := some 140) (Nj := some 18) #[true, true, true, true, true, false, false, false, false, false, false] #[true, true, true, true, false, false, false, false, true, false, false] rfl rfl rfl rfl (by kernel_rfl) (by decide) (by decide) (fun K hK => ?_) (fun K hK => ?_)
          · skip
            refine goes_ Try.func34 (by kernel_rfl) rfl #[tabV true, .slice AX S2.length cX] (by rfl) rfl rfl (by go_simp) ?_
            refine (mac_Decode.calls AX cX S2 _ HCX.out HcX.out HSB.out HSL.out).mono ?_
            rintro e z_3_4 ⟨AD, cD, rfl, hcD, hCD, h2⟩
            refine ⟨_, rfl, ?_⟩
            replace HI := Aside0.mk (HI.out.below h2)
            replace HB6 := Aside0.mk (below_step HB6.out h2)
            clear hcD hCD h2
            refine hK.out _ _ (HI.out) (fun hHeld => ?_)
            clear hK K
            refine norm_ (a' := ?_) ?_ ?_
            rotate_left
            · show Act.put _ (some 140) _ = _
              simp only [Act.put, List.setIfInBounds_toArray, List.set_cons_zero, List.set_cons_succ, i64_w, i32_w]
              rfl
            refine pure_ (i := 5) (N := some 135) (v := ?_) (a' := ?_) #[true, true, true, true, true, true, false, false, false, false, false] rfl rfl (by kernel_rfl) (fun _ _ _ h => h) (Or.inl ⟨by rfl, ?_⟩) ?_ ?_
            rotate_left
            · intro w'
              go_simp
              with_reducible rfl
            rotate_left
            · simp only [Act.put, List.setIfInBounds_toArray, List.set_cons_zero, List.set_cons_succ, i64_w, i32_w]
              rfl
            refine pure_ (i := 6) (N := some 141) (v := ?_) (a' := ?_) #[true, true, true, true, true, true, true, false, false, false, false] rfl rfl (by kernel_rfl) (fun _ _ _ h => h) (Or.inl ⟨by rfl, ?_⟩) ?_ ?_
            rotate_left
            · intro w'
              go_simp
              with_reducible rfl
            rotate_left
            · simp only [Act.put, List.setIfInBounds_toArray, List.set_cons_zero, List.set_cons_succ, i64_w, i32_w]
              rfl
            refine pure_ (i := 7) (N := some 142) (v := ?_) (a' := ?_) #[true, true, true, true, true, true, true, true, false, false, false] rfl rfl (by kernel_rfl) (fun _ _ _ h => h) (Or.inl ⟨by rfl, ?_⟩) ?_ ?_
            rotate_left
            · intro w'
              go_simp
              with_reducible rfl
            rotate_left
            · simp only [Act.put, List.setIfInBounds_toArray, List.set_cons_zero, List.set_cons_succ, i64_w, i32_w]
              rfl
            refine one_ (i := 8) (N := some 18) #[true, true, true, true, true, true, true, true, true, false, false] rfl rfl (by kernel_rfl) (by decide) (fun K hK => ?_)
            refine value_ (w1 := z_3_4.alloc (.cells #[.int .u8 0, .int .u8 0, .int .u8 0, .int .u8 0, .int .u8 0, .int .u8 0, .int .u8 0, .int .u8 0, .int .u8 0, .int .u8 0, .int .u8 0, .int .u8 0, .slice none 0 0] 45 (0, 0))) (v := .pointer (some ⟨z_3_4.heap.size, 0, none⟩)) (by rfl) rfl ?_ ?_
            · first | (go_simp; done) | (go_simp; constructor <;> rfl) | (go_simp; rfl)
            have h1 := blk_new z_3_4 (.cells #[.int .u8 0, .int .u8 0, .int .u8 0, .int .u8 0, .int .u8 0, .int .u8 0, .int .u8 0, .int .u8 0, .int .u8 0, .int .u8 0, .int .u8 0, .int .u8 0, .slice none 0 0] 45 (0, 0))
            have h2 := below_alloc (Below.refl z_3_4.heap.size z_3_4) (.cells #[.int .u8 0, .int .u8 0, .int .u8 0, .int .u8 0, .int .u8 0, .int .u8 0, .int .u8 0, .int .u8 0, .int .u8 0, .int .u8 0, .int .u8 0, .int .u8 0, .slice none 0 0] 45 (0, 0))
            have HK6 := Aside0.mk (show v2.heap.size ≤ z_3_4.heap.size from HB6.out.size)
            generalize z_3_4.alloc (.cells #[.int .u8 0, .int .u8 0, .int .u8 0, .int .u8 0, .int .u8 0, .int .u8 0, .int .u8 0, .int .u8 0, .int .u8 0, .int .u8 0, .int .u8 0, .int .u8 0, .slice none 0 0] 45 (0, 0)) = z_3_4_8 at h1 h2 ⊢
            have HZ := Aside0.mk h1
            replace HI := Aside0.mk (HI.out.below h2)
            replace HB6 := Aside0.mk (below_step HB6.out h2)
            clear h1 h2
            refine hK.out _ _ (HI.out) (fun hHeld => ?_)
            clear hK K
            refine norm_ (a' := ?_) ?_ ?_
            rotate_left
            · show Act.put _ (some 18) _ = _
              simp only [Act.put, List.setIfInBounds_toArray, List.set_cons_zero, List.set_cons_succ, i64_w, i32_w]
              rfl
            exact norm_ (by simp only [putAll, Act.put, List.setIfInBounds_toArray, List.set_cons_zero, List.set_cons_succ]) (hCont (AX, cX, AD, cD, z_3_4.heap.size) _ ⟨HI.out, HB6.out, HZ.out, HK6.out⟩)
          · skip
            refine value_ (w1 := z_3.alloc (.cells #[.int .u8 0, .int .u8 0, .int .u8 0, .int .u8 0, .int .u8 0, .int .u8 0, .int .u8 0, .int .u8 0, .int .u8 0, .int .u8 0, .int .u8 0, .int .u8 0, .slice none 0 0] 45 (0, 0))) (v := .pointer (some ⟨z_3.heap.size, 0, none⟩)) (by rfl) rfl ?_ ?_
            · first | (go_simp; done) | (go_simp; constructor <;> rfl) | (go_simp; rfl)
            have h1 := blk_new z_3 (.cells #[.int .u8 0, .int .u8 0, .int .u8 0, .int .u8 0, .int .u8 0, .int .u8 0, .int .u8 0, .int .u8 0, .int .u8 0, .int .u8 0, .int .u8 0, .int .u8 0, .slice none 0 0] 45 (0, 0))
            have h2 := below_alloc (Below.refl z_3.heap.size z_3) (.cells #[.int .u8 0, .int .u8 0, .int .u8 0, .int .u8 0, .int .u8 0, .int .u8 0, .int .u8 0, .int .u8 0, .int .u8 0, .int .u8 0, .int .u8 0, .int .u8 0, .slice none 0 0] 45 (0, 0))
            have HK6 := Aside0.mk (show v2.heap.size ≤ z_3.heap.size from HB6.out.size)
            replace HCX := Aside0.mk (Kd.C_below HCX.out h2)
            generalize z_3.alloc (.cells #[.int .u8 0, .int .u8 0, .int .u8 0, .int .u8 0, .int .u8 0, .int .u8 0, .int .u8 0, .int .u8 0, .int .u8 0, .int .u8 0, .int .u8 0, .int .u8 0, .slice none 0 0] 45 (0, 0)) = z_3_8 at h1 h2 HCX ⊢
            have HZ := Aside0.mk h1
            replace HI := Aside0.mk (HI.out.below h2)
            replace HB6 := Aside0.mk (below_step HB6.out h2)
            clear h1 h2
            refine hK.out _ _ (HI.out) (fun hHeld => ?_)
            clear hK K
            refine norm_ (a' := ?_) ?_ ?_
            rotate_left
            · show Act.put _ (some 18) _ = _
              simp only [Act.put, List.setIfInBounds_toArray, List.set_cons_zero, List.set_cons_succ, i64_w, i32_w]
              rfl
            refine one_ (i := 4) (N := some 140) #[true, true, true, true, true, false, false, false, true, false, false] rfl rfl (by kernel_rfl) (by decide) (fun K hK => ?_)
            refine goes_ Try.func34 (by kernel_rfl) rfl #[tabV true, .slice AX S2.length cX] (by rfl) rfl rfl (by go_simp) ?_
            refine (mac_Decode.calls AX cX S2 _ HCX.out HcX.out HSB.out HSL.out).mono ?_
            rintro e z_3_8_4 ⟨AD, cD, rfl, hcD, hCD, h2⟩
            refine ⟨_, rfl, ?_⟩
            replace HI := Aside0.mk (HI.out.below h2)
            replace HB6 := Aside0.mk (below_step HB6.out h2)
            replace HZ := Aside0.mk (blk_below HZ.out h2)
            clear hcD hCD h2
            refine hK.out _ _ (HI.out) (fun hHeld => ?_)
            clear hK K
            refine norm_ (a' := ?_) ?_ ?_
            rotate_left
            · show Act.put _ (some 140) _ = _
              simp only [Act.put, List.setIfInBounds_toArray, List.set_cons_zero, List.set_cons_succ, i64_w, i32_w]
              rfl
            refine pure_ (i := 5) (N := some 135) (v := ?_) (a' := ?_) #[true, true, true, true, true, true, false, false, true, false, false] rfl rfl (by kernel_rfl) (fun _ _ _ h => h) (Or.inl ⟨by rfl, ?_⟩) ?_ ?_
            rotate_left
            · intro w'
              go_simp
              with_reducible rfl
            rotate_left
            · simp only [Act.put, List.setIfInBounds_toArray, List.set_cons_zero, List.set_cons_succ, i64_w, i32_w]
              rfl
            refine pure_ (i := 6) (N := some 141) (v := ?_) (a' := ?_) #[true, true, true, true, true, true, true, false, true, false, false] rfl rfl (by kernel_rfl) (fun _ _ _ h => h) (Or.inl ⟨by rfl, ?_⟩) ?_ ?_
            rotate_left
            · intro w'
              go_simp
              with_reducible rfl
            rotate_left
            · simp only [Act.put, List.setIfInBounds_toArray, List.set_cons_zero, List.set_cons_succ, i64_w, i32_w]
              rfl
            refine pure_ (i := 7) (N := some 142) (v := ?_) (a' := ?_) #[true, true, true, true, true, true, true, true, true, false, false] rfl rfl (by kernel_rfl) (fun _ _ _ h => h) (Or.inl ⟨by rfl, ?_⟩) ?_ ?_
            rotate_left
            · intro w'
              go_simp
              with_reducible rfl
            rotate_left
            · simp only [Act.put, List.setIfInBounds_toArray, List.set_cons_zero, List.set_cons_succ, i64_w, i32_w]
              rfl
            exact norm_ (by simp only [putAll, Act.put, List.setIfInBounds_toArray, List.set_cons_zero, List.set_cons_succ]) (hCont (AX, cX, AD, cD, z_3.heap.size) _ ⟨HI.out, HB6.out, HZ.out, HK6.out⟩)
        · skip
          replace HI := Aside0.mk HI.out.drew1
          replace HB6 := Aside0.mk (below_drew1 HB6.out)
          refine value_ (w1 := v2.drew.alloc (.cells #[.int .u8 0, .int .u8 0, .int .u8 0, .int .u8 0, .int .u8 0, .int .u8 0, .int .u8 0, .int .u8 0, .int .u8 0, .int .u8 0, .int .u8 0, .int .u8 0, .slice none 0 0] 45 (0, 0))) (v := .pointer (some ⟨v2.drew.heap.size, 0, none⟩)) (by rfl) rfl ?_ ?_
          · first | (go_simp; done) | (go_simp; constructor <;> rfl) | (go_simp; rfl)
          have h1 := blk_new v2.drew (.cells #[.int .u8 0, .int .u8 0, .int .u8 0, .int .u8 0, .int .u8 0, .int .u8 0, .int .u8 0, .int .u8 0, .int .u8 0, .int .u8 0, .int .u8 0, .int .u8 0, .slice none 0 0] 45 (0, 0))
          have h2 := below_alloc (Below.refl v2.drew.heap.size v2.drew) (.cells #[.int .u8 0, .int .u8 0, .int .u8 0, .int .u8 0, .int .u8 0, .int .u8 0, .int .u8 0, .int .u8 0, .int .u8 0, .int .u8 0, .int .u8 0, .int .u8 0, .slice none 0 0] 45 (0, 0))
          have HK6 := Aside0.mk (show v2.heap.size ≤ v2.drew.heap.size from HB6.out.size)
          generalize v2.drew.alloc (.cells #[.int .u8 0, .int .u8 0, .int .u8 0, .int .u8 0, .int .u8 0, .int .u8 0, .int .u8 0, .int .u8 0, .int .u8 0, .int .u8 0, .int .u8 0, .int .u8 0, .slice none 0 0] 45 (0, 0)) = z_8 at h1 h2 ⊢
          have HZ := Aside0.mk h1
          replace HI := Aside0.mk (HI.out.below h2)
          replace HB6 := Aside0.mk (below_step HB6.out h2)
          clear h1 h2
          refine hK.out _ _ (HI.out) (fun hHeld => ?_)
          clear hK K
          refine norm_ (a' := ?_) ?_ ?_
          rotate_left
          · show Act.put _ (some 18) _ = _
            simp only [Act.put, List.setIfInBounds_toArray, List.set_cons_zero, List.set_cons_succ, i64_w, i32_w]
            rfl
          refine one_ (i := 3) (N := some 139) #[true, true, true, true, false, false, false, false, true, false, false] rfl rfl (by kernel_rfl) (by decide) (fun K hK => ?_)
          refine goes_ Try.func26 (by kernel_rfl) rfl #[tabV true, .slice (some ⟨gd, 0, none⟩) n cd] (by rfl) rfl rfl (by go_simp) ?_
          refine (HSE.out _ (Kd.C_below HCC.out HB6.out) hcd HCB.out HSN15.out).mono ?_
          rintro e z_8_3 ⟨vx, rfl, hR, h2⟩
          refine ⟨_, rfl, ?_⟩
          obtain ⟨AX, cX, rfl, hcX, hCX⟩ := Kd.R_reads hR
          have HCX := Aside0.mk hCX
          have HcX := Aside0.mk hcX
          replace HI := Aside0.mk (HI.out.below h2)
          replace HB6 := Aside0.mk (below_step HB6.out h2)
          replace HZ := Aside0.mk (blk_below HZ.out h2)
          clear hR h2 hcX hCX
          refine hK.out _ _ (HI.out) (fun hHeld => ?_)
          clear hK K
          refine norm_ (a' := ?_) ?_ ?_
          rotate_left
          · show Act.put _ (some 139) _ = _
            simp only [Act.put, List.setIfInBounds_toArray, List.set_cons_zero, List.set_cons_succ, i64_w, i32_w]
            rfl
          refine one_ (i := 4) (N := some 140) #[true, true, true, true, true, false, false, false, true, false, false] rfl rfl (by kernel_rfl) (by decide) (fun K hK => ?_)
          refine goes_ Try.func34 (by kernel_rfl) rfl #[tabV true, .slice AX S2.length cX] (by rfl) rfl rfl (by go_simp) ?_
          refine (mac_Decode.calls AX cX S2 _ HCX.out HcX.out HSB.out HSL.out).mono ?_
          rintro e z_8_3_4 ⟨AD, cD, rfl, hcD, hCD, h2⟩
          refine ⟨_, rfl, ?_⟩
          replace HI := Aside0.mk (HI.out.below h2)
          replace HB6 := Aside0.mk (below_step HB6.out h2)
          replace HZ := Aside0.mk (blk_below HZ.out h2)
          clear hcD hCD h2
          refine hK.out _ _ (HI.out) (fun hHeld => ?_)
          clear hK K
          refine norm_ (a' := ?_) ?_ ?_
          rotate_left
          · show Act.put _ (some 140) _ = _
            simp only [Act.put, List.setIfInBounds_toArray, List.set_cons_zero, List.set_cons_succ, i64_w, i32_w]
            rfl
          refine pure_ (i := 5) (N := some 135) (v := ?_) (a' := ?_) #[true, true, true, true, true, true, false, false, true, false, false] rfl rfl (by kernel_rfl) (fun _ _ _ h => h) (Or.inl ⟨by rfl, ?_⟩) ?_ ?_
          rotate_left
          · intro w'
            go_simp
            with_reducible rfl
          rotate_left
          · simp only [Act.put, List.setIfInBounds_toArray, List.set_cons_zero, List.set_cons_succ, i64_w, i32_w]
            rfl
          refine pure_ (i := 6) (N := some 141) (v := ?_) (a' := ?_) #[true, true, true, true, true, true, true, false, true, false, false] rfl rfl (by kernel_rfl) (fun _ _ _ h => h) (Or.inl ⟨by rfl, ?_⟩) ?_ ?_
          rotate_left
          · intro w'
            go_simp
            with_reducible rfl
          rotate_left
          · simp only [Act.put, List.setIfInBounds_toArray, List.set_cons_zero, List.set_cons_succ, i64_w, i32_w]
            rfl
          refine pure_ (i := 7) (N := some 142) (v := ?_) (a' := ?_) #[true, true, true, true, true, true, true, true, true, false, false] rfl rfl (by kernel_rfl) (fun _ _ _ h => h) (Or.inl ⟨by rfl, ?_⟩) ?_ ?_
          rotate_left
          · intro w'
            go_simp
            with_reducible rfl
          rotate_left
          · simp only [Act.put, List.setIfInBounds_toArray, List.set_cons_zero, List.set_cons_succ, i64_w, i32_w]
            rfl
          exact norm_ (by simp only [putAll, Act.put, List.setIfInBounds_toArray, List.set_cons_zero, List.set_cons_succ]) (hCont (AX, cX, AD, cD, v2.drew.heap.size) _ ⟨HI.out, HB6.out, HZ.out, HK6.out⟩)
      rintro ⟨AX, cX, AD, cD, k_⟩ v90 ⟨hI_, hB_, hZ_, hK_⟩
      clear HI HB6
      have HI := Aside0.mk hI_
      have HB6 := Aside0.mk hB_
      have HZ := Aside0.mk hZ_
      have HKK := Aside0.mk hK_
      have hHeld : IsTab true v90 g := hI_
      clear hI_ hB_ hZ_ hK_
      refine norm_ (a' := ?_) ?_ ?_
      rotate_left
      · simp only [putAll, Act.put, List.setIfInBounds_toArray, List.set_cons_zero, List.set_cons_succ]
        rfl
      have hS := below_setRow HB6.out HKK.out (frame (decH S2) AD (decD S2).length cD)
      refine one_store_row_ (i := 9) (N := none) (oi := { dst := none, op := Go.Op.store 45 (Go.Operand.tmp 18) (Go.Operand.tmp 141), type := 0, pos := "law.go:192", after := #[{ on := 8, ground := Go.Ground.data }, { on := 6, ground := Go.Ground.data }, { on := 4, ground := Go.Ground.chain }, { on := 0, ground := Go.Ground.phase }, { on := 1, ground := Go.Ground.phase }, { on := 2, ground := Go.Ground.phase }, { on := 3, ground := Go.Ground.phase }, { on := 4, ground := Go.Ground.phase }, { on := 5, ground := Go.Ground.phase }, { on := 6, ground := Go.Ground.phase }, { on := 7, ground := Go.Ground.textOnly Go.Departure.lateStores }, { on := 8, ground := Go.Ground.phase }], guard := none }) #[true, true, true, true, true, true, true, true, true, true, false] (by kernel_rfl) rfl (by kernel_rfl) (by decide) (by kernel_rfl) 45 (.tmp 18) (.tmp 141) rfl k_ (frame (decH S2) AD (decD S2).length cD) (by simp [Act.eval]) (by simp [Act.eval]) 45 #[.int .u8 0, .int .u8 0, .int .u8 0, .int .u8 0, .int .u8 0, .int .u8 0, .int .u8 0, .int .u8 0, .int .u8 0, .int .u8 0, .int .u8 0, .int .u8 0, .slice none 0 0] HZ.out info45_ rfl (frame_one _ _ _ _) (HI6.out.below hS) ?_
      generalize v90.setRow k_ (frame (decH S2) AD (decD S2).length cD) = v9 at hS ⊢
      replace HI := Aside0.mk (HI6.out.below hS)
      have HS9 := Aside0.mk hS
      have hHeld : IsTab true v9 g := HI.out
      clear hS HB6 HZ HI6
      refine norm_ (a' := ?_) ?_ ?_
      rotate_left
      · show Act.put _ none _ = _
        simp only [Act.put]
        rfl
      refine pure_ (i := 10) (N := some 19) (v := ?_) (a' := ?_) #[true, true, true, true, true, true, true, true, true, true, true] rfl rfl (by kernel_rfl) (fun _ _ _ h => h) (Or.inl ⟨by rfl, ?_⟩) ?_ ?_
      rotate_left
      · intro w'
        go_simp
        with_reducible rfl
      rotate_left
      · simp only [Act.put, List.setIfInBounds_toArray, List.set_cons_zero, List.set_cons_succ, i64_w, i32_w]
        rfl
      refine done_ (by kernel_rfl) ?_
      have he2 := HPD.out
      go_wp2_with fail
      refine (awake3_calls _).mono ?_
      rintro e vz ⟨rfl, hB⟩
      go_wp2_with fail
      go_ret
      exact ⟨rfl, below_step (below_step (below_step (below_step HB.out HBc.out) HB9.out) HS9.out) hB⟩
    have e15 : decide ((u : Int) ≤ 1500) = true := decide_eq_true (by omega)
    by_cases hmn : 14 + mu = n
    case neg =>
      have emn : (14 + (mu : Int) == (n : Int)) = false := beq_eq_false_iff_ne.2 (by omega)
      have he : decE S = 4 := (HDC.out false ⟨fun h => absurd h (by decide), fun h => absurd (HMU.out ▸ h.1.2) hmn⟩).trans rfl
      clear hmn HDC HSEL
      go_wp2_with fail
      refine wp_loop_rounds 1 ?_
      rw [rounds_succ]
      go_wp2_with fail
      refine (HCP.out _ (Kd.C_below HCT.out HBc.out) hnc HCF.out).mono ?_
      rintro e v1 ⟨vd, rfl, hR, hB⟩
      obtain ⟨Ad, cd, rfl⟩ := Kd.R_slice hR
      obtain ⟨gd, rfl⟩ := R_some_ hR (by have := HPL.out; omega)
      rw [HPL.out] at hR ⊢
      have HXd := Aside0.mk hR
      have HB9 := Aside0.mk hB
      have HGD := Aside0.mk (R_base_ hR)
      have hcd : n ≤ cd := by obtain ⟨_, _, he, hc, _⟩ := Kd.R_reads hR; injection he with e1 e2 e3; rw [HPL.out] at hc; omega
      have hk12 := (show v1.cell? ⟨gf, 12, none⟩ = some (.slice A0_12 l0_12.length c0_12) from (blk_cell (blk_below HF.out (below_step HBc.out hB)) 12).trans rfl)
      clear hR hB
      by_cases h46 : 46 ≤ l0_12.length
      case pos =>
        have d46 : decide ((46 : Int) ≤ (l0_12.length : Int)) = true := decide_eq_true (by omega)
        clear h46
        go_wp2_with fail
        refine (awake3_calls _).mono ?_
        rintro e vz ⟨rfl, hB⟩
        go_wp2_with fail
        go_ret
        exact ⟨rfl, below_step (below_step (below_step HB.out HBc.out) HB9.out) hB⟩
      have d46 : decide ((46 : Int) ≤ (l0_12.length : Int)) = false := decide_eq_false (by omega)
      by_cases hx0 : a3 = 0
      case pos =>
        have bx : (a3 == 0) = true := beq_iff_eq.2 hx0
        clear hx0 h46
        go_wp2_with fail
        refine (awake3_calls _).mono ?_
        rintro e vz ⟨rfl, hB⟩
        go_wp2_with fail
        go_ret
        exact ⟨rfl, below_step (below_step (below_step HB.out HBc.out) HB9.out) hB⟩
      have bx : (a3 == 0) = false := beq_eq_false_iff_ne.2 hx0
      go_wp2_with fail
      obtain ⟨t, ht⟩ : ∃ t : Nat, 46 - l0_12.length = t := ⟨_, rfl⟩
      have ht0 : 0 < t := pos46 ht h46
      obtain ⟨r, hr⟩ : ∃ r : Nat, q % t = r := ⟨_, rfl⟩
      have hrt : r < t := by rw [← hr]; exact Nat.mod_lt _ ht0
      obtain ⟨m0, hm0'⟩ : ∃ m0 : Nat, 14 + l0_12.length = m0 := ⟨_, rfl⟩
      obtain ⟨m, hm⟩ : ∃ m : Nat, m0 + r = m := ⟨_, rfl⟩
      have hmn : m < n := idx_lt HSN.out ht hrt hm0' hm
      have HPD := Aside0.mk (show decE (sealI (P.set m a3)) = 4 by rw [← hm, ← hm0']; exact pad_dec HEF.out HSN.out.symm (lt46 ht hrt) hx0)
      have hn9 : n ≤ 9223372036854775807 := le9 hn15
      have e4 : wrap64 (14 + (l0_12.length : Int)) = (m0 : Int) := w64_14 hm0' HL.out
      have e10 : wrap64 (46 - (l0_12.length : Int)) = (t : Int) := w64_46 ht ht0
      have ht2 : ¬ (t = 0) := ne_of_pos_ ht0
      have ht1 : ¬ ((t : Int) = 0) := nez_ ht0
      have e6 : wrap64 (q : Int) = (q : Int) := w64q hq65
      have HTM := Aside0.mk (show (q : Int).tmod (t : Int) = (r : Int) by rw [← hr]; rfl)
      have e11 : (q : Int).tmod (t : Int) = (r : Int) := by rw [← hr]; rfl
      have e11w : wrap64 (r : Int) = (r : Int) := w64r ht hrt
      have e12 : (m0 : Int) + (r : Int) = (m : Int) := by rw [← hm]; rfl
      have e12w : wrap64 (m : Int) = (m : Int) := w64n hmn hn9
      have HMN2 := Aside0.mk hmn
      have HDB := Aside0.mk (show byteRow (P.set m a3) from byteRow_set HPB.out HU3.out)
      have HDL := Aside0.mk (show (P.set m a3).length = n by rw [List.length_set]; exact HPL.out)
      clear h46 hx0 ht hr hm0' hm ht0 hrt
      refine start_ (n := 16) (S := fun w' => w'.cell? ⟨gf, 12, none⟩ = some (.slice A0_12 l0_12.length c0_12)) (ds := []) #[false, false, false, false, false, false, false, false, false, false, false, false, false, false, false, false] (by kernel_rfl) rfl rfl (hk12) (fun hHeld => ?_)
      refine pure_ (i := 0) (N := some 120) (v := ?_) (a' := ?_) #[true, false, false, false, false, false, false, false, false, false, false, false, false, false, false, false] rfl rfl (by kernel_rfl) (fun _ _ _ h => h) (Or.inl ⟨by rfl, ?_⟩) ?_ ?_
      rotate_left
      · intro w'
        go_simp
        with_reducible rfl
      rotate_left
      · simp only [Act.put, List.setIfInBounds_toArray, List.set_cons_zero, List.set_cons_succ, i64_w, i32_w]
        rfl
      refine pure_ (i := 1) (N := some 121) (v := ?_) (a' := ?_) #[true, true, false, false, false, false, false, false, false, false, false, false, false, false, false, false] rfl rfl (by kernel_rfl) (fun _ _ _ h => h) (Or.inl ⟨by rfl, ?_⟩) ?_ ?_
      rotate_left
      · intro w'
        go_simp
        with_reducible rfl
      rotate_left
      · simp only [Act.put, List.setIfInBounds_toArray, List.set_cons_zero, List.set_cons_succ, i64_w, i32_w]
        rfl
      refine pure_ (i := 5) (N := some 125) (v := ?_) (a' := ?_) #[true, true, false, false, false, true, false, false, false, false, false, false, false, false, false, false] rfl rfl (by kernel_rfl) (fun _ _ _ h => h) (Or.inl ⟨by rfl, ?_⟩) ?_ ?_
      rotate_left
      · intro w'
        go_simp
        with_reducible rfl
      rotate_left
      · simp only [Act.put, List.setIfInBounds_toArray, List.set_cons_zero, List.set_cons_succ, i64_w, i32_w]
        rfl
      refine pure_ (i := 6) (N := some 126) (v := ?_) (a' := ?_) #[true, true, false, false, false, true, true, false, false, false, false, false, false, false, false, false] rfl rfl (by kernel_rfl) (fun _ _ _ h => h) (Or.inl ⟨by rfl, ?_⟩) ?_ ?_
      rotate_left
      · intro w'
        go_simp
        with_reducible rfl
      rotate_left
      · simp only [Act.put, List.setIfInBounds_toArray, List.set_cons_zero, List.set_cons_succ, i64_w, i32_w]
        rfl
      refine pure_ (i := 7) (N := some 127) (v := ?_) (a' := ?_) #[true, true, false, false, false, true, true, true, false, false, false, false, false, false, false, false] rfl rfl (by kernel_rfl) (fun _ _ _ h => h) (Or.inl ⟨by rfl, ?_⟩) ?_ ?_
      rotate_left
      · intro w'
        go_simp
        with_reducible rfl
      rotate_left
      · simp only [Act.put, List.setIfInBounds_toArray, List.set_cons_zero, List.set_cons_succ, i64_w, i32_w]
        rfl
      refine pure_ (i := 13) (N := some 133) (v := ?_) (a' := ?_) #[true, true, false, false, false, true, true, true, false, false, false, false, false, true, false, false] rfl rfl (by kernel_rfl) (fun _ _ _ h => h) (Or.inl ⟨by rfl, ?_⟩) ?_ ?_
      rotate_left
      · intro w'
        go_simp
        with_reducible rfl
      rotate_left
      · simp only [Act.put, List.setIfInBounds_toArray, List.set_cons_zero, List.set_cons_succ, i64_w, i32_w]
        rfl
      refine take_ (i := 2) (N := some 122) (v := ?_) (a' := ?_) #[true, true, true, false, false, true, true, true, false, false, false, false, false, true, false, false] rfl rfl (by kernel_rfl) (fun _ _ _ h => h) (Or.inl ⟨by rfl, ?_⟩) hHeld ?_ ?_
      rotate_left
      · intro w' s0
        go_simp
        with_reducible rfl
      rotate_left
      · simp only [Act.put, List.setIfInBounds_toArray, List.set_cons_zero, List.set_cons_succ, i64_w, i32_w]
        rfl
      refine pure_ (i := 3) (N := some 123) (v := ?_) (a' := ?_) #[true, true, true, true, false, true, true, true, false, false, false, false, false, true, false, false] rfl rfl (by kernel_rfl) (fun _ _ _ h => h) (Or.inl ⟨by rfl, ?_⟩) ?_ ?_
      rotate_left
      · intro w'
        go_simp
        with_reducible rfl
      rotate_left
      · simp only [Act.put, List.setIfInBounds_toArray, List.set_cons_zero, List.set_cons_succ, i64_w, i32_w]
        rfl
      refine pure_ (i := 4) (N := some 124) (v := ?_) (a' := ?_) #[true, true, true, true, true, true, true, true, false, false, false, false, false, true, false, false] rfl rfl (by kernel_rfl) (fun _ _ _ h => h) (Or.inl ⟨by rfl, ?_⟩) ?_ ?_
      rotate_left
      · intro w'
        go_simp
        with_reducible rfl
      rotate_left
      · simp only [Act.put, List.setIfInBounds_toArray, List.set_cons_zero, List.set_cons_succ, i64_w, i32_w]
        rfl
      refine take_ (i := 8) (N := some 128) (v := ?_) (a' := ?_) #[true, true, true, true, true, true, true, true, true, false, false, false, false, true, false, false] rfl rfl (by kernel_rfl) (fun _ _ _ h => h) (Or.inl ⟨by rfl, ?_⟩) hHeld ?_ ?_
      rotate_left
      · intro w' s0
        go_simp
        with_reducible rfl
      rotate_left
      · simp only [Act.put, List.setIfInBounds_toArray, List.set_cons_zero, List.set_cons_succ, i64_w, i32_w]
        rfl
      refine pure_ (i := 9) (N := some 129) (v := ?_) (a' := ?_) #[true, true, true, true, true, true, true, true, true, true, false, false, false, true, false, false] rfl rfl (by kernel_rfl) (fun _ _ _ h => h) (Or.inl ⟨by rfl, ?_⟩) ?_ ?_
      rotate_left
      · intro w'
        go_simp
        with_reducible rfl
      rotate_left
      · simp only [Act.put, List.setIfInBounds_toArray, List.set_cons_zero, List.set_cons_succ, i64_w, i32_w]
        rfl
      refine pure_ (i := 10) (N := some 130) (v := ?_) (a' := ?_) #[true, true, true, true, true, true, true, true, true, true, true, false, false, true, false, false] rfl rfl (by kernel_rfl) (fun _ _ _ h => h) (Or.inl ⟨by rfl, ?_⟩) ?_ ?_
      rotate_left
      · intro w'
        go_simp
        with_reducible rfl
      rotate_left
      · simp only [Act.put, List.setIfInBounds_toArray, List.set_cons_zero, List.set_cons_succ, i64_w, i32_w]
        rfl
      refine pure_ (i := 11) (N := some 131) (v := ?_) (a' := ?_) #[true, true, true, true, true, true, true, true, true, true, true, true, false, true, false, false] rfl rfl (by kernel_rfl) (fun _ _ _ h => h) (Or.inl ⟨by rfl, ?_⟩) ?_ ?_
      rotate_left
      · intro w'
        go_simp
        with_reducible rfl
      rotate_left
      · simp only [Act.put, List.setIfInBounds_toArray, List.set_cons_zero, List.set_cons_succ, i64_w, i32_w]
        rfl
      refine pure_ (i := 12) (N := some 132) (v := ?_) (a' := ?_) #[true, true, true, true, true, true, true, true, true, true, true, true, true, true, false, false] rfl rfl (by kernel_rfl) (fun _ _ _ h => h) (Or.inl ⟨by rfl, ?_⟩) ?_ ?_
      rotate_left
      · intro w'
        go_simp
        with_reducible rfl
      rotate_left
      · simp only [Act.put, List.setIfInBounds_toArray, List.set_cons_zero, List.set_cons_succ, i64_w, i32_w]
        rfl
      refine pure_ (i := 14) (N := some 134) (v := ?_) (a' := ?_) #[true, true, true, true, true, true, true, true, true, true, true, true, true, true, true, false] rfl rfl (by kernel_rfl) (fun _ _ _ h => h) (Or.inl ⟨by rfl, ?_⟩) ?_ ?_
      rotate_left
      · intro w'
        go_simp
        with_reducible rfl
      rotate_left
      · simp only [Act.put, List.setIfInBounds_toArray, List.set_cons_zero, List.set_cons_succ, i64_w, i32_w]
        rfl
      refine one_ (i := 15) (N := none) #[true, true, true, true, true, true, true, true, true, true, true, true, true, true, true, true] rfl rfl (by kernel_rfl) (by decide) (fun K hK => ?_)
      refine if_pos_ (by rfl) ?_
      refine wp_store_R (.tmp 134) (.tmp 133) rfl gd m a3 (Kd.R_below HXd.out (below_drew1 (Below.refl v1.heap.size v1))) rfl rfl HMN2.out info5_ ?_
      intro v2 hZ hG
      replace HXd := Aside0.mk hZ
      replace HB9 := Aside0.mk (below_own (below_drew1 HB9.out) hG HGD.out)
      have hHeld : v2.cell? ⟨gf, 12, none⟩ = some (.slice A0_12 l0_12.length c0_12) := (blk_cell (blk_below HF.out (below_step HBc.out HB9.out)) 12).trans rfl
      clear hZ hG
      refine hK.out _ _ (hHeld) (fun hHeld => ?_)
      clear hK K
      refine norm_ (a' := ?_) ?_ ?_
      rotate_left
      · show Act.put _ none _ = _
        simp only [Act.put]
        rfl
      refine done_ (by kernel_rfl) ?_
      clear hk12
      go_wp2_with fail
      generalize P.set m a3 = D at HXd HPD HDB HDL
      replace HI := Aside0.mk (HI.out.below HB9.out)
      have HCC := Aside0.mk (reads_own HXd.out HDL.out)
      have HCB := HDB
      have HSE := Aside0.mk (crc_Seal.calls (some ⟨gd, 0, none⟩) cd D)
      rw [HDL.out] at HSE
      have HSB := Aside0.mk (sealI_byte HDB.out)
      have HSL := Aside0.mk (show (sealI D).length < 140737488355000 by rw [sealI_len, HDL.out]; omega)
      generalize sealI D = S2 at HSE HSB HSL HPD
      clear e4 e10 ht1 ht2 e6 e11 e11w e12 e12w
      have HB6 := Aside0.mk (Below.refl v2.heap.size v2)
      have HI6 := HI
      refine start_ (n := 11) (S := fun w' => IsTab true w' g) (ds := []) #[false, false, false, false, false, false, false, false, false, false, false] (by kernel_rfl) rfl rfl (HI.out.drew1) (fun hHeld => ?_)
      refine pure_ (i := 2) (N := some 138) (v := ?_) (a' := ?_) #[false, false, true, false, false, false, false, false, false, false, false] rfl rfl (by kernel_rfl) (fun _ _ _ h => h) (Or.inl ⟨by rfl, ?_⟩) ?_ ?_
      rotate_left
      · intro w'
        go_simp
        with_reducible rfl
      rotate_left
      · simp only [Act.put, List.setIfInBounds_toArray, List.set_cons_zero, List.set_cons_succ, i64_w, i32_w]
        rfl
      refine take_ (i := 0) (N := some 136) (v := tabV true) #[true, false, true, false, false, false, false, false, false, false, false] rfl rfl (by kernel_rfl) (fun _ _ _ h => h) ?_ hHeld rfl ?_
      · exact yields_tab (by rfl) _ rfl _ rfl true (by intro w' s0; exact s0)
      refine norm_ (a' := ?_) ?_ ?_
      rotate_left
      · show Act.put _ (some 136) _ = _
        simp only [Act.put, List.setIfInBounds_toArray, List.set_cons_zero, List.set_cons_succ, i64_w, i32_w]
        rfl
      refine take_ (i := 1) (N := some 137) (v := tabV true) #[true, true, true, false, false, false, false, false, false, false, false] rfl rfl (by kernel_rfl) (fun _ _ _ h => h) ?_ hHeld rfl ?_
      · exact yields_tab (by rfl) _ rfl _ rfl true (by intro w' s0; exact s0)
      refine norm_ (a' := ?_) ?_ ?_
      rotate_left
      · show Act.put _ (some 137) _ = _
        simp only [Act.put, List.setIfInBounds_toArray, List.set_cons_zero, List.set_cons_succ, i64_w, i32_w]
        rfl
      refine join_ (σ := Option Addr × Nat × Option Addr × Nat × Nat) 2 #[true, true, true, true, true, true, true, true, true, false, false] (fun s_ => [(139, .slice s_.1 S2.length s_.2.1), (140, .tuple #[.agg (frame (decH S2) s_.2.2.1 (decD S2).length s_.2.2.2.1), .int .i64 (decE S2)]), (18, .pointer (some ⟨s_.2.2.2.2, 0, none⟩)), (135, .tuple #[.agg (frame (decH S2) s_.2.2.1 (decD S2).length s_.2.2.2.1), .int .i64 (decE S2)]), (141, .agg (frame (decH S2) s_.2.2.1 (decD S2).length s_.2.2.2.1)), (142, .int .i64 (decE S2))]) (fun s_ w' => IsTab true w' g ∧ (Below v2.heap.size v2 w' ∧ w'.heap[s_.2.2.2.2]? = some (.cells #[.int .u8 0, .int .u8 0, .int .u8 0, .int .u8 0, .int .u8 0, .int .u8 0, .int .u8 0, .int .u8 0, .int .u8 0, .int .u8 0, .int .u8 0, .int .u8 0, .slice none 0 0] 45 (0, 0)) ∧ v2.heap.size ≤ s_.2.2.2.2)) ?_ ?_
      rotate_left
      · intro hCont
        refine two_ (i := 3) (j := 8) (Ni := some 139) (Nj := some 18) #[true, true, true, true, false, false, false, false, false, false, false] #[true, true, true, false, false, false, false, false, true, false, false] rfl rfl rfl rfl (by kernel_rfl) (by decide) (by decide) (fun K hK => ?_) (fun K hK => ?_)
        · skip
          replace HI := Aside0.mk HI.out.drew1
          replace HB6 := Aside0.mk (below_drew1 HB6.out)
          refine goes_ Try.func26 (by kernel_rfl) rfl #[tabV true, .slice (some ⟨gd, 0, none⟩) n cd] (by rfl) rfl rfl (by go_simp) ?_
          refine (HSE.out _ (Kd.C_below HCC.out HB6.out) hcd HCB.out HSN15.out).mono ?_
          rintro e z_3 ⟨vx, rfl, hR, h2⟩
          refine ⟨_, rfl, ?_⟩
          obtain ⟨AX, cX, rfl, hcX, hCX⟩ := Kd.R_reads hR
          have HCX := Aside0.mk hCX
          have HcX := Aside0.mk hcX
          replace HI := Aside0.mk (HI.out.below h2)
          replace HB6 := Aside0.mk (below_step HB6.out h2)
          clear hR h2 hcX hCX
          refine hK.out _ _ (HI.out) (fun hHeld => ?_)
          clear hK K
          refine norm_ (a' := ?_) ?_ ?_
          rotate_left
          · show Act.put _ (some 139) _ = _
            simp only [Act.put, List.setIfInBounds_toArray, List.set_cons_zero, List.set_cons_succ, i64_w, i32_w]
            rfl
          refine two_ (i := 4) (j := 8) (Ni := some 140) (Nj := some 18) #[true, true, true, true, true, false, false, false, false, false, false] #[true, true, true, true, false, false, false, false, true, false, false] rfl rfl rfl rfl (by kernel_rfl) (by decide) (by decide) (fun K hK => ?_) (fun K hK => ?_)
          · skip
            refine goes_ Try.func34 (by kernel_rfl) rfl #[tabV true, .slice AX S2.length cX] (by rfl) rfl rfl (by go_simp) ?_
            refine (mac_Decode.calls AX cX S2 _ HCX.out HcX.out HSB.out HSL.out).mono ?_
            rintro e z_3_4 ⟨AD, cD, rfl, hcD, hCD, h2⟩
            refine ⟨_, rfl, ?_⟩
            replace HI := Aside0.mk (HI.out.below h2)
            replace HB6 := Aside0.mk (below_step HB6.out h2)
            clear hcD hCD h2
            refine hK.out _ _ (HI.out) (fun hHeld => ?_)
            clear hK K
            refine norm_ (a' := ?_) ?_ ?_
            rotate_left
            · show Act.put _ (some 140) _ = _
              simp only [Act.put, List.setIfInBounds_toArray, List.set_cons_zero, List.set_cons_succ, i64_w, i32_w]
              rfl
            refine pure_ (i := 5) (N := some 135) (v := ?_) (a' := ?_) #[true, true, true, true, true, true, false, false, false, false, false] rfl rfl (by kernel_rfl) (fun _ _ _ h => h) (Or.inl ⟨by rfl, ?_⟩) ?_ ?_
            rotate_left
            · intro w'
              go_simp
              with_reducible rfl
            rotate_left
            · simp only [Act.put, List.setIfInBounds_toArray, List.set_cons_zero, List.set_cons_succ, i64_w, i32_w]
              rfl
            refine pure_ (i := 6) (N := some 141) (v := ?_) (a' := ?_) #[true, true, true, true, true, true, true, false, false, false, false] rfl rfl (by kernel_rfl) (fun _ _ _ h => h) (Or.inl ⟨by rfl, ?_⟩) ?_ ?_
            rotate_left
            · intro w'
              go_simp
              with_reducible rfl
            rotate_left
            · simp only [Act.put, List.setIfInBounds_toArray, List.set_cons_zero, List.set_cons_succ, i64_w, i32_w]
              rfl
            refine pure_ (i := 7) (N := some 142) (v := ?_) (a' := ?_) #[true, true, true, true, true, true, true, true, false, false, false] rfl rfl (by kernel_rfl) (fun _ _ _ h => h) (Or.inl ⟨by rfl, ?_⟩) ?_ ?_
            rotate_left
            · intro w'
              go_simp
              with_reducible rfl
            rotate_left
            · simp only [Act.put, List.setIfInBounds_toArray, List.set_cons_zero, List.set_cons_succ, i64_w, i32_w]
              rfl
            refine one_ (i := 8) (N := some 18) #[true, true, true, true, true, true, true, true, true, false, false] rfl rfl (by kernel_rfl) (by decide) (fun K hK => ?_)
            refine value_ (w1 := z_3_4.alloc (.cells #[.int .u8 0, .int .u8 0, .int .u8 0, .int .u8 0, .int .u8 0, .int .u8 0, .int .u8 0, .int .u8 0, .int .u8 0, .int .u8 0, .int .u8 0, .int .u8 0, .slice none 0 0] 45 (0, 0))) (v := .pointer (some ⟨z_3_4.heap.size, 0, none⟩)) (by rfl) rfl ?_ ?_
            · first | (go_simp; done) | (go_simp; constructor <;> rfl) | (go_simp; rfl)
            have h1 := blk_new z_3_4 (.cells #[.int .u8 0, .int .u8 0, .int .u8 0, .int .u8 0, .int .u8 0, .int .u8 0, .int .u8 0, .int .u8 0, .int .u8 0, .int .u8 0, .int .u8 0, .int .u8 0, .slice none 0 0] 45 (0, 0))
            have h2 := below_alloc (Below.refl z_3_4.heap.size z_3_4) (.cells #[.int .u8 0, .int .u8 0, .int .u8 0, .int .u8 0, .int .u8 0, .int .u8 0, .int .u8 0, .int .u8 0, .int .u8 0, .int .u8 0, .int .u8 0, .int .u8 0, .slice none 0 0] 45 (0, 0))
            have HK6 := Aside0.mk (show v2.heap.size ≤ z_3_4.heap.size from HB6.out.size)
            generalize z_3_4.alloc (.cells #[.int .u8 0, .int .u8 0, .int .u8 0, .int .u8 0, .int .u8 0, .int .u8 0, .int .u8 0, .int .u8 0, .int .u8 0, .int .u8 0, .int .u8 0, .int .u8 0, .slice none 0 0] 45 (0, 0)) = z_3_4_8 at h1 h2 ⊢
            have HZ := Aside0.mk h1
            replace HI := Aside0.mk (HI.out.below h2)
            replace HB6 := Aside0.mk (below_step HB6.out h2)
            clear h1 h2
            refine hK.out _ _ (HI.out) (fun hHeld => ?_)
            clear hK K
            refine norm_ (a' := ?_) ?_ ?_
            rotate_left
            · show Act.put _ (some 18) _ = _
              simp only [Act.put, List.setIfInBounds_toArray, List.set_cons_zero, List.set_cons_succ, i64_w, i32_w]
              rfl
            exact norm_ (by simp only [putAll, Act.put, List.setIfInBounds_toArray, List.set_cons_zero, List.set_cons_succ]) (hCont (AX, cX, AD, cD, z_3_4.heap.size) _ ⟨HI.out, HB6.out, HZ.out, HK6.out⟩)
          · skip
            refine value_ (w1 := z_3.alloc (.cells #[.int .u8 0, .int .u8 0, .int .u8 0, .int .u8 0, .int .u8 0, .int .u8 0, .int .u8 0, .int .u8 0, .int .u8 0, .int .u8 0, .int .u8 0, .int .u8 0, .slice none 0 0] 45 (0, 0))) (v := .pointer (some ⟨z_3.heap.size, 0, none⟩)) (by rfl) rfl ?_ ?_
            · first | (go_simp; done) | (go_simp; constructor <;> rfl) | (go_simp; rfl)
            have h1 := blk_new z_3 (.cells #[.int .u8 0, .int .u8 0, .int .u8 0, .int .u8 0, .int .u8 0, .int .u8 0, .int .u8 0, .int .u8 0, .int .u8 0, .int .u8 0, .int .u8 0, .int .u8 0, .slice none 0 0] 45 (0, 0))
            have h2 := below_alloc (Below.refl z_3.heap.size z_3) (.cells #[.int .u8 0, .int .u8 0, .int .u8 0, .int .u8 0, .int .u8 0, .int .u8 0, .int .u8 0, .int .u8 0, .int .u8 0, .int .u8 0, .int .u8 0, .int .u8 0, .slice none 0 0] 45 (0, 0))
            have HK6 := Aside0.mk (show v2.heap.size ≤ z_3.heap.size from HB6.out.size)
            replace HCX := Aside0.mk (Kd.C_below HCX.out h2)
            generalize z_3.alloc (.cells #[.int .u8 0, .int .u8 0, .int .u8 0, .int .u8 0, .int .u8 0, .int .u8 0, .int .u8 0, .int .u8 0, .int .u8 0, .int .u8 0, .int .u8 0, .int .u8 0, .slice none 0 0] 45 (0, 0)) = z_3_8 at h1 h2 HCX ⊢
            have HZ := Aside0.mk h1
            replace HI := Aside0.mk (HI.out.below h2)
            replace HB6 := Aside0.mk (below_step HB6.out h2)
            clear h1 h2
            refine hK.out _ _ (HI.out) (fun hHeld => ?_)
            clear hK K
            refine norm_ (a' := ?_) ?_ ?_
            rotate_left
            · show Act.put _ (some 18) _ = _
              simp only [Act.put, List.setIfInBounds_toArray, List.set_cons_zero, List.set_cons_succ, i64_w, i32_w]
              rfl
            refine one_ (i := 4) (N := some 140) #[true, true, true, true, true, false, false, false, true, false, false] rfl rfl (by kernel_rfl) (by decide) (fun K hK => ?_)
            refine goes_ Try.func34 (by kernel_rfl) rfl #[tabV true, .slice AX S2.length cX] (by rfl) rfl rfl (by go_simp) ?_
            refine (mac_Decode.calls AX cX S2 _ HCX.out HcX.out HSB.out HSL.out).mono ?_
            rintro e z_3_8_4 ⟨AD, cD, rfl, hcD, hCD, h2⟩
            refine ⟨_, rfl, ?_⟩
            replace HI := Aside0.mk (HI.out.below h2)
            replace HB6 := Aside0.mk (below_step HB6.out h2)
            replace HZ := Aside0.mk (blk_below HZ.out h2)
            clear hcD hCD h2
            refine hK.out _ _ (HI.out) (fun hHeld => ?_)
            clear hK K
            refine norm_ (a' := ?_) ?_ ?_
            rotate_left
            · show Act.put _ (some 140) _ = _
              simp only [Act.put, List.setIfInBounds_toArray, List.set_cons_zero, List.set_cons_succ, i64_w, i32_w]
              rfl
            refine pure_ (i := 5) (N := some 135) (v := ?_) (a' := ?_) #[true, true, true, true, true, true, false, false, true, false, false] rfl rfl (by kernel_rfl) (fun _ _ _ h => h) (Or.inl ⟨by rfl, ?_⟩) ?_ ?_
            rotate_left
            · intro w'
              go_simp
              with_reducible rfl
            rotate_left
            · simp only [Act.put, List.setIfInBounds_toArray, List.set_cons_zero, List.set_cons_succ, i64_w, i32_w]
              rfl
            refine pure_ (i := 6) (N := some 141) (v := ?_) (a' := ?_) #[true, true, true, true, true, true, true, false, true, false, false] rfl rfl (by kernel_rfl) (fun _ _ _ h => h) (Or.inl ⟨by rfl, ?_⟩) ?_ ?_
            rotate_left
            · intro w'
              go_simp
              with_reducible rfl
            rotate_left
            · simp only [Act.put, List.setIfInBounds_toArray, List.set_cons_zero, List.set_cons_succ, i64_w, i32_w]
              rfl
            refine pure_ (i := 7) (N := some 142) (v := ?_) (a' := ?_) #[true, true, true, true, true, true, true, true, true, false, false] rfl rfl (by kernel_rfl) (fun _ _ _ h => h) (Or.inl ⟨by rfl, ?_⟩) ?_ ?_
            rotate_left
            · intro w'
              go_simp
              with_reducible rfl
            rotate_left
            · simp only [Act.put, List.setIfInBounds_toArray, List.set_cons_zero, List.set_cons_succ, i64_w, i32_w]
              rfl
            exact norm_ (by simp only [putAll, Act.put, List.setIfInBounds_toArray, List.set_cons_zero, List.set_cons_succ]) (hCont (AX, cX, AD, cD, z_3.heap.size) _ ⟨HI.out, HB6.out, HZ.out, HK6.out⟩)
        · skip
          replace HI := Aside0.mk HI.out.drew1
          replace HB6 := Aside0.mk (below_drew1 HB6.out)
          refine value_ (w1 := v2.drew.alloc (.cells #[.int .u8 0, .int .u8 0, .int .u8 0, .int .u8 0, .int .u8 0, .int .u8 0, .int .u8 0, .int .u8 0, .int .u8 0, .int .u8 0, .int .u8 0, .int .u8 0, .slice none 0 0] 45 (0, 0))) (v := .pointer (some ⟨v2.drew.heap.size, 0, none⟩)) (by rfl) rfl ?_ ?_
          · first | (go_simp; done) | (go_simp; constructor <;> rfl) | (go_simp; rfl)
          have h1 := blk_new v2.drew (.cells #[.int .u8 0, .int .u8 0, .int .u8 0, .int .u8 0, .int .u8 0, .int .u8 0, .int .u8 0, .int .u8 0, .int .u8 0, .int .u8 0, .int .u8 0, .int .u8 0, .slice none 0 0] 45 (0, 0))
          have h2 := below_alloc (Below.refl v2.drew.heap.size v2.drew) (.cells #[.int .u8 0, .int .u8 0, .int .u8 0, .int .u8 0, .int .u8 0, .int .u8 0, .int .u8 0, .int .u8 0, .int .u8 0, .int .u8 0, .int .u8 0, .int .u8 0, .slice none 0 0] 45 (0, 0))
          have HK6 := Aside0.mk (show v2.heap.size ≤ v2.drew.heap.size from HB6.out.size)
          generalize v2.drew.alloc (.cells #[.int .u8 0, .int .u8 0, .int .u8 0, .int .u8 0, .int .u8 0, .int .u8 0, .int .u8 0, .int .u8 0, .int .u8 0, .int .u8 0, .int .u8 0, .int .u8 0, .slice none 0 0] 45 (0, 0)) = z_8 at h1 h2 ⊢
          have HZ := Aside0.mk h1
          replace HI := Aside0.mk (HI.out.below h2)
          replace HB6 := Aside0.mk (below_step HB6.out h2)
          clear h1 h2
          refine hK.out _ _ (HI.out) (fun hHeld => ?_)
          clear hK K
          refine norm_ (a' := ?_) ?_ ?_
          rotate_left
          · show Act.put _ (some 18) _ = _
            simp only [Act.put, List.setIfInBounds_toArray, List.set_cons_zero, List.set_cons_succ, i64_w, i32_w]
            rfl
          refine one_ (i := 3) (N := some 139) #[true, true, true, true, false, false, false, false, true, false, false] rfl rfl (by kernel_rfl) (by decide) (fun K hK => ?_)
          refine goes_ Try.func26 (by kernel_rfl) rfl #[tabV true, .slice (some ⟨gd, 0, none⟩) n cd] (by rfl) rfl rfl (by go_simp) ?_
          refine (HSE.out _ (Kd.C_below HCC.out HB6.out) hcd HCB.out HSN15.out).mono ?_
          rintro e z_8_3 ⟨vx, rfl, hR, h2⟩
          refine ⟨_, rfl, ?_⟩
          obtain ⟨AX, cX, rfl, hcX, hCX⟩ := Kd.R_reads hR
          have HCX := Aside0.mk hCX
          have HcX := Aside0.mk hcX
          replace HI := Aside0.mk (HI.out.below h2)
          replace HB6 := Aside0.mk (below_step HB6.out h2)
          replace HZ := Aside0.mk (blk_below HZ.out h2)
          clear hR h2 hcX hCX
          refine hK.out _ _ (HI.out) (fun hHeld => ?_)
          clear hK K
          refine norm_ (a' := ?_) ?_ ?_
          rotate_left
          · show Act.put _ (some 139) _ = _
            simp only [Act.put, List.setIfInBounds_toArray, List.set_cons_zero, List.set_cons_succ, i64_w, i32_w]
            rfl
          refine one_ (i := 4) (N := some 140) #[true, true, true, true, true, false, false, false, true, false, false] rfl rfl (by kernel_rfl) (by decide) (fun K hK => ?_)
          refine goes_ Try.func34 (by kernel_rfl) rfl #[tabV true, .slice AX S2.length cX] (by rfl) rfl rfl (by go_simp) ?_
          refine (mac_Decode.calls AX cX S2 _ HCX.out HcX.out HSB.out HSL.out).mono ?_
          rintro e z_8_3_4 ⟨AD, cD, rfl, hcD, hCD, h2⟩
          refine ⟨_, rfl, ?_⟩
          replace HI := Aside0.mk (HI.out.below h2)
          replace HB6 := Aside0.mk (below_step HB6.out h2)
          replace HZ := Aside0.mk (blk_below HZ.out h2)
          clear hcD hCD h2
          refine hK.out _ _ (HI.out) (fun hHeld => ?_)
          clear hK K
          refine norm_ (a' := ?_) ?_ ?_
          rotate_left
          · show Act.put _ (some 140) _ = _
            simp only [Act.put, List.setIfInBounds_toArray, List.set_cons_zero, List.set_cons_succ, i64_w, i32_w]
            rfl
          refine pure_ (i := 5) (N := some 135) (v := ?_) (a' := ?_) #[true, true, true, true, true, true, false, false, true, false, false] rfl rfl (by kernel_rfl) (fun _ _ _ h => h) (Or.inl ⟨by rfl, ?_⟩) ?_ ?_
          rotate_left
          · intro w'
            go_simp
            with_reducible rfl
          rotate_left
          · simp only [Act.put, List.setIfInBounds_toArray, List.set_cons_zero, List.set_cons_succ, i64_w, i32_w]
            rfl
          refine pure_ (i := 6) (N := some 141) (v := ?_) (a' := ?_) #[true, true, true, true, true, true, true, false, true, false, false] rfl rfl (by kernel_rfl) (fun _ _ _ h => h) (Or.inl ⟨by rfl, ?_⟩) ?_ ?_
          rotate_left
          · intro w'
            go_simp
            with_reducible rfl
          rotate_left
          · simp only [Act.put, List.setIfInBounds_toArray, List.set_cons_zero, List.set_cons_succ, i64_w, i32_w]
            rfl
          refine pure_ (i := 7) (N := some 142) (v := ?_) (a' := ?_) #[true, true, true, true, true, true, true, true, true, false, false] rfl rfl (by kernel_rfl) (fun _ _ _ h => h) (Or.inl ⟨by rfl, ?_⟩) ?_ ?_
          rotate_left
          · intro w'
            go_simp
            with_reducible rfl
          rotate_left
          · simp only [Act.put, List.setIfInBounds_toArray, List.set_cons_zero, List.set_cons_succ, i64_w, i32_w]
            rfl
          exact norm_ (by simp only [putAll, Act.put, List.setIfInBounds_toArray, List.set_cons_zero, List.set_cons_succ]) (hCont (AX, cX, AD, cD, v2.drew.heap.size) _ ⟨HI.out, HB6.out, HZ.out, HK6.out⟩)
      rintro ⟨AX, cX, AD, cD, k_⟩ v90 ⟨hI_, hB_, hZ_, hK_⟩
      clear HI HB6
      have HI := Aside0.mk hI_
      have HB6 := Aside0.mk hB_
      have HZ := Aside0.mk hZ_
      have HKK := Aside0.mk hK_
      have hHeld : IsTab true v90 g := hI_
      clear hI_ hB_ hZ_ hK_
      refine norm_ (a' := ?_) ?_ ?_
      rotate_left
      · simp only [putAll, Act.put, List.setIfInBounds_toArray, List.set_cons_zero, List.set_cons_succ]
        rfl
      have hS := below_setRow HB6.out HKK.out (frame (decH S2) AD (decD S2).length cD)
      refine one_store_row_ (i := 9) (N := none) (oi := { dst := none, op := Go.Op.store 45 (Go.Operand.tmp 18) (Go.Operand.tmp 141), type := 0, pos := "law.go:192", after := #[{ on := 8, ground := Go.Ground.data }, { on := 6, ground := Go.Ground.data }, { on := 4, ground := Go.Ground.chain }, { on := 0, ground := Go.Ground.phase }, { on := 1, ground := Go.Ground.phase }, { on := 2, ground := Go.Ground.phase }, { on := 3, ground := Go.Ground.phase }, { on := 4, ground := Go.Ground.phase }, { on := 5, ground := Go.Ground.phase }, { on := 6, ground := Go.Ground.phase }, { on := 7, ground := Go.Ground.textOnly Go.Departure.lateStores }, { on := 8, ground := Go.Ground.phase }], guard := none }) #[true, true, true, true, true, true, true, true, true, true, false] (by kernel_rfl) rfl (by kernel_rfl) (by decide) (by kernel_rfl) 45 (.tmp 18) (.tmp 141) rfl k_ (frame (decH S2) AD (decD S2).length cD) (by simp [Act.eval]) (by simp [Act.eval]) 45 #[.int .u8 0, .int .u8 0, .int .u8 0, .int .u8 0, .int .u8 0, .int .u8 0, .int .u8 0, .int .u8 0, .int .u8 0, .int .u8 0, .int .u8 0, .int .u8 0, .slice none 0 0] HZ.out info45_ rfl (frame_one _ _ _ _) (HI6.out.below hS) ?_
      generalize v90.setRow k_ (frame (decH S2) AD (decD S2).length cD) = v9 at hS ⊢
      replace HI := Aside0.mk (HI6.out.below hS)
      have HS9 := Aside0.mk hS
      have hHeld : IsTab true v9 g := HI.out
      clear hS HB6 HZ HI6
      refine norm_ (a' := ?_) ?_ ?_
      rotate_left
      · show Act.put _ none _ = _
        simp only [Act.put]
        rfl
      refine pure_ (i := 10) (N := some 19) (v := ?_) (a' := ?_) #[true, true, true, true, true, true, true, true, true, true, true] rfl rfl (by kernel_rfl) (fun _ _ _ h => h) (Or.inl ⟨by rfl, ?_⟩) ?_ ?_
      rotate_left
      · intro w'
        go_simp
        with_reducible rfl
      rotate_left
      · simp only [Act.put, List.setIfInBounds_toArray, List.set_cons_zero, List.set_cons_succ, i64_w, i32_w]
        rfl
      refine done_ (by kernel_rfl) ?_
      have he2 := HPD.out
      go_wp2_with fail
      refine (awake3_calls _).mono ?_
      rintro e vz ⟨rfl, hB⟩
      go_wp2_with fail
      go_ret
      exact ⟨rfl, below_step (below_step (below_step (below_step HB.out HBc.out) HB9.out) HS9.out) hB⟩
    exact absurd ⟨by omega, hmn⟩ HSEL
end Go.Proofs.Ytpalloofjljhkaa.P
