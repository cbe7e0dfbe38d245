/- A frame that went out: its head, its data, noughts, its sum. -/
-- Put together by wip/print2/mergelaw.py: printed words (what this claim does not use is left out), printed functions, texts of this session.
import Derived.Test.YtpalloofjljhkaaMMacPads2
/-! REnc -/
namespace Go.Proofs.Ytpalloofjljhkaa.P
open Go.RowKit Go.Proofs.Ytpalloofjljhkaa.Lib Go.Proofs.YtpalloofjljhkaaW.PrintWords Go.Proofs.YtpalloofjljhkaaW.PrintLast Go.Proofs.YtpalloofjljhkaaW.PrintMore
set_option linter.unusedVariables false
set_option linter.unusedSimpArgs false
attribute [local go_sem] max2_int min2_int max_two min_two max_three min_three max_four min_four   -- for this text's walks alone
theorem enc_byte {tt fr l : List Int} (h1 : byteRow tt) (h2 : byteRow fr) (h3 : byteRow l) : byteRow (encB tt fr l) := by
  intro c hc
  unfold encB at hc
  rcases List.mem_append.mp hc with hc | hc
  · rcases List.mem_append.mp hc with hc | hc
    · rcases List.mem_append.mp hc with hc | hc
      · rcases List.mem_append.mp hc with hc | hc
        · exact h1 c hc
        · exact h2 c hc
      · exact beN_bytes 2 _ c hc
    · exact h3 c hc
  · rw [List.eq_of_mem_replicate hc]; exact ⟨by decide, by decide⟩
theorem rgrp_f (x : Int) (a b c d e : Int) : antiphonref1_Group.f x a b c d e = some (isGrp x) := rfl
set_option maxHeartbeats 8000000 in
set_option maxRecDepth 100000 in
theorem ref_Encode.ok (t0 t1 t2 t3 t4 t5 f0 f1 f2 f3 f4 f5 : Int) (A0 : Option Addr) (c0 : Nat) (l0 : List Int) (w : World) (hr0 : Kd.C (Kd.int .u8) w A0 l0.length l0) (hc0 : l0.length ≤ c0) (hg : isGrp f0 = false) (hl : l0.length ≤ 1500) (hb : byteRow l0) (hbt : byteRow [t0, t1, t2, t3, t4, t5]) (hbf : byteRow [f0, f1, f2, f3, f4, f5]) :
    Calls Try.prog 33 #[.agg #[.int .u8 t0, .int .u8 t1, .int .u8 t2, .int .u8 t3, .int .u8 t4, .int .u8 t5, .int .u8 f0, .int .u8 f1, .int .u8 f2, .int .u8 f3, .int .u8 f4, .int .u8 f5, .slice A0 l0.length c0]] w fun e w' => ∃ v, e = .returned (.tuple #[v, .int .i64 0]) ∧ Kd.R (Kd.int .u8) 5 w' w.heap.size (fun _ => True) v (sealI (encB [t0, t1, t2, t3, t4, t5] [f0, f1, f2, f3, f4, f5] l0)) ∧ Below w.heap.size w w' := by
  have d1 : decide ((1500 : Int) < (l0.length : Int)) = false := decide_eq_false (by omega)
  have HC := Aside0.mk hc0
  have HL := Aside0.mk hl
  have HCP := Aside0.mk (copy_any (a := [t0, t1, t2, t3, t4, t5]) (show 6 ≤ 140737488355328 by decide))
  have HPU := Aside0.mk (show antiphonref1_Put.f 10 (l0.length : Int) 2 = some (beN 2 (l0.length : Int)) by
    have h := put_ref (l0.length : Int) 2 0
    rw [h]
    unfold putL
    rw [if_pos ⟨by decide, by decide, by omega, by show (l0.length : Int) < 2 ^ 16; omega⟩]
    rfl)
  have HBE := Aside0.mk (beN_length 2 (l0.length : Int))
  have HBYT := Aside0.mk (enc_byte hbt hbf hb)
  have HLEN := Aside0.mk (show (encB [t0, t1, t2, t3, t4, t5] [f0, f1, f2, f3, f4, f5] l0).length < 140737488355000 by
    unfold encB
    simp only [List.length_append, List.length_cons, List.length_nil, List.length_replicate, beN_length]
    omega)
  have HEN := Aside0.mk (show encB [t0, t1, t2, t3, t4, t5] [f0, f1, f2, f3, f4, f5] l0 = [t0, t1, t2, t3, t4, t5] ++ [f0, f1, f2, f3, f4, f5] ++ beN 2 (l0.length : Int) ++ l0 ++ List.replicate (46 - l0.length) 0 from rfl)
  generalize hbe : beN 2 (l0.length : Int) = be at HPU HBE HEN
  generalize encB [t0, t1, t2, t3, t4, t5] [f0, f1, f2, f3, f4, f5] l0 = G at HBYT HLEN HEN ⊢
  clear hc0 hb hbt hbf hbe
  have HR := Aside0.mk hr0
  have hm0 : l0.length ≤ 9223372036854775807 := hr0.2.1
  clear hr0
  go_enter Try.func33, Try.ntmps33
  go_wp2_with fail
  have hb1 := blk_new w (.cells #[.int .u8 t0, .int .u8 t1, .int .u8 t2, .int .u8 t3, .int .u8 t4, .int .u8 t5, .int .u8 f0, .int .u8 f1, .int .u8 f2, .int .u8 f3, .int .u8 f4, .int .u8 f5, .slice A0 l0.length c0] 45 (0, 0))
  have hbw : Below w.heap.size w (w.alloc (.cells #[.int .u8 t0, .int .u8 t1, .int .u8 t2, .int .u8 t3, .int .u8 t4, .int .u8 t5, .int .u8 f0, .int .u8 f1, .int .u8 f2, .int .u8 f3, .int .u8 f4, .int .u8 f5, .slice A0 l0.length c0] 45 (0, 0))) := below_alloc (Below.refl _ _) _
  generalize w.alloc (.cells #[.int .u8 t0, .int .u8 t1, .int .u8 t2, .int .u8 t3, .int .u8 t4, .int .u8 t5, .int .u8 f0, .int .u8 f1, .int .u8 f2, .int .u8 f3, .int .u8 f4, .int .u8 f5, .slice A0 l0.length c0] 45 (0, 0)) = w1 at hb1 hbw ⊢
  have HB := Aside0.mk hbw
  have HF := Aside0.mk hb1
  clear hb1 hbw
  refine (antiphonref1_Group.calls f0 f1 f2 f3 f4 f5 _ _ (rgrp_f _ _ _ _ _ _)).mono ?_
  rintro e w2 ⟨rfl, hB⟩
  replace HF := Aside0.mk (blk_below HF.out hB)
  replace HB := Aside0.mk (below_step HB.out hB)
  have hk12 := (show w2.cell? ⟨w.heap.size, 12, none⟩ = some (.slice A0 l0.length c0) from (blk_cell HF.out 12).trans rfl)
  clear hB
  rw [hg]
  go_wp2_with fail
  refine start_ (n := 7) (S := fun w' => True) (ds := []) #[false, false, false, false, false, false, false] (by kernel_rfl) rfl rfl trivial (fun hHeld => ?_)
  refine pure_ (i := 0) (N := some 13) (v := ?_) (a' := ?_) #[true, false, false, false, false, false, false] rfl rfl (by kernel_rfl) (fun _ _ _ h => h) (Or.inl ⟨by rfl, ?_⟩) ?_ ?_
  rotate_left
  · intro w'
    go_simp
    with_reducible rfl
  rotate_left
  · simp only [Act.put, List.setIfInBounds_toArray, List.set_cons_zero, List.set_cons_succ, i64_w, i32_w]
    rfl
  refine pure_ (i := 1) (N := some 14) (v := ?_) (a' := ?_) #[true, true, false, false, false, false, false] rfl rfl (by kernel_rfl) (fun _ _ _ h => h) (Or.inl ⟨by rfl, ?_⟩) ?_ ?_
  rotate_left
  · intro w'
    go_simp
    with_reducible rfl
  rotate_left
  · simp only [Act.put, List.setIfInBounds_toArray, List.set_cons_zero, List.set_cons_succ, i64_w, i32_w]
    rfl
  refine pure_ (i := 3) (N := some 16) (v := ?_) (a' := ?_) #[true, true, false, true, false, false, false] rfl rfl (by kernel_rfl) (fun _ _ _ h => h) (Or.inl ⟨by rfl, ?_⟩) ?_ ?_
  rotate_left
  · intro w'
    go_simp
    with_reducible rfl
  rotate_left
  · simp only [Act.put, List.setIfInBounds_toArray, List.set_cons_zero, List.set_cons_succ, i64_w, i32_w]
    rfl
  refine pure_ (i := 4) (N := some 17) (v := ?_) (a' := ?_) #[true, true, false, true, true, false, false] rfl rfl (by kernel_rfl) (fun _ _ _ h => h) (Or.inl ⟨by rfl, ?_⟩) ?_ ?_
  rotate_left
  · intro w'
    go_simp
    with_reducible rfl
  rotate_left
  · simp only [Act.put, List.setIfInBounds_toArray, List.set_cons_zero, List.set_cons_succ, i64_w, i32_w]
    rfl
  refine one_ (i := 2) (N := some 15) #[true, true, true, true, true, false, false] rfl rfl (by kernel_rfl) (by decide) (fun K hK => ?_)
  replace HF := Aside0.mk (show w2.drew.heap[w.heap.size]? = some (.cells #[.int .u8 t0, .int .u8 t1, .int .u8 t2, .int .u8 t3, .int .u8 t4, .int .u8 t5, .int .u8 f0, .int .u8 f1, .int .u8 f2, .int .u8 f3, .int .u8 f4, .int .u8 f5, .slice A0 l0.length c0] 45 (0, 0)) from HF.out)
  replace HB := Aside0.mk (below_drew1 HB.out)
  refine goes_ Try.func22 (by kernel_rfl) rfl #[.slice (some ⟨w.heap.size, 0, none⟩) 6 6] (by rfl) rfl rfl (by simp only [List.map_toArray, List.map_cons, List.map_nil]; rfl) ?_
  refine (antiphonref1_Copy.calls _ _ 6 [t0, t1, t2, t3, t4, t5] [t0, t1, t2, t3, t4, t5] w2.drew (part_C (off := 0) (xs := [t0, t1, t2, t3, t4, t5]) HF.out rfl (show 6 ≤ 9223372036854775807 by decide) (six rfl rfl rfl rfl rfl rfl)) (show 6 ≤ 6 from Nat.le_refl _) HCP.out).mono ?_
  rintro e w3 ⟨v3, rfl, hR, hB⟩
  refine ⟨_, rfl, ?_⟩
  have HX := Aside0.mk (Kd.R_lower hR HB.out.size)
  replace HF := Aside0.mk (blk_below HF.out hB)
  replace HB := Aside0.mk (below_step HB.out hB)
  clear hR hB
  refine hK.out _ _ trivial (fun hHeld => ?_)
  clear hK K
  refine norm_ (a' := ?_) ?_ ?_
  rotate_left
  · show Act.put _ (some 15) _ = _
    simp only [Act.put, List.setIfInBounds_toArray, List.set_cons_zero, List.set_cons_succ, i64_w, i32_w]
    rfl
  refine one_ (i := 5) (N := some 18) #[true, true, true, true, true, true, false] rfl rfl (by kernel_rfl) (by decide) (fun K hK => ?_)
  refine Kd.R_append_rows_step (Kd.int .u8) (w0 := w) w.heap.size (by rfl) (.tmp 15) (.tmp 17) 22 5 (.int .u8 0) 1 rfl Try.underlying22 info5 rfl (by decide) (by omega) v3 [t0, t1, t2, t3, t4, t5] [f0, f1, f2, f3, f4, f5] (some ⟨w.heap.size, 6, none⟩) 6 6 (fun _ => True) (fun _ => False) rfl rfl HX.out (part_C (off := 6) (xs := [f0, f1, f2, f3, f4, f5]) HF.out rfl (show 6 ≤ 9223372036854775807 by decide) (six rfl rfl rfl rfl rfl rfl)) (fun _ _ h => h) (fun _ h => h.elim) (fun _ _ => trivial) HB.out HB.out.size (by simp) ?_
  intro v4 w4 ho hb hg hat
  replace HF := Aside0.mk ((hg.block _ (blk_lt HF.out) (Kd.R_ne HX.out HF.out (by decide))).trans HF.out)
  replace HX := Aside0.mk ho
  replace HB := Aside0.mk hb
  clear ho hb hg hat
  refine hK.out _ _ trivial (fun hHeld => ?_)
  clear hK K
  refine norm_ (a' := ?_) ?_ ?_
  rotate_left
  · show Act.put _ (some 18) _ = _
    simp only [Act.put, List.setIfInBounds_toArray, List.set_cons_zero, List.set_cons_succ, i64_w, i32_w]
    rfl
  refine pure_ (i := 6) (N := some 4) (v := ?_) (a' := ?_) #[true, true, true, true, true, true, true] rfl rfl (by kernel_rfl) (fun _ _ _ h => h) (Or.inl ⟨by rfl, ?_⟩) ?_ ?_
  rotate_left
  · intro w'
    go_simp
    with_reducible rfl
  rotate_left
  · simp only [Act.put, List.setIfInBounds_toArray, List.set_cons_zero, List.set_cons_succ, i64_w, i32_w]
    rfl
  refine done_ (by kernel_rfl) ?_
  have hk12 := (show w4.cell? ⟨w.heap.size, 12, none⟩ = some (.slice A0 l0.length c0) from (blk_cell HF.out 12).trans rfl)
  go_wp2_with fail
  refine (antiphonref1_Put.calls 10 _ _ _ _ HPU.out).mono ?_
  rintro e w5 ⟨v5, rfl, hR5, hB⟩
  obtain ⟨A5, c5, rfl, hc5, hC5⟩ := Kd.R_reads hR5
  have HC5 := Aside0.mk hC5
  replace HF := Aside0.mk (blk_below HF.out hB)
  replace HX := Aside0.mk (Kd.R_below HX.out hB)
  replace HB := Aside0.mk (below_step HB.out hB)
  have hk12 := (show w5.cell? ⟨w.heap.size, 12, none⟩ = some (.slice A0 l0.length c0) from (blk_cell HF.out 12).trans rfl)
  clear hB hR5 hC5 hc5
  go_wp2_with (first
    | (at_builtin; refine Kd.R_append_rows (Kd.int .u8) (w0 := w) w.heap.size rfl (.tmp 19) (.tmp 23) 22 5 (.int .u8 0) 1 rfl Try.underlying22 info5 rfl (by decide) (by omega) v4 ([t0, t1, t2, t3, t4, t5] ++ [f0, f1, f2, f3, f4, f5]) be A5 be.length c5 (fun _ => True) (fun _ => False) rfl rfl HX.out HC5.out (fun _ _ h => h) (fun _ h => h.elim) (fun _ _ => trivial) HB.out HB.out.size (by have := HBE.out; have := HL.out; simp only [List.length_append, List.length_cons, List.length_nil]; omega) ?_; intro v6 w6 ho hb hg hat; replace HF := Aside0.mk ((hg.block _ (blk_lt HF.out) (Kd.R_ne HX.out HF.out (by decide))).trans HF.out); have hk12 := (show w6.cell? ⟨w.heap.size, 12, none⟩ = some (.slice A0 l0.length c0) from (blk_cell HF.out 12).trans rfl); replace HX := Aside0.mk ho; replace HB := Aside0.mk hb; clear ho hb hg hat)
    | (at_builtin; refine Kd.R_append_rows (Kd.int .u8) (w0 := w) w.heap.size rfl (.tmp 25) (.tmp 27) 22 5 (.int .u8 0) 1 rfl Try.underlying22 info5 rfl (by decide) (by omega) v6 ([t0, t1, t2, t3, t4, t5] ++ [f0, f1, f2, f3, f4, f5] ++ be) l0 A0 l0.length c0 (fun _ => True) (fun _ => False) rfl rfl HX.out (Kd.C_below HR.out HB.out) (fun _ _ h => h) (fun _ h => h.elim) (fun _ _ => trivial) HB.out HB.out.size (by have := HBE.out; have := HL.out; simp only [List.length_append, List.length_cons, List.length_nil]; omega) ?_; intro v7 w7 ho hb hg hat; replace HF := Aside0.mk ((hg.block _ (blk_lt HF.out) (Kd.R_ne HX.out HF.out (by decide))).trans HF.out); have hk12 := (show w7.cell? ⟨w.heap.size, 12, none⟩ = some (.slice A0 l0.length c0) from (blk_cell HF.out 12).trans rfl); replace HX := Aside0.mk ho; replace HB := Aside0.mk hb; clear ho hb hg hat))
  have HXL := Aside0.mk (show ([t0, t1, t2, t3, t4, t5] ++ [f0, f1, f2, f3, f4, f5] ++ be ++ l0).length ≤ 2000 by have := HBE.out; have := HL.out; simp only [List.length_append, List.length_cons, List.length_nil]; omega)
  generalize [t0, t1, t2, t3, t4, t5] ++ [f0, f1, f2, f3, f4, f5] ++ be ++ l0 = X at HX HXL HEN
  go_loopw [5, 4] (fun v5 v4 wr => ∃ j : Nat, j ≤ 46 - l0.length ∧ v5 = .int .i64 ((l0.length + j : Nat) : Int) ∧ Aside0 (Kd.R (Kd.int .u8) 5 wr w.heap.size (fun _ => True) v4 (X ++ List.replicate j 0)) ∧ Aside0 (Below w.heap.size w wr)) (fun v5 _ _ => 46 - (intOf v5).toNat)
  case atStart => exact ⟨0, Nat.zero_le _, by simp, ⟨by rw [List.replicate_zero, List.append_nil]; exact HX.out⟩, HB⟩
  case round =>
    obtain ⟨j, hj, rfl, HO, HB9⟩ := hrel
    by_cases hlt : l0.length + j < 46
    · have d2 : decide (((l0.length + j : Nat) : Int) < 46) = true := decide_eq_true (by omega)
      have e2 : X ++ List.replicate j 0 ++ [0] = X ++ List.replicate (j + 1) 0 := by rw [List.append_assoc, ← List.replicate_succ']
      have HE2 := Aside0.mk e2
      clear e2
      have hq1 : j + 1 ≤ 46 - l0.length := by omega
      have HQJ := Aside0.mk (show ((l0.length + (j + 1) : Nat) : Int) = ((l0.length + j : Nat) : Int) + 1 by omega)
      have HJL := Aside0.mk hj
      generalize hjj : l0.length + j = q at d2 HQJ ⊢
      have hq46 : q < 46 := by omega
      clear hjj
      go_wp2_with (at_builtin; refine Kd.R_append_rows (Kd.int .u8) (w0 := w) w.heap.size rfl (.tmp 36) (.tmp 37) 22 5 (.int .u8 0) 1 rfl Try.underlying22 info5 rfl (by decide) (by omega) _ (X ++ List.replicate j 0) [0] (some ⟨World.heap _ |>.size, 0, none⟩) 1 1 (fun _ => True) (fun _ => False) rfl rfl (Kd.R_alloc HO.out _) (lit_C (xs := [0]) (blk_new _ _) rfl (by decide)) (fun _ _ h => h) (fun _ h => h.elim) (fun _ _ => trivial) (below_alloc HB9.out _) (below_alloc HB9.out _).size (by have := HXL.out; have := HJL.out; simp only [List.length_append, List.length_replicate, List.length_cons, List.length_nil]; omega) ?_; intro v9 w9 ho hb hg hat; rw [HE2.out] at ho; replace HO := Aside0.mk ho; replace HB9 := Aside0.mk hb; clear ho hb hg hat)
      go_round
      case rel => exact ⟨j + 1, hq1, by rw [HQJ.out], HO, HB9⟩
      case measure => simp [intOf]; omega
    · obtain rfl : j = 46 - l0.length := by omega
      have d2 : decide (((l0.length + (46 - l0.length) : Nat) : Int) < 46) = false := decide_eq_false (by omega)
      rw [← HEN.out] at HO
      obtain ⟨A8, c8, hv8, hc8, hC8⟩ := Kd.R_reads HO.out
      subst hv8
      have HC8 := Aside0.mk hC8
      have Hc8 := Aside0.mk hc8
      clear hC8 hc8
      generalize hjj : l0.length + (46 - l0.length) = q at d2 ⊢
      clear hjj
      go_wp2_with fail
      refine (ref_Seal.calls A8 c8 G _ HC8.out Hc8.out HBYT.out HLEN.out).mono ?_
      rintro e w9 ⟨v9, rfl, hR9, hB⟩
      have HR9 := Aside0.mk (Kd.R_lower hR9 HB9.out.size)
      replace HB9 := Aside0.mk (below_step HB9.out hB)
      clear hB hR9
      go_wp2_with fail
      go_ret2
      exact ⟨_, rfl, HR9.out, HB9.out⟩
end Go.Proofs.Ytpalloofjljhkaa.P
/-! RDec -/
namespace Go.Proofs.Ytpalloofjljhkaa.P
open Go.RowKit Go.Proofs.Ytpalloofjljhkaa.Lib Go.Proofs.YtpalloofjljhkaaW.PrintWords Go.Proofs.YtpalloofjljhkaaW.PrintLast Go.Proofs.YtpalloofjljhkaaW.PrintMore
set_option linter.unusedVariables false
set_option linter.unusedSimpArgs false
attribute [local go_sem] max2_int min2_int max_two min_two max_three min_three max_four min_four   -- for this text's walks alone
theorem info5_ : (Try.prog.info? 5).map (·.size) = some 1 := by kernel_rfl
section
variable {P : Program}
theorem wpList_store_byte {ops : Array Oper} {rest : List Oper} {op : Oper} {a : Act} {w : World} {Q : Exit → Act → World → Prop} (hgd : op.guard = none) (x y : Operand) (ho : op.op = .store 5 x y)
    (g i : Nat) (v : Int) (Z Z' : Array Value) (t : TypeId) (hx : a.eval x = .pointer (some ⟨g, i, none⟩)) (hy : a.eval y = .int .u8 v) (hZ : w.heap[g]? = some (.cells Z t (0, 0))) (hi : i + 1 ≤ Z.size) (hov : overRow Z i [.int .u8 v] = Z')
    (hu : (P.info? 5).map (·.size) = some 1)
    (h : ∀ W', W'.heap[g]? = some (.cells Z' t (0, 0)) → w.grownBy W' (some g) → wpList P ops Q rest (a.put op.dst undef) W') : wpList P ops Q (op :: rest) a w := by
  refine wpList_plain hgd fun K hK => ?_
  have hrun := run_store_run (P := P) 5 (.int .u8 v) [.int .u8 v] hZ rfl hu hi (by intro q hq; rw [List.mem_singleton.mp hq]; rfl)
  unfold Oper.wp execOp
  simp only [ho, hx, hy, Sem.run_bind, Sem.run_pure, Result.andThen_ok, hrun]
  refine hK _ _ (h _ ?_ (grown_setCells _ _ _ _))
  rw [← hov]
  exact heap_setCells g t _ i w Z hZ
end
theorem byte_at {W : World} {g n i : Nat} {X : List Int} (h : Kd.C (Kd.int .u8) W (some ⟨g, 0, none⟩) n X) (hi : i < n) : W.cell? ⟨g, i, none⟩ = some (.int .u8 (hdv X i)) := by
  obtain ⟨ad, e1, hx⟩ := Kd.at_int h (i : Int) (by omega) (by omega)
  injection e1 with e1
  subst e1
  rw [rd_nat, Int.toNat_natCast] at hx
  have ha : (Addr.add ⟨g, 0, none⟩ i) = ⟨g, i, none⟩ := by unfold Addr.add; split <;> simp_all
  rw [ha] at hx
  exact hx
theorem piece_C {W : World} {g : Nat} {X : List Int} (h : Kd.C (Kd.int .u8) W (some ⟨g, 0, none⟩) X.length X) (off n : Nat) (ho : off + n ≤ X.length) : Kd.C (Kd.int .u8) W (some ⟨g, off, none⟩) n ((X.drop off).take n) := by
  have hl : ((X.drop off).take n).length = n := by rw [List.length_take, List.length_drop]; omega
  refine Kd.C_of_reads (d := (0 : Int)) (h1 := fun _ => rfl) ⟨hl, by have := h.2.1; omega, fun _ => ⟨⟨g, off, none⟩, rfl, fun j hj => ?_⟩⟩
  have ha : (Addr.add ⟨g, off, none⟩ j) = ⟨g, off + j, none⟩ := by unfold Addr.add; split <;> simp_all
  rw [ha, byte_at h (by omega)]
  unfold hdv
  rw [List.getD_eq_getElem?_getD, List.getD_eq_getElem?_getD, List.getElem?_take, if_pos hj, List.getElem?_drop]
theorem cut_part (g n c lo hi : Nat) (h1 : lo ≤ hi) (h2 : hi ≤ n) (hc : n ≤ c) (h0 : lo < c) : ∀ W : World, (Instr.slice 22 (.slice (some ⟨g, 0, none⟩) n c) (some (.int .i64 (lo : Int))) (some (.int .i64 (hi : Int))) none).run Try.prog W = .ok (.slice (some ⟨g, lo, none⟩) (hi - lo) (c - lo)) W := by
  intro W
  obtain ⟨i0, hi0, hz0, hz1, hz2⟩ := info_parts info5
  rw [cut_mid 22 5 .i64 .i64 (P := Try.prog) Try.underlying22 hi0 1 hz1 (some ⟨g, 0, none⟩) n c (lo : Int) (hi : Int) (by omega) (by omega) (by omega) hc W]
  have ha : (Addr.add ⟨g, 0, none⟩ (lo * 1)) = ⟨g, lo, none⟩ := by unfold Addr.add; split <;> simp_all
  rw [Int.toNat_natCast, Int.toNat_natCast, if_neg (by omega), Option.map_some, ha]
theorem rget2 {X : List Int} (hb : byteRow X) (h : 14 ≤ X.length) : antiphonref1_Get.f 11 ((X.drop 12).take 2) = some (be16 X) := by
  have h1 : X.drop 12 = hdv X 12 :: X.drop 13 := by
    unfold hdv
    rw [List.getD_eq_getElem?_getD, List.getElem?_eq_getElem (show 12 < X.length by omega)]
    exact List.drop_eq_getElem_cons (by omega)
  have h2 : X.drop 13 = hdv X 13 :: X.drop 14 := by
    unfold hdv
    rw [List.getD_eq_getElem?_getD, List.getElem?_eq_getElem (show 13 < X.length by omega)]
    exact List.drop_eq_getElem_cons (by omega)
  have b1 : 0 ≤ hdv X 12 ∧ hdv X 12 < 256 := getD_byte hb 12
  have b2 : 0 ≤ hdv X 13 ∧ hdv X 13 < 256 := getD_byte hb 13
  have e : (X.drop 12).take 2 = [hdv X 12, hdv X 13] := by rw [h1, h2]; rfl
  have hbb : Bytes [hdv X 12, hdv X 13] := by
    intro c hc
    simp only [List.mem_cons, List.not_mem_nil, or_false] at hc
    rcases hc with rfl | rfl
    · exact b1
    · exact b2
  rw [e, get_ref [hdv X 12, hdv X 13] hbb 0]
  unfold getL be16 numL
  simp
set_option maxHeartbeats 8000000 in
set_option maxRecDepth 100000 in
theorem ref_Decode.short (A0 : Option Addr) (c0 : Nat) (l0 : List Int) (w : World) (hr0 : Kd.C (Kd.int .u8) w A0 l0.length l0) (hc0 : l0.length ≤ c0) (hl : l0.length < 64) :
    Calls Try.prog 35 #[.slice A0 l0.length c0] w fun e w' => e = .returned (.tuple #[.agg #[.int .u8 0, .int .u8 0, .int .u8 0, .int .u8 0, .int .u8 0, .int .u8 0, .int .u8 0, .int .u8 0, .int .u8 0, .int .u8 0, .int .u8 0, .int .u8 0, .slice none 0 0], .int .i64 2]) ∧ Below w.heap.size w w' := by
  have d1 : decide ((l0.length : Int) < 64) = true := decide_eq_true (by omega)
  have HR := Aside0.mk hr0
  have HC := Aside0.mk hc0
  have hm0 : l0.length ≤ 9223372036854775807 := hr0.2.1
  have hu45 := Try.underlying45
  have hu43 := Try.underlying43
  clear hr0 hc0
  go_enter Try.func35, Try.ntmps35
  go_upto_region 1 with fail
  have hb1 := blk_new w (.cells #[.int .u8 0, .int .u8 0, .int .u8 0, .int .u8 0, .int .u8 0, .int .u8 0, .int .u8 0, .int .u8 0, .int .u8 0, .int .u8 0, .int .u8 0, .int .u8 0, .slice none 0 0] 45 (0, 0))
  have hbw := below_alloc (Below.refl w.heap.size w) (.cells #[.int .u8 0, .int .u8 0, .int .u8 0, .int .u8 0, .int .u8 0, .int .u8 0, .int .u8 0, .int .u8 0, .int .u8 0, .int .u8 0, .int .u8 0, .int .u8 0, .slice none 0 0] 45 (0, 0))
  generalize w.alloc (.cells #[.int .u8 0, .int .u8 0, .int .u8 0, .int .u8 0, .int .u8 0, .int .u8 0, .int .u8 0, .int .u8 0, .int .u8 0, .int .u8 0, .int .u8 0, .int .u8 0, .slice none 0 0] 45) = w1 at hb1 hbw ⊢
  have HB := Aside0.mk hbw
  have H2 := Aside0.mk hb1
  clear hb1 hbw
  go_wp2_with (first
    | (refine wpList_store_part rfl 45 (.tmp 2) (.tmp 13) rfl w.heap.size 0 #[.int .u8 0, .int .u8 0, .int .u8 0, .int .u8 0, .int .u8 0, .int .u8 0, .int .u8 0, .int .u8 0, .int .u8 0, .int .u8 0, .int .u8 0, .int .u8 0, .slice none 0 0] #[.int .u8 0, .int .u8 0, .int .u8 0, .int .u8 0, .int .u8 0, .int .u8 0, .int .u8 0, .int .u8 0, .int .u8 0, .int .u8 0, .int .u8 0, .int .u8 0, .slice none 0 0] #[.int .u8 0, .int .u8 0, .int .u8 0, .int .u8 0, .int .u8 0, .int .u8 0, .int .u8 0, .int .u8 0, .int .u8 0, .int .u8 0, .int .u8 0, .int .u8 0, .slice none 0 0] 45 rfl rfl H2.out (by decide) (by rfl) info45_ (by rfl) ?_; intro wz hZ hG; replace H2 := Aside0.mk hZ; replace HB := Aside0.mk (below_own HB.out hG (Nat.le_refl _)); clear hZ hG))
  exact bodyPost_ret (results_frame rfl _ _ w.heap.size _ rfl rfl H2.out) rfl ⟨rfl, HB.out⟩
set_option maxHeartbeats 8000000 in
set_option maxRecDepth 100000 in
theorem ref_Decode.sum (A0 : Option Addr) (c0 : Nat) (l0 : List Int) (w : World) (hr0 : Kd.C (Kd.int .u8) w A0 l0.length l0) (hc0 : l0.length ≤ c0) (hl : 64 ≤ l0.length) (hb : byteRow l0) (hmx : l0.length < 140737488355000) (hop : openB l0 = false) :
    Calls Try.prog 35 #[.slice A0 l0.length c0] w fun e w' => e = .returned (.tuple #[.agg #[.int .u8 0, .int .u8 0, .int .u8 0, .int .u8 0, .int .u8 0, .int .u8 0, .int .u8 0, .int .u8 0, .int .u8 0, .int .u8 0, .int .u8 0, .int .u8 0, .slice none 0 0], .int .i64 5]) ∧ Below w.heap.size w w' := by
  have d1 : decide ((l0.length : Int) < 64) = false := decide_eq_false (by omega)
  have HOP := Aside0.mk hop
  have HBY := Aside0.mk hb
  have HMX := Aside0.mk hmx
  clear hop hb hmx
  have HR := Aside0.mk hr0
  have HC := Aside0.mk hc0
  have hm0 : l0.length ≤ 9223372036854775807 := hr0.2.1
  have hu45 := Try.underlying45
  have hu43 := Try.underlying43
  clear hr0 hc0
  go_enter Try.func35, Try.ntmps35
  go_upto_region 1 with fail
  have hb1 := blk_new w (.cells #[.int .u8 0, .int .u8 0, .int .u8 0, .int .u8 0, .int .u8 0, .int .u8 0, .int .u8 0, .int .u8 0, .int .u8 0, .int .u8 0, .int .u8 0, .int .u8 0, .slice none 0 0] 45 (0, 0))
  have hbw := below_alloc (Below.refl w.heap.size w) (.cells #[.int .u8 0, .int .u8 0, .int .u8 0, .int .u8 0, .int .u8 0, .int .u8 0, .int .u8 0, .int .u8 0, .int .u8 0, .int .u8 0, .int .u8 0, .int .u8 0, .slice none 0 0] 45 (0, 0))
  generalize w.alloc (.cells #[.int .u8 0, .int .u8 0, .int .u8 0, .int .u8 0, .int .u8 0, .int .u8 0, .int .u8 0, .int .u8 0, .int .u8 0, .int .u8 0, .int .u8 0, .int .u8 0, .slice none 0 0] 45) = w1 at hb1 hbw ⊢
  have HB := Aside0.mk hbw
  have H2 := Aside0.mk hb1
  clear hb1 hbw
  go_wp2_with fail
  refine (ref_Open.calls _ _ _ _ (Kd.C_below HR.out HB.out) HC.out HBY.out HMX.out).mono ?_
  rintro e w4 ⟨v4, rfl, hR, hB⟩
  rw [HOP.out]
  replace H2 := Aside0.mk (blk_below H2.out hB)
  replace HB := Aside0.mk (below_step HB.out hB)
  clear hB hR
  go_wp2_with (first
    | (refine wpList_store_part rfl 45 (.tmp 2) (.tmp 21) rfl w.heap.size 0 #[.int .u8 0, .int .u8 0, .int .u8 0, .int .u8 0, .int .u8 0, .int .u8 0, .int .u8 0, .int .u8 0, .int .u8 0, .int .u8 0, .int .u8 0, .int .u8 0, .slice none 0 0] #[.int .u8 0, .int .u8 0, .int .u8 0, .int .u8 0, .int .u8 0, .int .u8 0, .int .u8 0, .int .u8 0, .int .u8 0, .int .u8 0, .int .u8 0, .int .u8 0, .slice none 0 0] #[.int .u8 0, .int .u8 0, .int .u8 0, .int .u8 0, .int .u8 0, .int .u8 0, .int .u8 0, .int .u8 0, .int .u8 0, .int .u8 0, .int .u8 0, .int .u8 0, .slice none 0 0] 45 rfl rfl H2.out (by decide) (by rfl) info45_ (by rfl) ?_; intro wz hZ hG; replace H2 := Aside0.mk hZ; replace HB := Aside0.mk (below_own HB.out hG (Nat.le_refl _)); clear hZ hG))
  exact bodyPost_ret (results_frame rfl _ _ w.heap.size _ rfl rfl H2.out) rfl ⟨rfl, HB.out⟩
set_option maxHeartbeats 8000000 in
set_option maxRecDepth 100000 in
theorem ref_Decode.body (A0 : Option Addr) (c0 : Nat) (l0 : List Int) (w : World) (hr0 : Kd.C (Kd.int .u8) w A0 l0.length l0) (hc0 : l0.length ≤ c0) (hl : 64 ≤ l0.length) (hb : byteRow l0) (hmx : l0.length < 140737488355000) (hop : openB l0 = true) :
    Calls Try.prog 35 #[.slice A0 l0.length c0] w fun e w' => ∃ A c, e = .returned (.tuple #[.agg (frame (decH l0) A (decD l0).length c), .int .i64 (decE l0)]) ∧ (decD l0).length ≤ c ∧ Kd.C (Kd.int .u8) w' A (decD l0).length (decD l0) ∧ Below w.heap.size w w' := by
  have d1 : decide ((l0.length : Int) < 64) = false := decide_eq_false (by omega)
  have HOP := Aside0.mk hop
  have HBY := Aside0.mk hb
  have HMX := Aside0.mk hmx
  obtain ⟨X, hX⟩ : ∃ X, openL l0 = X := ⟨_, rfl⟩
  have hXe : X = l0.take (l0.length - 4) := by rw [← hX]; unfold openL; rw [hop, if_pos rfl]
  have HXL := Aside0.mk (show 60 ≤ X.length ∧ X.length < 140737488355000 by rw [hXe, List.length_take]; omega)
  have HXB := Aside0.mk (show byteRow X by rw [hXe]; exact fun c hc => hb c (List.mem_of_mem_take hc))
  have HX := Aside0.mk hX
  have HDE := Aside0.mk (show decE l0 = if headOk X && padOk X then 0 else 4 by unfold decE; rw [if_neg (by omega), hop, if_pos rfl, hX])
  have HDD := Aside0.mk (show decD l0 = if decE l0 = 0 then (X.drop 14).take (be16 X).toNat else [] by unfold decD; rw [hX])
  clear hop hb hmx hX hXe
  have HR := Aside0.mk hr0
  have HC := Aside0.mk hc0
  have hm0 : l0.length ≤ 9223372036854775807 := hr0.2.1
  have hu45 := Try.underlying45
  have hu43 := Try.underlying43
  clear hr0 hc0
  go_enter Try.func35, Try.ntmps35
  go_upto_region 1 with fail
  have hb1 := blk_new w (.cells #[.int .u8 0, .int .u8 0, .int .u8 0, .int .u8 0, .int .u8 0, .int .u8 0, .int .u8 0, .int .u8 0, .int .u8 0, .int .u8 0, .int .u8 0, .int .u8 0, .slice none 0 0] 45 (0, 0))
  have hbw := below_alloc (Below.refl w.heap.size w) (.cells #[.int .u8 0, .int .u8 0, .int .u8 0, .int .u8 0, .int .u8 0, .int .u8 0, .int .u8 0, .int .u8 0, .int .u8 0, .int .u8 0, .int .u8 0, .int .u8 0, .slice none 0 0] 45 (0, 0))
  generalize w.alloc (.cells #[.int .u8 0, .int .u8 0, .int .u8 0, .int .u8 0, .int .u8 0, .int .u8 0, .int .u8 0, .int .u8 0, .int .u8 0, .int .u8 0, .int .u8 0, .int .u8 0, .slice none 0 0] 45) = w1 at hb1 hbw ⊢
  have HB := Aside0.mk hbw
  have H2 := Aside0.mk hb1
  clear hb1 hbw
  go_wp2_with fail
  refine (ref_Open.calls _ _ _ _ (Kd.C_below HR.out HB.out) HC.out HBY.out HMX.out).mono ?_
  rintro e w4 ⟨v4, rfl, hR, hB⟩
  rw [HOP.out]
  rw [HX.out] at hR
  obtain ⟨A4, c4, rfl, hc4, hC4⟩ := Kd.R_reads hR
  obtain ⟨gx, rfl⟩ := R_some_ hR (by have := HXL.out; omega)
  have HC4 := Aside0.mk hC4
  have Hc4 := Aside0.mk hc4
  replace H2 := Aside0.mk (blk_below H2.out hB)
  have HN0 := Aside0.mk (blk_lt H2.out)
  replace HB := Aside0.mk (below_step HB.out hB)
  clear hB hR hC4 hc4
  go_upto_region 7 with fail
  have hbf := blk_new w4 (.cells #[.int .u8 0, .int .u8 0, .int .u8 0, .int .u8 0, .int .u8 0, .int .u8 0, .int .u8 0, .int .u8 0, .int .u8 0, .int .u8 0, .int .u8 0, .int .u8 0, .slice none 0 0] 45 (0, 0))
  have hbw := below_alloc (Below.refl w4.heap.size w4) (.cells #[.int .u8 0, .int .u8 0, .int .u8 0, .int .u8 0, .int .u8 0, .int .u8 0, .int .u8 0, .int .u8 0, .int .u8 0, .int .u8 0, .int .u8 0, .int .u8 0, .slice none 0 0] 45 (0, 0))
  generalize w4.alloc (.cells #[.int .u8 0, .int .u8 0, .int .u8 0, .int .u8 0, .int .u8 0, .int .u8 0, .int .u8 0, .int .u8 0, .int .u8 0, .int .u8 0, .int .u8 0, .int .u8 0, .slice none 0 0] 45) = w5 at hbf hbw ⊢
  obtain ⟨gf, hgf⟩ : ∃ gf, w4.heap.size = gf := ⟨_, rfl⟩
  have HB4 := Aside0.mk hbw
  replace H2 := Aside0.mk (blk_below H2.out hbw)
  replace HB := Aside0.mk (below_step HB.out hbw)
  have HN := Aside0.mk (show w.heap.size < gf by have := HN0.out; omega)
  have HGF := Aside0.mk (Nat.le_of_eq hgf)
  rw [hgf] at hbf ⊢
  have HF := Aside0.mk hbf
  have hxl : 60 ≤ X.length := HXL.out.1
  have hxm : X.length ≤ 9223372036854775807 := by have := HXL.out; omega
  clear hbf hbw hgf HN0
  go_wp2_with fail
  refine wp_loop_rounds 7 ?_
  rw [rounds_succ]
  have hx := (show w5.cell? ⟨gx, 0, none⟩ = some (.int .u8 (hdv X 0)) from byte_at (Kd.C_below HC4.out HB4.out) (by have := HXL.out; omega))
  go_wp2_with (first
    | (refine wpList_store_byte rfl (.tmp 33) (.tmp 31) rfl gf 0 (hdv X 0) #[.int .u8 0, .int .u8 0, .int .u8 0, .int .u8 0, .int .u8 0, .int .u8 0, .int .u8 0, .int .u8 0, .int .u8 0, .int .u8 0, .int .u8 0, .int .u8 0, .slice none 0 0] #[.int .u8 (hdv X 0), .int .u8 0, .int .u8 0, .int .u8 0, .int .u8 0, .int .u8 0, .int .u8 0, .int .u8 0, .int .u8 0, .int .u8 0, .int .u8 0, .int .u8 0, .slice none 0 0] 45 rfl rfl HF.out (show 0 + 1 ≤ 13 from by decide) (by rfl) info5_ ?_; intro r0a hZ hG; replace HF := Aside0.mk hZ; replace H2 := Aside0.mk (blk_grown_ H2.out hG (by have := HN.out; omega)); replace HB := Aside0.mk (below_own HB.out hG (by have := HN.out; omega)); replace HB4 := Aside0.mk (below_own HB4.out hG HGF.out); clear hx; have hx := (show r0a.cell? ⟨gx, 6, none⟩ = some (.int .u8 (hdv X 6)) from byte_at (Kd.C_below HC4.out HB4.out) (by have := HXL.out; omega)); clear hZ hG)
    | (refine wpList_store_byte rfl (.tmp 41) (.tmp 39) rfl gf 6 (hdv X 6) #[.int .u8 (hdv X 0), .int .u8 0, .int .u8 0, .int .u8 0, .int .u8 0, .int .u8 0, .int .u8 0, .int .u8 0, .int .u8 0, .int .u8 0, .int .u8 0, .int .u8 0, .slice none 0 0] #[.int .u8 (hdv X 0), .int .u8 0, .int .u8 0, .int .u8 0, .int .u8 0, .int .u8 0, .int .u8 (hdv X 6), .int .u8 0, .int .u8 0, .int .u8 0, .int .u8 0, .int .u8 0, .slice none 0 0] 45 rfl rfl HF.out (show 6 + 1 ≤ 13 from by decide) (by rfl) info5_ ?_; intro r0b hZ hG; replace HF := Aside0.mk hZ; replace H2 := Aside0.mk (blk_grown_ H2.out hG (by have := HN.out; omega)); replace HB := Aside0.mk (below_own HB.out hG (by have := HN.out; omega)); replace HB4 := Aside0.mk (below_own HB4.out hG HGF.out); clear hx hZ hG))
  rw [rounds_succ]
  have hx := (show r0b.cell? ⟨gx, 1, none⟩ = some (.int .u8 (hdv X 1)) from byte_at (Kd.C_below HC4.out HB4.out) (by have := HXL.out; omega))
  go_wp2_with (first
    | (refine wpList_store_byte rfl (.tmp 33) (.tmp 31) rfl gf 1 (hdv X 1) #[.int .u8 (hdv X 0), .int .u8 0, .int .u8 0, .int .u8 0, .int .u8 0, .int .u8 0, .int .u8 (hdv X 6), .int .u8 0, .int .u8 0, .int .u8 0, .int .u8 0, .int .u8 0, .slice none 0 0] #[.int .u8 (hdv X 0), .int .u8 (hdv X 1), .int .u8 0, .int .u8 0, .int .u8 0, .int .u8 0, .int .u8 (hdv X 6), .int .u8 0, .int .u8 0, .int .u8 0, .int .u8 0, .int .u8 0, .slice none 0 0] 45 rfl rfl HF.out (show 1 + 1 ≤ 13 from by decide) (by rfl) info5_ ?_; intro r1a hZ hG; replace HF := Aside0.mk hZ; replace H2 := Aside0.mk (blk_grown_ H2.out hG (by have := HN.out; omega)); replace HB := Aside0.mk (below_own HB.out hG (by have := HN.out; omega)); replace HB4 := Aside0.mk (below_own HB4.out hG HGF.out); clear hx; have hx := (show r1a.cell? ⟨gx, 7, none⟩ = some (.int .u8 (hdv X 7)) from byte_at (Kd.C_below HC4.out HB4.out) (by have := HXL.out; omega)); clear hZ hG)
    | (refine wpList_store_byte rfl (.tmp 41) (.tmp 39) rfl gf 7 (hdv X 7) #[.int .u8 (hdv X 0), .int .u8 (hdv X 1), .int .u8 0, .int .u8 0, .int .u8 0, .int .u8 0, .int .u8 (hdv X 6), .int .u8 0, .int .u8 0, .int .u8 0, .int .u8 0, .int .u8 0, .slice none 0 0] #[.int .u8 (hdv X 0), .int .u8 (hdv X 1), .int .u8 0, .int .u8 0, .int .u8 0, .int .u8 0, .int .u8 (hdv X 6), .int .u8 (hdv X 7), .int .u8 0, .int .u8 0, .int .u8 0, .int .u8 0, .slice none 0 0] 45 rfl rfl HF.out (show 7 + 1 ≤ 13 from by decide) (by rfl) info5_ ?_; intro r1b hZ hG; replace HF := Aside0.mk hZ; replace H2 := Aside0.mk (blk_grown_ H2.out hG (by have := HN.out; omega)); replace HB := Aside0.mk (below_own HB.out hG (by have := HN.out; omega)); replace HB4 := Aside0.mk (below_own HB4.out hG HGF.out); clear hx hZ hG))
  rw [rounds_succ]
  have hx := (show r1b.cell? ⟨gx, 2, none⟩ = some (.int .u8 (hdv X 2)) from byte_at (Kd.C_below HC4.out HB4.out) (by have := HXL.out; omega))
  go_wp2_with (first
    | (refine wpList_store_byte rfl (.tmp 33) (.tmp 31) rfl gf 2 (hdv X 2) #[.int .u8 (hdv X 0), .int .u8 (hdv X 1), .int .u8 0, .int .u8 0, .int .u8 0, .int .u8 0, .int .u8 (hdv X 6), .int .u8 (hdv X 7), .int .u8 0, .int .u8 0, .int .u8 0, .int .u8 0, .slice none 0 0] #[.int .u8 (hdv X 0), .int .u8 (hdv X 1), .int .u8 (hdv X 2), .int .u8 0, .int .u8 0, .int .u8 0, .int .u8 (hdv X 6), .int .u8 (hdv X 7), .int .u8 0, .int .u8 0, .int .u8 0, .int .u8 0, .slice none 0 0] 45 rfl rfl HF.out (show 2 + 1 ≤ 13 from by decide) (by rfl) info5_ ?_; intro r2a hZ hG; replace HF := Aside0.mk hZ; replace H2 := Aside0.mk (blk_grown_ H2.out hG (by have := HN.out; omega)); replace HB := Aside0.mk (below_own HB.out hG (by have := HN.out; omega)); replace HB4 := Aside0.mk (below_own HB4.out hG HGF.out); clear hx; have hx := (show r2a.cell? ⟨gx, 8, none⟩ = some (.int .u8 (hdv X 8)) from byte_at (Kd.C_below HC4.out HB4.out) (by have := HXL.out; omega)); clear hZ hG)
    | (refine wpList_store_byte rfl (.tmp 41) (.tmp 39) rfl gf 8 (hdv X 8) #[.int .u8 (hdv X 0), .int .u8 (hdv X 1), .int .u8 (hdv X 2), .int .u8 0, .int .u8 0, .int .u8 0, .int .u8 (hdv X 6), .int .u8 (hdv X 7), .int .u8 0, .int .u8 0, .int .u8 0, .int .u8 0, .slice none 0 0] #[.int .u8 (hdv X 0), .int .u8 (hdv X 1), .int .u8 (hdv X 2), .int .u8 0, .int .u8 0, .int .u8 0, .int .u8 (hdv X 6), .int .u8 (hdv X 7), .int .u8 (hdv X 8), .int .u8 0, .int .u8 0, .int .u8 0, .slice none 0 0] 45 rfl rfl HF.out (show 8 + 1 ≤ 13 from by decide) (by rfl) info5_ ?_; intro r2b hZ hG; replace HF := Aside0.mk hZ; replace H2 := Aside0.mk (blk_grown_ H2.out hG (by have := HN.out; omega)); replace HB := Aside0.mk (below_own HB.out hG (by have := HN.out; omega)); replace HB4 := Aside0.mk (below_own HB4.out hG HGF.out); clear hx hZ hG))
  rw [rounds_succ]
  have hx := (show r2b.cell? ⟨gx, 3, none⟩ = some (.int .u8 (hdv X 3)) from byte_at (Kd.C_below HC4.out HB4.out) (by have := HXL.out; omega))
  go_wp2_with (first
    | (refine wpList_store_byte rfl (.tmp 33) (.tmp 31) rfl gf 3 (hdv X 3) #[.int .u8 (hdv X 0), .int .u8 (hdv X 1), .int .u8 (hdv X 2), .int .u8 0, .int .u8 0, .int .u8 0, .int .u8 (hdv X 6), .int .u8 (hdv X 7), .int .u8 (hdv X 8), .int .u8 0, .int .u8 0, .int .u8 0, .slice none 0 0] #[.int .u8 (hdv X 0), .int .u8 (hdv X 1), .int .u8 (hdv X 2), .int .u8 (hdv X 3), .int .u8 0, .int .u8 0, .int .u8 (hdv X 6), .int .u8 (hdv X 7), .int .u8 (hdv X 8), .int .u8 0, .int .u8 0, .int .u8 0, .slice none 0 0] 45 rfl rfl HF.out (show 3 + 1 ≤ 13 from by decide) (by rfl) info5_ ?_; intro r3a hZ hG; replace HF := Aside0.mk hZ; replace H2 := Aside0.mk (blk_grown_ H2.out hG (by have := HN.out; omega)); replace HB := Aside0.mk (below_own HB.out hG (by have := HN.out; omega)); replace HB4 := Aside0.mk (below_own HB4.out hG HGF.out); clear hx; have hx := (show r3a.cell? ⟨gx, 9, none⟩ = some (.int .u8 (hdv X 9)) from byte_at (Kd.C_below HC4.out HB4.out) (by have := HXL.out; omega)); clear hZ hG)
    | (refine wpList_store_byte rfl (.tmp 41) (.tmp 39) rfl gf 9 (hdv X 9) #[.int .u8 (hdv X 0), .int .u8 (hdv X 1), .int .u8 (hdv X 2), .int .u8 (hdv X 3), .int .u8 0, .int .u8 0, .int .u8 (hdv X 6), .int .u8 (hdv X 7), .int .u8 (hdv X 8), .int .u8 0, .int .u8 0, .int .u8 0, .slice none 0 0] #[.int .u8 (hdv X 0), .int .u8 (hdv X 1), .int .u8 (hdv X 2), .int .u8 (hdv X 3), .int .u8 0, .int .u8 0, .int .u8 (hdv X 6), .int .u8 (hdv X 7), .int .u8 (hdv X 8), .int .u8 (hdv X 9), .int .u8 0, .int .u8 0, .slice none 0 0] 45 rfl rfl HF.out (show 9 + 1 ≤ 13 from by decide) (by rfl) info5_ ?_; intro r3b hZ hG; replace HF := Aside0.mk hZ; replace H2 := Aside0.mk (blk_grown_ H2.out hG (by have := HN.out; omega)); replace HB := Aside0.mk (below_own HB.out hG (by have := HN.out; omega)); replace HB4 := Aside0.mk (below_own HB4.out hG HGF.out); clear hx hZ hG))
  rw [rounds_succ]
  have hx := (show r3b.cell? ⟨gx, 4, none⟩ = some (.int .u8 (hdv X 4)) from byte_at (Kd.C_below HC4.out HB4.out) (by have := HXL.out; omega))
  go_wp2_with (first
    | (refine wpList_store_byte rfl (.tmp 33) (.tmp 31) rfl gf 4 (hdv X 4) #[.int .u8 (hdv X 0), .int .u8 (hdv X 1), .int .u8 (hdv X 2), .int .u8 (hdv X 3), .int .u8 0, .int .u8 0, .int .u8 (hdv X 6), .int .u8 (hdv X 7), .int .u8 (hdv X 8), .int .u8 (hdv X 9), .int .u8 0, .int .u8 0, .slice none 0 0] #[.int .u8 (hdv X 0), .int .u8 (hdv X 1), .int .u8 (hdv X 2), .int .u8 (hdv X 3), .int .u8 (hdv X 4), .int .u8 0, .int .u8 (hdv X 6), .int .u8 (hdv X 7), .int .u8 (hdv X 8), .int .u8 (hdv X 9), .int .u8 0, .int .u8 0, .slice none 0 0] 45 rfl rfl HF.out (show 4 + 1 ≤ 13 from by decide) (by rfl) info5_ ?_; intro r4a hZ hG; replace HF := Aside0.mk hZ; replace H2 := Aside0.mk (blk_grown_ H2.out hG (by have := HN.out; omega)); replace HB := Aside0.mk (below_own HB.out hG (by have := HN.out; omega)); replace HB4 := Aside0.mk (below_own HB4.out hG HGF.out); clear hx; have hx := (show r4a.cell? ⟨gx, 10, none⟩ = some (.int .u8 (hdv X 10)) from byte_at (Kd.C_below HC4.out HB4.out) (by have := HXL.out; omega)); clear hZ hG)
    | (refine wpList_store_byte rfl (.tmp 41) (.tmp 39) rfl gf 10 (hdv X 10) #[.int .u8 (hdv X 0), .int .u8 (hdv X 1), .int .u8 (hdv X 2), .int .u8 (hdv X 3), .int .u8 (hdv X 4), .int .u8 0, .int .u8 (hdv X 6), .int .u8 (hdv X 7), .int .u8 (hdv X 8), .int .u8 (hdv X 9), .int .u8 0, .int .u8 0, .slice none 0 0] #[.int .u8 (hdv X 0), .int .u8 (hdv X 1), .int .u8 (hdv X 2), .int .u8 (hdv X 3), .int .u8 (hdv X 4), .int .u8 0, .int .u8 (hdv X 6), .int .u8 (hdv X 7), .int .u8 (hdv X 8), .int .u8 (hdv X 9), .int .u8 (hdv X 10), .int .u8 0, .slice none 0 0] 45 rfl rfl HF.out (show 10 + 1 ≤ 13 from by decide) (by rfl) info5_ ?_; intro r4b hZ hG; replace HF := Aside0.mk hZ; replace H2 := Aside0.mk (blk_grown_ H2.out hG (by have := HN.out; omega)); replace HB := Aside0.mk (below_own HB.out hG (by have := HN.out; omega)); replace HB4 := Aside0.mk (below_own HB4.out hG HGF.out); clear hx hZ hG))
  rw [rounds_succ]
  have hx := (show r4b.cell? ⟨gx, 5, none⟩ = some (.int .u8 (hdv X 5)) from byte_at (Kd.C_below HC4.out HB4.out) (by have := HXL.out; omega))
  go_wp2_with (first
    | (refine wpList_store_byte rfl (.tmp 33) (.tmp 31) rfl gf 5 (hdv X 5) #[.int .u8 (hdv X 0), .int .u8 (hdv X 1), .int .u8 (hdv X 2), .int .u8 (hdv X 3), .int .u8 (hdv X 4), .int .u8 0, .int .u8 (hdv X 6), .int .u8 (hdv X 7), .int .u8 (hdv X 8), .int .u8 (hdv X 9), .int .u8 (hdv X 10), .int .u8 0, .slice none 0 0] #[.int .u8 (hdv X 0), .int .u8 (hdv X 1), .int .u8 (hdv X 2), .int .u8 (hdv X 3), .int .u8 (hdv X 4), .int .u8 (hdv X 5), .int .u8 (hdv X 6), .int .u8 (hdv X 7), .int .u8 (hdv X 8), .int .u8 (hdv X 9), .int .u8 (hdv X 10), .int .u8 0, .slice none 0 0] 45 rfl rfl HF.out (show 5 + 1 ≤ 13 from by decide) (by rfl) info5_ ?_; intro r5a hZ hG; replace HF := Aside0.mk hZ; replace H2 := Aside0.mk (blk_grown_ H2.out hG (by have := HN.out; omega)); replace HB := Aside0.mk (below_own HB.out hG (by have := HN.out; omega)); replace HB4 := Aside0.mk (below_own HB4.out hG HGF.out); clear hx; have hx := (show r5a.cell? ⟨gx, 11, none⟩ = some (.int .u8 (hdv X 11)) from byte_at (Kd.C_below HC4.out HB4.out) (by have := HXL.out; omega)); clear hZ hG)
    | (refine wpList_store_byte rfl (.tmp 41) (.tmp 39) rfl gf 11 (hdv X 11) #[.int .u8 (hdv X 0), .int .u8 (hdv X 1), .int .u8 (hdv X 2), .int .u8 (hdv X 3), .int .u8 (hdv X 4), .int .u8 (hdv X 5), .int .u8 (hdv X 6), .int .u8 (hdv X 7), .int .u8 (hdv X 8), .int .u8 (hdv X 9), .int .u8 (hdv X 10), .int .u8 0, .slice none 0 0] #[.int .u8 (hdv X 0), .int .u8 (hdv X 1), .int .u8 (hdv X 2), .int .u8 (hdv X 3), .int .u8 (hdv X 4), .int .u8 (hdv X 5), .int .u8 (hdv X 6), .int .u8 (hdv X 7), .int .u8 (hdv X 8), .int .u8 (hdv X 9), .int .u8 (hdv X 10), .int .u8 (hdv X 11), .slice none 0 0] 45 rfl rfl HF.out (show 11 + 1 ≤ 13 from by decide) (by rfl) info5_ ?_; intro r5b hZ hG; replace HF := Aside0.mk hZ; replace H2 := Aside0.mk (blk_grown_ H2.out hG (by have := HN.out; omega)); replace HB := Aside0.mk (below_own HB.out hG (by have := HN.out; omega)); replace HB4 := Aside0.mk (below_own HB4.out hG HGF.out); clear hx hZ hG))
  rw [rounds_succ]
  have q1 := cut_part gx X.length c4 12 14 (by decide) (by have := HXL.out; omega) Hc4.out (by have := HXL.out; have := Hc4.out; omega)
  rw [show ((12 : Nat) : Int) = 12 from rfl, show ((14 : Nat) : Int) = 14 from rfl, show 14 - 12 = 2 from rfl] at q1
  have HGF := Aside0.mk (rget2 HXB.out (by have := HXL.out; omega))
  have HGC := Aside0.mk (piece_C HC4.out 12 2 (by have := HXL.out; omega))
  have hGl : ((X.drop 12).take 2).length = 2 := by rw [List.length_take, List.length_drop]; have := HXL.out; omega
  generalize (X.drop 12).take 2 = G at HGF HGC hGl
  have HGE := Aside0.mk (antiphonref1_Get.calls 11 (some ⟨gx, 12, none⟩) (c4 - 12) G (be16 X))
  rw [hGl] at HGE
  clear hGl
  go_wp2_with fail
  refine (HGE.out _ (Kd.C_below HGC.out HB4.out) (by have := HXL.out; have := Hc4.out; omega) HGF.out).mono ?_
  rintro e w6 ⟨rfl, hd⟩
  have hB := Drawn0.below hd
  replace HF := Aside0.mk (blk_below HF.out hB)
  replace H2 := Aside0.mk (blk_below H2.out hB)
  replace HB := Aside0.mk (below_step HB.out hB)
  replace HB4 := Aside0.mk (below_step HB4.out hB)
  clear hB hd q1 HGE HGC HGF
  obtain ⟨nn, hnn, hn6⟩ := be16_nat HXB.out
  obtain ⟨mm, hM⟩ : ∃ mm : Nat, (if (nn : Int) < 46 then 46 else (nn : Int)) = (mm : Int) := ⟨if nn < 46 then 46 else nn, by split <;> split <;> omega⟩
  have HMM := Aside0.mk (show nn ≤ mm ∧ mm ≤ 65535 by split at hM <;> omega)
  have HPD := Aside0.mk (show padOk X = (X.drop (14 + nn)).all (· == 0) by unfold padOk; rw [hnn, Int.toNat_natCast])
  have HDY := Aside0.mk (show decD l0 = if decE l0 = 0 then (X.drop 14).take nn else [] by rw [HDD.out, hnn, Int.toNat_natCast])
  have HHD := Aside0.mk (show headOk X = (!isGrp (hdv X 6) && decide ((nn : Int) ≤ 1500) && decide ((X.length : Int) = 14 + (mm : Int))) by
    unfold headOk
    rw [hnn, hM, show decide ((X.length : Int) - 14 = (mm : Int)) = decide ((X.length : Int) = 14 + (mm : Int)) from decide_eq_decide.2 ⟨fun h => by omega, fun h => by omega⟩])
  rw [hnn]
  have HN65 := Aside0.mk hn6
  have hn65 : nn ≤ 65535 := hn6
  have hm65 : mm ≤ 65535 := HMM.out.2
  clear hnn HDD hn6
  have hk6 := (show w6.cell? ⟨gf, 6, none⟩ = some (.int .u8 (hdv X 6)) from (blk_cell HF.out 6).trans rfl)
  have hk7 := (show w6.cell? ⟨gf, 7, none⟩ = some (.int .u8 (hdv X 7)) from (blk_cell HF.out 7).trans rfl)
  have hk8 := (show w6.cell? ⟨gf, 8, none⟩ = some (.int .u8 (hdv X 8)) from (blk_cell HF.out 8).trans rfl)
  have hk9 := (show w6.cell? ⟨gf, 9, none⟩ = some (.int .u8 (hdv X 9)) from (blk_cell HF.out 9).trans rfl)
  have hk10 := (show w6.cell? ⟨gf, 10, none⟩ = some (.int .u8 (hdv X 10)) from (blk_cell HF.out 10).trans rfl)
  have hk11 := (show w6.cell? ⟨gf, 11, none⟩ = some (.int .u8 (hdv X 11)) from (blk_cell HF.out 11).trans rfl)
  go_wp2_with fail
  refine (antiphonref1_Group.calls _ _ _ _ _ _ _ _ (rgrp_f _ _ _ _ _ _)).mono ?_
  rintro e w7 ⟨rfl, hB⟩
  replace HF := Aside0.mk (blk_below HF.out hB)
  replace H2 := Aside0.mk (blk_below H2.out hB)
  replace HB := Aside0.mk (below_step HB.out hB)
  replace HB4 := Aside0.mk (below_step HB4.out hB)
  clear hB hk6 hk7 hk8 hk9 hk10 hk11
  cases hgg : isGrp (hdv X 6) with
  | true =>
    rw [hgg] at HHD
    clear hgg
    have hde : decE l0 = 4 := by rw [HDE.out, HHD.out]; rfl
    obtain ⟨hfr, hnil⟩ := frame_no hde
    have HFR := Aside0.mk hfr
    have HNIL := Aside0.mk hnil
    have HDE4 := Aside0.mk hde
    clear hfr hnil hde
    go_wp2_with (first
      | (refine wpList_store_part rfl 45 (.tmp 2) (.tmp 60) rfl w.heap.size 0 #[.int .u8 0, .int .u8 0, .int .u8 0, .int .u8 0, .int .u8 0, .int .u8 0, .int .u8 0, .int .u8 0, .int .u8 0, .int .u8 0, .int .u8 0, .int .u8 0, .slice none 0 0] #[.int .u8 0, .int .u8 0, .int .u8 0, .int .u8 0, .int .u8 0, .int .u8 0, .int .u8 0, .int .u8 0, .int .u8 0, .int .u8 0, .int .u8 0, .int .u8 0, .slice none 0 0] #[.int .u8 0, .int .u8 0, .int .u8 0, .int .u8 0, .int .u8 0, .int .u8 0, .int .u8 0, .int .u8 0, .int .u8 0, .int .u8 0, .int .u8 0, .int .u8 0, .slice none 0 0] 45 rfl rfl H2.out (by decide) (by rfl) info45_ (by rfl) ?_; intro wz hZ hG; replace H2 := Aside0.mk hZ; replace HB := Aside0.mk (below_own HB.out hG (Nat.le_refl _)); clear hZ hG))
    refine bodyPost_ret (results_frame rfl _ _ w.heap.size _ rfl rfl H2.out) rfl ⟨none, 0, by rw [HFR.out, HDE4.out]; rfl, by rw [HNIL.out]; exact Nat.le_refl _, by rw [HNIL.out]; exact C_nil _, HB.out⟩
  | false =>
    rw [hgg] at HHD
    clear hgg
    by_cases h15 : 1500 < nn
    · have d15 : decide ((1500 : Int) < (nn : Int)) = true := decide_eq_true (by omega)
      have HH0 := Aside0.mk (show headOk X = false by rw [HHD.out, decide_eq_false (show ¬ (nn : Int) ≤ 1500 by omega)]; rfl)
      clear h15
      have hde : decE l0 = 4 := by rw [HDE.out, HH0.out]; rfl
      obtain ⟨hfr, hnil⟩ := frame_no hde
      have HFR := Aside0.mk hfr
      have HNIL := Aside0.mk hnil
      have HDE4 := Aside0.mk hde
      clear hfr hnil hde
      go_wp2_with (first
        | (refine wpList_store_part rfl 45 (.tmp 2) (.tmp 60) rfl w.heap.size 0 #[.int .u8 0, .int .u8 0, .int .u8 0, .int .u8 0, .int .u8 0, .int .u8 0, .int .u8 0, .int .u8 0, .int .u8 0, .int .u8 0, .int .u8 0, .int .u8 0, .slice none 0 0] #[.int .u8 0, .int .u8 0, .int .u8 0, .int .u8 0, .int .u8 0, .int .u8 0, .int .u8 0, .int .u8 0, .int .u8 0, .int .u8 0, .int .u8 0, .int .u8 0, .slice none 0 0] #[.int .u8 0, .int .u8 0, .int .u8 0, .int .u8 0, .int .u8 0, .int .u8 0, .int .u8 0, .int .u8 0, .int .u8 0, .int .u8 0, .int .u8 0, .int .u8 0, .slice none 0 0] 45 rfl rfl H2.out (by decide) (by rfl) info45_ (by rfl) ?_; intro wz hZ hG; replace H2 := Aside0.mk hZ; replace HB := Aside0.mk (below_own HB.out hG (Nat.le_refl _)); clear hZ hG))
      refine bodyPost_ret (results_frame rfl _ _ w.heap.size _ rfl rfl H2.out) rfl ⟨none, 0, by rw [HFR.out, HDE4.out]; rfl, by rw [HNIL.out]; exact Nat.le_refl _, by rw [HNIL.out]; exact C_nil _, HB.out⟩
    have d15 : decide ((1500 : Int) < (nn : Int)) = false := decide_eq_false (by omega)
    by_cases hyn : X.length = 14 + mm
    case neg =>
      have b1 : ((X.length : Int) != 14 + (mm : Int)) = true := bne_iff_ne.mpr (by omega)
      have HH0 := Aside0.mk (show headOk X = false by rw [HHD.out, decide_eq_false (show ¬ (X.length : Int) = 14 + (mm : Int) by omega), Bool.and_false])
      clear hyn
      have hde : decE l0 = 4 := by rw [HDE.out, HH0.out]; rfl
      obtain ⟨hfr, hnil⟩ := frame_no hde
      have HFR := Aside0.mk hfr
      have HNIL := Aside0.mk hnil
      have HDE4 := Aside0.mk hde
      clear hfr hnil hde
      go_wp2_with (first
        | (refine wpList_store_part rfl 45 (.tmp 2) (.tmp 60) rfl w.heap.size 0 #[.int .u8 0, .int .u8 0, .int .u8 0, .int .u8 0, .int .u8 0, .int .u8 0, .int .u8 0, .int .u8 0, .int .u8 0, .int .u8 0, .int .u8 0, .int .u8 0, .slice none 0 0] #[.int .u8 0, .int .u8 0, .int .u8 0, .int .u8 0, .int .u8 0, .int .u8 0, .int .u8 0, .int .u8 0, .int .u8 0, .int .u8 0, .int .u8 0, .int .u8 0, .slice none 0 0] #[.int .u8 0, .int .u8 0, .int .u8 0, .int .u8 0, .int .u8 0, .int .u8 0, .int .u8 0, .int .u8 0, .int .u8 0, .int .u8 0, .int .u8 0, .int .u8 0, .slice none 0 0] 45 rfl rfl H2.out (by decide) (by rfl) info45_ (by rfl) ?_; intro wz hZ hG; replace H2 := Aside0.mk hZ; replace HB := Aside0.mk (below_own HB.out hG (Nat.le_refl _)); clear hZ hG))
      refine bodyPost_ret (results_frame rfl _ _ w.heap.size _ rfl rfl H2.out) rfl ⟨none, 0, by rw [HFR.out, HDE4.out]; rfl, by rw [HNIL.out]; exact Nat.le_refl _, by rw [HNIL.out]; exact C_nil _, HB.out⟩
    have b1 : ((X.length : Int) != 14 + (mm : Int)) = false := bne_eq_false_iff_eq.mpr (by omega)
    have HHT := Aside0.mk (show headOk X = true by rw [HHD.out, decide_eq_true (show (nn : Int) ≤ 1500 by omega), decide_eq_true (show (X.length : Int) = 14 + (mm : Int) by omega)]; rfl)
    have HNY := Aside0.mk (show 14 + nn ≤ X.length by have := HMM.out; omega)
    clear hyn h15
    go_wp2_with fail
    go_loop [9] (fun v9 => ∃ k : Nat, 14 + nn ≤ k ∧ k ≤ X.length ∧ v9 = .int .i64 k ∧ Aside0 (∀ j, 14 + nn ≤ j → j < k → X.getD j 0 = 0)) (fun v9 => X.length - (intOf v9).toNat)
    case atStart => exact ⟨14 + nn, Nat.le_refl _, HNY.out, by rw [Int.natCast_add]; rfl, ⟨fun j h1 h2 => absurd h2 (Nat.not_lt.2 h1)⟩⟩
    case round =>
      obtain ⟨k, hk0, hk, rfl, HZ⟩ := hrel
      by_cases hlt : k < X.length
      · have hx := (show w7.cell? ⟨gx, k, none⟩ = some (.int .u8 (hdv X k)) from byte_at (Kd.C_below HC4.out HB4.out) hlt)
        have HK0 := Aside0.mk hk0
        clear hk0
        by_cases hc : X.getD k 0 = 0
        · rw [show hdv X k = 0 from hc] at hx
          have HC0 := Aside0.mk hc
          clear hc
          go_wp2_with fail
          go_round
          case rel => exact ⟨k + 1, by have := HK0.out; omega, by omega, by go_num, ⟨fun j h1 hj => by rcases Nat.lt_succ_iff_lt_or_eq.mp hj with h | rfl; exact HZ.out j h1 h; exact HC0.out⟩⟩
          case measure => simp [intOf]; omega
        · have HPF := Aside0.mk (show padOk X = false by
            rw [HPD.out]
            refine Bool.eq_false_iff.mpr fun h => hc ?_
            have hm : X.getD k 0 ∈ X.drop (14 + nn) := by
              rw [List.getD_eq_getElem?_getD, List.getElem?_eq_getElem hlt, Option.getD_some]
              refine List.mem_iff_getElem?.2 ⟨k - (14 + nn), ?_⟩
              rw [List.getElem?_drop, show 14 + nn + (k - (14 + nn)) = k by have := HK0.out; omega, List.getElem?_eq_getElem hlt]
            have := List.all_eq_true.mp h _ hm
            simpa using this)
          have bc : (hdv X k != 0) = true := bne_iff_ne.mpr hc
          generalize hdv X k = c at hx bc
          clear hc
          have hde : decE l0 = 4 := by rw [HDE.out, HPF.out, Bool.and_false]; rfl
          obtain ⟨hfr, hnil⟩ := frame_no hde
          have HFR := Aside0.mk hfr
          have HNIL := Aside0.mk hnil
          have HDE4 := Aside0.mk hde
          clear hfr hnil hde
          go_wp2_with (first
            | (refine wpList_store_part rfl 45 (.tmp 2) (.tmp 74) rfl w.heap.size 0 #[.int .u8 0, .int .u8 0, .int .u8 0, .int .u8 0, .int .u8 0, .int .u8 0, .int .u8 0, .int .u8 0, .int .u8 0, .int .u8 0, .int .u8 0, .int .u8 0, .slice none 0 0] #[.int .u8 0, .int .u8 0, .int .u8 0, .int .u8 0, .int .u8 0, .int .u8 0, .int .u8 0, .int .u8 0, .int .u8 0, .int .u8 0, .int .u8 0, .int .u8 0, .slice none 0 0] #[.int .u8 0, .int .u8 0, .int .u8 0, .int .u8 0, .int .u8 0, .int .u8 0, .int .u8 0, .int .u8 0, .int .u8 0, .int .u8 0, .int .u8 0, .int .u8 0, .slice none 0 0] 45 rfl rfl H2.out (by decide) (by rfl) info45_ (by rfl) ?_; intro wz hZ hG; replace H2 := Aside0.mk hZ; replace HB := Aside0.mk (below_own HB.out hG (Nat.le_refl _)); clear hZ hG))
          refine bodyPost_ret (results_frame rfl _ _ w.heap.size _ rfl rfl H2.out) rfl ⟨none, 0, by rw [HFR.out, HDE4.out]; rfl, by rw [HNIL.out]; exact Nat.le_refl _, by rw [HNIL.out]; exact C_nil _, HB.out⟩
      · obtain rfl : k = X.length := by omega
        have HPT := Aside0.mk (show padOk X = true by
          rw [HPD.out, List.all_eq_true]
          intro c hc
          obtain ⟨j, hj, rfl⟩ := List.getElem_of_mem hc
          have hj2 : 14 + nn + j < X.length := by rw [List.length_drop] at hj; omega
          have := HZ.out (14 + nn + j) (by omega) hj2
          rw [List.getD_eq_getElem?_getD, List.getElem?_eq_getElem hj2] at this
          rw [List.getElem_drop]
          simpa using this)
        have HE0 := Aside0.mk (show decE l0 = 0 by rw [HDE.out, HHT.out, HPT.out]; rfl)
        have HDD0 := Aside0.mk (show decD l0 = (X.drop 14).take nn by rw [HDY.out, HE0.out, if_pos rfl])
        have q2 := cut_part gx X.length c4 14 (14 + nn) (by omega) HNY.out Hc4.out (by have := HXL.out; have := Hc4.out; omega)
        rw [show ((14 : Nat) : Int) = 14 from rfl, show ((14 + nn : Nat) : Int) = 14 + (nn : Int) from rfl, show 14 + nn - 14 = nn by omega] at q2
        obtain ⟨Y, hY⟩ : ∃ Y, (X.drop 14).take nn = Y := ⟨_, rfl⟩
        have hYl : Y.length = nn := by rw [← hY, List.length_take, List.length_drop]; have := HNY.out; omega
        have HYC := Aside0.mk (piece_C HC4.out 14 nn HNY.out)
        rw [hY] at HYC HDD0
        have HCP := Aside0.mk (antiphonref1_Copy.calls (nn + 1) (some ⟨gx, 14, none⟩) (c4 - 14) Y Y)
        have HCF := Aside0.mk (show antiphonref1_Copy.f (nn + 1) Y = some Y by have := copy_any (a := Y) (by rw [hYl]; omega); rw [hYl] at this; exact this)
        rw [hYl] at HCP
        have HYL := Aside0.mk hYl
        have HG7 := Aside0.mk (blk_lt HF.out)
        clear hY hYl hlt hk hk0
        go_wp2_with fail
        refine (HCP.out _ (Kd.C_below HYC.out HB4.out) (by have := HNY.out; have := Hc4.out; omega) HCF.out).mono ?_
        rintro e w8 ⟨v8, rfl, hR, hB⟩
        replace HF := Aside0.mk (blk_below HF.out hB)
        replace H2 := Aside0.mk (blk_below H2.out hB)
        replace HB := Aside0.mk (below_step HB.out hB)
        have HD := Aside0.mk hR
        have hc12 := (show w8.cell? ⟨gf, 12, none⟩ = some (.slice none 0 0) from (blk_cell HF.out 12).trans rfl)
        have hf12 := blk_frozen HF.out 12
        clear hR hB q2
        obtain ⟨AD, cD, rfl⟩ := Kd.R_slice HD.out
        obtain ⟨dl, hdl⟩ : ∃ dl, Y.length = dl := ⟨_, rfl⟩
        rw [hdl] at HD ⊢
        go_upto_region 21 with fail
        have hF' := blk_put HF.out 12 (.slice AD dl cD) (cs' := #[.int .u8 (hdv X 0), .int .u8 (hdv X 1), .int .u8 (hdv X 2), .int .u8 (hdv X 3), .int .u8 (hdv X 4), .int .u8 (hdv X 5), .int .u8 (hdv X 6), .int .u8 (hdv X 7), .int .u8 (hdv X 8), .int .u8 (hdv X 9), .int .u8 (hdv X 10), .int .u8 (hdv X 11), .slice AD dl cD]) rfl
        have hD' := Kd.R_set HD.out HF.out (by decide) 12 (.slice AD dl cD)
        have hG := only_set (w := w8) (g := gf) 12 (.slice AD dl cD)
        generalize w8.setCell ⟨gf, 12, none⟩ (.slice AD dl cD) = w9 at hF' hD' hG ⊢
        replace H2 := Aside0.mk (blk_grown_ H2.out hG (by have := HN.out; omega))
        replace HB := Aside0.mk (below_own HB.out hG (by have := HN.out; omega))
        replace HF := Aside0.mk hF'
        replace HD := Aside0.mk hD'
        have HDL := Aside0.mk hdl
        have HFR := Aside0.mk (frame_yes HE0.out HX.out AD dl cD)
        clear hF' hD' hG hc12 hf12 hdl
        go_wp2_with ((refine wpList_load_row rfl 45 (.tmp 6) rfl gf rfl 45 #[.int .u8 (hdv X 0), .int .u8 (hdv X 1), .int .u8 (hdv X 2), .int .u8 (hdv X 3), .int .u8 (hdv X 4), .int .u8 (hdv X 5), .int .u8 (hdv X 6), .int .u8 (hdv X 7), .int .u8 (hdv X 8), .int .u8 (hdv X 9), .int .u8 (hdv X 10), .int .u8 (hdv X 11), .slice AD dl cD] (0, 0) _ HF.out Try.underlying45 rfl info45_ ?_; refine wpList_store_part rfl 45 (.tmp 2) (.tmp 81) rfl w.heap.size 0 #[.int .u8 (hdv X 0), .int .u8 (hdv X 1), .int .u8 (hdv X 2), .int .u8 (hdv X 3), .int .u8 (hdv X 4), .int .u8 (hdv X 5), .int .u8 (hdv X 6), .int .u8 (hdv X 7), .int .u8 (hdv X 8), .int .u8 (hdv X 9), .int .u8 (hdv X 10), .int .u8 (hdv X 11), .slice AD dl cD] #[.int .u8 0, .int .u8 0, .int .u8 0, .int .u8 0, .int .u8 0, .int .u8 0, .int .u8 0, .int .u8 0, .int .u8 0, .int .u8 0, .int .u8 0, .int .u8 0, .slice none 0 0] #[.int .u8 (hdv X 0), .int .u8 (hdv X 1), .int .u8 (hdv X 2), .int .u8 (hdv X 3), .int .u8 (hdv X 4), .int .u8 (hdv X 5), .int .u8 (hdv X 6), .int .u8 (hdv X 7), .int .u8 (hdv X 8), .int .u8 (hdv X 9), .int .u8 (hdv X 10), .int .u8 (hdv X 11), .slice AD dl cD] 45 rfl rfl H2.out (show 0 + 13 ≤ 13 from by decide) (overRow_all _ _ rfl) info45_ (by rfl) ?_; intro wz hZ hG; replace HD := Aside0.mk (R_pastG HD.out hG (by have := HG7.out; have := HN.out; omega)); replace H2 := Aside0.mk hZ; replace HB := Aside0.mk (below_own HB.out hG (Nat.le_refl _)); clear hZ hG))
        refine bodyPost_ret (results_frame rfl _ _ w.heap.size _ rfl rfl H2.out) rfl ?_
        obtain ⟨A_, c_, he_, hcl_, hC_⟩ := Kd.R_reads HD.out
        injection he_ with e1_ e2_ e3_
        subst e1_
        subst e3_
        refine ⟨AD, cD, ?_, ?_, ?_, HB.out⟩
        · rw [HE0.out, HDD0.out, HDL.out, HFR.out]
          rfl
        · rw [HDD0.out]
          exact hcl_
        · rw [HDD0.out]
          exact hC_
end Go.Proofs.Ytpalloofjljhkaa.P
/-! Px13 -/
namespace Go.Proofs.Ytpalloofjljhkaa.P
open Go.RowKit Go.Proofs.Ytpalloofjljhkaa.Lib Go.Proofs.YtpalloofjljhkaaW.PrintWords Go.Proofs.YtpalloofjljhkaaW.PrintLast Go.Proofs.YtpalloofjljhkaaW.PrintMore
set_option linter.unusedVariables false
set_option linter.unusedSimpArgs false
theorem head_at {W : World} {ga gf : Nat} {B : List Int} {a0 a1 a2 a3 a4 a5 a6 a7 a8 a9 a10 a11 : Int} {A : Option Addr} {m c : Nat} (hC : Kd.C (Kd.int .u8) W (some ⟨ga, 0, none⟩) B.length B) (hF : W.heap[gf]? = some (.cells #[.int .u8 a0, .int .u8 a1, .int .u8 a2, .int .u8 a3, .int .u8 a4, .int .u8 a5, .int .u8 a6, .int .u8 a7, .int .u8 a8, .int .u8 a9, .int .u8 a10, .int .u8 a11, .slice A m c] 45 (0, 0))) (hB : 14 ≤ B.length)
    (h : (hdv B 0 = a0 ∧ hdv B 1 = a1 ∧ hdv B 2 = a2 ∧ hdv B 3 = a3 ∧ hdv B 4 = a4 ∧ hdv B 5 = a5) ∧ (hdv B 6 = a6 ∧ hdv B 7 = a7 ∧ hdv B 8 = a8 ∧ hdv B 9 = a9 ∧ hdv B 10 = a10 ∧ hdv B 11 = a11)) : ∀ k, k < 6 → ∃ x y, W.cell? ⟨ga, k, none⟩ = some (.int .u8 x) ∧ W.cell? ⟨gf, k, none⟩ = some (.int .u8 x) ∧ W.cell? ⟨ga, 6 + k, none⟩ = some (.int .u8 y) ∧ W.cell? ⟨gf, 6 + k, none⟩ = some (.int .u8 y) := by
  obtain ⟨⟨h0, h1, h2, h3, h4, h5⟩, h6, h7, h8, h9, h10, h11⟩ := h
  intro k hk
  have g := fun j (hj : j < 14) => byte_at hC (show j < B.length by omega)
  rcases (show k = 0 ∨ k = 1 ∨ k = 2 ∨ k = 3 ∨ k = 4 ∨ k = 5 by omega) with rfl | rfl | rfl | rfl | rfl | rfl
  · exact ⟨a0, a6, (g 0 (by decide)).trans (by rw [h0]), (blk_cell hF 0).trans rfl, (g 6 (by decide)).trans (by rw [h6]), (blk_cell hF 6).trans rfl⟩
  · exact ⟨a1, a7, (g 1 (by decide)).trans (by rw [h1]), (blk_cell hF 1).trans rfl, (g 7 (by decide)).trans (by rw [h7]), (blk_cell hF 7).trans rfl⟩
  · exact ⟨a2, a8, (g 2 (by decide)).trans (by rw [h2]), (blk_cell hF 2).trans rfl, (g 8 (by decide)).trans (by rw [h8]), (blk_cell hF 8).trans rfl⟩
  · exact ⟨a3, a9, (g 3 (by decide)).trans (by rw [h3]), (blk_cell hF 3).trans rfl, (g 9 (by decide)).trans (by rw [h9]), (blk_cell hF 9).trans rfl⟩
  · exact ⟨a4, a10, (g 4 (by decide)).trans (by rw [h4]), (blk_cell hF 4).trans rfl, (g 10 (by decide)).trans (by rw [h10]), (blk_cell hF 10).trans rfl⟩
  · exact ⟨a5, a11, (g 5 (by decide)).trans (by rw [h5]), (blk_cell hF 5).trans rfl, (g 11 (by decide)).trans (by rw [h11]), (blk_cell hF 11).trans rfl⟩
theorem u32n {a : Nat} (h : a < 4294967296) : IntKind.u32.wrap (a : Int) = (a : Int) := by rw [IntKind.wrap_u32]; omega
theorem or4w {a b c d s : Nat} (ha : a < 256) (hb : b < 256) (hc : c < 256) (hd : d < 256) (h : Go.bits .or .u32 (Go.bits .or .u32 (Go.bits .or .u32 (a : Int) ((b * 256 : Nat) : Int)) ((c * 65536 : Nat) : Int)) ((d * 16777216 : Nat) : Int) = (s : Int)) :
    Go.bits .or .u32 (Go.bits .or .u32 (Go.bits .or .u32 (IntKind.u32.wrap (a : Int)) (IntKind.u32.wrap (IntKind.u32.wrap (b : Int) * 256))) (IntKind.u32.wrap (IntKind.u32.wrap (c : Int) * 65536))) (IntKind.u32.wrap (IntKind.u32.wrap (d : Int) * 16777216)) = (s : Int) := by
  rw [u32n (a := a) (by omega), u32n (a := b) (by omega), u32n (a := c) (by omega), u32n (a := d) (by omega), show (b : Int) * 256 = ((b * 256 : Nat) : Int) by omega, show (c : Int) * 65536 = ((c * 65536 : Nat) : Int) by omega, show (d : Int) * 16777216 = ((d * 16777216 : Nat) : Int) by omega, u32n (by omega), u32n (by omega), u32n (by omega)]
  exact h
theorem w64n {k m : Nat} (h : k < m) (hm : m ≤ 9223372036854775807) : wrap64 (k : Int) = (k : Int) := by unfold wrap64; omega
theorem crc_Sum.made (A0 : Option Addr) (c0 : Nat) (l0 : List Int) (s : Nat) (hs : M.sum (nats l0) = s) (w : World) (hr0 : Kd.C (Kd.int .u8) w A0 l0.length l0) (hc0 : l0.length ≤ c0) (hb : byteRow l0) :
    Calls Try.prog 21 #[tabV true, .slice A0 l0.length c0] w fun e w' => e = .returned (.int .u32 (s : Int)) ∧ Below w.heap.size w w' := by
  have := crc_Sum.calls true A0 c0 l0 w hr0 hc0 hb
  rw [moreN_true, M.sum_more, hs] at this
  exact this
attribute [local go_sem] max2_int min2_int max_two min_two max_three min_three max_four min_four   -- for this text's walks alone
def antiphonlaw3_MacPads.f (a0_0 : Int) (a0_1 : Int) (a0_2 : Int) (a0_3 : Int) (a0_4 : Int) (a0_5 : Int) (a0_6 : Int) (a0_7 : Int) (a0_8 : Int) (a0_9 : Int) (a0_10 : Int) (a0_11 : Int) (l0_12 : List Int) : Option Bool := if (∀ c ∈ [a0_0, a0_1, a0_2, a0_3, a0_4, a0_5], 0 ≤ c ∧ c < 256) ∧ (∀ c ∈ [a0_6, a0_7, a0_8, a0_9, a0_10, a0_11], 0 ≤ c ∧ c < 256) ∧ (∀ c ∈ l0_12, 0 ≤ c ∧ c < 256) then some true else none
set_option maxHeartbeats 8000000 in
set_option maxRecDepth 100000 in
theorem antiphonlaw3_MacPads.calls (a0_0 : Int) (a0_1 : Int) (a0_2 : Int) (a0_3 : Int) (a0_4 : Int) (a0_5 : Int) (a0_6 : Int) (a0_7 : Int) (a0_8 : Int) (a0_9 : Int) (a0_10 : Int) (a0_11 : Int) (A0_12 : Option Addr) (c0_12 : Nat) (l0_12 : List Int) (r : Bool) (w : World) (hr0_12 : Kd.C (Kd.int .u8) w A0_12 l0_12.length l0_12) (hc0_12 : l0_12.length ≤ c0_12) (h : antiphonlaw3_MacPads.f a0_0 a0_1 a0_2 a0_3 a0_4 a0_5 a0_6 a0_7 a0_8 a0_9 a0_10 a0_11 l0_12 = some r) :
    Calls Try.prog 12 #[.agg #[.int .u8 a0_0, .int .u8 a0_1, .int .u8 a0_2, .int .u8 a0_3, .int .u8 a0_4, .int .u8 a0_5, .int .u8 a0_6, .int .u8 a0_7, .int .u8 a0_8, .int .u8 a0_9, .int .u8 a0_10, .int .u8 a0_11, .slice A0_12 l0_12.length c0_12]] w fun e w' => e = .returned (.bool r) ∧ Below w.heap.size w w' := by
  unfold antiphonlaw3_MacPads.f at h
  split at h
  case isFalse => exact absurd h (by simp)
  case isTrue hcd =>
  obtain ⟨hbt, hbf, hbd⟩ := hcd
  obtain rfl := Option.some.inj h
  clear h
  have HBT := Aside0.mk (show byteRow [a0_0, a0_1, a0_2, a0_3, a0_4, a0_5] from hbt)
  have HBF := Aside0.mk (show byteRow [a0_6, a0_7, a0_8, a0_9, a0_10, a0_11] from hbf)
  have HBD := Aside0.mk (show byteRow l0_12 from hbd)
  have HR := Aside0.mk hr0_12
  have HC := Aside0.mk hc0_12
  have hm0 : l0_12.length ≤ 9223372036854775807 := hr0_12.2.1
  have hu45 := Try.underlying45
  have hu43 := Try.underlying43
  clear hbt hbf hbd hr0_12 hc0_12
  go_enter Try.func12, Try.ntmps12
  go_wp2_with fail
  have hb1 := blk_new w (.cells #[.int .u8 a0_0, .int .u8 a0_1, .int .u8 a0_2, .int .u8 a0_3, .int .u8 a0_4, .int .u8 a0_5, .int .u8 a0_6, .int .u8 a0_7, .int .u8 a0_8, .int .u8 a0_9, .int .u8 a0_10, .int .u8 a0_11, .slice A0_12 l0_12.length c0_12] 45 (0, 0))
  have hbw := below_alloc (Below.refl w.heap.size w) (.cells #[.int .u8 a0_0, .int .u8 a0_1, .int .u8 a0_2, .int .u8 a0_3, .int .u8 a0_4, .int .u8 a0_5, .int .u8 a0_6, .int .u8 a0_7, .int .u8 a0_8, .int .u8 a0_9, .int .u8 a0_10, .int .u8 a0_11, .slice A0_12 l0_12.length c0_12] 45 (0, 0))
  generalize w.alloc (.cells #[.int .u8 a0_0, .int .u8 a0_1, .int .u8 a0_2, .int .u8 a0_3, .int .u8 a0_4, .int .u8 a0_5, .int .u8 a0_6, .int .u8 a0_7, .int .u8 a0_8, .int .u8 a0_9, .int .u8 a0_10, .int .u8 a0_11, .slice A0_12 l0_12.length c0_12] 45 (0, 0)) = w0 at hb1 hbw ⊢
  obtain ⟨gf, hgf⟩ : ∃ gf, w.heap.size = gf := ⟨_, rfl⟩
  have HGF := Aside0.mk hgf
  rw [hgf] at hb1 ⊢
  have HB := Aside0.mk (show Below w.heap.size w w0 from hbw)
  have HF := Aside0.mk hb1
  clear hb1 hbw hgf
  refine (awake3_calls _).mono ?_
  rintro e wa ⟨rfl, hB⟩
  replace HF := Aside0.mk (blk_below HF.out hB)
  replace HB := Aside0.mk (below_step HB.out hB)
  clear hB
  have hk6 := (show wa.cell? ⟨gf, 6, none⟩ = some (.int .u8 a0_6) from (blk_cell HF.out 6).trans rfl)
  have hk7 := (show wa.cell? ⟨gf, 7, none⟩ = some (.int .u8 a0_7) from (blk_cell HF.out 7).trans rfl)
  have hk8 := (show wa.cell? ⟨gf, 8, none⟩ = some (.int .u8 a0_8) from (blk_cell HF.out 8).trans rfl)
  have hk9 := (show wa.cell? ⟨gf, 9, none⟩ = some (.int .u8 a0_9) from (blk_cell HF.out 9).trans rfl)
  have hk10 := (show wa.cell? ⟨gf, 10, none⟩ = some (.int .u8 a0_10) from (blk_cell HF.out 10).trans rfl)
  have hk11 := (show wa.cell? ⟨gf, 11, none⟩ = some (.int .u8 a0_11) from (blk_cell HF.out 11).trans rfl)
  have hk12 := (show wa.cell? ⟨gf, 12, none⟩ = some (.slice A0_12 l0_12.length c0_12) from (blk_cell HF.out 12).trans rfl)
  by_cases hl : l0_12.length ≤ 1500
  case neg =>
    have d1 : decide ((1500 : Int) < (l0_12.length : Int)) = true := decide_eq_true (by omega)
    clear hl
    go_wp2_with fail
    go_ret
    exact ⟨rfl, HB.out⟩
  have d1 : decide ((1500 : Int) < (l0_12.length : Int)) = false := decide_eq_false (by omega)
  have HL := Aside0.mk hl
  clear hl
  go_wp2_with fail
  refine (mac_Group.calls _ _ _ _ _ _ _ _ (grp_f _ _ _ _ _ _)).mono ?_
  rintro e wb ⟨rfl, hB⟩
  replace HF := Aside0.mk (blk_below HF.out hB)
  replace HB := Aside0.mk (below_step HB.out hB)
  clear hB hk6 hk7 hk8 hk9 hk10 hk11 hk12
  cases hg : isGrp a0_6 with
  | true =>
    clear hg
    go_wp2_with fail
    go_ret
    exact ⟨rfl, HB.out⟩
  | false =>
    go_wp2_with fail
    refine (crc_Make.calls _).mono ?_
    rintro e w1 ⟨rfl, hB⟩
    replace HF := Aside0.mk (blk_below HF.out hB)
    have hS := (show Below wb.heap.size wb w1 from below_step (by repeat (first | with_reducible exact Below.refl _ _ | with_reducible apply below_drew1 | with_reducible apply pw_below_drewN | with_reducible apply below_alloc)) hB)
    replace HB := Aside0.mk (below_step HB.out hS)
    clear hS hB
    go_wp2_with (first
      | (refine wpList_store_tab rfl (.tmp 3) (.tmp 19) rfl w1.heap.size rfl true rfl Try.zeroCells27 (blk_new w1 _) zsz27 ?_; intro w2 hI hG; have hS := (show Below w1.heap.size w1 w2 from (below_alloc (Below.refl _ _) _).grown hG (below_alloc (Below.refl _ _) _).size (fun k hk => by cases hk; exact Nat.le_refl _)); have HG := Aside0.mk (HB.out.size); replace HB := Aside0.mk (below_step HB.out hS); generalize w1.heap.size = g at hI HG ⊢; have HI := Aside0.mk hI; replace HF := Aside0.mk (blk_below HF.out hS); clear hI hG hS)
      | (refine wpList_load_row rfl 27 (.tmp 3) rfl g rfl 27 (tabRow true) (0, 0) _ HI.out Try.underlying27 rfl (tabInf true) ?_)
      | (refine wpList_load_row rfl 45 (.tmp 1) rfl gf rfl 45 #[.int .u8 a0_0, .int .u8 a0_1, .int .u8 a0_2, .int .u8 a0_3, .int .u8 a0_4, .int .u8 a0_5, .int .u8 a0_6, .int .u8 a0_7, .int .u8 a0_8, .int .u8 a0_9, .int .u8 a0_10, .int .u8 a0_11, .slice A0_12 l0_12.length c0_12] (0, 0) _ HF.out Try.underlying45 rfl info45_ ?_))
    have HGR := Aside0.mk hg
    clear hg
    have HD0 := Aside0.mk (decE_enc (t0 := a0_0) (t1 := a0_1) (t2 := a0_2) (t3 := a0_3) (t4 := a0_4) (t5 := a0_5) (f0 := a0_6) (f1 := a0_7) (f2 := a0_8) (f3 := a0_9) (f4 := a0_10) (f5 := a0_11) HGR.out HL.out)
    have HXY := Aside0.mk (sealI_byte (enc_byte HBT.out HBF.out HBD.out))
    have HXL := Aside0.mk (show (sealI (encB [a0_0, a0_1, a0_2, a0_3, a0_4, a0_5] [a0_6, a0_7, a0_8, a0_9, a0_10, a0_11] l0_12)).length = 18 + l0_12.length + (46 - l0_12.length) by rw [sealI_len, encB_len]; omega)
    refine (mac_Encode.ok a0_0 a0_1 a0_2 a0_3 a0_4 a0_5 a0_6 a0_7 a0_8 a0_9 a0_10 a0_11 A0_12 c0_12 l0_12 _ (Kd.C_below HR.out HB.out) HC.out HGR.out HL.out HBD.out HBT.out HBF.out).mono ?_
    rintro e w6 ⟨v6, rfl, hR, hB⟩
    obtain ⟨s, hs⟩ := sent_enc (t0 := a0_0) (t1 := a0_1) (t2 := a0_2) (t3 := a0_3) (t4 := a0_4) (t5 := a0_5) (f0 := a0_6) (f1 := a0_7) (f2 := a0_8) (f3 := a0_9) (f4 := a0_10) (f5 := a0_11) HL.out (enc_byte HBT.out HBF.out HBD.out)
    generalize sealI (encB [a0_0, a0_1, a0_2, a0_3, a0_4, a0_5] [a0_6, a0_7, a0_8, a0_9, a0_10, a0_11] l0_12) = B at HD0 HXY HXL hs hR
    obtain ⟨n, hn⟩ : ∃ n, 14 + l0_12.length + (46 - l0_12.length) = n := ⟨_, rfl⟩
    rw [hn] at hs
    obtain ⟨hBl, hn2, hs32, hsum, hbe, hto, hfr, hz, hd0, hd1, hd2, hd3⟩ := hs
    obtain ⟨A6, c6, rfl, hc6, hC6⟩ := Kd.R_reads hR
    obtain ⟨ga, rfl⟩ := R_some_ hR (by omega)
    have HC6 := Aside0.mk hC6
    have hc6' : B.length ≤ c6 := hc6
    have hm6 : B.length ≤ 9223372036854775807 := hC6.2.1
    replace HF := Aside0.mk (blk_below HF.out hB)
    replace HI := Aside0.mk (HI.out.below hB)
    replace HB := Aside0.mk (below_step HB.out hB)
    have HHD := Aside0.mk (And.intro hto hfr)
    have HZ := Aside0.mk hz
    have HSM := Aside0.mk hsum
    have HN := Aside0.mk (And.intro hBl hn2)
    obtain ⟨x0, x1, x2, x3, p0, p1, p2, p3, q0, q1, q2, q3, hx⟩ := le4 s hs32
    rw [q0] at hd0
    rw [q1] at hd1
    rw [q2] at hd2
    rw [q3] at hd3
    have HOR := Aside0.mk (or4 x0 x1 x2 x3 p0 p1 p2 p3)
    rw [hx] at HOR
    have HDD := Aside0.mk (And.intro hd0 (And.intro hd1 (And.intro hd2 hd3)))
    have HP := Aside0.mk (And.intro p0 (And.intro p1 (And.intro p2 p3)))
    obtain ⟨p, hp⟩ : ∃ p : Nat, hdv B 12 = (p : Int) := ⟨(hdv B 12).toNat, by have := getD_byte HXY.out 12; unfold hdv; omega⟩
    obtain ⟨q, hq⟩ : ∃ q : Nat, hdv B 13 = (q : Int) := ⟨(hdv B 13).toNat, by have := getD_byte HXY.out 13; unfold hdv; omega⟩
    have hpq : p < 256 ∧ q < 256 ∧ p * 256 + q = l0_12.length := by
      have h1 := getD_byte HXY.out 12
      have h2 := getD_byte HXY.out 13
      unfold be16 at hbe
      rw [hp, hq] at hbe
      unfold hdv at hp hq
      omega
    have HPQ := Aside0.mk (And.intro hp (And.intro hq hpq))
    have hB4 : (B.length : Int) - 4 = (n : Int) := by omega
    have hB3 : (B.length : Int) - 3 = ((n + 1 : Nat) : Int) := by omega
    have hB2 : (B.length : Int) - 2 = ((n + 2 : Nat) : Int) := by omega
    have hB1 : (B.length : Int) - 1 = ((n + 3 : Nat) : Int) := by omega
    have hnB : n < B.length := by omega
    have hnB1 : n + 1 < B.length := by omega
    have hnB2 : n + 2 < B.length := by omega
    have hnB3 : n + 3 < B.length := by omega
    have hnc : n ≤ c6 := by omega
    have hB60 : 60 < B.length := by omega
    have hs32' : s < 4294967296 := hs32
    obtain ⟨mx, hmx⟩ : ∃ mx : Int, (if (l0_12.length : Int) < 46 then 46 else (l0_12.length : Int)) = mx := ⟨_, rfl⟩
    have hmb : (B.length : Int) = 14 + mx + 4 := by rw [← hmx]; split <;> omega
    have hmx1 : 46 ≤ mx := by rw [← hmx]; split <;> omega
    have hmx2 : mx ≤ 1500 := by have := HL.out; rw [← hmx]; split <;> omega
    have b5 : ((B.length : Int) != 14 + mx + 4) = false := by rw [hmb]; exact bne_self_eq_false _
    have hk12 := (show w6.cell? ⟨gf, 12, none⟩ = some (.slice A0_12 l0_12.length c0_12) from (blk_cell HF.out 12).trans rfl)
    have HMB := Aside0.mk hmb
    clear hB hR hC6 hc6 hs32 hto hfr hz hsum hBl hn2 hn hbe hx q0 q1 q2 q3 p0 p1 p2 p3 hd0 hd1 hd2 hd3 hp hq hpq hmb
    go_wp2_with fail
    clear hk12 hB4 hB3 hB2 hB1
    go_loopg [6] 7 (fun kq v6 w' => ∃ k : Nat, v6 = .int .i64 k ∧ k ≤ 6 ∧ k + kq = 7 ∧ Drawn0 w6 w')
    case atStart => exact ⟨0, rfl, by decide, rfl, Drawn0.refl _⟩
    case round =>
      obtain ⟨k, rfl, hk6, hkq, ⟨m1, rfl⟩⟩ := hrel
      cases gk with
      | zero => omega
      | succ k1 =>
        have HKQ := Aside0.mk hkq
        clear hkq
        by_cases hlt : k < 6
        · obtain ⟨x, y, e1, e2, e3, e4⟩ := head_at HC6.out HF.out (by have := HN.out; omega) HHD.out k hlt
          have hkB : k < B.length := by omega
          obtain ⟨k6, hk6'⟩ : ∃ k6 : Nat, 6 + k = k6 := ⟨_, rfl⟩
          have hk6i : 6 + (k : Int) = (k6 : Int) := by omega
          have hk6B : k6 < B.length := by omega
          have hk6C : (k6 : Int) ≤ 12 := by omega
          have hk6W : IntKind.i64.wrap (k6 : Int) = (k6 : Int) := by rw [IntKind.wrap_i64]; omega
          rw [hk6'] at e3 e4
          have bx : (x != x) = false := bne_self_eq_false _
          have by_ : (y != y) = false := bne_self_eq_false _
          clear hk6
          go_wp2
          repeat (go_quiet (fail); try go_wp2)
          go_roundg k1
          case measure => have := HKQ.out; omega
          case rel => exact ⟨k + 1, by go_num, by omega, by have := HKQ.out; omega, by repeat (first | exact Drawn0.refl _ | apply Drawn0.step)⟩
        · obtain rfl : k = 6 := by omega
          have hB := (show Below w6.heap.size w6 (w6.drewN m1) from Drawn0.below ⟨⟨m1, rfl⟩⟩)
          replace HF := Aside0.mk (blk_below HF.out hB)
          replace HI := Aside0.mk (HI.out.below hB)
          replace HC6 := Aside0.mk (Kd.C_below HC6.out hB)
          replace HB := Aside0.mk (below_step HB.out hB)
          generalize w6.drewN m1 = w7 at HF HI HC6 HB ⊢
          have hk12 := (show w7.cell? ⟨gf, 12, none⟩ = some (.slice A0_12 l0_12.length c0_12) from (blk_cell HF.out 12).trans rfl)
          have hB4 : (B.length : Int) - 4 = (n : Int) := by have := HN.out; omega
          clear hB hlt hk6
          go_wp2_with fail
          go_loop [7] (fun v7 => ∃ k : Nat, 14 + l0_12.length ≤ k ∧ k ≤ n ∧ v7 = .int .i64 k) (fun v7 => n - (intOf v7).toNat)
          case atStart => exact ⟨14 + l0_12.length, Nat.le_refl _, by have := HN.out; omega, by rw [Int.natCast_add]; rfl⟩
          case round =>
            obtain ⟨k, hk0, hk, rfl⟩ := hrel
            by_cases hlt : k < n
            · have hx := (show w7.cell? ⟨ga, k, none⟩ = some (.int .u8 (hdv B k)) from byte_at HC6.out (by have := HN.out; omega))
              rw [HZ.out k hk0 hlt] at hx
              have hkB : k < B.length := by omega
              have HK0 := Aside0.mk hk0
              clear hk0 hk
              go_wp2_with fail
              go_round
              case rel => exact ⟨k + 1, by have := HK0.out; omega, by omega, by go_num⟩
              case measure => simp [intOf]; omega
            · obtain rfl : k = n := by omega
              clear hlt hk hk0
              go_wp2_with fail
              have HBY := Aside0.mk (Kd.C_take HC6.out (Nat.le_of_lt hnB))
              have HTL := Aside0.mk (show (B.take k).length = k by rw [List.length_take]; omega)
              rw [HTL.out] at HBY
              have HTB := Aside0.mk (show byteRow (B.take k) from fun c hc => HXY.out c (List.mem_of_mem_take hc))
              have HSU := Aside0.mk (crc_Sum.made (some ⟨ga, 0, none⟩) c6 (B.take k) s HSM.out)
              rw [HTL.out] at HSU
              have hB12 : (12 : Int) < (B.length : Int) := by omega
              have hB13 : (13 : Int) < (B.length : Int) := by omega
              have hp256 : p < 256 := HPQ.out.2.2.1
              have hq256 : q < 256 := HPQ.out.2.2.2.1
              have hOL : Go.bits .or .i64 (wrap64 (wrap64 (p : Int) * 256)) (wrap64 (q : Int)) = (l0_12.length : Int) := by
                rw [show wrap64 (p : Int) = (p : Int) by unfold wrap64; omega, show wrap64 (q : Int) = (q : Int) by unfold wrap64; omega, show wrap64 ((p : Int) * 256) = (p : Int) * 256 by unfold wrap64; omega, Lib.or256 (p : Int) (q : Int) (by omega) (by omega) (by omega) (by omega)]
                have := HPQ.out.2.2.2.2
                omega
              have hB3' : (B.length : Int) - 3 = ((k + 1 : Nat) : Int) := by have := HN.out; omega
              have hB2' : (B.length : Int) - 2 = ((k + 2 : Nat) : Int) := by have := HN.out; omega
              have hB1' : (B.length : Int) - 1 = ((k + 3 : Nat) : Int) := by have := HN.out; omega
              obtain ⟨k1, hk1⟩ : ∃ k1, k + 1 = k1 := ⟨_, rfl⟩
              obtain ⟨k2, hk2⟩ : ∃ k2, k + 2 = k2 := ⟨_, rfl⟩
              obtain ⟨k3, hk3⟩ : ∃ k3, k + 3 = k3 := ⟨_, rfl⟩
              have hB3 : (B.length : Int) - 3 = (k1 : Int) := by rw [← hk1]; exact hB3'
              have hB2 : (B.length : Int) - 2 = (k2 : Int) := by rw [← hk2]; exact hB2'
              have hB1 : (B.length : Int) - 1 = (k3 : Int) := by rw [← hk3]; exact hB1'
              rw [hk1] at hnB1
              rw [hk2] at hnB2
              rw [hk3] at hnB3
              have hwk : wrap64 (k : Int) = (k : Int) := w64n hnB hm6
              have hwk1 : wrap64 (k1 : Int) = (k1 : Int) := w64n hnB1 hm6
              have hwk2 : wrap64 (k2 : Int) = (k2 : Int) := w64n hnB2 hm6
              have hwk3 : wrap64 (k3 : Int) = (k3 : Int) := w64n hnB3 hm6
              have HKK := Aside0.mk (And.intro hk1 (And.intro hk2 hk3))
              have HCS := Aside0.mk (fun (W : World) (hC : Kd.C (Kd.int .u8) W (some ⟨ga, 0, none⟩) B.length B) => And.intro ((byte_at hC (show 12 < B.length from Int.ofNat_lt.1 hB12)).trans (by rw [HPQ.out.1])) (And.intro ((byte_at hC (show 13 < B.length from Int.ofNat_lt.1 hB13)).trans (by rw [HPQ.out.2.1])) (And.intro ((byte_at hC hnB).trans (by rw [HDD.out.1])) (And.intro ((byte_at hC hnB1).trans (by rw [← HKK.out.1, HDD.out.2.1])) (And.intro ((byte_at hC hnB2).trans (by rw [← HKK.out.2.1, HDD.out.2.2.1])) ((byte_at hC hnB3).trans (by rw [← HKK.out.2.2, HDD.out.2.2.2])))))))
              have HFS := Aside0.mk (fun (W : World) (hF : W.heap[gf]? = some (.cells #[.int .u8 a0_0, .int .u8 a0_1, .int .u8 a0_2, .int .u8 a0_3, .int .u8 a0_4, .int .u8 a0_5, .int .u8 a0_6, .int .u8 a0_7, .int .u8 a0_8, .int .u8 a0_9, .int .u8 a0_10, .int .u8 a0_11, .slice A0_12 l0_12.length c0_12] 45 (0, 0))) => (show W.cell? ⟨gf, 12, none⟩ = some (.slice A0_12 l0_12.length c0_12) from (blk_cell hF 12).trans rfl))
              have hx0 : x0 < 256 := HP.out.1
              have hx1 : x1 < 256 := HP.out.2.1
              have hx2 : x2 < 256 := HP.out.2.2.1
              have hx3 : x3 < 256 := HP.out.2.2.2
              have hOS : Go.bits .or .u32 (Go.bits .or .u32 (Go.bits .or .u32 (IntKind.u32.wrap (x0 : Int)) (IntKind.u32.wrap (IntKind.u32.wrap (x1 : Int) * 256))) (IntKind.u32.wrap (IntKind.u32.wrap (x2 : Int) * 65536))) (IntKind.u32.wrap (IntKind.u32.wrap (x3 : Int) * 16777216)) = (s : Int) := or4w hx0 hx1 hx2 hx3 HOR.out
              have bL : ((l0_12.length : Int) == (l0_12.length : Int)) = true := beq_iff_eq.2 rfl
              have bS : ((s : Int) == (s : Int)) = true := beq_iff_eq.2 rfl
              clear hk12 hk1 hk2 hk3 hB1' hB2' hB3'
              refine start_ (n := 59) (S := fun w' => IsTab true w' g ∧ w'.cell? ⟨ga, 12, none⟩ = some (.int .u8 p) ∧ w'.cell? ⟨ga, 13, none⟩ = some (.int .u8 q) ∧ w'.cell? ⟨ga, k, none⟩ = some (.int .u8 (x0 : Int)) ∧ w'.cell? ⟨ga, k1, none⟩ = some (.int .u8 (x1 : Int)) ∧ w'.cell? ⟨ga, k2, none⟩ = some (.int .u8 (x2 : Int)) ∧ w'.cell? ⟨ga, k3, none⟩ = some (.int .u8 (x3 : Int)) ∧ w'.cell? ⟨gf, 12, none⟩ = some (.slice A0_12 l0_12.length c0_12)) (ds := []) #[false, false, false, false, false, false, false, false, false, false, false, false, false, false, false, false, false, false, false, false, false, false, false, false, false, false, false, false, false, false, false, false, false, false, false, false, false, false, false, false, false, false, false, false, false, false, false, false, false, false, false, false, false, false, false, false, false, false, false] (by kernel_rfl) rfl rfl ⟨(HI.out.below (by repeat (first | with_reducible exact Below.refl _ _ | with_reducible apply below_drew1 | with_reducible apply pw_below_drewN | with_reducible apply below_alloc))), (HCS.out _ (Kd.C_below HC6.out (by repeat (first | with_reducible exact Below.refl _ _ | with_reducible apply below_drew1 | with_reducible apply pw_below_drewN | with_reducible apply below_alloc)))).1, (HCS.out _ (Kd.C_below HC6.out (by repeat (first | with_reducible exact Below.refl _ _ | with_reducible apply below_drew1 | with_reducible apply pw_below_drewN | with_reducible apply below_alloc)))).2.1, (HCS.out _ (Kd.C_below HC6.out (by repeat (first | with_reducible exact Below.refl _ _ | with_reducible apply below_drew1 | with_reducible apply pw_below_drewN | with_reducible apply below_alloc)))).2.2.1, (HCS.out _ (Kd.C_below HC6.out (by repeat (first | with_reducible exact Below.refl _ _ | with_reducible apply below_drew1 | with_reducible apply pw_below_drewN | with_reducible apply below_alloc)))).2.2.2.1, (HCS.out _ (Kd.C_below HC6.out (by repeat (first | with_reducible exact Below.refl _ _ | with_reducible apply below_drew1 | with_reducible apply pw_below_drewN | with_reducible apply below_alloc)))).2.2.2.2.1, (HCS.out _ (Kd.C_below HC6.out (by repeat (first | with_reducible exact Below.refl _ _ | with_reducible apply below_drew1 | with_reducible apply pw_below_drewN | with_reducible apply below_alloc)))).2.2.2.2.2, (HFS.out _ (blk_below HF.out (by repeat (first | with_reducible exact Below.refl _ _ | with_reducible apply below_drew1 | with_reducible apply pw_below_drewN | with_reducible apply below_alloc))))⟩ (fun hHeld => ?_)
              refine pure_ (i := 0) (N := some 80) (v := ?_) (a' := ?_) #[true, false, false, false, false, false, false, false, false, false, false, false, false, false, false, false, false, false, false, false, false, false, false, false, false, false, false, false, false, false, false, false, false, false, false, false, false, false, false, false, false, false, false, false, false, false, false, false, false, false, false, false, false, false, false, false, false, false, false] rfl rfl (by kernel_rfl) (fun _ _ _ h => h) (Or.inl ⟨by rfl, ?_⟩) ?_ ?_
              rotate_left
              · intro w'
                go_simp
                with_reducible rfl
              rotate_left
              · simp only [Act.put, List.setIfInBounds_toArray, List.set_cons_zero, List.set_cons_succ, i64_w, i32_w]
                rfl
              refine pure_ (i := 1) (N := some 81) (v := ?_) (a' := ?_) #[true, true, false, false, false, false, false, false, false, false, false, false, false, false, false, false, false, false, false, false, false, false, false, false, false, false, false, false, false, false, false, false, false, false, false, false, false, false, false, false, false, false, false, false, false, false, false, false, false, false, false, false, false, false, false, false, false, false, false] rfl rfl (by kernel_rfl) (fun _ _ _ h => h) (Or.inl ⟨by rfl, ?_⟩) ?_ ?_
              rotate_left
              · intro w'
                go_simp
                with_reducible rfl
              rotate_left
              · simp only [Act.put, List.setIfInBounds_toArray, List.set_cons_zero, List.set_cons_succ, i64_w, i32_w]
                rfl
              refine pure_ (i := 5) (N := some 85) (v := ?_) (a' := ?_) #[true, true, false, false, false, true, false, false, false, false, false, false, false, false, false, false, false, false, false, false, false, false, false, false, false, false, false, false, false, false, false, false, false, false, false, false, false, false, false, false, false, false, false, false, false, false, false, false, false, false, false, false, false, false, false, false, false, false, false] rfl rfl (by kernel_rfl) (fun _ _ _ h => h) (Or.inl ⟨by rfl, ?_⟩) ?_ ?_
              rotate_left
              · intro w'
                go_simp
                with_reducible rfl
              rotate_left
              · simp only [Act.put, List.setIfInBounds_toArray, List.set_cons_zero, List.set_cons_succ, i64_w, i32_w]
                rfl
              refine pure_ (i := 6) (N := some 86) (v := ?_) (a' := ?_) #[true, true, false, false, false, true, true, false, false, false, false, false, false, false, false, false, false, false, false, false, false, false, false, false, false, false, false, false, false, false, false, false, false, false, false, false, false, false, false, false, false, false, false, false, false, false, false, false, false, false, false, false, false, false, false, false, false, false, false] rfl rfl (by kernel_rfl) (fun _ _ _ h => h) (Or.inl ⟨by rfl, ?_⟩) ?_ ?_
              rotate_left
              · intro w'
                go_simp
                with_reducible rfl
              rotate_left
              · simp only [Act.put, List.setIfInBounds_toArray, List.set_cons_zero, List.set_cons_succ, i64_w, i32_w]
                rfl
              refine pure_ (i := 10) (N := some 90) (v := ?_) (a' := ?_) #[true, true, false, false, false, true, true, false, false, false, true, false, false, false, false, false, false, false, false, false, false, false, false, false, false, false, false, false, false, false, false, false, false, false, false, false, false, false, false, false, false, false, false, false, false, false, false, false, false, false, false, false, false, false, false, false, false, false, false] rfl rfl (by kernel_rfl) (fun _ _ _ h => h) (Or.inl ⟨by rfl, ?_⟩) ?_ ?_
              rotate_left
              · intro w'
                go_simp
                with_reducible rfl
              rotate_left
              · simp only [Act.put, List.setIfInBounds_toArray, List.set_cons_zero, List.set_cons_succ, i64_w, i32_w]
                rfl
              refine take_ (i := 2) (N := some 82) (v := ?_) (a' := ?_) #[true, true, true, false, false, true, true, false, false, false, true, false, false, false, false, false, false, false, false, false, false, false, false, false, false, false, false, false, false, false, false, false, false, false, false, false, false, false, false, false, false, false, false, false, false, false, false, false, false, false, false, false, false, false, false, false, false, false, false] rfl rfl (by kernel_rfl) (fun _ _ _ h => h) (Or.inl ⟨by rfl, ?_⟩) hHeld ?_ ?_
              rotate_left
              · rintro w' ⟨s0, s1, s2, s3, s4, s5, s6, s7⟩
                go_simp
                with_reducible rfl
              rotate_left
              · simp only [Act.put, List.setIfInBounds_toArray, List.set_cons_zero, List.set_cons_succ, i64_w, i32_w]
                rfl
              refine pure_ (i := 3) (N := some 83) (v := ?_) (a' := ?_) #[true, true, true, true, false, true, true, false, false, false, true, false, false, false, false, false, false, false, false, false, false, false, false, false, false, false, false, false, false, false, false, false, false, false, false, false, false, false, false, false, false, false, false, false, false, false, false, false, false, false, false, false, false, false, false, false, false, false, false] rfl rfl (by kernel_rfl) (fun _ _ _ h => h) (Or.inl ⟨by rfl, ?_⟩) ?_ ?_
              rotate_left
              · intro w'
                go_simp
                with_reducible rfl
              rotate_left
              · simp only [Act.put, List.setIfInBounds_toArray, List.set_cons_zero, List.set_cons_succ, i64_w, i32_w]
                rfl
              refine pure_ (i := 4) (N := some 84) (v := ?_) (a' := ?_) #[true, true, true, true, true, true, true, false, false, false, true, false, false, false, false, false, false, false, false, false, false, false, false, false, false, false, false, false, false, false, false, false, false, false, false, false, false, false, false, false, false, false, false, false, false, false, false, false, false, false, false, false, false, false, false, false, false, false, false] rfl rfl (by kernel_rfl) (fun _ _ _ h => h) (Or.inl ⟨by rfl, ?_⟩) ?_ ?_
              rotate_left
              · intro w'
                go_simp
                with_reducible rfl
              rotate_left
              · simp only [Act.put, List.setIfInBounds_toArray, List.set_cons_zero, List.set_cons_succ, i64_w, i32_w]
                rfl
              refine take_ (i := 7) (N := some 87) (v := ?_) (a' := ?_) #[true, true, true, true, true, true, true, true, false, false, true, false, false, false, false, false, false, false, false, false, false, false, false, false, false, false, false, false, false, false, false, false, false, false, false, false, false, false, false, false, false, false, false, false, false, false, false, false, false, false, false, false, false, false, false, false, false, false, false] rfl rfl (by kernel_rfl) (fun _ _ _ h => h) (Or.inl ⟨by rfl, ?_⟩) hHeld ?_ ?_
              rotate_left
              · rintro w' ⟨s0, s1, s2, s3, s4, s5, s6, s7⟩
                go_simp
                with_reducible rfl
              rotate_left
              · simp only [Act.put, List.setIfInBounds_toArray, List.set_cons_zero, List.set_cons_succ, i64_w, i32_w]
                rfl
              refine pure_ (i := 8) (N := some 88) (v := ?_) (a' := ?_) #[true, true, true, true, true, true, true, true, true, false, true, false, false, false, false, false, false, false, false, false, false, false, false, false, false, false, false, false, false, false, false, false, false, false, false, false, false, false, false, false, false, false, false, false, false, false, false, false, false, false, false, false, false, false, false, false, false, false, false] rfl rfl (by kernel_rfl) (fun _ _ _ h => h) (Or.inl ⟨by rfl, ?_⟩) ?_ ?_
              rotate_left
              · intro w'
                go_simp
                with_reducible rfl
              rotate_left
              · simp only [Act.put, List.setIfInBounds_toArray, List.set_cons_zero, List.set_cons_succ, i64_w, i32_w]
                rfl
              refine pure_ (i := 9) (N := some 89) (v := ?_) (a' := ?_) #[true, true, true, true, true, true, true, true, true, true, true, false, false, false, false, false, false, false, false, false, false, false, false, false, false, false, false, false, false, false, false, false, false, false, false, false, false, false, false, false, false, false, false, false, false, false, false, false, false, false, false, false, false, false, false, false, false, false, false] rfl rfl (by kernel_rfl) (fun _ _ _ h => h) (Or.inl ⟨by rfl, ?_⟩) ?_ ?_
              rotate_left
              · intro w'
                go_simp
                with_reducible rfl
              rotate_left
              · simp only [Act.put, List.setIfInBounds_toArray, List.set_cons_zero, List.set_cons_succ, i64_w, i32_w]
                rfl
              refine take_ (i := 11) (N := some 91) (v := ?_) (a' := ?_) #[true, true, true, true, true, true, true, true, true, true, true, true, false, false, false, false, false, false, false, false, false, false, false, false, false, false, false, false, false, false, false, false, false, false, false, false, false, false, false, false, false, false, false, false, false, false, false, false, false, false, false, false, false, false, false, false, false, false, false] rfl rfl (by kernel_rfl) (fun _ _ _ h => h) (Or.inl ⟨by rfl, ?_⟩) hHeld ?_ ?_
              rotate_left
              · rintro w' ⟨s0, s1, s2, s3, s4, s5, s6, s7⟩
                go_simp
                with_reducible rfl
              rotate_left
              · simp only [Act.put, List.setIfInBounds_toArray, List.set_cons_zero, List.set_cons_succ, i64_w, i32_w]
                rfl
              refine pure_ (i := 12) (N := some 92) (v := ?_) (a' := ?_) #[true, true, true, true, true, true, true, true, true, true, true, true, true, false, false, false, false, false, false, false, false, false, false, false, false, false, false, false, false, false, false, false, false, false, false, false, false, false, false, false, false, false, false, false, false, false, false, false, false, false, false, false, false, false, false, false, false, false, false] rfl rfl (by kernel_rfl) (fun _ _ _ h => h) (Or.inl ⟨by rfl, ?_⟩) ?_ ?_
              rotate_left
              · intro w'
                go_simp
                with_reducible rfl
              rotate_left
              · simp only [Act.put, List.setIfInBounds_toArray, List.set_cons_zero, List.set_cons_succ, i64_w, i32_w]
                rfl
              refine pure_ (i := 13) (N := some 93) (v := ?_) (a' := ?_) #[true, true, true, true, true, true, true, true, true, true, true, true, true, true, false, false, false, false, false, false, false, false, false, false, false, false, false, false, false, false, false, false, false, false, false, false, false, false, false, false, false, false, false, false, false, false, false, false, false, false, false, false, false, false, false, false, false, false, false] rfl rfl (by kernel_rfl) (fun _ _ _ h => h) (Or.inl ⟨by rfl, ?_⟩) ?_ ?_
              rotate_left
              · intro w'
                go_simp
                with_reducible rfl
              rotate_left
              · simp only [Act.put, List.setIfInBounds_toArray, List.set_cons_zero, List.set_cons_succ, i64_w, i32_w]
                rfl
              refine pure_ (i := 14) (N := some 94) (v := ?_) (a' := ?_) #[true, true, true, true, true, true, true, true, true, true, true, true, true, true, true, false, false, false, false, false, false, false, false, false, false, false, false, false, false, false, false, false, false, false, false, false, false, false, false, false, false, false, false, false, false, false, false, false, false, false, false, false, false, false, false, false, false, false, false] rfl rfl (by kernel_rfl) (fun _ _ _ h => h) (Or.inl ⟨by rfl, ?_⟩) ?_ ?_
              rotate_left
              · intro w'
                go_simp
                with_reducible rfl
              rotate_left
              · simp only [Act.put, List.setIfInBounds_toArray, List.set_cons_zero, List.set_cons_succ, i64_w, i32_w]
                rfl
              refine pure_ (i := 16) (N := some 96) (v := ?_) (a' := ?_) #[true, true, true, true, true, true, true, true, true, true, true, true, true, true, true, false, true, false, false, false, false, false, false, false, false, false, false, false, false, false, false, false, false, false, false, false, false, false, false, false, false, false, false, false, false, false, false, false, false, false, false, false, false, false, false, false, false, false, false] rfl rfl (by kernel_rfl) (fun _ _ _ h => h) (Or.inl ⟨by rfl, ?_⟩) ?_ ?_
              rotate_left
              · intro w'
                go_simp
                with_reducible rfl
              rotate_left
              · simp only [Act.put, List.setIfInBounds_toArray, List.set_cons_zero, List.set_cons_succ, i64_w, i32_w]
                rfl
              refine pure_ (i := 17) (N := some 97) (v := ?_) (a' := ?_) #[true, true, true, true, true, true, true, true, true, true, true, true, true, true, true, false, true, true, false, false, false, false, false, false, false, false, false, false, false, false, false, false, false, false, false, false, false, false, false, false, false, false, false, false, false, false, false, false, false, false, false, false, false, false, false, false, false, false, false] rfl rfl (by kernel_rfl) (fun _ _ _ h => h) (Or.inl ⟨by rfl, ?_⟩) ?_ ?_
              rotate_left
              · intro w'
                go_simp
                with_reducible rfl
              rotate_left
              · simp only [Act.put, List.setIfInBounds_toArray, List.set_cons_zero, List.set_cons_succ, i64_w, i32_w]
                rfl
              refine pure_ (i := 18) (N := some 98) (v := ?_) (a' := ?_) #[true, true, true, true, true, true, true, true, true, true, true, true, true, true, true, false, true, true, true, false, false, false, false, false, false, false, false, false, false, false, false, false, false, false, false, false, false, false, false, false, false, false, false, false, false, false, false, false, false, false, false, false, false, false, false, false, false, false, false] rfl rfl (by kernel_rfl) (fun _ _ _ h => h) (Or.inl ⟨by rfl, ?_⟩) ?_ ?_
              rotate_left
              · intro w'
                go_simp
                with_reducible rfl
              rotate_left
              · simp only [Act.put, List.setIfInBounds_toArray, List.set_cons_zero, List.set_cons_succ, i64_w, i32_w]
                rfl
              refine pure_ (i := 19) (N := some 99) (v := ?_) (a' := ?_) #[true, true, true, true, true, true, true, true, true, true, true, true, true, true, true, false, true, true, true, true, false, false, false, false, false, false, false, false, false, false, false, false, false, false, false, false, false, false, false, false, false, false, false, false, false, false, false, false, false, false, false, false, false, false, false, false, false, false, false] rfl rfl (by kernel_rfl) (fun _ _ _ h => h) (Or.inl ⟨by rfl, ?_⟩) ?_ ?_
              rotate_left
              · intro w'
                go_simp
                with_reducible rfl
              rotate_left
              · simp only [Act.put, List.setIfInBounds_toArray, List.set_cons_zero, List.set_cons_succ, i64_w, i32_w]
                rfl
              refine pure_ (i := 20) (N := some 100) (v := ?_) (a' := ?_) #[true, true, true, true, true, true, true, true, true, true, true, true, true, true, true, false, true, true, true, true, true, false, false, false, false, false, false, false, false, false, false, false, false, false, false, false, false, false, false, false, false, false, false, false, false, false, false, false, false, false, false, false, false, false, false, false, false, false, false] rfl rfl (by kernel_rfl) (fun _ _ _ h => h) (Or.inl ⟨by rfl, ?_⟩) ?_ ?_
              rotate_left
              · intro w'
                go_simp
                with_reducible rfl
              rotate_left
              · simp only [Act.put, List.setIfInBounds_toArray, List.set_cons_zero, List.set_cons_succ, i64_w, i32_w]
                rfl
              refine pure_ (i := 22) (N := some 102) (v := ?_) (a' := ?_) #[true, true, true, true, true, true, true, true, true, true, true, true, true, true, true, false, true, true, true, true, true, false, true, false, false, false, false, false, false, false, false, false, false, false, false, false, false, false, false, false, false, false, false, false, false, false, false, false, false, false, false, false, false, false, false, false, false, false, false] rfl rfl (by kernel_rfl) (fun _ _ _ h => h) (Or.inl ⟨by rfl, ?_⟩) ?_ ?_
              rotate_left
              · intro w'
                go_simp
                with_reducible rfl
              rotate_left
              · simp only [Act.put, List.setIfInBounds_toArray, List.set_cons_zero, List.set_cons_succ, i64_w, i32_w]
                rfl
              refine pure_ (i := 23) (N := some 103) (v := ?_) (a' := ?_) #[true, true, true, true, true, true, true, true, true, true, true, true, true, true, true, false, true, true, true, true, true, false, true, true, false, false, false, false, false, false, false, false, false, false, false, false, false, false, false, false, false, false, false, false, false, false, false, false, false, false, false, false, false, false, false, false, false, false, false] rfl rfl (by kernel_rfl) (fun _ _ _ h => h) (Or.inl ⟨by rfl, ?_⟩) ?_ ?_
              rotate_left
              · intro w'
                go_simp
                with_reducible rfl
              rotate_left
              · simp only [Act.put, List.setIfInBounds_toArray, List.set_cons_zero, List.set_cons_succ, i64_w, i32_w]
                rfl
              refine pure_ (i := 24) (N := some 104) (v := ?_) (a' := ?_) #[true, true, true, true, true, true, true, true, true, true, true, true, true, true, true, false, true, true, true, true, true, false, true, true, true, false, false, false, false, false, false, false, false, false, false, false, false, false, false, false, false, false, false, false, false, false, false, false, false, false, false, false, false, false, false, false, false, false, false] rfl rfl (by kernel_rfl) (fun _ _ _ h => h) (Or.inl ⟨by rfl, ?_⟩) ?_ ?_
              rotate_left
              · intro w'
                go_simp
                with_reducible rfl
              rotate_left
              · simp only [Act.put, List.setIfInBounds_toArray, List.set_cons_zero, List.set_cons_succ, i64_w, i32_w]
                rfl
              refine pure_ (i := 25) (N := some 105) (v := ?_) (a' := ?_) #[true, true, true, true, true, true, true, true, true, true, true, true, true, true, true, false, true, true, true, true, true, false, true, true, true, true, false, false, false, false, false, false, false, false, false, false, false, false, false, false, false, false, false, false, false, false, false, false, false, false, false, false, false, false, false, false, false, false, false] rfl rfl (by kernel_rfl) (fun _ _ _ h => h) (Or.inl ⟨by rfl, ?_⟩) ?_ ?_
              rotate_left
              · intro w'
                go_simp
                with_reducible rfl
              rotate_left
              · simp only [Act.put, List.setIfInBounds_toArray, List.set_cons_zero, List.set_cons_succ, i64_w, i32_w]
                rfl
              refine pure_ (i := 26) (N := some 106) (v := ?_) (a' := ?_) #[true, true, true, true, true, true, true, true, true, true, true, true, true, true, true, false, true, true, true, true, true, false, true, true, true, true, true, false, false, false, false, false, false, false, false, false, false, false, false, false, false, false, false, false, false, false, false, false, false, false, false, false, false, false, false, false, false, false, false] rfl rfl (by kernel_rfl) (fun _ _ _ h => h) (Or.inl ⟨by rfl, ?_⟩) ?_ ?_
              rotate_left
              · intro w'
                go_simp
                with_reducible rfl
              rotate_left
              · simp only [Act.put, List.setIfInBounds_toArray, List.set_cons_zero, List.set_cons_succ, i64_w, i32_w]
                rfl
              refine pure_ (i := 29) (N := some 109) (v := ?_) (a' := ?_) #[true, true, true, true, true, true, true, true, true, true, true, true, true, true, true, false, true, true, true, true, true, false, true, true, true, true, true, false, false, true, false, false, false, false, false, false, false, false, false, false, false, false, false, false, false, false, false, false, false, false, false, false, false, false, false, false, false, false, false] rfl rfl (by kernel_rfl) (fun _ _ _ h => h) (Or.inl ⟨by rfl, ?_⟩) ?_ ?_
              rotate_left
              · intro w'
                go_simp
                with_reducible rfl
              rotate_left
              · simp only [Act.put, List.setIfInBounds_toArray, List.set_cons_zero, List.set_cons_succ, i64_w, i32_w]
                rfl
              refine pure_ (i := 30) (N := some 110) (v := ?_) (a' := ?_) #[true, true, true, true, true, true, true, true, true, true, true, true, true, true, true, false, true, true, true, true, true, false, true, true, true, true, true, false, false, true, true, false, false, false, false, false, false, false, false, false, false, false, false, false, false, false, false, false, false, false, false, false, false, false, false, false, false, false, false] rfl rfl (by kernel_rfl) (fun _ _ _ h => h) (Or.inl ⟨by rfl, ?_⟩) ?_ ?_
              rotate_left
              · intro w'
                go_simp
                with_reducible rfl
              rotate_left
              · simp only [Act.put, List.setIfInBounds_toArray, List.set_cons_zero, List.set_cons_succ, i64_w, i32_w]
                rfl
              refine pure_ (i := 31) (N := some 111) (v := ?_) (a' := ?_) #[true, true, true, true, true, true, true, true, true, true, true, true, true, true, true, false, true, true, true, true, true, false, true, true, true, true, true, false, false, true, true, true, false, false, false, false, false, false, false, false, false, false, false, false, false, false, false, false, false, false, false, false, false, false, false, false, false, false, false] rfl rfl (by kernel_rfl) (fun _ _ _ h => h) (Or.inl ⟨by rfl, ?_⟩) ?_ ?_
              rotate_left
              · intro w'
                go_simp
                with_reducible rfl
              rotate_left
              · simp only [Act.put, List.setIfInBounds_toArray, List.set_cons_zero, List.set_cons_succ, i64_w, i32_w]
                rfl
              refine pure_ (i := 32) (N := some 112) (v := ?_) (a' := ?_) #[true, true, true, true, true, true, true, true, true, true, true, true, true, true, true, false, true, true, true, true, true, false, true, true, true, true, true, false, false, true, true, true, true, false, false, false, false, false, false, false, false, false, false, false, false, false, false, false, false, false, false, false, false, false, false, false, false, false, false] rfl rfl (by kernel_rfl) (fun _ _ _ h => h) (Or.inl ⟨by rfl, ?_⟩) ?_ ?_
              rotate_left
              · intro w'
                go_simp
                with_reducible rfl
              rotate_left
              · simp only [Act.put, List.setIfInBounds_toArray, List.set_cons_zero, List.set_cons_succ, i64_w, i32_w]
                rfl
              refine pure_ (i := 33) (N := some 113) (v := ?_) (a' := ?_) #[true, true, true, true, true, true, true, true, true, true, true, true, true, true, true, false, true, true, true, true, true, false, true, true, true, true, true, false, false, true, true, true, true, true, false, false, false, false, false, false, false, false, false, false, false, false, false, false, false, false, false, false, false, false, false, false, false, false, false] rfl rfl (by kernel_rfl) (fun _ _ _ h => h) (Or.inl ⟨by rfl, ?_⟩) ?_ ?_
              rotate_left
              · intro w'
                go_simp
                with_reducible rfl
              rotate_left
              · simp only [Act.put, List.setIfInBounds_toArray, List.set_cons_zero, List.set_cons_succ, i64_w, i32_w]
                rfl
              refine pure_ (i := 38) (N := some 118) (v := ?_) (a' := ?_) #[true, true, true, true, true, true, true, true, true, true, true, true, true, true, true, false, true, true, true, true, true, false, true, true, true, true, true, false, false, true, true, true, true, true, false, false, false, false, true, false, false, false, false, false, false, false, false, false, false, false, false, false, false, false, false, false, false, false, false] rfl rfl (by kernel_rfl) (fun _ _ _ h => h) (Or.inl ⟨by rfl, ?_⟩) ?_ ?_
              rotate_left
              · intro w'
                go_simp
                with_reducible rfl
              rotate_left
              · simp only [Act.put, List.setIfInBounds_toArray, List.set_cons_zero, List.set_cons_succ, i64_w, i32_w]
                rfl
              refine pure_ (i := 39) (N := some 119) (v := ?_) (a' := ?_) #[true, true, true, true, true, true, true, true, true, true, true, true, true, true, true, false, true, true, true, true, true, false, true, true, true, true, true, false, false, true, true, true, true, true, false, false, false, false, true, true, false, false, false, false, false, false, false, false, false, false, false, false, false, false, false, false, false, false, false] rfl rfl (by kernel_rfl) (fun _ _ _ h => h) (Or.inl ⟨by rfl, ?_⟩) ?_ ?_
              rotate_left
              · intro w'
                go_simp
                with_reducible rfl
              rotate_left
              · simp only [Act.put, List.setIfInBounds_toArray, List.set_cons_zero, List.set_cons_succ, i64_w, i32_w]
                rfl
              refine pure_ (i := 40) (N := some 120) (v := ?_) (a' := ?_) #[true, true, true, true, true, true, true, true, true, true, true, true, true, true, true, false, true, true, true, true, true, false, true, true, true, true, true, false, false, true, true, true, true, true, false, false, false, false, true, true, true, false, false, false, false, false, false, false, false, false, false, false, false, false, false, false, false, false, false] rfl rfl (by kernel_rfl) (fun _ _ _ h => h) (Or.inl ⟨by rfl, ?_⟩) ?_ ?_
              rotate_left
              · intro w'
                go_simp
                with_reducible rfl
              rotate_left
              · simp only [Act.put, List.setIfInBounds_toArray, List.set_cons_zero, List.set_cons_succ, i64_w, i32_w]
                rfl
              refine pure_ (i := 41) (N := some 121) (v := ?_) (a' := ?_) #[true, true, true, true, true, true, true, true, true, true, true, true, true, true, true, false, true, true, true, true, true, false, true, true, true, true, true, false, false, true, true, true, true, true, false, false, false, false, true, true, true, true, false, false, false, false, false, false, false, false, false, false, false, false, false, false, false, false, false] rfl rfl (by kernel_rfl) (fun _ _ _ h => h) (Or.inl ⟨by rfl, ?_⟩) ?_ ?_
              rotate_left
              · intro w'
                go_simp
                with_reducible rfl
              rotate_left
              · simp only [Act.put, List.setIfInBounds_toArray, List.set_cons_zero, List.set_cons_succ, i64_w, i32_w]
                rfl
              refine pure_ (i := 42) (N := some 122) (v := ?_) (a' := ?_) #[true, true, true, true, true, true, true, true, true, true, true, true, true, true, true, false, true, true, true, true, true, false, true, true, true, true, true, false, false, true, true, true, true, true, false, false, false, false, true, true, true, true, true, false, false, false, false, false, false, false, false, false, false, false, false, false, false, false, false] rfl rfl (by kernel_rfl) (fun _ _ _ h => h) (Or.inl ⟨by rfl, ?_⟩) ?_ ?_
              rotate_left
              · intro w'
                go_simp
                with_reducible rfl
              rotate_left
              · simp only [Act.put, List.setIfInBounds_toArray, List.set_cons_zero, List.set_cons_succ, i64_w, i32_w]
                rfl
              refine pure_ (i := 47) (N := some 127) (v := ?_) (a' := ?_) #[true, true, true, true, true, true, true, true, true, true, true, true, true, true, true, false, true, true, true, true, true, false, true, true, true, true, true, false, false, true, true, true, true, true, false, false, false, false, true, true, true, true, true, false, false, false, false, true, false, false, false, false, false, false, false, false, false, false, false] rfl rfl (by kernel_rfl) (fun _ _ _ h => h) (Or.inl ⟨by rfl, ?_⟩) ?_ ?_
              rotate_left
              · intro w'
                go_simp
                with_reducible rfl
              rotate_left
              · simp only [Act.put, List.setIfInBounds_toArray, List.set_cons_zero, List.set_cons_succ, i64_w, i32_w]
                rfl
              refine pure_ (i := 48) (N := some 128) (v := ?_) (a' := ?_) #[true, true, true, true, true, true, true, true, true, true, true, true, true, true, true, false, true, true, true, true, true, false, true, true, true, true, true, false, false, true, true, true, true, true, false, false, false, false, true, true, true, true, true, false, false, false, false, true, true, false, false, false, false, false, false, false, false, false, false] rfl rfl (by kernel_rfl) (fun _ _ _ h => h) (Or.inl ⟨by rfl, ?_⟩) ?_ ?_
              rotate_left
              · intro w'
                go_simp
                with_reducible rfl
              rotate_left
              · simp only [Act.put, List.setIfInBounds_toArray, List.set_cons_zero, List.set_cons_succ, i64_w, i32_w]
                rfl
              refine pure_ (i := 49) (N := some 129) (v := ?_) (a' := ?_) #[true, true, true, true, true, true, true, true, true, true, true, true, true, true, true, false, true, true, true, true, true, false, true, true, true, true, true, false, false, true, true, true, true, true, false, false, false, false, true, true, true, true, true, false, false, false, false, true, true, true, false, false, false, false, false, false, false, false, false] rfl rfl (by kernel_rfl) (fun _ _ _ h => h) (Or.inl ⟨by rfl, ?_⟩) ?_ ?_
              rotate_left
              · intro w'
                go_simp
                with_reducible rfl
              rotate_left
              · simp only [Act.put, List.setIfInBounds_toArray, List.set_cons_zero, List.set_cons_succ, i64_w, i32_w]
                rfl
              refine pure_ (i := 50) (N := some 130) (v := ?_) (a' := ?_) #[true, true, true, true, true, true, true, true, true, true, true, true, true, true, true, false, true, true, true, true, true, false, true, true, true, true, true, false, false, true, true, true, true, true, false, false, false, false, true, true, true, true, true, false, false, false, false, true, true, true, true, false, false, false, false, false, false, false, false] rfl rfl (by kernel_rfl) (fun _ _ _ h => h) (Or.inl ⟨by rfl, ?_⟩) ?_ ?_
              rotate_left
              · intro w'
                go_simp
                with_reducible rfl
              rotate_left
              · simp only [Act.put, List.setIfInBounds_toArray, List.set_cons_zero, List.set_cons_succ, i64_w, i32_w]
                rfl
              refine pure_ (i := 51) (N := some 131) (v := ?_) (a' := ?_) #[true, true, true, true, true, true, true, true, true, true, true, true, true, true, true, false, true, true, true, true, true, false, true, true, true, true, true, false, false, true, true, true, true, true, false, false, false, false, true, true, true, true, true, false, false, false, false, true, true, true, true, true, false, false, false, false, false, false, false] rfl rfl (by kernel_rfl) (fun _ _ _ h => h) (Or.inl ⟨by rfl, ?_⟩) ?_ ?_
              rotate_left
              · intro w'
                go_simp
                with_reducible rfl
              rotate_left
              · simp only [Act.put, List.setIfInBounds_toArray, List.set_cons_zero, List.set_cons_succ, i64_w, i32_w]
                rfl
              refine take_ (i := 15) (N := some 95) (v := tabV true) #[true, true, true, true, true, true, true, true, true, true, true, true, true, true, true, true, true, true, true, true, true, false, true, true, true, true, true, false, false, true, true, true, true, true, false, false, false, false, true, true, true, true, true, false, false, false, false, true, true, true, true, true, false, false, false, false, false, false, false] rfl rfl (by kernel_rfl) (fun _ _ _ h => h) ?_ hHeld rfl ?_
              · exact yields_tab (by rfl) _ rfl _ rfl true (by rintro w' ⟨s0, s1, s2, s3, s4, s5, s6, s7⟩; exact s0)
              refine norm_ (a' := ?_) ?_ ?_
              rotate_left
              · show Act.put _ (some 95) _ = _
                simp only [Act.put, List.setIfInBounds_toArray, List.set_cons_zero, List.set_cons_succ, i64_w, i32_w]
                rfl
              refine take_ (i := 27) (N := some 107) (v := ?_) (a' := ?_) #[true, true, true, true, true, true, true, true, true, true, true, true, true, true, true, true, true, true, true, true, true, false, true, true, true, true, true, true, false, true, true, true, true, true, false, false, false, false, true, true, true, true, true, false, false, false, false, true, true, true, true, true, false, false, false, false, false, false, false] rfl rfl (by kernel_rfl) (fun _ _ _ h => h) (Or.inl ⟨by rfl, ?_⟩) hHeld ?_ ?_
              rotate_left
              · rintro w' ⟨s0, s1, s2, s3, s4, s5, s6, s7⟩
                go_simp
                with_reducible rfl
              rotate_left
              · simp only [Act.put, List.setIfInBounds_toArray, List.set_cons_zero, List.set_cons_succ, i64_w, i32_w]
                rfl
              refine pure_ (i := 28) (N := some 108) (v := ?_) (a' := ?_) #[true, true, true, true, true, true, true, true, true, true, true, true, true, true, true, true, true, true, true, true, true, false, true, true, true, true, true, true, true, true, true, true, true, true, false, false, false, false, true, true, true, true, true, false, false, false, false, true, true, true, true, true, false, false, false, false, false, false, false] rfl rfl (by kernel_rfl) (fun _ _ _ h => h) (Or.inl ⟨by rfl, ?_⟩) ?_ ?_
              rotate_left
              · intro w'
                go_simp
                with_reducible rfl
              rotate_left
              · simp only [Act.put, List.setIfInBounds_toArray, List.set_cons_zero, List.set_cons_succ, i64_w, i32_w]
                rfl
              refine take_ (i := 34) (N := some 114) (v := ?_) (a' := ?_) #[true, true, true, true, true, true, true, true, true, true, true, true, true, true, true, true, true, true, true, true, true, false, true, true, true, true, true, true, true, true, true, true, true, true, true, false, false, false, true, true, true, true, true, false, false, false, false, true, true, true, true, true, false, false, false, false, false, false, false] rfl rfl (by kernel_rfl) (fun _ _ _ h => h) (Or.inl ⟨by rfl, ?_⟩) hHeld ?_ ?_
              rotate_left
              · rintro w' ⟨s0, s1, s2, s3, s4, s5, s6, s7⟩
                go_simp
                with_reducible rfl
              rotate_left
              · simp only [Act.put, List.setIfInBounds_toArray, List.set_cons_zero, List.set_cons_succ, i64_w, i32_w]
                rfl
              refine pure_ (i := 35) (N := some 115) (v := ?_) (a' := ?_) #[true, true, true, true, true, true, true, true, true, true, true, true, true, true, true, true, true, true, true, true, true, false, true, true, true, true, true, true, true, true, true, true, true, true, true, true, false, false, true, true, true, true, true, false, false, false, false, true, true, true, true, true, false, false, false, false, false, false, false] rfl rfl (by kernel_rfl) (fun _ _ _ h => h) (Or.inl ⟨by rfl, ?_⟩) ?_ ?_
              rotate_left
              · intro w'
                go_simp
                with_reducible rfl
              rotate_left
              · simp only [Act.put, List.setIfInBounds_toArray, List.set_cons_zero, List.set_cons_succ, i64_w, i32_w]
                rfl
              refine pure_ (i := 36) (N := some 116) (v := ?_) (a' := ?_) #[true, true, true, true, true, true, true, true, true, true, true, true, true, true, true, true, true, true, true, true, true, false, true, true, true, true, true, true, true, true, true, true, true, true, true, true, true, false, true, true, true, true, true, false, false, false, false, true, true, true, true, true, false, false, false, false, false, false, false] rfl rfl (by kernel_rfl) (fun _ _ _ h => h) (Or.inl ⟨by rfl, ?_⟩) ?_ ?_
              rotate_left
              · intro w'
                go_simp
                with_reducible rfl
              rotate_left
              · simp only [Act.put, List.setIfInBounds_toArray, List.set_cons_zero, List.set_cons_succ, i64_w, i32_w]
                rfl
              refine pure_ (i := 37) (N := some 117) (v := ?_) (a' := ?_) #[true, true, true, true, true, true, true, true, true, true, true, true, true, true, true, true, true, true, true, true, true, false, true, true, true, true, true, true, true, true, true, true, true, true, true, true, true, true, true, true, true, true, true, false, false, false, false, true, true, true, true, true, false, false, false, false, false, false, false] rfl rfl (by kernel_rfl) (fun _ _ _ h => h) (Or.inl ⟨by rfl, ?_⟩) ?_ ?_
              rotate_left
              · intro w'
                go_simp
                with_reducible rfl
              rotate_left
              · simp only [Act.put, List.setIfInBounds_toArray, List.set_cons_zero, List.set_cons_succ, i64_w, i32_w]
                rfl
              refine take_ (i := 43) (N := some 123) (v := ?_) (a' := ?_) #[true, true, true, true, true, true, true, true, true, true, true, true, true, true, true, true, true, true, true, true, true, false, true, true, true, true, true, true, true, true, true, true, true, true, true, true, true, true, true, true, true, true, true, true, false, false, false, true, true, true, true, true, false, false, false, false, false, false, false] rfl rfl (by kernel_rfl) (fun _ _ _ h => h) (Or.inl ⟨by rfl, ?_⟩) hHeld ?_ ?_
              rotate_left
              · rintro w' ⟨s0, s1, s2, s3, s4, s5, s6, s7⟩
                go_simp
                with_reducible rfl
              rotate_left
              · simp only [Act.put, List.setIfInBounds_toArray, List.set_cons_zero, List.set_cons_succ, i64_w, i32_w]
                rfl
              refine pure_ (i := 44) (N := some 124) (v := ?_) (a' := ?_) #[true, true, true, true, true, true, true, true, true, true, true, true, true, true, true, true, true, true, true, true, true, false, true, true, true, true, true, true, true, true, true, true, true, true, true, true, true, true, true, true, true, true, true, true, true, false, false, true, true, true, true, true, false, false, false, false, false, false, false] rfl rfl (by kernel_rfl) (fun _ _ _ h => h) (Or.inl ⟨by rfl, ?_⟩) ?_ ?_
              rotate_left
              · intro w'
                go_simp
                with_reducible rfl
              rotate_left
              · simp only [Act.put, List.setIfInBounds_toArray, List.set_cons_zero, List.set_cons_succ, i64_w, i32_w]
                rfl
              refine pure_ (i := 45) (N := some 125) (v := ?_) (a' := ?_) #[true, true, true, true, true, true, true, true, true, true, true, true, true, true, true, true, true, true, true, true, true, false, true, true, true, true, true, true, true, true, true, true, true, true, true, true, true, true, true, true, true, true, true, true, true, true, false, true, true, true, true, true, false, false, false, false, false, false, false] rfl rfl (by kernel_rfl) (fun _ _ _ h => h) (Or.inl ⟨by rfl, ?_⟩) ?_ ?_
              rotate_left
              · intro w'
                go_simp
                with_reducible rfl
              rotate_left
              · simp only [Act.put, List.setIfInBounds_toArray, List.set_cons_zero, List.set_cons_succ, i64_w, i32_w]
                rfl
              refine pure_ (i := 46) (N := some 126) (v := ?_) (a' := ?_) #[true, true, true, true, true, true, true, true, true, true, true, true, true, true, true, true, true, true, true, true, true, false, true, true, true, true, true, true, true, true, true, true, true, true, true, true, true, true, true, true, true, true, true, true, true, true, true, true, true, true, true, true, false, false, false, false, false, false, false] rfl rfl (by kernel_rfl) (fun _ _ _ h => h) (Or.inl ⟨by rfl, ?_⟩) ?_ ?_
              rotate_left
              · intro w'
                go_simp
                with_reducible rfl
              rotate_left
              · simp only [Act.put, List.setIfInBounds_toArray, List.set_cons_zero, List.set_cons_succ, i64_w, i32_w]
                rfl
              refine take_ (i := 52) (N := some 132) (v := ?_) (a' := ?_) #[true, true, true, true, true, true, true, true, true, true, true, true, true, true, true, true, true, true, true, true, true, false, true, true, true, true, true, true, true, true, true, true, true, true, true, true, true, true, true, true, true, true, true, true, true, true, true, true, true, true, true, true, true, false, false, false, false, false, false] rfl rfl (by kernel_rfl) (fun _ _ _ h => h) (Or.inl ⟨by rfl, ?_⟩) hHeld ?_ ?_
              rotate_left
              · rintro w' ⟨s0, s1, s2, s3, s4, s5, s6, s7⟩
                go_simp
                with_reducible rfl
              rotate_left
              · simp only [Act.put, List.setIfInBounds_toArray, List.set_cons_zero, List.set_cons_succ, i64_w, i32_w]
                rfl
              refine pure_ (i := 53) (N := some 133) (v := ?_) (a' := ?_) #[true, true, true, true, true, true, true, true, true, true, true, true, true, true, true, true, true, true, true, true, true, false, true, true, true, true, true, true, true, true, true, true, true, true, true, true, true, true, true, true, true, true, true, true, true, true, true, true, true, true, true, true, true, true, false, false, false, false, false] rfl rfl (by kernel_rfl) (fun _ _ _ h => h) (Or.inl ⟨by rfl, ?_⟩) ?_ ?_
              rotate_left
              · intro w'
                go_simp
                with_reducible rfl
              rotate_left
              · simp only [Act.put, List.setIfInBounds_toArray, List.set_cons_zero, List.set_cons_succ, i64_w, i32_w]
                rfl
              refine pure_ (i := 54) (N := some 134) (v := ?_) (a' := ?_) #[true, true, true, true, true, true, true, true, true, true, true, true, true, true, true, true, true, true, true, true, true, false, true, true, true, true, true, true, true, true, true, true, true, true, true, true, true, true, true, true, true, true, true, true, true, true, true, true, true, true, true, true, true, true, true, false, false, false, false] rfl rfl (by kernel_rfl) (fun _ _ _ h => h) (Or.inl ⟨by rfl, ?_⟩) ?_ ?_
              rotate_left
              · intro w'
                go_simp
                with_reducible rfl
              rotate_left
              · simp only [Act.put, List.setIfInBounds_toArray, List.set_cons_zero, List.set_cons_succ, i64_w, i32_w]
                rfl
              refine pure_ (i := 55) (N := some 135) (v := ?_) (a' := ?_) #[true, true, true, true, true, true, true, true, true, true, true, true, true, true, true, true, true, true, true, true, true, false, true, true, true, true, true, true, true, true, true, true, true, true, true, true, true, true, true, true, true, true, true, true, true, true, true, true, true, true, true, true, true, true, true, true, false, false, false] rfl rfl (by kernel_rfl) (fun _ _ _ h => h) (Or.inl ⟨by rfl, ?_⟩) ?_ ?_
              rotate_left
              · intro w'
                go_simp
                with_reducible rfl
              rotate_left
              · simp only [Act.put, List.setIfInBounds_toArray, List.set_cons_zero, List.set_cons_succ, i64_w, i32_w]
                rfl
              refine one_ (i := 21) (N := some 101) #[true, true, true, true, true, true, true, true, true, true, true, true, true, true, true, true, true, true, true, true, true, true, true, true, true, true, true, true, true, true, true, true, true, true, true, true, true, true, true, true, true, true, true, true, true, true, true, true, true, true, true, true, true, true, true, true, false, false, false] rfl rfl (by kernel_rfl) (by decide) (fun K hK => ?_)
              refine goes_ Try.func21 (by kernel_rfl) rfl #[tabV true, .slice (some ⟨ga, 0, none⟩) k c6] (by rfl) rfl rfl (by simp only [List.map_toArray, List.map_cons, List.map_nil]; rfl) ?_
              refine (HSU.out _ (Kd.C_below HBY.out (by repeat (first | with_reducible exact Below.refl _ _ | with_reducible apply below_drew1 | with_reducible apply pw_below_drewN | with_reducible apply below_alloc))) hnc HTB.out).mono ?_
              rintro e w8 ⟨rfl, hB⟩
              refine ⟨_, rfl, ?_⟩
              have hS := (show Below w7.heap.size w7 w8 from below_step (by repeat (first | with_reducible exact Below.refl _ _ | with_reducible apply below_drew1 | with_reducible apply pw_below_drewN | with_reducible apply below_alloc)) hB)
              replace HC6 := Aside0.mk (Kd.C_below HC6.out hS)
              replace HBY := Aside0.mk (Kd.C_below HBY.out hS)
              replace HI := Aside0.mk (HI.out.below hS)
              replace HB := Aside0.mk (below_step HB.out hS)
              replace HF := Aside0.mk (blk_below HF.out hS)
              clear hS hB
              refine hK.out _ _ ⟨(HI.out.below (by repeat (first | with_reducible exact Below.refl _ _ | with_reducible apply below_drew1 | with_reducible apply pw_below_drewN | with_reducible apply below_alloc))), (HCS.out _ (Kd.C_below HC6.out (by repeat (first | with_reducible exact Below.refl _ _ | with_reducible apply below_drew1 | with_reducible apply pw_below_drewN | with_reducible apply below_alloc)))).1, (HCS.out _ (Kd.C_below HC6.out (by repeat (first | with_reducible exact Below.refl _ _ | with_reducible apply below_drew1 | with_reducible apply pw_below_drewN | with_reducible apply below_alloc)))).2.1, (HCS.out _ (Kd.C_below HC6.out (by repeat (first | with_reducible exact Below.refl _ _ | with_reducible apply below_drew1 | with_reducible apply pw_below_drewN | with_reducible apply below_alloc)))).2.2.1, (HCS.out _ (Kd.C_below HC6.out (by repeat (first | with_reducible exact Below.refl _ _ | with_reducible apply below_drew1 | with_reducible apply pw_below_drewN | with_reducible apply below_alloc)))).2.2.2.1, (HCS.out _ (Kd.C_below HC6.out (by repeat (first | with_reducible exact Below.refl _ _ | with_reducible apply below_drew1 | with_reducible apply pw_below_drewN | with_reducible apply below_alloc)))).2.2.2.2.1, (HCS.out _ (Kd.C_below HC6.out (by repeat (first | with_reducible exact Below.refl _ _ | with_reducible apply below_drew1 | with_reducible apply pw_below_drewN | with_reducible apply below_alloc)))).2.2.2.2.2, (HFS.out _ (blk_below HF.out (by repeat (first | with_reducible exact Below.refl _ _ | with_reducible apply below_drew1 | with_reducible apply pw_below_drewN | with_reducible apply below_alloc))))⟩ (fun hHeld => ?_)
              clear hK K
              refine norm_ (a' := ?_) ?_ ?_
              rotate_left
              · show Act.put _ (some 101) _ = _
                simp only [Act.put, List.setIfInBounds_toArray, List.set_cons_zero, List.set_cons_succ, i64_w, i32_w]
                rfl
              refine pure_ (i := 56) (N := some 136) (v := ?_) (a' := ?_) #[true, true, true, true, true, true, true, true, true, true, true, true, true, true, true, true, true, true, true, true, true, true, true, true, true, true, true, true, true, true, true, true, true, true, true, true, true, true, true, true, true, true, true, true, true, true, true, true, true, true, true, true, true, true, true, true, true, false, false] rfl rfl (by kernel_rfl) (fun _ _ _ h => h) (Or.inl ⟨by rfl, ?_⟩) ?_ ?_
              rotate_left
              · intro w'
                go_simp
                with_reducible rfl
              rotate_left
              · simp only [Act.put, List.setIfInBounds_toArray, List.set_cons_zero, List.set_cons_succ, i64_w, i32_w]
                rfl
              refine pure_ (i := 57) (N := some 137) (v := ?_) (a' := ?_) #[true, true, true, true, true, true, true, true, true, true, true, true, true, true, true, true, true, true, true, true, true, true, true, true, true, true, true, true, true, true, true, true, true, true, true, true, true, true, true, true, true, true, true, true, true, true, true, true, true, true, true, true, true, true, true, true, true, true, false] rfl rfl (by kernel_rfl) (fun _ _ _ h => h) (Or.inl ⟨by rfl, ?_⟩) ?_ ?_
              rotate_left
              · intro w'
                go_simp
                with_reducible rfl
              rotate_left
              · simp only [Act.put, List.setIfInBounds_toArray, List.set_cons_zero, List.set_cons_succ, i64_w, i32_w]
                rfl
              refine pure_ (i := 58) (N := some 2) (v := ?_) (a' := ?_) #[true, true, true, true, true, true, true, true, true, true, true, true, true, true, true, true, true, true, true, true, true, true, true, true, true, true, true, true, true, true, true, true, true, true, true, true, true, true, true, true, true, true, true, true, true, true, true, true, true, true, true, true, true, true, true, true, true, true, true] rfl rfl (by kernel_rfl) (fun _ _ _ h => h) (Or.inl ⟨by rfl, ?_⟩) ?_ ?_
              rotate_left
              · intro w'
                go_simp
                with_reducible rfl
              rotate_left
              · simp only [Act.put, List.setIfInBounds_toArray, List.set_cons_zero, List.set_cons_succ, i64_w, i32_w]
                rfl
              refine done_ (by kernel_rfl) ?_
              go_wp2_with fail
              go_ret
              exact ⟨rfl, HB.out⟩
end Go.Proofs.Ytpalloofjljhkaa.P
/-! Opn -/
namespace Go.Proofs.Ytpalloofjljhkaa.Opn
open Go.ChangeShapes Go.WideShapes Go.RowKit Go.Deep
open Go.Proofs.YtpalloofjljhkaaW.PrintWords
set_option linter.unusedVariables false
def Opens (P : Program) (w : World) (t : TypeId) {α : Type} (d : Kd α) (WF : α → Prop) : Prop :=
  ∀ {H : Type} {enc : TypeId × Value → H} {base : Nat} {held : Bool} {n : Nat} {cs : List Value} {y : DataW H × List MemPlace}, DataW.trod enc P w base (fun _ => true) held n t cs = some y → ∃ x, d.K w x cs ∧ WF x
section
variable {P : Program} {w : World} {t e : TypeId} {α β : Type}
theorem opens_int {k : IntKind} (ht : P.underlying t = some (.int k)) : Opens P w t (Kd.int k) (fun x => (Lit.int k x).wf = true) := by
  intro H enc base held n cs y h
  obtain ⟨x, he, _, hw⟩ := DataW.trod_int ht h
  exact ⟨x, he, hw⟩
theorem add_add_ (a : Addr) (i j : Nat) : (a.add i).add j = a.add (i + j) := by
  unfold Addr.add
  by_cases hi : i = 0 <;> by_cases hj : j = 0 <;> simp [hi, hj, Nat.add_assoc]
theorem opens_slice {d : Kd α} {WF : α → Prop} (ht : P.underlying t = some (.slice e)) (hc : P.cellsOf e = d.sz) (he : Opens P w e d WF) : Opens P w t (Kd.slice e d) (fun xs => ∀ x ∈ xs, WF x) := by
  intro H enc base held n cs y h
  rcases open_slice ht h with ⟨rfl, _⟩ | ⟨a, len, cap, m, n', D, Pl, rfl, hb, hl, hm, hmm, rfl, hx⟩
  · exact ⟨[], ⟨none, 0, rfl, Nat.le_refl _, ⟨rfl, Nat.zero_le _, fun h => absurd h (Nat.lt_irrefl 0)⟩⟩, fun x hx => by cases hx⟩
  · have hcap : m = cap := by rw [hmm]; rfl
    have key : ∀ i, i < len → ∃ x, (∃ c, c.length = d.sz ∧ d.K w x c ∧ ∀ j u, c[j]? = some u → w.cell? (a.add (i * d.sz + j)) = some u) ∧ WF x := by
      intro i hi
      obtain ⟨cs', h1, h2⟩ := hx i (by omega)
      obtain ⟨_, hlen, hcell⟩ := World.cells?_some h1
      obtain ⟨x, hK, hW⟩ := he h2
      refine ⟨x, ⟨cs', by rw [hlen, hc], hK, fun j u hj => ?_⟩, hW⟩
      have hjl : j < P.cellsOf e := by rw [← hlen]; exact (List.getElem?_eq_some_iff.1 hj).1
      have := hcell j hjl
      rw [add_add_, hc] at this
      rw [this, hj]
    by_cases h0 : len = 0
    · subst h0
      exact ⟨[], ⟨some a, cap, rfl, Nat.zero_le _, ⟨rfl, Nat.zero_le _, fun h => absurd h (Nat.lt_irrefl 0)⟩⟩, fun x hx => by cases hx⟩
    · have hinh : Nonempty α := by obtain ⟨x, _⟩ := key 0 (by omega); exact ⟨x⟩
      have : Inhabited α := Classical.inhabited_of_nonempty hinh
      obtain ⟨f, hf⟩ := choose_lt key
      have hlen : ((List.range len).map f).length = len := by simp
      refine ⟨(List.range len).map f, ⟨some a, cap, by rw [hlen], by rw [hlen]; exact hl, ⟨rfl, by rw [hlen]; unfold maxLen at hm; omega, fun _ => ⟨a, rfl, fun j p hj => ?_⟩⟩⟩, fun x hx => ?_⟩
      · have hjl : j < len := by have := (List.getElem?_eq_some_iff.1 hj).1; rwa [hlen] at this
        have hp : p = f j := by
          rw [List.getElem?_map, List.getElem?_range hjl] at hj
          exact (Option.some.inj hj).symm
        subst hp
        exact (hf j hjl).1
      · obtain ⟨i, hi, rfl⟩ := List.mem_map.1 hx
        exact (hf i (List.mem_range.1 hi)).2
def segs (P : Program) : List TypeId → Nat
  | [] => 0
  | f :: fs => P.cellsOf f + segs P fs
def OpensL (P : Program) (w : World) (fs : List TypeId) {α : Type} (d : Kd α) (WF : α → Prop) : Prop :=
  ∀ {H : Type} {enc : TypeId × Value → H} {base : Nat} {held : Bool} {n : Nat} {cs : List Value}, cs.length = segs P fs →
    (∀ (j : Nat) (f : TypeId), fs[j]? = some f → ∃ y, DataW.trod enc P w base (fun _ => true) held n f ((cs.drop (segs P (fs.take j))).take (P.cellsOf f)) = some y) → ∃ x, d.K w x cs ∧ WF x
theorem opensL_one {d : Kd α} {WF : α → Prop} (h : Opens P w t d WF) : OpensL P w [t] d WF := by
  intro H enc base held n cs hl hj
  obtain ⟨y, hy⟩ := hj 0 t rfl
  have e1 : (cs.drop (segs P ([t].take 0))).take (P.cellsOf t) = cs := by
    show (cs.drop 0).take _ = cs
    rw [List.drop_zero]
    exact List.take_of_length_le (by rw [hl]; exact Nat.le_refl _)
  rw [e1] at hy
  exact h hy
theorem opensL_cons {fs : List TypeId} {d1 : Kd α} {d2 : Kd β} {W1 : α → Prop} {W2 : β → Prop} (h1 : Opens P w t d1 W1) (h2 : OpensL P w fs d2 W2) : OpensL P w (t :: fs) (Kd.pair d1 d2) (fun x => W1 x.1 ∧ W2 x.2) := by
  intro H enc base held n cs hl hj
  have hl' : cs.length = P.cellsOf t + segs P fs := hl
  obtain ⟨y, hy⟩ := hj 0 t rfl
  have e1 : (cs.drop (segs P ((t :: fs).take 0))).take (P.cellsOf t) = cs.take (P.cellsOf t) := by
    show (cs.drop 0).take _ = _
    rw [List.drop_zero]
  rw [e1] at hy
  obtain ⟨x, hK, hW⟩ := h1 hy
  obtain ⟨z, hK2, hW2⟩ := h2 (H := H) (enc := enc) (base := base) (held := held) (n := n) (cs := cs.drop (P.cellsOf t)) (by rw [List.length_drop]; omega) (fun j f hf => by
    obtain ⟨y', hy'⟩ := hj (j + 1) f hf
    refine ⟨y', ?_⟩
    rw [List.drop_drop]
    exact hy')
  exact ⟨(x, z), ⟨cs.take (P.cellsOf t), cs.drop (P.cellsOf t), (List.take_append_drop _ _).symm, hK, hK2⟩, hW, hW2⟩
def structOk (P : Program) (t : TypeId) (fs : Array Field) (ts : List TypeId) : Bool :=
  P.cellsOf t == segs P ts && fs.size == ts.length && (List.range ts.length).all fun j => match fs[j]?, ts[j]? with
    | some f, some u => f.type == u && f.offset == segs P (ts.take j)
    | _, _ => false
theorem opens_struct {fs : Array Field} {d : Kd α} {WF : α → Prop} (ts : List TypeId) (ht : P.underlying t = some (.struct fs)) (hok : structOk P t fs ts = true) (h : OpensL P w ts d WF) : Opens P w t d WF := by
  intro H enc base held n cs y hy
  obtain ⟨xs, m, _, _, hl, hxl, hf⟩ := DataW.trod_struct ht hy
  unfold structOk at hok
  simp only [Bool.and_eq_true, beq_iff_eq, List.all_eq_true, List.mem_range] at hok
  obtain ⟨⟨h1, h2⟩, h3⟩ := hok
  refine h (H := H) (enc := enc) (base := base) (held := held) (n := m) (by rw [hl, h1]) (fun j u hu => ?_)
  have hj : j < ts.length := (List.getElem?_eq_some_iff.1 hu).1
  have h4 := h3 j hj
  have hjf : fs[j]? = some (fs[j]'(by omega)) := Array.getElem?_eq_getElem (by omega)
  rw [hjf, hu] at h4
  simp only [Bool.and_eq_true, beq_iff_eq] at h4
  have h5 := hf j _ hjf
  rw [h4.1, h4.2] at h5
  exact ⟨_, h5.trans (List.getElem?_eq_getElem (by omega))⟩
theorem segs_rep (k : Nat) : segs P (List.replicate k e) = k * P.cellsOf e := by
  induction k with
  | zero => exact (Nat.zero_mul _).symm
  | succ k ih => show P.cellsOf e + segs P (List.replicate k e) = _; rw [ih, Nat.succ_mul, Nat.add_comm]
theorem opens_array {k : Nat} {d : Kd α} {WF : α → Prop} (ht : P.underlying t = some (.array k e)) (hC : (P.cellsOf t == k * P.cellsOf e) = true) (h : OpensL P w (List.replicate k e) d WF) : Opens P w t d WF := by
  intro H enc base held n cs y hy
  obtain ⟨xs, m, _, _, hl, hxl, hf⟩ := DataW.trod_array ht hy
  refine h (H := H) (enc := enc) (base := base) (held := held) (n := m) (by rw [hl, segs_rep]; exact eq_of_beq hC) (fun j u hu => ?_)
  have hj : j < k := by have := (List.getElem?_eq_some_iff.1 hu).1; rwa [List.length_replicate] at this
  have hue : u = e := by
    rw [List.getElem?_replicate, if_pos hj] at hu
    exact (Option.some.inj hu).symm
  subst hue
  have h5 := hf j hj
  have e2 : segs P ((List.replicate k u).take j) = j * P.cellsOf u := by
    rw [List.take_replicate, Nat.min_eq_left (by omega), segs_rep]
  rw [e2]
  exact ⟨_, h5.trans (List.getElem?_eq_getElem (by omega))⟩
theorem arg_agg {H : Type} {enc : TypeId × Value → H} {base : Nat} {held : Bool} {d : Kd α} {WF : α → Prop} {cs : Array Value} {D : DataW H} {p : List MemPlace} (h : Opens P w t d WF)
    (hT : DataW.Trod enc P w base (fun _ => true) held t (.agg cs) D p) : ∃ x, d.K w x cs.toList ∧ WF x := by
  obtain ⟨fuel, hf⟩ := hT
  exact h hf
end
end Go.Proofs.Ytpalloofjljhkaa.Opn
/-! WalkMacPads -/
namespace Go.Proofs.Ytpalloofjljhkaa.P
open Go.RowKit Go.Proofs.YtpalloofjljhkaaW.PrintWords Go.Proofs.YtpalloofjljhkaaW.PrintLast Go.Proofs.YtpalloofjljhkaaW.PrintMore
def antiphonlaw3_MacPads.Pure : Prop := ∀ (a0_0 : Int) (a0_1 : Int) (a0_2 : Int) (a0_3 : Int) (a0_4 : Int) (a0_5 : Int) (a0_6 : Int) (a0_7 : Int) (a0_8 : Int) (a0_9 : Int) (a0_10 : Int) (a0_11 : Int) (l0_12 : List Int), (Lit.int .u8 a0_0).wf = true → (Lit.int .u8 a0_1).wf = true → (Lit.int .u8 a0_2).wf = true → (Lit.int .u8 a0_3).wf = true → (Lit.int .u8 a0_4).wf = true → (Lit.int .u8 a0_5).wf = true → (Lit.int .u8 a0_6).wf = true → (Lit.int .u8 a0_7).wf = true → (Lit.int .u8 a0_8).wf = true → (Lit.int .u8 a0_9).wf = true → (Lit.int .u8 a0_10).wf = true → (Lit.int .u8 a0_11).wf = true → l0_12.length ≤ 9223372036854775807 → (∀ yl0_12 ∈ l0_12, (Lit.int .u8 yl0_12).wf = true) → antiphonlaw3_MacPads.f a0_0 a0_1 a0_2 a0_3 a0_4 a0_5 a0_6 a0_7 a0_8 a0_9 a0_10 a0_11 l0_12 = some true
end Go.Proofs.Ytpalloofjljhkaa.P
/-! PureMacPads -/
namespace Go.Proofs.Ytpalloofjljhkaa.Pure
open Go.RowKit Go.Proofs.Ytpalloofjljhkaa Go.Proofs.Ytpalloofjljhkaa.P Go.Proofs.YtpalloofjljhkaaW.PrintWords Go.Proofs.YtpalloofjljhkaaW.PrintLast
theorem six_wf {a b c d e f : Int} (h0 : (Lit.int .u8 a).wf = true) (h1 : (Lit.int .u8 b).wf = true) (h2 : (Lit.int .u8 c).wf = true) (h3 : (Lit.int .u8 d).wf = true) (h4 : (Lit.int .u8 e).wf = true) (h5 : (Lit.int .u8 f).wf = true) : ∀ x ∈ [a, b, c, d, e, f], 0 ≤ x ∧ x < 256 := by
  intro x hx
  simp only [List.mem_cons, List.not_mem_nil, or_false] at hx
  rcases hx with rfl | rfl | rfl | rfl | rfl | rfl <;> exact Lib.u8_wf (by assumption)
theorem MacPads : antiphonlaw3_MacPads.Pure := by
  intro a0 a1 a2 a3 a4 a5 a6 a7 a8 a9 a10 a11 l0 h0 h1 h2 h3 h4 h5 h6 h7 h8 h9 h10 h11 _ hw
  unfold antiphonlaw3_MacPads.f
  rw [if_pos ⟨six_wf h0 h1 h2 h3 h4 h5, six_wf h6 h7 h8 h9 h10 h11, fun c hc => Lib.u8_wf (hw c hc)⟩]
end Go.Proofs.Ytpalloofjljhkaa.Pure
/-! LawMacPads -/
namespace Go.Proofs.Ytpalloofjljhkaa.macPads
open Go.ChangeShapes Go.WideShapes Go.ChangeAt Go.RowKit
open Go.ChangeMaps (open_string shut_string)
open Go.Proofs.YtpalloofjljhkaaW.PrintWords (Kd)
open P
set_option linter.unusedVariables false
theorem own : ownKnob Try.prog.godebug = none := by kernel_rfl
theorem laidOut : laidOutB Try.prog = true := by kernel_rfl
set_option maxRecDepth 100000 in
theorem lifted (os : Os) (started : os.Started) (H : Type) (enc : TypeId × Value → H) :
    ReturnsInHanded {} Try.checked os 12 .any (Rows.macPadsSpec.pre6 enc Try.prog Try.f12 Rows.macPadsRow.domain false) (Rows.macPadsSpec.post enc Try.prog Try.f12 false true false false) := by
  refine returnsInHanded_of_change_sized (C := Try.checked) own started (by kernel_rfl) Try.func12
    (ChangeSpec.witness6 (enc := enc) (C := Try.checked) false ⟨#[], #[.agg #[.int .u8 0, .int .u8 0, .int .u8 0, .int .u8 0, .int .u8 0, .int .u8 0, .int .u8 0, .int .u8 0, .int .u8 0, .int .u8 0, .int .u8 0, .int .u8 0, .slice none 0 0]], []⟩ 8 (by kernel_rfl) (by kernel_rfl) (by kernel_rfl) (by kernel_rfl)) ?_
  intro W base args ds gs before hval0 hW hcnd hsz0 _
  have hval : ∀ (j : Nat) t v, Try.f12.params[j]? = some t → args[j]? = some v → Value.okWide Try.prog W .any base t v := hval0
  have hW' := hW
  obtain ⟨p, q, hA0, hV, rfl, hfz, hnd⟩ := hW
  have hA : DataW.TrodAll enc Try.prog W 0 (fun _ => true) true Try.f12.params.toList args.toList ds p := hA0
  rw [Try.params12] at hA hval
  obtain ⟨v0, vs0, d0, ds0, p0, q0, hargs, rfl, rfl, h0, r0⟩ := trodAll_cons hA
  obtain ⟨rfl, rfl, rfl⟩ := trodAll_nil r0
  obtain rfl : args = #[v0] := by cases args; simp_all
  obtain ⟨rfl, rfl⟩ := trodVars_none hV
  obtain ⟨cs0, rfl⟩ : ∃ cs, v0 = .agg cs := by have hv_ := (hval 0 45 v0 rfl rfl); unfold Value.okWide at hv_; rw [Try.underlying45] at hv_; obtain ⟨cs, hc_, _⟩ := hv_; exact ⟨cs, hc_⟩
  have k0 := h0
  have lt0 : ∀ x ∈ p0, x.block < W.heap.size := by obtain ⟨m, hm⟩ := k0; exact DataW.trod_lt m _ _ _ hm
  obtain ⟨⟨⟨a0_0, a0_1, a0_2, a0_3, a0_4, a0_5⟩, ⟨a0_6, a0_7, a0_8, a0_9, a0_10, a0_11⟩, l0_12⟩, ⟨_, _, he0, ⟨_, _, rfl, rfl, ⟨_, _, rfl, rfl, ⟨_, _, rfl, rfl, ⟨_, _, rfl, rfl, ⟨_, _, rfl, rfl, rfl⟩⟩⟩⟩⟩, ⟨_, _, rfl, ⟨_, _, rfl, rfl, ⟨_, _, rfl, rfl, ⟨_, _, rfl, rfl, ⟨_, _, rfl, rfl, ⟨_, _, rfl, rfl, rfl⟩⟩⟩⟩⟩, ⟨A0_12, c0_12, rfl, hc0_12, hr0_12⟩⟩⟩, ⟨⟨w0_0, w0_1, w0_2, w0_3, w0_4, w0_5⟩, ⟨w0_6, w0_7, w0_8, w0_9, w0_10, w0_11⟩, w0_12⟩⟩ := Opn.arg_agg (d := (Kd.pair (Kd.pair (Kd.int .u8) (Kd.pair (Kd.int .u8) (Kd.pair (Kd.int .u8) (Kd.pair (Kd.int .u8) (Kd.pair (Kd.int .u8) (Kd.int .u8)))))) (Kd.pair (Kd.pair (Kd.int .u8) (Kd.pair (Kd.int .u8) (Kd.pair (Kd.int .u8) (Kd.pair (Kd.int .u8) (Kd.pair (Kd.int .u8) (Kd.int .u8)))))) (Kd.slice 5 (Kd.int .u8))))) (Opn.opens_struct [43, 43, 22] Try.underlying45 (by kernel_rfl) (Opn.opensL_cons (Opn.opens_array Try.underlying43 (by kernel_rfl) (Opn.opensL_cons (Opn.opens_int Try.underlying5) (Opn.opensL_cons (Opn.opens_int Try.underlying5) (Opn.opensL_cons (Opn.opens_int Try.underlying5) (Opn.opensL_cons (Opn.opens_int Try.underlying5) (Opn.opensL_cons (Opn.opens_int Try.underlying5) (Opn.opensL_one (Opn.opens_int Try.underlying5)))))))) (Opn.opensL_cons (Opn.opens_array Try.underlying43 (by kernel_rfl) (Opn.opensL_cons (Opn.opens_int Try.underlying5) (Opn.opensL_cons (Opn.opens_int Try.underlying5) (Opn.opensL_cons (Opn.opens_int Try.underlying5) (Opn.opensL_cons (Opn.opens_int Try.underlying5) (Opn.opensL_cons (Opn.opens_int Try.underlying5) (Opn.opensL_one (Opn.opens_int Try.underlying5)))))))) (Opn.opensL_one (Opn.opens_slice Try.underlying22 (by kernel_rfl) (Opn.opens_int Try.underlying5)))))) h0
  obtain rfl : cs0 = #[.int .u8 a0_0, .int .u8 a0_1, .int .u8 a0_2, .int .u8 a0_3, .int .u8 a0_4, .int .u8 a0_5, .int .u8 a0_6, .int .u8 a0_7, .int .u8 a0_8, .int .u8 a0_9, .int .u8 a0_10, .int .u8 a0_11, .slice A0_12 l0_12.length c0_12] := Array.ext' (he0.trans rfl)
  have hm0_12 : l0_12.length ≤ 9223372036854775807 := hr0_12.2.1
  clear hA0 hval0 hsz0 hval
  have h := Pure.MacPads a0_0 a0_1 a0_2 a0_3 a0_4 a0_5 a0_6 a0_7 a0_8 a0_9 a0_10 a0_11 l0_12 w0_0 w0_1 w0_2 w0_3 w0_4 w0_5 w0_6 w0_7 w0_8 w0_9 w0_10 w0_11 hm0_12 w0_12
  refine (P.antiphonlaw3_MacPads.calls a0_0 a0_1 a0_2 a0_3 a0_4 a0_5 a0_6 a0_7 a0_8 a0_9 a0_10 a0_11 _ _ l0_12 true W hr0_12 hc0_12 h).mono fun e W' ⟨he, bel⟩ => ?_
  subst he
  exact ⟨_, rfl, _, _, _, [], _, [], hW', trodAll_mk1 (shut_bool Try.underlying4 _), (trodAll_cons_mk (Below.trod laidOut (by kernel_rfl) (of_decide_eq_true (by kernel_rfl)) k0 bel lt0) trodAll_mk0), rfl, bel.frame _, fun h => by cases h⟩
theorem fact0 : (Rows.macPadsRow.wf (OpenSpec.ofChange Rows.macPadsSpec)) = true := by kernel_rfl
theorem fact1 : (laidOutB Try.prog) = true := Kit.laidOut
theorem fact2 : (mapsRowed Try.prog) = true := Kit.mapsRowed
theorem fact3 : (Try.f12.params.all (Try.prog.readableRec ·)) = true := by kernel_rfl
theorem fact4 : (namedTie Try.prog Rows.macPadsRow.named Rows.macPadsSpec.vars) = true := by kernel_rfl
theorem fact5 : ((Rows.macPadsRow.stops == [])) = true := by kernel_rfl
theorem fact6 : ((Try.prog.stops == [])) = true := Kit.stops
theorem fact7 : ((Rows.macPadsRow.knobs == [])) = true := by kernel_rfl
theorem fact8 : ((Try.prog.stopKnobs == [])) = true := Kit.stopKnobs
theorem fact9 : ((Rows.macPadsRow.inPlace == Try.prog.inPlace 12)) = true := by kernel_rfl
theorem fact10 : ((Rows.macPadsRow.unfollowed == Try.prog.unfollowed 12)) = true := by kernel_rfl
theorem fact11 : ((Rows.macPadsRow.recurses == Try.prog.recurses 12)) = true := by kernel_rfl
theorem fact12 : ((Rows.macPadsRow.named == Try.prog.varsNamed 12)) = true := by kernel_rfl
theorem fact13 : ((Rows.macPadsRow.maps == (Try.f12.params.toList ++ Rows.macPadsSpec.plain.varTypes Try.prog).any (Try.prog.mapsRec ·))) = true := by kernel_rfl
theorem fact14 : ((Rows.macPadsRow.ifaces == (Try.f12.params.toList ++ Rows.macPadsSpec.plain.varTypes Try.prog).any (Try.prog.ifacesRec ·))) = true := by kernel_rfl
theorem fact15 : ((Rows.macPadsRow.mapsOut == Try.prog.mapsAmong Try.f12.resultTypes.toList)) = true := by kernel_rfl
theorem fact16 : ((Rows.macPadsRow.loops == (Try.f12.params.toList ++ Rows.macPadsSpec.plain.varTypes Try.prog).any (Try.prog.loopsFrom ·))) = true := by kernel_rfl
theorem fact17 : ((Rows.macPadsRow.wideKeys == (Try.f12.params.toList ++ Rows.macPadsSpec.plain.varTypes Try.prog ++ Try.f12.resultTypes.toList).any (Try.prog.wideKeysFrom ·))) = true := by kernel_rfl
theorem fact18 : (Rows.macPadsSpec.vars.all (Try.prog.varReadable ·)) = true := by kernel_rfl
theorem fact19 : (Try.f12.resultTypes.all (fun t => Try.prog.readableRec t && decide (t < Try.prog.types.size))) = true := by kernel_rfl
theorem fact20 : ((Rows.macPadsRow.ifacesOut == Try.f12.resultTypes.toList.any (Try.prog.ifacesRec ·))) = true := by kernel_rfl
theorem fact21 : ((Rows.macPadsRow.loopsOut == Try.f12.resultTypes.toList.any (Try.prog.loopsFrom ·))) = true := by kernel_rfl
theorem fact22 : ((Rows.macPadsRow.plainKeys == Try.prog.plainKeys)) = true := (by rw [Kit.plainKeys]; rfl)
theorem fact23 : (Rows.macPadsRow.shortTexts.isNone) = true := by kernel_rfl
theorem fact24 : (Try.prog.stopsHeard) = true := Kit.stopsHeard
theorem fact25 : (Try.prog.mayEnter) = true := Kit.mayEnter
theorem fact26 : ((Rows.macPadsRow.lifted == Try.prog.liftsFinal)) = true := (by rw [Kit.liftsFinal]; rfl)
theorem fact27 : ((Try.prog.make == some Rows.macPadsRow.make)) = true := (by rw [Kit.make]; rfl)
theorem fact28 : ((Rows.macPadsRow.kinds == (if Rows.macPadsRow.domain.isEmpty then [] else Try.f12.params.toList.map fun t => match Try.prog.underlying t with | some (.int k) => some k | _ => none))) = true := by kernel_rfl
theorem fact29 : ((Rows.macPadsRow.pinned == Rows.macPadsRow.pinnedBy)) = true := by kernel_rfl
theorem fact30 : ((Rows.macPadsRow.veiled == (Try.f12.params.toList ++ Rows.macPadsSpec.plain.varTypes Try.prog ++ Try.f12.resultTypes.toList).any (Try.prog.veiledRec ·))) = true := by kernel_rfl
theorem fact31 : (Rows.macPadsRow.veiledFits Try.prog Try.f12.params.toList (Try.f12.params.toList ++ Rows.macPadsSpec.plain.varTypes Try.prog ++ Try.f12.resultTypes.toList)) = true := by kernel_rfl
set_option maxRecDepth 100000 in
theorem closed : joinedFacts Try.prog 12 Try.f12 Rows.macPadsSpec Rows.macPadsRow = true := by
  unfold joinedFacts
  exact (Kit.and2 (Kit.and2 (Kit.and2 (Kit.and2 (Kit.and2 (Kit.and2 (Kit.and2 (Kit.and2 (Kit.and2 (Kit.and2 (Kit.and2 (Kit.and2 (Kit.and2 (Kit.and2 (Kit.and2 (Kit.and2 (Kit.and2 (Kit.and2 (Kit.and2 (Kit.and2 (Kit.and2 (Kit.and2 (Kit.and2 (Kit.and2 (Kit.and2 (Kit.and2 (Kit.and2 (Kit.and2 (Kit.and2 (Kit.and2 (Kit.and2 fact0 fact1) fact2) fact3) fact4) fact5) fact6) fact7) fact8) fact9) fact10) fact11) fact12) fact13) fact14) fact15) fact16) fact17) fact18) fact19) fact20) fact21) fact22) fact23) fact24) fact25) fact26) fact27) fact28) fact29) fact30) fact31)
theorem named : Try.prog.funcNamed Rows.macPadsRow.func = some 12 := by kernel_rfl
theorem inst : Try.f12.isInstance Try.prog Rows.macPadsRow.origin Rows.macPadsRow.targs := of_decide_eq_true (by kernel_rfl)
theorem wrap_ : Try.f12.isWrapper Try.prog Rows.macPadsRow.wrapper Rows.macPadsRow.mainSum := by unfold Func.isWrapper; first | (rw [if_pos (by decide +kernel)]; kernel_rfl) | (rw [if_neg (by decide +kernel)]; exact ⟨rfl, rfl⟩)
theorem over : Rows.macPadsRow.holds Try.pinned (OpenSpec.ofChange Rows.macPadsSpec) :=
  OpenClaim.holds_of_wide 12 Try.f12 rfl rfl rfl rfl rfl rfl rfl ⟨rfl, rfl, rfl, rfl, rfl⟩ rfl rfl rfl rfl rfl named Try.func12 closed
    inst wrap_
    (fun os started H enc _ => lifted os started H enc)
theorem proved : Rows.MacPadsSaid := over
#print axioms proved
end Go.Proofs.Ytpalloofjljhkaa.macPads
namespace Go.Proofs.Ytpalloofjljhkaa
theorem macPads_holds : Rows.MacPadsSaid := macPads.proved
end Go.Proofs.Ytpalloofjljhkaa
