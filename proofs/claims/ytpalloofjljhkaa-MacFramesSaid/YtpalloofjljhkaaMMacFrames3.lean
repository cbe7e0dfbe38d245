/- Any frame: its bytes, or what may not be; any bytes: the frame, or what is wrong first. -/
-- Put together by wip/print2/mergelaw.py: printed words (what this claim does not use is left out), printed functions, texts of this session.
import Derived.Test.YtpalloofjljhkaaMMacFrames2
/-! REnc -/
namespace Go.Proofs.Ytpalloofjljhkaa.P
open Go.RowKit Go.Proofs.Ytpalloofjljhkaa.Lib Go.Proofs.YtpalloofjljhkaaW.PrintWords Go.Proofs.YtpalloofjljhkaaW.PrintLast Go.Proofs.YtpalloofjljhkaaW.PrintMore
set_option linter.unusedVariables false
set_option linter.unusedSimpArgs false
attribute [local go_sem] max2_int min2_int max_two min_two max_three min_three max_four min_four   -- for this text's walks alone
theorem enc_byte {tt fr l : List Int} (h1 : byteRow tt) (h2 : byteRow fr) (h3 : byteRow l) : byteRow (encB tt fr l) := by
  intro c hc
  unfold encB at hc
  rcases List.mem_append.mp hc with hc | hc
  · rcases List.mem_append.mp hc with hc | hc
    · rcases List.mem_append.mp hc with hc | hc
      · rcases List.mem_append.mp hc with hc | hc
        · exact h1 c hc
        · exact h2 c hc
      · exact beN_bytes 2 _ c hc
    · exact h3 c hc
  · rw [List.eq_of_mem_replicate hc]; exact ⟨by decide, by decide⟩
theorem rgrp_f (x : Int) (a b c d e : Int) : antiphonref1_Group.f x a b c d e = some (isGrp x) := rfl
set_option maxHeartbeats 8000000 in
set_option maxRecDepth 100000 in
theorem ref_Encode.group (t0 t1 t2 t3 t4 t5 f0 f1 f2 f3 f4 f5 : Int) (A0 : Option Addr) (c0 : Nat) (l0 : List Int) (w : World) (hr0 : Kd.C (Kd.int .u8) w A0 l0.length l0) (hc0 : l0.length ≤ c0) (hg : isGrp f0 = true) :
    Calls Try.prog 33 #[.agg #[.int .u8 t0, .int .u8 t1, .int .u8 t2, .int .u8 t3, .int .u8 t4, .int .u8 t5, .int .u8 f0, .int .u8 f1, .int .u8 f2, .int .u8 f3, .int .u8 f4, .int .u8 f5, .slice A0 l0.length c0]] w fun e w' => ∃ v, e = .returned (.tuple #[v, .int .i64 1]) ∧ Kd.R (Kd.int .u8) 5 w' w.heap.size (fun _ => True) v [] ∧ Below w.heap.size w w' := by
  have HR := Aside0.mk hr0
  have hm0 : l0.length ≤ 9223372036854775807 := hr0.2.1
  clear hr0
  go_enter Try.func33, Try.ntmps33
  go_wp2_with fail
  have hb1 := blk_new w (.cells #[.int .u8 t0, .int .u8 t1, .int .u8 t2, .int .u8 t3, .int .u8 t4, .int .u8 t5, .int .u8 f0, .int .u8 f1, .int .u8 f2, .int .u8 f3, .int .u8 f4, .int .u8 f5, .slice A0 l0.length c0] 45 (0, 0))
  have hbw : Below w.heap.size w (w.alloc (.cells #[.int .u8 t0, .int .u8 t1, .int .u8 t2, .int .u8 t3, .int .u8 t4, .int .u8 t5, .int .u8 f0, .int .u8 f1, .int .u8 f2, .int .u8 f3, .int .u8 f4, .int .u8 f5, .slice A0 l0.length c0] 45 (0, 0))) := below_alloc (Below.refl _ _) _
  generalize w.alloc (.cells #[.int .u8 t0, .int .u8 t1, .int .u8 t2, .int .u8 t3, .int .u8 t4, .int .u8 t5, .int .u8 f0, .int .u8 f1, .int .u8 f2, .int .u8 f3, .int .u8 f4, .int .u8 f5, .slice A0 l0.length c0] 45 (0, 0)) = w1 at hb1 hbw ⊢
  have HB := Aside0.mk hbw
  have HF := Aside0.mk hb1
  clear hb1 hbw
  refine (antiphonref1_Group.calls f0 f1 f2 f3 f4 f5 _ _ (rgrp_f _ _ _ _ _ _)).mono ?_
  rintro e w2 ⟨rfl, hB⟩
  replace HF := Aside0.mk (blk_below HF.out hB)
  replace HB := Aside0.mk (below_step HB.out hB)
  have hk12 := (show w2.cell? ⟨w.heap.size, 12, none⟩ = some (.slice A0 l0.length c0) from (blk_cell HF.out 12).trans rfl)
  clear hB
  rw [hg]
  go_wp2_with fail
  go_ret2
  exact ⟨_, rfl, Kd.R_nil _ _ _ _ _, HB.out⟩
set_option maxHeartbeats 8000000 in
set_option maxRecDepth 100000 in
theorem ref_Encode.long (t0 t1 t2 t3 t4 t5 f0 f1 f2 f3 f4 f5 : Int) (A0 : Option Addr) (c0 : Nat) (l0 : List Int) (w : World) (hr0 : Kd.C (Kd.int .u8) w A0 l0.length l0) (hc0 : l0.length ≤ c0) (hg : isGrp f0 = false) (hl : 1500 < l0.length) :
    Calls Try.prog 33 #[.agg #[.int .u8 t0, .int .u8 t1, .int .u8 t2, .int .u8 t3, .int .u8 t4, .int .u8 t5, .int .u8 f0, .int .u8 f1, .int .u8 f2, .int .u8 f3, .int .u8 f4, .int .u8 f5, .slice A0 l0.length c0]] w fun e w' => ∃ v, e = .returned (.tuple #[v, .int .i64 3]) ∧ Kd.R (Kd.int .u8) 5 w' w.heap.size (fun _ => True) v [] ∧ Below w.heap.size w w' := by
  have d1 : decide ((1500 : Int) < (l0.length : Int)) = true := decide_eq_true (by omega)
  have HR := Aside0.mk hr0
  have hm0 : l0.length ≤ 9223372036854775807 := hr0.2.1
  clear hr0
  go_enter Try.func33, Try.ntmps33
  go_wp2_with fail
  have hb1 := blk_new w (.cells #[.int .u8 t0, .int .u8 t1, .int .u8 t2, .int .u8 t3, .int .u8 t4, .int .u8 t5, .int .u8 f0, .int .u8 f1, .int .u8 f2, .int .u8 f3, .int .u8 f4, .int .u8 f5, .slice A0 l0.length c0] 45 (0, 0))
  have hbw : Below w.heap.size w (w.alloc (.cells #[.int .u8 t0, .int .u8 t1, .int .u8 t2, .int .u8 t3, .int .u8 t4, .int .u8 t5, .int .u8 f0, .int .u8 f1, .int .u8 f2, .int .u8 f3, .int .u8 f4, .int .u8 f5, .slice A0 l0.length c0] 45 (0, 0))) := below_alloc (Below.refl _ _) _
  generalize w.alloc (.cells #[.int .u8 t0, .int .u8 t1, .int .u8 t2, .int .u8 t3, .int .u8 t4, .int .u8 t5, .int .u8 f0, .int .u8 f1, .int .u8 f2, .int .u8 f3, .int .u8 f4, .int .u8 f5, .slice A0 l0.length c0] 45 (0, 0)) = w1 at hb1 hbw ⊢
  have HB := Aside0.mk hbw
  have HF := Aside0.mk hb1
  clear hb1 hbw
  refine (antiphonref1_Group.calls f0 f1 f2 f3 f4 f5 _ _ (rgrp_f _ _ _ _ _ _)).mono ?_
  rintro e w2 ⟨rfl, hB⟩
  replace HF := Aside0.mk (blk_below HF.out hB)
  replace HB := Aside0.mk (below_step HB.out hB)
  have hk12 := (show w2.cell? ⟨w.heap.size, 12, none⟩ = some (.slice A0 l0.length c0) from (blk_cell HF.out 12).trans rfl)
  clear hB
  rw [hg]
  go_wp2_with fail
  go_ret2
  exact ⟨_, rfl, Kd.R_nil _ _ _ _ _, HB.out⟩
set_option maxHeartbeats 8000000 in
set_option maxRecDepth 100000 in
theorem ref_Encode.ok (t0 t1 t2 t3 t4 t5 f0 f1 f2 f3 f4 f5 : Int) (A0 : Option Addr) (c0 : Nat) (l0 : List Int) (w : World) (hr0 : Kd.C (Kd.int .u8) w A0 l0.length l0) (hc0 : l0.length ≤ c0) (hg : isGrp f0 = false) (hl : l0.length ≤ 1500) (hb : byteRow l0) (hbt : byteRow [t0, t1, t2, t3, t4, t5]) (hbf : byteRow [f0, f1, f2, f3, f4, f5]) :
    Calls Try.prog 33 #[.agg #[.int .u8 t0, .int .u8 t1, .int .u8 t2, .int .u8 t3, .int .u8 t4, .int .u8 t5, .int .u8 f0, .int .u8 f1, .int .u8 f2, .int .u8 f3, .int .u8 f4, .int .u8 f5, .slice A0 l0.length c0]] w fun e w' => ∃ v, e = .returned (.tuple #[v, .int .i64 0]) ∧ Kd.R (Kd.int .u8) 5 w' w.heap.size (fun _ => True) v (sealI (encB [t0, t1, t2, t3, t4, t5] [f0, f1, f2, f3, f4, f5] l0)) ∧ Below w.heap.size w w' := by
  have d1 : decide ((1500 : Int) < (l0.length : Int)) = false := decide_eq_false (by omega)
  have HC := Aside0.mk hc0
  have HL := Aside0.mk hl
  have HCP := Aside0.mk (copy_any (a := [t0, t1, t2, t3, t4, t5]) (show 6 ≤ 140737488355328 by decide))
  have HPU := Aside0.mk (show antiphonref1_Put.f 10 (l0.length : Int) 2 = some (beN 2 (l0.length : Int)) by
    have h := put_ref (l0.length : Int) 2 0
    rw [h]
    unfold putL
    rw [if_pos ⟨by decide, by decide, by omega, by show (l0.length : Int) < 2 ^ 16; omega⟩]
    rfl)
  have HBE := Aside0.mk (beN_length 2 (l0.length : Int))
  have HBYT := Aside0.mk (enc_byte hbt hbf hb)
  have HLEN := Aside0.mk (show (encB [t0, t1, t2, t3, t4, t5] [f0, f1, f2, f3, f4, f5] l0).length < 140737488355000 by
    unfold encB
    simp only [List.length_append, List.length_cons, List.length_nil, List.length_replicate, beN_length]
    omega)
  have HEN := Aside0.mk (show encB [t0, t1, t2, t3, t4, t5] [f0, f1, f2, f3, f4, f5] l0 = [t0, t1, t2, t3, t4, t5] ++ [f0, f1, f2, f3, f4, f5] ++ beN 2 (l0.length : Int) ++ l0 ++ List.replicate (46 - l0.length) 0 from rfl)
  generalize hbe : beN 2 (l0.length : Int) = be at HPU HBE HEN
  generalize encB [t0, t1, t2, t3, t4, t5] [f0, f1, f2, f3, f4, f5] l0 = G at HBYT HLEN HEN ⊢
  clear hc0 hb hbt hbf hbe
  have HR := Aside0.mk hr0
  have hm0 : l0.length ≤ 9223372036854775807 := hr0.2.1
  clear hr0
  go_enter Try.func33, Try.ntmps33
  go_wp2_with fail
  have hb1 := blk_new w (.cells #[.int .u8 t0, .int .u8 t1, .int .u8 t2, .int .u8 t3, .int .u8 t4, .int .u8 t5, .int .u8 f0, .int .u8 f1, .int .u8 f2, .int .u8 f3, .int .u8 f4, .int .u8 f5, .slice A0 l0.length c0] 45 (0, 0))
  have hbw : Below w.heap.size w (w.alloc (.cells #[.int .u8 t0, .int .u8 t1, .int .u8 t2, .int .u8 t3, .int .u8 t4, .int .u8 t5, .int .u8 f0, .int .u8 f1, .int .u8 f2, .int .u8 f3, .int .u8 f4, .int .u8 f5, .slice A0 l0.length c0] 45 (0, 0))) := below_alloc (Below.refl _ _) _
  generalize w.alloc (.cells #[.int .u8 t0, .int .u8 t1, .int .u8 t2, .int .u8 t3, .int .u8 t4, .int .u8 t5, .int .u8 f0, .int .u8 f1, .int .u8 f2, .int .u8 f3, .int .u8 f4, .int .u8 f5, .slice A0 l0.length c0] 45 (0, 0)) = w1 at hb1 hbw ⊢
  have HB := Aside0.mk hbw
  have HF := Aside0.mk hb1
  clear hb1 hbw
  refine (antiphonref1_Group.calls f0 f1 f2 f3 f4 f5 _ _ (rgrp_f _ _ _ _ _ _)).mono ?_
  rintro e w2 ⟨rfl, hB⟩
  replace HF := Aside0.mk (blk_below HF.out hB)
  replace HB := Aside0.mk (below_step HB.out hB)
  have hk12 := (show w2.cell? ⟨w.heap.size, 12, none⟩ = some (.slice A0 l0.length c0) from (blk_cell HF.out 12).trans rfl)
  clear hB
  rw [hg]
  go_wp2_with fail
  refine start_ (n := 7) (S := fun w' => True) (ds := []) #[false, false, false, false, false, false, false] (by kernel_rfl) rfl rfl trivial (fun hHeld => ?_)
  refine pure_ (i := 0) (N := some 13) (v := ?_) (a' := ?_) #[true, false, false, false, false, false, false] rfl rfl (by kernel_rfl) (fun _ _ _ h => h) (Or.inl ⟨by rfl, ?_⟩) ?_ ?_
  rotate_left
  · intro w'
    go_simp
    with_reducible rfl
  rotate_left
  · simp only [Act.put, List.setIfInBounds_toArray, List.set_cons_zero, List.set_cons_succ, i64_w, i32_w]
    rfl
  refine pure_ (i := 1) (N := some 14) (v := ?_) (a' := ?_) #[true, true, false, false, false, false, false] rfl rfl (by kernel_rfl) (fun _ _ _ h => h) (Or.inl ⟨by rfl, ?_⟩) ?_ ?_
  rotate_left
  · intro w'
    go_simp
    with_reducible rfl
  rotate_left
  · simp only [Act.put, List.setIfInBounds_toArray, List.set_cons_zero, List.set_cons_succ, i64_w, i32_w]
    rfl
  refine pure_ (i := 3) (N := some 16) (v := ?_) (a' := ?_) #[true, true, false, true, false, false, false] rfl rfl (by kernel_rfl) (fun _ _ _ h => h) (Or.inl ⟨by rfl, ?_⟩) ?_ ?_
  rotate_left
  · intro w'
    go_simp
    with_reducible rfl
  rotate_left
  · simp only [Act.put, List.setIfInBounds_toArray, List.set_cons_zero, List.set_cons_succ, i64_w, i32_w]
    rfl
  refine pure_ (i := 4) (N := some 17) (v := ?_) (a' := ?_) #[true, true, false, true, true, false, false] rfl rfl (by kernel_rfl) (fun _ _ _ h => h) (Or.inl ⟨by rfl, ?_⟩) ?_ ?_
  rotate_left
  · intro w'
    go_simp
    with_reducible rfl
  rotate_left
  · simp only [Act.put, List.setIfInBounds_toArray, List.set_cons_zero, List.set_cons_succ, i64_w, i32_w]
    rfl
  refine one_ (i := 2) (N := some 15) #[true, true, true, true, true, false, false] rfl rfl (by kernel_rfl) (by decide) (fun K hK => ?_)
  replace HF := Aside0.mk (show w2.drew.heap[w.heap.size]? = some (.cells #[.int .u8 t0, .int .u8 t1, .int .u8 t2, .int .u8 t3, .int .u8 t4, .int .u8 t5, .int .u8 f0, .int .u8 f1, .int .u8 f2, .int .u8 f3, .int .u8 f4, .int .u8 f5, .slice A0 l0.length c0] 45 (0, 0)) from HF.out)
  replace HB := Aside0.mk (below_drew1 HB.out)
  refine goes_ Try.func22 (by kernel_rfl) rfl #[.slice (some ⟨w.heap.size, 0, none⟩) 6 6] (by rfl) rfl rfl (by simp only [List.map_toArray, List.map_cons, List.map_nil]; rfl) ?_
  refine (antiphonref1_Copy.calls _ _ 6 [t0, t1, t2, t3, t4, t5] [t0, t1, t2, t3, t4, t5] w2.drew (part_C (off := 0) (xs := [t0, t1, t2, t3, t4, t5]) HF.out rfl (show 6 ≤ 9223372036854775807 by decide) (six rfl rfl rfl rfl rfl rfl)) (show 6 ≤ 6 from Nat.le_refl _) HCP.out).mono ?_
  rintro e w3 ⟨v3, rfl, hR, hB⟩
  refine ⟨_, rfl, ?_⟩
  have HX := Aside0.mk (Kd.R_lower hR HB.out.size)
  replace HF := Aside0.mk (blk_below HF.out hB)
  replace HB := Aside0.mk (below_step HB.out hB)
  clear hR hB
  refine hK.out _ _ trivial (fun hHeld => ?_)
  clear hK K
  refine norm_ (a' := ?_) ?_ ?_
  rotate_left
  · show Act.put _ (some 15) _ = _
    simp only [Act.put, List.setIfInBounds_toArray, List.set_cons_zero, List.set_cons_succ, i64_w, i32_w]
    rfl
  refine one_ (i := 5) (N := some 18) #[true, true, true, true, true, true, false] rfl rfl (by kernel_rfl) (by decide) (fun K hK => ?_)
  refine Kd.R_append_rows_step (Kd.int .u8) (w0 := w) w.heap.size (by rfl) (.tmp 15) (.tmp 17) 22 5 (.int .u8 0) 1 rfl Try.underlying22 info5 rfl (by decide) (by omega) v3 [t0, t1, t2, t3, t4, t5] [f0, f1, f2, f3, f4, f5] (some ⟨w.heap.size, 6, none⟩) 6 6 (fun _ => True) (fun _ => False) rfl rfl HX.out (part_C (off := 6) (xs := [f0, f1, f2, f3, f4, f5]) HF.out rfl (show 6 ≤ 9223372036854775807 by decide) (six rfl rfl rfl rfl rfl rfl)) (fun _ _ h => h) (fun _ h => h.elim) (fun _ _ => trivial) HB.out HB.out.size (by simp) ?_
  intro v4 w4 ho hb hg hat
  replace HF := Aside0.mk ((hg.block _ (blk_lt HF.out) (Kd.R_ne HX.out HF.out (by decide))).trans HF.out)
  replace HX := Aside0.mk ho
  replace HB := Aside0.mk hb
  clear ho hb hg hat
  refine hK.out _ _ trivial (fun hHeld => ?_)
  clear hK K
  refine norm_ (a' := ?_) ?_ ?_
  rotate_left
  · show Act.put _ (some 18) _ = _
    simp only [Act.put, List.setIfInBounds_toArray, List.set_cons_zero, List.set_cons_succ, i64_w, i32_w]
    rfl
  refine pure_ (i := 6) (N := some 4) (v := ?_) (a' := ?_) #[true, true, true, true, true, true, true] rfl rfl (by kernel_rfl) (fun _ _ _ h => h) (Or.inl ⟨by rfl, ?_⟩) ?_ ?_
  rotate_left
  · intro w'
    go_simp
    with_reducible rfl
  rotate_left
  · simp only [Act.put, List.setIfInBounds_toArray, List.set_cons_zero, List.set_cons_succ, i64_w, i32_w]
    rfl
  refine done_ (by kernel_rfl) ?_
  have hk12 := (show w4.cell? ⟨w.heap.size, 12, none⟩ = some (.slice A0 l0.length c0) from (blk_cell HF.out 12).trans rfl)
  go_wp2_with fail
  refine (antiphonref1_Put.calls 10 _ _ _ _ HPU.out).mono ?_
  rintro e w5 ⟨v5, rfl, hR5, hB⟩
  obtain ⟨A5, c5, rfl, hc5, hC5⟩ := Kd.R_reads hR5
  have HC5 := Aside0.mk hC5
  replace HF := Aside0.mk (blk_below HF.out hB)
  replace HX := Aside0.mk (Kd.R_below HX.out hB)
  replace HB := Aside0.mk (below_step HB.out hB)
  have hk12 := (show w5.cell? ⟨w.heap.size, 12, none⟩ = some (.slice A0 l0.length c0) from (blk_cell HF.out 12).trans rfl)
  clear hB hR5 hC5 hc5
  go_wp2_with (first
    | (at_builtin; refine Kd.R_append_rows (Kd.int .u8) (w0 := w) w.heap.size rfl (.tmp 19) (.tmp 23) 22 5 (.int .u8 0) 1 rfl Try.underlying22 info5 rfl (by decide) (by omega) v4 ([t0, t1, t2, t3, t4, t5] ++ [f0, f1, f2, f3, f4, f5]) be A5 be.length c5 (fun _ => True) (fun _ => False) rfl rfl HX.out HC5.out (fun _ _ h => h) (fun _ h => h.elim) (fun _ _ => trivial) HB.out HB.out.size (by have := HBE.out; have := HL.out; simp only [List.length_append, List.length_cons, List.length_nil]; omega) ?_; intro v6 w6 ho hb hg hat; replace HF := Aside0.mk ((hg.block _ (blk_lt HF.out) (Kd.R_ne HX.out HF.out (by decide))).trans HF.out); have hk12 := (show w6.cell? ⟨w.heap.size, 12, none⟩ = some (.slice A0 l0.length c0) from (blk_cell HF.out 12).trans rfl); replace HX := Aside0.mk ho; replace HB := Aside0.mk hb; clear ho hb hg hat)
    | (at_builtin; refine Kd.R_append_rows (Kd.int .u8) (w0 := w) w.heap.size rfl (.tmp 25) (.tmp 27) 22 5 (.int .u8 0) 1 rfl Try.underlying22 info5 rfl (by decide) (by omega) v6 ([t0, t1, t2, t3, t4, t5] ++ [f0, f1, f2, f3, f4, f5] ++ be) l0 A0 l0.length c0 (fun _ => True) (fun _ => False) rfl rfl HX.out (Kd.C_below HR.out HB.out) (fun _ _ h => h) (fun _ h => h.elim) (fun _ _ => trivial) HB.out HB.out.size (by have := HBE.out; have := HL.out; simp only [List.length_append, List.length_cons, List.length_nil]; omega) ?_; intro v7 w7 ho hb hg hat; replace HF := Aside0.mk ((hg.block _ (blk_lt HF.out) (Kd.R_ne HX.out HF.out (by decide))).trans HF.out); have hk12 := (show w7.cell? ⟨w.heap.size, 12, none⟩ = some (.slice A0 l0.length c0) from (blk_cell HF.out 12).trans rfl); replace HX := Aside0.mk ho; replace HB := Aside0.mk hb; clear ho hb hg hat))
  have HXL := Aside0.mk (show ([t0, t1, t2, t3, t4, t5] ++ [f0, f1, f2, f3, f4, f5] ++ be ++ l0).length ≤ 2000 by have := HBE.out; have := HL.out; simp only [List.length_append, List.length_cons, List.length_nil]; omega)
  generalize [t0, t1, t2, t3, t4, t5] ++ [f0, f1, f2, f3, f4, f5] ++ be ++ l0 = X at HX HXL HEN
  go_loopw [5, 4] (fun v5 v4 wr => ∃ j : Nat, j ≤ 46 - l0.length ∧ v5 = .int .i64 ((l0.length + j : Nat) : Int) ∧ Aside0 (Kd.R (Kd.int .u8) 5 wr w.heap.size (fun _ => True) v4 (X ++ List.replicate j 0)) ∧ Aside0 (Below w.heap.size w wr)) (fun v5 _ _ => 46 - (intOf v5).toNat)
  case atStart => exact ⟨0, Nat.zero_le _, by simp, ⟨by rw [List.replicate_zero, List.append_nil]; exact HX.out⟩, HB⟩
  case round =>
    obtain ⟨j, hj, rfl, HO, HB9⟩ := hrel
    by_cases hlt : l0.length + j < 46
    · have d2 : decide (((l0.length + j : Nat) : Int) < 46) = true := decide_eq_true (by omega)
      have e2 : X ++ List.replicate j 0 ++ [0] = X ++ List.replicate (j + 1) 0 := by rw [List.append_assoc, ← List.replicate_succ']
      have HE2 := Aside0.mk e2
      clear e2
      have hq1 : j + 1 ≤ 46 - l0.length := by omega
      have HQJ := Aside0.mk (show ((l0.length + (j + 1) : Nat) : Int) = ((l0.length + j : Nat) : Int) + 1 by omega)
      have HJL := Aside0.mk hj
      generalize hjj : l0.length + j = q at d2 HQJ ⊢
      have hq46 : q < 46 := by omega
      clear hjj
      go_wp2_with (at_builtin; refine Kd.R_append_rows (Kd.int .u8) (w0 := w) w.heap.size rfl (.tmp 36) (.tmp 37) 22 5 (.int .u8 0) 1 rfl Try.underlying22 info5 rfl (by decide) (by omega) _ (X ++ List.replicate j 0) [0] (some ⟨World.heap _ |>.size, 0, none⟩) 1 1 (fun _ => True) (fun _ => False) rfl rfl (Kd.R_alloc HO.out _) (lit_C (xs := [0]) (blk_new _ _) rfl (by decide)) (fun _ _ h => h) (fun _ h => h.elim) (fun _ _ => trivial) (below_alloc HB9.out _) (below_alloc HB9.out _).size (by have := HXL.out; have := HJL.out; simp only [List.length_append, List.length_replicate, List.length_cons, List.length_nil]; omega) ?_; intro v9 w9 ho hb hg hat; rw [HE2.out] at ho; replace HO := Aside0.mk ho; replace HB9 := Aside0.mk hb; clear ho hb hg hat)
      go_round
      case rel => exact ⟨j + 1, hq1, by rw [HQJ.out], HO, HB9⟩
      case measure => simp [intOf]; omega
    · obtain rfl : j = 46 - l0.length := by omega
      have d2 : decide (((l0.length + (46 - l0.length) : Nat) : Int) < 46) = false := decide_eq_false (by omega)
      rw [← HEN.out] at HO
      obtain ⟨A8, c8, hv8, hc8, hC8⟩ := Kd.R_reads HO.out
      subst hv8
      have HC8 := Aside0.mk hC8
      have Hc8 := Aside0.mk hc8
      clear hC8 hc8
      generalize hjj : l0.length + (46 - l0.length) = q at d2 ⊢
      clear hjj
      go_wp2_with fail
      refine (ref_Seal.calls A8 c8 G _ HC8.out Hc8.out HBYT.out HLEN.out).mono ?_
      rintro e w9 ⟨v9, rfl, hR9, hB⟩
      have HR9 := Aside0.mk (Kd.R_lower hR9 HB9.out.size)
      replace HB9 := Aside0.mk (below_step HB9.out hB)
      clear hB hR9
      go_wp2_with fail
      go_ret2
      exact ⟨_, rfl, HR9.out, HB9.out⟩
end Go.Proofs.Ytpalloofjljhkaa.P
/-! RDec -/
namespace Go.Proofs.Ytpalloofjljhkaa.P
open Go.RowKit Go.Proofs.Ytpalloofjljhkaa.Lib Go.Proofs.YtpalloofjljhkaaW.PrintWords Go.Proofs.YtpalloofjljhkaaW.PrintLast Go.Proofs.YtpalloofjljhkaaW.PrintMore
set_option linter.unusedVariables false
set_option linter.unusedSimpArgs false
attribute [local go_sem] max2_int min2_int max_two min_two max_three min_three max_four min_four   -- for this text's walks alone
theorem info5_ : (Try.prog.info? 5).map (·.size) = some 1 := by kernel_rfl
section
variable {P : Program}
theorem wpList_store_byte {ops : Array Oper} {rest : List Oper} {op : Oper} {a : Act} {w : World} {Q : Exit → Act → World → Prop} (hgd : op.guard = none) (x y : Operand) (ho : op.op = .store 5 x y)
    (g i : Nat) (v : Int) (Z Z' : Array Value) (t : TypeId) (hx : a.eval x = .pointer (some ⟨g, i, none⟩)) (hy : a.eval y = .int .u8 v) (hZ : w.heap[g]? = some (.cells Z t (0, 0))) (hi : i + 1 ≤ Z.size) (hov : overRow Z i [.int .u8 v] = Z')
    (hu : (P.info? 5).map (·.size) = some 1)
    (h : ∀ W', W'.heap[g]? = some (.cells Z' t (0, 0)) → w.grownBy W' (some g) → wpList P ops Q rest (a.put op.dst undef) W') : wpList P ops Q (op :: rest) a w := by
  refine wpList_plain hgd fun K hK => ?_
  have hrun := run_store_run (P := P) 5 (.int .u8 v) [.int .u8 v] hZ rfl hu hi (by intro q hq; rw [List.mem_singleton.mp hq]; rfl)
  unfold Oper.wp execOp
  simp only [ho, hx, hy, Sem.run_bind, Sem.run_pure, Result.andThen_ok, hrun]
  refine hK _ _ (h _ ?_ (grown_setCells _ _ _ _))
  rw [← hov]
  exact heap_setCells g t _ i w Z hZ
end
theorem byte_at {W : World} {g n i : Nat} {X : List Int} (h : Kd.C (Kd.int .u8) W (some ⟨g, 0, none⟩) n X) (hi : i < n) : W.cell? ⟨g, i, none⟩ = some (.int .u8 (hdv X i)) := by
  obtain ⟨ad, e1, hx⟩ := Kd.at_int h (i : Int) (by omega) (by omega)
  injection e1 with e1
  subst e1
  rw [rd_nat, Int.toNat_natCast] at hx
  have ha : (Addr.add ⟨g, 0, none⟩ i) = ⟨g, i, none⟩ := by unfold Addr.add; split <;> simp_all
  rw [ha] at hx
  exact hx
theorem piece_C {W : World} {g : Nat} {X : List Int} (h : Kd.C (Kd.int .u8) W (some ⟨g, 0, none⟩) X.length X) (off n : Nat) (ho : off + n ≤ X.length) : Kd.C (Kd.int .u8) W (some ⟨g, off, none⟩) n ((X.drop off).take n) := by
  have hl : ((X.drop off).take n).length = n := by rw [List.length_take, List.length_drop]; omega
  refine Kd.C_of_reads (d := (0 : Int)) (h1 := fun _ => rfl) ⟨hl, by have := h.2.1; omega, fun _ => ⟨⟨g, off, none⟩, rfl, fun j hj => ?_⟩⟩
  have ha : (Addr.add ⟨g, off, none⟩ j) = ⟨g, off + j, none⟩ := by unfold Addr.add; split <;> simp_all
  rw [ha, byte_at h (by omega)]
  unfold hdv
  rw [List.getD_eq_getElem?_getD, List.getD_eq_getElem?_getD, List.getElem?_take, if_pos hj, List.getElem?_drop]
theorem cut_part (g n c lo hi : Nat) (h1 : lo ≤ hi) (h2 : hi ≤ n) (hc : n ≤ c) (h0 : lo < c) : ∀ W : World, (Instr.slice 22 (.slice (some ⟨g, 0, none⟩) n c) (some (.int .i64 (lo : Int))) (some (.int .i64 (hi : Int))) none).run Try.prog W = .ok (.slice (some ⟨g, lo, none⟩) (hi - lo) (c - lo)) W := by
  intro W
  obtain ⟨i0, hi0, hz0, hz1, hz2⟩ := info_parts info5
  rw [cut_mid 22 5 .i64 .i64 (P := Try.prog) Try.underlying22 hi0 1 hz1 (some ⟨g, 0, none⟩) n c (lo : Int) (hi : Int) (by omega) (by omega) (by omega) hc W]
  have ha : (Addr.add ⟨g, 0, none⟩ (lo * 1)) = ⟨g, lo, none⟩ := by unfold Addr.add; split <;> simp_all
  rw [Int.toNat_natCast, Int.toNat_natCast, if_neg (by omega), Option.map_some, ha]
theorem rget2 {X : List Int} (hb : byteRow X) (h : 14 ≤ X.length) : antiphonref1_Get.f 11 ((X.drop 12).take 2) = some (be16 X) := by
  have h1 : X.drop 12 = hdv X 12 :: X.drop 13 := by
    unfold hdv
    rw [List.getD_eq_getElem?_getD, List.getElem?_eq_getElem (show 12 < X.length by omega)]
    exact List.drop_eq_getElem_cons (by omega)
  have h2 : X.drop 13 = hdv X 13 :: X.drop 14 := by
    unfold hdv
    rw [List.getD_eq_getElem?_getD, List.getElem?_eq_getElem (show 13 < X.length by omega)]
    exact List.drop_eq_getElem_cons (by omega)
  have b1 : 0 ≤ hdv X 12 ∧ hdv X 12 < 256 := getD_byte hb 12
  have b2 : 0 ≤ hdv X 13 ∧ hdv X 13 < 256 := getD_byte hb 13
  have e : (X.drop 12).take 2 = [hdv X 12, hdv X 13] := by rw [h1, h2]; rfl
  have hbb : Bytes [hdv X 12, hdv X 13] := by
    intro c hc
    simp only [List.mem_cons, List.not_mem_nil, or_false] at hc
    rcases hc with rfl | rfl
    · exact b1
    · exact b2
  rw [e, get_ref [hdv X 12, hdv X 13] hbb 0]
  unfold getL be16 numL
  simp
set_option maxHeartbeats 8000000 in
set_option maxRecDepth 100000 in
theorem ref_Decode.short (A0 : Option Addr) (c0 : Nat) (l0 : List Int) (w : World) (hr0 : Kd.C (Kd.int .u8) w A0 l0.length l0) (hc0 : l0.length ≤ c0) (hl : l0.length < 64) :
    Calls Try.prog 35 #[.slice A0 l0.length c0] w fun e w' => e = .returned (.tuple #[.agg #[.int .u8 0, .int .u8 0, .int .u8 0, .int .u8 0, .int .u8 0, .int .u8 0, .int .u8 0, .int .u8 0, .int .u8 0, .int .u8 0, .int .u8 0, .int .u8 0, .slice none 0 0], .int .i64 2]) ∧ Below w.heap.size w w' := by
  have d1 : decide ((l0.length : Int) < 64) = true := decide_eq_true (by omega)
  have HR := Aside0.mk hr0
  have HC := Aside0.mk hc0
  have hm0 : l0.length ≤ 9223372036854775807 := hr0.2.1
  have hu45 := Try.underlying45
  have hu43 := Try.underlying43
  clear hr0 hc0
  go_enter Try.func35, Try.ntmps35
  go_upto_region 1 with fail
  have hb1 := blk_new w (.cells #[.int .u8 0, .int .u8 0, .int .u8 0, .int .u8 0, .int .u8 0, .int .u8 0, .int .u8 0, .int .u8 0, .int .u8 0, .int .u8 0, .int .u8 0, .int .u8 0, .slice none 0 0] 45 (0, 0))
  have hbw := below_alloc (Below.refl w.heap.size w) (.cells #[.int .u8 0, .int .u8 0, .int .u8 0, .int .u8 0, .int .u8 0, .int .u8 0, .int .u8 0, .int .u8 0, .int .u8 0, .int .u8 0, .int .u8 0, .int .u8 0, .slice none 0 0] 45 (0, 0))
  generalize w.alloc (.cells #[.int .u8 0, .int .u8 0, .int .u8 0, .int .u8 0, .int .u8 0, .int .u8 0, .int .u8 0, .int .u8 0, .int .u8 0, .int .u8 0, .int .u8 0, .int .u8 0, .slice none 0 0] 45) = w1 at hb1 hbw ⊢
  have HB := Aside0.mk hbw
  have H2 := Aside0.mk hb1
  clear hb1 hbw
  go_wp2_with (first
    | (refine wpList_store_part rfl 45 (.tmp 2) (.tmp 13) rfl w.heap.size 0 #[.int .u8 0, .int .u8 0, .int .u8 0, .int .u8 0, .int .u8 0, .int .u8 0, .int .u8 0, .int .u8 0, .int .u8 0, .int .u8 0, .int .u8 0, .int .u8 0, .slice none 0 0] #[.int .u8 0, .int .u8 0, .int .u8 0, .int .u8 0, .int .u8 0, .int .u8 0, .int .u8 0, .int .u8 0, .int .u8 0, .int .u8 0, .int .u8 0, .int .u8 0, .slice none 0 0] #[.int .u8 0, .int .u8 0, .int .u8 0, .int .u8 0, .int .u8 0, .int .u8 0, .int .u8 0, .int .u8 0, .int .u8 0, .int .u8 0, .int .u8 0, .int .u8 0, .slice none 0 0] 45 rfl rfl H2.out (by decide) (by rfl) info45_ (by rfl) ?_; intro wz hZ hG; replace H2 := Aside0.mk hZ; replace HB := Aside0.mk (below_own HB.out hG (Nat.le_refl _)); clear hZ hG))
  exact bodyPost_ret (results_frame rfl _ _ w.heap.size _ rfl rfl H2.out) rfl ⟨rfl, HB.out⟩
set_option maxHeartbeats 8000000 in
set_option maxRecDepth 100000 in
theorem ref_Decode.sum (A0 : Option Addr) (c0 : Nat) (l0 : List Int) (w : World) (hr0 : Kd.C (Kd.int .u8) w A0 l0.length l0) (hc0 : l0.length ≤ c0) (hl : 64 ≤ l0.length) (hb : byteRow l0) (hmx : l0.length < 140737488355000) (hop : openB l0 = false) :
    Calls Try.prog 35 #[.slice A0 l0.length c0] w fun e w' => e = .returned (.tuple #[.agg #[.int .u8 0, .int .u8 0, .int .u8 0, .int .u8 0, .int .u8 0, .int .u8 0, .int .u8 0, .int .u8 0, .int .u8 0, .int .u8 0, .int .u8 0, .int .u8 0, .slice none 0 0], .int .i64 5]) ∧ Below w.heap.size w w' := by
  have d1 : decide ((l0.length : Int) < 64) = false := decide_eq_false (by omega)
  have HOP := Aside0.mk hop
  have HBY := Aside0.mk hb
  have HMX := Aside0.mk hmx
  clear hop hb hmx
  have HR := Aside0.mk hr0
  have HC := Aside0.mk hc0
  have hm0 : l0.length ≤ 9223372036854775807 := hr0.2.1
  have hu45 := Try.underlying45
  have hu43 := Try.underlying43
  clear hr0 hc0
  go_enter Try.func35, Try.ntmps35
  go_upto_region 1 with fail
  have hb1 := blk_new w (.cells #[.int .u8 0, .int .u8 0, .int .u8 0, .int .u8 0, .int .u8 0, .int .u8 0, .int .u8 0, .int .u8 0, .int .u8 0, .int .u8 0, .int .u8 0, .int .u8 0, .slice none 0 0] 45 (0, 0))
  have hbw := below_alloc (Below.refl w.heap.size w) (.cells #[.int .u8 0, .int .u8 0, .int .u8 0, .int .u8 0, .int .u8 0, .int .u8 0, .int .u8 0, .int .u8 0, .int .u8 0, .int .u8 0, .int .u8 0, .int .u8 0, .slice none 0 0] 45 (0, 0))
  generalize w.alloc (.cells #[.int .u8 0, .int .u8 0, .int .u8 0, .int .u8 0, .int .u8 0, .int .u8 0, .int .u8 0, .int .u8 0, .int .u8 0, .int .u8 0, .int .u8 0, .int .u8 0, .slice none 0 0] 45) = w1 at hb1 hbw ⊢
  have HB := Aside0.mk hbw
  have H2 := Aside0.mk hb1
  clear hb1 hbw
  go_wp2_with fail
  refine (ref_Open.calls _ _ _ _ (Kd.C_below HR.out HB.out) HC.out HBY.out HMX.out).mono ?_
  rintro e w4 ⟨v4, rfl, hR, hB⟩
  rw [HOP.out]
  replace H2 := Aside0.mk (blk_below H2.out hB)
  replace HB := Aside0.mk (below_step HB.out hB)
  clear hB hR
  go_wp2_with (first
    | (refine wpList_store_part rfl 45 (.tmp 2) (.tmp 21) rfl w.heap.size 0 #[.int .u8 0, .int .u8 0, .int .u8 0, .int .u8 0, .int .u8 0, .int .u8 0, .int .u8 0, .int .u8 0, .int .u8 0, .int .u8 0, .int .u8 0, .int .u8 0, .slice none 0 0] #[.int .u8 0, .int .u8 0, .int .u8 0, .int .u8 0, .int .u8 0, .int .u8 0, .int .u8 0, .int .u8 0, .int .u8 0, .int .u8 0, .int .u8 0, .int .u8 0, .slice none 0 0] #[.int .u8 0, .int .u8 0, .int .u8 0, .int .u8 0, .int .u8 0, .int .u8 0, .int .u8 0, .int .u8 0, .int .u8 0, .int .u8 0, .int .u8 0, .int .u8 0, .slice none 0 0] 45 rfl rfl H2.out (by decide) (by rfl) info45_ (by rfl) ?_; intro wz hZ hG; replace H2 := Aside0.mk hZ; replace HB := Aside0.mk (below_own HB.out hG (Nat.le_refl _)); clear hZ hG))
  exact bodyPost_ret (results_frame rfl _ _ w.heap.size _ rfl rfl H2.out) rfl ⟨rfl, HB.out⟩
set_option maxHeartbeats 8000000 in
set_option maxRecDepth 100000 in
theorem ref_Decode.body (A0 : Option Addr) (c0 : Nat) (l0 : List Int) (w : World) (hr0 : Kd.C (Kd.int .u8) w A0 l0.length l0) (hc0 : l0.length ≤ c0) (hl : 64 ≤ l0.length) (hb : byteRow l0) (hmx : l0.length < 140737488355000) (hop : openB l0 = true) :
    Calls Try.prog 35 #[.slice A0 l0.length c0] w fun e w' => ∃ A c, e = .returned (.tuple #[.agg (frame (decH l0) A (decD l0).length c), .int .i64 (decE l0)]) ∧ (decD l0).length ≤ c ∧ Kd.C (Kd.int .u8) w' A (decD l0).length (decD l0) ∧ Below w.heap.size w w' := by
  have d1 : decide ((l0.length : Int) < 64) = false := decide_eq_false (by omega)
  have HOP := Aside0.mk hop
  have HBY := Aside0.mk hb
  have HMX := Aside0.mk hmx
  obtain ⟨X, hX⟩ : ∃ X, openL l0 = X := ⟨_, rfl⟩
  have hXe : X = l0.take (l0.length - 4) := by rw [← hX]; unfold openL; rw [hop, if_pos rfl]
  have HXL := Aside0.mk (show 60 ≤ X.length ∧ X.length < 140737488355000 by rw [hXe, List.length_take]; omega)
  have HXB := Aside0.mk (show byteRow X by rw [hXe]; exact fun c hc => hb c (List.mem_of_mem_take hc))
  have HX := Aside0.mk hX
  have HDE := Aside0.mk (show decE l0 = if headOk X && padOk X then 0 else 4 by unfold decE; rw [if_neg (by omega), hop, if_pos rfl, hX])
  have HDD := Aside0.mk (show decD l0 = if decE l0 = 0 then (X.drop 14).take (be16 X).toNat else [] by unfold decD; rw [hX])
  clear hop hb hmx hX hXe
  have HR := Aside0.mk hr0
  have HC := Aside0.mk hc0
  have hm0 : l0.length ≤ 9223372036854775807 := hr0.2.1
  have hu45 := Try.underlying45
  have hu43 := Try.underlying43
  clear hr0 hc0
  go_enter Try.func35, Try.ntmps35
  go_upto_region 1 with fail
  have hb1 := blk_new w (.cells #[.int .u8 0, .int .u8 0, .int .u8 0, .int .u8 0, .int .u8 0, .int .u8 0, .int .u8 0, .int .u8 0, .int .u8 0, .int .u8 0, .int .u8 0, .int .u8 0, .slice none 0 0] 45 (0, 0))
  have hbw := below_alloc (Below.refl w.heap.size w) (.cells #[.int .u8 0, .int .u8 0, .int .u8 0, .int .u8 0, .int .u8 0, .int .u8 0, .int .u8 0, .int .u8 0, .int .u8 0, .int .u8 0, .int .u8 0, .int .u8 0, .slice none 0 0] 45 (0, 0))
  generalize w.alloc (.cells #[.int .u8 0, .int .u8 0, .int .u8 0, .int .u8 0, .int .u8 0, .int .u8 0, .int .u8 0, .int .u8 0, .int .u8 0, .int .u8 0, .int .u8 0, .int .u8 0, .slice none 0 0] 45) = w1 at hb1 hbw ⊢
  have HB := Aside0.mk hbw
  have H2 := Aside0.mk hb1
  clear hb1 hbw
  go_wp2_with fail
  refine (ref_Open.calls _ _ _ _ (Kd.C_below HR.out HB.out) HC.out HBY.out HMX.out).mono ?_
  rintro e w4 ⟨v4, rfl, hR, hB⟩
  rw [HOP.out]
  rw [HX.out] at hR
  obtain ⟨A4, c4, rfl, hc4, hC4⟩ := Kd.R_reads hR
  obtain ⟨gx, rfl⟩ := R_some_ hR (by have := HXL.out; omega)
  have HC4 := Aside0.mk hC4
  have Hc4 := Aside0.mk hc4
  replace H2 := Aside0.mk (blk_below H2.out hB)
  have HN0 := Aside0.mk (blk_lt H2.out)
  replace HB := Aside0.mk (below_step HB.out hB)
  clear hB hR hC4 hc4
  go_upto_region 7 with fail
  have hbf := blk_new w4 (.cells #[.int .u8 0, .int .u8 0, .int .u8 0, .int .u8 0, .int .u8 0, .int .u8 0, .int .u8 0, .int .u8 0, .int .u8 0, .int .u8 0, .int .u8 0, .int .u8 0, .slice none 0 0] 45 (0, 0))
  have hbw := below_alloc (Below.refl w4.heap.size w4) (.cells #[.int .u8 0, .int .u8 0, .int .u8 0, .int .u8 0, .int .u8 0, .int .u8 0, .int .u8 0, .int .u8 0, .int .u8 0, .int .u8 0, .int .u8 0, .int .u8 0, .slice none 0 0] 45 (0, 0))
  generalize w4.alloc (.cells #[.int .u8 0, .int .u8 0, .int .u8 0, .int .u8 0, .int .u8 0, .int .u8 0, .int .u8 0, .int .u8 0, .int .u8 0, .int .u8 0, .int .u8 0, .int .u8 0, .slice none 0 0] 45) = w5 at hbf hbw ⊢
  obtain ⟨gf, hgf⟩ : ∃ gf, w4.heap.size = gf := ⟨_, rfl⟩
  have HB4 := Aside0.mk hbw
  replace H2 := Aside0.mk (blk_below H2.out hbw)
  replace HB := Aside0.mk (below_step HB.out hbw)
  have HN := Aside0.mk (show w.heap.size < gf by have := HN0.out; omega)
  have HGF := Aside0.mk (Nat.le_of_eq hgf)
  rw [hgf] at hbf ⊢
  have HF := Aside0.mk hbf
  have hxl : 60 ≤ X.length := HXL.out.1
  have hxm : X.length ≤ 9223372036854775807 := by have := HXL.out; omega
  clear hbf hbw hgf HN0
  go_wp2_with fail
  refine wp_loop_rounds 7 ?_
  rw [rounds_succ]
  have hx := (show w5.cell? ⟨gx, 0, none⟩ = some (.int .u8 (hdv X 0)) from byte_at (Kd.C_below HC4.out HB4.out) (by have := HXL.out; omega))
  go_wp2_with (first
    | (refine wpList_store_byte rfl (.tmp 33) (.tmp 31) rfl gf 0 (hdv X 0) #[.int .u8 0, .int .u8 0, .int .u8 0, .int .u8 0, .int .u8 0, .int .u8 0, .int .u8 0, .int .u8 0, .int .u8 0, .int .u8 0, .int .u8 0, .int .u8 0, .slice none 0 0] #[.int .u8 (hdv X 0), .int .u8 0, .int .u8 0, .int .u8 0, .int .u8 0, .int .u8 0, .int .u8 0, .int .u8 0, .int .u8 0, .int .u8 0, .int .u8 0, .int .u8 0, .slice none 0 0] 45 rfl rfl HF.out (show 0 + 1 ≤ 13 from by decide) (by rfl) info5_ ?_; intro r0a hZ hG; replace HF := Aside0.mk hZ; replace H2 := Aside0.mk (blk_grown_ H2.out hG (by have := HN.out; omega)); replace HB := Aside0.mk (below_own HB.out hG (by have := HN.out; omega)); replace HB4 := Aside0.mk (below_own HB4.out hG HGF.out); clear hx; have hx := (show r0a.cell? ⟨gx, 6, none⟩ = some (.int .u8 (hdv X 6)) from byte_at (Kd.C_below HC4.out HB4.out) (by have := HXL.out; omega)); clear hZ hG)
    | (refine wpList_store_byte rfl (.tmp 41) (.tmp 39) rfl gf 6 (hdv X 6) #[.int .u8 (hdv X 0), .int .u8 0, .int .u8 0, .int .u8 0, .int .u8 0, .int .u8 0, .int .u8 0, .int .u8 0, .int .u8 0, .int .u8 0, .int .u8 0, .int .u8 0, .slice none 0 0] #[.int .u8 (hdv X 0), .int .u8 0, .int .u8 0, .int .u8 0, .int .u8 0, .int .u8 0, .int .u8 (hdv X 6), .int .u8 0, .int .u8 0, .int .u8 0, .int .u8 0, .int .u8 0, .slice none 0 0] 45 rfl rfl HF.out (show 6 + 1 ≤ 13 from by decide) (by rfl) info5_ ?_; intro r0b hZ hG; replace HF := Aside0.mk hZ; replace H2 := Aside0.mk (blk_grown_ H2.out hG (by have := HN.out; omega)); replace HB := Aside0.mk (below_own HB.out hG (by have := HN.out; omega)); replace HB4 := Aside0.mk (below_own HB4.out hG HGF.out); clear hx hZ hG))
  rw [rounds_succ]
  have hx := (show r0b.cell? ⟨gx, 1, none⟩ = some (.int .u8 (hdv X 1)) from byte_at (Kd.C_below HC4.out HB4.out) (by have := HXL.out; omega))
  go_wp2_with (first
    | (refine wpList_store_byte rfl (.tmp 33) (.tmp 31) rfl gf 1 (hdv X 1) #[.int .u8 (hdv X 0), .int .u8 0, .int .u8 0, .int .u8 0, .int .u8 0, .int .u8 0, .int .u8 (hdv X 6), .int .u8 0, .int .u8 0, .int .u8 0, .int .u8 0, .int .u8 0, .slice none 0 0] #[.int .u8 (hdv X 0), .int .u8 (hdv X 1), .int .u8 0, .int .u8 0, .int .u8 0, .int .u8 0, .int .u8 (hdv X 6), .int .u8 0, .int .u8 0, .int .u8 0, .int .u8 0, .int .u8 0, .slice none 0 0] 45 rfl rfl HF.out (show 1 + 1 ≤ 13 from by decide) (by rfl) info5_ ?_; intro r1a hZ hG; replace HF := Aside0.mk hZ; replace H2 := Aside0.mk (blk_grown_ H2.out hG (by have := HN.out; omega)); replace HB := Aside0.mk (below_own HB.out hG (by have := HN.out; omega)); replace HB4 := Aside0.mk (below_own HB4.out hG HGF.out); clear hx; have hx := (show r1a.cell? ⟨gx, 7, none⟩ = some (.int .u8 (hdv X 7)) from byte_at (Kd.C_below HC4.out HB4.out) (by have := HXL.out; omega)); clear hZ hG)
    | (refine wpList_store_byte rfl (.tmp 41) (.tmp 39) rfl gf 7 (hdv X 7) #[.int .u8 (hdv X 0), .int .u8 (hdv X 1), .int .u8 0, .int .u8 0, .int .u8 0, .int .u8 0, .int .u8 (hdv X 6), .int .u8 0, .int .u8 0, .int .u8 0, .int .u8 0, .int .u8 0, .slice none 0 0] #[.int .u8 (hdv X 0), .int .u8 (hdv X 1), .int .u8 0, .int .u8 0, .int .u8 0, .int .u8 0, .int .u8 (hdv X 6), .int .u8 (hdv X 7), .int .u8 0, .int .u8 0, .int .u8 0, .int .u8 0, .slice none 0 0] 45 rfl rfl HF.out (show 7 + 1 ≤ 13 from by decide) (by rfl) info5_ ?_; intro r1b hZ hG; replace HF := Aside0.mk hZ; replace H2 := Aside0.mk (blk_grown_ H2.out hG (by have := HN.out; omega)); replace HB := Aside0.mk (below_own HB.out hG (by have := HN.out; omega)); replace HB4 := Aside0.mk (below_own HB4.out hG HGF.out); clear hx hZ hG))
  rw [rounds_succ]
  have hx := (show r1b.cell? ⟨gx, 2, none⟩ = some (.int .u8 (hdv X 2)) from byte_at (Kd.C_below HC4.out HB4.out) (by have := HXL.out; omega))
  go_wp2_with (first
    | (refine wpList_store_byte rfl (.tmp 33) (.tmp 31) rfl gf 2 (hdv X 2) #[.int .u8 (hdv X 0), .int .u8 (hdv X 1), .int .u8 0, .int .u8 0, .int .u8 0, .int .u8 0, .int .u8 (hdv X 6), .int .u8 (hdv X 7), .int .u8 0, .int .u8 0, .int .u8 0, .int .u8 0, .slice none 0 0] #[.int .u8 (hdv X 0), .int .u8 (hdv X 1), .int .u8 (hdv X 2), .int .u8 0, .int .u8 0, .int .u8 0, .int .u8 (hdv X 6), .int .u8 (hdv X 7), .int .u8 0, .int .u8 0, .int .u8 0, .int .u8 0, .slice none 0 0] 45 rfl rfl HF.out (show 2 + 1 ≤ 13 from by decide) (by rfl) info5_ ?_; intro r2a hZ hG; replace HF := Aside0.mk hZ; replace H2 := Aside0.mk (blk_grown_ H2.out hG (by have := HN.out; omega)); replace HB := Aside0.mk (below_own HB.out hG (by have := HN.out; omega)); replace HB4 := Aside0.mk (below_own HB4.out hG HGF.out); clear hx; have hx := (show r2a.cell? ⟨gx, 8, none⟩ = some (.int .u8 (hdv X 8)) from byte_at (Kd.C_below HC4.out HB4.out) (by have := HXL.out; omega)); clear hZ hG)
    | (refine wpList_store_byte rfl (.tmp 41) (.tmp 39) rfl gf 8 (hdv X 8) #[.int .u8 (hdv X 0), .int .u8 (hdv X 1), .int .u8 (hdv X 2), .int .u8 0, .int .u8 0, .int .u8 0, .int .u8 (hdv X 6), .int .u8 (hdv X 7), .int .u8 0, .int .u8 0, .int .u8 0, .int .u8 0, .slice none 0 0] #[.int .u8 (hdv X 0), .int .u8 (hdv X 1), .int .u8 (hdv X 2), .int .u8 0, .int .u8 0, .int .u8 0, .int .u8 (hdv X 6), .int .u8 (hdv X 7), .int .u8 (hdv X 8), .int .u8 0, .int .u8 0, .int .u8 0, .slice none 0 0] 45 rfl rfl HF.out (show 8 + 1 ≤ 13 from by decide) (by rfl) info5_ ?_; intro r2b hZ hG; replace HF := Aside0.mk hZ; replace H2 := Aside0.mk (blk_grown_ H2.out hG (by have := HN.out; omega)); replace HB := Aside0.mk (below_own HB.out hG (by have := HN.out; omega)); replace HB4 := Aside0.mk (below_own HB4.out hG HGF.out); clear hx hZ hG))
  rw [rounds_succ]
  have hx := (show r2b.cell? ⟨gx, 3, none⟩ = some (.int .u8 (hdv X 3)) from byte_at (Kd.C_below HC4.out HB4.out) (by have := HXL.out; omega))
  go_wp2_with (first
    | (refine wpList_store_byte rfl (.tmp 33) (.tmp 31) rfl gf 3 (hdv X 3) #[.int .u8 (hdv X 0), .int .u8 (hdv X 1), .int .u8 (hdv X 2), .int .u8 0, .int .u8 0, .int .u8 0, .int .u8 (hdv X 6), .int .u8 (hdv X 7), .int .u8 (hdv X 8), .int .u8 0, .int .u8 0, .int .u8 0, .slice none 0 0] #[.int .u8 (hdv X 0), .int .u8 (hdv X 1), .int .u8 (hdv X 2), .int .u8 (hdv X 3), .int .u8 0, .int .u8 0, .int .u8 (hdv X 6), .int .u8 (hdv X 7), .int .u8 (hdv X 8), .int .u8 0, .int .u8 0, .int .u8 0, .slice none 0 0] 45 rfl rfl HF.out (show 3 + 1 ≤ 13 from by decide) (by rfl) info5_ ?_; intro r3a hZ hG; replace HF := Aside0.mk hZ; replace H2 := Aside0.mk (blk_grown_ H2.out hG (by have := HN.out; omega)); replace HB := Aside0.mk (below_own HB.out hG (by have := HN.out; omega)); replace HB4 := Aside0.mk (below_own HB4.out hG HGF.out); clear hx; have hx := (show r3a.cell? ⟨gx, 9, none⟩ = some (.int .u8 (hdv X 9)) from byte_at (Kd.C_below HC4.out HB4.out) (by have := HXL.out; omega)); clear hZ hG)
    | (refine wpList_store_byte rfl (.tmp 41) (.tmp 39) rfl gf 9 (hdv X 9) #[.int .u8 (hdv X 0), .int .u8 (hdv X 1), .int .u8 (hdv X 2), .int .u8 (hdv X 3), .int .u8 0, .int .u8 0, .int .u8 (hdv X 6), .int .u8 (hdv X 7), .int .u8 (hdv X 8), .int .u8 0, .int .u8 0, .int .u8 0, .slice none 0 0] #[.int .u8 (hdv X 0), .int .u8 (hdv X 1), .int .u8 (hdv X 2), .int .u8 (hdv X 3), .int .u8 0, .int .u8 0, .int .u8 (hdv X 6), .int .u8 (hdv X 7), .int .u8 (hdv X 8), .int .u8 (hdv X 9), .int .u8 0, .int .u8 0, .slice none 0 0] 45 rfl rfl HF.out (show 9 + 1 ≤ 13 from by decide) (by rfl) info5_ ?_; intro r3b hZ hG; replace HF := Aside0.mk hZ; replace H2 := Aside0.mk (blk_grown_ H2.out hG (by have := HN.out; omega)); replace HB := Aside0.mk (below_own HB.out hG (by have := HN.out; omega)); replace HB4 := Aside0.mk (below_own HB4.out hG HGF.out); clear hx hZ hG))
  rw [rounds_succ]
  have hx := (show r3b.cell? ⟨gx, 4, none⟩ = some (.int .u8 (hdv X 4)) from byte_at (Kd.C_below HC4.out HB4.out) (by have := HXL.out; omega))
  go_wp2_with (first
    | (refine wpList_store_byte rfl (.tmp 33) (.tmp 31) rfl gf 4 (hdv X 4) #[.int .u8 (hdv X 0), .int .u8 (hdv X 1), .int .u8 (hdv X 2), .int .u8 (hdv X 3), .int .u8 0, .int .u8 0, .int .u8 (hdv X 6), .int .u8 (hdv X 7), .int .u8 (hdv X 8), .int .u8 (hdv X 9), .int .u8 0, .int .u8 0, .slice none 0 0] #[.int .u8 (hdv X 0), .int .u8 (hdv X 1), .int .u8 (hdv X 2), .int .u8 (hdv X 3), .int .u8 (hdv X 4), .int .u8 0, .int .u8 (hdv X 6), .int .u8 (hdv X 7), .int .u8 (hdv X 8), .int .u8 (hdv X 9), .int .u8 0, .int .u8 0, .slice none 0 0] 45 rfl rfl HF.out (show 4 + 1 ≤ 13 from by decide) (by rfl) info5_ ?_; intro r4a hZ hG; replace HF := Aside0.mk hZ; replace H2 := Aside0.mk (blk_grown_ H2.out hG (by have := HN.out; omega)); replace HB := Aside0.mk (below_own HB.out hG (by have := HN.out; omega)); replace HB4 := Aside0.mk (below_own HB4.out hG HGF.out); clear hx; have hx := (show r4a.cell? ⟨gx, 10, none⟩ = some (.int .u8 (hdv X 10)) from byte_at (Kd.C_below HC4.out HB4.out) (by have := HXL.out; omega)); clear hZ hG)
    | (refine wpList_store_byte rfl (.tmp 41) (.tmp 39) rfl gf 10 (hdv X 10) #[.int .u8 (hdv X 0), .int .u8 (hdv X 1), .int .u8 (hdv X 2), .int .u8 (hdv X 3), .int .u8 (hdv X 4), .int .u8 0, .int .u8 (hdv X 6), .int .u8 (hdv X 7), .int .u8 (hdv X 8), .int .u8 (hdv X 9), .int .u8 0, .int .u8 0, .slice none 0 0] #[.int .u8 (hdv X 0), .int .u8 (hdv X 1), .int .u8 (hdv X 2), .int .u8 (hdv X 3), .int .u8 (hdv X 4), .int .u8 0, .int .u8 (hdv X 6), .int .u8 (hdv X 7), .int .u8 (hdv X 8), .int .u8 (hdv X 9), .int .u8 (hdv X 10), .int .u8 0, .slice none 0 0] 45 rfl rfl HF.out (show 10 + 1 ≤ 13 from by decide) (by rfl) info5_ ?_; intro r4b hZ hG; replace HF := Aside0.mk hZ; replace H2 := Aside0.mk (blk_grown_ H2.out hG (by have := HN.out; omega)); replace HB := Aside0.mk (below_own HB.out hG (by have := HN.out; omega)); replace HB4 := Aside0.mk (below_own HB4.out hG HGF.out); clear hx hZ hG))
  rw [rounds_succ]
  have hx := (show r4b.cell? ⟨gx, 5, none⟩ = some (.int .u8 (hdv X 5)) from byte_at (Kd.C_below HC4.out HB4.out) (by have := HXL.out; omega))
  go_wp2_with (first
    | (refine wpList_store_byte rfl (.tmp 33) (.tmp 31) rfl gf 5 (hdv X 5) #[.int .u8 (hdv X 0), .int .u8 (hdv X 1), .int .u8 (hdv X 2), .int .u8 (hdv X 3), .int .u8 (hdv X 4), .int .u8 0, .int .u8 (hdv X 6), .int .u8 (hdv X 7), .int .u8 (hdv X 8), .int .u8 (hdv X 9), .int .u8 (hdv X 10), .int .u8 0, .slice none 0 0] #[.int .u8 (hdv X 0), .int .u8 (hdv X 1), .int .u8 (hdv X 2), .int .u8 (hdv X 3), .int .u8 (hdv X 4), .int .u8 (hdv X 5), .int .u8 (hdv X 6), .int .u8 (hdv X 7), .int .u8 (hdv X 8), .int .u8 (hdv X 9), .int .u8 (hdv X 10), .int .u8 0, .slice none 0 0] 45 rfl rfl HF.out (show 5 + 1 ≤ 13 from by decide) (by rfl) info5_ ?_; intro r5a hZ hG; replace HF := Aside0.mk hZ; replace H2 := Aside0.mk (blk_grown_ H2.out hG (by have := HN.out; omega)); replace HB := Aside0.mk (below_own HB.out hG (by have := HN.out; omega)); replace HB4 := Aside0.mk (below_own HB4.out hG HGF.out); clear hx; have hx := (show r5a.cell? ⟨gx, 11, none⟩ = some (.int .u8 (hdv X 11)) from byte_at (Kd.C_below HC4.out HB4.out) (by have := HXL.out; omega)); clear hZ hG)
    | (refine wpList_store_byte rfl (.tmp 41) (.tmp 39) rfl gf 11 (hdv X 11) #[.int .u8 (hdv X 0), .int .u8 (hdv X 1), .int .u8 (hdv X 2), .int .u8 (hdv X 3), .int .u8 (hdv X 4), .int .u8 (hdv X 5), .int .u8 (hdv X 6), .int .u8 (hdv X 7), .int .u8 (hdv X 8), .int .u8 (hdv X 9), .int .u8 (hdv X 10), .int .u8 0, .slice none 0 0] #[.int .u8 (hdv X 0), .int .u8 (hdv X 1), .int .u8 (hdv X 2), .int .u8 (hdv X 3), .int .u8 (hdv X 4), .int .u8 (hdv X 5), .int .u8 (hdv X 6), .int .u8 (hdv X 7), .int .u8 (hdv X 8), .int .u8 (hdv X 9), .int .u8 (hdv X 10), .int .u8 (hdv X 11), .slice none 0 0] 45 rfl rfl HF.out (show 11 + 1 ≤ 13 from by decide) (by rfl) info5_ ?_; intro r5b hZ hG; replace HF := Aside0.mk hZ; replace H2 := Aside0.mk (blk_grown_ H2.out hG (by have := HN.out; omega)); replace HB := Aside0.mk (below_own HB.out hG (by have := HN.out; omega)); replace HB4 := Aside0.mk (below_own HB4.out hG HGF.out); clear hx hZ hG))
  rw [rounds_succ]
  have q1 := cut_part gx X.length c4 12 14 (by decide) (by have := HXL.out; omega) Hc4.out (by have := HXL.out; have := Hc4.out; omega)
  rw [show ((12 : Nat) : Int) = 12 from rfl, show ((14 : Nat) : Int) = 14 from rfl, show 14 - 12 = 2 from rfl] at q1
  have HGF := Aside0.mk (rget2 HXB.out (by have := HXL.out; omega))
  have HGC := Aside0.mk (piece_C HC4.out 12 2 (by have := HXL.out; omega))
  have hGl : ((X.drop 12).take 2).length = 2 := by rw [List.length_take, List.length_drop]; have := HXL.out; omega
  generalize (X.drop 12).take 2 = G at HGF HGC hGl
  have HGE := Aside0.mk (antiphonref1_Get.calls 11 (some ⟨gx, 12, none⟩) (c4 - 12) G (be16 X))
  rw [hGl] at HGE
  clear hGl
  go_wp2_with fail
  refine (HGE.out _ (Kd.C_below HGC.out HB4.out) (by have := HXL.out; have := Hc4.out; omega) HGF.out).mono ?_
  rintro e w6 ⟨rfl, hd⟩
  have hB := Drawn0.below hd
  replace HF := Aside0.mk (blk_below HF.out hB)
  replace H2 := Aside0.mk (blk_below H2.out hB)
  replace HB := Aside0.mk (below_step HB.out hB)
  replace HB4 := Aside0.mk (below_step HB4.out hB)
  clear hB hd q1 HGE HGC HGF
  obtain ⟨nn, hnn, hn6⟩ := be16_nat HXB.out
  obtain ⟨mm, hM⟩ : ∃ mm : Nat, (if (nn : Int) < 46 then 46 else (nn : Int)) = (mm : Int) := ⟨if nn < 46 then 46 else nn, by split <;> split <;> omega⟩
  have HMM := Aside0.mk (show nn ≤ mm ∧ mm ≤ 65535 by split at hM <;> omega)
  have HPD := Aside0.mk (show padOk X = (X.drop (14 + nn)).all (· == 0) by unfold padOk; rw [hnn, Int.toNat_natCast])
  have HDY := Aside0.mk (show decD l0 = if decE l0 = 0 then (X.drop 14).take nn else [] by rw [HDD.out, hnn, Int.toNat_natCast])
  have HHD := Aside0.mk (show headOk X = (!isGrp (hdv X 6) && decide ((nn : Int) ≤ 1500) && decide ((X.length : Int) = 14 + (mm : Int))) by
    unfold headOk
    rw [hnn, hM, show decide ((X.length : Int) - 14 = (mm : Int)) = decide ((X.length : Int) = 14 + (mm : Int)) from decide_eq_decide.2 ⟨fun h => by omega, fun h => by omega⟩])
  rw [hnn]
  have HN65 := Aside0.mk hn6
  have hn65 : nn ≤ 65535 := hn6
  have hm65 : mm ≤ 65535 := HMM.out.2
  clear hnn HDD hn6
  have hk6 := (show w6.cell? ⟨gf, 6, none⟩ = some (.int .u8 (hdv X 6)) from (blk_cell HF.out 6).trans rfl)
  have hk7 := (show w6.cell? ⟨gf, 7, none⟩ = some (.int .u8 (hdv X 7)) from (blk_cell HF.out 7).trans rfl)
  have hk8 := (show w6.cell? ⟨gf, 8, none⟩ = some (.int .u8 (hdv X 8)) from (blk_cell HF.out 8).trans rfl)
  have hk9 := (show w6.cell? ⟨gf, 9, none⟩ = some (.int .u8 (hdv X 9)) from (blk_cell HF.out 9).trans rfl)
  have hk10 := (show w6.cell? ⟨gf, 10, none⟩ = some (.int .u8 (hdv X 10)) from (blk_cell HF.out 10).trans rfl)
  have hk11 := (show w6.cell? ⟨gf, 11, none⟩ = some (.int .u8 (hdv X 11)) from (blk_cell HF.out 11).trans rfl)
  go_wp2_with fail
  refine (antiphonref1_Group.calls _ _ _ _ _ _ _ _ (rgrp_f _ _ _ _ _ _)).mono ?_
  rintro e w7 ⟨rfl, hB⟩
  replace HF := Aside0.mk (blk_below HF.out hB)
  replace H2 := Aside0.mk (blk_below H2.out hB)
  replace HB := Aside0.mk (below_step HB.out hB)
  replace HB4 := Aside0.mk (below_step HB4.out hB)
  clear hB hk6 hk7 hk8 hk9 hk10 hk11
  cases hgg : isGrp (hdv X 6) with
  | true =>
    rw [hgg] at HHD
    clear hgg
    have hde : decE l0 = 4 := by rw [HDE.out, HHD.out]; rfl
    obtain ⟨hfr, hnil⟩ := frame_no hde
    have HFR := Aside0.mk hfr
    have HNIL := Aside0.mk hnil
    have HDE4 := Aside0.mk hde
    clear hfr hnil hde
    go_wp2_with (first
      | (refine wpList_store_part rfl 45 (.tmp 2) (.tmp 60) rfl w.heap.size 0 #[.int .u8 0, .int .u8 0, .int .u8 0, .int .u8 0, .int .u8 0, .int .u8 0, .int .u8 0, .int .u8 0, .int .u8 0, .int .u8 0, .int .u8 0, .int .u8 0, .slice none 0 0] #[.int .u8 0, .int .u8 0, .int .u8 0, .int .u8 0, .int .u8 0, .int .u8 0, .int .u8 0, .int .u8 0, .int .u8 0, .int .u8 0, .int .u8 0, .int .u8 0, .slice none 0 0] #[.int .u8 0, .int .u8 0, .int .u8 0, .int .u8 0, .int .u8 0, .int .u8 0, .int .u8 0, .int .u8 0, .int .u8 0, .int .u8 0, .int .u8 0, .int .u8 0, .slice none 0 0] 45 rfl rfl H2.out (by decide) (by rfl) info45_ (by rfl) ?_; intro wz hZ hG; replace H2 := Aside0.mk hZ; replace HB := Aside0.mk (below_own HB.out hG (Nat.le_refl _)); clear hZ hG))
    refine bodyPost_ret (results_frame rfl _ _ w.heap.size _ rfl rfl H2.out) rfl ⟨none, 0, by rw [HFR.out, HDE4.out]; rfl, by rw [HNIL.out]; exact Nat.le_refl _, by rw [HNIL.out]; exact C_nil _, HB.out⟩
  | false =>
    rw [hgg] at HHD
    clear hgg
    by_cases h15 : 1500 < nn
    · have d15 : decide ((1500 : Int) < (nn : Int)) = true := decide_eq_true (by omega)
      have HH0 := Aside0.mk (show headOk X = false by rw [HHD.out, decide_eq_false (show ¬ (nn : Int) ≤ 1500 by omega)]; rfl)
      clear h15
      have hde : decE l0 = 4 := by rw [HDE.out, HH0.out]; rfl
      obtain ⟨hfr, hnil⟩ := frame_no hde
      have HFR := Aside0.mk hfr
      have HNIL := Aside0.mk hnil
      have HDE4 := Aside0.mk hde
      clear hfr hnil hde
      go_wp2_with (first
        | (refine wpList_store_part rfl 45 (.tmp 2) (.tmp 60) rfl w.heap.size 0 #[.int .u8 0, .int .u8 0, .int .u8 0, .int .u8 0, .int .u8 0, .int .u8 0, .int .u8 0, .int .u8 0, .int .u8 0, .int .u8 0, .int .u8 0, .int .u8 0, .slice none 0 0] #[.int .u8 0, .int .u8 0, .int .u8 0, .int .u8 0, .int .u8 0, .int .u8 0, .int .u8 0, .int .u8 0, .int .u8 0, .int .u8 0, .int .u8 0, .int .u8 0, .slice none 0 0] #[.int .u8 0, .int .u8 0, .int .u8 0, .int .u8 0, .int .u8 0, .int .u8 0, .int .u8 0, .int .u8 0, .int .u8 0, .int .u8 0, .int .u8 0, .int .u8 0, .slice none 0 0] 45 rfl rfl H2.out (by decide) (by rfl) info45_ (by rfl) ?_; intro wz hZ hG; replace H2 := Aside0.mk hZ; replace HB := Aside0.mk (below_own HB.out hG (Nat.le_refl _)); clear hZ hG))
      refine bodyPost_ret (results_frame rfl _ _ w.heap.size _ rfl rfl H2.out) rfl ⟨none, 0, by rw [HFR.out, HDE4.out]; rfl, by rw [HNIL.out]; exact Nat.le_refl _, by rw [HNIL.out]; exact C_nil _, HB.out⟩
    have d15 : decide ((1500 : Int) < (nn : Int)) = false := decide_eq_false (by omega)
    by_cases hyn : X.length = 14 + mm
    case neg =>
      have b1 : ((X.length : Int) != 14 + (mm : Int)) = true := bne_iff_ne.mpr (by omega)
      have HH0 := Aside0.mk (show headOk X = false by rw [HHD.out, decide_eq_false (show ¬ (X.length : Int) = 14 + (mm : Int) by omega), Bool.and_false])
      clear hyn
      have hde : decE l0 = 4 := by rw [HDE.out, HH0.out]; rfl
      obtain ⟨hfr, hnil⟩ := frame_no hde
      have HFR := Aside0.mk hfr
      have HNIL := Aside0.mk hnil
      have HDE4 := Aside0.mk hde
      clear hfr hnil hde
      go_wp2_with (first
        | (refine wpList_store_part rfl 45 (.tmp 2) (.tmp 60) rfl w.heap.size 0 #[.int .u8 0, .int .u8 0, .int .u8 0, .int .u8 0, .int .u8 0, .int .u8 0, .int .u8 0, .int .u8 0, .int .u8 0, .int .u8 0, .int .u8 0, .int .u8 0, .slice none 0 0] #[.int .u8 0, .int .u8 0, .int .u8 0, .int .u8 0, .int .u8 0, .int .u8 0, .int .u8 0, .int .u8 0, .int .u8 0, .int .u8 0, .int .u8 0, .int .u8 0, .slice none 0 0] #[.int .u8 0, .int .u8 0, .int .u8 0, .int .u8 0, .int .u8 0, .int .u8 0, .int .u8 0, .int .u8 0, .int .u8 0, .int .u8 0, .int .u8 0, .int .u8 0, .slice none 0 0] 45 rfl rfl H2.out (by decide) (by rfl) info45_ (by rfl) ?_; intro wz hZ hG; replace H2 := Aside0.mk hZ; replace HB := Aside0.mk (below_own HB.out hG (Nat.le_refl _)); clear hZ hG))
      refine bodyPost_ret (results_frame rfl _ _ w.heap.size _ rfl rfl H2.out) rfl ⟨none, 0, by rw [HFR.out, HDE4.out]; rfl, by rw [HNIL.out]; exact Nat.le_refl _, by rw [HNIL.out]; exact C_nil _, HB.out⟩
    have b1 : ((X.length : Int) != 14 + (mm : Int)) = false := bne_eq_false_iff_eq.mpr (by omega)
    have HHT := Aside0.mk (show headOk X = true by rw [HHD.out, decide_eq_true (show (nn : Int) ≤ 1500 by omega), decide_eq_true (show (X.length : Int) = 14 + (mm : Int) by omega)]; rfl)
    have HNY := Aside0.mk (show 14 + nn ≤ X.length by have := HMM.out; omega)
    clear hyn h15
    go_wp2_with fail
    go_loop [9] (fun v9 => ∃ k : Nat, 14 + nn ≤ k ∧ k ≤ X.length ∧ v9 = .int .i64 k ∧ Aside0 (∀ j, 14 + nn ≤ j → j < k → X.getD j 0 = 0)) (fun v9 => X.length - (intOf v9).toNat)
    case atStart => exact ⟨14 + nn, Nat.le_refl _, HNY.out, by rw [Int.natCast_add]; rfl, ⟨fun j h1 h2 => absurd h2 (Nat.not_lt.2 h1)⟩⟩
    case round =>
      obtain ⟨k, hk0, hk, rfl, HZ⟩ := hrel
      by_cases hlt : k < X.length
      · have hx := (show w7.cell? ⟨gx, k, none⟩ = some (.int .u8 (hdv X k)) from byte_at (Kd.C_below HC4.out HB4.out) hlt)
        have HK0 := Aside0.mk hk0
        clear hk0
        by_cases hc : X.getD k 0 = 0
        · rw [show hdv X k = 0 from hc] at hx
          have HC0 := Aside0.mk hc
          clear hc
          go_wp2_with fail
          go_round
          case rel => exact ⟨k + 1, by have := HK0.out; omega, by omega, by go_num, ⟨fun j h1 hj => by rcases Nat.lt_succ_iff_lt_or_eq.mp hj with h | rfl; exact HZ.out j h1 h; exact HC0.out⟩⟩
          case measure => simp [intOf]; omega
        · have HPF := Aside0.mk (show padOk X = false by
            rw [HPD.out]
            refine Bool.eq_false_iff.mpr fun h => hc ?_
            have hm : X.getD k 0 ∈ X.drop (14 + nn) := by
              rw [List.getD_eq_getElem?_getD, List.getElem?_eq_getElem hlt, Option.getD_some]
              refine List.mem_iff_getElem?.2 ⟨k - (14 + nn), ?_⟩
              rw [List.getElem?_drop, show 14 + nn + (k - (14 + nn)) = k by have := HK0.out; omega, List.getElem?_eq_getElem hlt]
            have := List.all_eq_true.mp h _ hm
            simpa using this)
          have bc : (hdv X k != 0) = true := bne_iff_ne.mpr hc
          generalize hdv X k = c at hx bc
          clear hc
          have hde : decE l0 = 4 := by rw [HDE.out, HPF.out, Bool.and_false]; rfl
          obtain ⟨hfr, hnil⟩ := frame_no hde
          have HFR := Aside0.mk hfr
          have HNIL := Aside0.mk hnil
          have HDE4 := Aside0.mk hde
          clear hfr hnil hde
          go_wp2_with (first
            | (refine wpList_store_part rfl 45 (.tmp 2) (.tmp 74) rfl w.heap.size 0 #[.int .u8 0, .int .u8 0, .int .u8 0, .int .u8 0, .int .u8 0, .int .u8 0, .int .u8 0, .int .u8 0, .int .u8 0, .int .u8 0, .int .u8 0, .int .u8 0, .slice none 0 0] #[.int .u8 0, .int .u8 0, .int .u8 0, .int .u8 0, .int .u8 0, .int .u8 0, .int .u8 0, .int .u8 0, .int .u8 0, .int .u8 0, .int .u8 0, .int .u8 0, .slice none 0 0] #[.int .u8 0, .int .u8 0, .int .u8 0, .int .u8 0, .int .u8 0, .int .u8 0, .int .u8 0, .int .u8 0, .int .u8 0, .int .u8 0, .int .u8 0, .int .u8 0, .slice none 0 0] 45 rfl rfl H2.out (by decide) (by rfl) info45_ (by rfl) ?_; intro wz hZ hG; replace H2 := Aside0.mk hZ; replace HB := Aside0.mk (below_own HB.out hG (Nat.le_refl _)); clear hZ hG))
          refine bodyPost_ret (results_frame rfl _ _ w.heap.size _ rfl rfl H2.out) rfl ⟨none, 0, by rw [HFR.out, HDE4.out]; rfl, by rw [HNIL.out]; exact Nat.le_refl _, by rw [HNIL.out]; exact C_nil _, HB.out⟩
      · obtain rfl : k = X.length := by omega
        have HPT := Aside0.mk (show padOk X = true by
          rw [HPD.out, List.all_eq_true]
          intro c hc
          obtain ⟨j, hj, rfl⟩ := List.getElem_of_mem hc
          have hj2 : 14 + nn + j < X.length := by rw [List.length_drop] at hj; omega
          have := HZ.out (14 + nn + j) (by omega) hj2
          rw [List.getD_eq_getElem?_getD, List.getElem?_eq_getElem hj2] at this
          rw [List.getElem_drop]
          simpa using this)
        have HE0 := Aside0.mk (show decE l0 = 0 by rw [HDE.out, HHT.out, HPT.out]; rfl)
        have HDD0 := Aside0.mk (show decD l0 = (X.drop 14).take nn by rw [HDY.out, HE0.out, if_pos rfl])
        have q2 := cut_part gx X.length c4 14 (14 + nn) (by omega) HNY.out Hc4.out (by have := HXL.out; have := Hc4.out; omega)
        rw [show ((14 : Nat) : Int) = 14 from rfl, show ((14 + nn : Nat) : Int) = 14 + (nn : Int) from rfl, show 14 + nn - 14 = nn by omega] at q2
        obtain ⟨Y, hY⟩ : ∃ Y, (X.drop 14).take nn = Y := ⟨_, rfl⟩
        have hYl : Y.length = nn := by rw [← hY, List.length_take, List.length_drop]; have := HNY.out; omega
        have HYC := Aside0.mk (piece_C HC4.out 14 nn HNY.out)
        rw [hY] at HYC HDD0
        have HCP := Aside0.mk (antiphonref1_Copy.calls (nn + 1) (some ⟨gx, 14, none⟩) (c4 - 14) Y Y)
        have HCF := Aside0.mk (show antiphonref1_Copy.f (nn + 1) Y = some Y by have := copy_any (a := Y) (by rw [hYl]; omega); rw [hYl] at this; exact this)
        rw [hYl] at HCP
        have HYL := Aside0.mk hYl
        have HG7 := Aside0.mk (blk_lt HF.out)
        clear hY hYl hlt hk hk0
        go_wp2_with fail
        refine (HCP.out _ (Kd.C_below HYC.out HB4.out) (by have := HNY.out; have := Hc4.out; omega) HCF.out).mono ?_
        rintro e w8 ⟨v8, rfl, hR, hB⟩
        replace HF := Aside0.mk (blk_below HF.out hB)
        replace H2 := Aside0.mk (blk_below H2.out hB)
        replace HB := Aside0.mk (below_step HB.out hB)
        have HD := Aside0.mk hR
        have hc12 := (show w8.cell? ⟨gf, 12, none⟩ = some (.slice none 0 0) from (blk_cell HF.out 12).trans rfl)
        have hf12 := blk_frozen HF.out 12
        clear hR hB q2
        obtain ⟨AD, cD, rfl⟩ := Kd.R_slice HD.out
        obtain ⟨dl, hdl⟩ : ∃ dl, Y.length = dl := ⟨_, rfl⟩
        rw [hdl] at HD ⊢
        go_upto_region 21 with fail
        have hF' := blk_put HF.out 12 (.slice AD dl cD) (cs' := #[.int .u8 (hdv X 0), .int .u8 (hdv X 1), .int .u8 (hdv X 2), .int .u8 (hdv X 3), .int .u8 (hdv X 4), .int .u8 (hdv X 5), .int .u8 (hdv X 6), .int .u8 (hdv X 7), .int .u8 (hdv X 8), .int .u8 (hdv X 9), .int .u8 (hdv X 10), .int .u8 (hdv X 11), .slice AD dl cD]) rfl
        have hD' := Kd.R_set HD.out HF.out (by decide) 12 (.slice AD dl cD)
        have hG := only_set (w := w8) (g := gf) 12 (.slice AD dl cD)
        generalize w8.setCell ⟨gf, 12, none⟩ (.slice AD dl cD) = w9 at hF' hD' hG ⊢
        replace H2 := Aside0.mk (blk_grown_ H2.out hG (by have := HN.out; omega))
        replace HB := Aside0.mk (below_own HB.out hG (by have := HN.out; omega))
        replace HF := Aside0.mk hF'
        replace HD := Aside0.mk hD'
        have HDL := Aside0.mk hdl
        have HFR := Aside0.mk (frame_yes HE0.out HX.out AD dl cD)
        clear hF' hD' hG hc12 hf12 hdl
        go_wp2_with ((refine wpList_load_row rfl 45 (.tmp 6) rfl gf rfl 45 #[.int .u8 (hdv X 0), .int .u8 (hdv X 1), .int .u8 (hdv X 2), .int .u8 (hdv X 3), .int .u8 (hdv X 4), .int .u8 (hdv X 5), .int .u8 (hdv X 6), .int .u8 (hdv X 7), .int .u8 (hdv X 8), .int .u8 (hdv X 9), .int .u8 (hdv X 10), .int .u8 (hdv X 11), .slice AD dl cD] (0, 0) _ HF.out Try.underlying45 rfl info45_ ?_; refine wpList_store_part rfl 45 (.tmp 2) (.tmp 81) rfl w.heap.size 0 #[.int .u8 (hdv X 0), .int .u8 (hdv X 1), .int .u8 (hdv X 2), .int .u8 (hdv X 3), .int .u8 (hdv X 4), .int .u8 (hdv X 5), .int .u8 (hdv X 6), .int .u8 (hdv X 7), .int .u8 (hdv X 8), .int .u8 (hdv X 9), .int .u8 (hdv X 10), .int .u8 (hdv X 11), .slice AD dl cD] #[.int .u8 0, .int .u8 0, .int .u8 0, .int .u8 0, .int .u8 0, .int .u8 0, .int .u8 0, .int .u8 0, .int .u8 0, .int .u8 0, .int .u8 0, .int .u8 0, .slice none 0 0] #[.int .u8 (hdv X 0), .int .u8 (hdv X 1), .int .u8 (hdv X 2), .int .u8 (hdv X 3), .int .u8 (hdv X 4), .int .u8 (hdv X 5), .int .u8 (hdv X 6), .int .u8 (hdv X 7), .int .u8 (hdv X 8), .int .u8 (hdv X 9), .int .u8 (hdv X 10), .int .u8 (hdv X 11), .slice AD dl cD] 45 rfl rfl H2.out (show 0 + 13 ≤ 13 from by decide) (overRow_all _ _ rfl) info45_ (by rfl) ?_; intro wz hZ hG; replace HD := Aside0.mk (R_pastG HD.out hG (by have := HG7.out; have := HN.out; omega)); replace H2 := Aside0.mk hZ; replace HB := Aside0.mk (below_own HB.out hG (Nat.le_refl _)); clear hZ hG))
        refine bodyPost_ret (results_frame rfl _ _ w.heap.size _ rfl rfl H2.out) rfl ?_
        obtain ⟨A_, c_, he_, hcl_, hC_⟩ := Kd.R_reads HD.out
        injection he_ with e1_ e2_ e3_
        subst e1_
        subst e3_
        refine ⟨AD, cD, ?_, ?_, ?_, HB.out⟩
        · rw [HE0.out, HDD0.out, HDL.out, HFR.out]
          rfl
        · rw [HDD0.out]
          exact hcl_
        · rw [HDD0.out]
          exact hC_
theorem ref_Decode.calls (A0 : Option Addr) (c0 : Nat) (l0 : List Int) (w : World) (hr0 : Kd.C (Kd.int .u8) w A0 l0.length l0) (hc0 : l0.length ≤ c0) (hb : byteRow l0) (hmx : l0.length < 140737488355000) :
    Calls Try.prog 35 #[.slice A0 l0.length c0] w fun e w' => ∃ A c, e = .returned (.tuple #[.agg (frame (decH l0) A (decD l0).length c), .int .i64 (decE l0)]) ∧ (decD l0).length ≤ c ∧ Kd.C (Kd.int .u8) w' A (decD l0).length (decD l0) ∧ Below w.heap.size w w' := by
  by_cases hl : l0.length < 64
  · have he : decE l0 = 2 := by unfold decE; rw [if_pos hl]
    obtain ⟨h1, h2⟩ := frame_none (l := l0) (by rw [he]; decide)
    refine (ref_Decode.short A0 c0 l0 w hr0 hc0 hl).mono ?_
    rintro e w' ⟨rfl, hB⟩
    exact ⟨none, 0, by rw [h1, he], by rw [h2]; exact Nat.le_refl _, by rw [h2]; exact C_nil _, hB⟩
  · cases ho : openB l0 with
    | false =>
      have he : decE l0 = 5 := by unfold decE; rw [if_neg hl, ho]; rfl
      obtain ⟨h1, h2⟩ := frame_none (l := l0) (by rw [he]; decide)
      refine (ref_Decode.sum A0 c0 l0 w hr0 hc0 (by omega) hb hmx ho).mono ?_
      rintro e w' ⟨rfl, hB⟩
      exact ⟨none, 0, by rw [h1, he], by rw [h2]; exact Nat.le_refl _, by rw [h2]; exact C_nil _, hB⟩
    | true => exact ref_Decode.body A0 c0 l0 w hr0 hc0 (by omega) hb hmx ho
end Go.Proofs.Ytpalloofjljhkaa.P
/-! Px11 -/
namespace Go.Proofs.Ytpalloofjljhkaa.P
open Go.RowKit Go.Proofs.Ytpalloofjljhkaa.Lib Go.Proofs.YtpalloofjljhkaaW.PrintWords Go.Proofs.YtpalloofjljhkaaW.PrintLast Go.Proofs.YtpalloofjljhkaaW.PrintMore
set_option linter.unusedVariables false
set_option linter.unusedSimpArgs false
theorem sameFrame_any {a0 a1 a2 a3 a4 a5 a6 a7 a8 a9 a10 a11 : Int} {l : List Int} (h : l.length < 9223372036854775807) : antiphonref1_SameFrame.f (l.length + 1) a0 a1 a2 a3 a4 a5 a6 a7 a8 a9 a10 a11 l a0 a1 a2 a3 a4 a5 a6 a7 a8 a9 a10 a11 l = some true := by
  unfold antiphonref1_SameFrame.f
  rw [if_pos (by simp), if_pos (by simp), same_any h, decide_eq_true rfl]
  rfl
theorem mac_Encode.any (t0 t1 t2 t3 t4 t5 f0 f1 f2 f3 f4 f5 : Int) (A0 : Option Addr) (c0 : Nat) (l0 : List Int) (w : World) (hr0 : Kd.C (Kd.int .u8) w A0 l0.length l0) (hc0 : l0.length ≤ c0) (hb : byteRow l0) (hbt : byteRow [t0, t1, t2, t3, t4, t5]) (hbf : byteRow [f0, f1, f2, f3, f4, f5]) :
    Calls Try.prog 32 #[tabV true, .agg #[.int .u8 t0, .int .u8 t1, .int .u8 t2, .int .u8 t3, .int .u8 t4, .int .u8 t5, .int .u8 f0, .int .u8 f1, .int .u8 f2, .int .u8 f3, .int .u8 f4, .int .u8 f5, .slice A0 l0.length c0]] w fun e w' => ∃ v, e = .returned (.tuple #[v, .int .i64 (encE [f0, f1, f2, f3, f4, f5] l0)]) ∧ Kd.R (Kd.int .u8) 5 w' w.heap.size (fun _ => True) v (encL [t0, t1, t2, t3, t4, t5] [f0, f1, f2, f3, f4, f5] l0) ∧ Below w.heap.size w w' := by
  have e0 : List.getD [f0, f1, f2, f3, f4, f5] 0 0 = f0 := rfl
  cases hg : isGrp f0 with
  | true =>
    have h1 : encE [f0, f1, f2, f3, f4, f5] l0 = 1 := by unfold encE; rw [e0, hg]; rfl
    have h2 : encL [t0, t1, t2, t3, t4, t5] [f0, f1, f2, f3, f4, f5] l0 = [] := by unfold encL; rw [e0, hg]; rfl
    rw [h1, h2]
    exact mac_Encode.group t0 t1 t2 t3 t4 t5 f0 f1 f2 f3 f4 f5 A0 c0 l0 w hr0 hc0 hg
  | false =>
    by_cases hl : 1500 < l0.length
    · have h1 : encE [f0, f1, f2, f3, f4, f5] l0 = 3 := by unfold encE; rw [e0, hg, if_neg (by decide), if_pos hl]
      have h2 : encL [t0, t1, t2, t3, t4, t5] [f0, f1, f2, f3, f4, f5] l0 = [] := by unfold encL; rw [e0, hg, if_neg (by decide), if_pos hl]
      rw [h1, h2]
      exact mac_Encode.long t0 t1 t2 t3 t4 t5 f0 f1 f2 f3 f4 f5 A0 c0 l0 w hr0 hc0 hg hl
    · have h1 : encE [f0, f1, f2, f3, f4, f5] l0 = 0 := by unfold encE; rw [e0, hg, if_neg (by decide), if_neg hl]
      have h2 : encL [t0, t1, t2, t3, t4, t5] [f0, f1, f2, f3, f4, f5] l0 = sealI (encB [t0, t1, t2, t3, t4, t5] [f0, f1, f2, f3, f4, f5] l0) := by unfold encL; rw [e0, hg, if_neg (by decide), if_neg hl]
      rw [h1, h2]
      exact mac_Encode.ok t0 t1 t2 t3 t4 t5 f0 f1 f2 f3 f4 f5 A0 c0 l0 w hr0 hc0 hg (by omega) hb hbt hbf
theorem ref_Encode.any (t0 t1 t2 t3 t4 t5 f0 f1 f2 f3 f4 f5 : Int) (A0 : Option Addr) (c0 : Nat) (l0 : List Int) (w : World) (hr0 : Kd.C (Kd.int .u8) w A0 l0.length l0) (hc0 : l0.length ≤ c0) (hb : byteRow l0) (hbt : byteRow [t0, t1, t2, t3, t4, t5]) (hbf : byteRow [f0, f1, f2, f3, f4, f5]) :
    Calls Try.prog 33 #[.agg #[.int .u8 t0, .int .u8 t1, .int .u8 t2, .int .u8 t3, .int .u8 t4, .int .u8 t5, .int .u8 f0, .int .u8 f1, .int .u8 f2, .int .u8 f3, .int .u8 f4, .int .u8 f5, .slice A0 l0.length c0]] w fun e w' => ∃ v, e = .returned (.tuple #[v, .int .i64 (encE [f0, f1, f2, f3, f4, f5] l0)]) ∧ Kd.R (Kd.int .u8) 5 w' w.heap.size (fun _ => True) v (encL [t0, t1, t2, t3, t4, t5] [f0, f1, f2, f3, f4, f5] l0) ∧ Below w.heap.size w w' := by
  have e0 : List.getD [f0, f1, f2, f3, f4, f5] 0 0 = f0 := rfl
  cases hg : isGrp f0 with
  | true =>
    have h1 : encE [f0, f1, f2, f3, f4, f5] l0 = 1 := by unfold encE; rw [e0, hg]; rfl
    have h2 : encL [t0, t1, t2, t3, t4, t5] [f0, f1, f2, f3, f4, f5] l0 = [] := by unfold encL; rw [e0, hg]; rfl
    rw [h1, h2]
    exact ref_Encode.group t0 t1 t2 t3 t4 t5 f0 f1 f2 f3 f4 f5 A0 c0 l0 w hr0 hc0 hg
  | false =>
    by_cases hl : 1500 < l0.length
    · have h1 : encE [f0, f1, f2, f3, f4, f5] l0 = 3 := by unfold encE; rw [e0, hg, if_neg (by decide), if_pos hl]
      have h2 : encL [t0, t1, t2, t3, t4, t5] [f0, f1, f2, f3, f4, f5] l0 = [] := by unfold encL; rw [e0, hg, if_neg (by decide), if_pos hl]
      rw [h1, h2]
      exact ref_Encode.long t0 t1 t2 t3 t4 t5 f0 f1 f2 f3 f4 f5 A0 c0 l0 w hr0 hc0 hg hl
    · have h1 : encE [f0, f1, f2, f3, f4, f5] l0 = 0 := by unfold encE; rw [e0, hg, if_neg (by decide), if_neg hl]
      have h2 : encL [t0, t1, t2, t3, t4, t5] [f0, f1, f2, f3, f4, f5] l0 = sealI (encB [t0, t1, t2, t3, t4, t5] [f0, f1, f2, f3, f4, f5] l0) := by unfold encL; rw [e0, hg, if_neg (by decide), if_neg hl]
      rw [h1, h2]
      exact ref_Encode.ok t0 t1 t2 t3 t4 t5 f0 f1 f2 f3 f4 f5 A0 c0 l0 w hr0 hc0 hg (by omega) hb hbt hbf
theorem encL_len {t0 t1 t2 t3 t4 t5 f0 f1 f2 f3 f4 f5 : Int} {l : List Int} : (encL [t0, t1, t2, t3, t4, t5] [f0, f1, f2, f3, f4, f5] l).length ≤ l.length + 64 := by
  unfold encL
  split
  · exact Nat.zero_le _
  split
  · exact Nat.zero_le _
  rw [sealI_len, encB_len]
  omega
theorem decD_len (l : List Int) : (decD l).length ≤ l.length := by
  unfold decD
  split
  · rw [List.length_take, List.length_drop]
    unfold openL
    split
    · rw [List.length_take]; omega
    · rw [List.length_nil]; omega
  · exact Nat.zero_le _
def antiphonlaw3_MacFrames.f (a0_0 : Int) (a0_1 : Int) (a0_2 : Int) (a0_3 : Int) (a0_4 : Int) (a0_5 : Int) (a0_6 : Int) (a0_7 : Int) (a0_8 : Int) (a0_9 : Int) (a0_10 : Int) (a0_11 : Int) (l0_12 : List Int) (l1 : List Int) : Option Bool := if (∀ c ∈ [a0_0, a0_1, a0_2, a0_3, a0_4, a0_5], 0 ≤ c ∧ c < 256) ∧ (∀ c ∈ [a0_6, a0_7, a0_8, a0_9, a0_10, a0_11], 0 ≤ c ∧ c < 256) ∧ (∀ c ∈ l0_12, 0 ≤ c ∧ c < 256) ∧ (∀ c ∈ l1, 0 ≤ c ∧ c < 256) then some true else none
set_option maxHeartbeats 8000000 in
set_option maxRecDepth 100000 in
theorem antiphonlaw3_MacFrames.calls (a0_0 : Int) (a0_1 : Int) (a0_2 : Int) (a0_3 : Int) (a0_4 : Int) (a0_5 : Int) (a0_6 : Int) (a0_7 : Int) (a0_8 : Int) (a0_9 : Int) (a0_10 : Int) (a0_11 : Int) (A0_12 : Option Addr) (c0_12 : Nat) (l0_12 : List Int) (A1 : Option Addr) (c1 : Nat) (l1 : List Int) (r : Bool) (w : World) (hr0_12 : Kd.C (Kd.int .u8) w A0_12 l0_12.length l0_12) (hc0_12 : l0_12.length ≤ c0_12) (hr1 : Kd.C (Kd.int .u8) w A1 l1.length l1) (hc1 : l1.length ≤ c1) (h : antiphonlaw3_MacFrames.f a0_0 a0_1 a0_2 a0_3 a0_4 a0_5 a0_6 a0_7 a0_8 a0_9 a0_10 a0_11 l0_12 l1 = some r) :
    Calls Try.prog 10 #[.agg #[.int .u8 a0_0, .int .u8 a0_1, .int .u8 a0_2, .int .u8 a0_3, .int .u8 a0_4, .int .u8 a0_5, .int .u8 a0_6, .int .u8 a0_7, .int .u8 a0_8, .int .u8 a0_9, .int .u8 a0_10, .int .u8 a0_11, .slice A0_12 l0_12.length c0_12], .slice A1 l1.length c1] w fun e w' => e = .returned (.bool r) ∧ Below w.heap.size w w' := by
  unfold antiphonlaw3_MacFrames.f at h
  split at h
  case isFalse => exact absurd h (by simp)
  case isTrue hcd =>
  obtain ⟨hbt, hbf, hbd, h0⟩ := hcd
  obtain rfl := Option.some.inj h
  clear h
  have HBT := Aside0.mk (show byteRow [a0_0, a0_1, a0_2, a0_3, a0_4, a0_5] from hbt)
  have HBF := Aside0.mk (show byteRow [a0_6, a0_7, a0_8, a0_9, a0_10, a0_11] from hbf)
  have HBD := Aside0.mk (show byteRow l0_12 from hbd)
  have HR := Aside0.mk hr0_12
  have HC := Aside0.mk hc0_12
  have hm0 : l0_12.length ≤ 9223372036854775807 := hr0_12.2.1
  have hu45 := Try.underlying45
  have hu43 := Try.underlying43
  have HB1 := Aside0.mk (show byteRow l1 from h0)
  have HR1 := Aside0.mk hr1
  have HC1 := Aside0.mk hc1
  have hm1 : l1.length ≤ 9223372036854775807 := hr1.2.1
  clear h0 hr1 hc1
  clear hbt hbf hbd hr0_12 hc0_12
  go_enter Try.func10, Try.ntmps10
  go_wp2_with fail
  have hb1 := blk_new w (.cells #[.int .u8 a0_0, .int .u8 a0_1, .int .u8 a0_2, .int .u8 a0_3, .int .u8 a0_4, .int .u8 a0_5, .int .u8 a0_6, .int .u8 a0_7, .int .u8 a0_8, .int .u8 a0_9, .int .u8 a0_10, .int .u8 a0_11, .slice A0_12 l0_12.length c0_12] 45 (0, 0))
  have hbw := below_alloc (Below.refl w.heap.size w) (.cells #[.int .u8 a0_0, .int .u8 a0_1, .int .u8 a0_2, .int .u8 a0_3, .int .u8 a0_4, .int .u8 a0_5, .int .u8 a0_6, .int .u8 a0_7, .int .u8 a0_8, .int .u8 a0_9, .int .u8 a0_10, .int .u8 a0_11, .slice A0_12 l0_12.length c0_12] 45 (0, 0))
  generalize w.alloc (.cells #[.int .u8 a0_0, .int .u8 a0_1, .int .u8 a0_2, .int .u8 a0_3, .int .u8 a0_4, .int .u8 a0_5, .int .u8 a0_6, .int .u8 a0_7, .int .u8 a0_8, .int .u8 a0_9, .int .u8 a0_10, .int .u8 a0_11, .slice A0_12 l0_12.length c0_12] 45 (0, 0)) = w0 at hb1 hbw ⊢
  obtain ⟨gf, hgf⟩ : ∃ gf, w.heap.size = gf := ⟨_, rfl⟩
  have HGF := Aside0.mk hgf
  rw [hgf] at hb1 ⊢
  have HB := Aside0.mk (show Below w.heap.size w w0 from hbw)
  have HF := Aside0.mk hb1
  clear hb1 hbw hgf
  refine (awake3_calls _).mono ?_
  rintro e wa ⟨rfl, hB⟩
  replace HF := Aside0.mk (blk_below HF.out hB)
  replace HB := Aside0.mk (below_step HB.out hB)
  clear hB
  have hk6 := (show wa.cell? ⟨gf, 6, none⟩ = some (.int .u8 a0_6) from (blk_cell HF.out 6).trans rfl)
  have hk7 := (show wa.cell? ⟨gf, 7, none⟩ = some (.int .u8 a0_7) from (blk_cell HF.out 7).trans rfl)
  have hk8 := (show wa.cell? ⟨gf, 8, none⟩ = some (.int .u8 a0_8) from (blk_cell HF.out 8).trans rfl)
  have hk9 := (show wa.cell? ⟨gf, 9, none⟩ = some (.int .u8 a0_9) from (blk_cell HF.out 9).trans rfl)
  have hk10 := (show wa.cell? ⟨gf, 10, none⟩ = some (.int .u8 a0_10) from (blk_cell HF.out 10).trans rfl)
  have hk11 := (show wa.cell? ⟨gf, 11, none⟩ = some (.int .u8 a0_11) from (blk_cell HF.out 11).trans rfl)
  have hk12 := (show wa.cell? ⟨gf, 12, none⟩ = some (.slice A0_12 l0_12.length c0_12) from (blk_cell HF.out 12).trans rfl)
  by_cases hl : l0_12.length ≤ 2000
  case neg =>
    have d1 : decide ((2000 : Int) < (l0_12.length : Int)) = true := decide_eq_true (by omega)
    clear hl
    go_wp2_with fail
    go_ret
    exact ⟨rfl, HB.out⟩
  have d1 : decide ((2000 : Int) < (l0_12.length : Int)) = false := decide_eq_false (by omega)
  have HL := Aside0.mk hl
  clear hl
  by_cases hl : l1.length ≤ 2000
  case neg =>
    have d2 : decide ((2000 : Int) < (l1.length : Int)) = true := decide_eq_true (by omega)
    clear hl
    go_wp2_with fail
    go_ret
    exact ⟨rfl, HB.out⟩
  have d2 : decide ((2000 : Int) < (l1.length : Int)) = false := decide_eq_false (by omega)
  have HL1 := Aside0.mk hl
  clear hl
  go_wp2_with fail
  refine (crc_Make.calls _).mono ?_
  rintro e w1 ⟨rfl, hB⟩
  clear hk6 hk7 hk8 hk9 hk10 hk11 hk12
  replace HF := Aside0.mk (blk_below HF.out hB)
  have hS := (show Below wa.heap.size wa w1 from below_step (by repeat (first | with_reducible exact Below.refl _ _ | with_reducible apply below_drew1 | with_reducible apply pw_below_drewN | with_reducible apply below_alloc)) hB)
  replace HB := Aside0.mk (below_step HB.out hS)
  clear hS hB
  have HEL := Aside0.mk (show (encL [a0_0, a0_1, a0_2, a0_3, a0_4, a0_5] [a0_6, a0_7, a0_8, a0_9, a0_10, a0_11] l0_12).length ≤ 3000 by have := encL_len (l := l0_12) (t0 := a0_0) (t1 := a0_1) (t2 := a0_2) (t3 := a0_3) (t4 := a0_4) (t5 := a0_5) (f0 := a0_6) (f1 := a0_7) (f2 := a0_8) (f3 := a0_9) (f4 := a0_10) (f5 := a0_11); have := HL.out; omega)
  go_wp2_with (first
    | (refine wpList_store_tab rfl (.tmp 5) (.tmp 25) rfl w1.heap.size rfl true rfl Try.zeroCells27 (blk_new w1 _) zsz27 ?_; intro w2 hI hG; have hS := (show Below w1.heap.size w1 w2 from (below_alloc (Below.refl _ _) _).grown hG (below_alloc (Below.refl _ _) _).size (fun k hk => by cases hk; exact Nat.le_refl _)); have HG := Aside0.mk (HB.out.size); replace HB := Aside0.mk (below_step HB.out hS); generalize w1.heap.size = g at hI HG ⊢; have HI := Aside0.mk hI; replace HF := Aside0.mk (blk_below HF.out hS); clear hI hG hS)
    | (refine wpList_load_row rfl 27 (.tmp 5) rfl g rfl 27 (tabRow true) (0, 0) _ HI.out Try.underlying27 rfl (tabInf true) ?_)
    | (refine wpList_load_row rfl 45 (.tmp 2) rfl gf rfl 45 #[.int .u8 a0_0, .int .u8 a0_1, .int .u8 a0_2, .int .u8 a0_3, .int .u8 a0_4, .int .u8 a0_5, .int .u8 a0_6, .int .u8 a0_7, .int .u8 a0_8, .int .u8 a0_9, .int .u8 a0_10, .int .u8 a0_11, .slice A0_12 l0_12.length c0_12] (0, 0) _ HF.out Try.underlying45 rfl info45_ ?_))
  have HEN := Aside0.mk (mac_Encode.any a0_0 a0_1 a0_2 a0_3 a0_4 a0_5 a0_6 a0_7 a0_8 a0_9 a0_10 a0_11 A0_12 c0_12 l0_12 _ (Kd.C_below HR.out HB.out) HC.out HBD.out HBT.out HBF.out)
  have HRN := Aside0.mk (fun W hC => ref_Encode.any a0_0 a0_1 a0_2 a0_3 a0_4 a0_5 a0_6 a0_7 a0_8 a0_9 a0_10 a0_11 A0_12 c0_12 l0_12 W hC HC.out HBD.out HBT.out HBF.out)
  generalize encL [a0_0, a0_1, a0_2, a0_3, a0_4, a0_5] [a0_6, a0_7, a0_8, a0_9, a0_10, a0_11] l0_12 = E at HEN HRN HEL
  generalize encE [a0_6, a0_7, a0_8, a0_9, a0_10, a0_11] l0_12 = ee at HEN HRN
  refine HEN.out.mono ?_
  rintro e w6 ⟨v6, rfl, hR, hB⟩
  clear HEN
  obtain ⟨A6, c6, rfl, hc_, hC_⟩ := Kd.R_reads hR
  have HC6 := Aside0.mk hC_
  have Hc6 := Aside0.mk hc_
  clear hR hC_ hc_
  replace HF := Aside0.mk (blk_below HF.out hB)
  replace HI := Aside0.mk (HI.out.below hB)
  replace HB := Aside0.mk (below_step HB.out hB)
  clear hB
  have hm6 : E.length ≤ 9223372036854775807 := HC6.out.2.1
  go_wp2_with (first
    | (refine wpList_load_row rfl 45 (.tmp 2) rfl gf rfl 45 #[.int .u8 a0_0, .int .u8 a0_1, .int .u8 a0_2, .int .u8 a0_3, .int .u8 a0_4, .int .u8 a0_5, .int .u8 a0_6, .int .u8 a0_7, .int .u8 a0_8, .int .u8 a0_9, .int .u8 a0_10, .int .u8 a0_11, .slice A0_12 l0_12.length c0_12] (0, 0) _ HF.out Try.underlying45 rfl info45_ ?_))
  refine (HRN.out _ (Kd.C_below HR.out HB.out)).mono ?_
  rintro e w7 ⟨v8, rfl, hR, hB⟩
  clear HRN
  obtain ⟨A8, c8, rfl, hc_, hC_⟩ := Kd.R_reads hR
  have HC8 := Aside0.mk hC_
  have Hc8 := Aside0.mk hc_
  clear hR hC_ hc_
  replace HF := Aside0.mk (blk_below HF.out hB)
  replace HI := Aside0.mk (HI.out.below hB)
  replace HC6 := Aside0.mk (Kd.C_below HC6.out hB)
  replace HB := Aside0.mk (below_step HB.out hB)
  clear hB
  go_wp2_with (first
    | (refine wpList_load_row rfl 27 (.tmp 5) rfl g rfl 27 (tabRow true) (0, 0) _ HI.out Try.underlying27 rfl (tabInf true) ?_))
  have HDN := Aside0.mk (mac_Decode.calls A1 c1 l1 _ (Kd.C_below HR1.out HB.out) HC1.out HB1.out (by have := HL1.out; omega))
  have HRD := Aside0.mk (fun W hC => ref_Decode.calls A1 c1 l1 W hC HC1.out HB1.out (by have := HL1.out; omega))
  have HDL := Aside0.mk (show (decD l1).length ≤ 2000 by have := decD_len l1; have := HL1.out; omega)
  unfold frame at HDN HRD
  generalize decD l1 = D at HDN HRD HDL
  generalize decE l1 = de at HDN HRD
  generalize decH l1 0 = d0 at HDN HRD
  generalize decH l1 1 = d1 at HDN HRD
  generalize decH l1 2 = d2 at HDN HRD
  generalize decH l1 3 = d3 at HDN HRD
  generalize decH l1 4 = d4 at HDN HRD
  generalize decH l1 5 = d5 at HDN HRD
  generalize decH l1 6 = d6 at HDN HRD
  generalize decH l1 7 = d7 at HDN HRD
  generalize decH l1 8 = d8 at HDN HRD
  generalize decH l1 9 = d9 at HDN HRD
  generalize decH l1 10 = d10 at HDN HRD
  generalize decH l1 11 = d11 at HDN HRD
  refine HDN.out.mono ?_
  rintro e w8 ⟨AD, cD, rfl, hcD, hCD, hB⟩
  clear HDN
  have HCD := Aside0.mk hCD
  have HcD := Aside0.mk hcD
  clear hCD hcD
  replace HF := Aside0.mk (blk_below HF.out hB)
  replace HI := Aside0.mk (HI.out.below hB)
  replace HC6 := Aside0.mk (Kd.C_below HC6.out hB)
  replace HC8 := Aside0.mk (Kd.C_below HC8.out hB)
  replace HB := Aside0.mk (below_step HB.out hB)
  clear hB
  go_upto_region 9 with fail
  have h1 := blk_new w8 (.cells #[.int .u8 d0, .int .u8 d1, .int .u8 d2, .int .u8 d3, .int .u8 d4, .int .u8 d5, .int .u8 d6, .int .u8 d7, .int .u8 d8, .int .u8 d9, .int .u8 d10, .int .u8 d11, .slice AD D.length cD] 45 (0, 0))
  have hB := below_alloc (Below.refl w8.heap.size w8) (.cells #[.int .u8 d0, .int .u8 d1, .int .u8 d2, .int .u8 d3, .int .u8 d4, .int .u8 d5, .int .u8 d6, .int .u8 d7, .int .u8 d8, .int .u8 d9, .int .u8 d10, .int .u8 d11, .slice AD D.length cD] 45 (0, 0))
  generalize w8.alloc (.cells #[.int .u8 d0, .int .u8 d1, .int .u8 d2, .int .u8 d3, .int .u8 d4, .int .u8 d5, .int .u8 d6, .int .u8 d7, .int .u8 d8, .int .u8 d9, .int .u8 d10, .int .u8 d11, .slice AD D.length cD] 45) = w9 at h1 hB ⊢
  obtain ⟨g10, hg_⟩ : ∃ g10, w8.heap.size = g10 := ⟨_, rfl⟩
  have Hg10 := Aside0.mk h1
  replace HF := Aside0.mk (blk_below HF.out hB)
  replace HI := Aside0.mk (HI.out.below hB)
  replace HC6 := Aside0.mk (Kd.C_below HC6.out hB)
  replace HC8 := Aside0.mk (Kd.C_below HC8.out hB)
  replace HCD := Aside0.mk (Kd.C_below HCD.out hB)
  replace HB := Aside0.mk (below_step HB.out hB)
  clear hB
  rw [hg_] at Hg10 ⊢
  clear h1 hg_
  go_wp2_with fail
  refine (HRD.out _ (Kd.C_below HR1.out HB.out)).mono ?_
  rintro e w10 ⟨AE, cE, rfl, hcE, hCE, hB⟩
  clear HRD
  have HCE := Aside0.mk hCE
  have HcE := Aside0.mk hcE
  clear hCE hcE
  replace Hg10 := Aside0.mk (blk_below Hg10.out hB)
  replace HF := Aside0.mk (blk_below HF.out hB)
  replace HI := Aside0.mk (HI.out.below hB)
  replace HC6 := Aside0.mk (Kd.C_below HC6.out hB)
  replace HC8 := Aside0.mk (Kd.C_below HC8.out hB)
  replace HCD := Aside0.mk (Kd.C_below HCD.out hB)
  replace HB := Aside0.mk (below_step HB.out hB)
  clear hB
  go_upto_region 10 with fail
  have h1 := blk_new w10 (.cells #[.int .u8 d0, .int .u8 d1, .int .u8 d2, .int .u8 d3, .int .u8 d4, .int .u8 d5, .int .u8 d6, .int .u8 d7, .int .u8 d8, .int .u8 d9, .int .u8 d10, .int .u8 d11, .slice AE D.length cE] 45 (0, 0))
  have hB := below_alloc (Below.refl w10.heap.size w10) (.cells #[.int .u8 d0, .int .u8 d1, .int .u8 d2, .int .u8 d3, .int .u8 d4, .int .u8 d5, .int .u8 d6, .int .u8 d7, .int .u8 d8, .int .u8 d9, .int .u8 d10, .int .u8 d11, .slice AE D.length cE] 45 (0, 0))
  generalize w10.alloc (.cells #[.int .u8 d0, .int .u8 d1, .int .u8 d2, .int .u8 d3, .int .u8 d4, .int .u8 d5, .int .u8 d6, .int .u8 d7, .int .u8 d8, .int .u8 d9, .int .u8 d10, .int .u8 d11, .slice AE D.length cE] 45) = w11 at h1 hB ⊢
  obtain ⟨g12, hg_⟩ : ∃ g12, w10.heap.size = g12 := ⟨_, rfl⟩
  have Hg12 := Aside0.mk h1
  replace Hg10 := Aside0.mk (blk_below Hg10.out hB)
  replace HF := Aside0.mk (blk_below HF.out hB)
  replace HI := Aside0.mk (HI.out.below hB)
  replace HC6 := Aside0.mk (Kd.C_below HC6.out hB)
  replace HC8 := Aside0.mk (Kd.C_below HC8.out hB)
  replace HCD := Aside0.mk (Kd.C_below HCD.out hB)
  replace HCE := Aside0.mk (Kd.C_below HCE.out hB)
  replace HB := Aside0.mk (below_step HB.out hB)
  clear hB
  rw [hg_] at Hg12 ⊢
  clear h1 hg_
  have b1 : (ee == ee) = true := beq_iff_eq.2 rfl
  have b2 : (de == de) = true := beq_iff_eq.2 rfl
  have HS1 := Aside0.mk (show antiphonref1_Same.f (E.length + 1) E E = some true by rw [same_any (by have := HEL.out; omega), decide_eq_true rfl])
  have HS2 := Aside0.mk (sameFrame_any (a0 := d0) (a1 := d1) (a2 := d2) (a3 := d3) (a4 := d4) (a5 := d5) (a6 := d6) (a7 := d7) (a8 := d8) (a9 := d9) (a10 := d10) (a11 := d11) (l := D) (by have := HDL.out; omega))
  go_wp2_with fail
  refine (antiphonref1_Same.calls _ A6 c6 E A8 c8 E true _ HC6.out Hc6.out HC8.out Hc8.out HS1.out).mono ?_
  rintro e w12 ⟨rfl, hd⟩
  have hB := Drawn0.below hd
  replace HCD := Aside0.mk (Kd.C_below HCD.out hB)
  replace HCE := Aside0.mk (Kd.C_below HCE.out hB)
  replace Hg10 := Aside0.mk (blk_below Hg10.out hB)
  replace Hg12 := Aside0.mk (blk_below Hg12.out hB)
  replace HB := Aside0.mk (below_step HB.out hB)
  clear hB hd
  have hk0 := (show w12.cell? ⟨g10, 0, none⟩ = some (.int .u8 d0) from (blk_cell Hg10.out 0).trans rfl)
  have hq0 := (show w12.cell? ⟨g12, 0, none⟩ = some (.int .u8 d0) from (blk_cell Hg12.out 0).trans rfl)
  have hk1 := (show w12.cell? ⟨g10, 1, none⟩ = some (.int .u8 d1) from (blk_cell Hg10.out 1).trans rfl)
  have hq1 := (show w12.cell? ⟨g12, 1, none⟩ = some (.int .u8 d1) from (blk_cell Hg12.out 1).trans rfl)
  have hk2 := (show w12.cell? ⟨g10, 2, none⟩ = some (.int .u8 d2) from (blk_cell Hg10.out 2).trans rfl)
  have hq2 := (show w12.cell? ⟨g12, 2, none⟩ = some (.int .u8 d2) from (blk_cell Hg12.out 2).trans rfl)
  have hk3 := (show w12.cell? ⟨g10, 3, none⟩ = some (.int .u8 d3) from (blk_cell Hg10.out 3).trans rfl)
  have hq3 := (show w12.cell? ⟨g12, 3, none⟩ = some (.int .u8 d3) from (blk_cell Hg12.out 3).trans rfl)
  have hk4 := (show w12.cell? ⟨g10, 4, none⟩ = some (.int .u8 d4) from (blk_cell Hg10.out 4).trans rfl)
  have hq4 := (show w12.cell? ⟨g12, 4, none⟩ = some (.int .u8 d4) from (blk_cell Hg12.out 4).trans rfl)
  have hk5 := (show w12.cell? ⟨g10, 5, none⟩ = some (.int .u8 d5) from (blk_cell Hg10.out 5).trans rfl)
  have hq5 := (show w12.cell? ⟨g12, 5, none⟩ = some (.int .u8 d5) from (blk_cell Hg12.out 5).trans rfl)
  have hk6 := (show w12.cell? ⟨g10, 6, none⟩ = some (.int .u8 d6) from (blk_cell Hg10.out 6).trans rfl)
  have hq6 := (show w12.cell? ⟨g12, 6, none⟩ = some (.int .u8 d6) from (blk_cell Hg12.out 6).trans rfl)
  have hk7 := (show w12.cell? ⟨g10, 7, none⟩ = some (.int .u8 d7) from (blk_cell Hg10.out 7).trans rfl)
  have hq7 := (show w12.cell? ⟨g12, 7, none⟩ = some (.int .u8 d7) from (blk_cell Hg12.out 7).trans rfl)
  have hk8 := (show w12.cell? ⟨g10, 8, none⟩ = some (.int .u8 d8) from (blk_cell Hg10.out 8).trans rfl)
  have hq8 := (show w12.cell? ⟨g12, 8, none⟩ = some (.int .u8 d8) from (blk_cell Hg12.out 8).trans rfl)
  have hk9 := (show w12.cell? ⟨g10, 9, none⟩ = some (.int .u8 d9) from (blk_cell Hg10.out 9).trans rfl)
  have hq9 := (show w12.cell? ⟨g12, 9, none⟩ = some (.int .u8 d9) from (blk_cell Hg12.out 9).trans rfl)
  have hk10 := (show w12.cell? ⟨g10, 10, none⟩ = some (.int .u8 d10) from (blk_cell Hg10.out 10).trans rfl)
  have hq10 := (show w12.cell? ⟨g12, 10, none⟩ = some (.int .u8 d10) from (blk_cell Hg12.out 10).trans rfl)
  have hk11 := (show w12.cell? ⟨g10, 11, none⟩ = some (.int .u8 d11) from (blk_cell Hg10.out 11).trans rfl)
  have hq11 := (show w12.cell? ⟨g12, 11, none⟩ = some (.int .u8 d11) from (blk_cell Hg12.out 11).trans rfl)
  have hk12 := (show w12.cell? ⟨g10, 12, none⟩ = some (.slice AD D.length cD) from (blk_cell Hg10.out 12).trans rfl)
  have hq12 := (show w12.cell? ⟨g12, 12, none⟩ = some (.slice AE D.length cE) from (blk_cell Hg12.out 12).trans rfl)
  go_wp2_with fail
  refine (antiphonref1_SameFrame.calls (D.length + 1) d0 d1 d2 d3 d4 d5 d6 d7 d8 d9 d10 d11 AD cD D d0 d1 d2 d3 d4 d5 d6 d7 d8 d9 d10 d11 AE cE D true _ HCD.out HcD.out HCE.out HcE.out HS2.out).mono ?_
  rintro e w13 ⟨rfl, hB⟩
  replace HB := Aside0.mk (below_step HB.out hB)
  clear hB hk0 hq0 hk1 hq1 hk2 hq2 hk3 hq3 hk4 hq4 hk5 hq5 hk6 hq6 hk7 hq7 hk8 hq8 hk9 hq9 hk10 hq10 hk11 hq11 hk12 hq12
  go_wp2_with fail
  go_ret
  exact ⟨rfl, HB.out⟩
end Go.Proofs.Ytpalloofjljhkaa.P
/-! Opn -/
namespace Go.Proofs.Ytpalloofjljhkaa.Opn
open Go.ChangeShapes Go.WideShapes Go.RowKit Go.Deep
open Go.Proofs.YtpalloofjljhkaaW.PrintWords
set_option linter.unusedVariables false
def Opens (P : Program) (w : World) (t : TypeId) {α : Type} (d : Kd α) (WF : α → Prop) : Prop :=
  ∀ {H : Type} {enc : TypeId × Value → H} {base : Nat} {held : Bool} {n : Nat} {cs : List Value} {y : DataW H × List MemPlace}, DataW.trod enc P w base (fun _ => true) held n t cs = some y → ∃ x, d.K w x cs ∧ WF x
section
variable {P : Program} {w : World} {t e : TypeId} {α β : Type}
theorem opens_int {k : IntKind} (ht : P.underlying t = some (.int k)) : Opens P w t (Kd.int k) (fun x => (Lit.int k x).wf = true) := by
  intro H enc base held n cs y h
  obtain ⟨x, he, _, hw⟩ := DataW.trod_int ht h
  exact ⟨x, he, hw⟩
theorem add_add_ (a : Addr) (i j : Nat) : (a.add i).add j = a.add (i + j) := by
  unfold Addr.add
  by_cases hi : i = 0 <;> by_cases hj : j = 0 <;> simp [hi, hj, Nat.add_assoc]
theorem opens_slice {d : Kd α} {WF : α → Prop} (ht : P.underlying t = some (.slice e)) (hc : P.cellsOf e = d.sz) (he : Opens P w e d WF) : Opens P w t (Kd.slice e d) (fun xs => ∀ x ∈ xs, WF x) := by
  intro H enc base held n cs y h
  rcases open_slice ht h with ⟨rfl, _⟩ | ⟨a, len, cap, m, n', D, Pl, rfl, hb, hl, hm, hmm, rfl, hx⟩
  · exact ⟨[], ⟨none, 0, rfl, Nat.le_refl _, ⟨rfl, Nat.zero_le _, fun h => absurd h (Nat.lt_irrefl 0)⟩⟩, fun x hx => by cases hx⟩
  · have hcap : m = cap := by rw [hmm]; rfl
    have key : ∀ i, i < len → ∃ x, (∃ c, c.length = d.sz ∧ d.K w x c ∧ ∀ j u, c[j]? = some u → w.cell? (a.add (i * d.sz + j)) = some u) ∧ WF x := by
      intro i hi
      obtain ⟨cs', h1, h2⟩ := hx i (by omega)
      obtain ⟨_, hlen, hcell⟩ := World.cells?_some h1
      obtain ⟨x, hK, hW⟩ := he h2
      refine ⟨x, ⟨cs', by rw [hlen, hc], hK, fun j u hj => ?_⟩, hW⟩
      have hjl : j < P.cellsOf e := by rw [← hlen]; exact (List.getElem?_eq_some_iff.1 hj).1
      have := hcell j hjl
      rw [add_add_, hc] at this
      rw [this, hj]
    by_cases h0 : len = 0
    · subst h0
      exact ⟨[], ⟨some a, cap, rfl, Nat.zero_le _, ⟨rfl, Nat.zero_le _, fun h => absurd h (Nat.lt_irrefl 0)⟩⟩, fun x hx => by cases hx⟩
    · have hinh : Nonempty α := by obtain ⟨x, _⟩ := key 0 (by omega); exact ⟨x⟩
      have : Inhabited α := Classical.inhabited_of_nonempty hinh
      obtain ⟨f, hf⟩ := choose_lt key
      have hlen : ((List.range len).map f).length = len := by simp
      refine ⟨(List.range len).map f, ⟨some a, cap, by rw [hlen], by rw [hlen]; exact hl, ⟨rfl, by rw [hlen]; unfold maxLen at hm; omega, fun _ => ⟨a, rfl, fun j p hj => ?_⟩⟩⟩, fun x hx => ?_⟩
      · have hjl : j < len := by have := (List.getElem?_eq_some_iff.1 hj).1; rwa [hlen] at this
        have hp : p = f j := by
          rw [List.getElem?_map, List.getElem?_range hjl] at hj
          exact (Option.some.inj hj).symm
        subst hp
        exact (hf j hjl).1
      · obtain ⟨i, hi, rfl⟩ := List.mem_map.1 hx
        exact (hf i (List.mem_range.1 hi)).2
def segs (P : Program) : List TypeId → Nat
  | [] => 0
  | f :: fs => P.cellsOf f + segs P fs
def OpensL (P : Program) (w : World) (fs : List TypeId) {α : Type} (d : Kd α) (WF : α → Prop) : Prop :=
  ∀ {H : Type} {enc : TypeId × Value → H} {base : Nat} {held : Bool} {n : Nat} {cs : List Value}, cs.length = segs P fs →
    (∀ (j : Nat) (f : TypeId), fs[j]? = some f → ∃ y, DataW.trod enc P w base (fun _ => true) held n f ((cs.drop (segs P (fs.take j))).take (P.cellsOf f)) = some y) → ∃ x, d.K w x cs ∧ WF x
theorem opensL_one {d : Kd α} {WF : α → Prop} (h : Opens P w t d WF) : OpensL P w [t] d WF := by
  intro H enc base held n cs hl hj
  obtain ⟨y, hy⟩ := hj 0 t rfl
  have e1 : (cs.drop (segs P ([t].take 0))).take (P.cellsOf t) = cs := by
    show (cs.drop 0).take _ = cs
    rw [List.drop_zero]
    exact List.take_of_length_le (by rw [hl]; exact Nat.le_refl _)
  rw [e1] at hy
  exact h hy
theorem opensL_cons {fs : List TypeId} {d1 : Kd α} {d2 : Kd β} {W1 : α → Prop} {W2 : β → Prop} (h1 : Opens P w t d1 W1) (h2 : OpensL P w fs d2 W2) : OpensL P w (t :: fs) (Kd.pair d1 d2) (fun x => W1 x.1 ∧ W2 x.2) := by
  intro H enc base held n cs hl hj
  have hl' : cs.length = P.cellsOf t + segs P fs := hl
  obtain ⟨y, hy⟩ := hj 0 t rfl
  have e1 : (cs.drop (segs P ((t :: fs).take 0))).take (P.cellsOf t) = cs.take (P.cellsOf t) := by
    show (cs.drop 0).take _ = _
    rw [List.drop_zero]
  rw [e1] at hy
  obtain ⟨x, hK, hW⟩ := h1 hy
  obtain ⟨z, hK2, hW2⟩ := h2 (H := H) (enc := enc) (base := base) (held := held) (n := n) (cs := cs.drop (P.cellsOf t)) (by rw [List.length_drop]; omega) (fun j f hf => by
    obtain ⟨y', hy'⟩ := hj (j + 1) f hf
    refine ⟨y', ?_⟩
    rw [List.drop_drop]
    exact hy')
  exact ⟨(x, z), ⟨cs.take (P.cellsOf t), cs.drop (P.cellsOf t), (List.take_append_drop _ _).symm, hK, hK2⟩, hW, hW2⟩
def structOk (P : Program) (t : TypeId) (fs : Array Field) (ts : List TypeId) : Bool :=
  P.cellsOf t == segs P ts && fs.size == ts.length && (List.range ts.length).all fun j => match fs[j]?, ts[j]? with
    | some f, some u => f.type == u && f.offset == segs P (ts.take j)
    | _, _ => false
theorem opens_struct {fs : Array Field} {d : Kd α} {WF : α → Prop} (ts : List TypeId) (ht : P.underlying t = some (.struct fs)) (hok : structOk P t fs ts = true) (h : OpensL P w ts d WF) : Opens P w t d WF := by
  intro H enc base held n cs y hy
  obtain ⟨xs, m, _, _, hl, hxl, hf⟩ := DataW.trod_struct ht hy
  unfold structOk at hok
  simp only [Bool.and_eq_true, beq_iff_eq, List.all_eq_true, List.mem_range] at hok
  obtain ⟨⟨h1, h2⟩, h3⟩ := hok
  refine h (H := H) (enc := enc) (base := base) (held := held) (n := m) (by rw [hl, h1]) (fun j u hu => ?_)
  have hj : j < ts.length := (List.getElem?_eq_some_iff.1 hu).1
  have h4 := h3 j hj
  have hjf : fs[j]? = some (fs[j]'(by omega)) := Array.getElem?_eq_getElem (by omega)
  rw [hjf, hu] at h4
  simp only [Bool.and_eq_true, beq_iff_eq] at h4
  have h5 := hf j _ hjf
  rw [h4.1, h4.2] at h5
  exact ⟨_, h5.trans (List.getElem?_eq_getElem (by omega))⟩
theorem segs_rep (k : Nat) : segs P (List.replicate k e) = k * P.cellsOf e := by
  induction k with
  | zero => exact (Nat.zero_mul _).symm
  | succ k ih => show P.cellsOf e + segs P (List.replicate k e) = _; rw [ih, Nat.succ_mul, Nat.add_comm]
theorem opens_array {k : Nat} {d : Kd α} {WF : α → Prop} (ht : P.underlying t = some (.array k e)) (hC : (P.cellsOf t == k * P.cellsOf e) = true) (h : OpensL P w (List.replicate k e) d WF) : Opens P w t d WF := by
  intro H enc base held n cs y hy
  obtain ⟨xs, m, _, _, hl, hxl, hf⟩ := DataW.trod_array ht hy
  refine h (H := H) (enc := enc) (base := base) (held := held) (n := m) (by rw [hl, segs_rep]; exact eq_of_beq hC) (fun j u hu => ?_)
  have hj : j < k := by have := (List.getElem?_eq_some_iff.1 hu).1; rwa [List.length_replicate] at this
  have hue : u = e := by
    rw [List.getElem?_replicate, if_pos hj] at hu
    exact (Option.some.inj hu).symm
  subst hue
  have h5 := hf j hj
  have e2 : segs P ((List.replicate k u).take j) = j * P.cellsOf u := by
    rw [List.take_replicate, Nat.min_eq_left (by omega), segs_rep]
  rw [e2]
  exact ⟨_, h5.trans (List.getElem?_eq_getElem (by omega))⟩
theorem arg_slice {H : Type} {enc : TypeId × Value → H} {base : Nat} {held : Bool} {d : Kd α} {WF : List α → Prop} {a : Option Addr} {n c : Nat} {D : DataW H} {p : List MemPlace} (h : Opens P w t (Kd.slice e d) WF)
    (hT : DataW.Trod enc P w base (fun _ => true) held t (.slice a n c) D p) : ∃ xs, n = xs.length ∧ xs.length ≤ c ∧ Kd.C d w a xs.length xs ∧ WF xs := by
  obtain ⟨fuel, hf⟩ := hT
  obtain ⟨xs, ⟨A, c', he, hl, hC⟩, hW⟩ := h hf
  have he2 : Value.slice a n c = .slice A xs.length c' := by
    have he3 : [Value.slice a n c] = [Value.slice A xs.length c'] := he
    exact (List.cons.inj he3).1
  injection he2 with e1 e2 e3
  subst e1
  subst e3
  exact ⟨xs, e2, hl, hC, hW⟩
theorem arg_agg {H : Type} {enc : TypeId × Value → H} {base : Nat} {held : Bool} {d : Kd α} {WF : α → Prop} {cs : Array Value} {D : DataW H} {p : List MemPlace} (h : Opens P w t d WF)
    (hT : DataW.Trod enc P w base (fun _ => true) held t (.agg cs) D p) : ∃ x, d.K w x cs.toList ∧ WF x := by
  obtain ⟨fuel, hf⟩ := hT
  exact h hf
end
end Go.Proofs.Ytpalloofjljhkaa.Opn
/-! WalkMacFrames -/
namespace Go.Proofs.Ytpalloofjljhkaa.P
open Go.RowKit Go.Proofs.YtpalloofjljhkaaW.PrintWords Go.Proofs.YtpalloofjljhkaaW.PrintLast Go.Proofs.YtpalloofjljhkaaW.PrintMore
def antiphonlaw3_MacFrames.Pure : Prop := ∀ (a0_0 : Int) (a0_1 : Int) (a0_2 : Int) (a0_3 : Int) (a0_4 : Int) (a0_5 : Int) (a0_6 : Int) (a0_7 : Int) (a0_8 : Int) (a0_9 : Int) (a0_10 : Int) (a0_11 : Int) (l0_12 : List Int) (l1 : List Int), (Lit.int .u8 a0_0).wf = true → (Lit.int .u8 a0_1).wf = true → (Lit.int .u8 a0_2).wf = true → (Lit.int .u8 a0_3).wf = true → (Lit.int .u8 a0_4).wf = true → (Lit.int .u8 a0_5).wf = true → (Lit.int .u8 a0_6).wf = true → (Lit.int .u8 a0_7).wf = true → (Lit.int .u8 a0_8).wf = true → (Lit.int .u8 a0_9).wf = true → (Lit.int .u8 a0_10).wf = true → (Lit.int .u8 a0_11).wf = true → l0_12.length ≤ 9223372036854775807 → (∀ yl0_12 ∈ l0_12, (Lit.int .u8 yl0_12).wf = true) → l1.length ≤ 9223372036854775807 → (∀ yl1 ∈ l1, (Lit.int .u8 yl1).wf = true) → antiphonlaw3_MacFrames.f a0_0 a0_1 a0_2 a0_3 a0_4 a0_5 a0_6 a0_7 a0_8 a0_9 a0_10 a0_11 l0_12 l1 = some true
end Go.Proofs.Ytpalloofjljhkaa.P
/-! PureMacFrames -/
namespace Go.Proofs.Ytpalloofjljhkaa.Pure
open Go.RowKit Go.Proofs.Ytpalloofjljhkaa Go.Proofs.Ytpalloofjljhkaa.P Go.Proofs.YtpalloofjljhkaaW.PrintWords Go.Proofs.YtpalloofjljhkaaW.PrintLast
theorem six_wf {a b c d e f : Int} (h0 : (Lit.int .u8 a).wf = true) (h1 : (Lit.int .u8 b).wf = true) (h2 : (Lit.int .u8 c).wf = true) (h3 : (Lit.int .u8 d).wf = true) (h4 : (Lit.int .u8 e).wf = true) (h5 : (Lit.int .u8 f).wf = true) : ∀ x ∈ [a, b, c, d, e, f], 0 ≤ x ∧ x < 256 := by
  intro x hx
  simp only [List.mem_cons, List.not_mem_nil, or_false] at hx
  rcases hx with rfl | rfl | rfl | rfl | rfl | rfl <;> exact Lib.u8_wf (by assumption)
theorem MacFrames : antiphonlaw3_MacFrames.Pure := by
  intro a0 a1 a2 a3 a4 a5 a6 a7 a8 a9 a10 a11 l0 l1 h0 h1 h2 h3 h4 h5 h6 h7 h8 h9 h10 h11 _ hw _ hw1
  unfold antiphonlaw3_MacFrames.f
  rw [if_pos ⟨six_wf h0 h1 h2 h3 h4 h5, six_wf h6 h7 h8 h9 h10 h11, fun c hc => Lib.u8_wf (hw c hc), fun c hc => Lib.u8_wf (hw1 c hc)⟩]
end Go.Proofs.Ytpalloofjljhkaa.Pure
/-! LawMacFrames -/
namespace Go.Proofs.Ytpalloofjljhkaa.macFrames
open Go.ChangeShapes Go.WideShapes Go.ChangeAt Go.RowKit
open Go.ChangeMaps (open_string shut_string)
open Go.Proofs.YtpalloofjljhkaaW.PrintWords (Kd)
open P
set_option linter.unusedVariables false
theorem own : ownKnob Try.prog.godebug = none := by kernel_rfl
theorem laidOut : laidOutB Try.prog = true := by kernel_rfl
set_option maxRecDepth 100000 in
theorem lifted (os : Os) (started : os.Started) (H : Type) (enc : TypeId × Value → H) :
    ReturnsInHanded {} Try.checked os 10 .any (Rows.macFramesSpec.pre6 enc Try.prog Try.f10 Rows.macFramesRow.domain false) (Rows.macFramesSpec.post enc Try.prog Try.f10 false true false false) := by
  refine returnsInHanded_of_change_sized (C := Try.checked) own started (by kernel_rfl) Try.func10
    (ChangeSpec.witness6 (enc := enc) (C := Try.checked) false ⟨#[], #[.agg #[.int .u8 0, .int .u8 0, .int .u8 0, .int .u8 0, .int .u8 0, .int .u8 0, .int .u8 0, .int .u8 0, .int .u8 0, .int .u8 0, .int .u8 0, .int .u8 0, .slice none 0 0], .slice none 0 0], []⟩ 8 (by kernel_rfl) (by kernel_rfl) (by kernel_rfl) (by kernel_rfl)) ?_
  intro W base args ds gs before hval0 hW hcnd hsz0 _
  have hval : ∀ (j : Nat) t v, Try.f10.params[j]? = some t → args[j]? = some v → Value.okWide Try.prog W .any base t v := hval0
  have hW' := hW
  obtain ⟨p, q, hA0, hV, rfl, hfz, hnd⟩ := hW
  have hA : DataW.TrodAll enc Try.prog W 0 (fun _ => true) true Try.f10.params.toList args.toList ds p := hA0
  rw [Try.params10] at hA hval
  obtain ⟨v0, vs0, d0, ds0, p0, q0, hargs, rfl, rfl, h0, r0⟩ := trodAll_cons hA
  obtain ⟨v1, vs1, d1, ds1, p1, q1, rfl, rfl, rfl, h1, r1⟩ := trodAll_cons r0
  obtain ⟨rfl, rfl, rfl⟩ := trodAll_nil r1
  obtain rfl : args = #[v0, v1] := by cases args; simp_all
  obtain ⟨rfl, rfl⟩ := trodVars_none hV
  obtain ⟨cs0, rfl⟩ : ∃ cs, v0 = .agg cs := by have hv_ := (hval 0 45 v0 rfl rfl); unfold Value.okWide at hv_; rw [Try.underlying45] at hv_; obtain ⟨cs, hc_, _⟩ := hv_; exact ⟨cs, hc_⟩
  have k0 := h0
  have lt0 : ∀ x ∈ p0, x.block < W.heap.size := by obtain ⟨m, hm⟩ := k0; exact DataW.trod_lt m _ _ _ hm
  obtain ⟨⟨⟨a0_0, a0_1, a0_2, a0_3, a0_4, a0_5⟩, ⟨a0_6, a0_7, a0_8, a0_9, a0_10, a0_11⟩, l0_12⟩, ⟨_, _, he0, ⟨_, _, rfl, rfl, ⟨_, _, rfl, rfl, ⟨_, _, rfl, rfl, ⟨_, _, rfl, rfl, ⟨_, _, rfl, rfl, rfl⟩⟩⟩⟩⟩, ⟨_, _, rfl, ⟨_, _, rfl, rfl, ⟨_, _, rfl, rfl, ⟨_, _, rfl, rfl, ⟨_, _, rfl, rfl, ⟨_, _, rfl, rfl, rfl⟩⟩⟩⟩⟩, ⟨A0_12, c0_12, rfl, hc0_12, hr0_12⟩⟩⟩, ⟨⟨w0_0, w0_1, w0_2, w0_3, w0_4, w0_5⟩, ⟨w0_6, w0_7, w0_8, w0_9, w0_10, w0_11⟩, w0_12⟩⟩ := Opn.arg_agg (d := (Kd.pair (Kd.pair (Kd.int .u8) (Kd.pair (Kd.int .u8) (Kd.pair (Kd.int .u8) (Kd.pair (Kd.int .u8) (Kd.pair (Kd.int .u8) (Kd.int .u8)))))) (Kd.pair (Kd.pair (Kd.int .u8) (Kd.pair (Kd.int .u8) (Kd.pair (Kd.int .u8) (Kd.pair (Kd.int .u8) (Kd.pair (Kd.int .u8) (Kd.int .u8)))))) (Kd.slice 5 (Kd.int .u8))))) (Opn.opens_struct [43, 43, 22] Try.underlying45 (by kernel_rfl) (Opn.opensL_cons (Opn.opens_array Try.underlying43 (by kernel_rfl) (Opn.opensL_cons (Opn.opens_int Try.underlying5) (Opn.opensL_cons (Opn.opens_int Try.underlying5) (Opn.opensL_cons (Opn.opens_int Try.underlying5) (Opn.opensL_cons (Opn.opens_int Try.underlying5) (Opn.opensL_cons (Opn.opens_int Try.underlying5) (Opn.opensL_one (Opn.opens_int Try.underlying5)))))))) (Opn.opensL_cons (Opn.opens_array Try.underlying43 (by kernel_rfl) (Opn.opensL_cons (Opn.opens_int Try.underlying5) (Opn.opensL_cons (Opn.opens_int Try.underlying5) (Opn.opensL_cons (Opn.opens_int Try.underlying5) (Opn.opensL_cons (Opn.opens_int Try.underlying5) (Opn.opensL_cons (Opn.opens_int Try.underlying5) (Opn.opensL_one (Opn.opens_int Try.underlying5)))))))) (Opn.opensL_one (Opn.opens_slice Try.underlying22 (by kernel_rfl) (Opn.opens_int Try.underlying5)))))) h0
  obtain rfl : cs0 = #[.int .u8 a0_0, .int .u8 a0_1, .int .u8 a0_2, .int .u8 a0_3, .int .u8 a0_4, .int .u8 a0_5, .int .u8 a0_6, .int .u8 a0_7, .int .u8 a0_8, .int .u8 a0_9, .int .u8 a0_10, .int .u8 a0_11, .slice A0_12 l0_12.length c0_12] := Array.ext' (he0.trans rfl)
  have hm0_12 : l0_12.length ≤ 9223372036854775807 := hr0_12.2.1
  obtain ⟨A1, n1, c1, rfl⟩ := okWide_slice Try.underlying22 (hval 1 22 v1 rfl rfl)
  have k1 := h1
  have lt1 : ∀ x ∈ p1, x.block < W.heap.size := by obtain ⟨m, hm⟩ := k1; exact DataW.trod_lt m _ _ _ hm
  obtain ⟨l1, rfl, hc1, hr1, hw1⟩ := Opn.arg_slice (d := (Kd.int .u8)) (Opn.opens_slice Try.underlying22 (by kernel_rfl) (Opn.opens_int Try.underlying5)) h1
  have hm1 : l1.length ≤ 9223372036854775807 := hr1.2.1
  clear hA0 hval0 hsz0 hval
  have h := Pure.MacFrames a0_0 a0_1 a0_2 a0_3 a0_4 a0_5 a0_6 a0_7 a0_8 a0_9 a0_10 a0_11 l0_12 l1 w0_0 w0_1 w0_2 w0_3 w0_4 w0_5 w0_6 w0_7 w0_8 w0_9 w0_10 w0_11 hm0_12 w0_12 hm1 hw1
  refine (P.antiphonlaw3_MacFrames.calls a0_0 a0_1 a0_2 a0_3 a0_4 a0_5 a0_6 a0_7 a0_8 a0_9 a0_10 a0_11 _ _ l0_12 _ _ l1 true W hr0_12 hc0_12 hr1 hc1 h).mono fun e W' ⟨he, bel⟩ => ?_
  subst he
  exact ⟨_, rfl, _, _, _, [], _, [], hW', trodAll_mk1 (shut_bool Try.underlying4 _), (trodAll_cons_mk (Below.trod laidOut (by kernel_rfl) (of_decide_eq_true (by kernel_rfl)) k0 bel lt0) (trodAll_cons_mk (Below.trod laidOut (by kernel_rfl) (of_decide_eq_true (by kernel_rfl)) k1 bel lt1) trodAll_mk0)), rfl, bel.frame _, fun h => by cases h⟩
theorem fact0 : (Rows.macFramesRow.wf (OpenSpec.ofChange Rows.macFramesSpec)) = true := by kernel_rfl
theorem fact1 : (laidOutB Try.prog) = true := Kit.laidOut
theorem fact2 : (mapsRowed Try.prog) = true := Kit.mapsRowed
theorem fact3 : (Try.f10.params.all (Try.prog.readableRec ·)) = true := by kernel_rfl
theorem fact4 : (namedTie Try.prog Rows.macFramesRow.named Rows.macFramesSpec.vars) = true := by kernel_rfl
theorem fact5 : ((Rows.macFramesRow.stops == [])) = true := by kernel_rfl
theorem fact6 : ((Try.prog.stops == [])) = true := Kit.stops
theorem fact7 : ((Rows.macFramesRow.knobs == [])) = true := by kernel_rfl
theorem fact8 : ((Try.prog.stopKnobs == [])) = true := Kit.stopKnobs
theorem fact9 : ((Rows.macFramesRow.inPlace == Try.prog.inPlace 10)) = true := by kernel_rfl
theorem fact10 : ((Rows.macFramesRow.unfollowed == Try.prog.unfollowed 10)) = true := by kernel_rfl
theorem fact11 : ((Rows.macFramesRow.recurses == Try.prog.recurses 10)) = true := by kernel_rfl
theorem fact12 : ((Rows.macFramesRow.named == Try.prog.varsNamed 10)) = true := by kernel_rfl
theorem fact13 : ((Rows.macFramesRow.maps == (Try.f10.params.toList ++ Rows.macFramesSpec.plain.varTypes Try.prog).any (Try.prog.mapsRec ·))) = true := by kernel_rfl
theorem fact14 : ((Rows.macFramesRow.ifaces == (Try.f10.params.toList ++ Rows.macFramesSpec.plain.varTypes Try.prog).any (Try.prog.ifacesRec ·))) = true := by kernel_rfl
theorem fact15 : ((Rows.macFramesRow.mapsOut == Try.prog.mapsAmong Try.f10.resultTypes.toList)) = true := by kernel_rfl
theorem fact16 : ((Rows.macFramesRow.loops == (Try.f10.params.toList ++ Rows.macFramesSpec.plain.varTypes Try.prog).any (Try.prog.loopsFrom ·))) = true := by kernel_rfl
theorem fact17 : ((Rows.macFramesRow.wideKeys == (Try.f10.params.toList ++ Rows.macFramesSpec.plain.varTypes Try.prog ++ Try.f10.resultTypes.toList).any (Try.prog.wideKeysFrom ·))) = true := by kernel_rfl
theorem fact18 : (Rows.macFramesSpec.vars.all (Try.prog.varReadable ·)) = true := by kernel_rfl
theorem fact19 : (Try.f10.resultTypes.all (fun t => Try.prog.readableRec t && decide (t < Try.prog.types.size))) = true := by kernel_rfl
theorem fact20 : ((Rows.macFramesRow.ifacesOut == Try.f10.resultTypes.toList.any (Try.prog.ifacesRec ·))) = true := by kernel_rfl
theorem fact21 : ((Rows.macFramesRow.loopsOut == Try.f10.resultTypes.toList.any (Try.prog.loopsFrom ·))) = true := by kernel_rfl
theorem fact22 : ((Rows.macFramesRow.plainKeys == Try.prog.plainKeys)) = true := (by rw [Kit.plainKeys]; rfl)
theorem fact23 : (Rows.macFramesRow.shortTexts.isNone) = true := by kernel_rfl
theorem fact24 : (Try.prog.stopsHeard) = true := Kit.stopsHeard
theorem fact25 : (Try.prog.mayEnter) = true := Kit.mayEnter
theorem fact26 : ((Rows.macFramesRow.lifted == Try.prog.liftsFinal)) = true := (by rw [Kit.liftsFinal]; rfl)
theorem fact27 : ((Try.prog.make == some Rows.macFramesRow.make)) = true := (by rw [Kit.make]; rfl)
theorem fact28 : ((Rows.macFramesRow.kinds == (if Rows.macFramesRow.domain.isEmpty then [] else Try.f10.params.toList.map fun t => match Try.prog.underlying t with | some (.int k) => some k | _ => none))) = true := by kernel_rfl
theorem fact29 : ((Rows.macFramesRow.pinned == Rows.macFramesRow.pinnedBy)) = true := by kernel_rfl
theorem fact30 : ((Rows.macFramesRow.veiled == (Try.f10.params.toList ++ Rows.macFramesSpec.plain.varTypes Try.prog ++ Try.f10.resultTypes.toList).any (Try.prog.veiledRec ·))) = true := by kernel_rfl
theorem fact31 : (Rows.macFramesRow.veiledFits Try.prog Try.f10.params.toList (Try.f10.params.toList ++ Rows.macFramesSpec.plain.varTypes Try.prog ++ Try.f10.resultTypes.toList)) = true := by kernel_rfl
set_option maxRecDepth 100000 in
theorem closed : joinedFacts Try.prog 10 Try.f10 Rows.macFramesSpec Rows.macFramesRow = true := by
  unfold joinedFacts
  exact (Kit.and2 (Kit.and2 (Kit.and2 (Kit.and2 (Kit.and2 (Kit.and2 (Kit.and2 (Kit.and2 (Kit.and2 (Kit.and2 (Kit.and2 (Kit.and2 (Kit.and2 (Kit.and2 (Kit.and2 (Kit.and2 (Kit.and2 (Kit.and2 (Kit.and2 (Kit.and2 (Kit.and2 (Kit.and2 (Kit.and2 (Kit.and2 (Kit.and2 (Kit.and2 (Kit.and2 (Kit.and2 (Kit.and2 (Kit.and2 (Kit.and2 fact0 fact1) fact2) fact3) fact4) fact5) fact6) fact7) fact8) fact9) fact10) fact11) fact12) fact13) fact14) fact15) fact16) fact17) fact18) fact19) fact20) fact21) fact22) fact23) fact24) fact25) fact26) fact27) fact28) fact29) fact30) fact31)
theorem named : Try.prog.funcNamed Rows.macFramesRow.func = some 10 := by kernel_rfl
theorem inst : Try.f10.isInstance Try.prog Rows.macFramesRow.origin Rows.macFramesRow.targs := of_decide_eq_true (by kernel_rfl)
theorem wrap_ : Try.f10.isWrapper Try.prog Rows.macFramesRow.wrapper Rows.macFramesRow.mainSum := by unfold Func.isWrapper; first | (rw [if_pos (by decide +kernel)]; kernel_rfl) | (rw [if_neg (by decide +kernel)]; exact ⟨rfl, rfl⟩)
theorem over : Rows.macFramesRow.holds Try.pinned (OpenSpec.ofChange Rows.macFramesSpec) :=
  OpenClaim.holds_of_wide 10 Try.f10 rfl rfl rfl rfl rfl rfl rfl ⟨rfl, rfl, rfl, rfl, rfl⟩ rfl rfl rfl rfl rfl named Try.func10 closed
    inst wrap_
    (fun os started H enc _ => lifted os started H enc)
theorem proved : Rows.MacFramesSaid := over
#print axioms proved
end Go.Proofs.Ytpalloofjljhkaa.macFrames
namespace Go.Proofs.Ytpalloofjljhkaa
theorem macFrames_holds : Rows.MacFramesSaid := macFrames.proved
end Go.Proofs.Ytpalloofjljhkaa
