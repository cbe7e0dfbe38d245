/- A frame that went out is read as_ it is; with one bit turned its sum is not right. -/
-- Put together by wip/print2/mergelaw.py: printed words (what this claim does not use is left out), printed functions, texts of this session.
import Derived.Test.YtpalloofjljhkaaMMacBack2
/-! REnc -/
namespace Go.Proofs.Ytpalloofjljhkaa.P
open Go.RowKit Go.Proofs.Ytpalloofjljhkaa.Lib Go.Proofs.YtpalloofjljhkaaW.PrintWords Go.Proofs.YtpalloofjljhkaaW.PrintLast Go.Proofs.YtpalloofjljhkaaW.PrintMore
set_option linter.unusedVariables false
set_option linter.unusedSimpArgs false
attribute [local go_sem] max2_int min2_int max_two min_two max_three min_three max_four min_four   -- for this text's walks alone
theorem enc_byte {tt fr l : List Int} (h1 : byteRow tt) (h2 : byteRow fr) (h3 : byteRow l) : byteRow (encB tt fr l) := by
  intro c hc
  unfold encB at hc
  rcases List.mem_append.mp hc with hc | hc
  · rcases List.mem_append.mp hc with hc | hc
    · rcases List.mem_append.mp hc with hc | hc
      · rcases List.mem_append.mp hc with hc | hc
        · exact h1 c hc
        · exact h2 c hc
      · exact beN_bytes 2 _ c hc
    · exact h3 c hc
  · rw [List.eq_of_mem_replicate hc]; exact ⟨by decide, by decide⟩
theorem rgrp_f (x : Int) (a b c d e : Int) : antiphonref1_Group.f x a b c d e = some (isGrp x) := rfl
set_option maxHeartbeats 8000000 in
set_option maxRecDepth 100000 in
theorem ref_Encode.ok (t0 t1 t2 t3 t4 t5 f0 f1 f2 f3 f4 f5 : Int) (A0 : Option Addr) (c0 : Nat) (l0 : List Int) (w : World) (hr0 : Kd.C (Kd.int .u8) w A0 l0.length l0) (hc0 : l0.length ≤ c0) (hg : isGrp f0 = false) (hl : l0.length ≤ 1500) (hb : byteRow l0) (hbt : byteRow [t0, t1, t2, t3, t4, t5]) (hbf : byteRow [f0, f1, f2, f3, f4, f5]) :
    Calls Try.prog 33 #[.agg #[.int .u8 t0, .int .u8 t1, .int .u8 t2, .int .u8 t3, .int .u8 t4, .int .u8 t5, .int .u8 f0, .int .u8 f1, .int .u8 f2, .int .u8 f3, .int .u8 f4, .int .u8 f5, .slice A0 l0.length c0]] w fun e w' => ∃ v, e = .returned (.tuple #[v, .int .i64 0]) ∧ Kd.R (Kd.int .u8) 5 w' w.heap.size (fun _ => True) v (sealI (encB [t0, t1, t2, t3, t4, t5] [f0, f1, f2, f3, f4, f5] l0)) ∧ Below w.heap.size w w' := by
  have d1 : decide ((1500 : Int) < (l0.length : Int)) = false := decide_eq_false (by omega)
  have HC := Aside0.mk hc0
  have HL := Aside0.mk hl
  have HCP := Aside0.mk (copy_any (a := [t0, t1, t2, t3, t4, t5]) (show 6 ≤ 140737488355328 by decide))
  have HPU := Aside0.mk (show antiphonref1_Put.f 10 (l0.length : Int) 2 = some (beN 2 (l0.length : Int)) by
    have h := put_ref (l0.length : Int) 2 0
    rw [h]
    unfold putL
    rw [if_pos ⟨by decide, by decide, by omega, by show (l0.length : Int) < 2 ^ 16; omega⟩]
    rfl)
  have HBE := Aside0.mk (beN_length 2 (l0.length : Int))
  have HBYT := Aside0.mk (enc_byte hbt hbf hb)
  have HLEN := Aside0.mk (show (encB [t0, t1, t2, t3, t4, t5] [f0, f1, f2, f3, f4, f5] l0).length < 140737488355000 by
    unfold encB
    simp only [List.length_append, List.length_cons, List.length_nil, List.length_replicate, beN_length]
    omega)
  have HEN := Aside0.mk (show encB [t0, t1, t2, t3, t4, t5] [f0, f1, f2, f3, f4, f5] l0 = [t0, t1, t2, t3, t4, t5] ++ [f0, f1, f2, f3, f4, f5] ++ beN 2 (l0.length : Int) ++ l0 ++ List.replicate (46 - l0.length) 0 from rfl)
  generalize hbe : beN 2 (l0.length : Int) = be at HPU HBE HEN
  generalize encB [t0, t1, t2, t3, t4, t5] [f0, f1, f2, f3, f4, f5] l0 = G at HBYT HLEN HEN ⊢
  clear hc0 hb hbt hbf hbe
  have HR := Aside0.mk hr0
  have hm0 : l0.length ≤ 9223372036854775807 := hr0.2.1
  clear hr0
  go_enter Try.func33, Try.ntmps33
  go_wp2_with fail
  have hb1 := blk_new w (.cells #[.int .u8 t0, .int .u8 t1, .int .u8 t2, .int .u8 t3, .int .u8 t4, .int .u8 t5, .int .u8 f0, .int .u8 f1, .int .u8 f2, .int .u8 f3, .int .u8 f4, .int .u8 f5, .slice A0 l0.length c0] 45 (0, 0))
  have hbw : Below w.heap.size w (w.alloc (.cells #[.int .u8 t0, .int .u8 t1, .int .u8 t2, .int .u8 t3, .int .u8 t4, .int .u8 t5, .int .u8 f0, .int .u8 f1, .int .u8 f2, .int .u8 f3, .int .u8 f4, .int .u8 f5, .slice A0 l0.length c0] 45 (0, 0))) := below_alloc (Below.refl _ _) _
  generalize w.alloc (.cells #[.int .u8 t0, .int .u8 t1, .int .u8 t2, .int .u8 t3, .int .u8 t4, .int .u8 t5, .int .u8 f0, .int .u8 f1, .int .u8 f2, .int .u8 f3, .int .u8 f4, .int .u8 f5, .slice A0 l0.length c0] 45 (0, 0)) = w1 at hb1 hbw ⊢
  have HB := Aside0.mk hbw
  have HF := Aside0.mk hb1
  clear hb1 hbw
  refine (antiphonref1_Group.calls f0 f1 f2 f3 f4 f5 _ _ (rgrp_f _ _ _ _ _ _)).mono ?_
  rintro e w2 ⟨rfl, hB⟩
  replace HF := Aside0.mk (blk_below HF.out hB)
  replace HB := Aside0.mk (below_step HB.out hB)
  have hk12 := (show w2.cell? ⟨w.heap.size, 12, none⟩ = some (.slice A0 l0.length c0) from (blk_cell HF.out 12).trans rfl)
  clear hB
  rw [hg]
  go_wp2_with fail
  refine start_ (n := 7) (S := fun w' => True) (ds := []) #[false, false, false, false, false, false, false] (by kernel_rfl) rfl rfl trivial (fun hHeld => ?_)
  refine pure_ (i := 0) (N := some 13) (v := ?_) (a' := ?_) #[true, false, false, false, false, false, false] rfl rfl (by kernel_rfl) (fun _ _ _ h => h) (Or.inl ⟨by rfl, ?_⟩) ?_ ?_
  rotate_left
  · intro w'
    go_simp
    with_reducible rfl
  rotate_left
  · simp only [Act.put, List.setIfInBounds_toArray, List.set_cons_zero, List.set_cons_succ, i64_w, i32_w]
    rfl
  refine pure_ (i := 1) (N := some 14) (v := ?_) (a' := ?_) #[true, true, false, false, false, false, false] rfl rfl (by kernel_rfl) (fun _ _ _ h => h) (Or.inl ⟨by rfl, ?_⟩) ?_ ?_
  rotate_left
  · intro w'
    go_simp
    with_reducible rfl
  rotate_left
  · simp only [Act.put, List.setIfInBounds_toArray, List.set_cons_zero, List.set_cons_succ, i64_w, i32_w]
    rfl
  refine pure_ (i := 3) (N := some 16) (v := ?_) (a' := ?_) #[true, true, false, true, false, false, false] rfl rfl (by kernel_rfl) (fun _ _ _ h => h) (Or.inl ⟨by rfl, ?_⟩) ?_ ?_
  rotate_left
  · intro w'
    go_simp
    with_reducible rfl
  rotate_left
  · simp only [Act.put, List.setIfInBounds_toArray, List.set_cons_zero, List.set_cons_succ, i64_w, i32_w]
    rfl
  refine pure_ (i := 4) (N := some 17) (v := ?_) (a' := ?_) #[true, true, false, true, true, false, false] rfl rfl (by kernel_rfl) (fun _ _ _ h => h) (Or.inl ⟨by rfl, ?_⟩) ?_ ?_
  rotate_left
  · intro w'
    go_simp
    with_reducible rfl
  rotate_left
  · simp only [Act.put, List.setIfInBounds_toArray, List.set_cons_zero, List.set_cons_succ, i64_w, i32_w]
    rfl
  refine one_ (i := 2) (N := some 15) #[true, true, true, true, true, false, false] rfl rfl (by kernel_rfl) (by decide) (fun K hK => ?_)
  replace HF := Aside0.mk (show w2.drew.heap[w.heap.size]? = some (.cells #[.int .u8 t0, .int .u8 t1, .int .u8 t2, .int .u8 t3, .int .u8 t4, .int .u8 t5, .int .u8 f0, .int .u8 f1, .int .u8 f2, .int .u8 f3, .int .u8 f4, .int .u8 f5, .slice A0 l0.length c0] 45 (0, 0)) from HF.out)
  replace HB := Aside0.mk (below_drew1 HB.out)
  refine goes_ Try.func22 (by kernel_rfl) rfl #[.slice (some ⟨w.heap.size, 0, none⟩) 6 6] (by rfl) rfl rfl (by simp only [List.map_toArray, List.map_cons, List.map_nil]; rfl) ?_
  refine (antiphonref1_Copy.calls _ _ 6 [t0, t1, t2, t3, t4, t5] [t0, t1, t2, t3, t4, t5] w2.drew (part_C (off := 0) (xs := [t0, t1, t2, t3, t4, t5]) HF.out rfl (show 6 ≤ 9223372036854775807 by decide) (six rfl rfl rfl rfl rfl rfl)) (show 6 ≤ 6 from Nat.le_refl _) HCP.out).mono ?_
  rintro e w3 ⟨v3, rfl, hR, hB⟩
  refine ⟨_, rfl, ?_⟩
  have HX := Aside0.mk (Kd.R_lower hR HB.out.size)
  replace HF := Aside0.mk (blk_below HF.out hB)
  replace HB := Aside0.mk (below_step HB.out hB)
  clear hR hB
  refine hK.out _ _ trivial (fun hHeld => ?_)
  clear hK K
  refine norm_ (a' := ?_) ?_ ?_
  rotate_left
  · show Act.put _ (some 15) _ = _
    simp only [Act.put, List.setIfInBounds_toArray, List.set_cons_zero, List.set_cons_succ, i64_w, i32_w]
    rfl
  refine one_ (i := 5) (N := some 18) #[true, true, true, true, true, true, false] rfl rfl (by kernel_rfl) (by decide) (fun K hK => ?_)
  refine Kd.R_append_rows_step (Kd.int .u8) (w0 := w) w.heap.size (by rfl) (.tmp 15) (.tmp 17) 22 5 (.int .u8 0) 1 rfl Try.underlying22 info5 rfl (by decide) (by omega) v3 [t0, t1, t2, t3, t4, t5] [f0, f1, f2, f3, f4, f5] (some ⟨w.heap.size, 6, none⟩) 6 6 (fun _ => True) (fun _ => False) rfl rfl HX.out (part_C (off := 6) (xs := [f0, f1, f2, f3, f4, f5]) HF.out rfl (show 6 ≤ 9223372036854775807 by decide) (six rfl rfl rfl rfl rfl rfl)) (fun _ _ h => h) (fun _ h => h.elim) (fun _ _ => trivial) HB.out HB.out.size (by simp) ?_
  intro v4 w4 ho hb hg hat
  replace HF := Aside0.mk ((hg.block _ (blk_lt HF.out) (Kd.R_ne HX.out HF.out (by decide))).trans HF.out)
  replace HX := Aside0.mk ho
  replace HB := Aside0.mk hb
  clear ho hb hg hat
  refine hK.out _ _ trivial (fun hHeld => ?_)
  clear hK K
  refine norm_ (a' := ?_) ?_ ?_
  rotate_left
  · show Act.put _ (some 18) _ = _
    simp only [Act.put, List.setIfInBounds_toArray, List.set_cons_zero, List.set_cons_succ, i64_w, i32_w]
    rfl
  refine pure_ (i := 6) (N := some 4) (v := ?_) (a' := ?_) #[true, true, true, true, true, true, true] rfl rfl (by kernel_rfl) (fun _ _ _ h => h) (Or.inl ⟨by rfl, ?_⟩) ?_ ?_
  rotate_left
  · intro w'
    go_simp
    with_reducible rfl
  rotate_left
  · simp only [Act.put, List.setIfInBounds_toArray, List.set_cons_zero, List.set_cons_succ, i64_w, i32_w]
    rfl
  refine done_ (by kernel_rfl) ?_
  have hk12 := (show w4.cell? ⟨w.heap.size, 12, none⟩ = some (.slice A0 l0.length c0) from (blk_cell HF.out 12).trans rfl)
  go_wp2_with fail
  refine (antiphonref1_Put.calls 10 _ _ _ _ HPU.out).mono ?_
  rintro e w5 ⟨v5, rfl, hR5, hB⟩
  obtain ⟨A5, c5, rfl, hc5, hC5⟩ := Kd.R_reads hR5
  have HC5 := Aside0.mk hC5
  replace HF := Aside0.mk (blk_below HF.out hB)
  replace HX := Aside0.mk (Kd.R_below HX.out hB)
  replace HB := Aside0.mk (below_step HB.out hB)
  have hk12 := (show w5.cell? ⟨w.heap.size, 12, none⟩ = some (.slice A0 l0.length c0) from (blk_cell HF.out 12).trans rfl)
  clear hB hR5 hC5 hc5
  go_wp2_with (first
    | (at_builtin; refine Kd.R_append_rows (Kd.int .u8) (w0 := w) w.heap.size rfl (.tmp 19) (.tmp 23) 22 5 (.int .u8 0) 1 rfl Try.underlying22 info5 rfl (by decide) (by omega) v4 ([t0, t1, t2, t3, t4, t5] ++ [f0, f1, f2, f3, f4, f5]) be A5 be.length c5 (fun _ => True) (fun _ => False) rfl rfl HX.out HC5.out (fun _ _ h => h) (fun _ h => h.elim) (fun _ _ => trivial) HB.out HB.out.size (by have := HBE.out; have := HL.out; simp only [List.length_append, List.length_cons, List.length_nil]; omega) ?_; intro v6 w6 ho hb hg hat; replace HF := Aside0.mk ((hg.block _ (blk_lt HF.out) (Kd.R_ne HX.out HF.out (by decide))).trans HF.out); have hk12 := (show w6.cell? ⟨w.heap.size, 12, none⟩ = some (.slice A0 l0.length c0) from (blk_cell HF.out 12).trans rfl); replace HX := Aside0.mk ho; replace HB := Aside0.mk hb; clear ho hb hg hat)
    | (at_builtin; refine Kd.R_append_rows (Kd.int .u8) (w0 := w) w.heap.size rfl (.tmp 25) (.tmp 27) 22 5 (.int .u8 0) 1 rfl Try.underlying22 info5 rfl (by decide) (by omega) v6 ([t0, t1, t2, t3, t4, t5] ++ [f0, f1, f2, f3, f4, f5] ++ be) l0 A0 l0.length c0 (fun _ => True) (fun _ => False) rfl rfl HX.out (Kd.C_below HR.out HB.out) (fun _ _ h => h) (fun _ h => h.elim) (fun _ _ => trivial) HB.out HB.out.size (by have := HBE.out; have := HL.out; simp only [List.length_append, List.length_cons, List.length_nil]; omega) ?_; intro v7 w7 ho hb hg hat; replace HF := Aside0.mk ((hg.block _ (blk_lt HF.out) (Kd.R_ne HX.out HF.out (by decide))).trans HF.out); have hk12 := (show w7.cell? ⟨w.heap.size, 12, none⟩ = some (.slice A0 l0.length c0) from (blk_cell HF.out 12).trans rfl); replace HX := Aside0.mk ho; replace HB := Aside0.mk hb; clear ho hb hg hat))
  have HXL := Aside0.mk (show ([t0, t1, t2, t3, t4, t5] ++ [f0, f1, f2, f3, f4, f5] ++ be ++ l0).length ≤ 2000 by have := HBE.out; have := HL.out; simp only [List.length_append, List.length_cons, List.length_nil]; omega)
  generalize [t0, t1, t2, t3, t4, t5] ++ [f0, f1, f2, f3, f4, f5] ++ be ++ l0 = X at HX HXL HEN
  go_loopw [5, 4] (fun v5 v4 wr => ∃ j : Nat, j ≤ 46 - l0.length ∧ v5 = .int .i64 ((l0.length + j : Nat) : Int) ∧ Aside0 (Kd.R (Kd.int .u8) 5 wr w.heap.size (fun _ => True) v4 (X ++ List.replicate j 0)) ∧ Aside0 (Below w.heap.size w wr)) (fun v5 _ _ => 46 - (intOf v5).toNat)
  case atStart => exact ⟨0, Nat.zero_le _, by simp, ⟨by rw [List.replicate_zero, List.append_nil]; exact HX.out⟩, HB⟩
  case round =>
    obtain ⟨j, hj, rfl, HO, HB9⟩ := hrel
    by_cases hlt : l0.length + j < 46
    · have d2 : decide (((l0.length + j : Nat) : Int) < 46) = true := decide_eq_true (by omega)
      have e2 : X ++ List.replicate j 0 ++ [0] = X ++ List.replicate (j + 1) 0 := by rw [List.append_assoc, ← List.replicate_succ']
      have HE2 := Aside0.mk e2
      clear e2
      have hq1 : j + 1 ≤ 46 - l0.length := by omega
      have HQJ := Aside0.mk (show ((l0.length + (j + 1) : Nat) : Int) = ((l0.length + j : Nat) : Int) + 1 by omega)
      have HJL := Aside0.mk hj
      generalize hjj : l0.length + j = q at d2 HQJ ⊢
      have hq46 : q < 46 := by omega
      clear hjj
      go_wp2_with (at_builtin; refine Kd.R_append_rows (Kd.int .u8) (w0 := w) w.heap.size rfl (.tmp 36) (.tmp 37) 22 5 (.int .u8 0) 1 rfl Try.underlying22 info5 rfl (by decide) (by omega) _ (X ++ List.replicate j 0) [0] (some ⟨World.heap _ |>.size, 0, none⟩) 1 1 (fun _ => True) (fun _ => False) rfl rfl (Kd.R_alloc HO.out _) (lit_C (xs := [0]) (blk_new _ _) rfl (by decide)) (fun _ _ h => h) (fun _ h => h.elim) (fun _ _ => trivial) (below_alloc HB9.out _) (below_alloc HB9.out _).size (by have := HXL.out; have := HJL.out; simp only [List.length_append, List.length_replicate, List.length_cons, List.length_nil]; omega) ?_; intro v9 w9 ho hb hg hat; rw [HE2.out] at ho; replace HO := Aside0.mk ho; replace HB9 := Aside0.mk hb; clear ho hb hg hat)
      go_round
      case rel => exact ⟨j + 1, hq1, by rw [HQJ.out], HO, HB9⟩
      case measure => simp [intOf]; omega
    · obtain rfl : j = 46 - l0.length := by omega
      have d2 : decide (((l0.length + (46 - l0.length) : Nat) : Int) < 46) = false := decide_eq_false (by omega)
      rw [← HEN.out] at HO
      obtain ⟨A8, c8, hv8, hc8, hC8⟩ := Kd.R_reads HO.out
      subst hv8
      have HC8 := Aside0.mk hC8
      have Hc8 := Aside0.mk hc8
      clear hC8 hc8
      generalize hjj : l0.length + (46 - l0.length) = q at d2 ⊢
      clear hjj
      go_wp2_with fail
      refine (ref_Seal.calls A8 c8 G _ HC8.out Hc8.out HBYT.out HLEN.out).mono ?_
      rintro e w9 ⟨v9, rfl, hR9, hB⟩
      have HR9 := Aside0.mk (Kd.R_lower hR9 HB9.out.size)
      replace HB9 := Aside0.mk (below_step HB9.out hB)
      clear hB hR9
      go_wp2_with fail
      go_ret2
      exact ⟨_, rfl, HR9.out, HB9.out⟩
end Go.Proofs.Ytpalloofjljhkaa.P
/-! Px12 -/
namespace Go.Proofs.Ytpalloofjljhkaa.P
open Go.RowKit Go.Proofs.Ytpalloofjljhkaa.Lib Go.Proofs.YtpalloofjljhkaaW.PrintWords Go.Proofs.YtpalloofjljhkaaW.PrintLast Go.Proofs.YtpalloofjljhkaaW.PrintMore
set_option linter.unusedVariables false
set_option linter.unusedSimpArgs false
def isFrame (B : List Int) (a0 a1 a2 a3 a4 a5 a6 a7 a8 a9 a10 a11 : Int) (L : List Int) : Prop := decE B = 0 ∧ decD B = L ∧ decH B 0 = a0 ∧ decH B 1 = a1 ∧ decH B 2 = a2 ∧ decH B 3 = a3 ∧ decH B 4 = a4 ∧ decH B 5 = a5 ∧ decH B 6 = a6 ∧ decH B 7 = a7 ∧ decH B 8 = a8 ∧ decH B 9 = a9 ∧ decH B 10 = a10 ∧ decH B 11 = a11
theorem isFrame_enc {a0 a1 a2 a3 a4 a5 a6 a7 a8 a9 a10 a11 : Int} {l : List Int} (hg : isGrp a6 = false) (hl : l.length ≤ 1500) : isFrame (sealI (encB [a0, a1, a2, a3, a4, a5] [a6, a7, a8, a9, a10, a11] l)) a0 a1 a2 a3 a4 a5 a6 a7 a8 a9 a10 a11 l :=
  ⟨decE_enc hg hl, decD_enc hg hl, decH_enc hg hl 0, decH_enc hg hl 1, decH_enc hg hl 2, decH_enc hg hl 3, decH_enc hg hl 4, decH_enc hg hl 5, decH_enc hg hl 6, decH_enc hg hl 7, decH_enc hg hl 8, decH_enc hg hl 9, decH_enc hg hl 10, decH_enc hg hl 11⟩
theorem mac_Decode.known (A0 : Option Addr) (c0 : Nat) (l0 : List Int) (a0 a1 a2 a3 a4 a5 a6 a7 a8 a9 a10 a11 : Int) (L : List Int) (hf : isFrame l0 a0 a1 a2 a3 a4 a5 a6 a7 a8 a9 a10 a11 L) (w : World) (hr0 : Kd.C (Kd.int .u8) w A0 l0.length l0) (hc0 : l0.length ≤ c0) (hb : byteRow l0) (hmx : l0.length < 140737488355000) :
    Calls Try.prog 34 #[tabV true, .slice A0 l0.length c0] w fun e w' => ∃ A c, e = .returned (.tuple #[.agg #[.int .u8 a0, .int .u8 a1, .int .u8 a2, .int .u8 a3, .int .u8 a4, .int .u8 a5, .int .u8 a6, .int .u8 a7, .int .u8 a8, .int .u8 a9, .int .u8 a10, .int .u8 a11, .slice A L.length c], .int .i64 0]) ∧ L.length ≤ c ∧ Kd.C (Kd.int .u8) w' A L.length L ∧ Below w.heap.size w w' := by
  obtain ⟨hE, hD, e0, e1, e2, e3, e4, e5, e6, e7, e8, e9, e10, e11⟩ := hf
  have h := mac_Decode.calls A0 c0 l0 w hr0 hc0 hb hmx
  unfold frame at h
  rw [hE, hD, e0, e1, e2, e3, e4, e5, e6, e7, e8, e9, e10, e11] at h
  exact h
theorem frame_one (h : Nat → Int) (A : Option Addr) (n c : Nat) : (frame h A n c).all (·.oneCell') = true := by
  unfold frame
  simp [Value.oneCell']
theorem sameFrame_any {a0 a1 a2 a3 a4 a5 a6 a7 a8 a9 a10 a11 : Int} {l : List Int} (h : l.length < 9223372036854775807) : antiphonref1_SameFrame.f (l.length + 1) a0 a1 a2 a3 a4 a5 a6 a7 a8 a9 a10 a11 l a0 a1 a2 a3 a4 a5 a6 a7 a8 a9 a10 a11 l = some true := by
  unfold antiphonref1_SameFrame.f
  rw [if_pos (by simp), if_pos (by simp), same_any h, decide_eq_true rfl]
  rfl
attribute [local go_sem] max2_int min2_int max_two min_two max_three min_three max_four min_four   -- for this text's walks alone
def antiphonlaw3_MacBack.f (a0_0 : Int) (a0_1 : Int) (a0_2 : Int) (a0_3 : Int) (a0_4 : Int) (a0_5 : Int) (a0_6 : Int) (a0_7 : Int) (a0_8 : Int) (a0_9 : Int) (a0_10 : Int) (a0_11 : Int) (l0_12 : List Int) (a1 : Int) : Option Bool := if (∀ c ∈ [a0_0, a0_1, a0_2, a0_3, a0_4, a0_5], 0 ≤ c ∧ c < 256) ∧ (∀ c ∈ [a0_6, a0_7, a0_8, a0_9, a0_10, a0_11], 0 ≤ c ∧ c < 256) ∧ (∀ c ∈ l0_12, 0 ≤ c ∧ c < 256) then some true else none
set_option maxHeartbeats 8000000 in
set_option maxRecDepth 100000 in
theorem antiphonlaw3_MacBack.calls (a0_0 : Int) (a0_1 : Int) (a0_2 : Int) (a0_3 : Int) (a0_4 : Int) (a0_5 : Int) (a0_6 : Int) (a0_7 : Int) (a0_8 : Int) (a0_9 : Int) (a0_10 : Int) (a0_11 : Int) (A0_12 : Option Addr) (c0_12 : Nat) (l0_12 : List Int) (a1 : Int) (r : Bool) (w : World) (hr0_12 : Kd.C (Kd.int .u8) w A0_12 l0_12.length l0_12) (hc0_12 : l0_12.length ≤ c0_12) (h : antiphonlaw3_MacBack.f a0_0 a0_1 a0_2 a0_3 a0_4 a0_5 a0_6 a0_7 a0_8 a0_9 a0_10 a0_11 l0_12 a1 = some r) :
    Calls Try.prog 11 #[.agg #[.int .u8 a0_0, .int .u8 a0_1, .int .u8 a0_2, .int .u8 a0_3, .int .u8 a0_4, .int .u8 a0_5, .int .u8 a0_6, .int .u8 a0_7, .int .u8 a0_8, .int .u8 a0_9, .int .u8 a0_10, .int .u8 a0_11, .slice A0_12 l0_12.length c0_12], .int .i64 a1] w fun e w' => e = .returned (.bool r) ∧ Below w.heap.size w w' := by
  unfold antiphonlaw3_MacBack.f at h
  split at h
  case isFalse => exact absurd h (by simp)
  case isTrue hcd =>
  obtain ⟨hbt, hbf, hbd⟩ := hcd
  obtain rfl := Option.some.inj h
  clear h
  have HBT := Aside0.mk (show byteRow [a0_0, a0_1, a0_2, a0_3, a0_4, a0_5] from hbt)
  have HBF := Aside0.mk (show byteRow [a0_6, a0_7, a0_8, a0_9, a0_10, a0_11] from hbf)
  have HBD := Aside0.mk (show byteRow l0_12 from hbd)
  have HR := Aside0.mk hr0_12
  have HC := Aside0.mk hc0_12
  have hm0 : l0_12.length ≤ 9223372036854775807 := hr0_12.2.1
  have hu45 := Try.underlying45
  have hu43 := Try.underlying43
  clear hbt hbf hbd hr0_12 hc0_12
  go_enter Try.func11, Try.ntmps11
  go_wp2_with fail
  have hb1 := blk_new w (.cells #[.int .u8 a0_0, .int .u8 a0_1, .int .u8 a0_2, .int .u8 a0_3, .int .u8 a0_4, .int .u8 a0_5, .int .u8 a0_6, .int .u8 a0_7, .int .u8 a0_8, .int .u8 a0_9, .int .u8 a0_10, .int .u8 a0_11, .slice A0_12 l0_12.length c0_12] 45 (0, 0))
  have hbw := below_alloc (Below.refl w.heap.size w) (.cells #[.int .u8 a0_0, .int .u8 a0_1, .int .u8 a0_2, .int .u8 a0_3, .int .u8 a0_4, .int .u8 a0_5, .int .u8 a0_6, .int .u8 a0_7, .int .u8 a0_8, .int .u8 a0_9, .int .u8 a0_10, .int .u8 a0_11, .slice A0_12 l0_12.length c0_12] 45 (0, 0))
  generalize w.alloc (.cells #[.int .u8 a0_0, .int .u8 a0_1, .int .u8 a0_2, .int .u8 a0_3, .int .u8 a0_4, .int .u8 a0_5, .int .u8 a0_6, .int .u8 a0_7, .int .u8 a0_8, .int .u8 a0_9, .int .u8 a0_10, .int .u8 a0_11, .slice A0_12 l0_12.length c0_12] 45 (0, 0)) = w0 at hb1 hbw ⊢
  obtain ⟨gf, hgf⟩ : ∃ gf, w.heap.size = gf := ⟨_, rfl⟩
  have HGF := Aside0.mk hgf
  rw [hgf] at hb1 ⊢
  have HB := Aside0.mk (show Below w.heap.size w w0 from hbw)
  have HF := Aside0.mk hb1
  clear hb1 hbw hgf
  refine (awake3_calls _).mono ?_
  rintro e wa ⟨rfl, hB⟩
  replace HF := Aside0.mk (blk_below HF.out hB)
  replace HB := Aside0.mk (below_step HB.out hB)
  clear hB
  have hk6 := (show wa.cell? ⟨gf, 6, none⟩ = some (.int .u8 a0_6) from (blk_cell HF.out 6).trans rfl)
  have hk7 := (show wa.cell? ⟨gf, 7, none⟩ = some (.int .u8 a0_7) from (blk_cell HF.out 7).trans rfl)
  have hk8 := (show wa.cell? ⟨gf, 8, none⟩ = some (.int .u8 a0_8) from (blk_cell HF.out 8).trans rfl)
  have hk9 := (show wa.cell? ⟨gf, 9, none⟩ = some (.int .u8 a0_9) from (blk_cell HF.out 9).trans rfl)
  have hk10 := (show wa.cell? ⟨gf, 10, none⟩ = some (.int .u8 a0_10) from (blk_cell HF.out 10).trans rfl)
  have hk11 := (show wa.cell? ⟨gf, 11, none⟩ = some (.int .u8 a0_11) from (blk_cell HF.out 11).trans rfl)
  have hk12 := (show wa.cell? ⟨gf, 12, none⟩ = some (.slice A0_12 l0_12.length c0_12) from (blk_cell HF.out 12).trans rfl)
  by_cases hl : l0_12.length ≤ 1500
  case neg =>
    have d1 : decide ((1500 : Int) < (l0_12.length : Int)) = true := decide_eq_true (by omega)
    clear hl
    go_wp2_with fail
    go_ret
    exact ⟨rfl, HB.out⟩
  have d1 : decide ((1500 : Int) < (l0_12.length : Int)) = false := decide_eq_false (by omega)
  have HL := Aside0.mk hl
  clear hl
  go_wp2_with fail
  refine (mac_Group.calls _ _ _ _ _ _ _ _ (grp_f _ _ _ _ _ _)).mono ?_
  rintro e wb ⟨rfl, hB⟩
  replace HF := Aside0.mk (blk_below HF.out hB)
  replace HB := Aside0.mk (below_step HB.out hB)
  clear hB hk6 hk7 hk8 hk9 hk10 hk11 hk12
  cases hg : isGrp a0_6 with
  | true =>
    clear hg
    go_wp2_with fail
    go_ret
    exact ⟨rfl, HB.out⟩
  | false =>
    go_wp2_with fail
    refine (crc_Make.calls _).mono ?_
    rintro e w1 ⟨rfl, hB⟩
    replace HF := Aside0.mk (blk_below HF.out hB)
    have hS := (show Below wb.heap.size wb w1 from below_step (by repeat (first | with_reducible exact Below.refl _ _ | with_reducible apply below_drew1 | with_reducible apply pw_below_drewN | with_reducible apply below_alloc)) hB)
    replace HB := Aside0.mk (below_step HB.out hS)
    clear hS hB
    go_wp2_with (first
      | (refine wpList_store_tab rfl (.tmp 5) (.tmp 23) rfl w1.heap.size rfl true rfl Try.zeroCells27 (blk_new w1 _) zsz27 ?_; intro w2 hI hG; have hS := (show Below w1.heap.size w1 w2 from (below_alloc (Below.refl _ _) _).grown hG (below_alloc (Below.refl _ _) _).size (fun k hk => by cases hk; exact Nat.le_refl _)); have HG := Aside0.mk (HB.out.size); replace HB := Aside0.mk (below_step HB.out hS); generalize w1.heap.size = g at hI HG ⊢; have HI := Aside0.mk hI; replace HF := Aside0.mk (blk_below HF.out hS); clear hI hG hS)
      | (refine wpList_load_row rfl 27 (.tmp 5) rfl g rfl 27 (tabRow true) (0, 0) _ HI.out Try.underlying27 rfl (tabInf true) ?_)
      | (refine wpList_load_row rfl 45 (.tmp 2) rfl gf rfl 45 #[.int .u8 a0_0, .int .u8 a0_1, .int .u8 a0_2, .int .u8 a0_3, .int .u8 a0_4, .int .u8 a0_5, .int .u8 a0_6, .int .u8 a0_7, .int .u8 a0_8, .int .u8 a0_9, .int .u8 a0_10, .int .u8 a0_11, .slice A0_12 l0_12.length c0_12] (0, 0) _ HF.out Try.underlying45 rfl info45_ ?_))
    have HGR := Aside0.mk hg
    clear hg
    have HD0 := Aside0.mk (decE_enc (t0 := a0_0) (t1 := a0_1) (t2 := a0_2) (t3 := a0_3) (t4 := a0_4) (t5 := a0_5) (f0 := a0_6) (f1 := a0_7) (f2 := a0_8) (f3 := a0_9) (f4 := a0_10) (f5 := a0_11) HGR.out HL.out)
    have HXY := Aside0.mk (sealI_byte (enc_byte HBT.out HBF.out HBD.out))
    have HXL := Aside0.mk (show (sealI (encB [a0_0, a0_1, a0_2, a0_3, a0_4, a0_5] [a0_6, a0_7, a0_8, a0_9, a0_10, a0_11] l0_12)).length = 18 + l0_12.length + (46 - l0_12.length) by rw [sealI_len, encB_len]; omega)
    refine (mac_Encode.ok a0_0 a0_1 a0_2 a0_3 a0_4 a0_5 a0_6 a0_7 a0_8 a0_9 a0_10 a0_11 A0_12 c0_12 l0_12 _ (Kd.C_below HR.out HB.out) HC.out HGR.out HL.out HBD.out HBT.out HBF.out).mono ?_
    rintro e w6 ⟨v6, rfl, hR, hB⟩
    have HFR := Aside0.mk (isFrame_enc (a0 := a0_0) (a1 := a0_1) (a2 := a0_2) (a3 := a0_3) (a4 := a0_4) (a5 := a0_5) (a6 := a0_6) (a7 := a0_7) (a8 := a0_8) (a9 := a0_9) (a10 := a0_10) (a11 := a0_11) HGR.out HL.out)
    obtain ⟨q, hq, hf⟩ := hit_any (sealI (encB [a0_0, a0_1, a0_2, a0_3, a0_4, a0_5] [a0_6, a0_7, a0_8, a0_9, a0_10, a0_11] l0_12)) a1 (by have := HXL.out; omega) (by have := HXL.out; have := HL.out; omega) HXY.out
    have hX := hit_no (enc_byte HBT.out HBF.out HBD.out) (by rw [encB_len]; omega) hq _ rfl
    generalize (sealI (encB [a0_0, a0_1, a0_2, a0_3, a0_4, a0_5] [a0_6, a0_7, a0_8, a0_9, a0_10, a0_11] l0_12)).set _ _ = X at hf hX
    have HIT := Aside0.mk hf
    have HXX := Aside0.mk hX
    clear hq hf hX
    generalize sealI (encB [a0_0, a0_1, a0_2, a0_3, a0_4, a0_5] [a0_6, a0_7, a0_8, a0_9, a0_10, a0_11] l0_12) = B at HD0 HXY HXL HFR HIT HXX hR
    obtain ⟨A6, c6, rfl, hc6, hC6⟩ := Kd.R_reads hR
    have HC6 := Aside0.mk hC6
    have Hc6 := Aside0.mk hc6
    have hm6 : B.length ≤ 9223372036854775807 := hC6.2.1
    replace HF := Aside0.mk (blk_below HF.out hB)
    replace HI := Aside0.mk (HI.out.below hB)
    replace HB := Aside0.mk (below_step HB.out hB)
    clear hB hR hC6 hc6
    go_wp2_with (first
      | (refine wpList_load_row rfl 27 (.tmp 5) rfl g rfl 27 (tabRow true) (0, 0) _ HI.out Try.underlying27 rfl (tabInf true) ?_))
    refine (mac_Decode.known A6 c6 B a0_0 a0_1 a0_2 a0_3 a0_4 a0_5 a0_6 a0_7 a0_8 a0_9 a0_10 a0_11 l0_12 HFR.out _ HC6.out Hc6.out HXY.out (by have := HXL.out; have := HL.out; omega)).mono ?_
    rintro e w7 ⟨A8, c8, rfl, hc8, hC8, hB⟩
    have HC8 := Aside0.mk hC8
    have Hc8 := Aside0.mk hc8
    replace HF := Aside0.mk (blk_below HF.out hB)
    replace HI := Aside0.mk (HI.out.below hB)
    replace HC6 := Aside0.mk (Kd.C_below HC6.out hB)
    replace HB := Aside0.mk (below_step HB.out hB)
    clear hB hC8 hc8
    go_upto_region 8 with fail
    have h1 := blk_new w7 (.cells #[.int .u8 a0_0, .int .u8 a0_1, .int .u8 a0_2, .int .u8 a0_3, .int .u8 a0_4, .int .u8 a0_5, .int .u8 a0_6, .int .u8 a0_7, .int .u8 a0_8, .int .u8 a0_9, .int .u8 a0_10, .int .u8 a0_11, .slice A8 l0_12.length c8] 45 (0, 0))
    have h2 := below_alloc (Below.refl w7.heap.size w7) (.cells #[.int .u8 a0_0, .int .u8 a0_1, .int .u8 a0_2, .int .u8 a0_3, .int .u8 a0_4, .int .u8 a0_5, .int .u8 a0_6, .int .u8 a0_7, .int .u8 a0_8, .int .u8 a0_9, .int .u8 a0_10, .int .u8 a0_11, .slice A8 l0_12.length c8] 45 (0, 0))
    generalize w7.alloc (.cells #[.int .u8 a0_0, .int .u8 a0_1, .int .u8 a0_2, .int .u8 a0_3, .int .u8 a0_4, .int .u8 a0_5, .int .u8 a0_6, .int .u8 a0_7, .int .u8 a0_8, .int .u8 a0_9, .int .u8 a0_10, .int .u8 a0_11, .slice A8 l0_12.length c8] 45) = w8 at h1 h2 ⊢
    obtain ⟨g8, hg8⟩ : ∃ g8, w7.heap.size = g8 := ⟨_, rfl⟩
    have HF8 := Aside0.mk h1
    replace HF := Aside0.mk (blk_below HF.out h2)
    replace HI := Aside0.mk (HI.out.below h2)
    replace HC6 := Aside0.mk (Kd.C_below HC6.out h2)
    replace HC8 := Aside0.mk (Kd.C_below HC8.out h2)
    replace HB := Aside0.mk (below_step HB.out h2)
    rw [hg8] at HF8 ⊢
    clear h1 h2 hg8
    have HSF := Aside0.mk (sameFrame_any (a0 := a0_0) (a1 := a0_1) (a2 := a0_2) (a3 := a0_3) (a4 := a0_4) (a5 := a0_5) (a6 := a0_6) (a7 := a0_7) (a8 := a0_8) (a9 := a0_9) (a10 := a0_10) (a11 := a0_11) (l := l0_12) (by have := HL.out; omega))
    have hk0 := (show w8.cell? ⟨gf, 0, none⟩ = some (.int .u8 a0_0) from (blk_cell HF.out 0).trans rfl)
    have hq0 := (show w8.cell? ⟨g8, 0, none⟩ = some (.int .u8 a0_0) from (blk_cell HF8.out 0).trans rfl)
    have hk1 := (show w8.cell? ⟨gf, 1, none⟩ = some (.int .u8 a0_1) from (blk_cell HF.out 1).trans rfl)
    have hq1 := (show w8.cell? ⟨g8, 1, none⟩ = some (.int .u8 a0_1) from (blk_cell HF8.out 1).trans rfl)
    have hk2 := (show w8.cell? ⟨gf, 2, none⟩ = some (.int .u8 a0_2) from (blk_cell HF.out 2).trans rfl)
    have hq2 := (show w8.cell? ⟨g8, 2, none⟩ = some (.int .u8 a0_2) from (blk_cell HF8.out 2).trans rfl)
    have hk3 := (show w8.cell? ⟨gf, 3, none⟩ = some (.int .u8 a0_3) from (blk_cell HF.out 3).trans rfl)
    have hq3 := (show w8.cell? ⟨g8, 3, none⟩ = some (.int .u8 a0_3) from (blk_cell HF8.out 3).trans rfl)
    have hk4 := (show w8.cell? ⟨gf, 4, none⟩ = some (.int .u8 a0_4) from (blk_cell HF.out 4).trans rfl)
    have hq4 := (show w8.cell? ⟨g8, 4, none⟩ = some (.int .u8 a0_4) from (blk_cell HF8.out 4).trans rfl)
    have hk5 := (show w8.cell? ⟨gf, 5, none⟩ = some (.int .u8 a0_5) from (blk_cell HF.out 5).trans rfl)
    have hq5 := (show w8.cell? ⟨g8, 5, none⟩ = some (.int .u8 a0_5) from (blk_cell HF8.out 5).trans rfl)
    have hk6 := (show w8.cell? ⟨gf, 6, none⟩ = some (.int .u8 a0_6) from (blk_cell HF.out 6).trans rfl)
    have hq6 := (show w8.cell? ⟨g8, 6, none⟩ = some (.int .u8 a0_6) from (blk_cell HF8.out 6).trans rfl)
    have hk7 := (show w8.cell? ⟨gf, 7, none⟩ = some (.int .u8 a0_7) from (blk_cell HF.out 7).trans rfl)
    have hq7 := (show w8.cell? ⟨g8, 7, none⟩ = some (.int .u8 a0_7) from (blk_cell HF8.out 7).trans rfl)
    have hk8 := (show w8.cell? ⟨gf, 8, none⟩ = some (.int .u8 a0_8) from (blk_cell HF.out 8).trans rfl)
    have hq8 := (show w8.cell? ⟨g8, 8, none⟩ = some (.int .u8 a0_8) from (blk_cell HF8.out 8).trans rfl)
    have hk9 := (show w8.cell? ⟨gf, 9, none⟩ = some (.int .u8 a0_9) from (blk_cell HF.out 9).trans rfl)
    have hq9 := (show w8.cell? ⟨g8, 9, none⟩ = some (.int .u8 a0_9) from (blk_cell HF8.out 9).trans rfl)
    have hk10 := (show w8.cell? ⟨gf, 10, none⟩ = some (.int .u8 a0_10) from (blk_cell HF.out 10).trans rfl)
    have hq10 := (show w8.cell? ⟨g8, 10, none⟩ = some (.int .u8 a0_10) from (blk_cell HF8.out 10).trans rfl)
    have hk11 := (show w8.cell? ⟨gf, 11, none⟩ = some (.int .u8 a0_11) from (blk_cell HF.out 11).trans rfl)
    have hq11 := (show w8.cell? ⟨g8, 11, none⟩ = some (.int .u8 a0_11) from (blk_cell HF8.out 11).trans rfl)
    have hk12' := (show w8.cell? ⟨gf, 12, none⟩ = some (.slice A0_12 l0_12.length c0_12) from (blk_cell HF.out 12).trans rfl)
    have hq12 := (show w8.cell? ⟨g8, 12, none⟩ = some (.slice A8 l0_12.length c8) from (blk_cell HF8.out 12).trans rfl)
    go_wp2_with fail
    refine (antiphonref1_SameFrame.calls (l0_12.length + 1) a0_0 a0_1 a0_2 a0_3 a0_4 a0_5 a0_6 a0_7 a0_8 a0_9 a0_10 a0_11 A0_12 c0_12 l0_12 a0_0 a0_1 a0_2 a0_3 a0_4 a0_5 a0_6 a0_7 a0_8 a0_9 a0_10 a0_11 A8 c8 l0_12 true _ (Kd.C_below HR.out HB.out) HC.out HC8.out Hc8.out HSF.out).mono ?_
    rintro e w9 ⟨rfl, hB⟩
    replace HF := Aside0.mk (blk_below HF.out hB)
    replace HI := Aside0.mk (HI.out.below hB)
    replace HC6 := Aside0.mk (Kd.C_below HC6.out hB)
    replace HB := Aside0.mk (below_step HB.out hB)
    have hk12 := (show w9.cell? ⟨gf, 12, none⟩ = some (.slice A0_12 l0_12.length c0_12) from (blk_cell HF.out 12).trans rfl)
    clear hB HF8 HC8 hk0 hq0 hk1 hq1 hk2 hq2 hk3 hq3 hk4 hq4 hk5 hq5 hk6 hq6 hk7 hq7 hk8 hq8 hk9 hq9 hk10 hq10 hk11 hq11 hk12' hq12
    obtain ⟨mx, hmx⟩ : ∃ mx : Int, (if (l0_12.length : Int) < 46 then 46 else (l0_12.length : Int)) = mx := ⟨_, rfl⟩
    have hmb : (B.length : Int) = 18 + mx := by have := HXL.out; rw [← hmx]; split <;> omega
    have hmy : 46 ≤ mx ∧ mx ≤ 1500 := by have := HL.out; rw [← hmx]; split <;> omega
    have b5 : ((B.length : Int) != wrap64 (18 + mx)) = false := by rw [hmb, show wrap64 (18 + mx) = 18 + mx by unfold wrap64; omega]; exact bne_self_eq_false _
    have b6 : ((B.length : Int) != 18 + mx) = false := by rw [hmb]; exact bne_self_eq_false _
    have HMX := Aside0.mk hmb
    have HMY := Aside0.mk hmy
    have hmx1 : 46 ≤ mx := hmy.1
    have hmx2 : mx ≤ 1500 := hmy.2
    clear hmb hmy
    go_wp2_with fail
    have HB6 := Aside0.mk (Below.refl w9.heap.size w9)
    have HI6 := HI
    clear hk12 HF
    refine start_ (n := 11) (S := fun w' => IsTab true w' g) (ds := []) #[false, false, false, false, false, false, false, false, false, false, false] (by kernel_rfl) rfl rfl (HI.out.drew1) (fun hHeld => ?_)
    refine pure_ (i := 1) (N := some 60) (v := ?_) (a' := ?_) #[false, true, false, false, false, false, false, false, false, false, false] rfl rfl (by kernel_rfl) (fun _ _ _ h => h) (Or.inl ⟨by rfl, ?_⟩) ?_ ?_
    rotate_left
    · intro w'
      go_simp
      with_reducible rfl
    rotate_left
    · simp only [Act.put, List.setIfInBounds_toArray, List.set_cons_zero, List.set_cons_succ, i64_w, i32_w]
      rfl
    refine pure_ (i := 2) (N := some 61) (v := ?_) (a' := ?_) #[false, true, true, false, false, false, false, false, false, false, false] rfl rfl (by kernel_rfl) (fun _ _ _ h => h) (Or.inl ⟨by rfl, ?_⟩) ?_ ?_
    rotate_left
    · intro w'
      go_simp
      with_reducible rfl
    rotate_left
    · simp only [Act.put, List.setIfInBounds_toArray, List.set_cons_zero, List.set_cons_succ, i64_w, i32_w]
      rfl
    refine take_ (i := 0) (N := some 59) (v := tabV true) #[true, true, true, false, false, false, false, false, false, false, false] rfl rfl (by kernel_rfl) (fun _ _ _ h => h) ?_ hHeld rfl ?_
    · exact yields_tab (by rfl) _ rfl _ rfl true (by intro w' s0; exact s0)
    refine norm_ (a' := ?_) ?_ ?_
    rotate_left
    · show Act.put _ (some 59) _ = _
      simp only [Act.put, List.setIfInBounds_toArray, List.set_cons_zero, List.set_cons_succ, i64_w, i32_w]
      rfl
    refine join_ (σ := Option Addr × Nat × Option Addr × Nat × Nat) 2 #[true, true, true, true, true, true, true, true, true, false, false] (fun s_ => [(62, .slice s_.1 X.length s_.2.1), (63, .tuple #[.agg (frame (decH X) s_.2.2.1 (decD X).length s_.2.2.2.1), .int .i64 (decE X)]), (10, .pointer (some ⟨s_.2.2.2.2, 0, none⟩)), (58, .tuple #[.agg (frame (decH X) s_.2.2.1 (decD X).length s_.2.2.2.1), .int .i64 (decE X)]), (64, .agg (frame (decH X) s_.2.2.1 (decD X).length s_.2.2.2.1)), (65, .int .i64 (decE X))]) (fun s_ w' => IsTab true w' g ∧ (Below w9.heap.size w9 w' ∧ w'.heap[s_.2.2.2.2]? = some (.cells #[.int .u8 0, .int .u8 0, .int .u8 0, .int .u8 0, .int .u8 0, .int .u8 0, .int .u8 0, .int .u8 0, .int .u8 0, .int .u8 0, .int .u8 0, .int .u8 0, .slice none 0 0] 45 (0, 0)) ∧ w9.heap.size ≤ s_.2.2.2.2)) ?_ ?_
    rotate_left
    · intro hCont
      refine two_ (i := 3) (j := 8) (Ni := some 62) (Nj := some 10) #[true, true, true, true, false, false, false, false, false, false, false] #[true, true, true, false, false, false, false, false, true, false, false] rfl rfl rfl rfl (by kernel_rfl) (by decide) (by decide) (fun K hK => ?_) (fun K hK => ?_)
      · skip
        replace HI := Aside0.mk HI.out.drew1
        replace HB6 := Aside0.mk (below_drew1 HB6.out)
        refine goes_ Try.func38 (by kernel_rfl) rfl #[.slice A6 B.length c6, .int .i64 a1] (by rfl) rfl rfl (by simp only [List.map_toArray, List.map_cons, List.map_nil]; rfl) ?_
        refine (antiphonlaw3_hit.calls _ A6 c6 B a1 X _ (Kd.C_below HC6.out HB6.out) Hc6.out HIT.out).mono ?_
        rintro e y_3 ⟨vx, rfl, hR, h2⟩
        refine ⟨_, rfl, ?_⟩
        obtain ⟨AX, cX, rfl, hcX, hCX⟩ := Kd.R_reads hR
        have HCX := Aside0.mk hCX
        have HcX := Aside0.mk hcX
        replace HI := Aside0.mk (HI.out.below h2)
        replace HB6 := Aside0.mk (below_step HB6.out h2)
        clear hR h2 hcX hCX
        refine hK.out _ _ (HI.out) (fun hHeld => ?_)
        clear hK K
        refine norm_ (a' := ?_) ?_ ?_
        rotate_left
        · show Act.put _ (some 62) _ = _
          simp only [Act.put, List.setIfInBounds_toArray, List.set_cons_zero, List.set_cons_succ, i64_w, i32_w]
          rfl
        refine two_ (i := 4) (j := 8) (Ni := some 63) (Nj := some 10) #[true, true, true, true, true, false, false, false, false, false, false] #[true, true, true, true, false, false, false, false, true, false, false] rfl rfl rfl rfl (by kernel_rfl) (by decide) (by decide) (fun K hK => ?_) (fun K hK => ?_)
        · skip
          refine goes_ Try.func34 (by kernel_rfl) rfl #[tabV true, .slice AX X.length cX] (by rfl) rfl rfl (by simp only [List.map_toArray, List.map_cons, List.map_nil]; rfl) ?_
          refine (mac_Decode.calls AX cX X _ HCX.out HcX.out HXX.out.2.1 (by have h := HXX.out.1; have := HXL.out; have := HL.out; omega)).mono ?_
          rintro e y_3_4 ⟨AD, cD, rfl, hcD, hCD, h2⟩
          refine ⟨_, rfl, ?_⟩
          replace HI := Aside0.mk (HI.out.below h2)
          replace HB6 := Aside0.mk (below_step HB6.out h2)
          clear hcD hCD h2
          refine hK.out _ _ (HI.out) (fun hHeld => ?_)
          clear hK K
          refine norm_ (a' := ?_) ?_ ?_
          rotate_left
          · show Act.put _ (some 63) _ = _
            simp only [Act.put, List.setIfInBounds_toArray, List.set_cons_zero, List.set_cons_succ, i64_w, i32_w]
            rfl
          refine pure_ (i := 5) (N := some 58) (v := ?_) (a' := ?_) #[true, true, true, true, true, true, false, false, false, false, false] rfl rfl (by kernel_rfl) (fun _ _ _ h => h) (Or.inl ⟨by rfl, ?_⟩) ?_ ?_
          rotate_left
          · intro w'
            go_simp
            with_reducible rfl
          rotate_left
          · simp only [Act.put, List.setIfInBounds_toArray, List.set_cons_zero, List.set_cons_succ, i64_w, i32_w]
            rfl
          refine pure_ (i := 6) (N := some 64) (v := ?_) (a' := ?_) #[true, true, true, true, true, true, true, false, false, false, false] rfl rfl (by kernel_rfl) (fun _ _ _ h => h) (Or.inl ⟨by rfl, ?_⟩) ?_ ?_
          rotate_left
          · intro w'
            go_simp
            with_reducible rfl
          rotate_left
          · simp only [Act.put, List.setIfInBounds_toArray, List.set_cons_zero, List.set_cons_succ, i64_w, i32_w]
            rfl
          refine pure_ (i := 7) (N := some 65) (v := ?_) (a' := ?_) #[true, true, true, true, true, true, true, true, false, false, false] rfl rfl (by kernel_rfl) (fun _ _ _ h => h) (Or.inl ⟨by rfl, ?_⟩) ?_ ?_
          rotate_left
          · intro w'
            go_simp
            with_reducible rfl
          rotate_left
          · simp only [Act.put, List.setIfInBounds_toArray, List.set_cons_zero, List.set_cons_succ, i64_w, i32_w]
            rfl
          refine one_ (i := 8) (N := some 10) #[true, true, true, true, true, true, true, true, true, false, false] rfl rfl (by kernel_rfl) (by decide) (fun K hK => ?_)
          refine value_ (w1 := y_3_4.alloc (.cells #[.int .u8 0, .int .u8 0, .int .u8 0, .int .u8 0, .int .u8 0, .int .u8 0, .int .u8 0, .int .u8 0, .int .u8 0, .int .u8 0, .int .u8 0, .int .u8 0, .slice none 0 0] 45 (0, 0))) (v := .pointer (some ⟨y_3_4.heap.size, 0, none⟩)) (by rfl) rfl ?_ ?_
          · first | (go_simp; done) | (go_simp; constructor <;> rfl) | (go_simp; rfl)
          have h1 := blk_new y_3_4 (.cells #[.int .u8 0, .int .u8 0, .int .u8 0, .int .u8 0, .int .u8 0, .int .u8 0, .int .u8 0, .int .u8 0, .int .u8 0, .int .u8 0, .int .u8 0, .int .u8 0, .slice none 0 0] 45 (0, 0))
          have h2 := below_alloc (Below.refl y_3_4.heap.size y_3_4) (.cells #[.int .u8 0, .int .u8 0, .int .u8 0, .int .u8 0, .int .u8 0, .int .u8 0, .int .u8 0, .int .u8 0, .int .u8 0, .int .u8 0, .int .u8 0, .int .u8 0, .slice none 0 0] 45 (0, 0))
          have HK6 := Aside0.mk (show w9.heap.size ≤ y_3_4.heap.size from HB6.out.size)
          generalize y_3_4.alloc (.cells #[.int .u8 0, .int .u8 0, .int .u8 0, .int .u8 0, .int .u8 0, .int .u8 0, .int .u8 0, .int .u8 0, .int .u8 0, .int .u8 0, .int .u8 0, .int .u8 0, .slice none 0 0] 45 (0, 0)) = y_3_4_8 at *
          have HZ := Aside0.mk h1
          replace HI := Aside0.mk (HI.out.below h2)
          replace HB6 := Aside0.mk (below_step HB6.out h2)
          clear h1 h2
          refine hK.out _ _ (HI.out) (fun hHeld => ?_)
          clear hK K
          refine norm_ (a' := ?_) ?_ ?_
          rotate_left
          · show Act.put _ (some 10) _ = _
            simp only [Act.put, List.setIfInBounds_toArray, List.set_cons_zero, List.set_cons_succ, i64_w, i32_w]
            rfl
          exact norm_ (by simp only [putAll, Act.put, List.setIfInBounds_toArray, List.set_cons_zero, List.set_cons_succ]) (hCont (AX, cX, AD, cD, y_3_4.heap.size) _ ⟨HI.out, HB6.out, HZ.out, HK6.out⟩)
        · skip
          refine value_ (w1 := y_3.alloc (.cells #[.int .u8 0, .int .u8 0, .int .u8 0, .int .u8 0, .int .u8 0, .int .u8 0, .int .u8 0, .int .u8 0, .int .u8 0, .int .u8 0, .int .u8 0, .int .u8 0, .slice none 0 0] 45 (0, 0))) (v := .pointer (some ⟨y_3.heap.size, 0, none⟩)) (by rfl) rfl ?_ ?_
          · first | (go_simp; done) | (go_simp; constructor <;> rfl) | (go_simp; rfl)
          have h1 := blk_new y_3 (.cells #[.int .u8 0, .int .u8 0, .int .u8 0, .int .u8 0, .int .u8 0, .int .u8 0, .int .u8 0, .int .u8 0, .int .u8 0, .int .u8 0, .int .u8 0, .int .u8 0, .slice none 0 0] 45 (0, 0))
          have h2 := below_alloc (Below.refl y_3.heap.size y_3) (.cells #[.int .u8 0, .int .u8 0, .int .u8 0, .int .u8 0, .int .u8 0, .int .u8 0, .int .u8 0, .int .u8 0, .int .u8 0, .int .u8 0, .int .u8 0, .int .u8 0, .slice none 0 0] 45 (0, 0))
          have HK6 := Aside0.mk (show w9.heap.size ≤ y_3.heap.size from HB6.out.size)
          replace HCX := Aside0.mk (Kd.C_below HCX.out h2)
          generalize y_3.alloc (.cells #[.int .u8 0, .int .u8 0, .int .u8 0, .int .u8 0, .int .u8 0, .int .u8 0, .int .u8 0, .int .u8 0, .int .u8 0, .int .u8 0, .int .u8 0, .int .u8 0, .slice none 0 0] 45 (0, 0)) = y_3_8 at *
          have HZ := Aside0.mk h1
          replace HI := Aside0.mk (HI.out.below h2)
          replace HB6 := Aside0.mk (below_step HB6.out h2)
          clear h1 h2
          refine hK.out _ _ (HI.out) (fun hHeld => ?_)
          clear hK K
          refine norm_ (a' := ?_) ?_ ?_
          rotate_left
          · show Act.put _ (some 10) _ = _
            simp only [Act.put, List.setIfInBounds_toArray, List.set_cons_zero, List.set_cons_succ, i64_w, i32_w]
            rfl
          refine one_ (i := 4) (N := some 63) #[true, true, true, true, true, false, false, false, true, false, false] rfl rfl (by kernel_rfl) (by decide) (fun K hK => ?_)
          refine goes_ Try.func34 (by kernel_rfl) rfl #[tabV true, .slice AX X.length cX] (by rfl) rfl rfl (by simp only [List.map_toArray, List.map_cons, List.map_nil]; rfl) ?_
          refine (mac_Decode.calls AX cX X _ HCX.out HcX.out HXX.out.2.1 (by have h := HXX.out.1; have := HXL.out; have := HL.out; omega)).mono ?_
          rintro e y_3_8_4 ⟨AD, cD, rfl, hcD, hCD, h2⟩
          refine ⟨_, rfl, ?_⟩
          replace HI := Aside0.mk (HI.out.below h2)
          replace HB6 := Aside0.mk (below_step HB6.out h2)
          replace HZ := Aside0.mk (blk_below HZ.out h2)
          clear hcD hCD h2
          refine hK.out _ _ (HI.out) (fun hHeld => ?_)
          clear hK K
          refine norm_ (a' := ?_) ?_ ?_
          rotate_left
          · show Act.put _ (some 63) _ = _
            simp only [Act.put, List.setIfInBounds_toArray, List.set_cons_zero, List.set_cons_succ, i64_w, i32_w]
            rfl
          refine pure_ (i := 5) (N := some 58) (v := ?_) (a' := ?_) #[true, true, true, true, true, true, false, false, true, false, false] rfl rfl (by kernel_rfl) (fun _ _ _ h => h) (Or.inl ⟨by rfl, ?_⟩) ?_ ?_
          rotate_left
          · intro w'
            go_simp
            with_reducible rfl
          rotate_left
          · simp only [Act.put, List.setIfInBounds_toArray, List.set_cons_zero, List.set_cons_succ, i64_w, i32_w]
            rfl
          refine pure_ (i := 6) (N := some 64) (v := ?_) (a' := ?_) #[true, true, true, true, true, true, true, false, true, false, false] rfl rfl (by kernel_rfl) (fun _ _ _ h => h) (Or.inl ⟨by rfl, ?_⟩) ?_ ?_
          rotate_left
          · intro w'
            go_simp
            with_reducible rfl
          rotate_left
          · simp only [Act.put, List.setIfInBounds_toArray, List.set_cons_zero, List.set_cons_succ, i64_w, i32_w]
            rfl
          refine pure_ (i := 7) (N := some 65) (v := ?_) (a' := ?_) #[true, true, true, true, true, true, true, true, true, false, false] rfl rfl (by kernel_rfl) (fun _ _ _ h => h) (Or.inl ⟨by rfl, ?_⟩) ?_ ?_
          rotate_left
          · intro w'
            go_simp
            with_reducible rfl
          rotate_left
          · simp only [Act.put, List.setIfInBounds_toArray, List.set_cons_zero, List.set_cons_succ, i64_w, i32_w]
            rfl
          exact norm_ (by simp only [putAll, Act.put, List.setIfInBounds_toArray, List.set_cons_zero, List.set_cons_succ]) (hCont (AX, cX, AD, cD, y_3.heap.size) _ ⟨HI.out, HB6.out, HZ.out, HK6.out⟩)
      · skip
        replace HI := Aside0.mk HI.out.drew1
        replace HB6 := Aside0.mk (below_drew1 HB6.out)
        refine value_ (w1 := w9.drew.alloc (.cells #[.int .u8 0, .int .u8 0, .int .u8 0, .int .u8 0, .int .u8 0, .int .u8 0, .int .u8 0, .int .u8 0, .int .u8 0, .int .u8 0, .int .u8 0, .int .u8 0, .slice none 0 0] 45 (0, 0))) (v := .pointer (some ⟨w9.drew.heap.size, 0, none⟩)) (by rfl) rfl ?_ ?_
        · first | (go_simp; done) | (go_simp; constructor <;> rfl) | (go_simp; rfl)
        have h1 := blk_new w9.drew (.cells #[.int .u8 0, .int .u8 0, .int .u8 0, .int .u8 0, .int .u8 0, .int .u8 0, .int .u8 0, .int .u8 0, .int .u8 0, .int .u8 0, .int .u8 0, .int .u8 0, .slice none 0 0] 45 (0, 0))
        have h2 := below_alloc (Below.refl w9.drew.heap.size w9.drew) (.cells #[.int .u8 0, .int .u8 0, .int .u8 0, .int .u8 0, .int .u8 0, .int .u8 0, .int .u8 0, .int .u8 0, .int .u8 0, .int .u8 0, .int .u8 0, .int .u8 0, .slice none 0 0] 45 (0, 0))
        have HK6 := Aside0.mk (show w9.heap.size ≤ w9.drew.heap.size from HB6.out.size)
        generalize w9.drew.alloc (.cells #[.int .u8 0, .int .u8 0, .int .u8 0, .int .u8 0, .int .u8 0, .int .u8 0, .int .u8 0, .int .u8 0, .int .u8 0, .int .u8 0, .int .u8 0, .int .u8 0, .slice none 0 0] 45 (0, 0)) = y_8 at *
        have HZ := Aside0.mk h1
        replace HI := Aside0.mk (HI.out.below h2)
        replace HB6 := Aside0.mk (below_step HB6.out h2)
        clear h1 h2
        refine hK.out _ _ (HI.out) (fun hHeld => ?_)
        clear hK K
        refine norm_ (a' := ?_) ?_ ?_
        rotate_left
        · show Act.put _ (some 10) _ = _
          simp only [Act.put, List.setIfInBounds_toArray, List.set_cons_zero, List.set_cons_succ, i64_w, i32_w]
          rfl
        refine one_ (i := 3) (N := some 62) #[true, true, true, true, false, false, false, false, true, false, false] rfl rfl (by kernel_rfl) (by decide) (fun K hK => ?_)
        refine goes_ Try.func38 (by kernel_rfl) rfl #[.slice A6 B.length c6, .int .i64 a1] (by rfl) rfl rfl (by simp only [List.map_toArray, List.map_cons, List.map_nil]; rfl) ?_
        refine (antiphonlaw3_hit.calls _ A6 c6 B a1 X _ (Kd.C_below HC6.out HB6.out) Hc6.out HIT.out).mono ?_
        rintro e y_8_3 ⟨vx, rfl, hR, h2⟩
        refine ⟨_, rfl, ?_⟩
        obtain ⟨AX, cX, rfl, hcX, hCX⟩ := Kd.R_reads hR
        have HCX := Aside0.mk hCX
        have HcX := Aside0.mk hcX
        replace HI := Aside0.mk (HI.out.below h2)
        replace HB6 := Aside0.mk (below_step HB6.out h2)
        replace HZ := Aside0.mk (blk_below HZ.out h2)
        clear hR h2 hcX hCX
        refine hK.out _ _ (HI.out) (fun hHeld => ?_)
        clear hK K
        refine norm_ (a' := ?_) ?_ ?_
        rotate_left
        · show Act.put _ (some 62) _ = _
          simp only [Act.put, List.setIfInBounds_toArray, List.set_cons_zero, List.set_cons_succ, i64_w, i32_w]
          rfl
        refine one_ (i := 4) (N := some 63) #[true, true, true, true, true, false, false, false, true, false, false] rfl rfl (by kernel_rfl) (by decide) (fun K hK => ?_)
        refine goes_ Try.func34 (by kernel_rfl) rfl #[tabV true, .slice AX X.length cX] (by rfl) rfl rfl (by simp only [List.map_toArray, List.map_cons, List.map_nil]; rfl) ?_
        refine (mac_Decode.calls AX cX X _ HCX.out HcX.out HXX.out.2.1 (by have h := HXX.out.1; have := HXL.out; have := HL.out; omega)).mono ?_
        rintro e y_8_3_4 ⟨AD, cD, rfl, hcD, hCD, h2⟩
        refine ⟨_, rfl, ?_⟩
        replace HI := Aside0.mk (HI.out.below h2)
        replace HB6 := Aside0.mk (below_step HB6.out h2)
        replace HZ := Aside0.mk (blk_below HZ.out h2)
        clear hcD hCD h2
        refine hK.out _ _ (HI.out) (fun hHeld => ?_)
        clear hK K
        refine norm_ (a' := ?_) ?_ ?_
        rotate_left
        · show Act.put _ (some 63) _ = _
          simp only [Act.put, List.setIfInBounds_toArray, List.set_cons_zero, List.set_cons_succ, i64_w, i32_w]
          rfl
        refine pure_ (i := 5) (N := some 58) (v := ?_) (a' := ?_) #[true, true, true, true, true, true, false, false, true, false, false] rfl rfl (by kernel_rfl) (fun _ _ _ h => h) (Or.inl ⟨by rfl, ?_⟩) ?_ ?_
        rotate_left
        · intro w'
          go_simp
          with_reducible rfl
        rotate_left
        · simp only [Act.put, List.setIfInBounds_toArray, List.set_cons_zero, List.set_cons_succ, i64_w, i32_w]
          rfl
        refine pure_ (i := 6) (N := some 64) (v := ?_) (a' := ?_) #[true, true, true, true, true, true, true, false, true, false, false] rfl rfl (by kernel_rfl) (fun _ _ _ h => h) (Or.inl ⟨by rfl, ?_⟩) ?_ ?_
        rotate_left
        · intro w'
          go_simp
          with_reducible rfl
        rotate_left
        · simp only [Act.put, List.setIfInBounds_toArray, List.set_cons_zero, List.set_cons_succ, i64_w, i32_w]
          rfl
        refine pure_ (i := 7) (N := some 65) (v := ?_) (a' := ?_) #[true, true, true, true, true, true, true, true, true, false, false] rfl rfl (by kernel_rfl) (fun _ _ _ h => h) (Or.inl ⟨by rfl, ?_⟩) ?_ ?_
        rotate_left
        · intro w'
          go_simp
          with_reducible rfl
        rotate_left
        · simp only [Act.put, List.setIfInBounds_toArray, List.set_cons_zero, List.set_cons_succ, i64_w, i32_w]
          rfl
        exact norm_ (by simp only [putAll, Act.put, List.setIfInBounds_toArray, List.set_cons_zero, List.set_cons_succ]) (hCont (AX, cX, AD, cD, w9.drew.heap.size) _ ⟨HI.out, HB6.out, HZ.out, HK6.out⟩)
    rintro ⟨AX, cX, AD, cD, k_⟩ w10 ⟨hI_, hB_, hZ_, hK_⟩
    clear HI HB6
    have HI := Aside0.mk hI_
    have HB6 := Aside0.mk hB_
    have HZ := Aside0.mk hZ_
    have HKK := Aside0.mk hK_
    have hHeld : IsTab true w10 g := hI_
    clear hI_ hB_ hZ_ hK_
    refine norm_ (a' := ?_) ?_ ?_
    rotate_left
    · simp only [putAll, Act.put, List.setIfInBounds_toArray, List.set_cons_zero, List.set_cons_succ]
      rfl
    refine one_ (i := 9) (N := none) #[true, true, true, true, true, true, true, true, true, true, false] rfl rfl (by kernel_rfl) (by decide) (fun K hK => ?_)
    rw [if_pos (by rfl)]
    refine wp_store_row 45 (.tmp 10) (.tmp 64) rfl k_ (frame (decH X) AD (decD X).length cD) rfl rfl 45 #[.int .u8 0, .int .u8 0, .int .u8 0, .int .u8 0, .int .u8 0, .int .u8 0, .int .u8 0, .int .u8 0, .int .u8 0, .int .u8 0, .int .u8 0, .int .u8 0, .slice none 0 0] HZ.out info45_ rfl (frame_one _ _ _ _) ?_
    have hS := below_setRow HB6.out HKK.out (frame (decH X) AD (decD X).length cD)
    generalize w10.setRow k_ (frame (decH X) AD (decD X).length cD) = w11 at hS ⊢
    replace HI := Aside0.mk (HI6.out.below hS)
    replace HB := Aside0.mk (below_step HB.out hS)
    clear hS HB6 HZ HI6
    refine hK.out _ _ (HI.out) (fun hHeld => ?_)
    clear hK K
    refine pure_ (i := 10) (N := some 11) (v := ?_) (a' := ?_) #[true, true, true, true, true, true, true, true, true, true, true] rfl rfl (by kernel_rfl) (fun _ _ _ h => h) (Or.inl ⟨by rfl, ?_⟩) ?_ ?_
    rotate_left
    · intro w'
      go_simp
      with_reducible rfl
    rotate_left
    · simp only [Act.put, List.setIfInBounds_toArray, List.set_cons_zero, List.set_cons_succ, i64_w, i32_w]
      rfl
    refine done_ (by kernel_rfl) ?_
    have b7 : (decE X == 5) = true := beq_iff_eq.2 HXX.out.2.2
    go_wp2_with fail
    go_ret
    exact ⟨rfl, HB.out⟩
end Go.Proofs.Ytpalloofjljhkaa.P
/-! Opn -/
namespace Go.Proofs.Ytpalloofjljhkaa.Opn
open Go.ChangeShapes Go.WideShapes Go.RowKit Go.Deep
open Go.Proofs.YtpalloofjljhkaaW.PrintWords
set_option linter.unusedVariables false
def Opens (P : Program) (w : World) (t : TypeId) {α : Type} (d : Kd α) (WF : α → Prop) : Prop :=
  ∀ {H : Type} {enc : TypeId × Value → H} {base : Nat} {held : Bool} {n : Nat} {cs : List Value} {y : DataW H × List MemPlace}, DataW.trod enc P w base (fun _ => true) held n t cs = some y → ∃ x, d.K w x cs ∧ WF x
section
variable {P : Program} {w : World} {t e : TypeId} {α β : Type}
theorem opens_int {k : IntKind} (ht : P.underlying t = some (.int k)) : Opens P w t (Kd.int k) (fun x => (Lit.int k x).wf = true) := by
  intro H enc base held n cs y h
  obtain ⟨x, he, _, hw⟩ := DataW.trod_int ht h
  exact ⟨x, he, hw⟩
theorem add_add_ (a : Addr) (i j : Nat) : (a.add i).add j = a.add (i + j) := by
  unfold Addr.add
  by_cases hi : i = 0 <;> by_cases hj : j = 0 <;> simp [hi, hj, Nat.add_assoc]
theorem opens_slice {d : Kd α} {WF : α → Prop} (ht : P.underlying t = some (.slice e)) (hc : P.cellsOf e = d.sz) (he : Opens P w e d WF) : Opens P w t (Kd.slice e d) (fun xs => ∀ x ∈ xs, WF x) := by
  intro H enc base held n cs y h
  rcases open_slice ht h with ⟨rfl, _⟩ | ⟨a, len, cap, m, n', D, Pl, rfl, hb, hl, hm, hmm, rfl, hx⟩
  · exact ⟨[], ⟨none, 0, rfl, Nat.le_refl _, ⟨rfl, Nat.zero_le _, fun h => absurd h (Nat.lt_irrefl 0)⟩⟩, fun x hx => by cases hx⟩
  · have hcap : m = cap := by rw [hmm]; rfl
    have key : ∀ i, i < len → ∃ x, (∃ c, c.length = d.sz ∧ d.K w x c ∧ ∀ j u, c[j]? = some u → w.cell? (a.add (i * d.sz + j)) = some u) ∧ WF x := by
      intro i hi
      obtain ⟨cs', h1, h2⟩ := hx i (by omega)
      obtain ⟨_, hlen, hcell⟩ := World.cells?_some h1
      obtain ⟨x, hK, hW⟩ := he h2
      refine ⟨x, ⟨cs', by rw [hlen, hc], hK, fun j u hj => ?_⟩, hW⟩
      have hjl : j < P.cellsOf e := by rw [← hlen]; exact (List.getElem?_eq_some_iff.1 hj).1
      have := hcell j hjl
      rw [add_add_, hc] at this
      rw [this, hj]
    by_cases h0 : len = 0
    · subst h0
      exact ⟨[], ⟨some a, cap, rfl, Nat.zero_le _, ⟨rfl, Nat.zero_le _, fun h => absurd h (Nat.lt_irrefl 0)⟩⟩, fun x hx => by cases hx⟩
    · have hinh : Nonempty α := by obtain ⟨x, _⟩ := key 0 (by omega); exact ⟨x⟩
      have : Inhabited α := Classical.inhabited_of_nonempty hinh
      obtain ⟨f, hf⟩ := choose_lt key
      have hlen : ((List.range len).map f).length = len := by simp
      refine ⟨(List.range len).map f, ⟨some a, cap, by rw [hlen], by rw [hlen]; exact hl, ⟨rfl, by rw [hlen]; unfold maxLen at hm; omega, fun _ => ⟨a, rfl, fun j p hj => ?_⟩⟩⟩, fun x hx => ?_⟩
      · have hjl : j < len := by have := (List.getElem?_eq_some_iff.1 hj).1; rwa [hlen] at this
        have hp : p = f j := by
          rw [List.getElem?_map, List.getElem?_range hjl] at hj
          exact (Option.some.inj hj).symm
        subst hp
        exact (hf j hjl).1
      · obtain ⟨i, hi, rfl⟩ := List.mem_map.1 hx
        exact (hf i (List.mem_range.1 hi)).2
def segs (P : Program) : List TypeId → Nat
  | [] => 0
  | f :: fs => P.cellsOf f + segs P fs
def OpensL (P : Program) (w : World) (fs : List TypeId) {α : Type} (d : Kd α) (WF : α → Prop) : Prop :=
  ∀ {H : Type} {enc : TypeId × Value → H} {base : Nat} {held : Bool} {n : Nat} {cs : List Value}, cs.length = segs P fs →
    (∀ (j : Nat) (f : TypeId), fs[j]? = some f → ∃ y, DataW.trod enc P w base (fun _ => true) held n f ((cs.drop (segs P (fs.take j))).take (P.cellsOf f)) = some y) → ∃ x, d.K w x cs ∧ WF x
theorem opensL_one {d : Kd α} {WF : α → Prop} (h : Opens P w t d WF) : OpensL P w [t] d WF := by
  intro H enc base held n cs hl hj
  obtain ⟨y, hy⟩ := hj 0 t rfl
  have e1 : (cs.drop (segs P ([t].take 0))).take (P.cellsOf t) = cs := by
    show (cs.drop 0).take _ = cs
    rw [List.drop_zero]
    exact List.take_of_length_le (by rw [hl]; exact Nat.le_refl _)
  rw [e1] at hy
  exact h hy
theorem opensL_cons {fs : List TypeId} {d1 : Kd α} {d2 : Kd β} {W1 : α → Prop} {W2 : β → Prop} (h1 : Opens P w t d1 W1) (h2 : OpensL P w fs d2 W2) : OpensL P w (t :: fs) (Kd.pair d1 d2) (fun x => W1 x.1 ∧ W2 x.2) := by
  intro H enc base held n cs hl hj
  have hl' : cs.length = P.cellsOf t + segs P fs := hl
  obtain ⟨y, hy⟩ := hj 0 t rfl
  have e1 : (cs.drop (segs P ((t :: fs).take 0))).take (P.cellsOf t) = cs.take (P.cellsOf t) := by
    show (cs.drop 0).take _ = _
    rw [List.drop_zero]
  rw [e1] at hy
  obtain ⟨x, hK, hW⟩ := h1 hy
  obtain ⟨z, hK2, hW2⟩ := h2 (H := H) (enc := enc) (base := base) (held := held) (n := n) (cs := cs.drop (P.cellsOf t)) (by rw [List.length_drop]; omega) (fun j f hf => by
    obtain ⟨y', hy'⟩ := hj (j + 1) f hf
    refine ⟨y', ?_⟩
    rw [List.drop_drop]
    exact hy')
  exact ⟨(x, z), ⟨cs.take (P.cellsOf t), cs.drop (P.cellsOf t), (List.take_append_drop _ _).symm, hK, hK2⟩, hW, hW2⟩
def structOk (P : Program) (t : TypeId) (fs : Array Field) (ts : List TypeId) : Bool :=
  P.cellsOf t == segs P ts && fs.size == ts.length && (List.range ts.length).all fun j => match fs[j]?, ts[j]? with
    | some f, some u => f.type == u && f.offset == segs P (ts.take j)
    | _, _ => false
theorem opens_struct {fs : Array Field} {d : Kd α} {WF : α → Prop} (ts : List TypeId) (ht : P.underlying t = some (.struct fs)) (hok : structOk P t fs ts = true) (h : OpensL P w ts d WF) : Opens P w t d WF := by
  intro H enc base held n cs y hy
  obtain ⟨xs, m, _, _, hl, hxl, hf⟩ := DataW.trod_struct ht hy
  unfold structOk at hok
  simp only [Bool.and_eq_true, beq_iff_eq, List.all_eq_true, List.mem_range] at hok
  obtain ⟨⟨h1, h2⟩, h3⟩ := hok
  refine h (H := H) (enc := enc) (base := base) (held := held) (n := m) (by rw [hl, h1]) (fun j u hu => ?_)
  have hj : j < ts.length := (List.getElem?_eq_some_iff.1 hu).1
  have h4 := h3 j hj
  have hjf : fs[j]? = some (fs[j]'(by omega)) := Array.getElem?_eq_getElem (by omega)
  rw [hjf, hu] at h4
  simp only [Bool.and_eq_true, beq_iff_eq] at h4
  have h5 := hf j _ hjf
  rw [h4.1, h4.2] at h5
  exact ⟨_, h5.trans (List.getElem?_eq_getElem (by omega))⟩
theorem segs_rep (k : Nat) : segs P (List.replicate k e) = k * P.cellsOf e := by
  induction k with
  | zero => exact (Nat.zero_mul _).symm
  | succ k ih => show P.cellsOf e + segs P (List.replicate k e) = _; rw [ih, Nat.succ_mul, Nat.add_comm]
theorem opens_array {k : Nat} {d : Kd α} {WF : α → Prop} (ht : P.underlying t = some (.array k e)) (hC : (P.cellsOf t == k * P.cellsOf e) = true) (h : OpensL P w (List.replicate k e) d WF) : Opens P w t d WF := by
  intro H enc base held n cs y hy
  obtain ⟨xs, m, _, _, hl, hxl, hf⟩ := DataW.trod_array ht hy
  refine h (H := H) (enc := enc) (base := base) (held := held) (n := m) (by rw [hl, segs_rep]; exact eq_of_beq hC) (fun j u hu => ?_)
  have hj : j < k := by have := (List.getElem?_eq_some_iff.1 hu).1; rwa [List.length_replicate] at this
  have hue : u = e := by
    rw [List.getElem?_replicate, if_pos hj] at hu
    exact (Option.some.inj hu).symm
  subst hue
  have h5 := hf j hj
  have e2 : segs P ((List.replicate k u).take j) = j * P.cellsOf u := by
    rw [List.take_replicate, Nat.min_eq_left (by omega), segs_rep]
  rw [e2]
  exact ⟨_, h5.trans (List.getElem?_eq_getElem (by omega))⟩
theorem arg_agg {H : Type} {enc : TypeId × Value → H} {base : Nat} {held : Bool} {d : Kd α} {WF : α → Prop} {cs : Array Value} {D : DataW H} {p : List MemPlace} (h : Opens P w t d WF)
    (hT : DataW.Trod enc P w base (fun _ => true) held t (.agg cs) D p) : ∃ x, d.K w x cs.toList ∧ WF x := by
  obtain ⟨fuel, hf⟩ := hT
  exact h hf
end
end Go.Proofs.Ytpalloofjljhkaa.Opn
/-! WalkMacBack -/
namespace Go.Proofs.Ytpalloofjljhkaa.P
open Go.RowKit Go.Proofs.YtpalloofjljhkaaW.PrintWords Go.Proofs.YtpalloofjljhkaaW.PrintLast Go.Proofs.YtpalloofjljhkaaW.PrintMore
def antiphonlaw3_MacBack.Pure : Prop := ∀ (a0_0 : Int) (a0_1 : Int) (a0_2 : Int) (a0_3 : Int) (a0_4 : Int) (a0_5 : Int) (a0_6 : Int) (a0_7 : Int) (a0_8 : Int) (a0_9 : Int) (a0_10 : Int) (a0_11 : Int) (l0_12 : List Int) (a1 : Int), (Lit.int .u8 a0_0).wf = true → (Lit.int .u8 a0_1).wf = true → (Lit.int .u8 a0_2).wf = true → (Lit.int .u8 a0_3).wf = true → (Lit.int .u8 a0_4).wf = true → (Lit.int .u8 a0_5).wf = true → (Lit.int .u8 a0_6).wf = true → (Lit.int .u8 a0_7).wf = true → (Lit.int .u8 a0_8).wf = true → (Lit.int .u8 a0_9).wf = true → (Lit.int .u8 a0_10).wf = true → (Lit.int .u8 a0_11).wf = true → l0_12.length ≤ 9223372036854775807 → (∀ yl0_12 ∈ l0_12, (Lit.int .u8 yl0_12).wf = true) → (Lit.int .i64 a1).wf = true → antiphonlaw3_MacBack.f a0_0 a0_1 a0_2 a0_3 a0_4 a0_5 a0_6 a0_7 a0_8 a0_9 a0_10 a0_11 l0_12 a1 = some true
end Go.Proofs.Ytpalloofjljhkaa.P
/-! PureMacBack -/
namespace Go.Proofs.Ytpalloofjljhkaa.Pure
open Go.RowKit Go.Proofs.Ytpalloofjljhkaa Go.Proofs.Ytpalloofjljhkaa.P Go.Proofs.YtpalloofjljhkaaW.PrintWords Go.Proofs.YtpalloofjljhkaaW.PrintLast
theorem six_wf {a b c d e f : Int} (h0 : (Lit.int .u8 a).wf = true) (h1 : (Lit.int .u8 b).wf = true) (h2 : (Lit.int .u8 c).wf = true) (h3 : (Lit.int .u8 d).wf = true) (h4 : (Lit.int .u8 e).wf = true) (h5 : (Lit.int .u8 f).wf = true) : ∀ x ∈ [a, b, c, d, e, f], 0 ≤ x ∧ x < 256 := by
  intro x hx
  simp only [List.mem_cons, List.not_mem_nil, or_false] at hx
  rcases hx with rfl | rfl | rfl | rfl | rfl | rfl <;> exact Lib.u8_wf (by assumption)
theorem MacBack : antiphonlaw3_MacBack.Pure := by
  intro a0 a1 a2 a3 a4 a5 a6 a7 a8 a9 a10 a11 l0 i h0 h1 h2 h3 h4 h5 h6 h7 h8 h9 h10 h11 _ hw _
  unfold antiphonlaw3_MacBack.f
  rw [if_pos ⟨six_wf h0 h1 h2 h3 h4 h5, six_wf h6 h7 h8 h9 h10 h11, fun c hc => Lib.u8_wf (hw c hc)⟩]
end Go.Proofs.Ytpalloofjljhkaa.Pure
/-! LawMacBack -/
namespace Go.Proofs.Ytpalloofjljhkaa.macBack
open Go.ChangeShapes Go.WideShapes Go.ChangeAt Go.RowKit
open Go.ChangeMaps (open_string shut_string)
open Go.Proofs.YtpalloofjljhkaaW.PrintWords (Kd)
open P
set_option linter.unusedVariables false
theorem own : ownKnob Try.prog.godebug = none := by kernel_rfl
theorem laidOut : laidOutB Try.prog = true := by kernel_rfl
set_option maxRecDepth 100000 in
theorem lifted (os : Os) (started : os.Started) (H : Type) (enc : TypeId × Value → H) :
    ReturnsInHanded {} Try.checked os 11 .any (Rows.macBackSpec.pre6 enc Try.prog Try.f11 Rows.macBackRow.domain false) (Rows.macBackSpec.post enc Try.prog Try.f11 false true false false) := by
  refine returnsInHanded_of_change_sized (C := Try.checked) own started (by kernel_rfl) Try.func11
    (ChangeSpec.witness6 (enc := enc) (C := Try.checked) false ⟨#[], #[.agg #[.int .u8 0, .int .u8 0, .int .u8 0, .int .u8 0, .int .u8 0, .int .u8 0, .int .u8 0, .int .u8 0, .int .u8 0, .int .u8 0, .int .u8 0, .int .u8 0, .slice none 0 0], .int .i64 0], []⟩ 8 (by kernel_rfl) (by kernel_rfl) (by kernel_rfl) (by kernel_rfl)) ?_
  intro W base args ds gs before hval0 hW hcnd hsz0 _
  have hval : ∀ (j : Nat) t v, Try.f11.params[j]? = some t → args[j]? = some v → Value.okWide Try.prog W .any base t v := hval0
  have hW' := hW
  obtain ⟨p, q, hA0, hV, rfl, hfz, hnd⟩ := hW
  have hA : DataW.TrodAll enc Try.prog W 0 (fun _ => true) true Try.f11.params.toList args.toList ds p := hA0
  rw [Try.params11] at hA hval
  obtain ⟨v0, vs0, d0, ds0, p0, q0, hargs, rfl, rfl, h0, r0⟩ := trodAll_cons hA
  obtain ⟨v1, vs1, d1, ds1, p1, q1, rfl, rfl, rfl, h1, r1⟩ := trodAll_cons r0
  obtain ⟨rfl, rfl, rfl⟩ := trodAll_nil r1
  obtain rfl : args = #[v0, v1] := by cases args; simp_all
  obtain ⟨rfl, rfl⟩ := trodVars_none hV
  obtain ⟨cs0, rfl⟩ : ∃ cs, v0 = .agg cs := by have hv_ := (hval 0 45 v0 rfl rfl); unfold Value.okWide at hv_; rw [Try.underlying45] at hv_; obtain ⟨cs, hc_, _⟩ := hv_; exact ⟨cs, hc_⟩
  have k0 := h0
  have lt0 : ∀ x ∈ p0, x.block < W.heap.size := by obtain ⟨m, hm⟩ := k0; exact DataW.trod_lt m _ _ _ hm
  obtain ⟨⟨⟨a0_0, a0_1, a0_2, a0_3, a0_4, a0_5⟩, ⟨a0_6, a0_7, a0_8, a0_9, a0_10, a0_11⟩, l0_12⟩, ⟨_, _, he0, ⟨_, _, rfl, rfl, ⟨_, _, rfl, rfl, ⟨_, _, rfl, rfl, ⟨_, _, rfl, rfl, ⟨_, _, rfl, rfl, rfl⟩⟩⟩⟩⟩, ⟨_, _, rfl, ⟨_, _, rfl, rfl, ⟨_, _, rfl, rfl, ⟨_, _, rfl, rfl, ⟨_, _, rfl, rfl, ⟨_, _, rfl, rfl, rfl⟩⟩⟩⟩⟩, ⟨A0_12, c0_12, rfl, hc0_12, hr0_12⟩⟩⟩, ⟨⟨w0_0, w0_1, w0_2, w0_3, w0_4, w0_5⟩, ⟨w0_6, w0_7, w0_8, w0_9, w0_10, w0_11⟩, w0_12⟩⟩ := Opn.arg_agg (d := (Kd.pair (Kd.pair (Kd.int .u8) (Kd.pair (Kd.int .u8) (Kd.pair (Kd.int .u8) (Kd.pair (Kd.int .u8) (Kd.pair (Kd.int .u8) (Kd.int .u8)))))) (Kd.pair (Kd.pair (Kd.int .u8) (Kd.pair (Kd.int .u8) (Kd.pair (Kd.int .u8) (Kd.pair (Kd.int .u8) (Kd.pair (Kd.int .u8) (Kd.int .u8)))))) (Kd.slice 5 (Kd.int .u8))))) (Opn.opens_struct [43, 43, 22] Try.underlying45 (by kernel_rfl) (Opn.opensL_cons (Opn.opens_array Try.underlying43 (by kernel_rfl) (Opn.opensL_cons (Opn.opens_int Try.underlying5) (Opn.opensL_cons (Opn.opens_int Try.underlying5) (Opn.opensL_cons (Opn.opens_int Try.underlying5) (Opn.opensL_cons (Opn.opens_int Try.underlying5) (Opn.opensL_cons (Opn.opens_int Try.underlying5) (Opn.opensL_one (Opn.opens_int Try.underlying5)))))))) (Opn.opensL_cons (Opn.opens_array Try.underlying43 (by kernel_rfl) (Opn.opensL_cons (Opn.opens_int Try.underlying5) (Opn.opensL_cons (Opn.opens_int Try.underlying5) (Opn.opensL_cons (Opn.opens_int Try.underlying5) (Opn.opensL_cons (Opn.opens_int Try.underlying5) (Opn.opensL_cons (Opn.opens_int Try.underlying5) (Opn.opensL_one (Opn.opens_int Try.underlying5)))))))) (Opn.opensL_one (Opn.opens_slice Try.underlying22 (by kernel_rfl) (Opn.opens_int Try.underlying5)))))) h0
  obtain rfl : cs0 = #[.int .u8 a0_0, .int .u8 a0_1, .int .u8 a0_2, .int .u8 a0_3, .int .u8 a0_4, .int .u8 a0_5, .int .u8 a0_6, .int .u8 a0_7, .int .u8 a0_8, .int .u8 a0_9, .int .u8 a0_10, .int .u8 a0_11, .slice A0_12 l0_12.length c0_12] := Array.ext' (he0.trans rfl)
  have hm0_12 : l0_12.length ≤ 9223372036854775807 := hr0_12.2.1
  obtain ⟨a1, rfl, rfl, rfl, w1⟩ := open_int Try.underlying3 (hval 1 3 v1 rfl rfl) h1
  clear hA0 hval0 hsz0 hval
  have h := Pure.MacBack a0_0 a0_1 a0_2 a0_3 a0_4 a0_5 a0_6 a0_7 a0_8 a0_9 a0_10 a0_11 l0_12 a1 w0_0 w0_1 w0_2 w0_3 w0_4 w0_5 w0_6 w0_7 w0_8 w0_9 w0_10 w0_11 hm0_12 w0_12 w1
  refine (P.antiphonlaw3_MacBack.calls a0_0 a0_1 a0_2 a0_3 a0_4 a0_5 a0_6 a0_7 a0_8 a0_9 a0_10 a0_11 _ _ l0_12 a1 true W hr0_12 hc0_12 h).mono fun e W' ⟨he, bel⟩ => ?_
  subst he
  exact ⟨_, rfl, _, _, _, [], _, [], hW', trodAll_mk1 (shut_bool Try.underlying4 _), (trodAll_cons_mk (Below.trod laidOut (by kernel_rfl) (of_decide_eq_true (by kernel_rfl)) k0 bel lt0) (trodAll_cons_mk (shut_int Try.underlying3 w1) trodAll_mk0)), rfl, bel.frame _, fun h => by cases h⟩
theorem fact0 : (Rows.macBackRow.wf (OpenSpec.ofChange Rows.macBackSpec)) = true := by kernel_rfl
theorem fact1 : (laidOutB Try.prog) = true := Kit.laidOut
theorem fact2 : (mapsRowed Try.prog) = true := Kit.mapsRowed
theorem fact3 : (Try.f11.params.all (Try.prog.readableRec ·)) = true := by kernel_rfl
theorem fact4 : (namedTie Try.prog Rows.macBackRow.named Rows.macBackSpec.vars) = true := by kernel_rfl
theorem fact5 : ((Rows.macBackRow.stops == [])) = true := by kernel_rfl
theorem fact6 : ((Try.prog.stops == [])) = true := Kit.stops
theorem fact7 : ((Rows.macBackRow.knobs == [])) = true := by kernel_rfl
theorem fact8 : ((Try.prog.stopKnobs == [])) = true := Kit.stopKnobs
theorem fact9 : ((Rows.macBackRow.inPlace == Try.prog.inPlace 11)) = true := by kernel_rfl
theorem fact10 : ((Rows.macBackRow.unfollowed == Try.prog.unfollowed 11)) = true := by kernel_rfl
theorem fact11 : ((Rows.macBackRow.recurses == Try.prog.recurses 11)) = true := by kernel_rfl
theorem fact12 : ((Rows.macBackRow.named == Try.prog.varsNamed 11)) = true := by kernel_rfl
theorem fact13 : ((Rows.macBackRow.maps == (Try.f11.params.toList ++ Rows.macBackSpec.plain.varTypes Try.prog).any (Try.prog.mapsRec ·))) = true := by kernel_rfl
theorem fact14 : ((Rows.macBackRow.ifaces == (Try.f11.params.toList ++ Rows.macBackSpec.plain.varTypes Try.prog).any (Try.prog.ifacesRec ·))) = true := by kernel_rfl
theorem fact15 : ((Rows.macBackRow.mapsOut == Try.prog.mapsAmong Try.f11.resultTypes.toList)) = true := by kernel_rfl
theorem fact16 : ((Rows.macBackRow.loops == (Try.f11.params.toList ++ Rows.macBackSpec.plain.varTypes Try.prog).any (Try.prog.loopsFrom ·))) = true := by kernel_rfl
theorem fact17 : ((Rows.macBackRow.wideKeys == (Try.f11.params.toList ++ Rows.macBackSpec.plain.varTypes Try.prog ++ Try.f11.resultTypes.toList).any (Try.prog.wideKeysFrom ·))) = true := by kernel_rfl
theorem fact18 : (Rows.macBackSpec.vars.all (Try.prog.varReadable ·)) = true := by kernel_rfl
theorem fact19 : (Try.f11.resultTypes.all (fun t => Try.prog.readableRec t && decide (t < Try.prog.types.size))) = true := by kernel_rfl
theorem fact20 : ((Rows.macBackRow.ifacesOut == Try.f11.resultTypes.toList.any (Try.prog.ifacesRec ·))) = true := by kernel_rfl
theorem fact21 : ((Rows.macBackRow.loopsOut == Try.f11.resultTypes.toList.any (Try.prog.loopsFrom ·))) = true := by kernel_rfl
theorem fact22 : ((Rows.macBackRow.plainKeys == Try.prog.plainKeys)) = true := (by rw [Kit.plainKeys]; rfl)
theorem fact23 : (Rows.macBackRow.shortTexts.isNone) = true := by kernel_rfl
theorem fact24 : (Try.prog.stopsHeard) = true := Kit.stopsHeard
theorem fact25 : (Try.prog.mayEnter) = true := Kit.mayEnter
theorem fact26 : ((Rows.macBackRow.lifted == Try.prog.liftsFinal)) = true := (by rw [Kit.liftsFinal]; rfl)
theorem fact27 : ((Try.prog.make == some Rows.macBackRow.make)) = true := (by rw [Kit.make]; rfl)
theorem fact28 : ((Rows.macBackRow.kinds == (if Rows.macBackRow.domain.isEmpty then [] else Try.f11.params.toList.map fun t => match Try.prog.underlying t with | some (.int k) => some k | _ => none))) = true := by kernel_rfl
theorem fact29 : ((Rows.macBackRow.pinned == Rows.macBackRow.pinnedBy)) = true := by kernel_rfl
theorem fact30 : ((Rows.macBackRow.veiled == (Try.f11.params.toList ++ Rows.macBackSpec.plain.varTypes Try.prog ++ Try.f11.resultTypes.toList).any (Try.prog.veiledRec ·))) = true := by kernel_rfl
theorem fact31 : (Rows.macBackRow.veiledFits Try.prog Try.f11.params.toList (Try.f11.params.toList ++ Rows.macBackSpec.plain.varTypes Try.prog ++ Try.f11.resultTypes.toList)) = true := by kernel_rfl
set_option maxRecDepth 100000 in
theorem closed : joinedFacts Try.prog 11 Try.f11 Rows.macBackSpec Rows.macBackRow = true := by
  unfold joinedFacts
  exact (Kit.and2 (Kit.and2 (Kit.and2 (Kit.and2 (Kit.and2 (Kit.and2 (Kit.and2 (Kit.and2 (Kit.and2 (Kit.and2 (Kit.and2 (Kit.and2 (Kit.and2 (Kit.and2 (Kit.and2 (Kit.and2 (Kit.and2 (Kit.and2 (Kit.and2 (Kit.and2 (Kit.and2 (Kit.and2 (Kit.and2 (Kit.and2 (Kit.and2 (Kit.and2 (Kit.and2 (Kit.and2 (Kit.and2 (Kit.and2 (Kit.and2 fact0 fact1) fact2) fact3) fact4) fact5) fact6) fact7) fact8) fact9) fact10) fact11) fact12) fact13) fact14) fact15) fact16) fact17) fact18) fact19) fact20) fact21) fact22) fact23) fact24) fact25) fact26) fact27) fact28) fact29) fact30) fact31)
theorem named : Try.prog.funcNamed Rows.macBackRow.func = some 11 := by kernel_rfl
theorem inst : Try.f11.isInstance Try.prog Rows.macBackRow.origin Rows.macBackRow.targs := of_decide_eq_true (by kernel_rfl)
theorem wrap_ : Try.f11.isWrapper Try.prog Rows.macBackRow.wrapper Rows.macBackRow.mainSum := by unfold Func.isWrapper; first | (rw [if_pos (by decide +kernel)]; kernel_rfl) | (rw [if_neg (by decide +kernel)]; exact ⟨rfl, rfl⟩)
theorem over : Rows.macBackRow.holds Try.pinned (OpenSpec.ofChange Rows.macBackSpec) :=
  OpenClaim.holds_of_wide 11 Try.f11 rfl rfl rfl rfl rfl rfl rfl ⟨rfl, rfl, rfl, rfl, rfl⟩ rfl rfl rfl rfl rfl named Try.func11 closed
    inst wrap_
    (fun os started H enc _ => lifted os started H enc)
theorem proved : Rows.MacBackSaid := over
#print axioms proved
end Go.Proofs.Ytpalloofjljhkaa.macBack
namespace Go.Proofs.Ytpalloofjljhkaa
theorem macBack_holds : Rows.MacBackSaid := macBack.proved
end Go.Proofs.Ytpalloofjljhkaa
