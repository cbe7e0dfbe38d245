/- A frame that went out, and is cut, or has bytes behind it, is none. -/
-- Put together by wip/print2/mergelaw.py: printed words (what this claim does not use is left out), printed functions, texts of this session.
import Derived.Test.YtpalloofjljhkaaMMacCuts2
/-! Px14 -/
namespace Go.Proofs.Ytpalloofjljhkaa.P
open Go.RowKit Go.Proofs.Ytpalloofjljhkaa.Lib Go.Proofs.YtpalloofjljhkaaW.PrintWords Go.Proofs.YtpalloofjljhkaaW.PrintLast Go.Proofs.YtpalloofjljhkaaW.PrintMore
set_option linter.unusedVariables false
set_option linter.unusedSimpArgs false
theorem mac_Decode.callsn (A0 : Option Addr) (c0 : Nat) (l0 : List Int) (n : Nat) (hn : l0.length = n) (w : World) (hr0 : Kd.C (Kd.int .u8) w A0 n l0) (hc0 : n ≤ c0) (hb : byteRow l0) (hmx : n < 140737488355000) :
    Calls Try.prog 34 #[tabV true, .slice A0 n c0] w fun e w' => ∃ A c, e = .returned (.tuple #[.agg (frame (decH l0) A (decD l0).length c), .int .i64 (decE l0)]) ∧ (decD l0).length ≤ c ∧ Kd.C (Kd.int .u8) w' A (decD l0).length (decD l0) ∧ Below w.heap.size w w' := by
  subst hn
  exact mac_Decode.calls A0 c0 l0 w hr0 hc0 hb hmx
theorem frame_one (h : Nat → Int) (A : Option Addr) (n c : Nat) : (frame h A n c).all (·.oneCell') = true := by
  unfold frame
  simp [Value.oneCell']
def antiphonlaw3_MacCuts.f (a0_0 : Int) (a0_1 : Int) (a0_2 : Int) (a0_3 : Int) (a0_4 : Int) (a0_5 : Int) (a0_6 : Int) (a0_7 : Int) (a0_8 : Int) (a0_9 : Int) (a0_10 : Int) (a0_11 : Int) (l0_12 : List Int) (a1 : Int) (l2 : List Int) : Option Bool := if (∀ c ∈ [a0_0, a0_1, a0_2, a0_3, a0_4, a0_5], 0 ≤ c ∧ c < 256) ∧ (∀ c ∈ [a0_6, a0_7, a0_8, a0_9, a0_10, a0_11], 0 ≤ c ∧ c < 256) ∧ (∀ c ∈ l0_12, 0 ≤ c ∧ c < 256) ∧ (0 ≤ a1 ∧ a1 < 65536) ∧ (∀ c ∈ l2, 0 ≤ c ∧ c < 256) then some true else none
set_option maxHeartbeats 8000000 in
set_option maxRecDepth 100000 in
theorem antiphonlaw3_MacCuts.calls (a0_0 : Int) (a0_1 : Int) (a0_2 : Int) (a0_3 : Int) (a0_4 : Int) (a0_5 : Int) (a0_6 : Int) (a0_7 : Int) (a0_8 : Int) (a0_9 : Int) (a0_10 : Int) (a0_11 : Int) (A0_12 : Option Addr) (c0_12 : Nat) (l0_12 : List Int) (a1 : Int) (A2 : Option Addr) (c2 : Nat) (l2 : List Int) (r : Bool) (w : World) (hr0_12 : Kd.C (Kd.int .u8) w A0_12 l0_12.length l0_12) (hc0_12 : l0_12.length ≤ c0_12) (hr2 : Kd.C (Kd.int .u8) w A2 l2.length l2) (hc2 : l2.length ≤ c2) (h : antiphonlaw3_MacCuts.f a0_0 a0_1 a0_2 a0_3 a0_4 a0_5 a0_6 a0_7 a0_8 a0_9 a0_10 a0_11 l0_12 a1 l2 = some r) :
    Calls Try.prog 13 #[.agg #[.int .u8 a0_0, .int .u8 a0_1, .int .u8 a0_2, .int .u8 a0_3, .int .u8 a0_4, .int .u8 a0_5, .int .u8 a0_6, .int .u8 a0_7, .int .u8 a0_8, .int .u8 a0_9, .int .u8 a0_10, .int .u8 a0_11, .slice A0_12 l0_12.length c0_12], .int .u16 a1, .slice A2 l2.length c2] w fun e w' => e = .returned (.bool r) ∧ Below w.heap.size w w' := by
  unfold antiphonlaw3_MacCuts.f at h
  split at h
  case isFalse => exact absurd h (by simp)
  case isTrue hcd =>
  obtain ⟨hbt, hbf, hbd, h0, h1⟩ := hcd
  obtain rfl := Option.some.inj h
  clear h
  have HBT := Aside0.mk (show byteRow [a0_0, a0_1, a0_2, a0_3, a0_4, a0_5] from hbt)
  have HBF := Aside0.mk (show byteRow [a0_6, a0_7, a0_8, a0_9, a0_10, a0_11] from hbf)
  have HBD := Aside0.mk (show byteRow l0_12 from hbd)
  have HR := Aside0.mk hr0_12
  have HC := Aside0.mk hc0_12
  have hm0 : l0_12.length ≤ 9223372036854775807 := hr0_12.2.1
  have hu45 := Try.underlying45
  have hu43 := Try.underlying43
  have HU := Aside0.mk h0
  have HBM := Aside0.mk (show byteRow l2 from h1)
  have HR2 := Aside0.mk hr2
  have HC2 := Aside0.mk hc2
  have hm2 : l2.length ≤ 9223372036854775807 := hr2.2.1
  clear h0 h1 hr2 hc2
  clear hbt hbf hbd hr0_12 hc0_12
  go_enter Try.func13, Try.ntmps13
  go_wp2_with fail
  have hb1 := blk_new w (.cells #[.int .u8 a0_0, .int .u8 a0_1, .int .u8 a0_2, .int .u8 a0_3, .int .u8 a0_4, .int .u8 a0_5, .int .u8 a0_6, .int .u8 a0_7, .int .u8 a0_8, .int .u8 a0_9, .int .u8 a0_10, .int .u8 a0_11, .slice A0_12 l0_12.length c0_12] 45 (0, 0))
  have hbw := below_alloc (Below.refl w.heap.size w) (.cells #[.int .u8 a0_0, .int .u8 a0_1, .int .u8 a0_2, .int .u8 a0_3, .int .u8 a0_4, .int .u8 a0_5, .int .u8 a0_6, .int .u8 a0_7, .int .u8 a0_8, .int .u8 a0_9, .int .u8 a0_10, .int .u8 a0_11, .slice A0_12 l0_12.length c0_12] 45 (0, 0))
  generalize w.alloc (.cells #[.int .u8 a0_0, .int .u8 a0_1, .int .u8 a0_2, .int .u8 a0_3, .int .u8 a0_4, .int .u8 a0_5, .int .u8 a0_6, .int .u8 a0_7, .int .u8 a0_8, .int .u8 a0_9, .int .u8 a0_10, .int .u8 a0_11, .slice A0_12 l0_12.length c0_12] 45 (0, 0)) = w0 at hb1 hbw ⊢
  obtain ⟨gf, hgf⟩ : ∃ gf, w.heap.size = gf := ⟨_, rfl⟩
  have HGF := Aside0.mk hgf
  rw [hgf] at hb1 ⊢
  have HB := Aside0.mk (show Below w.heap.size w w0 from hbw)
  have HF := Aside0.mk hb1
  clear hb1 hbw hgf
  refine (awake3_calls _).mono ?_
  rintro e wa ⟨rfl, hB⟩
  replace HF := Aside0.mk (blk_below HF.out hB)
  replace HB := Aside0.mk (below_step HB.out hB)
  clear hB
  have hk6 := (show wa.cell? ⟨gf, 6, none⟩ = some (.int .u8 a0_6) from (blk_cell HF.out 6).trans rfl)
  have hk7 := (show wa.cell? ⟨gf, 7, none⟩ = some (.int .u8 a0_7) from (blk_cell HF.out 7).trans rfl)
  have hk8 := (show wa.cell? ⟨gf, 8, none⟩ = some (.int .u8 a0_8) from (blk_cell HF.out 8).trans rfl)
  have hk9 := (show wa.cell? ⟨gf, 9, none⟩ = some (.int .u8 a0_9) from (blk_cell HF.out 9).trans rfl)
  have hk10 := (show wa.cell? ⟨gf, 10, none⟩ = some (.int .u8 a0_10) from (blk_cell HF.out 10).trans rfl)
  have hk11 := (show wa.cell? ⟨gf, 11, none⟩ = some (.int .u8 a0_11) from (blk_cell HF.out 11).trans rfl)
  have hk12 := (show wa.cell? ⟨gf, 12, none⟩ = some (.slice A0_12 l0_12.length c0_12) from (blk_cell HF.out 12).trans rfl)
  by_cases hl : l0_12.length ≤ 1500
  case neg =>
    have d1 : decide ((1500 : Int) < (l0_12.length : Int)) = true := decide_eq_true (by omega)
    clear hl
    go_wp2_with fail
    go_ret
    exact ⟨rfl, HB.out⟩
  have d1 : decide ((1500 : Int) < (l0_12.length : Int)) = false := decide_eq_false (by omega)
  have HL := Aside0.mk hl
  clear hl
  go_wp2_with fail
  refine (mac_Group.calls _ _ _ _ _ _ _ _ (grp_f _ _ _ _ _ _)).mono ?_
  rintro e wb ⟨rfl, hB⟩
  replace HF := Aside0.mk (blk_below HF.out hB)
  replace HB := Aside0.mk (below_step HB.out hB)
  clear hB hk6 hk7 hk8 hk9 hk10 hk11 hk12
  cases hg : isGrp a0_6 with
  | true =>
    clear hg
    go_wp2_with fail
    go_ret
    exact ⟨rfl, HB.out⟩
  | false =>
    by_cases h20 : l2.length = 0
    case pos =>
      have b1 : ((l2.length : Int) == 0) = true := by rw [h20]; rfl
      clear h20
      go_wp2_with fail
      go_ret
      exact ⟨rfl, HB.out⟩
    have b1 : ((l2.length : Int) == 0) = false := beq_eq_false_iff_ne.2 (by omega)
    have b2 : (l2.length == 0) = false := beq_eq_false_iff_ne.2 h20
    by_cases h21 : l2.length ≤ 20
    case neg =>
      have d2 : decide ((20 : Int) < (l2.length : Int)) = true := decide_eq_true (by omega)
      clear h20 h21
      go_wp2_with fail
      go_ret
      exact ⟨rfl, HB.out⟩
    have d2 : decide ((20 : Int) < (l2.length : Int)) = false := decide_eq_false (by omega)
    have HL2 := Aside0.mk (And.intro h20 h21)
    clear h20 h21
    go_wp2_with fail
    refine (crc_Make.calls _).mono ?_
    rintro e w1 ⟨rfl, hB⟩
    replace HF := Aside0.mk (blk_below HF.out hB)
    have hS := (show Below wb.heap.size wb w1 from below_step (by repeat (first | with_reducible exact Below.refl _ _ | with_reducible apply below_drew1 | with_reducible apply pw_below_drewN | with_reducible apply below_alloc)) hB)
    replace HB := Aside0.mk (below_step HB.out hS)
    clear hS hB
    go_wp2_with (first
      | (refine wpList_store_tab rfl (.tmp 7) (.tmp 35) rfl w1.heap.size rfl true rfl Try.zeroCells27 (blk_new w1 _) zsz27 ?_; intro w2 hI hG; have hS := (show Below w1.heap.size w1 w2 from (below_alloc (Below.refl _ _) _).grown hG (below_alloc (Below.refl _ _) _).size (fun k hk => by cases hk; exact Nat.le_refl _)); have HG := Aside0.mk (HB.out.size); replace HB := Aside0.mk (below_step HB.out hS); generalize w1.heap.size = g at hI HG ⊢; have HI := Aside0.mk hI; replace HF := Aside0.mk (blk_below HF.out hS); clear hI hG hS)
      | (refine wpList_load_row rfl 27 (.tmp 7) rfl g rfl 27 (tabRow true) (0, 0) _ HI.out Try.underlying27 rfl (tabInf true) ?_)
      | (refine wpList_load_row rfl 45 (.tmp 3) rfl gf rfl 45 #[.int .u8 a0_0, .int .u8 a0_1, .int .u8 a0_2, .int .u8 a0_3, .int .u8 a0_4, .int .u8 a0_5, .int .u8 a0_6, .int .u8 a0_7, .int .u8 a0_8, .int .u8 a0_9, .int .u8 a0_10, .int .u8 a0_11, .slice A0_12 l0_12.length c0_12] (0, 0) _ HF.out Try.underlying45 rfl info45_ ?_))
    have HGR := Aside0.mk hg
    clear hg
    have HD0 := Aside0.mk (decE_enc (t0 := a0_0) (t1 := a0_1) (t2 := a0_2) (t3 := a0_3) (t4 := a0_4) (t5 := a0_5) (f0 := a0_6) (f1 := a0_7) (f2 := a0_8) (f3 := a0_9) (f4 := a0_10) (f5 := a0_11) HGR.out HL.out)
    have HXY := Aside0.mk (sealI_byte (enc_byte HBT.out HBF.out HBD.out))
    have HXL := Aside0.mk (show (sealI (encB [a0_0, a0_1, a0_2, a0_3, a0_4, a0_5] [a0_6, a0_7, a0_8, a0_9, a0_10, a0_11] l0_12)).length = 18 + l0_12.length + (46 - l0_12.length) by rw [sealI_len, encB_len]; omega)
    refine (mac_Encode.ok a0_0 a0_1 a0_2 a0_3 a0_4 a0_5 a0_6 a0_7 a0_8 a0_9 a0_10 a0_11 A0_12 c0_12 l0_12 _ (Kd.C_below HR.out HB.out) HC.out HGR.out HL.out HBD.out HBT.out HBF.out).mono ?_
    rintro e w6 ⟨v6, rfl, hR, hB⟩
    generalize sealI (encB [a0_0, a0_1, a0_2, a0_3, a0_4, a0_5] [a0_6, a0_7, a0_8, a0_9, a0_10, a0_11] l0_12) = B at HD0 HXY HXL hR
    obtain ⟨A6, c6, rfl, hc6, hC6⟩ := Kd.R_reads hR
    have HC6 := Aside0.mk hC6
    have Hc6 := Aside0.mk hc6
    have hm6 : B.length ≤ 9223372036854775807 := hC6.2.1
    replace HF := Aside0.mk (blk_below HF.out hB)
    replace HI := Aside0.mk (HI.out.below hB)
    replace HB := Aside0.mk (below_step HB.out hB)
    clear hB hR hC6 hc6
    obtain ⟨q, rfl⟩ : ∃ q : Nat, a1 = (q : Int) := ⟨a1.toNat, by have := HU.out; omega⟩
    have hq : q < 65536 := by have := HU.out; omega
    have hb0 : ((B.length : Int) == 0) = false := beq_eq_false_iff_ne.2 (by have := HXL.out; omega)
    have hb1 : (B.length == 0) = false := beq_eq_false_iff_ne.2 (by have := HXL.out; omega)
    obtain ⟨m, hm⟩ : ∃ m, q % B.length = m := ⟨_, rfl⟩
    have hmB : m < B.length := by rw [← hm]; exact Nat.mod_lt _ (by have := HXL.out; omega)
    have hmc : m ≤ c6 := by have := Hc6.out; omega
    have hne : ¬ B = [] := fun e => by have := HXL.out; rw [e] at this; simp at this; omega
    have HTM := Aside0.mk (show (wrap64 (q : Int)).tmod (B.length : Int) = (m : Int) by rw [show wrap64 (q : Int) = (q : Int) by unfold wrap64; omega, ← hm]; rfl)
    have HMB := Aside0.mk hmB
    clear hm hq hmB
    go_wp2_with fail
    have HTL := Aside0.mk (show (B.take m).length = m by rw [List.length_take]; have := HMB.out; omega)
    have HCT := Aside0.mk (Kd.C_take HC6.out (Nat.le_of_lt HMB.out))
    rw [HTL.out] at HCT
    have HTB := Aside0.mk (show byteRow (B.take m) from fun c hc => HXY.out c (List.mem_of_mem_take hc))
    have HE1 := Aside0.mk (cut_no HD0.out HMB.out)
    generalize B.take m = T at HCT HTB HTL HE1
    have HB6 := Aside0.mk (Below.refl w6.heap.size w6)
    have HI6 := HI
    refine start_ (n := 15) (S := fun w' => IsTab true w' g) (ds := []) #[false, false, false, false, false, false, false, false, false, false, false, false, false, false, false] (by kernel_rfl) rfl rfl (HI.out.drew1) (fun hHeld => ?_)
    refine pure_ (i := 1) (N := some 51) (v := ?_) (a' := ?_) #[false, true, false, false, false, false, false, false, false, false, false, false, false, false, false] rfl rfl (by kernel_rfl) (fun _ _ _ h => h) (Or.inl ⟨by rfl, ?_⟩) ?_ ?_
    rotate_left
    · intro w'
      go_simp
      with_reducible rfl
    rotate_left
    · simp only [Act.put, List.setIfInBounds_toArray, List.set_cons_zero, List.set_cons_succ, i64_w, i32_w]
      rfl
    refine pure_ (i := 2) (N := some 52) (v := ?_) (a' := ?_) #[false, true, true, false, false, false, false, false, false, false, false, false, false, false, false] rfl rfl (by kernel_rfl) (fun _ _ _ h => h) (Or.inl ⟨by rfl, ?_⟩) ?_ ?_
    rotate_left
    · intro w'
      go_simp
      with_reducible rfl
    rotate_left
    · simp only [Act.put, List.setIfInBounds_toArray, List.set_cons_zero, List.set_cons_succ, i64_w, i32_w]
      rfl
    refine pure_ (i := 3) (N := some 53) (v := ?_) (a' := ?_) #[false, true, true, true, false, false, false, false, false, false, false, false, false, false, false] rfl rfl (by kernel_rfl) (fun _ _ _ h => h) (Or.inl ⟨by rfl, ?_⟩) ?_ ?_
    rotate_left
    · intro w'
      go_simp
      with_reducible rfl
    rotate_left
    · simp only [Act.put, List.setIfInBounds_toArray, List.set_cons_zero, List.set_cons_succ, i64_w, i32_w]
      rfl
    refine pure_ (i := 4) (N := some 54) (v := ?_) (a' := ?_) #[false, true, true, true, true, false, false, false, false, false, false, false, false, false, false] rfl rfl (by kernel_rfl) (fun _ _ _ h => h) (Or.inl ⟨by rfl, ?_⟩) ?_ ?_
    rotate_left
    · intro w'
      go_simp
      with_reducible rfl
    rotate_left
    · simp only [Act.put, List.setIfInBounds_toArray, List.set_cons_zero, List.set_cons_succ, i64_w, i32_w]
      rfl
    refine pure_ (i := 5) (N := some 55) (v := ?_) (a' := ?_) #[false, true, true, true, true, true, false, false, false, false, false, false, false, false, false] rfl rfl (by kernel_rfl) (fun _ _ _ h => h) (Or.inl ⟨by rfl, ?_⟩) ?_ ?_
    rotate_left
    · intro w'
      go_simp
      with_reducible rfl
    rotate_left
    · simp only [Act.put, List.setIfInBounds_toArray, List.set_cons_zero, List.set_cons_succ, i64_w, i32_w]
      rfl
    refine pure_ (i := 6) (N := some 56) (v := ?_) (a' := ?_) #[false, true, true, true, true, true, true, false, false, false, false, false, false, false, false] rfl rfl (by kernel_rfl) (fun _ _ _ h => h) (Or.inl ⟨by rfl, ?_⟩) ?_ ?_
    rotate_left
    · intro w'
      go_simp
      rw [HTM.out]
    rotate_left
    · simp only [Act.put, List.setIfInBounds_toArray, List.set_cons_zero, List.set_cons_succ, i64_w, i32_w]
      rfl
    refine pure_ (i := 7) (N := some 57) (v := ?_) (a' := ?_) #[false, true, true, true, true, true, true, true, false, false, false, false, false, false, false] rfl rfl (by kernel_rfl) (fun _ _ _ h => h) (Or.inl ⟨by rfl, ?_⟩) ?_ ?_
    rotate_left
    · intro w'
      go_simp
      with_reducible rfl
    rotate_left
    · simp only [Act.put, List.setIfInBounds_toArray, List.set_cons_zero, List.set_cons_succ, i64_w, i32_w]
      rfl
    refine take_ (i := 0) (N := some 50) (v := tabV true) #[true, true, true, true, true, true, true, true, false, false, false, false, false, false, false] rfl rfl (by kernel_rfl) (fun _ _ _ h => h) ?_ hHeld rfl ?_
    · exact yields_tab (by rfl) _ rfl _ rfl true (by intro w' s0; exact s0)
    refine norm_ (a' := ?_) ?_ ?_
    rotate_left
    · show Act.put _ (some 50) _ = _
      simp only [Act.put, List.setIfInBounds_toArray, List.set_cons_zero, List.set_cons_succ, i64_w, i32_w]
      rfl
    refine join_ (σ := Option Addr × Nat × Nat) 2 #[true, true, true, true, true, true, true, true, true, true, true, true, true, false, false] (fun s_ => [(58, .tuple #[.agg (frame (decH T) s_.1 (decD T).length s_.2.1), .int .i64 (decE T)]), (10, .pointer (some ⟨s_.2.2, 0, none⟩)), (49, .tuple #[.agg (frame (decH T) s_.1 (decD T).length s_.2.1), .int .i64 (decE T)]), (59, .agg (frame (decH T) s_.1 (decD T).length s_.2.1)), (60, .int .i64 (decE T))]) (fun s_ w' => IsTab true w' g ∧ (Below w6.heap.size w6 w' ∧ w'.heap[s_.2.2]? = some (.cells #[.int .u8 0, .int .u8 0, .int .u8 0, .int .u8 0, .int .u8 0, .int .u8 0, .int .u8 0, .int .u8 0, .int .u8 0, .int .u8 0, .int .u8 0, .int .u8 0, .slice none 0 0] 45 (0, 0)) ∧ w6.heap.size ≤ s_.2.2)) ?_ ?_
    rotate_left
    · intro hCont
      refine two_ (i := 8) (j := 12) (Ni := some 58) (Nj := some 10) #[true, true, true, true, true, true, true, true, true, false, false, false, false, false, false] #[true, true, true, true, true, true, true, true, false, false, false, false, true, false, false] rfl rfl rfl rfl (by kernel_rfl) (by decide) (by decide) (fun K hK => ?_) (fun K hK => ?_)
      · skip
        replace HI := Aside0.mk HI.out.drew1
        replace HB6 := Aside0.mk (below_drew1 HB6.out)
        refine goes_ Try.func34 (by kernel_rfl) rfl #[tabV true, .slice A6 m c6] (by rfl) rfl rfl (by simp only [List.map_toArray, List.map_cons, List.map_nil]; rfl) ?_
        refine (mac_Decode.callsn A6 c6 T m HTL.out _ (Kd.C_below HCT.out HB6.out) hmc HTB.out (by have := HMB.out; have := HXL.out; have := HL.out; omega)).mono ?_
        rintro e y_8 ⟨AD, cD, rfl, hcD, hCD, h2⟩
        refine ⟨_, rfl, ?_⟩
        clear hcD hCD
        replace HI := Aside0.mk (HI.out.below h2)
        replace HB6 := Aside0.mk (below_step HB6.out h2)
        clear h2
        refine hK.out _ _ (HI.out) (fun hHeld => ?_)
        clear hK K
        refine norm_ (a' := ?_) ?_ ?_
        rotate_left
        · show Act.put _ (some 58) _ = _
          simp only [Act.put, List.setIfInBounds_toArray, List.set_cons_zero, List.set_cons_succ, i64_w, i32_w]
          rfl
        refine pure_ (i := 9) (N := some 49) (v := ?_) (a' := ?_) #[true, true, true, true, true, true, true, true, true, true, false, false, false, false, false] rfl rfl (by kernel_rfl) (fun _ _ _ h => h) (Or.inl ⟨by rfl, ?_⟩) ?_ ?_
        rotate_left
        · intro w'
          go_simp
          with_reducible rfl
        rotate_left
        · simp only [Act.put, List.setIfInBounds_toArray, List.set_cons_zero, List.set_cons_succ, i64_w, i32_w]
          rfl
        refine pure_ (i := 10) (N := some 59) (v := ?_) (a' := ?_) #[true, true, true, true, true, true, true, true, true, true, true, false, false, false, false] rfl rfl (by kernel_rfl) (fun _ _ _ h => h) (Or.inl ⟨by rfl, ?_⟩) ?_ ?_
        rotate_left
        · intro w'
          go_simp
          with_reducible rfl
        rotate_left
        · simp only [Act.put, List.setIfInBounds_toArray, List.set_cons_zero, List.set_cons_succ, i64_w, i32_w]
          rfl
        refine pure_ (i := 11) (N := some 60) (v := ?_) (a' := ?_) #[true, true, true, true, true, true, true, true, true, true, true, true, false, false, false] rfl rfl (by kernel_rfl) (fun _ _ _ h => h) (Or.inl ⟨by rfl, ?_⟩) ?_ ?_
        rotate_left
        · intro w'
          go_simp
          with_reducible rfl
        rotate_left
        · simp only [Act.put, List.setIfInBounds_toArray, List.set_cons_zero, List.set_cons_succ, i64_w, i32_w]
          rfl
        refine one_ (i := 12) (N := some 10) #[true, true, true, true, true, true, true, true, true, true, true, true, true, false, false] rfl rfl (by kernel_rfl) (by decide) (fun K hK => ?_)
        refine value_ (w1 := y_8.alloc (.cells #[.int .u8 0, .int .u8 0, .int .u8 0, .int .u8 0, .int .u8 0, .int .u8 0, .int .u8 0, .int .u8 0, .int .u8 0, .int .u8 0, .int .u8 0, .int .u8 0, .slice none 0 0] 45 (0, 0))) (v := .pointer (some ⟨y_8.heap.size, 0, none⟩)) (by rfl) rfl ?_ ?_
        · first | (go_simp; done) | (go_simp; constructor <;> rfl) | (go_simp; rfl)
        have h1 := blk_new y_8 (.cells #[.int .u8 0, .int .u8 0, .int .u8 0, .int .u8 0, .int .u8 0, .int .u8 0, .int .u8 0, .int .u8 0, .int .u8 0, .int .u8 0, .int .u8 0, .int .u8 0, .slice none 0 0] 45 (0, 0))
        have h2 := below_alloc (Below.refl y_8.heap.size y_8) (.cells #[.int .u8 0, .int .u8 0, .int .u8 0, .int .u8 0, .int .u8 0, .int .u8 0, .int .u8 0, .int .u8 0, .int .u8 0, .int .u8 0, .int .u8 0, .int .u8 0, .slice none 0 0] 45 (0, 0))
        generalize y_8.alloc (.cells #[.int .u8 0, .int .u8 0, .int .u8 0, .int .u8 0, .int .u8 0, .int .u8 0, .int .u8 0, .int .u8 0, .int .u8 0, .int .u8 0, .int .u8 0, .int .u8 0, .slice none 0 0] 45 (0, 0)) = y_8_12 at h1 h2 ⊢
        have HZ := Aside0.mk h1
        have HK6 := Aside0.mk (show w6.heap.size ≤ y_8.heap.size from HB6.out.size)
        replace HI := Aside0.mk (HI.out.below h2)
        replace HB6 := Aside0.mk (below_step HB6.out h2)
        clear h2
        refine hK.out _ _ (HI.out) (fun hHeld => ?_)
        clear hK K
        refine norm_ (a' := ?_) ?_ ?_
        rotate_left
        · show Act.put _ (some 10) _ = _
          simp only [Act.put, List.setIfInBounds_toArray, List.set_cons_zero, List.set_cons_succ, i64_w, i32_w]
          rfl
        exact norm_ (by simp only [putAll, Act.put, List.setIfInBounds_toArray, List.set_cons_zero, List.set_cons_succ]) (hCont (AD, cD, y_8.heap.size) _ ⟨HI.out, HB6.out, HZ.out, HK6.out⟩)
      · skip
        replace HI := Aside0.mk HI.out.drew1
        replace HB6 := Aside0.mk (below_drew1 HB6.out)
        refine value_ (w1 := w6.drew.alloc (.cells #[.int .u8 0, .int .u8 0, .int .u8 0, .int .u8 0, .int .u8 0, .int .u8 0, .int .u8 0, .int .u8 0, .int .u8 0, .int .u8 0, .int .u8 0, .int .u8 0, .slice none 0 0] 45 (0, 0))) (v := .pointer (some ⟨w6.drew.heap.size, 0, none⟩)) (by rfl) rfl ?_ ?_
        · first | (go_simp; done) | (go_simp; constructor <;> rfl) | (go_simp; rfl)
        have h1 := blk_new w6.drew (.cells #[.int .u8 0, .int .u8 0, .int .u8 0, .int .u8 0, .int .u8 0, .int .u8 0, .int .u8 0, .int .u8 0, .int .u8 0, .int .u8 0, .int .u8 0, .int .u8 0, .slice none 0 0] 45 (0, 0))
        have h2 := below_alloc (Below.refl w6.drew.heap.size w6.drew) (.cells #[.int .u8 0, .int .u8 0, .int .u8 0, .int .u8 0, .int .u8 0, .int .u8 0, .int .u8 0, .int .u8 0, .int .u8 0, .int .u8 0, .int .u8 0, .int .u8 0, .slice none 0 0] 45 (0, 0))
        generalize w6.drew.alloc (.cells #[.int .u8 0, .int .u8 0, .int .u8 0, .int .u8 0, .int .u8 0, .int .u8 0, .int .u8 0, .int .u8 0, .int .u8 0, .int .u8 0, .int .u8 0, .int .u8 0, .slice none 0 0] 45 (0, 0)) = y_12 at h1 h2 ⊢
        have HZ := Aside0.mk h1
        have HK6 := Aside0.mk (show w6.heap.size ≤ w6.drew.heap.size from HB6.out.size)
        replace HI := Aside0.mk (HI.out.below h2)
        replace HB6 := Aside0.mk (below_step HB6.out h2)
        clear h2
        refine hK.out _ _ (HI.out) (fun hHeld => ?_)
        clear hK K
        refine norm_ (a' := ?_) ?_ ?_
        rotate_left
        · show Act.put _ (some 10) _ = _
          simp only [Act.put, List.setIfInBounds_toArray, List.set_cons_zero, List.set_cons_succ, i64_w, i32_w]
          rfl
        refine one_ (i := 8) (N := some 58) #[true, true, true, true, true, true, true, true, true, false, false, false, true, false, false] rfl rfl (by kernel_rfl) (by decide) (fun K hK => ?_)
        refine goes_ Try.func34 (by kernel_rfl) rfl #[tabV true, .slice A6 m c6] (by rfl) rfl rfl (by simp only [List.map_toArray, List.map_cons, List.map_nil]; rfl) ?_
        refine (mac_Decode.callsn A6 c6 T m HTL.out _ (Kd.C_below HCT.out HB6.out) hmc HTB.out (by have := HMB.out; have := HXL.out; have := HL.out; omega)).mono ?_
        rintro e y_12_8 ⟨AD, cD, rfl, hcD, hCD, h2⟩
        refine ⟨_, rfl, ?_⟩
        replace HZ := Aside0.mk (blk_below HZ.out h2)
        clear hcD hCD
        replace HI := Aside0.mk (HI.out.below h2)
        replace HB6 := Aside0.mk (below_step HB6.out h2)
        clear h2
        refine hK.out _ _ (HI.out) (fun hHeld => ?_)
        clear hK K
        refine norm_ (a' := ?_) ?_ ?_
        rotate_left
        · show Act.put _ (some 58) _ = _
          simp only [Act.put, List.setIfInBounds_toArray, List.set_cons_zero, List.set_cons_succ, i64_w, i32_w]
          rfl
        refine pure_ (i := 9) (N := some 49) (v := ?_) (a' := ?_) #[true, true, true, true, true, true, true, true, true, true, false, false, true, false, false] rfl rfl (by kernel_rfl) (fun _ _ _ h => h) (Or.inl ⟨by rfl, ?_⟩) ?_ ?_
        rotate_left
        · intro w'
          go_simp
          with_reducible rfl
        rotate_left
        · simp only [Act.put, List.setIfInBounds_toArray, List.set_cons_zero, List.set_cons_succ, i64_w, i32_w]
          rfl
        refine pure_ (i := 10) (N := some 59) (v := ?_) (a' := ?_) #[true, true, true, true, true, true, true, true, true, true, true, false, true, false, false] rfl rfl (by kernel_rfl) (fun _ _ _ h => h) (Or.inl ⟨by rfl, ?_⟩) ?_ ?_
        rotate_left
        · intro w'
          go_simp
          with_reducible rfl
        rotate_left
        · simp only [Act.put, List.setIfInBounds_toArray, List.set_cons_zero, List.set_cons_succ, i64_w, i32_w]
          rfl
        refine pure_ (i := 11) (N := some 60) (v := ?_) (a' := ?_) #[true, true, true, true, true, true, true, true, true, true, true, true, true, false, false] rfl rfl (by kernel_rfl) (fun _ _ _ h => h) (Or.inl ⟨by rfl, ?_⟩) ?_ ?_
        rotate_left
        · intro w'
          go_simp
          with_reducible rfl
        rotate_left
        · simp only [Act.put, List.setIfInBounds_toArray, List.set_cons_zero, List.set_cons_succ, i64_w, i32_w]
          rfl
        exact norm_ (by simp only [putAll, Act.put, List.setIfInBounds_toArray, List.set_cons_zero, List.set_cons_succ]) (hCont (AD, cD, w6.drew.heap.size) _ ⟨HI.out, HB6.out, HZ.out, HK6.out⟩)
    rintro ⟨AD, cD, k_⟩ w7 ⟨hI_, hB_, hZ_, hK_⟩
    clear HI HB6
    have HI := Aside0.mk hI_
    have HB6 := Aside0.mk hB_
    have HZ := Aside0.mk hZ_
    have HKK := Aside0.mk hK_
    have hHeld : IsTab true w7 g := hI_
    clear hI_ hB_ hZ_ hK_
    refine norm_ (a' := ?_) ?_ ?_
    rotate_left
    · simp only [putAll, Act.put, List.setIfInBounds_toArray, List.set_cons_zero, List.set_cons_succ]
      rfl
    refine one_ (i := 13) (N := none) #[true, true, true, true, true, true, true, true, true, true, true, true, true, true, false] rfl rfl (by kernel_rfl) (by decide) (fun K hK => ?_)
    rw [if_pos (by rfl)]
    refine wp_store_row 45 (.tmp 10) (.tmp 59) rfl k_ (frame (decH T) AD (decD T).length cD) rfl rfl 45 #[.int .u8 0, .int .u8 0, .int .u8 0, .int .u8 0, .int .u8 0, .int .u8 0, .int .u8 0, .int .u8 0, .int .u8 0, .int .u8 0, .int .u8 0, .int .u8 0, .slice none 0 0] HZ.out info45_ rfl (frame_one _ _ _ _) ?_
    have hS := (show Below w6.heap.size w6 (w7.setRow k_ (frame (decH T) AD (decD T).length cD)) from below_setRow HB6.out HKK.out _)
    generalize w7.setRow k_ (frame (decH T) AD (decD T).length cD) = w8 at hS ⊢
    replace HI := Aside0.mk (HI6.out.below hS)
    replace HF := Aside0.mk (blk_below HF.out hS)
    replace HC6 := Aside0.mk (Kd.C_below HC6.out hS)
    replace HB := Aside0.mk (below_step HB.out hS)
    clear hS HB6 HZ HI6
    refine hK.out _ _ (HI.out) (fun hHeld => ?_)
    clear hK K
    refine pure_ (i := 14) (N := some 11) (v := ?_) (a' := ?_) #[true, true, true, true, true, true, true, true, true, true, true, true, true, true, true] rfl rfl (by kernel_rfl) (fun _ _ _ h => h) (Or.inl ⟨by rfl, ?_⟩) ?_ ?_
    rotate_left
    · intro w'
      go_simp
      with_reducible rfl
    rotate_left
    · simp only [Act.put, List.setIfInBounds_toArray, List.set_cons_zero, List.set_cons_succ, i64_w, i32_w]
      rfl
    refine done_ (by kernel_rfl) ?_
    go_wp2_with fail
    have HI8 := HI
    have HB8 := Aside0.mk (Below.refl w8.heap.size w8)
    have HCP := Aside0.mk (copy_any (a := B) (by have := HXL.out; have := HL.out; omega))
    have HE2 := Aside0.mk (more_no HD0.out (show l2 ≠ [] from fun e => HL2.out.1 (by rw [e]; rfl)))
    have HMB2 := Aside0.mk (show byteRow (B ++ l2) from fun c hc => (List.mem_append.mp hc).elim (HXY.out c) (HBM.out c))
    have HML := Aside0.mk (show (B ++ l2).length < 3000 by rw [List.length_append]; have := HXL.out; have := HL.out; have := HL2.out; omega)
    have HBL := Aside0.mk (show B.length < 2000 by have := HXL.out; have := HL.out; omega)
    refine start_ (n := 12) (S := fun w' => IsTab true w' g) (ds := []) #[false, false, false, false, false, false, false, false, false, false, false, false] (by kernel_rfl) rfl rfl (HI.out.drew1) (fun hHeld => ?_)
    refine pure_ (i := 1) (N := some 63) (v := ?_) (a' := ?_) #[false, true, false, false, false, false, false, false, false, false, false, false] rfl rfl (by kernel_rfl) (fun _ _ _ h => h) (Or.inl ⟨by rfl, ?_⟩) ?_ ?_
    rotate_left
    · intro w'
      go_simp
      with_reducible rfl
    rotate_left
    · simp only [Act.put, List.setIfInBounds_toArray, List.set_cons_zero, List.set_cons_succ, i64_w, i32_w]
      rfl
    refine pure_ (i := 3) (N := some 65) (v := ?_) (a' := ?_) #[false, true, false, true, false, false, false, false, false, false, false, false] rfl rfl (by kernel_rfl) (fun _ _ _ h => h) (Or.inl ⟨by rfl, ?_⟩) ?_ ?_
    rotate_left
    · intro w'
      go_simp
      with_reducible rfl
    rotate_left
    · simp only [Act.put, List.setIfInBounds_toArray, List.set_cons_zero, List.set_cons_succ, i64_w, i32_w]
      rfl
    refine take_ (i := 0) (N := some 62) (v := tabV true) #[true, true, false, true, false, false, false, false, false, false, false, false] rfl rfl (by kernel_rfl) (fun _ _ _ h => h) ?_ hHeld rfl ?_
    · exact yields_tab (by rfl) _ rfl _ rfl true (by intro w' s0; exact s0)
    refine norm_ (a' := ?_) ?_ ?_
    rotate_left
    · show Act.put _ (some 62) _ = _
      simp only [Act.put, List.setIfInBounds_toArray, List.set_cons_zero, List.set_cons_succ, i64_w, i32_w]
      rfl
    refine join_ (σ := Value × Option Addr × Nat × Option Addr × Nat × Nat) 2 #[true, true, true, true, true, true, true, true, true, true, false, false] (fun s_ => [(64, s_.1), (66, .slice s_.2.1 (B ++ l2).length s_.2.2.1), (67, .tuple #[.agg (frame (decH (B ++ l2)) s_.2.2.2.1 (decD (B ++ l2)).length s_.2.2.2.2.1), .int .i64 (decE (B ++ l2))]), (12, .pointer (some ⟨s_.2.2.2.2.2, 0, none⟩)), (61, .tuple #[.agg (frame (decH (B ++ l2)) s_.2.2.2.1 (decD (B ++ l2)).length s_.2.2.2.2.1), .int .i64 (decE (B ++ l2))]), (68, .agg (frame (decH (B ++ l2)) s_.2.2.2.1 (decD (B ++ l2)).length s_.2.2.2.2.1)), (69, .int .i64 (decE (B ++ l2)))]) (fun s_ w' => IsTab true w' g ∧ (Below w8.heap.size w8 w' ∧ w'.heap[s_.2.2.2.2.2]? = some (.cells #[.int .u8 0, .int .u8 0, .int .u8 0, .int .u8 0, .int .u8 0, .int .u8 0, .int .u8 0, .int .u8 0, .int .u8 0, .int .u8 0, .int .u8 0, .int .u8 0, .slice none 0 0] 45 (0, 0)) ∧ w8.heap.size ≤ s_.2.2.2.2.2)) ?_ ?_
    rotate_left
    · intro hCont
      refine two_ (i := 2) (j := 9) (Ni := some 64) (Nj := some 12) #[true, true, true, true, false, false, false, false, false, false, false, false] #[true, true, false, true, false, false, false, false, false, true, false, false] rfl rfl rfl rfl (by kernel_rfl) (by decide) (by decide) (fun K hK => ?_) (fun K hK => ?_)
      · skip
        replace HI := Aside0.mk HI.out.drew1
        replace HB8 := Aside0.mk (below_drew1 HB8.out)
        refine goes_ Try.func22 (by kernel_rfl) rfl #[.slice A6 B.length c6] (by rfl) rfl rfl (by simp only [List.map_toArray, List.map_cons, List.map_nil]; rfl) ?_
        refine (antiphonref1_Copy.calls _ A6 c6 B B _ (Kd.C_below HC6.out HB8.out) Hc6.out HCP.out).mono ?_
        rintro e z_2 ⟨vc, rfl, hR, h2⟩
        refine ⟨_, rfl, ?_⟩
        have HX := Aside0.mk (Kd.R_lower hR HB8.out.size)
        replace HI := Aside0.mk (HI.out.below h2)
        replace HB8 := Aside0.mk (below_step HB8.out h2)
        clear hR h2
        refine hK.out _ _ (HI.out) (fun hHeld => ?_)
        clear hK K
        refine norm_ (a' := ?_) ?_ ?_
        rotate_left
        · show Act.put _ (some 64) _ = _
          simp only [Act.put, List.setIfInBounds_toArray, List.set_cons_zero, List.set_cons_succ, i64_w, i32_w]
          rfl
        refine two_ (i := 4) (j := 9) (Ni := some 66) (Nj := some 12) #[true, true, true, true, true, false, false, false, false, false, false, false] #[true, true, true, true, false, false, false, false, false, true, false, false] rfl rfl rfl rfl (by kernel_rfl) (by decide) (by decide) (fun K hK => ?_) (fun K hK => ?_)
        · skip
          refine Kd.R_append_rows_step (Kd.int .u8) (w0 := w8) w8.heap.size (by rfl) (.tmp 64) (.tmp 65) 22 5 (.int .u8 0) 1 rfl Try.underlying22 info5 rfl (by decide) (by omega) vc B l2 _ _ _ (fun _ => True) (fun _ => False) rfl rfl HX.out (Kd.C_below HR2.out (below_step HB.out HB8.out)) (fun _ _ h => h) (fun _ h => h.elim) (fun _ _ => trivial) HB8.out HB8.out.size (by have := HBL.out; have := HL2.out; omega) ?_
          intro va z_2_4 ho hb hg hat
          replace HI := Aside0.mk (IsTab.grown HI.out hg (Kd.R_ne HX.out HI.out (by decide)))
          replace HX := Aside0.mk ho
          replace HB8 := Aside0.mk hb
          clear ho hb hg hat
          refine hK.out _ _ (HI.out) (fun hHeld => ?_)
          clear hK K
          refine norm_ (a' := ?_) ?_ ?_
          rotate_left
          · show Act.put _ (some 66) _ = _
            simp only [Act.put, List.setIfInBounds_toArray, List.set_cons_zero, List.set_cons_succ, i64_w, i32_w]
            rfl
          refine two_ (i := 5) (j := 9) (Ni := some 67) (Nj := some 12) #[true, true, true, true, true, true, false, false, false, false, false, false] #[true, true, true, true, true, false, false, false, false, true, false, false] rfl rfl rfl rfl (by kernel_rfl) (by decide) (by decide) (fun K hK => ?_) (fun K hK => ?_)
          · skip
            obtain ⟨Aa, ca, rfl, hca, hCa⟩ := Kd.R_reads HX.out
            refine goes_ Try.func34 (by kernel_rfl) rfl #[tabV true, .slice Aa (B ++ l2).length ca] (by rfl) rfl rfl (by simp only [List.map_toArray, List.map_cons, List.map_nil]; rfl) ?_
            refine (mac_Decode.calls Aa ca (B ++ l2) _ hCa hca HMB2.out (by have := HML.out; omega)).mono ?_
            rintro e z_2_4_5 ⟨AE, cE, rfl, hcE, hCE, h2⟩
            refine ⟨_, rfl, ?_⟩
            replace HI := Aside0.mk (HI.out.below h2)
            replace HB8 := Aside0.mk (below_step HB8.out h2)
            clear hca hCa hcE hCE h2
            refine hK.out _ _ (HI.out) (fun hHeld => ?_)
            clear hK K
            refine norm_ (a' := ?_) ?_ ?_
            rotate_left
            · show Act.put _ (some 67) _ = _
              simp only [Act.put, List.setIfInBounds_toArray, List.set_cons_zero, List.set_cons_succ, i64_w, i32_w]
              rfl
            refine pure_ (i := 6) (N := some 61) (v := ?_) (a' := ?_) #[true, true, true, true, true, true, true, false, false, false, false, false] rfl rfl (by kernel_rfl) (fun _ _ _ h => h) (Or.inl ⟨by rfl, ?_⟩) ?_ ?_
            rotate_left
            · intro w'
              go_simp
              with_reducible rfl
            rotate_left
            · simp only [Act.put, List.setIfInBounds_toArray, List.set_cons_zero, List.set_cons_succ, i64_w, i32_w]
              rfl
            refine pure_ (i := 7) (N := some 68) (v := ?_) (a' := ?_) #[true, true, true, true, true, true, true, true, false, false, false, false] rfl rfl (by kernel_rfl) (fun _ _ _ h => h) (Or.inl ⟨by rfl, ?_⟩) ?_ ?_
            rotate_left
            · intro w'
              go_simp
              with_reducible rfl
            rotate_left
            · simp only [Act.put, List.setIfInBounds_toArray, List.set_cons_zero, List.set_cons_succ, i64_w, i32_w]
              rfl
            refine pure_ (i := 8) (N := some 69) (v := ?_) (a' := ?_) #[true, true, true, true, true, true, true, true, true, false, false, false] rfl rfl (by kernel_rfl) (fun _ _ _ h => h) (Or.inl ⟨by rfl, ?_⟩) ?_ ?_
            rotate_left
            · intro w'
              go_simp
              with_reducible rfl
            rotate_left
            · simp only [Act.put, List.setIfInBounds_toArray, List.set_cons_zero, List.set_cons_succ, i64_w, i32_w]
              rfl
            refine one_ (i := 9) (N := some 12) #[true, true, true, true, true, true, true, true, true, true, false, false] rfl rfl (by kernel_rfl) (by decide) (fun K hK => ?_)
            refine value_ (w1 := z_2_4_5.alloc (.cells #[.int .u8 0, .int .u8 0, .int .u8 0, .int .u8 0, .int .u8 0, .int .u8 0, .int .u8 0, .int .u8 0, .int .u8 0, .int .u8 0, .int .u8 0, .int .u8 0, .slice none 0 0] 45 (0, 0))) (v := .pointer (some ⟨z_2_4_5.heap.size, 0, none⟩)) (by rfl) rfl ?_ ?_
            · first | (go_simp; done) | (go_simp; constructor <;> rfl) | (go_simp; rfl)
            have h1 := blk_new z_2_4_5 (.cells #[.int .u8 0, .int .u8 0, .int .u8 0, .int .u8 0, .int .u8 0, .int .u8 0, .int .u8 0, .int .u8 0, .int .u8 0, .int .u8 0, .int .u8 0, .int .u8 0, .slice none 0 0] 45 (0, 0))
            have h2 := below_alloc (Below.refl z_2_4_5.heap.size z_2_4_5) (.cells #[.int .u8 0, .int .u8 0, .int .u8 0, .int .u8 0, .int .u8 0, .int .u8 0, .int .u8 0, .int .u8 0, .int .u8 0, .int .u8 0, .int .u8 0, .int .u8 0, .slice none 0 0] 45 (0, 0))
            have HK6 := Aside0.mk (show w8.heap.size ≤ z_2_4_5.heap.size from HB8.out.size)
            generalize z_2_4_5.alloc (.cells #[.int .u8 0, .int .u8 0, .int .u8 0, .int .u8 0, .int .u8 0, .int .u8 0, .int .u8 0, .int .u8 0, .int .u8 0, .int .u8 0, .int .u8 0, .int .u8 0, .slice none 0 0] 45 (0, 0)) = z_2_4_5_9 at *
            have HZ := Aside0.mk h1
            replace HI := Aside0.mk (HI.out.below h2)
            replace HB8 := Aside0.mk (below_step HB8.out h2)
            clear h1 h2
            refine hK.out _ _ (HI.out) (fun hHeld => ?_)
            clear hK K
            refine norm_ (a' := ?_) ?_ ?_
            rotate_left
            · show Act.put _ (some 12) _ = _
              simp only [Act.put, List.setIfInBounds_toArray, List.set_cons_zero, List.set_cons_succ, i64_w, i32_w]
              rfl
            exact norm_ (by simp only [putAll, Act.put, List.setIfInBounds_toArray, List.set_cons_zero, List.set_cons_succ]) (hCont (vc, Aa, ca, AE, cE, z_2_4_5.heap.size) _ ⟨HI.out, HB8.out, HZ.out, HK6.out⟩)
          · skip
            refine value_ (w1 := z_2_4.alloc (.cells #[.int .u8 0, .int .u8 0, .int .u8 0, .int .u8 0, .int .u8 0, .int .u8 0, .int .u8 0, .int .u8 0, .int .u8 0, .int .u8 0, .int .u8 0, .int .u8 0, .slice none 0 0] 45 (0, 0))) (v := .pointer (some ⟨z_2_4.heap.size, 0, none⟩)) (by rfl) rfl ?_ ?_
            · first | (go_simp; done) | (go_simp; constructor <;> rfl) | (go_simp; rfl)
            have h1 := blk_new z_2_4 (.cells #[.int .u8 0, .int .u8 0, .int .u8 0, .int .u8 0, .int .u8 0, .int .u8 0, .int .u8 0, .int .u8 0, .int .u8 0, .int .u8 0, .int .u8 0, .int .u8 0, .slice none 0 0] 45 (0, 0))
            have h2 := below_alloc (Below.refl z_2_4.heap.size z_2_4) (.cells #[.int .u8 0, .int .u8 0, .int .u8 0, .int .u8 0, .int .u8 0, .int .u8 0, .int .u8 0, .int .u8 0, .int .u8 0, .int .u8 0, .int .u8 0, .int .u8 0, .slice none 0 0] 45 (0, 0))
            have HK6 := Aside0.mk (show w8.heap.size ≤ z_2_4.heap.size from HB8.out.size)
            replace HX := Aside0.mk (Kd.R_below HX.out h2)
            generalize z_2_4.alloc (.cells #[.int .u8 0, .int .u8 0, .int .u8 0, .int .u8 0, .int .u8 0, .int .u8 0, .int .u8 0, .int .u8 0, .int .u8 0, .int .u8 0, .int .u8 0, .int .u8 0, .slice none 0 0] 45 (0, 0)) = z_2_4_9 at *
            have HZ := Aside0.mk h1
            replace HI := Aside0.mk (HI.out.below h2)
            replace HB8 := Aside0.mk (below_step HB8.out h2)
            clear h1 h2
            refine hK.out _ _ (HI.out) (fun hHeld => ?_)
            clear hK K
            refine norm_ (a' := ?_) ?_ ?_
            rotate_left
            · show Act.put _ (some 12) _ = _
              simp only [Act.put, List.setIfInBounds_toArray, List.set_cons_zero, List.set_cons_succ, i64_w, i32_w]
              rfl
            refine one_ (i := 5) (N := some 67) #[true, true, true, true, true, true, false, false, false, true, false, false] rfl rfl (by kernel_rfl) (by decide) (fun K hK => ?_)
            obtain ⟨Aa, ca, rfl, hca, hCa⟩ := Kd.R_reads HX.out
            refine goes_ Try.func34 (by kernel_rfl) rfl #[tabV true, .slice Aa (B ++ l2).length ca] (by rfl) rfl rfl (by simp only [List.map_toArray, List.map_cons, List.map_nil]; rfl) ?_
            refine (mac_Decode.calls Aa ca (B ++ l2) _ hCa hca HMB2.out (by have := HML.out; omega)).mono ?_
            rintro e z_2_4_9_5 ⟨AE, cE, rfl, hcE, hCE, h2⟩
            refine ⟨_, rfl, ?_⟩
            replace HI := Aside0.mk (HI.out.below h2)
            replace HB8 := Aside0.mk (below_step HB8.out h2)
            replace HZ := Aside0.mk (blk_below HZ.out h2)
            clear hca hCa hcE hCE h2
            refine hK.out _ _ (HI.out) (fun hHeld => ?_)
            clear hK K
            refine norm_ (a' := ?_) ?_ ?_
            rotate_left
            · show Act.put _ (some 67) _ = _
              simp only [Act.put, List.setIfInBounds_toArray, List.set_cons_zero, List.set_cons_succ, i64_w, i32_w]
              rfl
            refine pure_ (i := 6) (N := some 61) (v := ?_) (a' := ?_) #[true, true, true, true, true, true, true, false, false, true, false, false] rfl rfl (by kernel_rfl) (fun _ _ _ h => h) (Or.inl ⟨by rfl, ?_⟩) ?_ ?_
            rotate_left
            · intro w'
              go_simp
              with_reducible rfl
            rotate_left
            · simp only [Act.put, List.setIfInBounds_toArray, List.set_cons_zero, List.set_cons_succ, i64_w, i32_w]
              rfl
            refine pure_ (i := 7) (N := some 68) (v := ?_) (a' := ?_) #[true, true, true, true, true, true, true, true, false, true, false, false] rfl rfl (by kernel_rfl) (fun _ _ _ h => h) (Or.inl ⟨by rfl, ?_⟩) ?_ ?_
            rotate_left
            · intro w'
              go_simp
              with_reducible rfl
            rotate_left
            · simp only [Act.put, List.setIfInBounds_toArray, List.set_cons_zero, List.set_cons_succ, i64_w, i32_w]
              rfl
            refine pure_ (i := 8) (N := some 69) (v := ?_) (a' := ?_) #[true, true, true, true, true, true, true, true, true, true, false, false] rfl rfl (by kernel_rfl) (fun _ _ _ h => h) (Or.inl ⟨by rfl, ?_⟩) ?_ ?_
            rotate_left
            · intro w'
              go_simp
              with_reducible rfl
            rotate_left
            · simp only [Act.put, List.setIfInBounds_toArray, List.set_cons_zero, List.set_cons_succ, i64_w, i32_w]
              rfl
            exact norm_ (by simp only [putAll, Act.put, List.setIfInBounds_toArray, List.set_cons_zero, List.set_cons_succ]) (hCont (vc, Aa, ca, AE, cE, z_2_4.heap.size) _ ⟨HI.out, HB8.out, HZ.out, HK6.out⟩)
        · skip
          refine value_ (w1 := z_2.alloc (.cells #[.int .u8 0, .int .u8 0, .int .u8 0, .int .u8 0, .int .u8 0, .int .u8 0, .int .u8 0, .int .u8 0, .int .u8 0, .int .u8 0, .int .u8 0, .int .u8 0, .slice none 0 0] 45 (0, 0))) (v := .pointer (some ⟨z_2.heap.size, 0, none⟩)) (by rfl) rfl ?_ ?_
          · first | (go_simp; done) | (go_simp; constructor <;> rfl) | (go_simp; rfl)
          have h1 := blk_new z_2 (.cells #[.int .u8 0, .int .u8 0, .int .u8 0, .int .u8 0, .int .u8 0, .int .u8 0, .int .u8 0, .int .u8 0, .int .u8 0, .int .u8 0, .int .u8 0, .int .u8 0, .slice none 0 0] 45 (0, 0))
          have h2 := below_alloc (Below.refl z_2.heap.size z_2) (.cells #[.int .u8 0, .int .u8 0, .int .u8 0, .int .u8 0, .int .u8 0, .int .u8 0, .int .u8 0, .int .u8 0, .int .u8 0, .int .u8 0, .int .u8 0, .int .u8 0, .slice none 0 0] 45 (0, 0))
          have HK6 := Aside0.mk (show w8.heap.size ≤ z_2.heap.size from HB8.out.size)
          replace HX := Aside0.mk (Kd.R_below HX.out h2)
          generalize z_2.alloc (.cells #[.int .u8 0, .int .u8 0, .int .u8 0, .int .u8 0, .int .u8 0, .int .u8 0, .int .u8 0, .int .u8 0, .int .u8 0, .int .u8 0, .int .u8 0, .int .u8 0, .slice none 0 0] 45 (0, 0)) = z_2_9 at *
          have HZ := Aside0.mk h1
          replace HI := Aside0.mk (HI.out.below h2)
          replace HB8 := Aside0.mk (below_step HB8.out h2)
          clear h1 h2
          refine hK.out _ _ (HI.out) (fun hHeld => ?_)
          clear hK K
          refine norm_ (a' := ?_) ?_ ?_
          rotate_left
          · show Act.put _ (some 12) _ = _
            simp only [Act.put, List.setIfInBounds_toArray, List.set_cons_zero, List.set_cons_succ, i64_w, i32_w]
            rfl
          refine one_ (i := 4) (N := some 66) #[true, true, true, true, true, false, false, false, false, true, false, false] rfl rfl (by kernel_rfl) (by decide) (fun K hK => ?_)
          refine Kd.R_append_rows_step (Kd.int .u8) (w0 := w8) w8.heap.size (by rfl) (.tmp 64) (.tmp 65) 22 5 (.int .u8 0) 1 rfl Try.underlying22 info5 rfl (by decide) (by omega) vc B l2 _ _ _ (fun _ => True) (fun _ => False) rfl rfl HX.out (Kd.C_below HR2.out (below_step HB.out HB8.out)) (fun _ _ h => h) (fun _ h => h.elim) (fun _ _ => trivial) HB8.out HB8.out.size (by have := HBL.out; have := HL2.out; omega) ?_
          intro va z_2_9_4 ho hb hg hat
          replace HI := Aside0.mk (IsTab.grown HI.out hg (Kd.R_ne HX.out HI.out (by decide)))
          replace HZ := Aside0.mk ((hg.block _ (blk_lt HZ.out) (Kd.R_ne HX.out HZ.out (by decide))).trans HZ.out)
          replace HX := Aside0.mk ho
          replace HB8 := Aside0.mk hb
          clear ho hb hg hat
          refine hK.out _ _ (HI.out) (fun hHeld => ?_)
          clear hK K
          refine norm_ (a' := ?_) ?_ ?_
          rotate_left
          · show Act.put _ (some 66) _ = _
            simp only [Act.put, List.setIfInBounds_toArray, List.set_cons_zero, List.set_cons_succ, i64_w, i32_w]
            rfl
          refine one_ (i := 5) (N := some 67) #[true, true, true, true, true, true, false, false, false, true, false, false] rfl rfl (by kernel_rfl) (by decide) (fun K hK => ?_)
          obtain ⟨Aa, ca, rfl, hca, hCa⟩ := Kd.R_reads HX.out
          refine goes_ Try.func34 (by kernel_rfl) rfl #[tabV true, .slice Aa (B ++ l2).length ca] (by rfl) rfl rfl (by simp only [List.map_toArray, List.map_cons, List.map_nil]; rfl) ?_
          refine (mac_Decode.calls Aa ca (B ++ l2) _ hCa hca HMB2.out (by have := HML.out; omega)).mono ?_
          rintro e z_2_9_4_5 ⟨AE, cE, rfl, hcE, hCE, h2⟩
          refine ⟨_, rfl, ?_⟩
          replace HI := Aside0.mk (HI.out.below h2)
          replace HB8 := Aside0.mk (below_step HB8.out h2)
          replace HZ := Aside0.mk (blk_below HZ.out h2)
          clear hca hCa hcE hCE h2
          refine hK.out _ _ (HI.out) (fun hHeld => ?_)
          clear hK K
          refine norm_ (a' := ?_) ?_ ?_
          rotate_left
          · show Act.put _ (some 67) _ = _
            simp only [Act.put, List.setIfInBounds_toArray, List.set_cons_zero, List.set_cons_succ, i64_w, i32_w]
            rfl
          refine pure_ (i := 6) (N := some 61) (v := ?_) (a' := ?_) #[true, true, true, true, true, true, true, false, false, true, false, false] rfl rfl (by kernel_rfl) (fun _ _ _ h => h) (Or.inl ⟨by rfl, ?_⟩) ?_ ?_
          rotate_left
          · intro w'
            go_simp
            with_reducible rfl
          rotate_left
          · simp only [Act.put, List.setIfInBounds_toArray, List.set_cons_zero, List.set_cons_succ, i64_w, i32_w]
            rfl
          refine pure_ (i := 7) (N := some 68) (v := ?_) (a' := ?_) #[true, true, true, true, true, true, true, true, false, true, false, false] rfl rfl (by kernel_rfl) (fun _ _ _ h => h) (Or.inl ⟨by rfl, ?_⟩) ?_ ?_
          rotate_left
          · intro w'
            go_simp
            with_reducible rfl
          rotate_left
          · simp only [Act.put, List.setIfInBounds_toArray, List.set_cons_zero, List.set_cons_succ, i64_w, i32_w]
            rfl
          refine pure_ (i := 8) (N := some 69) (v := ?_) (a' := ?_) #[true, true, true, true, true, true, true, true, true, true, false, false] rfl rfl (by kernel_rfl) (fun _ _ _ h => h) (Or.inl ⟨by rfl, ?_⟩) ?_ ?_
          rotate_left
          · intro w'
            go_simp
            with_reducible rfl
          rotate_left
          · simp only [Act.put, List.setIfInBounds_toArray, List.set_cons_zero, List.set_cons_succ, i64_w, i32_w]
            rfl
          exact norm_ (by simp only [putAll, Act.put, List.setIfInBounds_toArray, List.set_cons_zero, List.set_cons_succ]) (hCont (vc, Aa, ca, AE, cE, z_2.heap.size) _ ⟨HI.out, HB8.out, HZ.out, HK6.out⟩)
      · skip
        replace HI := Aside0.mk HI.out.drew1
        replace HB8 := Aside0.mk (below_drew1 HB8.out)
        refine value_ (w1 := w8.drew.alloc (.cells #[.int .u8 0, .int .u8 0, .int .u8 0, .int .u8 0, .int .u8 0, .int .u8 0, .int .u8 0, .int .u8 0, .int .u8 0, .int .u8 0, .int .u8 0, .int .u8 0, .slice none 0 0] 45 (0, 0))) (v := .pointer (some ⟨w8.drew.heap.size, 0, none⟩)) (by rfl) rfl ?_ ?_
        · first | (go_simp; done) | (go_simp; constructor <;> rfl) | (go_simp; rfl)
        have h1 := blk_new w8.drew (.cells #[.int .u8 0, .int .u8 0, .int .u8 0, .int .u8 0, .int .u8 0, .int .u8 0, .int .u8 0, .int .u8 0, .int .u8 0, .int .u8 0, .int .u8 0, .int .u8 0, .slice none 0 0] 45 (0, 0))
        have h2 := below_alloc (Below.refl w8.drew.heap.size w8.drew) (.cells #[.int .u8 0, .int .u8 0, .int .u8 0, .int .u8 0, .int .u8 0, .int .u8 0, .int .u8 0, .int .u8 0, .int .u8 0, .int .u8 0, .int .u8 0, .int .u8 0, .slice none 0 0] 45 (0, 0))
        have HK6 := Aside0.mk (show w8.heap.size ≤ w8.drew.heap.size from HB8.out.size)
        generalize w8.drew.alloc (.cells #[.int .u8 0, .int .u8 0, .int .u8 0, .int .u8 0, .int .u8 0, .int .u8 0, .int .u8 0, .int .u8 0, .int .u8 0, .int .u8 0, .int .u8 0, .int .u8 0, .slice none 0 0] 45 (0, 0)) = z_9 at *
        have HZ := Aside0.mk h1
        replace HI := Aside0.mk (HI.out.below h2)
        replace HB8 := Aside0.mk (below_step HB8.out h2)
        clear h1 h2
        refine hK.out _ _ (HI.out) (fun hHeld => ?_)
        clear hK K
        refine norm_ (a' := ?_) ?_ ?_
        rotate_left
        · show Act.put _ (some 12) _ = _
          simp only [Act.put, List.setIfInBounds_toArray, List.set_cons_zero, List.set_cons_succ, i64_w, i32_w]
          rfl
        refine one_ (i := 2) (N := some 64) #[true, true, true, true, false, false, false, false, false, true, false, false] rfl rfl (by kernel_rfl) (by decide) (fun K hK => ?_)
        refine goes_ Try.func22 (by kernel_rfl) rfl #[.slice A6 B.length c6] (by rfl) rfl rfl (by simp only [List.map_toArray, List.map_cons, List.map_nil]; rfl) ?_
        refine (antiphonref1_Copy.calls _ A6 c6 B B _ (Kd.C_below HC6.out HB8.out) Hc6.out HCP.out).mono ?_
        rintro e z_9_2 ⟨vc, rfl, hR, h2⟩
        refine ⟨_, rfl, ?_⟩
        have HX := Aside0.mk (Kd.R_lower hR HB8.out.size)
        replace HI := Aside0.mk (HI.out.below h2)
        replace HB8 := Aside0.mk (below_step HB8.out h2)
        replace HZ := Aside0.mk (blk_below HZ.out h2)
        clear hR h2
        refine hK.out _ _ (HI.out) (fun hHeld => ?_)
        clear hK K
        refine norm_ (a' := ?_) ?_ ?_
        rotate_left
        · show Act.put _ (some 64) _ = _
          simp only [Act.put, List.setIfInBounds_toArray, List.set_cons_zero, List.set_cons_succ, i64_w, i32_w]
          rfl
        refine one_ (i := 4) (N := some 66) #[true, true, true, true, true, false, false, false, false, true, false, false] rfl rfl (by kernel_rfl) (by decide) (fun K hK => ?_)
        refine Kd.R_append_rows_step (Kd.int .u8) (w0 := w8) w8.heap.size (by rfl) (.tmp 64) (.tmp 65) 22 5 (.int .u8 0) 1 rfl Try.underlying22 info5 rfl (by decide) (by omega) vc B l2 _ _ _ (fun _ => True) (fun _ => False) rfl rfl HX.out (Kd.C_below HR2.out (below_step HB.out HB8.out)) (fun _ _ h => h) (fun _ h => h.elim) (fun _ _ => trivial) HB8.out HB8.out.size (by have := HBL.out; have := HL2.out; omega) ?_
        intro va z_9_2_4 ho hb hg hat
        replace HI := Aside0.mk (IsTab.grown HI.out hg (Kd.R_ne HX.out HI.out (by decide)))
        replace HZ := Aside0.mk ((hg.block _ (blk_lt HZ.out) (Kd.R_ne HX.out HZ.out (by decide))).trans HZ.out)
        replace HX := Aside0.mk ho
        replace HB8 := Aside0.mk hb
        clear ho hb hg hat
        refine hK.out _ _ (HI.out) (fun hHeld => ?_)
        clear hK K
        refine norm_ (a' := ?_) ?_ ?_
        rotate_left
        · show Act.put _ (some 66) _ = _
          simp only [Act.put, List.setIfInBounds_toArray, List.set_cons_zero, List.set_cons_succ, i64_w, i32_w]
          rfl
        refine one_ (i := 5) (N := some 67) #[true, true, true, true, true, true, false, false, false, true, false, false] rfl rfl (by kernel_rfl) (by decide) (fun K hK => ?_)
        obtain ⟨Aa, ca, rfl, hca, hCa⟩ := Kd.R_reads HX.out
        refine goes_ Try.func34 (by kernel_rfl) rfl #[tabV true, .slice Aa (B ++ l2).length ca] (by rfl) rfl rfl (by simp only [List.map_toArray, List.map_cons, List.map_nil]; rfl) ?_
        refine (mac_Decode.calls Aa ca (B ++ l2) _ hCa hca HMB2.out (by have := HML.out; omega)).mono ?_
        rintro e z_9_2_4_5 ⟨AE, cE, rfl, hcE, hCE, h2⟩
        refine ⟨_, rfl, ?_⟩
        replace HI := Aside0.mk (HI.out.below h2)
        replace HB8 := Aside0.mk (below_step HB8.out h2)
        replace HZ := Aside0.mk (blk_below HZ.out h2)
        clear hca hCa hcE hCE h2
        refine hK.out _ _ (HI.out) (fun hHeld => ?_)
        clear hK K
        refine norm_ (a' := ?_) ?_ ?_
        rotate_left
        · show Act.put _ (some 67) _ = _
          simp only [Act.put, List.setIfInBounds_toArray, List.set_cons_zero, List.set_cons_succ, i64_w, i32_w]
          rfl
        refine pure_ (i := 6) (N := some 61) (v := ?_) (a' := ?_) #[true, true, true, true, true, true, true, false, false, true, false, false] rfl rfl (by kernel_rfl) (fun _ _ _ h => h) (Or.inl ⟨by rfl, ?_⟩) ?_ ?_
        rotate_left
        · intro w'
          go_simp
          with_reducible rfl
        rotate_left
        · simp only [Act.put, List.setIfInBounds_toArray, List.set_cons_zero, List.set_cons_succ, i64_w, i32_w]
          rfl
        refine pure_ (i := 7) (N := some 68) (v := ?_) (a' := ?_) #[true, true, true, true, true, true, true, true, false, true, false, false] rfl rfl (by kernel_rfl) (fun _ _ _ h => h) (Or.inl ⟨by rfl, ?_⟩) ?_ ?_
        rotate_left
        · intro w'
          go_simp
          with_reducible rfl
        rotate_left
        · simp only [Act.put, List.setIfInBounds_toArray, List.set_cons_zero, List.set_cons_succ, i64_w, i32_w]
          rfl
        refine pure_ (i := 8) (N := some 69) (v := ?_) (a' := ?_) #[true, true, true, true, true, true, true, true, true, true, false, false] rfl rfl (by kernel_rfl) (fun _ _ _ h => h) (Or.inl ⟨by rfl, ?_⟩) ?_ ?_
        rotate_left
        · intro w'
          go_simp
          with_reducible rfl
        rotate_left
        · simp only [Act.put, List.setIfInBounds_toArray, List.set_cons_zero, List.set_cons_succ, i64_w, i32_w]
          rfl
        exact norm_ (by simp only [putAll, Act.put, List.setIfInBounds_toArray, List.set_cons_zero, List.set_cons_succ]) (hCont (vc, Aa, ca, AE, cE, w8.drew.heap.size) _ ⟨HI.out, HB8.out, HZ.out, HK6.out⟩)
    rintro ⟨vc, Aa, ca, AE, cE, k2⟩ w9 ⟨hI_, hB_, hZ_, hK_⟩
    clear HI HB8
    have HI := Aside0.mk hI_
    have HB8 := Aside0.mk hB_
    have HZ := Aside0.mk hZ_
    have HKK := Aside0.mk hK_
    have hHeld : IsTab true w9 g := hI_
    clear hI_ hB_ hZ_ hK_
    refine norm_ (a' := ?_) ?_ ?_
    rotate_left
    · simp only [putAll, Act.put, List.setIfInBounds_toArray, List.set_cons_zero, List.set_cons_succ]
      rfl
    refine one_ (i := 10) (N := none) #[true, true, true, true, true, true, true, true, true, true, true, false] rfl rfl (by kernel_rfl) (by decide) (fun K hK => ?_)
    rw [if_pos (by rfl)]
    refine wp_store_row 45 (.tmp 12) (.tmp 68) rfl k2 (frame (decH (B ++ l2)) AE (decD (B ++ l2)).length cE) rfl rfl 45 #[.int .u8 0, .int .u8 0, .int .u8 0, .int .u8 0, .int .u8 0, .int .u8 0, .int .u8 0, .int .u8 0, .int .u8 0, .int .u8 0, .int .u8 0, .int .u8 0, .slice none 0 0] HZ.out info45_ rfl (frame_one _ _ _ _) ?_
    have hS := below_setRow HB8.out HKK.out (frame (decH (B ++ l2)) AE (decD (B ++ l2)).length cE)
    generalize w9.setRow k2 (frame (decH (B ++ l2)) AE (decD (B ++ l2)).length cE) = w10 at hS ⊢
    replace HI := Aside0.mk (HI8.out.below hS)
    replace HB := Aside0.mk (below_step HB.out hS)
    clear hS
    refine hK.out _ _ (HI.out) (fun hHeld => ?_)
    clear hK K
    refine pure_ (i := 11) (N := some 13) (v := ?_) (a' := ?_) #[true, true, true, true, true, true, true, true, true, true, true, true] rfl rfl (by kernel_rfl) (fun _ _ _ h => h) (Or.inl ⟨by rfl, ?_⟩) ?_ ?_
    rotate_left
    · intro w'
      go_simp
      with_reducible rfl
    rotate_left
    · simp only [Act.put, List.setIfInBounds_toArray, List.set_cons_zero, List.set_cons_succ, i64_w, i32_w]
      rfl
    refine done_ (by kernel_rfl) ?_
    have b3 : (decE T != 0) = true := bne_iff_ne.2 HE1.out
    have b4 : (decE (B ++ l2) != 0) = true := bne_iff_ne.2 HE2.out
    go_wp2_with fail
    go_ret
    exact ⟨rfl, HB.out⟩
end Go.Proofs.Ytpalloofjljhkaa.P
/-! Opn -/
namespace Go.Proofs.Ytpalloofjljhkaa.Opn
open Go.ChangeShapes Go.WideShapes Go.RowKit Go.Deep
open Go.Proofs.YtpalloofjljhkaaW.PrintWords
set_option linter.unusedVariables false
def Opens (P : Program) (w : World) (t : TypeId) {α : Type} (d : Kd α) (WF : α → Prop) : Prop :=
  ∀ {H : Type} {enc : TypeId × Value → H} {base : Nat} {held : Bool} {n : Nat} {cs : List Value} {y : DataW H × List MemPlace}, DataW.trod enc P w base (fun _ => true) held n t cs = some y → ∃ x, d.K w x cs ∧ WF x
section
variable {P : Program} {w : World} {t e : TypeId} {α β : Type}
theorem opens_int {k : IntKind} (ht : P.underlying t = some (.int k)) : Opens P w t (Kd.int k) (fun x => (Lit.int k x).wf = true) := by
  intro H enc base held n cs y h
  obtain ⟨x, he, _, hw⟩ := DataW.trod_int ht h
  exact ⟨x, he, hw⟩
theorem add_add_ (a : Addr) (i j : Nat) : (a.add i).add j = a.add (i + j) := by
  unfold Addr.add
  by_cases hi : i = 0 <;> by_cases hj : j = 0 <;> simp [hi, hj, Nat.add_assoc]
theorem opens_slice {d : Kd α} {WF : α → Prop} (ht : P.underlying t = some (.slice e)) (hc : P.cellsOf e = d.sz) (he : Opens P w e d WF) : Opens P w t (Kd.slice e d) (fun xs => ∀ x ∈ xs, WF x) := by
  intro H enc base held n cs y h
  rcases open_slice ht h with ⟨rfl, _⟩ | ⟨a, len, cap, m, n', D, Pl, rfl, hb, hl, hm, hmm, rfl, hx⟩
  · exact ⟨[], ⟨none, 0, rfl, Nat.le_refl _, ⟨rfl, Nat.zero_le _, fun h => absurd h (Nat.lt_irrefl 0)⟩⟩, fun x hx => by cases hx⟩
  · have hcap : m = cap := by rw [hmm]; rfl
    have key : ∀ i, i < len → ∃ x, (∃ c, c.length = d.sz ∧ d.K w x c ∧ ∀ j u, c[j]? = some u → w.cell? (a.add (i * d.sz + j)) = some u) ∧ WF x := by
      intro i hi
      obtain ⟨cs', h1, h2⟩ := hx i (by omega)
      obtain ⟨_, hlen, hcell⟩ := World.cells?_some h1
      obtain ⟨x, hK, hW⟩ := he h2
      refine ⟨x, ⟨cs', by rw [hlen, hc], hK, fun j u hj => ?_⟩, hW⟩
      have hjl : j < P.cellsOf e := by rw [← hlen]; exact (List.getElem?_eq_some_iff.1 hj).1
      have := hcell j hjl
      rw [add_add_, hc] at this
      rw [this, hj]
    by_cases h0 : len = 0
    · subst h0
      exact ⟨[], ⟨some a, cap, rfl, Nat.zero_le _, ⟨rfl, Nat.zero_le _, fun h => absurd h (Nat.lt_irrefl 0)⟩⟩, fun x hx => by cases hx⟩
    · have hinh : Nonempty α := by obtain ⟨x, _⟩ := key 0 (by omega); exact ⟨x⟩
      have : Inhabited α := Classical.inhabited_of_nonempty hinh
      obtain ⟨f, hf⟩ := choose_lt key
      have hlen : ((List.range len).map f).length = len := by simp
      refine ⟨(List.range len).map f, ⟨some a, cap, by rw [hlen], by rw [hlen]; exact hl, ⟨rfl, by rw [hlen]; unfold maxLen at hm; omega, fun _ => ⟨a, rfl, fun j p hj => ?_⟩⟩⟩, fun x hx => ?_⟩
      · have hjl : j < len := by have := (List.getElem?_eq_some_iff.1 hj).1; rwa [hlen] at this
        have hp : p = f j := by
          rw [List.getElem?_map, List.getElem?_range hjl] at hj
          exact (Option.some.inj hj).symm
        subst hp
        exact (hf j hjl).1
      · obtain ⟨i, hi, rfl⟩ := List.mem_map.1 hx
        exact (hf i (List.mem_range.1 hi)).2
def segs (P : Program) : List TypeId → Nat
  | [] => 0
  | f :: fs => P.cellsOf f + segs P fs
def OpensL (P : Program) (w : World) (fs : List TypeId) {α : Type} (d : Kd α) (WF : α → Prop) : Prop :=
  ∀ {H : Type} {enc : TypeId × Value → H} {base : Nat} {held : Bool} {n : Nat} {cs : List Value}, cs.length = segs P fs →
    (∀ (j : Nat) (f : TypeId), fs[j]? = some f → ∃ y, DataW.trod enc P w base (fun _ => true) held n f ((cs.drop (segs P (fs.take j))).take (P.cellsOf f)) = some y) → ∃ x, d.K w x cs ∧ WF x
theorem opensL_one {d : Kd α} {WF : α → Prop} (h : Opens P w t d WF) : OpensL P w [t] d WF := by
  intro H enc base held n cs hl hj
  obtain ⟨y, hy⟩ := hj 0 t rfl
  have e1 : (cs.drop (segs P ([t].take 0))).take (P.cellsOf t) = cs := by
    show (cs.drop 0).take _ = cs
    rw [List.drop_zero]
    exact List.take_of_length_le (by rw [hl]; exact Nat.le_refl _)
  rw [e1] at hy
  exact h hy
theorem opensL_cons {fs : List TypeId} {d1 : Kd α} {d2 : Kd β} {W1 : α → Prop} {W2 : β → Prop} (h1 : Opens P w t d1 W1) (h2 : OpensL P w fs d2 W2) : OpensL P w (t :: fs) (Kd.pair d1 d2) (fun x => W1 x.1 ∧ W2 x.2) := by
  intro H enc base held n cs hl hj
  have hl' : cs.length = P.cellsOf t + segs P fs := hl
  obtain ⟨y, hy⟩ := hj 0 t rfl
  have e1 : (cs.drop (segs P ((t :: fs).take 0))).take (P.cellsOf t) = cs.take (P.cellsOf t) := by
    show (cs.drop 0).take _ = _
    rw [List.drop_zero]
  rw [e1] at hy
  obtain ⟨x, hK, hW⟩ := h1 hy
  obtain ⟨z, hK2, hW2⟩ := h2 (H := H) (enc := enc) (base := base) (held := held) (n := n) (cs := cs.drop (P.cellsOf t)) (by rw [List.length_drop]; omega) (fun j f hf => by
    obtain ⟨y', hy'⟩ := hj (j + 1) f hf
    refine ⟨y', ?_⟩
    rw [List.drop_drop]
    exact hy')
  exact ⟨(x, z), ⟨cs.take (P.cellsOf t), cs.drop (P.cellsOf t), (List.take_append_drop _ _).symm, hK, hK2⟩, hW, hW2⟩
def structOk (P : Program) (t : TypeId) (fs : Array Field) (ts : List TypeId) : Bool :=
  P.cellsOf t == segs P ts && fs.size == ts.length && (List.range ts.length).all fun j => match fs[j]?, ts[j]? with
    | some f, some u => f.type == u && f.offset == segs P (ts.take j)
    | _, _ => false
theorem opens_struct {fs : Array Field} {d : Kd α} {WF : α → Prop} (ts : List TypeId) (ht : P.underlying t = some (.struct fs)) (hok : structOk P t fs ts = true) (h : OpensL P w ts d WF) : Opens P w t d WF := by
  intro H enc base held n cs y hy
  obtain ⟨xs, m, _, _, hl, hxl, hf⟩ := DataW.trod_struct ht hy
  unfold structOk at hok
  simp only [Bool.and_eq_true, beq_iff_eq, List.all_eq_true, List.mem_range] at hok
  obtain ⟨⟨h1, h2⟩, h3⟩ := hok
  refine h (H := H) (enc := enc) (base := base) (held := held) (n := m) (by rw [hl, h1]) (fun j u hu => ?_)
  have hj : j < ts.length := (List.getElem?_eq_some_iff.1 hu).1
  have h4 := h3 j hj
  have hjf : fs[j]? = some (fs[j]'(by omega)) := Array.getElem?_eq_getElem (by omega)
  rw [hjf, hu] at h4
  simp only [Bool.and_eq_true, beq_iff_eq] at h4
  have h5 := hf j _ hjf
  rw [h4.1, h4.2] at h5
  exact ⟨_, h5.trans (List.getElem?_eq_getElem (by omega))⟩
theorem segs_rep (k : Nat) : segs P (List.replicate k e) = k * P.cellsOf e := by
  induction k with
  | zero => exact (Nat.zero_mul _).symm
  | succ k ih => show P.cellsOf e + segs P (List.replicate k e) = _; rw [ih, Nat.succ_mul, Nat.add_comm]
theorem opens_array {k : Nat} {d : Kd α} {WF : α → Prop} (ht : P.underlying t = some (.array k e)) (hC : (P.cellsOf t == k * P.cellsOf e) = true) (h : OpensL P w (List.replicate k e) d WF) : Opens P w t d WF := by
  intro H enc base held n cs y hy
  obtain ⟨xs, m, _, _, hl, hxl, hf⟩ := DataW.trod_array ht hy
  refine h (H := H) (enc := enc) (base := base) (held := held) (n := m) (by rw [hl, segs_rep]; exact eq_of_beq hC) (fun j u hu => ?_)
  have hj : j < k := by have := (List.getElem?_eq_some_iff.1 hu).1; rwa [List.length_replicate] at this
  have hue : u = e := by
    rw [List.getElem?_replicate, if_pos hj] at hu
    exact (Option.some.inj hu).symm
  subst hue
  have h5 := hf j hj
  have e2 : segs P ((List.replicate k u).take j) = j * P.cellsOf u := by
    rw [List.take_replicate, Nat.min_eq_left (by omega), segs_rep]
  rw [e2]
  exact ⟨_, h5.trans (List.getElem?_eq_getElem (by omega))⟩
theorem arg_slice {H : Type} {enc : TypeId × Value → H} {base : Nat} {held : Bool} {d : Kd α} {WF : List α → Prop} {a : Option Addr} {n c : Nat} {D : DataW H} {p : List MemPlace} (h : Opens P w t (Kd.slice e d) WF)
    (hT : DataW.Trod enc P w base (fun _ => true) held t (.slice a n c) D p) : ∃ xs, n = xs.length ∧ xs.length ≤ c ∧ Kd.C d w a xs.length xs ∧ WF xs := by
  obtain ⟨fuel, hf⟩ := hT
  obtain ⟨xs, ⟨A, c', he, hl, hC⟩, hW⟩ := h hf
  have he2 : Value.slice a n c = .slice A xs.length c' := by
    have he3 : [Value.slice a n c] = [Value.slice A xs.length c'] := he
    exact (List.cons.inj he3).1
  injection he2 with e1 e2 e3
  subst e1
  subst e3
  exact ⟨xs, e2, hl, hC, hW⟩
theorem arg_agg {H : Type} {enc : TypeId × Value → H} {base : Nat} {held : Bool} {d : Kd α} {WF : α → Prop} {cs : Array Value} {D : DataW H} {p : List MemPlace} (h : Opens P w t d WF)
    (hT : DataW.Trod enc P w base (fun _ => true) held t (.agg cs) D p) : ∃ x, d.K w x cs.toList ∧ WF x := by
  obtain ⟨fuel, hf⟩ := hT
  exact h hf
end
end Go.Proofs.Ytpalloofjljhkaa.Opn
/-! WalkMacCuts -/
namespace Go.Proofs.Ytpalloofjljhkaa.P
open Go.RowKit Go.Proofs.YtpalloofjljhkaaW.PrintWords Go.Proofs.YtpalloofjljhkaaW.PrintLast Go.Proofs.YtpalloofjljhkaaW.PrintMore
def antiphonlaw3_MacCuts.Pure : Prop := ∀ (a0_0 : Int) (a0_1 : Int) (a0_2 : Int) (a0_3 : Int) (a0_4 : Int) (a0_5 : Int) (a0_6 : Int) (a0_7 : Int) (a0_8 : Int) (a0_9 : Int) (a0_10 : Int) (a0_11 : Int) (l0_12 : List Int) (a1 : Int) (l2 : List Int), (Lit.int .u8 a0_0).wf = true → (Lit.int .u8 a0_1).wf = true → (Lit.int .u8 a0_2).wf = true → (Lit.int .u8 a0_3).wf = true → (Lit.int .u8 a0_4).wf = true → (Lit.int .u8 a0_5).wf = true → (Lit.int .u8 a0_6).wf = true → (Lit.int .u8 a0_7).wf = true → (Lit.int .u8 a0_8).wf = true → (Lit.int .u8 a0_9).wf = true → (Lit.int .u8 a0_10).wf = true → (Lit.int .u8 a0_11).wf = true → l0_12.length ≤ 9223372036854775807 → (∀ yl0_12 ∈ l0_12, (Lit.int .u8 yl0_12).wf = true) → (Lit.int .u16 a1).wf = true → l2.length ≤ 9223372036854775807 → (∀ yl2 ∈ l2, (Lit.int .u8 yl2).wf = true) → antiphonlaw3_MacCuts.f a0_0 a0_1 a0_2 a0_3 a0_4 a0_5 a0_6 a0_7 a0_8 a0_9 a0_10 a0_11 l0_12 a1 l2 = some true
end Go.Proofs.Ytpalloofjljhkaa.P
/-! PureMacCuts -/
namespace Go.Proofs.Ytpalloofjljhkaa.Pure
open Go.RowKit Go.Proofs.Ytpalloofjljhkaa Go.Proofs.Ytpalloofjljhkaa.P Go.Proofs.YtpalloofjljhkaaW.PrintWords Go.Proofs.YtpalloofjljhkaaW.PrintLast
theorem six_wf {a b c d e f : Int} (h0 : (Lit.int .u8 a).wf = true) (h1 : (Lit.int .u8 b).wf = true) (h2 : (Lit.int .u8 c).wf = true) (h3 : (Lit.int .u8 d).wf = true) (h4 : (Lit.int .u8 e).wf = true) (h5 : (Lit.int .u8 f).wf = true) : ∀ x ∈ [a, b, c, d, e, f], 0 ≤ x ∧ x < 256 := by
  intro x hx
  simp only [List.mem_cons, List.not_mem_nil, or_false] at hx
  rcases hx with rfl | rfl | rfl | rfl | rfl | rfl <;> exact Lib.u8_wf (by assumption)
theorem u16_wf' {x : Int} (h : (Lit.int .u16 x).wf = true) : 0 ≤ x ∧ x < 65536 := by
  simp [Lit.wf, IntKind.min, IntKind.max, IntKind.signed, IntKind.bits] at h
  omega
theorem MacCuts : antiphonlaw3_MacCuts.Pure := by
  intro a0 a1 a2 a3 a4 a5 a6 a7 a8 a9 a10 a11 l0 c l2 h0 h1 h2 h3 h4 h5 h6 h7 h8 h9 h10 h11 _ hw hc _ hw2
  unfold antiphonlaw3_MacCuts.f
  rw [if_pos ⟨six_wf h0 h1 h2 h3 h4 h5, six_wf h6 h7 h8 h9 h10 h11, fun c hc => Lib.u8_wf (hw c hc), u16_wf' hc, fun c hc => Lib.u8_wf (hw2 c hc)⟩]
end Go.Proofs.Ytpalloofjljhkaa.Pure
/-! LawMacCuts -/
namespace Go.Proofs.Ytpalloofjljhkaa.macCuts
open Go.ChangeShapes Go.WideShapes Go.ChangeAt Go.RowKit
open Go.ChangeMaps (open_string shut_string)
open Go.Proofs.YtpalloofjljhkaaW.PrintWords (Kd)
open P
set_option linter.unusedVariables false
theorem own : ownKnob Try.prog.godebug = none := by kernel_rfl
theorem laidOut : laidOutB Try.prog = true := by kernel_rfl
set_option maxRecDepth 100000 in
theorem lifted (os : Os) (started : os.Started) (H : Type) (enc : TypeId × Value → H) :
    ReturnsInHanded {} Try.checked os 13 .any (Rows.macCutsSpec.pre6 enc Try.prog Try.f13 Rows.macCutsRow.domain false) (Rows.macCutsSpec.post enc Try.prog Try.f13 false true false false) := by
  refine returnsInHanded_of_change_sized (C := Try.checked) own started (by kernel_rfl) Try.func13
    (ChangeSpec.witness6 (enc := enc) (C := Try.checked) false ⟨#[], #[.agg #[.int .u8 0, .int .u8 0, .int .u8 0, .int .u8 0, .int .u8 0, .int .u8 0, .int .u8 0, .int .u8 0, .int .u8 0, .int .u8 0, .int .u8 0, .int .u8 0, .slice none 0 0], .int .u16 0, .slice none 0 0], []⟩ 8 (by kernel_rfl) (by kernel_rfl) (by kernel_rfl) (by kernel_rfl)) ?_
  intro W base args ds gs before hval0 hW hcnd hsz0 _
  have hval : ∀ (j : Nat) t v, Try.f13.params[j]? = some t → args[j]? = some v → Value.okWide Try.prog W .any base t v := hval0
  have hW' := hW
  obtain ⟨p, q, hA0, hV, rfl, hfz, hnd⟩ := hW
  have hA : DataW.TrodAll enc Try.prog W 0 (fun _ => true) true Try.f13.params.toList args.toList ds p := hA0
  rw [Try.params13] at hA hval
  obtain ⟨v0, vs0, d0, ds0, p0, q0, hargs, rfl, rfl, h0, r0⟩ := trodAll_cons hA
  obtain ⟨v1, vs1, d1, ds1, p1, q1, rfl, rfl, rfl, h1, r1⟩ := trodAll_cons r0
  obtain ⟨v2, vs2, d2, ds2, p2, q2, rfl, rfl, rfl, h2, r2⟩ := trodAll_cons r1
  obtain ⟨rfl, rfl, rfl⟩ := trodAll_nil r2
  obtain rfl : args = #[v0, v1, v2] := by cases args; simp_all
  obtain ⟨rfl, rfl⟩ := trodVars_none hV
  obtain ⟨cs0, rfl⟩ : ∃ cs, v0 = .agg cs := by have hv_ := (hval 0 45 v0 rfl rfl); unfold Value.okWide at hv_; rw [Try.underlying45] at hv_; obtain ⟨cs, hc_, _⟩ := hv_; exact ⟨cs, hc_⟩
  have k0 := h0
  have lt0 : ∀ x ∈ p0, x.block < W.heap.size := by obtain ⟨m, hm⟩ := k0; exact DataW.trod_lt m _ _ _ hm
  obtain ⟨⟨⟨a0_0, a0_1, a0_2, a0_3, a0_4, a0_5⟩, ⟨a0_6, a0_7, a0_8, a0_9, a0_10, a0_11⟩, l0_12⟩, ⟨_, _, he0, ⟨_, _, rfl, rfl, ⟨_, _, rfl, rfl, ⟨_, _, rfl, rfl, ⟨_, _, rfl, rfl, ⟨_, _, rfl, rfl, rfl⟩⟩⟩⟩⟩, ⟨_, _, rfl, ⟨_, _, rfl, rfl, ⟨_, _, rfl, rfl, ⟨_, _, rfl, rfl, ⟨_, _, rfl, rfl, ⟨_, _, rfl, rfl, rfl⟩⟩⟩⟩⟩, ⟨A0_12, c0_12, rfl, hc0_12, hr0_12⟩⟩⟩, ⟨⟨w0_0, w0_1, w0_2, w0_3, w0_4, w0_5⟩, ⟨w0_6, w0_7, w0_8, w0_9, w0_10, w0_11⟩, w0_12⟩⟩ := Opn.arg_agg (d := (Kd.pair (Kd.pair (Kd.int .u8) (Kd.pair (Kd.int .u8) (Kd.pair (Kd.int .u8) (Kd.pair (Kd.int .u8) (Kd.pair (Kd.int .u8) (Kd.int .u8)))))) (Kd.pair (Kd.pair (Kd.int .u8) (Kd.pair (Kd.int .u8) (Kd.pair (Kd.int .u8) (Kd.pair (Kd.int .u8) (Kd.pair (Kd.int .u8) (Kd.int .u8)))))) (Kd.slice 5 (Kd.int .u8))))) (Opn.opens_struct [43, 43, 22] Try.underlying45 (by kernel_rfl) (Opn.opensL_cons (Opn.opens_array Try.underlying43 (by kernel_rfl) (Opn.opensL_cons (Opn.opens_int Try.underlying5) (Opn.opensL_cons (Opn.opens_int Try.underlying5) (Opn.opensL_cons (Opn.opens_int Try.underlying5) (Opn.opensL_cons (Opn.opens_int Try.underlying5) (Opn.opensL_cons (Opn.opens_int Try.underlying5) (Opn.opensL_one (Opn.opens_int Try.underlying5)))))))) (Opn.opensL_cons (Opn.opens_array Try.underlying43 (by kernel_rfl) (Opn.opensL_cons (Opn.opens_int Try.underlying5) (Opn.opensL_cons (Opn.opens_int Try.underlying5) (Opn.opensL_cons (Opn.opens_int Try.underlying5) (Opn.opensL_cons (Opn.opens_int Try.underlying5) (Opn.opensL_cons (Opn.opens_int Try.underlying5) (Opn.opensL_one (Opn.opens_int Try.underlying5)))))))) (Opn.opensL_one (Opn.opens_slice Try.underlying22 (by kernel_rfl) (Opn.opens_int Try.underlying5)))))) h0
  obtain rfl : cs0 = #[.int .u8 a0_0, .int .u8 a0_1, .int .u8 a0_2, .int .u8 a0_3, .int .u8 a0_4, .int .u8 a0_5, .int .u8 a0_6, .int .u8 a0_7, .int .u8 a0_8, .int .u8 a0_9, .int .u8 a0_10, .int .u8 a0_11, .slice A0_12 l0_12.length c0_12] := Array.ext' (he0.trans rfl)
  have hm0_12 : l0_12.length ≤ 9223372036854775807 := hr0_12.2.1
  obtain ⟨a1, rfl, rfl, rfl, w1⟩ := open_int Try.underlying61 (hval 1 61 v1 rfl rfl) h1
  obtain ⟨A2, n2, c2, rfl⟩ := okWide_slice Try.underlying22 (hval 2 22 v2 rfl rfl)
  have k2 := h2
  have lt2 : ∀ x ∈ p2, x.block < W.heap.size := by obtain ⟨m, hm⟩ := k2; exact DataW.trod_lt m _ _ _ hm
  obtain ⟨l2, rfl, hc2, hr2, hw2⟩ := Opn.arg_slice (d := (Kd.int .u8)) (Opn.opens_slice Try.underlying22 (by kernel_rfl) (Opn.opens_int Try.underlying5)) h2
  have hm2 : l2.length ≤ 9223372036854775807 := hr2.2.1
  clear hA0 hval0 hsz0 hval
  have h := Pure.MacCuts a0_0 a0_1 a0_2 a0_3 a0_4 a0_5 a0_6 a0_7 a0_8 a0_9 a0_10 a0_11 l0_12 a1 l2 w0_0 w0_1 w0_2 w0_3 w0_4 w0_5 w0_6 w0_7 w0_8 w0_9 w0_10 w0_11 hm0_12 w0_12 w1 hm2 hw2
  refine (P.antiphonlaw3_MacCuts.calls a0_0 a0_1 a0_2 a0_3 a0_4 a0_5 a0_6 a0_7 a0_8 a0_9 a0_10 a0_11 _ _ l0_12 a1 _ _ l2 true W hr0_12 hc0_12 hr2 hc2 h).mono fun e W' ⟨he, bel⟩ => ?_
  subst he
  exact ⟨_, rfl, _, _, _, [], _, [], hW', trodAll_mk1 (shut_bool Try.underlying4 _), (trodAll_cons_mk (Below.trod laidOut (by kernel_rfl) (of_decide_eq_true (by kernel_rfl)) k0 bel lt0) (trodAll_cons_mk (shut_int Try.underlying61 w1) (trodAll_cons_mk (Below.trod laidOut (by kernel_rfl) (of_decide_eq_true (by kernel_rfl)) k2 bel lt2) trodAll_mk0))), rfl, bel.frame _, fun h => by cases h⟩
theorem fact0 : (Rows.macCutsRow.wf (OpenSpec.ofChange Rows.macCutsSpec)) = true := by kernel_rfl
theorem fact1 : (laidOutB Try.prog) = true := Kit.laidOut
theorem fact2 : (mapsRowed Try.prog) = true := Kit.mapsRowed
theorem fact3 : (Try.f13.params.all (Try.prog.readableRec ·)) = true := by kernel_rfl
theorem fact4 : (namedTie Try.prog Rows.macCutsRow.named Rows.macCutsSpec.vars) = true := by kernel_rfl
theorem fact5 : ((Rows.macCutsRow.stops == [])) = true := by kernel_rfl
theorem fact6 : ((Try.prog.stops == [])) = true := Kit.stops
theorem fact7 : ((Rows.macCutsRow.knobs == [])) = true := by kernel_rfl
theorem fact8 : ((Try.prog.stopKnobs == [])) = true := Kit.stopKnobs
theorem fact9 : ((Rows.macCutsRow.inPlace == Try.prog.inPlace 13)) = true := by kernel_rfl
theorem fact10 : ((Rows.macCutsRow.unfollowed == Try.prog.unfollowed 13)) = true := by kernel_rfl
theorem fact11 : ((Rows.macCutsRow.recurses == Try.prog.recurses 13)) = true := by kernel_rfl
theorem fact12 : ((Rows.macCutsRow.named == Try.prog.varsNamed 13)) = true := by kernel_rfl
theorem fact13 : ((Rows.macCutsRow.maps == (Try.f13.params.toList ++ Rows.macCutsSpec.plain.varTypes Try.prog).any (Try.prog.mapsRec ·))) = true := by kernel_rfl
theorem fact14 : ((Rows.macCutsRow.ifaces == (Try.f13.params.toList ++ Rows.macCutsSpec.plain.varTypes Try.prog).any (Try.prog.ifacesRec ·))) = true := by kernel_rfl
theorem fact15 : ((Rows.macCutsRow.mapsOut == Try.prog.mapsAmong Try.f13.resultTypes.toList)) = true := by kernel_rfl
theorem fact16 : ((Rows.macCutsRow.loops == (Try.f13.params.toList ++ Rows.macCutsSpec.plain.varTypes Try.prog).any (Try.prog.loopsFrom ·))) = true := by kernel_rfl
theorem fact17 : ((Rows.macCutsRow.wideKeys == (Try.f13.params.toList ++ Rows.macCutsSpec.plain.varTypes Try.prog ++ Try.f13.resultTypes.toList).any (Try.prog.wideKeysFrom ·))) = true := by kernel_rfl
theorem fact18 : (Rows.macCutsSpec.vars.all (Try.prog.varReadable ·)) = true := by kernel_rfl
theorem fact19 : (Try.f13.resultTypes.all (fun t => Try.prog.readableRec t && decide (t < Try.prog.types.size))) = true := by kernel_rfl
theorem fact20 : ((Rows.macCutsRow.ifacesOut == Try.f13.resultTypes.toList.any (Try.prog.ifacesRec ·))) = true := by kernel_rfl
theorem fact21 : ((Rows.macCutsRow.loopsOut == Try.f13.resultTypes.toList.any (Try.prog.loopsFrom ·))) = true := by kernel_rfl
theorem fact22 : ((Rows.macCutsRow.plainKeys == Try.prog.plainKeys)) = true := (by rw [Kit.plainKeys]; rfl)
theorem fact23 : (Rows.macCutsRow.shortTexts.isNone) = true := by kernel_rfl
theorem fact24 : (Try.prog.stopsHeard) = true := Kit.stopsHeard
theorem fact25 : (Try.prog.mayEnter) = true := Kit.mayEnter
theorem fact26 : ((Rows.macCutsRow.lifted == Try.prog.liftsFinal)) = true := (by rw [Kit.liftsFinal]; rfl)
theorem fact27 : ((Try.prog.make == some Rows.macCutsRow.make)) = true := (by rw [Kit.make]; rfl)
theorem fact28 : ((Rows.macCutsRow.kinds == (if Rows.macCutsRow.domain.isEmpty then [] else Try.f13.params.toList.map fun t => match Try.prog.underlying t with | some (.int k) => some k | _ => none))) = true := by kernel_rfl
theorem fact29 : ((Rows.macCutsRow.pinned == Rows.macCutsRow.pinnedBy)) = true := by kernel_rfl
theorem fact30 : ((Rows.macCutsRow.veiled == (Try.f13.params.toList ++ Rows.macCutsSpec.plain.varTypes Try.prog ++ Try.f13.resultTypes.toList).any (Try.prog.veiledRec ·))) = true := by kernel_rfl
theorem fact31 : (Rows.macCutsRow.veiledFits Try.prog Try.f13.params.toList (Try.f13.params.toList ++ Rows.macCutsSpec.plain.varTypes Try.prog ++ Try.f13.resultTypes.toList)) = true := by kernel_rfl
set_option maxRecDepth 100000 in
theorem closed : joinedFacts Try.prog 13 Try.f13 Rows.macCutsSpec Rows.macCutsRow = true := by
  unfold joinedFacts
  exact (Kit.and2 (Kit.and2 (Kit.and2 (Kit.and2 (Kit.and2 (Kit.and2 (Kit.and2 (Kit.and2 (Kit.and2 (Kit.and2 (Kit.and2 (Kit.and2 (Kit.and2 (Kit.and2 (Kit.and2 (Kit.and2 (Kit.and2 (Kit.and2 (Kit.and2 (Kit.and2 (Kit.and2 (Kit.and2 (Kit.and2 (Kit.and2 (Kit.and2 (Kit.and2 (Kit.and2 (Kit.and2 (Kit.and2 (Kit.and2 (Kit.and2 fact0 fact1) fact2) fact3) fact4) fact5) fact6) fact7) fact8) fact9) fact10) fact11) fact12) fact13) fact14) fact15) fact16) fact17) fact18) fact19) fact20) fact21) fact22) fact23) fact24) fact25) fact26) fact27) fact28) fact29) fact30) fact31)
theorem named : Try.prog.funcNamed Rows.macCutsRow.func = some 13 := by kernel_rfl
theorem inst : Try.f13.isInstance Try.prog Rows.macCutsRow.origin Rows.macCutsRow.targs := of_decide_eq_true (by kernel_rfl)
theorem wrap_ : Try.f13.isWrapper Try.prog Rows.macCutsRow.wrapper Rows.macCutsRow.mainSum := by unfold Func.isWrapper; first | (rw [if_pos (by decide +kernel)]; kernel_rfl) | (rw [if_neg (by decide +kernel)]; exact ⟨rfl, rfl⟩)
theorem over : Rows.macCutsRow.holds Try.pinned (OpenSpec.ofChange Rows.macCutsSpec) :=
  OpenClaim.holds_of_wide 13 Try.f13 rfl rfl rfl rfl rfl rfl rfl ⟨rfl, rfl, rfl, rfl, rfl⟩ rfl rfl rfl rfl rfl named Try.func13 closed
    inst wrap_
    (fun os started H enc _ => lifted os started H enc)
theorem proved : Rows.MacCutsSaid := over
#print axioms proved
end Go.Proofs.Ytpalloofjljhkaa.macCuts
namespace Go.Proofs.Ytpalloofjljhkaa
theorem macCuts_holds : Rows.MacCutsSaid := macCuts.proved
end Go.Proofs.Ytpalloofjljhkaa
