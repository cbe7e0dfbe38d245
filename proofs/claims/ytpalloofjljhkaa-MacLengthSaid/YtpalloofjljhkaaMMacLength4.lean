/- A frame whose length lies, or behind whose data something else stands than noughts, is none. -/
-- Put together by wip/print2/mergelaw.py: printed words (what this claim does not use is left out), printed functions, texts of this session.
import Derived.Test.YtpalloofjljhkaaMMacLength3
/-! LenB -/
namespace Go.Proofs.Ytpalloofjljhkaa.P
open Go.RowKit Go.Proofs.Ytpalloofjljhkaa.Lib Go.Proofs.YtpalloofjljhkaaW.PrintWords Go.Proofs.YtpalloofjljhkaaW.PrintLast Go.Proofs.YtpalloofjljhkaaW.PrintMore
set_option linter.unusedVariables false
set_option linter.unusedSimpArgs false
attribute [local go_sem] max2_int min2_int max_two min_two max_three min_three max_four min_four   -- for this text's walks alone
set_option maxHeartbeats 8000000 in
set_option maxRecDepth 100000 in
theorem antiphonlaw3_lengths.callsB (a0_0 : Int) (a0_1 : Int) (a0_2 : Int) (a0_3 : Int) (a0_4 : Int) (a0_5 : Int) (a0_6 : Int) (a0_7 : Int) (a0_8 : Int) (a0_9 : Int) (a0_10 : Int) (a0_11 : Int) (A0_12 : Option Addr) (c0_12 : Nat) (l0_12 : List Int) (a1 : Int) (a2 : Int) (a3 : Int) (r : Bool) (w : World) (hr0_12 : Kd.C (Kd.int .u8) w A0_12 l0_12.length l0_12) (hc0_12 : l0_12.length ≤ c0_12) (hs : (a1 ≤ 1500 ∧ 14 + (if a1.toNat < 46 then 46 else a1.toNat) = 14 + l0_12.length + (46 - l0_12.length))) (h : antiphonlaw3_lengths.f a0_0 a0_1 a0_2 a0_3 a0_4 a0_5 a0_6 a0_7 a0_8 a0_9 a0_10 a0_11 l0_12 a1 a2 a3 = some r) :
    Calls Try.prog 39 #[.agg #[.int .u8 a0_0, .int .u8 a0_1, .int .u8 a0_2, .int .u8 a0_3, .int .u8 a0_4, .int .u8 a0_5, .int .u8 a0_6, .int .u8 a0_7, .int .u8 a0_8, .int .u8 a0_9, .int .u8 a0_10, .int .u8 a0_11, .slice A0_12 l0_12.length c0_12], .int .u16 a1, .int .u16 a2, .int .u8 a3] w fun e w' => e = .returned (.bool r) ∧ Below w.heap.size w w' := by
  unfold antiphonlaw3_lengths.f at h
  split at h
  case isFalse => exact absurd h (by simp)
  case isTrue hcd =>
  obtain ⟨hbt, hbf, hbd, h0, h1, h2⟩ := hcd
  obtain rfl := Option.some.inj h
  clear h
  have HBT := Aside0.mk (show byteRow [a0_0, a0_1, a0_2, a0_3, a0_4, a0_5] from hbt)
  have HBF := Aside0.mk (show byteRow [a0_6, a0_7, a0_8, a0_9, a0_10, a0_11] from hbf)
  have HBD := Aside0.mk (show byteRow l0_12 from hbd)
  have HR := Aside0.mk hr0_12
  have HC := Aside0.mk hc0_12
  have hm0 : l0_12.length ≤ 9223372036854775807 := hr0_12.2.1
  have hu45 := Try.underlying45
  have hu43 := Try.underlying43
  have HU1 := Aside0.mk h0
  have HSEL := Aside0.mk hs
  clear hs
  have HU2 := Aside0.mk h1
  have HU3 := Aside0.mk h2
  clear h0 h1 h2
  clear hbt hbf hbd hr0_12 hc0_12
  go_enter Try.func39, Try.ntmps39
  go_upto_region 1 with fail
  have hb1 := blk_new w (.cells #[.int .u8 a0_0, .int .u8 a0_1, .int .u8 a0_2, .int .u8 a0_3, .int .u8 a0_4, .int .u8 a0_5, .int .u8 a0_6, .int .u8 a0_7, .int .u8 a0_8, .int .u8 a0_9, .int .u8 a0_10, .int .u8 a0_11, .slice A0_12 l0_12.length c0_12] 45 (0, 0))
  have hbw := below_alloc (Below.refl w.heap.size w) (.cells #[.int .u8 a0_0, .int .u8 a0_1, .int .u8 a0_2, .int .u8 a0_3, .int .u8 a0_4, .int .u8 a0_5, .int .u8 a0_6, .int .u8 a0_7, .int .u8 a0_8, .int .u8 a0_9, .int .u8 a0_10, .int .u8 a0_11, .slice A0_12 l0_12.length c0_12] 45 (0, 0))
  generalize w.alloc (.cells #[.int .u8 a0_0, .int .u8 a0_1, .int .u8 a0_2, .int .u8 a0_3, .int .u8 a0_4, .int .u8 a0_5, .int .u8 a0_6, .int .u8 a0_7, .int .u8 a0_8, .int .u8 a0_9, .int .u8 a0_10, .int .u8 a0_11, .slice A0_12 l0_12.length c0_12] 45 (0, 0)) = w0 at hb1 hbw ⊢
  obtain ⟨gf, hgf⟩ : ∃ gf, w.heap.size = gf := ⟨_, rfl⟩
  have HGF := Aside0.mk hgf
  rw [hgf] at hb1 ⊢
  have HB := Aside0.mk (show Below w.heap.size w w0 from hbw)
  have HF := Aside0.mk hb1
  clear hb1 hbw hgf
  have hk6 := (show w0.cell? ⟨gf, 6, none⟩ = some (.int .u8 a0_6) from (blk_cell HF.out 6).trans rfl)
  have hk7 := (show w0.cell? ⟨gf, 7, none⟩ = some (.int .u8 a0_7) from (blk_cell HF.out 7).trans rfl)
  have hk8 := (show w0.cell? ⟨gf, 8, none⟩ = some (.int .u8 a0_8) from (blk_cell HF.out 8).trans rfl)
  have hk9 := (show w0.cell? ⟨gf, 9, none⟩ = some (.int .u8 a0_9) from (blk_cell HF.out 9).trans rfl)
  have hk10 := (show w0.cell? ⟨gf, 10, none⟩ = some (.int .u8 a0_10) from (blk_cell HF.out 10).trans rfl)
  have hk11 := (show w0.cell? ⟨gf, 11, none⟩ = some (.int .u8 a0_11) from (blk_cell HF.out 11).trans rfl)
  have hk12 := (show w0.cell? ⟨gf, 12, none⟩ = some (.slice A0_12 l0_12.length c0_12) from (blk_cell HF.out 12).trans rfl)
  by_cases hl : l0_12.length ≤ 1500
  case neg =>
    have d1 : decide ((1500 : Int) < (l0_12.length : Int)) = true := decide_eq_true (by omega)
    clear hl
    go_wp2_with fail
    refine (awake3_calls _).mono ?_
    rintro e wz ⟨rfl, hB⟩
    replace HB := Aside0.mk (below_step HB.out hB)
    clear hB
    go_wp2_with fail
    go_ret
    exact ⟨rfl, HB.out⟩
  have d1 : decide ((1500 : Int) < (l0_12.length : Int)) = false := decide_eq_false (by omega)
  have HL := Aside0.mk hl
  clear hl
  go_wp2_with fail
  refine (mac_Group.calls _ _ _ _ _ _ _ _ (grp_f _ _ _ _ _ _)).mono ?_
  rintro e wb ⟨rfl, hB⟩
  replace HF := Aside0.mk (blk_below HF.out hB)
  replace HB := Aside0.mk (below_step HB.out hB)
  clear hB hk6 hk7 hk8 hk9 hk10 hk11 hk12
  cases hg : isGrp a0_6 with
  | true =>
    clear hg
    go_wp2_with fail
    refine (awake3_calls _).mono ?_
    rintro e wz ⟨rfl, hB⟩
    replace HB := Aside0.mk (below_step HB.out hB)
    clear hB
    go_wp2_with fail
    go_ret
    exact ⟨rfl, HB.out⟩
  | false =>
    go_wp2_with fail
    refine (crc_Make.calls _).mono ?_
    rintro e w1 ⟨rfl, hB⟩
    replace HF := Aside0.mk (blk_below HF.out hB)
    have hS := (show Below wb.heap.size wb w1 from below_step (by repeat (first | with_reducible exact Below.refl _ _ | with_reducible apply below_drew1 | with_reducible apply pw_below_drewN | with_reducible apply below_alloc)) hB)
    replace HB := Aside0.mk (below_step HB.out hS)
    clear hS hB
    go_wp2_with (first
      | (refine wpList_store_tab rfl (.tmp 9) (.tmp 30) rfl w1.heap.size rfl true rfl Try.zeroCells27 (blk_new w1 _) zsz27 ?_; intro w2 hI hG; have hS := (show Below w1.heap.size w1 w2 from (below_alloc (Below.refl _ _) _).grown hG (below_alloc (Below.refl _ _) _).size (fun k hk => by cases hk; exact Nat.le_refl _)); have HG := Aside0.mk (HB.out.size); replace HB := Aside0.mk (below_step HB.out hS); generalize w1.heap.size = g at hI HG ⊢; have HI := Aside0.mk hI; replace HF := Aside0.mk (blk_below HF.out hS); clear hI hG hS)
      | (refine wpList_load_row rfl 27 (.tmp 9) rfl g rfl 27 (tabRow true) (0, 0) _ HI.out Try.underlying27 rfl (tabInf true) ?_)
      | (refine wpList_load_row rfl 45 (.tmp 4) rfl gf rfl 45 #[.int .u8 a0_0, .int .u8 a0_1, .int .u8 a0_2, .int .u8 a0_3, .int .u8 a0_4, .int .u8 a0_5, .int .u8 a0_6, .int .u8 a0_7, .int .u8 a0_8, .int .u8 a0_9, .int .u8 a0_10, .int .u8 a0_11, .slice A0_12 l0_12.length c0_12] (0, 0) _ HF.out Try.underlying45 rfl info45_ ?_))
    have HGR := Aside0.mk hg
    clear hg
    have HD0 := Aside0.mk (decE_enc (t0 := a0_0) (t1 := a0_1) (t2 := a0_2) (t3 := a0_3) (t4 := a0_4) (t5 := a0_5) (f0 := a0_6) (f1 := a0_7) (f2 := a0_8) (f3 := a0_9) (f4 := a0_10) (f5 := a0_11) HGR.out HL.out)
    have HXY := Aside0.mk (sealI_byte (enc_byte HBT.out HBF.out HBD.out))
    have HXL := Aside0.mk (show (sealI (encB [a0_0, a0_1, a0_2, a0_3, a0_4, a0_5] [a0_6, a0_7, a0_8, a0_9, a0_10, a0_11] l0_12)).length = 18 + l0_12.length + (46 - l0_12.length) by rw [sealI_len, encB_len]; omega)
    refine (mac_Encode.ok a0_0 a0_1 a0_2 a0_3 a0_4 a0_5 a0_6 a0_7 a0_8 a0_9 a0_10 a0_11 A0_12 c0_12 l0_12 _ (Kd.C_below HR.out HB.out) HC.out HGR.out HL.out HBD.out HBT.out HBF.out).mono ?_
    rintro e w6 ⟨v6, rfl, hR, hB⟩
    have HPB := Aside0.mk (enc_byte HBT.out HBF.out HBD.out)
    have HEF := Aside0.mk (encF_ok (t0 := a0_0) (t1 := a0_1) (t2 := a0_2) (t3 := a0_3) (t4 := a0_4) (t5 := a0_5) (f0 := a0_6) (f1 := a0_7) (f2 := a0_8) (f3 := a0_9) (f4 := a0_10) (f5 := a0_11) HGR.out HL.out)
    generalize encB [a0_0, a0_1, a0_2, a0_3, a0_4, a0_5] [a0_6, a0_7, a0_8, a0_9, a0_10, a0_11] l0_12 = P at HPB HEF HD0 HXY HXL hR
    obtain ⟨n, hn⟩ : ∃ n, 14 + l0_12.length + (46 - l0_12.length) = n := ⟨_, rfl⟩
    rw [hn] at HEF
    have hPl : P.length = n := HEF.out.1
    have hTK : (sealI P).take n = P := by unfold sealI; rw [← hPl, List.take_left]
    have hSL : (sealI P).length = n + 4 := by rw [sealI_len, hPl]
    have HSN := Aside0.mk hn
    generalize sealI P = B at HD0 HXY HXL hR hTK hSL
    obtain ⟨A6, c6, rfl, hc6, hC6⟩ := Kd.R_reads hR
    obtain ⟨ga, rfl⟩ := R_some_ hR (by omega)
    have HC6 := Aside0.mk hC6
    have hm6 : B.length ≤ 9223372036854775807 := hC6.2.1
    replace HF := Aside0.mk (blk_below HF.out hB)
    replace HI := Aside0.mk (HI.out.below hB)
    replace HB := Aside0.mk (below_step HB.out hB)
    have hnc : n ≤ c6 := by omega
    have hB4 : (B.length : Int) - 4 = (n : Int) := by omega
    have hn60 : 60 ≤ n := by omega
    have hn15 : n ≤ 1514 := by have := HL.out; omega
    obtain ⟨mx, hmx⟩ : ∃ mx : Int, (if (l0_12.length : Int) < 46 then 46 else (l0_12.length : Int)) = mx := ⟨_, rfl⟩
    have hmb : (B.length : Int) = 18 + mx := by rw [← hmx]; split <;> omega
    have hmx1 : 46 ≤ mx := by rw [← hmx]; split <;> omega
    have hmx2 : mx ≤ 1500 := by have := HL.out; rw [← hmx]; split <;> omega
    have b5 : decide ((B.length : Int) < 18 + mx) = false := decide_eq_false (by omega)
    have hk12 := (show w6.cell? ⟨gf, 12, none⟩ = some (.slice A0_12 l0_12.length c0_12) from (blk_cell HF.out 12).trans rfl)
    have HCT := Aside0.mk (Kd.C_take HC6.out (show n ≤ B.length by omega))
    rw [hTK, hPl] at HCT
    have HCP := Aside0.mk (antiphonref1_Copy.calls (n + 1) (some ⟨ga, 0, none⟩) c6 P P)
    rw [hPl] at HCP
    have HCF := Aside0.mk (show antiphonref1_Copy.f (n + 1) P = some P by have := copy_any (a := P) (by omega); rw [hPl] at this; exact this)
    have HPL := Aside0.mk hPl
    obtain ⟨u, rfl⟩ : ∃ u : Nat, a1 = (u : Int) := ⟨a1.toNat, by have := HU1.out; omega⟩
    have hu65 : u < 65536 := by have := HU1.out; omega
    obtain ⟨q, rfl⟩ : ∃ q : Nat, a2 = (q : Int) := ⟨a2.toNat, by have := HU2.out; omega⟩
    have hq65 : q < 65536 := by have := HU2.out; omega
    clear hB hR hC6 hc6 hmb hTK hSL hPl hn
    go_wp2_with fail
    refine (HCP.out _ HCT.out hnc HCF.out).mono ?_
    rintro e w7 ⟨vc, rfl, hR, hB⟩
    obtain ⟨Ac, cc, rfl⟩ := Kd.R_slice hR
    obtain ⟨gc, rfl⟩ := R_some_ hR (by have := HPL.out; omega)
    rw [HPL.out] at hR ⊢
    have HX := Aside0.mk hR
    have HBc := Aside0.mk hB
    have HGC := Aside0.mk (R_base_ hR)
    have hncc : n ≤ cc := by obtain ⟨_, _, he, hc, _⟩ := Kd.R_reads hR; injection he with e1 e2 e3; rw [HPL.out] at hc; omega
    clear hR hB hk12 b5
    have h12n : 12 < n := by omega
    have h13n : 13 < n := by omega
    go_wp2_with (first
      | (refine wpList_store_R rfl (.tmp 62) (.tmp 59) rfl gc 12 _ HX.out rfl rfl h12n info5_ ?_; intro r1 hZ hG; replace HX := Aside0.mk hZ; replace HBc := Aside0.mk (below_own HBc.out hG HGC.out); clear hZ hG)
      | (refine wpList_store_R rfl (.tmp 63) (.tmp 61) rfl gc 13 _ HX.out rfl rfl h13n info5_ ?_; intro r2 hZ hG; replace HX := Aside0.mk hZ; replace HBc := Aside0.mk (below_own HBc.out hG HGC.out); clear hZ hG))
    have HLI := Aside0.mk (lied_ok (u := u) HEF.out HPB.out hn60 hu65 (e1 := (u : Int) / 256) (e2 := (u : Int) % 256) rfl rfl)
    generalize (P.set 12 ((u : Int) / 256)).set 13 ((u : Int) % 256) = C at HX HLI
    have hCl : C.length = n := HLI.out.1
    have HCB := Aside0.mk (show byteRow C from HLI.out.2.1)
    have HSE := Aside0.mk (crc_Seal.calls (some ⟨gc, 0, none⟩) cc C)
    rw [hCl] at HSE
    have HSN15 := Aside0.mk (show n < 140737488355000 by omega)
    have HSB := Aside0.mk (sealI_byte HCB.out)
    have HSL := Aside0.mk (show (sealI C).length < 140737488355000 by rw [sealI_len, hCl]; omega)
    have HDC := Aside0.mk (fun (b : Bool) hb => lied_dec HLI.out hn60 b hb)
    generalize sealI C = S at HSE HSB HSL HDC
    have HCC := Aside0.mk (reads_own HX.out hCl)
    have hcc : n ≤ cc := hncc
    have HIc := HI
    replace HI := Aside0.mk (HI.out.below HBc.out)
    have HCL := Aside0.mk hCl
    clear hCl
    have HB6 := Aside0.mk (Below.refl r2.heap.size r2)
    have HI6 := HI
    refine start_ (n := 11) (S := fun w' => IsTab true w' g) (ds := []) #[false, false, false, false, false, false, false, false, false, false, false] (by kernel_rfl) rfl rfl (HI.out.drew1) (fun hHeld => ?_)
    refine pure_ (i := 2) (N := some 67) (v := ?_) (a' := ?_) #[false, false, true, false, false, false, false, false, false, false, false] rfl rfl (by kernel_rfl) (fun _ _ _ h => h) (Or.inl ⟨by rfl, ?_⟩) ?_ ?_
    rotate_left
    · intro w'
      go_simp
      with_reducible rfl
    rotate_left
    · simp only [Act.put, List.setIfInBounds_toArray, List.set_cons_zero, List.set_cons_succ, i64_w, i32_w]
      rfl
    refine take_ (i := 0) (N := some 65) (v := tabV true) #[true, false, true, false, false, false, false, false, false, false, false] rfl rfl (by kernel_rfl) (fun _ _ _ h => h) ?_ hHeld rfl ?_
    · exact yields_tab (by rfl) _ rfl _ rfl true (by intro w' s0; exact s0)
    refine norm_ (a' := ?_) ?_ ?_
    rotate_left
    · show Act.put _ (some 65) _ = _
      simp only [Act.put, List.setIfInBounds_toArray, List.set_cons_zero, List.set_cons_succ, i64_w, i32_w]
      rfl
    refine take_ (i := 1) (N := some 66) (v := tabV true) #[true, true, true, false, false, false, false, false, false, false, false] rfl rfl (by kernel_rfl) (fun _ _ _ h => h) ?_ hHeld rfl ?_
    · exact yields_tab (by rfl) _ rfl _ rfl true (by intro w' s0; exact s0)
    refine norm_ (a' := ?_) ?_ ?_
    rotate_left
    · show Act.put _ (some 66) _ = _
      simp only [Act.put, List.setIfInBounds_toArray, List.set_cons_zero, List.set_cons_succ, i64_w, i32_w]
      rfl
    refine join_ (σ := Option Addr × Nat × Option Addr × Nat × Nat) 2 #[true, true, true, true, true, true, true, true, true, false, false] (fun s_ => [(68, .slice s_.1 S.length s_.2.1), (69, .tuple #[.agg (frame (decH S) s_.2.2.1 (decD S).length s_.2.2.2.1), .int .i64 (decE S)]), (13, .pointer (some ⟨s_.2.2.2.2, 0, none⟩)), (64, .tuple #[.agg (frame (decH S) s_.2.2.1 (decD S).length s_.2.2.2.1), .int .i64 (decE S)]), (70, .agg (frame (decH S) s_.2.2.1 (decD S).length s_.2.2.2.1)), (71, .int .i64 (decE S))]) (fun s_ w' => IsTab true w' g ∧ (Below r2.heap.size r2 w' ∧ w'.heap[s_.2.2.2.2]? = some (.cells #[.int .u8 0, .int .u8 0, .int .u8 0, .int .u8 0, .int .u8 0, .int .u8 0, .int .u8 0, .int .u8 0, .int .u8 0, .int .u8 0, .int .u8 0, .int .u8 0, .slice none 0 0] 45 (0, 0)) ∧ r2.heap.size ≤ s_.2.2.2.2)) ?_ ?_
    rotate_left
    · intro hCont
      refine two_ (i := 3) (j := 8) (Ni := some 68) (Nj := some 13) #[true, true, true, true, false, false, false, false, false, false, false] #[true, true, true, false, false, false, false, false, true, false, false] rfl rfl rfl rfl (by kernel_rfl) (by decide) (by decide) (fun K hK => ?_) (fun K hK => ?_)
      · skip
        replace HI := Aside0.mk HI.out.drew1
        replace HB6 := Aside0.mk (below_drew1 HB6.out)
        refine goes_ Try.func26 (by kernel_rfl) rfl #[tabV true, .slice (some ⟨gc, 0, none⟩) n cc] (by rfl) rfl rfl (by go_simp) ?_
        refine (HSE.out _ (Kd.C_below HCC.out HB6.out) hcc HCB.out HSN15.out).mono ?_
        rintro e y_3 ⟨vx, rfl, hR, h2⟩
        refine ⟨_, rfl, ?_⟩
        obtain ⟨AX, cX, rfl, hcX, hCX⟩ := Kd.R_reads hR
        have HCX := Aside0.mk hCX
        have HcX := Aside0.mk hcX
        replace HI := Aside0.mk (HI.out.below h2)
        replace HB6 := Aside0.mk (below_step HB6.out h2)
        clear hR h2 hcX hCX
        refine hK.out _ _ (HI.out) (fun hHeld => ?_)
        clear hK K
        refine norm_ (a' := ?_) ?_ ?_
        rotate_left
        · show Act.put _ (some 68) _ = _
          simp only [Act.put, List.setIfInBounds_toArray, List.set_cons_zero, List.set_cons_succ, i64_w, i32_w]
          rfl
        refine two_ (i := 4) (j := 8) (Ni := some 69) (Nj := some 13) #[true, true, true, true, true, false, false, false, false, false, false] #[true, true, true, true, false, false, false, false, true, false, false] rfl rfl rfl rfl (by kernel_rfl) (by decide) (by decide) (fun K hK => ?_) (fun K hK => ?_)
        · skip
          refine goes_ Try.func34 (by kernel_rfl) rfl #[tabV true, .slice AX S.length cX] (by rfl) rfl rfl (by go_simp) ?_
          refine (mac_Decode.calls AX cX S _ HCX.out HcX.out HSB.out HSL.out).mono ?_
          rintro e y_3_4 ⟨AD, cD, rfl, hcD, hCD, h2⟩
          refine ⟨_, rfl, ?_⟩
          replace HI := Aside0.mk (HI.out.below h2)
          replace HB6 := Aside0.mk (below_step HB6.out h2)
          clear hcD hCD h2
          refine hK.out _ _ (HI.out) (fun hHeld => ?_)
          clear hK K
          refine norm_ (a' := ?_) ?_ ?_
          rotate_left
          · show Act.put _ (some 69) _ = _
            simp only [Act.put, List.setIfInBounds_toArray, List.set_cons_zero, List.set_cons_succ, i64_w, i32_w]
            rfl
          refine pure_ (i := 5) (N := some 64) (v := ?_) (a' := ?_) #[true, true, true, true, true, true, false, false, false, false, false] rfl rfl (by kernel_rfl) (fun _ _ _ h => h) (Or.inl ⟨by rfl, ?_⟩) ?_ ?_
          rotate_left
          · intro w'
            go_simp
            with_reducible rfl
          rotate_left
          · simp only [Act.put, List.setIfInBounds_toArray, List.set_cons_zero, List.set_cons_succ, i64_w, i32_w]
            rfl
          refine pure_ (i := 6) (N := some 70) (v := ?_) (a' := ?_) #[true, true, true, true, true, true, true, false, false, false, false] rfl rfl (by kernel_rfl) (fun _ _ _ h => h) (Or.inl ⟨by rfl, ?_⟩) ?_ ?_
          rotate_left
          · intro w'
            go_simp
            with_reducible rfl
          rotate_left
          · simp only [Act.put, List.setIfInBounds_toArray, List.set_cons_zero, List.set_cons_succ, i64_w, i32_w]
            rfl
          refine pure_ (i := 7) (N := some 71) (v := ?_) (a' := ?_) #[true, true, true, true, true, true, true, true, false, false, false] rfl rfl (by kernel_rfl) (fun _ _ _ h => h) (Or.inl ⟨by rfl, ?_⟩) ?_ ?_
          rotate_left
          · intro w'
            go_simp
            with_reducible rfl
          rotate_left
          · simp only [Act.put, List.setIfInBounds_toArray, List.set_cons_zero, List.set_cons_succ, i64_w, i32_w]
            rfl
          refine one_ (i := 8) (N := some 13) #[true, true, true, true, true, true, true, true, true, false, false] rfl rfl (by kernel_rfl) (by decide) (fun K hK => ?_)
          refine value_ (w1 := y_3_4.alloc (.cells #[.int .u8 0, .int .u8 0, .int .u8 0, .int .u8 0, .int .u8 0, .int .u8 0, .int .u8 0, .int .u8 0, .int .u8 0, .int .u8 0, .int .u8 0, .int .u8 0, .slice none 0 0] 45 (0, 0))) (v := .pointer (some ⟨y_3_4.heap.size, 0, none⟩)) (by rfl) rfl ?_ ?_
          · first | (go_simp; done) | (go_simp; constructor <;> rfl) | (go_simp; rfl)
          have h1 := blk_new y_3_4 (.cells #[.int .u8 0, .int .u8 0, .int .u8 0, .int .u8 0, .int .u8 0, .int .u8 0, .int .u8 0, .int .u8 0, .int .u8 0, .int .u8 0, .int .u8 0, .int .u8 0, .slice none 0 0] 45 (0, 0))
          have h2 := below_alloc (Below.refl y_3_4.heap.size y_3_4) (.cells #[.int .u8 0, .int .u8 0, .int .u8 0, .int .u8 0, .int .u8 0, .int .u8 0, .int .u8 0, .int .u8 0, .int .u8 0, .int .u8 0, .int .u8 0, .int .u8 0, .slice none 0 0] 45 (0, 0))
          have HK6 := Aside0.mk (show r2.heap.size ≤ y_3_4.heap.size from HB6.out.size)
          generalize y_3_4.alloc (.cells #[.int .u8 0, .int .u8 0, .int .u8 0, .int .u8 0, .int .u8 0, .int .u8 0, .int .u8 0, .int .u8 0, .int .u8 0, .int .u8 0, .int .u8 0, .int .u8 0, .slice none 0 0] 45 (0, 0)) = y_3_4_8 at h1 h2 ⊢
          have HZ := Aside0.mk h1
          replace HI := Aside0.mk (HI.out.below h2)
          replace HB6 := Aside0.mk (below_step HB6.out h2)
          clear h1 h2
          refine hK.out _ _ (HI.out) (fun hHeld => ?_)
          clear hK K
          refine norm_ (a' := ?_) ?_ ?_
          rotate_left
          · show Act.put _ (some 13) _ = _
            simp only [Act.put, List.setIfInBounds_toArray, List.set_cons_zero, List.set_cons_succ, i64_w, i32_w]
            rfl
          exact norm_ (by simp only [putAll, Act.put, List.setIfInBounds_toArray, List.set_cons_zero, List.set_cons_succ]) (hCont (AX, cX, AD, cD, y_3_4.heap.size) _ ⟨HI.out, HB6.out, HZ.out, HK6.out⟩)
        · skip
          refine value_ (w1 := y_3.alloc (.cells #[.int .u8 0, .int .u8 0, .int .u8 0, .int .u8 0, .int .u8 0, .int .u8 0, .int .u8 0, .int .u8 0, .int .u8 0, .int .u8 0, .int .u8 0, .int .u8 0, .slice none 0 0] 45 (0, 0))) (v := .pointer (some ⟨y_3.heap.size, 0, none⟩)) (by rfl) rfl ?_ ?_
          · first | (go_simp; done) | (go_simp; constructor <;> rfl) | (go_simp; rfl)
          have h1 := blk_new y_3 (.cells #[.int .u8 0, .int .u8 0, .int .u8 0, .int .u8 0, .int .u8 0, .int .u8 0, .int .u8 0, .int .u8 0, .int .u8 0, .int .u8 0, .int .u8 0, .int .u8 0, .slice none 0 0] 45 (0, 0))
          have h2 := below_alloc (Below.refl y_3.heap.size y_3) (.cells #[.int .u8 0, .int .u8 0, .int .u8 0, .int .u8 0, .int .u8 0, .int .u8 0, .int .u8 0, .int .u8 0, .int .u8 0, .int .u8 0, .int .u8 0, .int .u8 0, .slice none 0 0] 45 (0, 0))
          have HK6 := Aside0.mk (show r2.heap.size ≤ y_3.heap.size from HB6.out.size)
          replace HCX := Aside0.mk (Kd.C_below HCX.out h2)
          generalize y_3.alloc (.cells #[.int .u8 0, .int .u8 0, .int .u8 0, .int .u8 0, .int .u8 0, .int .u8 0, .int .u8 0, .int .u8 0, .int .u8 0, .int .u8 0, .int .u8 0, .int .u8 0, .slice none 0 0] 45 (0, 0)) = y_3_8 at h1 h2 HCX ⊢
          have HZ := Aside0.mk h1
          replace HI := Aside0.mk (HI.out.below h2)
          replace HB6 := Aside0.mk (below_step HB6.out h2)
          clear h1 h2
          refine hK.out _ _ (HI.out) (fun hHeld => ?_)
          clear hK K
          refine norm_ (a' := ?_) ?_ ?_
          rotate_left
          · show Act.put _ (some 13) _ = _
            simp only [Act.put, List.setIfInBounds_toArray, List.set_cons_zero, List.set_cons_succ, i64_w, i32_w]
            rfl
          refine one_ (i := 4) (N := some 69) #[true, true, true, true, true, false, false, false, true, false, false] rfl rfl (by kernel_rfl) (by decide) (fun K hK => ?_)
          refine goes_ Try.func34 (by kernel_rfl) rfl #[tabV true, .slice AX S.length cX] (by rfl) rfl rfl (by go_simp) ?_
          refine (mac_Decode.calls AX cX S _ HCX.out HcX.out HSB.out HSL.out).mono ?_
          rintro e y_3_8_4 ⟨AD, cD, rfl, hcD, hCD, h2⟩
          refine ⟨_, rfl, ?_⟩
          replace HI := Aside0.mk (HI.out.below h2)
          replace HB6 := Aside0.mk (below_step HB6.out h2)
          replace HZ := Aside0.mk (blk_below HZ.out h2)
          clear hcD hCD h2
          refine hK.out _ _ (HI.out) (fun hHeld => ?_)
          clear hK K
          refine norm_ (a' := ?_) ?_ ?_
          rotate_left
          · show Act.put _ (some 69) _ = _
            simp only [Act.put, List.setIfInBounds_toArray, List.set_cons_zero, List.set_cons_succ, i64_w, i32_w]
            rfl
          refine pure_ (i := 5) (N := some 64) (v := ?_) (a' := ?_) #[true, true, true, true, true, true, false, false, true, false, false] rfl rfl (by kernel_rfl) (fun _ _ _ h => h) (Or.inl ⟨by rfl, ?_⟩) ?_ ?_
          rotate_left
          · intro w'
            go_simp
            with_reducible rfl
          rotate_left
          · simp only [Act.put, List.setIfInBounds_toArray, List.set_cons_zero, List.set_cons_succ, i64_w, i32_w]
            rfl
          refine pure_ (i := 6) (N := some 70) (v := ?_) (a' := ?_) #[true, true, true, true, true, true, true, false, true, false, false] rfl rfl (by kernel_rfl) (fun _ _ _ h => h) (Or.inl ⟨by rfl, ?_⟩) ?_ ?_
          rotate_left
          · intro w'
            go_simp
            with_reducible rfl
          rotate_left
          · simp only [Act.put, List.setIfInBounds_toArray, List.set_cons_zero, List.set_cons_succ, i64_w, i32_w]
            rfl
          refine pure_ (i := 7) (N := some 71) (v := ?_) (a' := ?_) #[true, true, true, true, true, true, true, true, true, false, false] rfl rfl (by kernel_rfl) (fun _ _ _ h => h) (Or.inl ⟨by rfl, ?_⟩) ?_ ?_
          rotate_left
          · intro w'
            go_simp
            with_reducible rfl
          rotate_left
          · simp only [Act.put, List.setIfInBounds_toArray, List.set_cons_zero, List.set_cons_succ, i64_w, i32_w]
            rfl
          exact norm_ (by simp only [putAll, Act.put, List.setIfInBounds_toArray, List.set_cons_zero, List.set_cons_succ]) (hCont (AX, cX, AD, cD, y_3.heap.size) _ ⟨HI.out, HB6.out, HZ.out, HK6.out⟩)
      · skip
        replace HI := Aside0.mk HI.out.drew1
        replace HB6 := Aside0.mk (below_drew1 HB6.out)
        refine value_ (w1 := r2.drew.alloc (.cells #[.int .u8 0, .int .u8 0, .int .u8 0, .int .u8 0, .int .u8 0, .int .u8 0, .int .u8 0, .int .u8 0, .int .u8 0, .int .u8 0, .int .u8 0, .int .u8 0, .slice none 0 0] 45 (0, 0))) (v := .pointer (some ⟨r2.drew.heap.size, 0, none⟩)) (by rfl) rfl ?_ ?_
        · first | (go_simp; done) | (go_simp; constructor <;> rfl) | (go_simp; rfl)
        have h1 := blk_new r2.drew (.cells #[.int .u8 0, .int .u8 0, .int .u8 0, .int .u8 0, .int .u8 0, .int .u8 0, .int .u8 0, .int .u8 0, .int .u8 0, .int .u8 0, .int .u8 0, .int .u8 0, .slice none 0 0] 45 (0, 0))
        have h2 := below_alloc (Below.refl r2.drew.heap.size r2.drew) (.cells #[.int .u8 0, .int .u8 0, .int .u8 0, .int .u8 0, .int .u8 0, .int .u8 0, .int .u8 0, .int .u8 0, .int .u8 0, .int .u8 0, .int .u8 0, .int .u8 0, .slice none 0 0] 45 (0, 0))
        have HK6 := Aside0.mk (show r2.heap.size ≤ r2.drew.heap.size from HB6.out.size)
        generalize r2.drew.alloc (.cells #[.int .u8 0, .int .u8 0, .int .u8 0, .int .u8 0, .int .u8 0, .int .u8 0, .int .u8 0, .int .u8 0, .int .u8 0, .int .u8 0, .int .u8 0, .int .u8 0, .slice none 0 0] 45 (0, 0)) = y_8 at h1 h2 ⊢
        have HZ := Aside0.mk h1
        replace HI := Aside0.mk (HI.out.below h2)
        replace HB6 := Aside0.mk (below_step HB6.out h2)
        clear h1 h2
        refine hK.out _ _ (HI.out) (fun hHeld => ?_)
        clear hK K
        refine norm_ (a' := ?_) ?_ ?_
        rotate_left
        · show Act.put _ (some 13) _ = _
          simp only [Act.put, List.setIfInBounds_toArray, List.set_cons_zero, List.set_cons_succ, i64_w, i32_w]
          rfl
        refine one_ (i := 3) (N := some 68) #[true, true, true, true, false, false, false, false, true, false, false] rfl rfl (by kernel_rfl) (by decide) (fun K hK => ?_)
        refine goes_ Try.func26 (by kernel_rfl) rfl #[tabV true, .slice (some ⟨gc, 0, none⟩) n cc] (by rfl) rfl rfl (by go_simp) ?_
        refine (HSE.out _ (Kd.C_below HCC.out HB6.out) hcc HCB.out HSN15.out).mono ?_
        rintro e y_8_3 ⟨vx, rfl, hR, h2⟩
        refine ⟨_, rfl, ?_⟩
        obtain ⟨AX, cX, rfl, hcX, hCX⟩ := Kd.R_reads hR
        have HCX := Aside0.mk hCX
        have HcX := Aside0.mk hcX
        replace HI := Aside0.mk (HI.out.below h2)
        replace HB6 := Aside0.mk (below_step HB6.out h2)
        replace HZ := Aside0.mk (blk_below HZ.out h2)
        clear hR h2 hcX hCX
        refine hK.out _ _ (HI.out) (fun hHeld => ?_)
        clear hK K
        refine norm_ (a' := ?_) ?_ ?_
        rotate_left
        · show Act.put _ (some 68) _ = _
          simp only [Act.put, List.setIfInBounds_toArray, List.set_cons_zero, List.set_cons_succ, i64_w, i32_w]
          rfl
        refine one_ (i := 4) (N := some 69) #[true, true, true, true, true, false, false, false, true, false, false] rfl rfl (by kernel_rfl) (by decide) (fun K hK => ?_)
        refine goes_ Try.func34 (by kernel_rfl) rfl #[tabV true, .slice AX S.length cX] (by rfl) rfl rfl (by go_simp) ?_
        refine (mac_Decode.calls AX cX S _ HCX.out HcX.out HSB.out HSL.out).mono ?_
        rintro e y_8_3_4 ⟨AD, cD, rfl, hcD, hCD, h2⟩
        refine ⟨_, rfl, ?_⟩
        replace HI := Aside0.mk (HI.out.below h2)
        replace HB6 := Aside0.mk (below_step HB6.out h2)
        replace HZ := Aside0.mk (blk_below HZ.out h2)
        clear hcD hCD h2
        refine hK.out _ _ (HI.out) (fun hHeld => ?_)
        clear hK K
        refine norm_ (a' := ?_) ?_ ?_
        rotate_left
        · show Act.put _ (some 69) _ = _
          simp only [Act.put, List.setIfInBounds_toArray, List.set_cons_zero, List.set_cons_succ, i64_w, i32_w]
          rfl
        refine pure_ (i := 5) (N := some 64) (v := ?_) (a' := ?_) #[true, true, true, true, true, true, false, false, true, false, false] rfl rfl (by kernel_rfl) (fun _ _ _ h => h) (Or.inl ⟨by rfl, ?_⟩) ?_ ?_
        rotate_left
        · intro w'
          go_simp
          with_reducible rfl
        rotate_left
        · simp only [Act.put, List.setIfInBounds_toArray, List.set_cons_zero, List.set_cons_succ, i64_w, i32_w]
          rfl
        refine pure_ (i := 6) (N := some 70) (v := ?_) (a' := ?_) #[true, true, true, true, true, true, true, false, true, false, false] rfl rfl (by kernel_rfl) (fun _ _ _ h => h) (Or.inl ⟨by rfl, ?_⟩) ?_ ?_
        rotate_left
        · intro w'
          go_simp
          with_reducible rfl
        rotate_left
        · simp only [Act.put, List.setIfInBounds_toArray, List.set_cons_zero, List.set_cons_succ, i64_w, i32_w]
          rfl
        refine pure_ (i := 7) (N := some 71) (v := ?_) (a' := ?_) #[true, true, true, true, true, true, true, true, true, false, false] rfl rfl (by kernel_rfl) (fun _ _ _ h => h) (Or.inl ⟨by rfl, ?_⟩) ?_ ?_
        rotate_left
        · intro w'
          go_simp
          with_reducible rfl
        rotate_left
        · simp only [Act.put, List.setIfInBounds_toArray, List.set_cons_zero, List.set_cons_succ, i64_w, i32_w]
          rfl
        exact norm_ (by simp only [putAll, Act.put, List.setIfInBounds_toArray, List.set_cons_zero, List.set_cons_succ]) (hCont (AX, cX, AD, cD, r2.drew.heap.size) _ ⟨HI.out, HB6.out, HZ.out, HK6.out⟩)
    rintro ⟨AX, cX, AD, cD, k_⟩ w90 ⟨hI_, hB_, hZ_, hK_⟩
    clear HI HB6
    have HI := Aside0.mk hI_
    have HB6 := Aside0.mk hB_
    have HZ := Aside0.mk hZ_
    have HKK := Aside0.mk hK_
    have hHeld : IsTab true w90 g := hI_
    clear hI_ hB_ hZ_ hK_
    refine norm_ (a' := ?_) ?_ ?_
    rotate_left
    · simp only [putAll, Act.put, List.setIfInBounds_toArray, List.set_cons_zero, List.set_cons_succ]
      rfl
    have hS := below_setRow HB6.out HKK.out (frame (decH S) AD (decD S).length cD)
    refine one_store_row_ (i := 9) (N := none) (oi := { dst := none, op := Go.Op.store 45 (Go.Operand.tmp 13) (Go.Operand.tmp 70), type := 0, pos := "law.go:179", after := #[{ on := 8, ground := Go.Ground.data }, { on := 6, ground := Go.Ground.data }, { on := 4, ground := Go.Ground.chain }, { on := 0, ground := Go.Ground.phase }, { on := 1, ground := Go.Ground.phase }, { on := 2, ground := Go.Ground.phase }, { on := 3, ground := Go.Ground.phase }, { on := 4, ground := Go.Ground.phase }, { on := 5, ground := Go.Ground.phase }, { on := 6, ground := Go.Ground.phase }, { on := 7, ground := Go.Ground.textOnly Go.Departure.lateStores }, { on := 8, ground := Go.Ground.phase }], guard := none }) #[true, true, true, true, true, true, true, true, true, true, false] (by kernel_rfl) rfl (by kernel_rfl) (by decide) (by kernel_rfl) 45 (.tmp 13) (.tmp 70) rfl k_ (frame (decH S) AD (decD S).length cD) (by simp [Act.eval]) (by simp [Act.eval]) 45 #[.int .u8 0, .int .u8 0, .int .u8 0, .int .u8 0, .int .u8 0, .int .u8 0, .int .u8 0, .int .u8 0, .int .u8 0, .int .u8 0, .int .u8 0, .int .u8 0, .slice none 0 0] HZ.out info45_ rfl (frame_one _ _ _ _) (HI6.out.below hS) ?_
    generalize w90.setRow k_ (frame (decH S) AD (decD S).length cD) = w9 at hS ⊢
    replace HI := Aside0.mk (HI6.out.below hS)
    have HS9 := Aside0.mk hS
    have hHeld : IsTab true w9 g := HI.out
    clear hS HB6 HZ HI6
    refine norm_ (a' := ?_) ?_ ?_
    rotate_left
    · show Act.put _ none _ = _
      simp only [Act.put]
      rfl
    refine pure_ (i := 10) (N := some 14) (v := ?_) (a' := ?_) #[true, true, true, true, true, true, true, true, true, true, true] rfl rfl (by kernel_rfl) (fun _ _ _ h => h) (Or.inl ⟨by rfl, ?_⟩) ?_ ?_
    rotate_left
    · intro w'
      go_simp
      with_reducible rfl
    rotate_left
    · simp only [Act.put, List.setIfInBounds_toArray, List.set_cons_zero, List.set_cons_succ, i64_w, i32_w]
      rfl
    refine done_ (by kernel_rfl) ?_
    replace HBc := Aside0.mk (below_step HBc.out HS9.out)
    replace HX := Aside0.mk (Kd.R_below HX.out HS9.out)
    clear HS9 HSE HSB HSL HCB HLI HIc
    obtain ⟨mu, hmu⟩ : ∃ mu : Nat, (if u < 46 then 46 else u) = mu := ⟨_, rfl⟩
    have hmu2 : (if (u : Int) < 46 then 46 else (u : Int)) = (mu : Int) := by rw [← hmu]; split <;> split <;> omega
    have hmu3 : mu ≤ 65536 := by rw [← hmu]; split <;> omega
    have HMU := Aside0.mk hmu
    clear hmu
    have HLB := Aside0.mk (show u ≤ mu ∧ 46 ≤ mu by rw [← HMU.out]; split <;> omega)
    replace HSEL := HSEL.out
    rw [Int.toNat_natCast, HSN.out, HMU.out] at HSEL
    have h15 : u ≤ 1500 := by have := HSEL.1; omega
    have hmn : 14 + mu = n := HSEL.2
    have e15 : decide ((u : Int) ≤ 1500) = true := decide_eq_true (by omega)
    clear HSEL
    have emn : (14 + (mu : Int) == (n : Int)) = true := beq_iff_eq.2 (by omega)
    have HMN := Aside0.mk hmn
    have H15 := Aside0.mk h15
    clear hmn
    go_wp2_with fail
    go_loop [15, 16] (fun v15 v16 => ∃ (k : Nat) (b : Bool), 14 + u ≤ k ∧ k ≤ n ∧ v16 = .int .i64 k ∧ v15 = .bool b ∧ Aside0 (b = true ↔ ∀ j, 14 + u ≤ j → j < k → hdv C j = 0)) (fun _ v16 => n - (intOf v16).toNat)
    case atStart => exact ⟨14 + u, true, Nat.le_refl _, by have := HMN.out; have := HLB.out; omega, by rw [Int.natCast_add]; rfl, rfl, ⟨⟨fun _ j h1 h2 => absurd h2 (Nat.not_lt.2 h1), fun _ => rfl⟩⟩⟩
    case round =>
      obtain ⟨k, b, hk0, hk, rfl, rfl, HZ⟩ := hrel
      cases b with
      | false =>
        have he : decE S = 4 := (HDC.out false ⟨fun h => absurd h (by decide), fun h => HZ.out.2 (fun j h1 h2 => h.2 j h1 (Nat.lt_of_lt_of_le h2 hk))⟩).trans rfl
        clear HDC HZ
        go_wp2_with fail
        refine (HCP.out _ (Kd.C_below HCT.out HBc.out) hnc HCF.out).mono ?_
        rintro e v1 ⟨vd, rfl, hR, hB⟩
        obtain ⟨Ad, cd, rfl⟩ := Kd.R_slice hR
        obtain ⟨gd, rfl⟩ := R_some_ hR (by have := HPL.out; omega)
        rw [HPL.out] at hR ⊢
        have HXd := Aside0.mk hR
        have HB9 := Aside0.mk hB
        have HGD := Aside0.mk (R_base_ hR)
        have hcd : n ≤ cd := by obtain ⟨_, _, he, hc, _⟩ := Kd.R_reads hR; injection he with e1 e2 e3; rw [HPL.out] at hc; omega
        have hk12 := (show v1.cell? ⟨gf, 12, none⟩ = some (.slice A0_12 l0_12.length c0_12) from (blk_cell (blk_below HF.out (below_step HBc.out hB)) 12).trans rfl)
        clear hR hB
        by_cases h46 : 46 ≤ l0_12.length
        case pos =>
          have d46 : decide ((46 : Int) ≤ (l0_12.length : Int)) = true := decide_eq_true (by omega)
          clear h46
          go_wp2_with fail
          refine (awake3_calls _).mono ?_
          rintro e vz ⟨rfl, hB⟩
          go_wp2_with fail
          go_ret
          exact ⟨rfl, below_step (below_step (below_step HB.out HBc.out) HB9.out) hB⟩
        have d46 : decide ((46 : Int) ≤ (l0_12.length : Int)) = false := decide_eq_false (by omega)
        by_cases hx0 : a3 = 0
        case pos =>
          have bx : (a3 == 0) = true := beq_iff_eq.2 hx0
          clear hx0 h46
          go_wp2_with fail
          refine (awake3_calls _).mono ?_
          rintro e vz ⟨rfl, hB⟩
          go_wp2_with fail
          go_ret
          exact ⟨rfl, below_step (below_step (below_step HB.out HBc.out) HB9.out) hB⟩
        have bx : (a3 == 0) = false := beq_eq_false_iff_ne.2 hx0
        go_wp2_with fail
        obtain ⟨t, ht⟩ : ∃ t : Nat, 46 - l0_12.length = t := ⟨_, rfl⟩
        have ht0 : 0 < t := pos46 ht h46
        obtain ⟨r, hr⟩ : ∃ r : Nat, q % t = r := ⟨_, rfl⟩
        have hrt : r < t := by rw [← hr]; exact Nat.mod_lt _ ht0
        obtain ⟨m0, hm0'⟩ : ∃ m0 : Nat, 14 + l0_12.length = m0 := ⟨_, rfl⟩
        obtain ⟨m, hm⟩ : ∃ m : Nat, m0 + r = m := ⟨_, rfl⟩
        have hmn : m < n := idx_lt HSN.out ht hrt hm0' hm
        have HPD := Aside0.mk (show decE (sealI (P.set m a3)) = 4 by rw [← hm, ← hm0']; exact pad_dec HEF.out HSN.out.symm (lt46 ht hrt) hx0)
        have hn9 : n ≤ 9223372036854775807 := le9 hn15
        have e4 : wrap64 (14 + (l0_12.length : Int)) = (m0 : Int) := w64_14 hm0' HL.out
        have e10 : wrap64 (46 - (l0_12.length : Int)) = (t : Int) := w64_46 ht ht0
        have ht2 : ¬ (t = 0) := ne_of_pos_ ht0
        have ht1 : ¬ ((t : Int) = 0) := nez_ ht0
        have e6 : wrap64 (q : Int) = (q : Int) := w64q hq65
        have HTM := Aside0.mk (show (q : Int).tmod (t : Int) = (r : Int) by rw [← hr]; rfl)
        have e11 : (q : Int).tmod (t : Int) = (r : Int) := by rw [← hr]; rfl
        have e11w : wrap64 (r : Int) = (r : Int) := w64r ht hrt
        have e12 : (m0 : Int) + (r : Int) = (m : Int) := by rw [← hm]; rfl
        have e12w : wrap64 (m : Int) = (m : Int) := w64n hmn hn9
        have HMN2 := Aside0.mk hmn
        have HDB := Aside0.mk (show byteRow (P.set m a3) from byteRow_set HPB.out HU3.out)
        have HDL := Aside0.mk (show (P.set m a3).length = n by rw [List.length_set]; exact HPL.out)
        clear h46 hx0 ht hr hm0' hm ht0 hrt
        refine start_ (n := 16) (S := fun w' => w'.cell? ⟨gf, 12, none⟩ = some (.slice A0_12 l0_12.length c0_12)) (ds := []) #[false, false, false, false, false, false, false, false, false, false, false, false, false, false, false, false] (by kernel_rfl) rfl rfl (hk12) (fun hHeld => ?_)
        refine pure_ (i := 0) (N := some 120) (v := ?_) (a' := ?_) #[true, false, false, false, false, false, false, false, false, false, false, false, false, false, false, false] rfl rfl (by kernel_rfl) (fun _ _ _ h => h) (Or.inl ⟨by rfl, ?_⟩) ?_ ?_
        rotate_left
        · intro w'
          go_simp
          with_reducible rfl
        rotate_left
        · simp only [Act.put, List.setIfInBounds_toArray, List.set_cons_zero, List.set_cons_succ, i64_w, i32_w]
          rfl
        refine pure_ (i := 1) (N := some 121) (v := ?_) (a' := ?_) #[true, true, false, false, false, false, false, false, false, false, false, false, false, false, false, false] rfl rfl (by kernel_rfl) (fun _ _ _ h => h) (Or.inl ⟨by rfl, ?_⟩) ?_ ?_
        rotate_left
        · intro w'
          go_simp
          with_reducible rfl
        rotate_left
        · simp only [Act.put, List.setIfInBounds_toArray, List.set_cons_zero, List.set_cons_succ, i64_w, i32_w]
          rfl
        refine pure_ (i := 5) (N := some 125) (v := ?_) (a' := ?_) #[true, true, false, false, false, true, false, false, false, false, false, false, false, false, false, false] rfl rfl (by kernel_rfl) (fun _ _ _ h => h) (Or.inl ⟨by rfl, ?_⟩) ?_ ?_
        rotate_left
        · intro w'
          go_simp
          with_reducible rfl
        rotate_left
        · simp only [Act.put, List.setIfInBounds_toArray, List.set_cons_zero, List.set_cons_succ, i64_w, i32_w]
          rfl
        refine pure_ (i := 6) (N := some 126) (v := ?_) (a' := ?_) #[true, true, false, false, false, true, true, false, false, false, false, false, false, false, false, false] rfl rfl (by kernel_rfl) (fun _ _ _ h => h) (Or.inl ⟨by rfl, ?_⟩) ?_ ?_
        rotate_left
        · intro w'
          go_simp
          with_reducible rfl
        rotate_left
        · simp only [Act.put, List.setIfInBounds_toArray, List.set_cons_zero, List.set_cons_succ, i64_w, i32_w]
          rfl
        refine pure_ (i := 7) (N := some 127) (v := ?_) (a' := ?_) #[true, true, false, false, false, true, true, true, false, false, false, false, false, false, false, false] rfl rfl (by kernel_rfl) (fun _ _ _ h => h) (Or.inl ⟨by rfl, ?_⟩) ?_ ?_
        rotate_left
        · intro w'
          go_simp
          with_reducible rfl
        rotate_left
        · simp only [Act.put, List.setIfInBounds_toArray, List.set_cons_zero, List.set_cons_succ, i64_w, i32_w]
          rfl
        refine pure_ (i := 13) (N := some 133) (v := ?_) (a' := ?_) #[true, true, false, false, false, true, true, true, false, false, false, false, false, true, false, false] rfl rfl (by kernel_rfl) (fun _ _ _ h => h) (Or.inl ⟨by rfl, ?_⟩) ?_ ?_
        rotate_left
        · intro w'
          go_simp
          with_reducible rfl
        rotate_left
        · simp only [Act.put, List.setIfInBounds_toArray, List.set_cons_zero, List.set_cons_succ, i64_w, i32_w]
          rfl
        refine take_ (i := 2) (N := some 122) (v := ?_) (a' := ?_) #[true, true, true, false, false, true, true, true, false, false, false, false, false, true, false, false] rfl rfl (by kernel_rfl) (fun _ _ _ h => h) (Or.inl ⟨by rfl, ?_⟩) hHeld ?_ ?_
        rotate_left
        · intro w' s0
          go_simp
          with_reducible rfl
        rotate_left
        · simp only [Act.put, List.setIfInBounds_toArray, List.set_cons_zero, List.set_cons_succ, i64_w, i32_w]
          rfl
        refine pure_ (i := 3) (N := some 123) (v := ?_) (a' := ?_) #[true, true, true, true, false, true, true, true, false, false, false, false, false, true, false, false] rfl rfl (by kernel_rfl) (fun _ _ _ h => h) (Or.inl ⟨by rfl, ?_⟩) ?_ ?_
        rotate_left
        · intro w'
          go_simp
          with_reducible rfl
        rotate_left
        · simp only [Act.put, List.setIfInBounds_toArray, List.set_cons_zero, List.set_cons_succ, i64_w, i32_w]
          rfl
        refine pure_ (i := 4) (N := some 124) (v := ?_) (a' := ?_) #[true, true, true, true, true, true, true, true, false, false, false, false, false, true, false, false] rfl rfl (by kernel_rfl) (fun _ _ _ h => h) (Or.inl ⟨by rfl, ?_⟩) ?_ ?_
        rotate_left
        · intro w'
          go_simp
          with_reducible rfl
        rotate_left
        · simp only [Act.put, List.setIfInBounds_toArray, List.set_cons_zero, List.set_cons_succ, i64_w, i32_w]
          rfl
        refine take_ (i := 8) (N := some 128) (v := ?_) (a' := ?_) #[true, true, true, true, true, true, true, true, true, false, false, false, false, true, false, false] rfl rfl (by kernel_rfl) (fun _ _ _ h => h) (Or.inl ⟨by rfl, ?_⟩) hHeld ?_ ?_
        rotate_left
        · intro w' s0
          go_simp
          with_reducible rfl
        rotate_left
        · simp only [Act.put, List.setIfInBounds_toArray, List.set_cons_zero, List.set_cons_succ, i64_w, i32_w]
          rfl
        refine pure_ (i := 9) (N := some 129) (v := ?_) (a' := ?_) #[true, true, true, true, true, true, true, true, true, true, false, false, false, true, false, false] rfl rfl (by kernel_rfl) (fun _ _ _ h => h) (Or.inl ⟨by rfl, ?_⟩) ?_ ?_
        rotate_left
        · intro w'
          go_simp
          with_reducible rfl
        rotate_left
        · simp only [Act.put, List.setIfInBounds_toArray, List.set_cons_zero, List.set_cons_succ, i64_w, i32_w]
          rfl
        refine pure_ (i := 10) (N := some 130) (v := ?_) (a' := ?_) #[true, true, true, true, true, true, true, true, true, true, true, false, false, true, false, false] rfl rfl (by kernel_rfl) (fun _ _ _ h => h) (Or.inl ⟨by rfl, ?_⟩) ?_ ?_
        rotate_left
        · intro w'
          go_simp
          with_reducible rfl
        rotate_left
        · simp only [Act.put, List.setIfInBounds_toArray, List.set_cons_zero, List.set_cons_succ, i64_w, i32_w]
          rfl
        refine pure_ (i := 11) (N := some 131) (v := ?_) (a' := ?_) #[true, true, true, true, true, true, true, true, true, true, true, true, false, true, false, false] rfl rfl (by kernel_rfl) (fun _ _ _ h => h) (Or.inl ⟨by rfl, ?_⟩) ?_ ?_
        rotate_left
        · intro w'
          go_simp
          with_reducible rfl
        rotate_left
        · simp only [Act.put, List.setIfInBounds_toArray, List.set_cons_zero, List.set_cons_succ, i64_w, i32_w]
          rfl
        refine pure_ (i := 12) (N := some 132) (v := ?_) (a' := ?_) #[true, true, true, true, true, true, true, true, true, true, true, true, true, true, false, false] rfl rfl (by kernel_rfl) (fun _ _ _ h => h) (Or.inl ⟨by rfl, ?_⟩) ?_ ?_
        rotate_left
        · intro w'
          go_simp
          with_reducible rfl
        rotate_left
        · simp only [Act.put, List.setIfInBounds_toArray, List.set_cons_zero, List.set_cons_succ, i64_w, i32_w]
          rfl
        refine pure_ (i := 14) (N := some 134) (v := ?_) (a' := ?_) #[true, true, true, true, true, true, true, true, true, true, true, true, true, true, true, false] rfl rfl (by kernel_rfl) (fun _ _ _ h => h) (Or.inl ⟨by rfl, ?_⟩) ?_ ?_
        rotate_left
        · intro w'
          go_simp
          with_reducible rfl
        rotate_left
        · simp only [Act.put, List.setIfInBounds_toArray, List.set_cons_zero, List.set_cons_succ, i64_w, i32_w]
          rfl
        refine one_ (i := 15) (N := none) #[true, true, true, true, true, true, true, true, true, true, true, true, true, true, true, true] rfl rfl (by kernel_rfl) (by decide) (fun K hK => ?_)
        refine if_pos_ (by rfl) ?_
        refine wp_store_R (.tmp 134) (.tmp 133) rfl gd m a3 (Kd.R_below HXd.out (below_drew1 (Below.refl v1.heap.size v1))) rfl rfl HMN2.out info5_ ?_
        intro v2 hZ hG
        replace HXd := Aside0.mk hZ
        replace HB9 := Aside0.mk (below_own (below_drew1 HB9.out) hG HGD.out)
        have hHeld : v2.cell? ⟨gf, 12, none⟩ = some (.slice A0_12 l0_12.length c0_12) := (blk_cell (blk_below HF.out (below_step HBc.out HB9.out)) 12).trans rfl
        clear hZ hG
        refine hK.out _ _ (hHeld) (fun hHeld => ?_)
        clear hK K
        refine norm_ (a' := ?_) ?_ ?_
        rotate_left
        · show Act.put _ none _ = _
          simp only [Act.put]
          rfl
        refine done_ (by kernel_rfl) ?_
        clear hk12
        go_wp2_with fail
        generalize P.set m a3 = D at HXd HPD HDB HDL
        replace HI := Aside0.mk (HI.out.below HB9.out)
        have HCC := Aside0.mk (reads_own HXd.out HDL.out)
        have HCB := HDB
        have HSE := Aside0.mk (crc_Seal.calls (some ⟨gd, 0, none⟩) cd D)
        rw [HDL.out] at HSE
        have HSB := Aside0.mk (sealI_byte HDB.out)
        have HSL := Aside0.mk (show (sealI D).length < 140737488355000 by rw [sealI_len, HDL.out]; omega)
        generalize sealI D = S2 at HSE HSB HSL HPD
        clear e4 e10 ht1 ht2 e6 e11 e11w e12 e12w
        have HB6 := Aside0.mk (Below.refl v2.heap.size v2)
        have HI6 := HI
        refine start_ (n := 11) (S := fun w' => IsTab true w' g) (ds := []) #[false, false, false, false, false, false, false, false, false, false, false] (by kernel_rfl) rfl rfl (HI.out.drew1) (fun hHeld => ?_)
        refine pure_ (i := 2) (N := some 138) (v := ?_) (a' := ?_) #[false, false, true, false, false, false, false, false, false, false, false] rfl rfl (by kernel_rfl) (fun _ _ _ h => h) (Or.inl ⟨by rfl, ?_⟩) ?_ ?_
        rotate_left
        · intro w'
          go_simp
          with_reducible rfl
        rotate_left
        · simp only [Act.put, List.setIfInBounds_toArray, List.set_cons_zero, List.set_cons_succ, i64_w, i32_w]
          rfl
        refine take_ (i := 0) (N := some 136) (v := tabV true) #[true, false, true, false, false, false, false, false, false, false, false] rfl rfl (by kernel_rfl) (fun _ _ _ h => h) ?_ hHeld rfl ?_
        · exact yields_tab (by rfl) _ rfl _ rfl true (by intro w' s0; exact s0)
        refine norm_ (a' := ?_) ?_ ?_
        rotate_left
        · show Act.put _ (some 136) _ = _
          simp only [Act.put, List.setIfInBounds_toArray, List.set_cons_zero, List.set_cons_succ, i64_w, i32_w]
          rfl
        refine take_ (i := 1) (N := some 137) (v := tabV true) #[true, true, true, false, false, false, false, false, false, false, false] rfl rfl (by kernel_rfl) (fun _ _ _ h => h) ?_ hHeld rfl ?_
        · exact yields_tab (by rfl) _ rfl _ rfl true (by intro w' s0; exact s0)
        refine norm_ (a' := ?_) ?_ ?_
        rotate_left
        · show Act.put _ (some 137) _ = _
          simp only [Act.put, List.setIfInBounds_toArray, List.set_cons_zero, List.set_cons_succ, i64_w, i32_w]
          rfl
        refine join_ (σ := Option Addr × Nat × Option Addr × Nat × Nat) 2 #[true, true, true, true, true, true, true, true, true, false, false] (fun s_ => [(139, .slice s_.1 S2.length s_.2.1), (140, .tuple #[.agg (frame (decH S2) s_.2.2.1 (decD S2).length s_.2.2.2.1), .int .i64 (decE S2)]), (18, .pointer (some ⟨s_.2.2.2.2, 0, none⟩)), (135, .tuple #[.agg (frame (decH S2) s_.2.2.1 (decD S2).length s_.2.2.2.1), .int .i64 (decE S2)]), (141, .agg (frame (decH S2) s_.2.2.1 (decD S2).length s_.2.2.2.1)), (142, .int .i64 (decE S2))]) (fun s_ w' => IsTab true w' g ∧ (Below v2.heap.size v2 w' ∧ w'.heap[s_.2.2.2.2]? = some (.cells #[.int .u8 0, .int .u8 0, .int .u8 0, .int .u8 0, .int .u8 0, .int .u8 0, .int .u8 0, .int .u8 0, .int .u8 0, .int .u8 0, .int .u8 0, .int .u8 0, .slice none 0 0] 45 (0, 0)) ∧ v2.heap.size ≤ s_.2.2.2.2)) ?_ ?_
        rotate_left
        · intro hCont
          refine two_ (i := 3) (j := 8) (Ni := some 139) (Nj := some 18) #[true, true, true, true, false, false, false, false, false, false, false] #[true, true, true, false, false, false, false, false, true, false, false] rfl rfl rfl rfl (by kernel_rfl) (by decide) (by decide) (fun K hK => ?_) (fun K hK => ?_)
          · skip
            replace HI := Aside0.mk HI.out.drew1
            replace HB6 := Aside0.mk (below_drew1 HB6.out)
            refine goes_ Try.func26 (by kernel_rfl) rfl #[tabV true, .slice (some ⟨gd, 0, none⟩) n cd] (by rfl) rfl rfl (by go_simp) ?_
            refine (HSE.out _ (Kd.C_below HCC.out HB6.out) hcd HCB.out HSN15.out).mono ?_
            rintro e z_3 ⟨vx, rfl, hR, h2⟩
            refine ⟨_, rfl, ?_⟩
            obtain ⟨AX, cX, rfl, hcX, hCX⟩ := Kd.R_reads hR
            have HCX := Aside0.mk hCX
            have HcX := Aside0.mk hcX
            replace HI := Aside0.mk (HI.out.below h2)
            replace HB6 := Aside0.mk (below_step HB6.out h2)
            clear hR h2 hcX hCX
            refine hK.out _ _ (HI.out) (fun hHeld => ?_)
            clear hK K
            refine norm_ (a' := ?_) ?_ ?_
            rotate_left
            · show Act.put _ (some 139) _ = _
              simp only [Act.put, List.setIfInBounds_toArray, List.set_cons_zero, List.set_cons_succ, i64_w, i32_w]
              rfl
            refine two_ (i := 4) (j := 8) (Ni := some 140) (Nj := some 18) #[true, true, true, true, true, false, false, false, false, false, false] #[true, true, true, true, false, false, false, false, true, false, false] rfl rfl rfl rfl (by kernel_rfl) (by decide) (by decide) (fun K hK => ?_) (fun K hK => ?_)
            · skip
              refine goes_ Try.func34 (by kernel_rfl) rfl #[tabV true, .slice AX S2.length cX] (by rfl) rfl rfl (by go_simp) ?_
              refine (mac_Decode.calls AX cX S2 _ HCX.out HcX.out HSB.out HSL.out).mono ?_
              rintro e z_3_4 ⟨AD, cD, rfl, hcD, hCD, h2⟩
              refine ⟨_, rfl, ?_⟩
              replace HI := Aside0.mk (HI.out.below h2)
              replace HB6 := Aside0.mk (below_step HB6.out h2)
              clear hcD hCD h2
              refine hK.out _ _ (HI.out) (fun hHeld => ?_)
              clear hK K
              refine norm_ (a' := ?_) ?_ ?_
              rotate_left
              · show Act.put _ (some 140) _ = _
                simp only [Act.put, List.setIfInBounds_toArray, List.set_cons_zero, List.set_cons_succ, i64_w, i32_w]
                rfl
              refine pure_ (i := 5) (N := some 135) (v := ?_) (a' := ?_) #[true, true, true, true, true, true, false, false, false, false, false] rfl rfl (by kernel_rfl) (fun _ _ _ h => h) (Or.inl ⟨by rfl, ?_⟩) ?_ ?_
              rotate_left
              · intro w'
                go_simp
                with_reducible rfl
              rotate_left
              · simp only [Act.put, List.setIfInBounds_toArray, List.set_cons_zero, List.set_cons_succ, i64_w, i32_w]
                rfl
              refine pure_ (i := 6) (N := some 141) (v := ?_) (a' := ?_) #[true, true, true, true, true, true, true, false, false, false, false] rfl rfl (by kernel_rfl) (fun _ _ _ h => h) (Or.inl ⟨by rfl, ?_⟩) ?_ ?_
              rotate_left
              · intro w'
                go_simp
                with_reducible rfl
              rotate_left
              · simp only [Act.put, List.setIfInBounds_toArray, List.set_cons_zero, List.set_cons_succ, i64_w, i32_w]
                rfl
              refine pure_ (i := 7) (N := some 142) (v := ?_) (a' := ?_) #[true, true, true, true, true, true, true, true, false, false, false] rfl rfl (by kernel_rfl) (fun _ _ _ h => h) (Or.inl ⟨by rfl, ?_⟩) ?_ ?_
              rotate_left
              · intro w'
                go_simp
                with_reducible rfl
              rotate_left
              · simp only [Act.put, List.setIfInBounds_toArray, List.set_cons_zero, List.set_cons_succ, i64_w, i32_w]
                rfl
              refine one_ (i := 8) (N := some 18) #[true, true, true, true, true, true, true, true, true, false, false] rfl rfl (by kernel_rfl) (by decide) (fun K hK => ?_)
              refine value_ (w1 := z_3_4.alloc (.cells #[.int .u8 0, .int .u8 0, .int .u8 0, .int .u8 0, .int .u8 0, .int .u8 0, .int .u8 0, .int .u8 0, .int .u8 0, .int .u8 0, .int .u8 0, .int .u8 0, .slice none 0 0] 45 (0, 0))) (v := .pointer (some ⟨z_3_4.heap.size, 0, none⟩)) (by rfl) rfl ?_ ?_
              · first | (go_simp; done) | (go_simp; constructor <;> rfl) | (go_simp; rfl)
              have h1 := blk_new z_3_4 (.cells #[.int .u8 0, .int .u8 0, .int .u8 0, .int .u8 0, .int .u8 0, .int .u8 0, .int .u8 0, .int .u8 0, .int .u8 0, .int .u8 0, .int .u8 0, .int .u8 0, .slice none 0 0] 45 (0, 0))
              have h2 := below_alloc (Below.refl z_3_4.heap.size z_3_4) (.cells #[.int .u8 0, .int .u8 0, .int .u8 0, .int .u8 0, .int .u8 0, .int .u8 0, .int .u8 0, .int .u8 0, .int .u8 0, .int .u8 0, .int .u8 0, .int .u8 0, .slice none 0 0] 45 (0, 0))
              have HK6 := Aside0.mk (show v2.heap.size ≤ z_3_4.heap.size from HB6.out.size)
              generalize z_3_4.alloc (.cells #[.int .u8 0, .int .u8 0, .int .u8 0, .int .u8 0, .int .u8 0, .int .u8 0, .int .u8 0, .int .u8 0, .int .u8 0, .int .u8 0, .int .u8 0, .int .u8 0, .slice none 0 0] 45 (0, 0)) = z_3_4_8 at h1 h2 ⊢
              have HZ := Aside0.mk h1
              replace HI := Aside0.mk (HI.out.below h2)
              replace HB6 := Aside0.mk (below_step HB6.out h2)
              clear h1 h2
              refine hK.out _ _ (HI.out) (fun hHeld => ?_)
              clear hK K
              refine norm_ (a' := ?_) ?_ ?_
              rotate_left
              · show Act.put _ (some 18) _ = _
                simp only [Act.put, List.setIfInBounds_toArray, List.set_cons_zero, List.set_cons_succ, i64_w, i32_w]
                rfl
              exact norm_ (by simp only [putAll, Act.put, List.setIfInBounds_toArray, List.set_cons_zero, List.set_cons_succ]) (hCont (AX, cX, AD, cD, z_3_4.heap.size) _ ⟨HI.out, HB6.out, HZ.out, HK6.out⟩)
            · skip
              refine value_ (w1 := z_3.alloc (.cells #[.int .u8 0, .int .u8 0, .int .u8 0, .int .u8 0, .int .u8 0, .int .u8 0, .int .u8 0, .int .u8 0, .int .u8 0, .int .u8 0, .int .u8 0, .int .u8 0, .slice none 0 0] 45 (0, 0))) (v := .pointer (some ⟨z_3.heap.size, 0, none⟩)) (by rfl) rfl ?_ ?_
              · first | (go_simp; done) | (go_simp; constructor <;> rfl) | (go_simp; rfl)
              have h1 := blk_new z_3 (.cells #[.int .u8 0, .int .u8 0, .int .u8 0, .int .u8 0, .int .u8 0, .int .u8 0, .int .u8 0, .int .u8 0, .int .u8 0, .int .u8 0, .int .u8 0, .int .u8 0, .slice none 0 0] 45 (0, 0))
              have h2 := below_alloc (Below.refl z_3.heap.size z_3) (.cells #[.int .u8 0, .int .u8 0, .int .u8 0, .int .u8 0, .int .u8 0, .int .u8 0, .int .u8 0, .int .u8 0, .int .u8 0, .int .u8 0, .int .u8 0, .int .u8 0, .slice none 0 0] 45 (0, 0))
              have HK6 := Aside0.mk (show v2.heap.size ≤ z_3.heap.size from HB6.out.size)
              replace HCX := Aside0.mk (Kd.C_below HCX.out h2)
              generalize z_3.alloc (.cells #[.int .u8 0, .int .u8 0, .int .u8 0, .int .u8 0, .int .u8 0, .int .u8 0, .int .u8 0, .int .u8 0, .int .u8 0, .int .u8 0, .int .u8 0, .int .u8 0, .slice none 0 0] 45 (0, 0)) = z_3_8 at h1 h2 HCX ⊢
              have HZ := Aside0.mk h1
              replace HI := Aside0.mk (HI.out.below h2)
              replace HB6 := Aside0.mk (below_step HB6.out h2)
              clear h1 h2
              refine hK.out _ _ (HI.out) (fun hHeld => ?_)
              clear hK K
              refine norm_ (a' := ?_) ?_ ?_
              rotate_left
              · show Act.put _ (some 18) _ = _
                simp only [Act.put, List.setIfInBounds_toArray, List.set_cons_zero, List.set_cons_succ, i64_w, i32_w]
                rfl
              refine one_ (i := 4) (N := some 140) #[true, true, true, true, true, false, false, false, true, false, false] rfl rfl (by kernel_rfl) (by decide) (fun K hK => ?_)
              refine goes_ Try.func34 (by kernel_rfl) rfl #[tabV true, .slice AX S2.length cX] (by rfl) rfl rfl (by go_simp) ?_
              refine (mac_Decode.calls AX cX S2 _ HCX.out HcX.out HSB.out HSL.out).mono ?_
              rintro e z_3_8_4 ⟨AD, cD, rfl, hcD, hCD, h2⟩
              refine ⟨_, rfl, ?_⟩
              replace HI := Aside0.mk (HI.out.below h2)
              replace HB6 := Aside0.mk (below_step HB6.out h2)
              replace HZ := Aside0.mk (blk_below HZ.out h2)
              clear hcD hCD h2
              refine hK.out _ _ (HI.out) (fun hHeld => ?_)
              clear hK K
              refine norm_ (a' := ?_) ?_ ?_
              rotate_left
              · show Act.put _ (some 140) _ = _
                simp only [Act.put, List.setIfInBounds_toArray, List.set_cons_zero, List.set_cons_succ, i64_w, i32_w]
                rfl
              refine pure_ (i := 5) (N := some 135) (v := ?_) (a' := ?_) #[true, true, true, true, true, true, false, false, true, false, false] rfl rfl (by kernel_rfl) (fun _ _ _ h => h) (Or.inl ⟨by rfl, ?_⟩) ?_ ?_
              rotate_left
              · intro w'
                go_simp
                with_reducible rfl
              rotate_left
              · simp only [Act.put, List.setIfInBounds_toArray, List.set_cons_zero, List.set_cons_succ, i64_w, i32_w]
                rfl
              refine pure_ (i := 6) (N := some 141) (v := ?_) (a' := ?_) #[true, true, true, true, true, true, true, false, true, false, false] rfl rfl (by kernel_rfl) (fun _ _ _ h => h) (Or.inl ⟨by rfl, ?_⟩) ?_ ?_
              rotate_left
              · intro w'
                go_simp
                with_reducible rfl
              rotate_left
              · simp only [Act.put, List.setIfInBounds_toArray, List.set_cons_zero, List.set_cons_succ, i64_w, i32_w]
                rfl
              refine pure_ (i := 7) (N := some 142) (v := ?_) (a' := ?_) #[true, true, true, true, true, true, true, true, true, false, false] rfl rfl (by kernel_rfl) (fun _ _ _ h => h) (Or.inl ⟨by rfl, ?_⟩) ?_ ?_
              rotate_left
              · intro w'
                go_simp
                with_reducible rfl
              rotate_left
              · simp only [Act.put, List.setIfInBounds_toArray, List.set_cons_zero, List.set_cons_succ, i64_w, i32_w]
                rfl
              exact norm_ (by simp only [putAll, Act.put, List.setIfInBounds_toArray, List.set_cons_zero, List.set_cons_succ]) (hCont (AX, cX, AD, cD, z_3.heap.size) _ ⟨HI.out, HB6.out, HZ.out, HK6.out⟩)
          · skip
            replace HI := Aside0.mk HI.out.drew1
            replace HB6 := Aside0.mk (below_drew1 HB6.out)
            refine value_ (w1 := v2.drew.alloc (.cells #[.int .u8 0, .int .u8 0, .int .u8 0, .int .u8 0, .int .u8 0, .int .u8 0, .int .u8 0, .int .u8 0, .int .u8 0, .int .u8 0, .int .u8 0, .int .u8 0, .slice none 0 0] 45 (0, 0))) (v := .pointer (some ⟨v2.drew.heap.size, 0, none⟩)) (by rfl) rfl ?_ ?_
            · first | (go_simp; done) | (go_simp; constructor <;> rfl) | (go_simp; rfl)
            have h1 := blk_new v2.drew (.cells #[.int .u8 0, .int .u8 0, .int .u8 0, .int .u8 0, .int .u8 0, .int .u8 0, .int .u8 0, .int .u8 0, .int .u8 0, .int .u8 0, .int .u8 0, .int .u8 0, .slice none 0 0] 45 (0, 0))
            have h2 := below_alloc (Below.refl v2.drew.heap.size v2.drew) (.cells #[.int .u8 0, .int .u8 0, .int .u8 0, .int .u8 0, .int .u8 0, .int .u8 0, .int .u8 0, .int .u8 0, .int .u8 0, .int .u8 0, .int .u8 0, .int .u8 0, .slice none 0 0] 45 (0, 0))
            have HK6 := Aside0.mk (show v2.heap.size ≤ v2.drew.heap.size from HB6.out.size)
            generalize v2.drew.alloc (.cells #[.int .u8 0, .int .u8 0, .int .u8 0, .int .u8 0, .int .u8 0, .int .u8 0, .int .u8 0, .int .u8 0, .int .u8 0, .int .u8 0, .int .u8 0, .int .u8 0, .slice none 0 0] 45 (0, 0)) = z_8 at h1 h2 ⊢
            have HZ := Aside0.mk h1
            replace HI := Aside0.mk (HI.out.below h2)
            replace HB6 := Aside0.mk (below_step HB6.out h2)
            clear h1 h2
            refine hK.out _ _ (HI.out) (fun hHeld => ?_)
            clear hK K
            refine norm_ (a' := ?_) ?_ ?_
            rotate_left
            · show Act.put _ (some 18) _ = _
              simp only [Act.put, List.setIfInBounds_toArray, List.set_cons_zero, List.set_cons_succ, i64_w, i32_w]
              rfl
            refine one_ (i := 3) (N := some 139) #[true, true, true, true, false, false, false, false, true, false, false] rfl rfl (by kernel_rfl) (by decide) (fun K hK => ?_)
            refine goes_ Try.func26 (by kernel_rfl) rfl #[tabV true, .slice (some ⟨gd, 0, none⟩) n cd] (by rfl) rfl rfl (by go_simp) ?_
            refine (HSE.out _ (Kd.C_below HCC.out HB6.out) hcd HCB.out HSN15.out).mono ?_
            rintro e z_8_3 ⟨vx, rfl, hR, h2⟩
            refine ⟨_, rfl, ?_⟩
            obtain ⟨AX, cX, rfl, hcX, hCX⟩ := Kd.R_reads hR
            have HCX := Aside0.mk hCX
            have HcX := Aside0.mk hcX
            replace HI := Aside0.mk (HI.out.below h2)
            replace HB6 := Aside0.mk (below_step HB6.out h2)
            replace HZ := Aside0.mk (blk_below HZ.out h2)
            clear hR h2 hcX hCX
            refine hK.out _ _ (HI.out) (fun hHeld => ?_)
            clear hK K
            refine norm_ (a' := ?_) ?_ ?_
            rotate_left
            · show Act.put _ (some 139) _ = _
              simp only [Act.put, List.setIfInBounds_toArray, List.set_cons_zero, List.set_cons_succ, i64_w, i32_w]
              rfl
            refine one_ (i := 4) (N := some 140) #[true, true, true, true, true, false, false, false, true, false, false] rfl rfl (by kernel_rfl) (by decide) (fun K hK => ?_)
            refine goes_ Try.func34 (by kernel_rfl) rfl #[tabV true, .slice AX S2.length cX] (by rfl) rfl rfl (by go_simp) ?_
            refine (mac_Decode.calls AX cX S2 _ HCX.out HcX.out HSB.out HSL.out).mono ?_
            rintro e z_8_3_4 ⟨AD, cD, rfl, hcD, hCD, h2⟩
            refine ⟨_, rfl, ?_⟩
            replace HI := Aside0.mk (HI.out.below h2)
            replace HB6 := Aside0.mk (below_step HB6.out h2)
            replace HZ := Aside0.mk (blk_below HZ.out h2)
            clear hcD hCD h2
            refine hK.out _ _ (HI.out) (fun hHeld => ?_)
            clear hK K
            refine norm_ (a' := ?_) ?_ ?_
            rotate_left
            · show Act.put _ (some 140) _ = _
              simp only [Act.put, List.setIfInBounds_toArray, List.set_cons_zero, List.set_cons_succ, i64_w, i32_w]
              rfl
            refine pure_ (i := 5) (N := some 135) (v := ?_) (a' := ?_) #[true, true, true, true, true, true, false, false, true, false, false] rfl rfl (by kernel_rfl) (fun _ _ _ h => h) (Or.inl ⟨by rfl, ?_⟩) ?_ ?_
            rotate_left
            · intro w'
              go_simp
              with_reducible rfl
            rotate_left
            · simp only [Act.put, List.setIfInBounds_toArray, List.set_cons_zero, List.set_cons_succ, i64_w, i32_w]
              rfl
            refine pure_ (i := 6) (N := some 141) (v := ?_) (a' := ?_) #[true, true, true, true, true, true, true, false, true, false, false] rfl rfl (by kernel_rfl) (fun _ _ _ h => h) (Or.inl ⟨by rfl, ?_⟩) ?_ ?_
            rotate_left
            · intro w'
              go_simp
              with_reducible rfl
            rotate_left
            · simp only [Act.put, List.setIfInBounds_toArray, List.set_cons_zero, List.set_cons_succ, i64_w, i32_w]
              rfl
            refine pure_ (i := 7) (N := some 142) (v := ?_) (a' := ?_) #[true, true, true, true, true, true, true, true, true, false, false] rfl rfl (by kernel_rfl) (fun _ _ _ h => h) (Or.inl ⟨by rfl, ?_⟩) ?_ ?_
            rotate_left
            · intro w'
              go_simp
              with_reducible rfl
            rotate_left
            · simp only [Act.put, List.setIfInBounds_toArray, List.set_cons_zero, List.set_cons_succ, i64_w, i32_w]
              rfl
            exact norm_ (by simp only [putAll, Act.put, List.setIfInBounds_toArray, List.set_cons_zero, List.set_cons_succ]) (hCont (AX, cX, AD, cD, v2.drew.heap.size) _ ⟨HI.out, HB6.out, HZ.out, HK6.out⟩)
        rintro ⟨AX, cX, AD, cD, k_⟩ v90 ⟨hI_, hB_, hZ_, hK_⟩
        clear HI HB6
        have HI := Aside0.mk hI_
        have HB6 := Aside0.mk hB_
        have HZ := Aside0.mk hZ_
        have HKK := Aside0.mk hK_
        have hHeld : IsTab true v90 g := hI_
        clear hI_ hB_ hZ_ hK_
        refine norm_ (a' := ?_) ?_ ?_
        rotate_left
        · simp only [putAll, Act.put, List.setIfInBounds_toArray, List.set_cons_zero, List.set_cons_succ]
          rfl
        have hS := below_setRow HB6.out HKK.out (frame (decH S2) AD (decD S2).length cD)
        refine one_store_row_ (i := 9) (N := none) (oi := { dst := none, op := Go.Op.store 45 (Go.Operand.tmp 18) (Go.Operand.tmp 141), type := 0, pos := "law.go:192", after := #[{ on := 8, ground := Go.Ground.data }, { on := 6, ground := Go.Ground.data }, { on := 4, ground := Go.Ground.chain }, { on := 0, ground := Go.Ground.phase }, { on := 1, ground := Go.Ground.phase }, { on := 2, ground := Go.Ground.phase }, { on := 3, ground := Go.Ground.phase }, { on := 4, ground := Go.Ground.phase }, { on := 5, ground := Go.Ground.phase }, { on := 6, ground := Go.Ground.phase }, { on := 7, ground := Go.Ground.textOnly Go.Departure.lateStores }, { on := 8, ground := Go.Ground.phase }], guard := none }) #[true, true, true, true, true, true, true, true, true, true, false] (by kernel_rfl) rfl (by kernel_rfl) (by decide) (by kernel_rfl) 45 (.tmp 18) (.tmp 141) rfl k_ (frame (decH S2) AD (decD S2).length cD) (by simp [Act.eval]) (by simp [Act.eval]) 45 #[.int .u8 0, .int .u8 0, .int .u8 0, .int .u8 0, .int .u8 0, .int .u8 0, .int .u8 0, .int .u8 0, .int .u8 0, .int .u8 0, .int .u8 0, .int .u8 0, .slice none 0 0] HZ.out info45_ rfl (frame_one _ _ _ _) (HI6.out.below hS) ?_
        generalize v90.setRow k_ (frame (decH S2) AD (decD S2).length cD) = v9 at hS ⊢
        replace HI := Aside0.mk (HI6.out.below hS)
        have HS9 := Aside0.mk hS
        have hHeld : IsTab true v9 g := HI.out
        clear hS HB6 HZ HI6
        refine norm_ (a' := ?_) ?_ ?_
        rotate_left
        · show Act.put _ none _ = _
          simp only [Act.put]
          rfl
        refine pure_ (i := 10) (N := some 19) (v := ?_) (a' := ?_) #[true, true, true, true, true, true, true, true, true, true, true] rfl rfl (by kernel_rfl) (fun _ _ _ h => h) (Or.inl ⟨by rfl, ?_⟩) ?_ ?_
        rotate_left
        · intro w'
          go_simp
          with_reducible rfl
        rotate_left
        · simp only [Act.put, List.setIfInBounds_toArray, List.set_cons_zero, List.set_cons_succ, i64_w, i32_w]
          rfl
        refine done_ (by kernel_rfl) ?_
        have he2 := HPD.out
        go_wp2_with fail
        refine (awake3_calls _).mono ?_
        rintro e vz ⟨rfl, hB⟩
        go_wp2_with fail
        go_ret
        exact ⟨rfl, below_step (below_step (below_step (below_step HB.out HBc.out) HB9.out) HS9.out) hB⟩
      | true =>
        by_cases hlt : k < n
        · have hx := (show w9.cell? ⟨gc, k, none⟩ = some (.int .u8 (hdv C k)) from byte_at (reads_own HX.out HCL.out) hlt)
          have HK0 := Aside0.mk hk0
          obtain ⟨b2, hb2⟩ : ∃ b2, (hdv C k == 0) = b2 := ⟨_, rfl⟩
          have HB2 := Aside0.mk (show b2 = true ↔ hdv C k = 0 by rw [← hb2]; exact beq_iff_eq)
          obtain ⟨ck, hck⟩ : ∃ ck, hdv C k = ck := ⟨_, rfl⟩
          have HCK := Aside0.mk hck
          rw [hck] at hx hb2 HB2
          clear hk0 hk hck
          go_wp2_with fail
          go_round
          case rel => exact ⟨k + 1, b2, by have := HK0.out; omega, by omega, by go_num, rfl, ⟨len_next HZ.out HK0.out (by rw [HCK.out]; exact HB2.out)⟩⟩
          case measure => simp [intOf]; omega
        · obtain rfl : k = n := by omega
          have he : decE S = 0 := (HDC.out true ⟨fun _ => ⟨⟨H15.out, HMU.out ▸ HMN.out⟩, HZ.out.1 rfl⟩, fun _ => rfl⟩).trans rfl
          clear HDC HZ hlt hk hk0
          go_wp2_with fail
          refine (HCP.out _ (Kd.C_below HCT.out HBc.out) hnc HCF.out).mono ?_
          rintro e v1 ⟨vd, rfl, hR, hB⟩
          obtain ⟨Ad, cd, rfl⟩ := Kd.R_slice hR
          obtain ⟨gd, rfl⟩ := R_some_ hR (by have := HPL.out; omega)
          rw [HPL.out] at hR ⊢
          have HXd := Aside0.mk hR
          have HB9 := Aside0.mk hB
          have HGD := Aside0.mk (R_base_ hR)
          have hcd : k ≤ cd := by obtain ⟨_, _, he, hc, _⟩ := Kd.R_reads hR; injection he with e1 e2 e3; rw [HPL.out] at hc; omega
          have hk12 := (show v1.cell? ⟨gf, 12, none⟩ = some (.slice A0_12 l0_12.length c0_12) from (blk_cell (blk_below HF.out (below_step HBc.out hB)) 12).trans rfl)
          clear hR hB
          by_cases h46 : 46 ≤ l0_12.length
          case pos =>
            have d46 : decide ((46 : Int) ≤ (l0_12.length : Int)) = true := decide_eq_true (by omega)
            clear h46
            go_wp2_with fail
            refine (awake3_calls _).mono ?_
            rintro e vz ⟨rfl, hB⟩
            go_wp2_with fail
            go_ret
            exact ⟨rfl, below_step (below_step (below_step HB.out HBc.out) HB9.out) hB⟩
          have d46 : decide ((46 : Int) ≤ (l0_12.length : Int)) = false := decide_eq_false (by omega)
          by_cases hx0 : a3 = 0
          case pos =>
            have bx : (a3 == 0) = true := beq_iff_eq.2 hx0
            clear hx0 h46
            go_wp2_with fail
            refine (awake3_calls _).mono ?_
            rintro e vz ⟨rfl, hB⟩
            go_wp2_with fail
            go_ret
            exact ⟨rfl, below_step (below_step (below_step HB.out HBc.out) HB9.out) hB⟩
          have bx : (a3 == 0) = false := beq_eq_false_iff_ne.2 hx0
          go_wp2_with fail
          obtain ⟨t, ht⟩ : ∃ t : Nat, 46 - l0_12.length = t := ⟨_, rfl⟩
          have ht0 : 0 < t := pos46 ht h46
          obtain ⟨r, hr⟩ : ∃ r : Nat, q % t = r := ⟨_, rfl⟩
          have hrt : r < t := by rw [← hr]; exact Nat.mod_lt _ ht0
          obtain ⟨m0, hm0'⟩ : ∃ m0 : Nat, 14 + l0_12.length = m0 := ⟨_, rfl⟩
          obtain ⟨m, hm⟩ : ∃ m : Nat, m0 + r = m := ⟨_, rfl⟩
          have hmn : m < k := idx_lt HSN.out ht hrt hm0' hm
          have HPD := Aside0.mk (show decE (sealI (P.set m a3)) = 4 by rw [← hm, ← hm0']; exact pad_dec HEF.out HSN.out.symm (lt46 ht hrt) hx0)
          have hn9 : k ≤ 9223372036854775807 := le9 hn15
          have e4 : wrap64 (14 + (l0_12.length : Int)) = (m0 : Int) := w64_14 hm0' HL.out
          have e10 : wrap64 (46 - (l0_12.length : Int)) = (t : Int) := w64_46 ht ht0
          have ht2 : ¬ (t = 0) := ne_of_pos_ ht0
          have ht1 : ¬ ((t : Int) = 0) := nez_ ht0
          have e6 : wrap64 (q : Int) = (q : Int) := w64q hq65
          have HTM := Aside0.mk (show (q : Int).tmod (t : Int) = (r : Int) by rw [← hr]; rfl)
          have e11 : (q : Int).tmod (t : Int) = (r : Int) := by rw [← hr]; rfl
          have e11w : wrap64 (r : Int) = (r : Int) := w64r ht hrt
          have e12 : (m0 : Int) + (r : Int) = (m : Int) := by rw [← hm]; rfl
          have e12w : wrap64 (m : Int) = (m : Int) := w64n hmn hn9
          have HMN2 := Aside0.mk hmn
          have HDB := Aside0.mk (show byteRow (P.set m a3) from byteRow_set HPB.out HU3.out)
          have HDL := Aside0.mk (show (P.set m a3).length = k by rw [List.length_set]; exact HPL.out)
          clear h46 hx0 ht hr hm0' hm ht0 hrt
          refine start_ (n := 16) (S := fun w' => w'.cell? ⟨gf, 12, none⟩ = some (.slice A0_12 l0_12.length c0_12)) (ds := []) #[false, false, false, false, false, false, false, false, false, false, false, false, false, false, false, false] (by kernel_rfl) rfl rfl (hk12) (fun hHeld => ?_)
          refine pure_ (i := 0) (N := some 120) (v := ?_) (a' := ?_) #[true, false, false, false, false, false, false, false, false, false, false, false, false, false, false, false] rfl rfl (by kernel_rfl) (fun _ _ _ h => h) (Or.inl ⟨by rfl, ?_⟩) ?_ ?_
          rotate_left
          · intro w'
            go_simp
            with_reducible rfl
          rotate_left
          · simp only [Act.put, List.setIfInBounds_toArray, List.set_cons_zero, List.set_cons_succ, i64_w, i32_w]
            rfl
          refine pure_ (i := 1) (N := some 121) (v := ?_) (a' := ?_) #[true, true, false, false, false, false, false, false, false, false, false, false, false, false, false, false] rfl rfl (by kernel_rfl) (fun _ _ _ h => h) (Or.inl ⟨by rfl, ?_⟩) ?_ ?_
          rotate_left
          · intro w'
            go_simp
            with_reducible rfl
          rotate_left
          · simp only [Act.put, List.setIfInBounds_toArray, List.set_cons_zero, List.set_cons_succ, i64_w, i32_w]
            rfl
          refine pure_ (i := 5) (N := some 125) (v := ?_) (a' := ?_) #[true, true, false, false, false, true, false, false, false, false, false, false, false, false, false, false] rfl rfl (by kernel_rfl) (fun _ _ _ h => h) (Or.inl ⟨by rfl, ?_⟩) ?_ ?_
          rotate_left
          · intro w'
            go_simp
            with_reducible rfl
          rotate_left
          · simp only [Act.put, List.setIfInBounds_toArray, List.set_cons_zero, List.set_cons_succ, i64_w, i32_w]
            rfl
          refine pure_ (i := 6) (N := some 126) (v := ?_) (a' := ?_) #[true, true, false, false, false, true, true, false, false, false, false, false, false, false, false, false] rfl rfl (by kernel_rfl) (fun _ _ _ h => h) (Or.inl ⟨by rfl, ?_⟩) ?_ ?_
          rotate_left
          · intro w'
            go_simp
            with_reducible rfl
          rotate_left
          · simp only [Act.put, List.setIfInBounds_toArray, List.set_cons_zero, List.set_cons_succ, i64_w, i32_w]
            rfl
          refine pure_ (i := 7) (N := some 127) (v := ?_) (a' := ?_) #[true, true, false, false, false, true, true, true, false, false, false, false, false, false, false, false] rfl rfl (by kernel_rfl) (fun _ _ _ h => h) (Or.inl ⟨by rfl, ?_⟩) ?_ ?_
          rotate_left
          · intro w'
            go_simp
            with_reducible rfl
          rotate_left
          · simp only [Act.put, List.setIfInBounds_toArray, List.set_cons_zero, List.set_cons_succ, i64_w, i32_w]
            rfl
          refine pure_ (i := 13) (N := some 133) (v := ?_) (a' := ?_) #[true, true, false, false, false, true, true, true, false, false, false, false, false, true, false, false] rfl rfl (by kernel_rfl) (fun _ _ _ h => h) (Or.inl ⟨by rfl, ?_⟩) ?_ ?_
          rotate_left
          · intro w'
            go_simp
            with_reducible rfl
          rotate_left
          · simp only [Act.put, List.setIfInBounds_toArray, List.set_cons_zero, List.set_cons_succ, i64_w, i32_w]
            rfl
          refine take_ (i := 2) (N := some 122) (v := ?_) (a' := ?_) #[true, true, true, false, false, true, true, true, false, false, false, false, false, true, false, false] rfl rfl (by kernel_rfl) (fun _ _ _ h => h) (Or.inl ⟨by rfl, ?_⟩) hHeld ?_ ?_
          rotate_left
          · intro w' s0
            go_simp
            with_reducible rfl
          rotate_left
          · simp only [Act.put, List.setIfInBounds_toArray, List.set_cons_zero, List.set_cons_succ, i64_w, i32_w]
            rfl
          refine pure_ (i := 3) (N := some 123) (v := ?_) (a' := ?_) #[true, true, true, true, false, true, true, true, false, false, false, false, false, true, false, false] rfl rfl (by kernel_rfl) (fun _ _ _ h => h) (Or.inl ⟨by rfl, ?_⟩) ?_ ?_
          rotate_left
          · intro w'
            go_simp
            with_reducible rfl
          rotate_left
          · simp only [Act.put, List.setIfInBounds_toArray, List.set_cons_zero, List.set_cons_succ, i64_w, i32_w]
            rfl
          refine pure_ (i := 4) (N := some 124) (v := ?_) (a' := ?_) #[true, true, true, true, true, true, true, true, false, false, false, false, false, true, false, false] rfl rfl (by kernel_rfl) (fun _ _ _ h => h) (Or.inl ⟨by rfl, ?_⟩) ?_ ?_
          rotate_left
          · intro w'
            go_simp
            with_reducible rfl
          rotate_left
          · simp only [Act.put, List.setIfInBounds_toArray, List.set_cons_zero, List.set_cons_succ, i64_w, i32_w]
            rfl
          refine take_ (i := 8) (N := some 128) (v := ?_) (a' := ?_) #[true, true, true, true, true, true, true, true, true, false, false, false, false, true, false, false] rfl rfl (by kernel_rfl) (fun _ _ _ h => h) (Or.inl ⟨by rfl, ?_⟩) hHeld ?_ ?_
          rotate_left
          · intro w' s0
            go_simp
            with_reducible rfl
          rotate_left
          · simp only [Act.put, List.setIfInBounds_toArray, List.set_cons_zero, List.set_cons_succ, i64_w, i32_w]
            rfl
          refine pure_ (i := 9) (N := some 129) (v := ?_) (a' := ?_) #[true, true, true, true, true, true, true, true, true, true, false, false, false, true, false, false] rfl rfl (by kernel_rfl) (fun _ _ _ h => h) (Or.inl ⟨by rfl, ?_⟩) ?_ ?_
          rotate_left
          · intro w'
            go_simp
            with_reducible rfl
          rotate_left
          · simp only [Act.put, List.setIfInBounds_toArray, List.set_cons_zero, List.set_cons_succ, i64_w, i32_w]
            rfl
          refine pure_ (i := 10) (N := some 130) (v := ?_) (a' := ?_) #[true, true, true, true, true, true, true, true, true, true, true, false, false, true, false, false] rfl rfl (by kernel_rfl) (fun _ _ _ h => h) (Or.inl ⟨by rfl, ?_⟩) ?_ ?_
          rotate_left
          · intro w'
            go_simp
            with_reducible rfl
          rotate_left
          · simp only [Act.put, List.setIfInBounds_toArray, List.set_cons_zero, List.set_cons_succ, i64_w, i32_w]
            rfl
          refine pure_ (i := 11) (N := some 131) (v := ?_) (a' := ?_) #[true, true, true, true, true, true, true, true, true, true, true, true, false, true, false, false] rfl rfl (by kernel_rfl) (fun _ _ _ h => h) (Or.inl ⟨by rfl, ?_⟩) ?_ ?_
          rotate_left
          · intro w'
            go_simp
            with_reducible rfl
          rotate_left
          · simp only [Act.put, List.setIfInBounds_toArray, List.set_cons_zero, List.set_cons_succ, i64_w, i32_w]
            rfl
          refine pure_ (i := 12) (N := some 132) (v := ?_) (a' := ?_) #[true, true, true, true, true, true, true, true, true, true, true, true, true, true, false, false] rfl rfl (by kernel_rfl) (fun _ _ _ h => h) (Or.inl ⟨by rfl, ?_⟩) ?_ ?_
          rotate_left
          · intro w'
            go_simp
            with_reducible rfl
          rotate_left
          · simp only [Act.put, List.setIfInBounds_toArray, List.set_cons_zero, List.set_cons_succ, i64_w, i32_w]
            rfl
          refine pure_ (i := 14) (N := some 134) (v := ?_) (a' := ?_) #[true, true, true, true, true, true, true, true, true, true, true, true, true, true, true, false] rfl rfl (by kernel_rfl) (fun _ _ _ h => h) (Or.inl ⟨by rfl, ?_⟩) ?_ ?_
          rotate_left
          · intro w'
            go_simp
            with_reducible rfl
          rotate_left
          · simp only [Act.put, List.setIfInBounds_toArray, List.set_cons_zero, List.set_cons_succ, i64_w, i32_w]
            rfl
          refine one_ (i := 15) (N := none) #[true, true, true, true, true, true, true, true, true, true, true, true, true, true, true, true] rfl rfl (by kernel_rfl) (by decide) (fun K hK => ?_)
          refine if_pos_ (by rfl) ?_
          refine wp_store_R (.tmp 134) (.tmp 133) rfl gd m a3 (Kd.R_below HXd.out (below_drew1 (Below.refl v1.heap.size v1))) rfl rfl HMN2.out info5_ ?_
          intro v2 hZ hG
          replace HXd := Aside0.mk hZ
          replace HB9 := Aside0.mk (below_own (below_drew1 HB9.out) hG HGD.out)
          have hHeld : v2.cell? ⟨gf, 12, none⟩ = some (.slice A0_12 l0_12.length c0_12) := (blk_cell (blk_below HF.out (below_step HBc.out HB9.out)) 12).trans rfl
          clear hZ hG
          refine hK.out _ _ (hHeld) (fun hHeld => ?_)
          clear hK K
          refine norm_ (a' := ?_) ?_ ?_
          rotate_left
          · show Act.put _ none _ = _
            simp only [Act.put]
            rfl
          refine done_ (by kernel_rfl) ?_
          clear hk12
          go_wp2_with fail
          generalize P.set m a3 = D at HXd HPD HDB HDL
          replace HI := Aside0.mk (HI.out.below HB9.out)
          have HCC := Aside0.mk (reads_own HXd.out HDL.out)
          have HCB := HDB
          have HSE := Aside0.mk (crc_Seal.calls (some ⟨gd, 0, none⟩) cd D)
          rw [HDL.out] at HSE
          have HSB := Aside0.mk (sealI_byte HDB.out)
          have HSL := Aside0.mk (show (sealI D).length < 140737488355000 by rw [sealI_len, HDL.out]; omega)
          generalize sealI D = S2 at HSE HSB HSL HPD
          clear e4 e10 ht1 ht2 e6 e11 e11w e12 e12w
          have HB6 := Aside0.mk (Below.refl v2.heap.size v2)
          have HI6 := HI
          refine start_ (n := 11) (S := fun w' => IsTab true w' g) (ds := []) #[false, false, false, false, false, false, false, false, false, false, false] (by kernel_rfl) rfl rfl (HI.out.drew1) (fun hHeld => ?_)
          refine pure_ (i := 2) (N := some 138) (v := ?_) (a' := ?_) #[false, false, true, false, false, false, false, false, false, false, false] rfl rfl (by kernel_rfl) (fun _ _ _ h => h) (Or.inl ⟨by rfl, ?_⟩) ?_ ?_
          rotate_left
          · intro w'
            go_simp
            with_reducible rfl
          rotate_left
          · simp only [Act.put, List.setIfInBounds_toArray, List.set_cons_zero, List.set_cons_succ, i64_w, i32_w]
            rfl
          refine take_ (i := 0) (N := some 136) (v := tabV true) #[true, false, true, false, false, false, false, false, false, false, false] rfl rfl (by kernel_rfl) (fun _ _ _ h => h) ?_ hHeld rfl ?_
          · exact yields_tab (by rfl) _ rfl _ rfl true (by intro w' s0; exact s0)
          refine norm_ (a' := ?_) ?_ ?_
          rotate_left
          · show Act.put _ (some 136) _ = _
            simp only [Act.put, List.setIfInBounds_toArray, List.set_cons_zero, List.set_cons_succ, i64_w, i32_w]
            rfl
          refine take_ (i := 1) (N := some 137) (v := tabV true) #[true, true, true, false, false, false, false, false, false, false, false] rfl rfl (by kernel_rfl) (fun _ _ _ h => h) ?_ hHeld rfl ?_
          · exact yields_tab (by rfl) _ rfl _ rfl true (by intro w' s0; exact s0)
          refine norm_ (a' := ?_) ?_ ?_
          rotate_left
          · show Act.put _ (some 137) _ = _
            simp only [Act.put, List.setIfInBounds_toArray, List.set_cons_zero, List.set_cons_succ, i64_w, i32_w]
            rfl
          refine join_ (σ := Option Addr × Nat × Option Addr × Nat × Nat) 2 #[true, true, true, true, true, true, true, true, true, false, false] (fun s_ => [(139, .slice s_.1 S2.length s_.2.1), (140, .tuple #[.agg (frame (decH S2) s_.2.2.1 (decD S2).length s_.2.2.2.1), .int .i64 (decE S2)]), (18, .pointer (some ⟨s_.2.2.2.2, 0, none⟩)), (135, .tuple #[.agg (frame (decH S2) s_.2.2.1 (decD S2).length s_.2.2.2.1), .int .i64 (decE S2)]), (141, .agg (frame (decH S2) s_.2.2.1 (decD S2).length s_.2.2.2.1)), (142, .int .i64 (decE S2))]) (fun s_ w' => IsTab true w' g ∧ (Below v2.heap.size v2 w' ∧ w'.heap[s_.2.2.2.2]? = some (.cells #[.int .u8 0, .int .u8 0, .int .u8 0, .int .u8 0, .int .u8 0, .int .u8 0, .int .u8 0, .int .u8 0, .int .u8 0, .int .u8 0, .int .u8 0, .int .u8 0, .slice none 0 0] 45 (0, 0)) ∧ v2.heap.size ≤ s_.2.2.2.2)) ?_ ?_
          rotate_left
          · intro hCont
            refine two_ (i := 3) (j := 8) (Ni := some 139) (Nj := some 18) #[true, true, true, true, false, false, false, false, false, false, false] #[true, true, true, false, false, false, false, false, true, false, false] rfl rfl rfl rfl (by kernel_rfl) (by decide) (by decide) (fun K hK => ?_) (fun K hK => ?_)
            · skip
              replace HI := Aside0.mk HI.out.drew1
              replace HB6 := Aside0.mk (below_drew1 HB6.out)
              refine goes_ Try.func26 (by kernel_rfl) rfl #[tabV true, .slice (some ⟨gd, 0, none⟩) k cd] (by rfl) rfl rfl (by go_simp) ?_
              refine (HSE.out _ (Kd.C_below HCC.out HB6.out) hcd HCB.out HSN15.out).mono ?_
              rintro e z_3 ⟨vx, rfl, hR, h2⟩
              refine ⟨_, rfl, ?_⟩
              obtain ⟨AX, cX, rfl, hcX, hCX⟩ := Kd.R_reads hR
              have HCX := Aside0.mk hCX
              have HcX := Aside0.mk hcX
              replace HI := Aside0.mk (HI.out.below h2)
              replace HB6 := Aside0.mk (below_step HB6.out h2)
              clear hR h2 hcX hCX
              refine hK.out _ _ (HI.out) (fun hHeld => ?_)
              clear hK K
              refine norm_ (a' := ?_) ?_ ?_
              rotate_left
              · show Act.put _ (some 139) _ = _
                simp only [Act.put, List.setIfInBounds_toArray, List.set_cons_zero, List.set_cons_succ, i64_w, i32_w]
                rfl
              refine two_ (i := 4) (j := 8) (Ni := some 140) (Nj := some 18) #[true, true, true, true, true, false, false, false, false, false, false] #[true, true, true, true, false, false, false, false, true, false, false] rfl rfl rfl rfl (by kernel_rfl) (by decide) (by decide) (fun K hK => ?_) (fun K hK => ?_)
              · skip
                refine goes_ Try.func34 (by kernel_rfl) rfl #[tabV true, .slice AX S2.length cX] (by rfl) rfl rfl (by go_simp) ?_
                refine (mac_Decode.calls AX cX S2 _ HCX.out HcX.out HSB.out HSL.out).mono ?_
                rintro e z_3_4 ⟨AD, cD, rfl, hcD, hCD, h2⟩
                refine ⟨_, rfl, ?_⟩
                replace HI := Aside0.mk (HI.out.below h2)
                replace HB6 := Aside0.mk (below_step HB6.out h2)
                clear hcD hCD h2
                refine hK.out _ _ (HI.out) (fun hHeld => ?_)
                clear hK K
                refine norm_ (a' := ?_) ?_ ?_
                rotate_left
                · show Act.put _ (some 140) _ = _
                  simp only [Act.put, List.setIfInBounds_toArray, List.set_cons_zero, List.set_cons_succ, i64_w, i32_w]
                  rfl
                refine pure_ (i := 5) (N := some 135) (v := ?_) (a' := ?_) #[true, true, true, true, true, true, false, false, false, false, false] rfl rfl (by kernel_rfl) (fun _ _ _ h => h) (Or.inl ⟨by rfl, ?_⟩) ?_ ?_
                rotate_left
                · intro w'
                  go_simp
                  with_reducible rfl
                rotate_left
                · simp only [Act.put, List.setIfInBounds_toArray, List.set_cons_zero, List.set_cons_succ, i64_w, i32_w]
                  rfl
                refine pure_ (i := 6) (N := some 141) (v := ?_) (a' := ?_) #[true, true, true, true, true, true, true, false, false, false, false] rfl rfl (by kernel_rfl) (fun _ _ _ h => h) (Or.inl ⟨by rfl, ?_⟩) ?_ ?_
                rotate_left
                · intro w'
                  go_simp
                  with_reducible rfl
                rotate_left
                · simp only [Act.put, List.setIfInBounds_toArray, List.set_cons_zero, List.set_cons_succ, i64_w, i32_w]
                  rfl
                refine pure_ (i := 7) (N := some 142) (v := ?_) (a' := ?_) #[true, true, true, true, true, true, true, true, false, false, false] rfl rfl (by kernel_rfl) (fun _ _ _ h => h) (Or.inl ⟨by rfl, ?_⟩) ?_ ?_
                rotate_left
                · intro w'
                  go_simp
                  with_reducible rfl
                rotate_left
                · simp only [Act.put, List.setIfInBounds_toArray, List.set_cons_zero, List.set_cons_succ, i64_w, i32_w]
                  rfl
                refine one_ (i := 8) (N := some 18) #[true, true, true, true, true, true, true, true, true, false, false] rfl rfl (by kernel_rfl) (by decide) (fun K hK => ?_)
                refine value_ (w1 := z_3_4.alloc (.cells #[.int .u8 0, .int .u8 0, .int .u8 0, .int .u8 0, .int .u8 0, .int .u8 0, .int .u8 0, .int .u8 0, .int .u8 0, .int .u8 0, .int .u8 0, .int .u8 0, .slice none 0 0] 45 (0, 0))) (v := .pointer (some ⟨z_3_4.heap.size, 0, none⟩)) (by rfl) rfl ?_ ?_
                · first | (go_simp; done) | (go_simp; constructor <;> rfl) | (go_simp; rfl)
                have h1 := blk_new z_3_4 (.cells #[.int .u8 0, .int .u8 0, .int .u8 0, .int .u8 0, .int .u8 0, .int .u8 0, .int .u8 0, .int .u8 0, .int .u8 0, .int .u8 0, .int .u8 0, .int .u8 0, .slice none 0 0] 45 (0, 0))
                have h2 := below_alloc (Below.refl z_3_4.heap.size z_3_4) (.cells #[.int .u8 0, .int .u8 0, .int .u8 0, .int .u8 0, .int .u8 0, .int .u8 0, .int .u8 0, .int .u8 0, .int .u8 0, .int .u8 0, .int .u8 0, .int .u8 0, .slice none 0 0] 45 (0, 0))
                have HK6 := Aside0.mk (show v2.heap.size ≤ z_3_4.heap.size from HB6.out.size)
                generalize z_3_4.alloc (.cells #[.int .u8 0, .int .u8 0, .int .u8 0, .int .u8 0, .int .u8 0, .int .u8 0, .int .u8 0, .int .u8 0, .int .u8 0, .int .u8 0, .int .u8 0, .int .u8 0, .slice none 0 0] 45 (0, 0)) = z_3_4_8 at h1 h2 ⊢
                have HZ := Aside0.mk h1
                replace HI := Aside0.mk (HI.out.below h2)
                replace HB6 := Aside0.mk (below_step HB6.out h2)
                clear h1 h2
                refine hK.out _ _ (HI.out) (fun hHeld => ?_)
                clear hK K
                refine norm_ (a' := ?_) ?_ ?_
                rotate_left
                · show Act.put _ (some 18) _ = _
                  simp only [Act.put, List.setIfInBounds_toArray, List.set_cons_zero, List.set_cons_succ, i64_w, i32_w]
                  rfl
                exact norm_ (by simp only [putAll, Act.put, List.setIfInBounds_toArray, List.set_cons_zero, List.set_cons_succ]) (hCont (AX, cX, AD, cD, z_3_4.heap.size) _ ⟨HI.out, HB6.out, HZ.out, HK6.out⟩)
              · skip
                refine value_ (w1 := z_3.alloc (.cells #[.int .u8 0, .int .u8 0, .int .u8 0, .int .u8 0, .int .u8 0, .int .u8 0, .int .u8 0, .int .u8 0, .int .u8 0, .int .u8 0, .int .u8 0, .int .u8 0, .slice none 0 0] 45 (0, 0))) (v := .pointer (some ⟨z_3.heap.size, 0, none⟩)) (by rfl) rfl ?_ ?_
                · first | (go_simp; done) | (go_simp; constructor <;> rfl) | (go_simp; rfl)
                have h1 := blk_new z_3 (.cells #[.int .u8 0, .int .u8 0, .int .u8 0, .int .u8 0, .int .u8 0, .int .u8 0, .int .u8 0, .int .u8 0, .int .u8 0, .int .u8 0, .int .u8 0, .int .u8 0, .slice none 0 0] 45 (0, 0))
                have h2 := below_alloc (Below.refl z_3.heap.size z_3) (.cells #[.int .u8 0, .int .u8 0, .int .u8 0, .int .u8 0, .int .u8 0, .int .u8 0, .int .u8 0, .int .u8 0, .int .u8 0, .int .u8 0, .int .u8 0, .int .u8 0, .slice none 0 0] 45 (0, 0))
                have HK6 := Aside0.mk (show v2.heap.size ≤ z_3.heap.size from HB6.out.size)
                replace HCX := Aside0.mk (Kd.C_below HCX.out h2)
                generalize z_3.alloc (.cells #[.int .u8 0, .int .u8 0, .int .u8 0, .int .u8 0, .int .u8 0, .int .u8 0, .int .u8 0, .int .u8 0, .int .u8 0, .int .u8 0, .int .u8 0, .int .u8 0, .slice none 0 0] 45 (0, 0)) = z_3_8 at h1 h2 HCX ⊢
                have HZ := Aside0.mk h1
                replace HI := Aside0.mk (HI.out.below h2)
                replace HB6 := Aside0.mk (below_step HB6.out h2)
                clear h1 h2
                refine hK.out _ _ (HI.out) (fun hHeld => ?_)
                clear hK K
                refine norm_ (a' := ?_) ?_ ?_
                rotate_left
                · show Act.put _ (some 18) _ = _
                  simp only [Act.put, List.setIfInBounds_toArray, List.set_cons_zero, List.set_cons_succ, i64_w, i32_w]
                  rfl
                refine one_ (i := 4) (N := some 140) #[true, true, true, true, true, false, false, false, true, false, false] rfl rfl (by kernel_rfl) (by decide) (fun K hK => ?_)
                refine goes_ Try.func34 (by kernel_rfl) rfl #[tabV true, .slice AX S2.length cX] (by rfl) rfl rfl (by go_simp) ?_
                refine (mac_Decode.calls AX cX S2 _ HCX.out HcX.out HSB.out HSL.out).mono ?_
                rintro e z_3_8_4 ⟨AD, cD, rfl, hcD, hCD, h2⟩
                refine ⟨_, rfl, ?_⟩
                replace HI := Aside0.mk (HI.out.below h2)
                replace HB6 := Aside0.mk (below_step HB6.out h2)
                replace HZ := Aside0.mk (blk_below HZ.out h2)
                clear hcD hCD h2
                refine hK.out _ _ (HI.out) (fun hHeld => ?_)
                clear hK K
                refine norm_ (a' := ?_) ?_ ?_
                rotate_left
                · show Act.put _ (some 140) _ = _
                  simp only [Act.put, List.setIfInBounds_toArray, List.set_cons_zero, List.set_cons_succ, i64_w, i32_w]
                  rfl
                refine pure_ (i := 5) (N := some 135) (v := ?_) (a' := ?_) #[true, true, true, true, true, true, false, false, true, false, false] rfl rfl (by kernel_rfl) (fun _ _ _ h => h) (Or.inl ⟨by rfl, ?_⟩) ?_ ?_
                rotate_left
                · intro w'
                  go_simp
                  with_reducible rfl
                rotate_left
                · simp only [Act.put, List.setIfInBounds_toArray, List.set_cons_zero, List.set_cons_succ, i64_w, i32_w]
                  rfl
                refine pure_ (i := 6) (N := some 141) (v := ?_) (a' := ?_) #[true, true, true, true, true, true, true, false, true, false, false] rfl rfl (by kernel_rfl) (fun _ _ _ h => h) (Or.inl ⟨by rfl, ?_⟩) ?_ ?_
                rotate_left
                · intro w'
                  go_simp
                  with_reducible rfl
                rotate_left
                · simp only [Act.put, List.setIfInBounds_toArray, List.set_cons_zero, List.set_cons_succ, i64_w, i32_w]
                  rfl
                refine pure_ (i := 7) (N := some 142) (v := ?_) (a' := ?_) #[true, true, true, true, true, true, true, true, true, false, false] rfl rfl (by kernel_rfl) (fun _ _ _ h => h) (Or.inl ⟨by rfl, ?_⟩) ?_ ?_
                rotate_left
                · intro w'
                  go_simp
                  with_reducible rfl
                rotate_left
                · simp only [Act.put, List.setIfInBounds_toArray, List.set_cons_zero, List.set_cons_succ, i64_w, i32_w]
                  rfl
                exact norm_ (by simp only [putAll, Act.put, List.setIfInBounds_toArray, List.set_cons_zero, List.set_cons_succ]) (hCont (AX, cX, AD, cD, z_3.heap.size) _ ⟨HI.out, HB6.out, HZ.out, HK6.out⟩)
            · skip
              replace HI := Aside0.mk HI.out.drew1
              replace HB6 := Aside0.mk (below_drew1 HB6.out)
              refine value_ (w1 := v2.drew.alloc (.cells #[.int .u8 0, .int .u8 0, .int .u8 0, .int .u8 0, .int .u8 0, .int .u8 0, .int .u8 0, .int .u8 0, .int .u8 0, .int .u8 0, .int .u8 0, .int .u8 0, .slice none 0 0] 45 (0, 0))) (v := .pointer (some ⟨v2.drew.heap.size, 0, none⟩)) (by rfl) rfl ?_ ?_
              · first | (go_simp; done) | (go_simp; constructor <;> rfl) | (go_simp; rfl)
              have h1 := blk_new v2.drew (.cells #[.int .u8 0, .int .u8 0, .int .u8 0, .int .u8 0, .int .u8 0, .int .u8 0, .int .u8 0, .int .u8 0, .int .u8 0, .int .u8 0, .int .u8 0, .int .u8 0, .slice none 0 0] 45 (0, 0))
              have h2 := below_alloc (Below.refl v2.drew.heap.size v2.drew) (.cells #[.int .u8 0, .int .u8 0, .int .u8 0, .int .u8 0, .int .u8 0, .int .u8 0, .int .u8 0, .int .u8 0, .int .u8 0, .int .u8 0, .int .u8 0, .int .u8 0, .slice none 0 0] 45 (0, 0))
              have HK6 := Aside0.mk (show v2.heap.size ≤ v2.drew.heap.size from HB6.out.size)
              generalize v2.drew.alloc (.cells #[.int .u8 0, .int .u8 0, .int .u8 0, .int .u8 0, .int .u8 0, .int .u8 0, .int .u8 0, .int .u8 0, .int .u8 0, .int .u8 0, .int .u8 0, .int .u8 0, .slice none 0 0] 45 (0, 0)) = z_8 at h1 h2 ⊢
              have HZ := Aside0.mk h1
              replace HI := Aside0.mk (HI.out.below h2)
              replace HB6 := Aside0.mk (below_step HB6.out h2)
              clear h1 h2
              refine hK.out _ _ (HI.out) (fun hHeld => ?_)
              clear hK K
              refine norm_ (a' := ?_) ?_ ?_
              rotate_left
              · show Act.put _ (some 18) _ = _
                simp only [Act.put, List.setIfInBounds_toArray, List.set_cons_zero, List.set_cons_succ, i64_w, i32_w]
                rfl
              refine one_ (i := 3) (N := some 139) #[true, true, true, true, false, false, false, false, true, false, false] rfl rfl (by kernel_rfl) (by decide) (fun K hK => ?_)
              refine goes_ Try.func26 (by kernel_rfl) rfl #[tabV true, .slice (some ⟨gd, 0, none⟩) k cd] (by rfl) rfl rfl (by go_simp) ?_
              refine (HSE.out _ (Kd.C_below HCC.out HB6.out) hcd HCB.out HSN15.out).mono ?_
              rintro e z_8_3 ⟨vx, rfl, hR, h2⟩
              refine ⟨_, rfl, ?_⟩
              obtain ⟨AX, cX, rfl, hcX, hCX⟩ := Kd.R_reads hR
              have HCX := Aside0.mk hCX
              have HcX := Aside0.mk hcX
              replace HI := Aside0.mk (HI.out.below h2)
              replace HB6 := Aside0.mk (below_step HB6.out h2)
              replace HZ := Aside0.mk (blk_below HZ.out h2)
              clear hR h2 hcX hCX
              refine hK.out _ _ (HI.out) (fun hHeld => ?_)
              clear hK K
              refine norm_ (a' := ?_) ?_ ?_
              rotate_left
              · show Act.put _ (some 139) _ = _
                simp only [Act.put, List.setIfInBounds_toArray, List.set_cons_zero, List.set_cons_succ, i64_w, i32_w]
                rfl
              refine one_ (i := 4) (N := some 140) #[true, true, true, true, true, false, false, false, true, false, false] rfl rfl (by kernel_rfl) (by decide) (fun K hK => ?_)
              refine goes_ Try.func34 (by kernel_rfl) rfl #[tabV true, .slice AX S2.length cX] (by rfl) rfl rfl (by go_simp) ?_
              refine (mac_Decode.calls AX cX S2 _ HCX.out HcX.out HSB.out HSL.out).mono ?_
              rintro e z_8_3_4 ⟨AD, cD, rfl, hcD, hCD, h2⟩
              refine ⟨_, rfl, ?_⟩
              replace HI := Aside0.mk (HI.out.below h2)
              replace HB6 := Aside0.mk (below_step HB6.out h2)
              replace HZ := Aside0.mk (blk_below HZ.out h2)
              clear hcD hCD h2
              refine hK.out _ _ (HI.out) (fun hHeld => ?_)
              clear hK K
              refine norm_ (a' := ?_) ?_ ?_
              rotate_left
              · show Act.put _ (some 140) _ = _
                simp only [Act.put, List.setIfInBounds_toArray, List.set_cons_zero, List.set_cons_succ, i64_w, i32_w]
                rfl
              refine pure_ (i := 5) (N := some 135) (v := ?_) (a' := ?_) #[true, true, true, true, true, true, false, false, true, false, false] rfl rfl (by kernel_rfl) (fun _ _ _ h => h) (Or.inl ⟨by rfl, ?_⟩) ?_ ?_
              rotate_left
              · intro w'
                go_simp
                with_reducible rfl
              rotate_left
              · simp only [Act.put, List.setIfInBounds_toArray, List.set_cons_zero, List.set_cons_succ, i64_w, i32_w]
                rfl
              refine pure_ (i := 6) (N := some 141) (v := ?_) (a' := ?_) #[true, true, true, true, true, true, true, false, true, false, false] rfl rfl (by kernel_rfl) (fun _ _ _ h => h) (Or.inl ⟨by rfl, ?_⟩) ?_ ?_
              rotate_left
              · intro w'
                go_simp
                with_reducible rfl
              rotate_left
              · simp only [Act.put, List.setIfInBounds_toArray, List.set_cons_zero, List.set_cons_succ, i64_w, i32_w]
                rfl
              refine pure_ (i := 7) (N := some 142) (v := ?_) (a' := ?_) #[true, true, true, true, true, true, true, true, true, false, false] rfl rfl (by kernel_rfl) (fun _ _ _ h => h) (Or.inl ⟨by rfl, ?_⟩) ?_ ?_
              rotate_left
              · intro w'
                go_simp
                with_reducible rfl
              rotate_left
              · simp only [Act.put, List.setIfInBounds_toArray, List.set_cons_zero, List.set_cons_succ, i64_w, i32_w]
                rfl
              exact norm_ (by simp only [putAll, Act.put, List.setIfInBounds_toArray, List.set_cons_zero, List.set_cons_succ]) (hCont (AX, cX, AD, cD, v2.drew.heap.size) _ ⟨HI.out, HB6.out, HZ.out, HK6.out⟩)
          rintro ⟨AX, cX, AD, cD, k_⟩ v90 ⟨hI_, hB_, hZ_, hK_⟩
          clear HI HB6
          have HI := Aside0.mk hI_
          have HB6 := Aside0.mk hB_
          have HZ := Aside0.mk hZ_
          have HKK := Aside0.mk hK_
          have hHeld : IsTab true v90 g := hI_
          clear hI_ hB_ hZ_ hK_
          refine norm_ (a' := ?_) ?_ ?_
          rotate_left
          · simp only [putAll, Act.put, List.setIfInBounds_toArray, List.set_cons_zero, List.set_cons_succ]
            rfl
          have hS := below_setRow HB6.out HKK.out (frame (decH S2) AD (decD S2).length cD)
          refine one_store_row_ (i := 9) (N := none) (oi := { dst := none, op := Go.Op.store 45 (Go.Operand.tmp 18) (Go.Operand.tmp 141), type := 0, pos := "law.go:192", after := #[{ on := 8, ground := Go.Ground.data }, { on := 6, ground := Go.Ground.data }, { on := 4, ground := Go.Ground.chain }, { on := 0, ground := Go.Ground.phase }, { on := 1, ground := Go.Ground.phase }, { on := 2, ground := Go.Ground.phase }, { on := 3, ground := Go.Ground.phase }, { on := 4, ground := Go.Ground.phase }, { on := 5, ground := Go.Ground.phase }, { on := 6, ground := Go.Ground.phase }, { on := 7, ground := Go.Ground.textOnly Go.Departure.lateStores }, { on := 8, ground := Go.Ground.phase }], guard := none }) #[true, true, true, true, true, true, true, true, true, true, false] (by kernel_rfl) rfl (by kernel_rfl) (by decide) (by kernel_rfl) 45 (.tmp 18) (.tmp 141) rfl k_ (frame (decH S2) AD (decD S2).length cD) (by simp [Act.eval]) (by simp [Act.eval]) 45 #[.int .u8 0, .int .u8 0, .int .u8 0, .int .u8 0, .int .u8 0, .int .u8 0, .int .u8 0, .int .u8 0, .int .u8 0, .int .u8 0, .int .u8 0, .int .u8 0, .slice none 0 0] HZ.out info45_ rfl (frame_one _ _ _ _) (HI6.out.below hS) ?_
          generalize v90.setRow k_ (frame (decH S2) AD (decD S2).length cD) = v9 at hS ⊢
          replace HI := Aside0.mk (HI6.out.below hS)
          have HS9 := Aside0.mk hS
          have hHeld : IsTab true v9 g := HI.out
          clear hS HB6 HZ HI6
          refine norm_ (a' := ?_) ?_ ?_
          rotate_left
          · show Act.put _ none _ = _
            simp only [Act.put]
            rfl
          refine pure_ (i := 10) (N := some 19) (v := ?_) (a' := ?_) #[true, true, true, true, true, true, true, true, true, true, true] rfl rfl (by kernel_rfl) (fun _ _ _ h => h) (Or.inl ⟨by rfl, ?_⟩) ?_ ?_
          rotate_left
          · intro w'
            go_simp
            with_reducible rfl
          rotate_left
          · simp only [Act.put, List.setIfInBounds_toArray, List.set_cons_zero, List.set_cons_succ, i64_w, i32_w]
            rfl
          refine done_ (by kernel_rfl) ?_
          have he2 := HPD.out
          go_wp2_with fail
          refine (awake3_calls _).mono ?_
          rintro e vz ⟨rfl, hB⟩
          go_wp2_with fail
          go_ret
          exact ⟨rfl, below_step (below_step (below_step (below_step HB.out HBc.out) HB9.out) HS9.out) hB⟩
end Go.Proofs.Ytpalloofjljhkaa.P
/-! Px40 -/
namespace Go.Proofs.Ytpalloofjljhkaa.P
open Go.RowKit Go.Proofs.Ytpalloofjljhkaa.Lib Go.Proofs.YtpalloofjljhkaaW.PrintWords Go.Proofs.YtpalloofjljhkaaW.PrintLast Go.Proofs.YtpalloofjljhkaaW.PrintMore
set_option linter.unusedVariables false
set_option linter.unusedSimpArgs false
set_option maxHeartbeats 8000000 in
set_option maxRecDepth 100000 in
theorem antiphonlaw3_lengths.calls (a0_0 : Int) (a0_1 : Int) (a0_2 : Int) (a0_3 : Int) (a0_4 : Int) (a0_5 : Int) (a0_6 : Int) (a0_7 : Int) (a0_8 : Int) (a0_9 : Int) (a0_10 : Int) (a0_11 : Int) (A0_12 : Option Addr) (c0_12 : Nat) (l0_12 : List Int) (a1 : Int) (a2 : Int) (a3 : Int) (r : Bool) (w : World) (hr0_12 : Kd.C (Kd.int .u8) w A0_12 l0_12.length l0_12) (hc0_12 : l0_12.length ≤ c0_12) (h : antiphonlaw3_lengths.f a0_0 a0_1 a0_2 a0_3 a0_4 a0_5 a0_6 a0_7 a0_8 a0_9 a0_10 a0_11 l0_12 a1 a2 a3 = some r) :
    Calls Try.prog 39 #[.agg #[.int .u8 a0_0, .int .u8 a0_1, .int .u8 a0_2, .int .u8 a0_3, .int .u8 a0_4, .int .u8 a0_5, .int .u8 a0_6, .int .u8 a0_7, .int .u8 a0_8, .int .u8 a0_9, .int .u8 a0_10, .int .u8 a0_11, .slice A0_12 l0_12.length c0_12], .int .u16 a1, .int .u16 a2, .int .u8 a3] w fun e w' => e = .returned (.bool r) ∧ Below w.heap.size w w' := by
  by_cases hs : (a1 ≤ 1500 ∧ 14 + (if a1.toNat < 46 then 46 else a1.toNat) = 14 + l0_12.length + (46 - l0_12.length))
  · exact antiphonlaw3_lengths.callsB a0_0 a0_1 a0_2 a0_3 a0_4 a0_5 a0_6 a0_7 a0_8 a0_9 a0_10 a0_11 A0_12 c0_12 l0_12 a1 a2 a3 r w hr0_12 hc0_12 hs h
  · exact antiphonlaw3_lengths.callsA a0_0 a0_1 a0_2 a0_3 a0_4 a0_5 a0_6 a0_7 a0_8 a0_9 a0_10 a0_11 A0_12 c0_12 l0_12 a1 a2 a3 r w hr0_12 hc0_12 hs h
end Go.Proofs.Ytpalloofjljhkaa.P
/-! Px15 -/
namespace Go.Proofs.Ytpalloofjljhkaa.P
open Go.RowKit Go.Proofs.Ytpalloofjljhkaa.Lib Go.Proofs.YtpalloofjljhkaaW.PrintWords Go.Proofs.YtpalloofjljhkaaW.PrintLast Go.Proofs.YtpalloofjljhkaaW.PrintMore
set_option linter.unusedVariables false
set_option linter.unusedSimpArgs false
def antiphonlaw3_MacLength.f (a0_0 : Int) (a0_1 : Int) (a0_2 : Int) (a0_3 : Int) (a0_4 : Int) (a0_5 : Int) (a0_6 : Int) (a0_7 : Int) (a0_8 : Int) (a0_9 : Int) (a0_10 : Int) (a0_11 : Int) (l0_12 : List Int) (a1 : Int) (a2_0 : Int) (a2_1 : Int) : Option Bool := if (∀ c ∈ [a0_0, a0_1, a0_2, a0_3, a0_4, a0_5], 0 ≤ c ∧ c < 256) ∧ (∀ c ∈ [a0_6, a0_7, a0_8, a0_9, a0_10, a0_11], 0 ≤ c ∧ c < 256) ∧ (∀ c ∈ l0_12, 0 ≤ c ∧ c < 256) ∧ (0 ≤ a1 ∧ a1 < 65536) ∧ (0 ≤ a2_0 ∧ a2_0 < 256) ∧ (0 ≤ a2_1 ∧ a2_1 < 256) then some true else none
set_option maxHeartbeats 8000000 in
set_option maxRecDepth 100000 in
theorem antiphonlaw3_MacLength.calls (a0_0 : Int) (a0_1 : Int) (a0_2 : Int) (a0_3 : Int) (a0_4 : Int) (a0_5 : Int) (a0_6 : Int) (a0_7 : Int) (a0_8 : Int) (a0_9 : Int) (a0_10 : Int) (a0_11 : Int) (A0_12 : Option Addr) (c0_12 : Nat) (l0_12 : List Int) (a1 : Int) (a2_0 : Int) (a2_1 : Int) (r : Bool) (w : World) (hr0_12 : Kd.C (Kd.int .u8) w A0_12 l0_12.length l0_12) (hc0_12 : l0_12.length ≤ c0_12) (h : antiphonlaw3_MacLength.f a0_0 a0_1 a0_2 a0_3 a0_4 a0_5 a0_6 a0_7 a0_8 a0_9 a0_10 a0_11 l0_12 a1 a2_0 a2_1 = some r) :
    Calls Try.prog 14 #[.agg #[.int .u8 a0_0, .int .u8 a0_1, .int .u8 a0_2, .int .u8 a0_3, .int .u8 a0_4, .int .u8 a0_5, .int .u8 a0_6, .int .u8 a0_7, .int .u8 a0_8, .int .u8 a0_9, .int .u8 a0_10, .int .u8 a0_11, .slice A0_12 l0_12.length c0_12], .int .u16 a1, .agg #[.int .u8 a2_0, .int .u8 a2_1]] w fun e w' => e = .returned (.bool r) ∧ Below w.heap.size w w' := by
  unfold antiphonlaw3_MacLength.f at h
  split at h
  case isFalse => exact absurd h (by simp)
  case isTrue hcd =>
  obtain ⟨hbt, hbf, hbd, h0, h1, h2⟩ := hcd
  obtain rfl := Option.some.inj h
  clear h
  have HBT := Aside0.mk (show byteRow [a0_0, a0_1, a0_2, a0_3, a0_4, a0_5] from hbt)
  have HBF := Aside0.mk (show byteRow [a0_6, a0_7, a0_8, a0_9, a0_10, a0_11] from hbf)
  have HBD := Aside0.mk (show byteRow l0_12 from hbd)
  have HR := Aside0.mk hr0_12
  have HC := Aside0.mk hc0_12
  have hm0 : l0_12.length ≤ 9223372036854775807 := hr0_12.2.1
  have hu45 := Try.underlying45
  have hu43 := Try.underlying43
  have HU1 := Aside0.mk h0
  have HU2 := Aside0.mk h1
  have HU3 := Aside0.mk h2
  have hu63 := Try.underlying63
  clear h0 h1 h2
  clear hbt hbf hbd hr0_12 hc0_12
  go_enter Try.func14, Try.ntmps14
  go_wp2_with fail
  have hb1 := heap_alloc2_old w (.cells #[.int .u8 a0_0, .int .u8 a0_1, .int .u8 a0_2, .int .u8 a0_3, .int .u8 a0_4, .int .u8 a0_5, .int .u8 a0_6, .int .u8 a0_7, .int .u8 a0_8, .int .u8 a0_9, .int .u8 a0_10, .int .u8 a0_11, .slice A0_12 l0_12.length c0_12] 45 (0, 0)) (.cells #[.int .u8 a2_0, .int .u8 a2_1] 63 (0, 0))
  have hb2 := heap_alloc2_new w (.cells #[.int .u8 a0_0, .int .u8 a0_1, .int .u8 a0_2, .int .u8 a0_3, .int .u8 a0_4, .int .u8 a0_5, .int .u8 a0_6, .int .u8 a0_7, .int .u8 a0_8, .int .u8 a0_9, .int .u8 a0_10, .int .u8 a0_11, .slice A0_12 l0_12.length c0_12] 45 (0, 0)) (.cells #[.int .u8 a2_0, .int .u8 a2_1] 63 (0, 0))
  have hbw := below_alloc (below_alloc (Below.refl w.heap.size w) (.cells #[.int .u8 a0_0, .int .u8 a0_1, .int .u8 a0_2, .int .u8 a0_3, .int .u8 a0_4, .int .u8 a0_5, .int .u8 a0_6, .int .u8 a0_7, .int .u8 a0_8, .int .u8 a0_9, .int .u8 a0_10, .int .u8 a0_11, .slice A0_12 l0_12.length c0_12] 45 (0, 0))) (.cells #[.int .u8 a2_0, .int .u8 a2_1] 63 (0, 0))
  generalize (w.alloc (.cells #[.int .u8 a0_0, .int .u8 a0_1, .int .u8 a0_2, .int .u8 a0_3, .int .u8 a0_4, .int .u8 a0_5, .int .u8 a0_6, .int .u8 a0_7, .int .u8 a0_8, .int .u8 a0_9, .int .u8 a0_10, .int .u8 a0_11, .slice A0_12 l0_12.length c0_12] 45 (0, 0))).alloc (.cells #[.int .u8 a2_0, .int .u8 a2_1] 63 (0, 0)) = w0 at hb1 hb2 hbw ⊢
  obtain ⟨gf, hgf⟩ : ∃ gf, w.heap.size = gf := ⟨_, rfl⟩
  have HGF := Aside0.mk hgf
  rw [hgf] at hb1 hb2 ⊢
  have HB := Aside0.mk (show Below w.heap.size w w0 from hbw)
  have HF := Aside0.mk hb1
  have HA := Aside0.mk hb2
  clear hb1 hb2 hbw hgf
  refine (awake3_calls _).mono ?_
  rintro e wa ⟨rfl, hB⟩
  replace HF := Aside0.mk (blk_below HF.out hB)
  replace HA := Aside0.mk (blk_below HA.out hB)
  replace HB := Aside0.mk (below_step HB.out hB)
  clear hB
  have hq0 := (show wa.cell? ⟨gf + 1, 0, none⟩ = some (.int .u8 a2_0) from (blk_cell HA.out 0).trans rfl)
  have hq1 := (show wa.cell? ⟨gf + 1, 1, none⟩ = some (.int .u8 a2_1) from (blk_cell HA.out 1).trans rfl)
  have hw2 : IntKind.u16.wrap a2_0 = a2_0 := by rw [IntKind.wrap_u16]; have := HU2.out; omega
  go_wp2_with (first
    | (refine wpList_load_row rfl 45 (.tmp 3) rfl gf rfl 45 #[.int .u8 a0_0, .int .u8 a0_1, .int .u8 a0_2, .int .u8 a0_3, .int .u8 a0_4, .int .u8 a0_5, .int .u8 a0_6, .int .u8 a0_7, .int .u8 a0_8, .int .u8 a0_9, .int .u8 a0_10, .int .u8 a0_11, .slice A0_12 l0_12.length c0_12] (0, 0) _ HF.out Try.underlying45 rfl info45_ ?_))
  have HLF := Aside0.mk (show antiphonlaw3_lengths.f a0_0 a0_1 a0_2 a0_3 a0_4 a0_5 a0_6 a0_7 a0_8 a0_9 a0_10 a0_11 l0_12 a1 a2_0 a2_1 = some true by
    have h2 := HU2.out
    unfold antiphonlaw3_lengths.f
    rw [if_pos ⟨HBT.out, HBF.out, HBD.out, HU1.out, ⟨h2.1, by omega⟩, HU3.out⟩])
  refine (antiphonlaw3_lengths.calls a0_0 a0_1 a0_2 a0_3 a0_4 a0_5 a0_6 a0_7 a0_8 a0_9 a0_10 a0_11 A0_12 c0_12 l0_12 a1 a2_0 a2_1 true _ (Kd.C_below HR.out HB.out) HC.out HLF.out).mono ?_
  rintro e wb ⟨rfl, hB⟩
  replace HB := Aside0.mk (below_step HB.out hB)
  go_wp2_with fail
  go_ret
  exact ⟨rfl, HB.out⟩
end Go.Proofs.Ytpalloofjljhkaa.P
/-! Opn -/
namespace Go.Proofs.Ytpalloofjljhkaa.Opn
open Go.ChangeShapes Go.WideShapes Go.RowKit Go.Deep
open Go.Proofs.YtpalloofjljhkaaW.PrintWords
set_option linter.unusedVariables false
def Opens (P : Program) (w : World) (t : TypeId) {α : Type} (d : Kd α) (WF : α → Prop) : Prop :=
  ∀ {H : Type} {enc : TypeId × Value → H} {base : Nat} {held : Bool} {n : Nat} {cs : List Value} {y : DataW H × List MemPlace}, DataW.trod enc P w base (fun _ => true) held n t cs = some y → ∃ x, d.K w x cs ∧ WF x
section
variable {P : Program} {w : World} {t e : TypeId} {α β : Type}
theorem opens_int {k : IntKind} (ht : P.underlying t = some (.int k)) : Opens P w t (Kd.int k) (fun x => (Lit.int k x).wf = true) := by
  intro H enc base held n cs y h
  obtain ⟨x, he, _, hw⟩ := DataW.trod_int ht h
  exact ⟨x, he, hw⟩
theorem add_add_ (a : Addr) (i j : Nat) : (a.add i).add j = a.add (i + j) := by
  unfold Addr.add
  by_cases hi : i = 0 <;> by_cases hj : j = 0 <;> simp [hi, hj, Nat.add_assoc]
theorem opens_slice {d : Kd α} {WF : α → Prop} (ht : P.underlying t = some (.slice e)) (hc : P.cellsOf e = d.sz) (he : Opens P w e d WF) : Opens P w t (Kd.slice e d) (fun xs => ∀ x ∈ xs, WF x) := by
  intro H enc base held n cs y h
  rcases open_slice ht h with ⟨rfl, _⟩ | ⟨a, len, cap, m, n', D, Pl, rfl, hb, hl, hm, hmm, rfl, hx⟩
  · exact ⟨[], ⟨none, 0, rfl, Nat.le_refl _, ⟨rfl, Nat.zero_le _, fun h => absurd h (Nat.lt_irrefl 0)⟩⟩, fun x hx => by cases hx⟩
  · have hcap : m = cap := by rw [hmm]; rfl
    have key : ∀ i, i < len → ∃ x, (∃ c, c.length = d.sz ∧ d.K w x c ∧ ∀ j u, c[j]? = some u → w.cell? (a.add (i * d.sz + j)) = some u) ∧ WF x := by
      intro i hi
      obtain ⟨cs', h1, h2⟩ := hx i (by omega)
      obtain ⟨_, hlen, hcell⟩ := World.cells?_some h1
      obtain ⟨x, hK, hW⟩ := he h2
      refine ⟨x, ⟨cs', by rw [hlen, hc], hK, fun j u hj => ?_⟩, hW⟩
      have hjl : j < P.cellsOf e := by rw [← hlen]; exact (List.getElem?_eq_some_iff.1 hj).1
      have := hcell j hjl
      rw [add_add_, hc] at this
      rw [this, hj]
    by_cases h0 : len = 0
    · subst h0
      exact ⟨[], ⟨some a, cap, rfl, Nat.zero_le _, ⟨rfl, Nat.zero_le _, fun h => absurd h (Nat.lt_irrefl 0)⟩⟩, fun x hx => by cases hx⟩
    · have hinh : Nonempty α := by obtain ⟨x, _⟩ := key 0 (by omega); exact ⟨x⟩
      have : Inhabited α := Classical.inhabited_of_nonempty hinh
      obtain ⟨f, hf⟩ := choose_lt key
      have hlen : ((List.range len).map f).length = len := by simp
      refine ⟨(List.range len).map f, ⟨some a, cap, by rw [hlen], by rw [hlen]; exact hl, ⟨rfl, by rw [hlen]; unfold maxLen at hm; omega, fun _ => ⟨a, rfl, fun j p hj => ?_⟩⟩⟩, fun x hx => ?_⟩
      · have hjl : j < len := by have := (List.getElem?_eq_some_iff.1 hj).1; rwa [hlen] at this
        have hp : p = f j := by
          rw [List.getElem?_map, List.getElem?_range hjl] at hj
          exact (Option.some.inj hj).symm
        subst hp
        exact (hf j hjl).1
      · obtain ⟨i, hi, rfl⟩ := List.mem_map.1 hx
        exact (hf i (List.mem_range.1 hi)).2
def segs (P : Program) : List TypeId → Nat
  | [] => 0
  | f :: fs => P.cellsOf f + segs P fs
def OpensL (P : Program) (w : World) (fs : List TypeId) {α : Type} (d : Kd α) (WF : α → Prop) : Prop :=
  ∀ {H : Type} {enc : TypeId × Value → H} {base : Nat} {held : Bool} {n : Nat} {cs : List Value}, cs.length = segs P fs →
    (∀ (j : Nat) (f : TypeId), fs[j]? = some f → ∃ y, DataW.trod enc P w base (fun _ => true) held n f ((cs.drop (segs P (fs.take j))).take (P.cellsOf f)) = some y) → ∃ x, d.K w x cs ∧ WF x
theorem opensL_one {d : Kd α} {WF : α → Prop} (h : Opens P w t d WF) : OpensL P w [t] d WF := by
  intro H enc base held n cs hl hj
  obtain ⟨y, hy⟩ := hj 0 t rfl
  have e1 : (cs.drop (segs P ([t].take 0))).take (P.cellsOf t) = cs := by
    show (cs.drop 0).take _ = cs
    rw [List.drop_zero]
    exact List.take_of_length_le (by rw [hl]; exact Nat.le_refl _)
  rw [e1] at hy
  exact h hy
theorem opensL_cons {fs : List TypeId} {d1 : Kd α} {d2 : Kd β} {W1 : α → Prop} {W2 : β → Prop} (h1 : Opens P w t d1 W1) (h2 : OpensL P w fs d2 W2) : OpensL P w (t :: fs) (Kd.pair d1 d2) (fun x => W1 x.1 ∧ W2 x.2) := by
  intro H enc base held n cs hl hj
  have hl' : cs.length = P.cellsOf t + segs P fs := hl
  obtain ⟨y, hy⟩ := hj 0 t rfl
  have e1 : (cs.drop (segs P ((t :: fs).take 0))).take (P.cellsOf t) = cs.take (P.cellsOf t) := by
    show (cs.drop 0).take _ = _
    rw [List.drop_zero]
  rw [e1] at hy
  obtain ⟨x, hK, hW⟩ := h1 hy
  obtain ⟨z, hK2, hW2⟩ := h2 (H := H) (enc := enc) (base := base) (held := held) (n := n) (cs := cs.drop (P.cellsOf t)) (by rw [List.length_drop]; omega) (fun j f hf => by
    obtain ⟨y', hy'⟩ := hj (j + 1) f hf
    refine ⟨y', ?_⟩
    rw [List.drop_drop]
    exact hy')
  exact ⟨(x, z), ⟨cs.take (P.cellsOf t), cs.drop (P.cellsOf t), (List.take_append_drop _ _).symm, hK, hK2⟩, hW, hW2⟩
def structOk (P : Program) (t : TypeId) (fs : Array Field) (ts : List TypeId) : Bool :=
  P.cellsOf t == segs P ts && fs.size == ts.length && (List.range ts.length).all fun j => match fs[j]?, ts[j]? with
    | some f, some u => f.type == u && f.offset == segs P (ts.take j)
    | _, _ => false
theorem opens_struct {fs : Array Field} {d : Kd α} {WF : α → Prop} (ts : List TypeId) (ht : P.underlying t = some (.struct fs)) (hok : structOk P t fs ts = true) (h : OpensL P w ts d WF) : Opens P w t d WF := by
  intro H enc base held n cs y hy
  obtain ⟨xs, m, _, _, hl, hxl, hf⟩ := DataW.trod_struct ht hy
  unfold structOk at hok
  simp only [Bool.and_eq_true, beq_iff_eq, List.all_eq_true, List.mem_range] at hok
  obtain ⟨⟨h1, h2⟩, h3⟩ := hok
  refine h (H := H) (enc := enc) (base := base) (held := held) (n := m) (by rw [hl, h1]) (fun j u hu => ?_)
  have hj : j < ts.length := (List.getElem?_eq_some_iff.1 hu).1
  have h4 := h3 j hj
  have hjf : fs[j]? = some (fs[j]'(by omega)) := Array.getElem?_eq_getElem (by omega)
  rw [hjf, hu] at h4
  simp only [Bool.and_eq_true, beq_iff_eq] at h4
  have h5 := hf j _ hjf
  rw [h4.1, h4.2] at h5
  exact ⟨_, h5.trans (List.getElem?_eq_getElem (by omega))⟩
theorem segs_rep (k : Nat) : segs P (List.replicate k e) = k * P.cellsOf e := by
  induction k with
  | zero => exact (Nat.zero_mul _).symm
  | succ k ih => show P.cellsOf e + segs P (List.replicate k e) = _; rw [ih, Nat.succ_mul, Nat.add_comm]
theorem opens_array {k : Nat} {d : Kd α} {WF : α → Prop} (ht : P.underlying t = some (.array k e)) (hC : (P.cellsOf t == k * P.cellsOf e) = true) (h : OpensL P w (List.replicate k e) d WF) : Opens P w t d WF := by
  intro H enc base held n cs y hy
  obtain ⟨xs, m, _, _, hl, hxl, hf⟩ := DataW.trod_array ht hy
  refine h (H := H) (enc := enc) (base := base) (held := held) (n := m) (by rw [hl, segs_rep]; exact eq_of_beq hC) (fun j u hu => ?_)
  have hj : j < k := by have := (List.getElem?_eq_some_iff.1 hu).1; rwa [List.length_replicate] at this
  have hue : u = e := by
    rw [List.getElem?_replicate, if_pos hj] at hu
    exact (Option.some.inj hu).symm
  subst hue
  have h5 := hf j hj
  have e2 : segs P ((List.replicate k u).take j) = j * P.cellsOf u := by
    rw [List.take_replicate, Nat.min_eq_left (by omega), segs_rep]
  rw [e2]
  exact ⟨_, h5.trans (List.getElem?_eq_getElem (by omega))⟩
theorem arg_agg {H : Type} {enc : TypeId × Value → H} {base : Nat} {held : Bool} {d : Kd α} {WF : α → Prop} {cs : Array Value} {D : DataW H} {p : List MemPlace} (h : Opens P w t d WF)
    (hT : DataW.Trod enc P w base (fun _ => true) held t (.agg cs) D p) : ∃ x, d.K w x cs.toList ∧ WF x := by
  obtain ⟨fuel, hf⟩ := hT
  exact h hf
end
end Go.Proofs.Ytpalloofjljhkaa.Opn
/-! WalkMacLength -/
namespace Go.Proofs.Ytpalloofjljhkaa.P
open Go.RowKit Go.Proofs.YtpalloofjljhkaaW.PrintWords Go.Proofs.YtpalloofjljhkaaW.PrintLast Go.Proofs.YtpalloofjljhkaaW.PrintMore
def antiphonlaw3_MacLength.Pure : Prop := ∀ (a0_0 : Int) (a0_1 : Int) (a0_2 : Int) (a0_3 : Int) (a0_4 : Int) (a0_5 : Int) (a0_6 : Int) (a0_7 : Int) (a0_8 : Int) (a0_9 : Int) (a0_10 : Int) (a0_11 : Int) (l0_12 : List Int) (a1 : Int) (a2_0 : Int) (a2_1 : Int), (Lit.int .u8 a0_0).wf = true → (Lit.int .u8 a0_1).wf = true → (Lit.int .u8 a0_2).wf = true → (Lit.int .u8 a0_3).wf = true → (Lit.int .u8 a0_4).wf = true → (Lit.int .u8 a0_5).wf = true → (Lit.int .u8 a0_6).wf = true → (Lit.int .u8 a0_7).wf = true → (Lit.int .u8 a0_8).wf = true → (Lit.int .u8 a0_9).wf = true → (Lit.int .u8 a0_10).wf = true → (Lit.int .u8 a0_11).wf = true → l0_12.length ≤ 9223372036854775807 → (∀ yl0_12 ∈ l0_12, (Lit.int .u8 yl0_12).wf = true) → (Lit.int .u16 a1).wf = true → (Lit.int .u8 a2_0).wf = true → (Lit.int .u8 a2_1).wf = true → antiphonlaw3_MacLength.f a0_0 a0_1 a0_2 a0_3 a0_4 a0_5 a0_6 a0_7 a0_8 a0_9 a0_10 a0_11 l0_12 a1 a2_0 a2_1 = some true
end Go.Proofs.Ytpalloofjljhkaa.P
/-! PureMacLength -/
namespace Go.Proofs.Ytpalloofjljhkaa.Pure
open Go.RowKit Go.Proofs.Ytpalloofjljhkaa Go.Proofs.Ytpalloofjljhkaa.P Go.Proofs.YtpalloofjljhkaaW.PrintWords Go.Proofs.YtpalloofjljhkaaW.PrintLast
theorem six_wf {a b c d e f : Int} (h0 : (Lit.int .u8 a).wf = true) (h1 : (Lit.int .u8 b).wf = true) (h2 : (Lit.int .u8 c).wf = true) (h3 : (Lit.int .u8 d).wf = true) (h4 : (Lit.int .u8 e).wf = true) (h5 : (Lit.int .u8 f).wf = true) : ∀ x ∈ [a, b, c, d, e, f], 0 ≤ x ∧ x < 256 := by
  intro x hx
  simp only [List.mem_cons, List.not_mem_nil, or_false] at hx
  rcases hx with rfl | rfl | rfl | rfl | rfl | rfl <;> exact Lib.u8_wf (by assumption)
theorem u16_wf' {x : Int} (h : (Lit.int .u16 x).wf = true) : 0 ≤ x ∧ x < 65536 := by
  simp [Lit.wf, IntKind.min, IntKind.max, IntKind.signed, IntKind.bits] at h
  omega
theorem MacLength : antiphonlaw3_MacLength.Pure := by
  intro a0 a1 a2 a3 a4 a5 a6 a7 a8 a9 a10 a11 l0 n p q h0 h1 h2 h3 h4 h5 h6 h7 h8 h9 h10 h11 _ hw hn hp hq
  unfold antiphonlaw3_MacLength.f
  rw [if_pos ⟨six_wf h0 h1 h2 h3 h4 h5, six_wf h6 h7 h8 h9 h10 h11, fun c hc => Lib.u8_wf (hw c hc), u16_wf' hn, Lib.u8_wf hp, Lib.u8_wf hq⟩]
end Go.Proofs.Ytpalloofjljhkaa.Pure
/-! LawMacLength -/
namespace Go.Proofs.Ytpalloofjljhkaa.macLength
open Go.ChangeShapes Go.WideShapes Go.ChangeAt Go.RowKit
open Go.ChangeMaps (open_string shut_string)
open Go.Proofs.YtpalloofjljhkaaW.PrintWords (Kd)
open P
set_option linter.unusedVariables false
theorem own : ownKnob Try.prog.godebug = none := by kernel_rfl
theorem laidOut : laidOutB Try.prog = true := by kernel_rfl
set_option maxRecDepth 100000 in
theorem lifted (os : Os) (started : os.Started) (H : Type) (enc : TypeId × Value → H) :
    ReturnsInHanded {} Try.checked os 14 .any (Rows.macLengthSpec.pre6 enc Try.prog Try.f14 Rows.macLengthRow.domain false) (Rows.macLengthSpec.post enc Try.prog Try.f14 false true false false) := by
  refine returnsInHanded_of_change_sized (C := Try.checked) own started (by kernel_rfl) Try.func14
    (ChangeSpec.witness6 (enc := enc) (C := Try.checked) false ⟨#[], #[.agg #[.int .u8 0, .int .u8 0, .int .u8 0, .int .u8 0, .int .u8 0, .int .u8 0, .int .u8 0, .int .u8 0, .int .u8 0, .int .u8 0, .int .u8 0, .int .u8 0, .slice none 0 0], .int .u16 0, .agg #[.int .u8 0, .int .u8 0]], []⟩ 8 (by kernel_rfl) (by kernel_rfl) (by kernel_rfl) (by kernel_rfl)) ?_
  intro W base args ds gs before hval0 hW hcnd hsz0 _
  have hval : ∀ (j : Nat) t v, Try.f14.params[j]? = some t → args[j]? = some v → Value.okWide Try.prog W .any base t v := hval0
  have hW' := hW
  obtain ⟨p, q, hA0, hV, rfl, hfz, hnd⟩ := hW
  have hA : DataW.TrodAll enc Try.prog W 0 (fun _ => true) true Try.f14.params.toList args.toList ds p := hA0
  rw [Try.params14] at hA hval
  obtain ⟨v0, vs0, d0, ds0, p0, q0, hargs, rfl, rfl, h0, r0⟩ := trodAll_cons hA
  obtain ⟨v1, vs1, d1, ds1, p1, q1, rfl, rfl, rfl, h1, r1⟩ := trodAll_cons r0
  obtain ⟨v2, vs2, d2, ds2, p2, q2, rfl, rfl, rfl, h2, r2⟩ := trodAll_cons r1
  obtain ⟨rfl, rfl, rfl⟩ := trodAll_nil r2
  obtain rfl : args = #[v0, v1, v2] := by cases args; simp_all
  obtain ⟨rfl, rfl⟩ := trodVars_none hV
  obtain ⟨cs0, rfl⟩ : ∃ cs, v0 = .agg cs := by have hv_ := (hval 0 45 v0 rfl rfl); unfold Value.okWide at hv_; rw [Try.underlying45] at hv_; obtain ⟨cs, hc_, _⟩ := hv_; exact ⟨cs, hc_⟩
  have k0 := h0
  have lt0 : ∀ x ∈ p0, x.block < W.heap.size := by obtain ⟨m, hm⟩ := k0; exact DataW.trod_lt m _ _ _ hm
  obtain ⟨⟨⟨a0_0, a0_1, a0_2, a0_3, a0_4, a0_5⟩, ⟨a0_6, a0_7, a0_8, a0_9, a0_10, a0_11⟩, l0_12⟩, ⟨_, _, he0, ⟨_, _, rfl, rfl, ⟨_, _, rfl, rfl, ⟨_, _, rfl, rfl, ⟨_, _, rfl, rfl, ⟨_, _, rfl, rfl, rfl⟩⟩⟩⟩⟩, ⟨_, _, rfl, ⟨_, _, rfl, rfl, ⟨_, _, rfl, rfl, ⟨_, _, rfl, rfl, ⟨_, _, rfl, rfl, ⟨_, _, rfl, rfl, rfl⟩⟩⟩⟩⟩, ⟨A0_12, c0_12, rfl, hc0_12, hr0_12⟩⟩⟩, ⟨⟨w0_0, w0_1, w0_2, w0_3, w0_4, w0_5⟩, ⟨w0_6, w0_7, w0_8, w0_9, w0_10, w0_11⟩, w0_12⟩⟩ := Opn.arg_agg (d := (Kd.pair (Kd.pair (Kd.int .u8) (Kd.pair (Kd.int .u8) (Kd.pair (Kd.int .u8) (Kd.pair (Kd.int .u8) (Kd.pair (Kd.int .u8) (Kd.int .u8)))))) (Kd.pair (Kd.pair (Kd.int .u8) (Kd.pair (Kd.int .u8) (Kd.pair (Kd.int .u8) (Kd.pair (Kd.int .u8) (Kd.pair (Kd.int .u8) (Kd.int .u8)))))) (Kd.slice 5 (Kd.int .u8))))) (Opn.opens_struct [43, 43, 22] Try.underlying45 (by kernel_rfl) (Opn.opensL_cons (Opn.opens_array Try.underlying43 (by kernel_rfl) (Opn.opensL_cons (Opn.opens_int Try.underlying5) (Opn.opensL_cons (Opn.opens_int Try.underlying5) (Opn.opensL_cons (Opn.opens_int Try.underlying5) (Opn.opensL_cons (Opn.opens_int Try.underlying5) (Opn.opensL_cons (Opn.opens_int Try.underlying5) (Opn.opensL_one (Opn.opens_int Try.underlying5)))))))) (Opn.opensL_cons (Opn.opens_array Try.underlying43 (by kernel_rfl) (Opn.opensL_cons (Opn.opens_int Try.underlying5) (Opn.opensL_cons (Opn.opens_int Try.underlying5) (Opn.opensL_cons (Opn.opens_int Try.underlying5) (Opn.opensL_cons (Opn.opens_int Try.underlying5) (Opn.opensL_cons (Opn.opens_int Try.underlying5) (Opn.opensL_one (Opn.opens_int Try.underlying5)))))))) (Opn.opensL_one (Opn.opens_slice Try.underlying22 (by kernel_rfl) (Opn.opens_int Try.underlying5)))))) h0
  obtain rfl : cs0 = #[.int .u8 a0_0, .int .u8 a0_1, .int .u8 a0_2, .int .u8 a0_3, .int .u8 a0_4, .int .u8 a0_5, .int .u8 a0_6, .int .u8 a0_7, .int .u8 a0_8, .int .u8 a0_9, .int .u8 a0_10, .int .u8 a0_11, .slice A0_12 l0_12.length c0_12] := Array.ext' (he0.trans rfl)
  have hm0_12 : l0_12.length ≤ 9223372036854775807 := hr0_12.2.1
  obtain ⟨a1, rfl, rfl, rfl, w1⟩ := open_int Try.underlying61 (hval 1 61 v1 rfl rfl) h1
  obtain ⟨cs2, rfl⟩ : ∃ cs, v2 = .agg cs := by have hv_ := (hval 2 63 v2 rfl rfl); unfold Value.okWide at hv_; rw [Try.underlying63] at hv_; obtain ⟨cs, hc_, _⟩ := hv_; exact ⟨cs, hc_⟩
  have k2 := h2
  have lt2 : ∀ x ∈ p2, x.block < W.heap.size := by obtain ⟨m, hm⟩ := k2; exact DataW.trod_lt m _ _ _ hm
  obtain ⟨⟨a2_0, a2_1⟩, ⟨_, _, he2, rfl, rfl⟩, ⟨w2_0, w2_1⟩⟩ := Opn.arg_agg (d := (Kd.pair (Kd.int .u8) (Kd.int .u8))) (Opn.opens_array Try.underlying63 (by kernel_rfl) (Opn.opensL_cons (Opn.opens_int Try.underlying5) (Opn.opensL_one (Opn.opens_int Try.underlying5)))) h2
  obtain rfl : cs2 = #[.int .u8 a2_0, .int .u8 a2_1] := Array.ext' (he2.trans rfl)
  clear hA0 hval0 hsz0 hval
  have h := Pure.MacLength a0_0 a0_1 a0_2 a0_3 a0_4 a0_5 a0_6 a0_7 a0_8 a0_9 a0_10 a0_11 l0_12 a1 a2_0 a2_1 w0_0 w0_1 w0_2 w0_3 w0_4 w0_5 w0_6 w0_7 w0_8 w0_9 w0_10 w0_11 hm0_12 w0_12 w1 w2_0 w2_1
  refine (P.antiphonlaw3_MacLength.calls a0_0 a0_1 a0_2 a0_3 a0_4 a0_5 a0_6 a0_7 a0_8 a0_9 a0_10 a0_11 _ _ l0_12 a1 a2_0 a2_1 true W hr0_12 hc0_12 h).mono fun e W' ⟨he, bel⟩ => ?_
  subst he
  exact ⟨_, rfl, _, _, _, [], _, [], hW', trodAll_mk1 (shut_bool Try.underlying4 _), (trodAll_cons_mk (Below.trod laidOut (by kernel_rfl) (of_decide_eq_true (by kernel_rfl)) k0 bel lt0) (trodAll_cons_mk (shut_int Try.underlying61 w1) (trodAll_cons_mk (Below.trod laidOut (by kernel_rfl) (of_decide_eq_true (by kernel_rfl)) k2 bel lt2) trodAll_mk0))), rfl, bel.frame _, fun h => by cases h⟩
theorem fact0 : (Rows.macLengthRow.wf (OpenSpec.ofChange Rows.macLengthSpec)) = true := by kernel_rfl
theorem fact1 : (laidOutB Try.prog) = true := Kit.laidOut
theorem fact2 : (mapsRowed Try.prog) = true := Kit.mapsRowed
theorem fact3 : (Try.f14.params.all (Try.prog.readableRec ·)) = true := by kernel_rfl
theorem fact4 : (namedTie Try.prog Rows.macLengthRow.named Rows.macLengthSpec.vars) = true := by kernel_rfl
theorem fact5 : ((Rows.macLengthRow.stops == [])) = true := by kernel_rfl
theorem fact6 : ((Try.prog.stops == [])) = true := Kit.stops
theorem fact7 : ((Rows.macLengthRow.knobs == [])) = true := by kernel_rfl
theorem fact8 : ((Try.prog.stopKnobs == [])) = true := Kit.stopKnobs
theorem fact9 : ((Rows.macLengthRow.inPlace == Try.prog.inPlace 14)) = true := by kernel_rfl
theorem fact10 : ((Rows.macLengthRow.unfollowed == Try.prog.unfollowed 14)) = true := by kernel_rfl
theorem fact11 : ((Rows.macLengthRow.recurses == Try.prog.recurses 14)) = true := by kernel_rfl
theorem fact12 : ((Rows.macLengthRow.named == Try.prog.varsNamed 14)) = true := by kernel_rfl
theorem fact13 : ((Rows.macLengthRow.maps == (Try.f14.params.toList ++ Rows.macLengthSpec.plain.varTypes Try.prog).any (Try.prog.mapsRec ·))) = true := by kernel_rfl
theorem fact14 : ((Rows.macLengthRow.ifaces == (Try.f14.params.toList ++ Rows.macLengthSpec.plain.varTypes Try.prog).any (Try.prog.ifacesRec ·))) = true := by kernel_rfl
theorem fact15 : ((Rows.macLengthRow.mapsOut == Try.prog.mapsAmong Try.f14.resultTypes.toList)) = true := by kernel_rfl
theorem fact16 : ((Rows.macLengthRow.loops == (Try.f14.params.toList ++ Rows.macLengthSpec.plain.varTypes Try.prog).any (Try.prog.loopsFrom ·))) = true := by kernel_rfl
theorem fact17 : ((Rows.macLengthRow.wideKeys == (Try.f14.params.toList ++ Rows.macLengthSpec.plain.varTypes Try.prog ++ Try.f14.resultTypes.toList).any (Try.prog.wideKeysFrom ·))) = true := by kernel_rfl
theorem fact18 : (Rows.macLengthSpec.vars.all (Try.prog.varReadable ·)) = true := by kernel_rfl
theorem fact19 : (Try.f14.resultTypes.all (fun t => Try.prog.readableRec t && decide (t < Try.prog.types.size))) = true := by kernel_rfl
theorem fact20 : ((Rows.macLengthRow.ifacesOut == Try.f14.resultTypes.toList.any (Try.prog.ifacesRec ·))) = true := by kernel_rfl
theorem fact21 : ((Rows.macLengthRow.loopsOut == Try.f14.resultTypes.toList.any (Try.prog.loopsFrom ·))) = true := by kernel_rfl
theorem fact22 : ((Rows.macLengthRow.plainKeys == Try.prog.plainKeys)) = true := (by rw [Kit.plainKeys]; rfl)
theorem fact23 : (Rows.macLengthRow.shortTexts.isNone) = true := by kernel_rfl
theorem fact24 : (Try.prog.stopsHeard) = true := Kit.stopsHeard
theorem fact25 : (Try.prog.mayEnter) = true := Kit.mayEnter
theorem fact26 : ((Rows.macLengthRow.lifted == Try.prog.liftsFinal)) = true := (by rw [Kit.liftsFinal]; rfl)
theorem fact27 : ((Try.prog.make == some Rows.macLengthRow.make)) = true := (by rw [Kit.make]; rfl)
theorem fact28 : ((Rows.macLengthRow.kinds == (if Rows.macLengthRow.domain.isEmpty then [] else Try.f14.params.toList.map fun t => match Try.prog.underlying t with | some (.int k) => some k | _ => none))) = true := by kernel_rfl
theorem fact29 : ((Rows.macLengthRow.pinned == Rows.macLengthRow.pinnedBy)) = true := by kernel_rfl
theorem fact30 : ((Rows.macLengthRow.veiled == (Try.f14.params.toList ++ Rows.macLengthSpec.plain.varTypes Try.prog ++ Try.f14.resultTypes.toList).any (Try.prog.veiledRec ·))) = true := by kernel_rfl
theorem fact31 : (Rows.macLengthRow.veiledFits Try.prog Try.f14.params.toList (Try.f14.params.toList ++ Rows.macLengthSpec.plain.varTypes Try.prog ++ Try.f14.resultTypes.toList)) = true := by kernel_rfl
set_option maxRecDepth 100000 in
theorem closed : joinedFacts Try.prog 14 Try.f14 Rows.macLengthSpec Rows.macLengthRow = true := by
  unfold joinedFacts
  exact (Kit.and2 (Kit.and2 (Kit.and2 (Kit.and2 (Kit.and2 (Kit.and2 (Kit.and2 (Kit.and2 (Kit.and2 (Kit.and2 (Kit.and2 (Kit.and2 (Kit.and2 (Kit.and2 (Kit.and2 (Kit.and2 (Kit.and2 (Kit.and2 (Kit.and2 (Kit.and2 (Kit.and2 (Kit.and2 (Kit.and2 (Kit.and2 (Kit.and2 (Kit.and2 (Kit.and2 (Kit.and2 (Kit.and2 (Kit.and2 (Kit.and2 fact0 fact1) fact2) fact3) fact4) fact5) fact6) fact7) fact8) fact9) fact10) fact11) fact12) fact13) fact14) fact15) fact16) fact17) fact18) fact19) fact20) fact21) fact22) fact23) fact24) fact25) fact26) fact27) fact28) fact29) fact30) fact31)
theorem named : Try.prog.funcNamed Rows.macLengthRow.func = some 14 := by kernel_rfl
theorem inst : Try.f14.isInstance Try.prog Rows.macLengthRow.origin Rows.macLengthRow.targs := of_decide_eq_true (by kernel_rfl)
theorem wrap_ : Try.f14.isWrapper Try.prog Rows.macLengthRow.wrapper Rows.macLengthRow.mainSum := by unfold Func.isWrapper; first | (rw [if_pos (by decide +kernel)]; kernel_rfl) | (rw [if_neg (by decide +kernel)]; exact ⟨rfl, rfl⟩)
theorem over : Rows.macLengthRow.holds Try.pinned (OpenSpec.ofChange Rows.macLengthSpec) :=
  OpenClaim.holds_of_wide 14 Try.f14 rfl rfl rfl rfl rfl rfl rfl ⟨rfl, rfl, rfl, rfl, rfl⟩ rfl rfl rfl rfl rfl named Try.func14 closed
    inst wrap_
    (fun os started H enc _ => lifted os started H enc)
theorem proved : Rows.MacLengthSaid := over
#print axioms proved
end Go.Proofs.Ytpalloofjljhkaa.macLength
namespace Go.Proofs.Ytpalloofjljhkaa
theorem macLength_holds : Rows.MacLengthSaid := macLength.proved
end Go.Proofs.Ytpalloofjljhkaa
