/- Of each kind of PDU: what is no response, what is one, what stands behind it, whom it goes to; each rule by itself. -/
-- Put together by wip/print2/mergelaw.py: printed words (what this claim does not use is left out), printed functions, texts of this session.
import Derived.Test.YtnmcoebjkfpmjaaMPduKinds5
/-! Px7 -/
namespace Go.Proofs.Ytnmcoebjkfpmjaa.P
open Go.RowKit Go.Proofs.YtnmcoebjkfpmjaaW.PrintWords Go.Proofs.YtnmcoebjkfpmjaaW.PrintLast Go.Proofs.YtnmcoebjkfpmjaaW.PrintMore
set_option linter.unusedVariables false
set_option linter.unusedSimpArgs false
set_option maxHeartbeats 16000000 in
set_option maxRecDepth 100000 in
theorem antiphonlaw6_PduKinds.antiphonlaw6_PduKinds.callsB (a0_0 a0_1 : Int) (a0_2 : Bool) (a0_3 a0_4 a0_5 a0_6 : Int) (a0_7 : Bool) (A0_8 : Option Addr) (c0_8 : Nat) (l0_8 : List Int) (r : Bool) (w : World) (hr0_8 : Kd.C (Kd.int .u8) w A0_8 l0_8.length l0_8) (hc0_8 : l0_8.length ≤ c0_8) (hab : a0_3 = 2 ∧ a0_4 ≤ 2) (h : antiphonlaw6_PduKinds.f a0_0 a0_1 a0_2 a0_3 a0_4 a0_5 a0_6 a0_7 l0_8 = some r) :
    Calls Try.prog 6 #[.agg #[.int .i64 a0_0, .int .i64 a0_1, .bool a0_2, .int .i64 a0_3, .int .i64 a0_4, .int .i64 a0_5, .int .i64 a0_6, .bool a0_7, .slice A0_8 l0_8.length c0_8]] w fun e w' => e = .returned (.bool r) ∧ Below w.heap.size w w' := by
  obtain rfl : true = r := Option.some.inj h
  clear h
  have HR := Aside0.mk hr0_8
  have HC := Aside0.mk hc0_8
  have HAW := Aside0.mk (show antiphonlaw6_awake.f 300 = some true by decide +kernel)
  clear hr0_8 hc0_8
  have HAB := Aside0.mk hab
  clear hab
  go_enter Try.func6, Try.ntmps6
  go_wp2_with fail
  refine (antiphonlaw6_awake.calls 300 true _ HAW.out).mono ?_
  rintro e wa ⟨rfl, hBa⟩
  have hpa := (hBa.block _ (blk_lt (blk_new w (.cells #[.int .i64 a0_0, .int .i64 a0_1, .bool a0_2, .int .i64 a0_3, .int .i64 a0_4, .int .i64 a0_5, .int .i64 a0_6, .bool a0_7, .slice A0_8 l0_8.length c0_8] 25)))).trans (blk_new w _)
  have HBa := Aside0.mk (below_step (below_alloc (Below.refl w.heap.size w) _) hBa)
  have HPa := Aside0.mk hpa
  clear hBa hpa
  have k0 : wa.cell? ⟨w.heap.size, 0, none⟩ = some (.int .i64 a0_0) := (blk_cell HPa.out 0).trans rfl
  have k1 : wa.cell? ⟨w.heap.size, 1, none⟩ = some (.int .i64 a0_1) := (blk_cell HPa.out 1).trans rfl
  have k2 : wa.cell? ⟨w.heap.size, 2, none⟩ = some (.bool a0_2) := (blk_cell HPa.out 2).trans rfl
  have k3 : wa.cell? ⟨w.heap.size, 3, none⟩ = some (.int .i64 a0_3) := (blk_cell HPa.out 3).trans rfl
  have k4 : wa.cell? ⟨w.heap.size, 4, none⟩ = some (.int .i64 a0_4) := (blk_cell HPa.out 4).trans rfl
  have k5 : wa.cell? ⟨w.heap.size, 5, none⟩ = some (.int .i64 a0_5) := (blk_cell HPa.out 5).trans rfl
  have k6 : wa.cell? ⟨w.heap.size, 6, none⟩ = some (.int .i64 a0_6) := (blk_cell HPa.out 6).trans rfl
  have k7 : wa.cell? ⟨w.heap.size, 7, none⟩ = some (.bool a0_7) := (blk_cell HPa.out 7).trans rfl
  have k8 : wa.cell? ⟨w.heap.size, 8, none⟩ = some (.slice A0_8 l0_8.length c0_8) := (blk_cell HPa.out 8).trans rfl
  by_cases hl : l0_8.length ≤ 2000
  case neg =>
    have hl' : decide (2000 < l0_8.length) = true := decide_eq_true (by omega)
    go_wp2_with fail
    go_ret
    exact ⟨rfl, HBa.out⟩
  have hl' : decide (2000 < l0_8.length) = false := decide_eq_false (by omega)
  go_wp2_with fail
  refine (pdu_May.calls 4 a0_0 a0_1 a0_2 a0_3 a0_4 a0_5 a0_6 a0_7 A0_8 c0_8 l0_8 _ _ (Kd.C_below HR.out HBa.out) HC.out (Lib.may_pdu 0 a0_0 a0_1 a0_2 a0_3 a0_4 a0_5 a0_6 a0_7 l0_8)).mono ?_
  rintro e wb ⟨rfl, hBb⟩
  have HBb := Aside0.mk (below_step HBa.out hBb)
  have HPb := Aside0.mk ((hBb.block _ (blk_lt HPa.out)).trans HPa.out)
  clear hBb k0 k1 k2 k3 k4 k5 k6 k7 k8
  cases hm : Lib.mayB a0_0 a0_1 a0_2 a0_3 a0_4 a0_5 a0_6 l0_8.length with
  | false =>
    go_wp2_with fail
    go_ret
    exact ⟨rfl, HBb.out⟩
  | true =>
    obtain ⟨hi, hcs⟩ := Lib.may_cases hm
    have HM := Aside0.mk hm
    unfold Lib.inB at hi
    obtain ⟨t0, t1, f0, f1, f2, ns0, ns1, nr0, nr1, hn⟩ := hi
    clear hm hl hl' hn
    rcases hcs with ⟨rfl, rfl, ht⟩ | ⟨rfl, h1, h2, rfl, h3, ht⟩ | ⟨rfl, rfl, rfl, h1, h2, h3⟩
    · exact absurd HAB.out.1 (by decide)
    · exact absurd HAB.out.1 (by decide)
    · clear h3
      have hab := HAB.out.2
      rcases (show a0_4 = 0 ∨ a0_4 = 1 ∨ a0_4 = 2 by omega) with hk
      clear hab
      · clear h1 h2
        rcases hk with rfl | rfl | rfl
        · have HBO := Aside0.mk ((KindP.pk_q HM.out).trans (by decide : _ = false))
          have HLT := Aside0.mk (show Lib.mayB a0_0 a0_1 a0_2 2 0 1 0 l0_8.length = false from (KindP.pk_w HM.out).trans (by decide))
          rcases (show a0_0 % 2 = 0 ∨ a0_0 % 2 = 1 by omega) with ht | ht
          · skip
            have k0 : wb.cell? ⟨w.heap.size, 0, none⟩ = some (.int .i64 a0_0) := (blk_cell HPb.out 0).trans rfl
            have k1 : wb.cell? ⟨w.heap.size, 1, none⟩ = some (.int .i64 a0_1) := (blk_cell HPb.out 1).trans rfl
            have k2 : wb.cell? ⟨w.heap.size, 2, none⟩ = some (.bool a0_2) := (blk_cell HPb.out 2).trans rfl
            have k3 : wb.cell? ⟨w.heap.size, 3, none⟩ = some (.int .i64 2) := (blk_cell HPb.out 3).trans rfl
            have k4 : wb.cell? ⟨w.heap.size, 4, none⟩ = some (.int .i64 0) := (blk_cell HPb.out 4).trans rfl
            have k5 : wb.cell? ⟨w.heap.size, 5, none⟩ = some (.int .i64 0) := (blk_cell HPb.out 5).trans rfl
            have k6 : wb.cell? ⟨w.heap.size, 6, none⟩ = some (.int .i64 0) := (blk_cell HPb.out 6).trans rfl
            have k7 : wb.cell? ⟨w.heap.size, 7, none⟩ = some (.bool a0_7) := (blk_cell HPb.out 7).trans rfl
            have k8 : wb.cell? ⟨w.heap.size, 8, none⟩ = some (.slice A0_8 l0_8.length c0_8) := (blk_cell HPb.out 8).trans rfl
            have hpw : w.heap.size < wb.heap.size := blk_lt HPb.out
            have hpw1 : w.heap.size < wb.heap.size + 1 := by omega
            have hpw2 : w.heap.size < wb.heap.size + 1 + 1 := by omega
            have hpw3 : w.heap.size ≠ wb.heap.size + 1 + 1 := by omega
            go_wp2_with fail
            generalize hW : (((wb.alloc _).alloc _).alloc _) = W
            have BP := Aside0.mk (show W.heap[w.heap.size]? = some (.cells #[.int .i64 a0_0, .int .i64 a0_1, .bool a0_2, .int .i64 2, .int .i64 0, .int .i64 0, .int .i64 0, .bool a0_7, .slice A0_8 l0_8.length c0_8] 25 (0, 0)) by rw [← hW]; exact blk_alloc (blk_alloc (blk_alloc HPb.out _) _) _)
            have BQ := Aside0.mk (show W.heap[wb.heap.size]? = some (.cells #[.int .i64 a0_0, .int .i64 a0_1, .bool (!a0_2), .int .i64 2, .int .i64 0, .int .i64 0, .int .i64 0, .bool a0_7, .slice A0_8 l0_8.length c0_8] 25 (0, 0)) by rw [← hW]; exact blk_alloc (blk_alloc (blk_new wb _) _) _)
            have BU := Aside0.mk (show W.heap[wb.heap.size + 1]? = some (.cells #[.int .i64 a0_0, .int .i64 a0_1, .bool a0_2, .int .i64 2, .int .i64 0, .int .i64 0, .int .i64 0, .bool (!a0_7), .slice A0_8 l0_8.length c0_8] 25 (0, 0)) by rw [← hW]; exact blk_alloc (KindP.blk_new2 wb _ _) _)
            have BV := Aside0.mk (show W.heap[wb.heap.size + 1 + 1]? = some (.cells #[.int .i64 a0_0, .int .i64 a0_1, .bool a0_2, .int .i64 2, .int .i64 0, .int .i64 1, .int .i64 0, .bool a0_7, .slice A0_8 l0_8.length c0_8] 25 (0, 0)) by rw [← hW]; exact KindP.blk_new3 wb _ _ _)
            have HB := Aside0.mk (show Below w.heap.size w W by rw [← hW]; exact below_alloc (below_alloc (below_alloc HBb.out _) _) _)
            clear hW k0 k1 k2 k3 k4 k5 k6 k7 k8
            refine start_ (n := 22) (S := fun w' => w'.cell? ⟨w.heap.size, 3, none⟩ = some (.int .i64 2) ∧ w'.cell? ⟨w.heap.size, 5, none⟩ = some (.int .i64 0) ∧ w'.cell? ⟨wb.heap.size, 0, none⟩ = some (.int .i64 a0_0) ∧ w'.cell? ⟨wb.heap.size, 1, none⟩ = some (.int .i64 a0_1) ∧ w'.cell? ⟨wb.heap.size, 2, none⟩ = some (.bool (!a0_2)) ∧ w'.cell? ⟨wb.heap.size, 3, none⟩ = some (.int .i64 2) ∧ w'.cell? ⟨wb.heap.size, 4, none⟩ = some (.int .i64 0) ∧ w'.cell? ⟨wb.heap.size, 5, none⟩ = some (.int .i64 0) ∧ w'.cell? ⟨wb.heap.size, 6, none⟩ = some (.int .i64 0) ∧ w'.cell? ⟨wb.heap.size, 7, none⟩ = some (.bool a0_7) ∧ w'.cell? ⟨wb.heap.size, 8, none⟩ = some (.slice A0_8 l0_8.length c0_8) ∧ w'.cell? ⟨wb.heap.size + 1, 0, none⟩ = some (.int .i64 a0_0) ∧ w'.cell? ⟨wb.heap.size + 1, 1, none⟩ = some (.int .i64 a0_1) ∧ w'.cell? ⟨wb.heap.size + 1, 2, none⟩ = some (.bool a0_2) ∧ w'.cell? ⟨wb.heap.size + 1, 3, none⟩ = some (.int .i64 2) ∧ w'.cell? ⟨wb.heap.size + 1, 4, none⟩ = some (.int .i64 0) ∧ w'.cell? ⟨wb.heap.size + 1, 5, none⟩ = some (.int .i64 0) ∧ w'.cell? ⟨wb.heap.size + 1, 6, none⟩ = some (.int .i64 0) ∧ w'.cell? ⟨wb.heap.size + 1, 7, none⟩ = some (.bool (!a0_7)) ∧ w'.cell? ⟨wb.heap.size + 1, 8, none⟩ = some (.slice A0_8 l0_8.length c0_8) ∧ w'.cell? ⟨wb.heap.size + 1 + 1, 0, none⟩ = some (.int .i64 a0_0) ∧ w'.cell? ⟨wb.heap.size + 1 + 1, 1, none⟩ = some (.int .i64 a0_1) ∧ w'.cell? ⟨wb.heap.size + 1 + 1, 2, none⟩ = some (.bool a0_2) ∧ w'.cell? ⟨wb.heap.size + 1 + 1, 3, none⟩ = some (.int .i64 2) ∧ w'.cell? ⟨wb.heap.size + 1 + 1, 4, none⟩ = some (.int .i64 0) ∧ w'.cell? ⟨wb.heap.size + 1 + 1, 5, none⟩ = some (.int .i64 1) ∧ w'.cell? ⟨wb.heap.size + 1 + 1, 6, none⟩ = some (.int .i64 0) ∧ w'.cell? ⟨wb.heap.size + 1 + 1, 7, none⟩ = some (.bool a0_7) ∧ w'.cell? ⟨wb.heap.size + 1 + 1, 8, none⟩ = some (.slice A0_8 l0_8.length c0_8)) (ds := []) #[false, false, false, false, false, false, false, false, false, false, false, false, false, false, false, false, false, false, false, false, false, false] (by kernel_rfl) rfl rfl ⟨(blk_cell BP.out 3).trans rfl, (blk_cell BP.out 5).trans rfl, (blk_cell BQ.out 0).trans rfl, (blk_cell BQ.out 1).trans rfl, (blk_cell BQ.out 2).trans rfl, (blk_cell BQ.out 3).trans rfl, (blk_cell BQ.out 4).trans rfl, (blk_cell BQ.out 5).trans rfl, (blk_cell BQ.out 6).trans rfl, (blk_cell BQ.out 7).trans rfl, (blk_cell BQ.out 8).trans rfl, (blk_cell BU.out 0).trans rfl, (blk_cell BU.out 1).trans rfl, (blk_cell BU.out 2).trans rfl, (blk_cell BU.out 3).trans rfl, (blk_cell BU.out 4).trans rfl, (blk_cell BU.out 5).trans rfl, (blk_cell BU.out 6).trans rfl, (blk_cell BU.out 7).trans rfl, (blk_cell BU.out 8).trans rfl, (blk_cell BV.out 0).trans rfl, (blk_cell BV.out 1).trans rfl, (blk_cell BV.out 2).trans rfl, (blk_cell BV.out 3).trans rfl, (blk_cell BV.out 4).trans rfl, (blk_cell BV.out 5).trans rfl, (blk_cell BV.out 6).trans rfl, (blk_cell BV.out 7).trans rfl, (blk_cell BV.out 8).trans rfl⟩ (fun hHeld => ?_)
            refine pure_ (i := 2) (N := some 106) (v := ?_) (a' := ?_) #[false, false, true, false, false, false, false, false, false, false, false, false, false, false, false, false, false, false, false, false, false, false] rfl rfl (by kernel_rfl) (fun _ _ _ h => h) (Or.inl ⟨by rfl, ?_⟩) ?_ ?_
            rotate_left
            · intro w'
              go_simp
              with_reducible rfl
            rotate_left
            · simp only [Act.put, List.setIfInBounds_toArray, List.set_cons_zero, List.set_cons_succ, i64_w, i32_w]
              rfl
            refine take_ (i := 0) (N := some 104) (v := ?_) (a' := ?_) #[true, false, true, false, false, false, false, false, false, false, false, false, false, false, false, false, false, false, false, false, false, false] rfl rfl (by kernel_rfl) (fun _ _ _ h => h) (Or.inl ⟨by rfl, ?_⟩) hHeld ?_ ?_
            rotate_left
            · rintro w' ⟨s0, s1, s2, s3, s4, s5, s6, s7, s8, s9, s10, s11, s12, s13, s14, s15, s16, s17, s18, s19, s20, s21, s22, s23, s24, s25, s26, s27, s28⟩
              go_simp
              with_reducible rfl
            rotate_left
            · simp only [Act.put, List.setIfInBounds_toArray, List.set_cons_zero, List.set_cons_succ, i64_w, i32_w]
              rfl
            refine one_ (i := 1) (N := some 105) #[true, true, true, false, false, false, false, false, false, false, false, false, false, false, false, false, false, false, false, false, false, false] rfl rfl (by kernel_rfl) (by decide) (fun K hK => ?_)
            refine goes_ Try.func34 (by kernel_rfl) rfl #[.agg #[.int .i64 a0_0, .int .i64 a0_1, .bool (!a0_2), .int .i64 2, .int .i64 0, .int .i64 0, .int .i64 0, .bool a0_7, .slice A0_8 l0_8.length c0_8]] (by rfl) rfl rfl (by simp only [List.map_toArray, List.map_cons, List.map_nil]; rfl) ?_
            with_reducible refine (pdu_May.calls 4 (a0_0) (a0_1) ((!a0_2)) (2) (0) (0) (0) (a0_7) A0_8 c0_8 l0_8 false _ (Kd.C_below HR.out (by (repeat (with_reducible first | exact HB.out | apply pw_below_drewN | apply below_drew1)))) HC.out ((Lib.may_pdu 0 _ _ _ _ _ _ _ _ _).trans (congrArg some HBO.out))).mono ?_
            rintro e w3 ⟨rfl, hb⟩
            refine ⟨_, rfl, ?_⟩
            have nBP := Aside0.mk (blk_below (g := w.heap.size) (o := (.cells #[.int .i64 a0_0, .int .i64 a0_1, .bool a0_2, .int .i64 2, .int .i64 0, .int .i64 0, .int .i64 0, .bool a0_7, .slice A0_8 l0_8.length c0_8] 25 (0, 0))) (by (with_reducible repeat (first | refine blk_drewN ?_ _ | refine blk_drew ?_)); exact BP.out) hb)
            have nBQ := Aside0.mk (blk_below (g := wb.heap.size) (o := (.cells #[.int .i64 a0_0, .int .i64 a0_1, .bool (!a0_2), .int .i64 2, .int .i64 0, .int .i64 0, .int .i64 0, .bool a0_7, .slice A0_8 l0_8.length c0_8] 25 (0, 0))) (by (with_reducible repeat (first | refine blk_drewN ?_ _ | refine blk_drew ?_)); exact BQ.out) hb)
            have nBU := Aside0.mk (blk_below (g := wb.heap.size + 1) (o := (.cells #[.int .i64 a0_0, .int .i64 a0_1, .bool a0_2, .int .i64 2, .int .i64 0, .int .i64 0, .int .i64 0, .bool (!a0_7), .slice A0_8 l0_8.length c0_8] 25 (0, 0))) (by (with_reducible repeat (first | refine blk_drewN ?_ _ | refine blk_drew ?_)); exact BU.out) hb)
            have nBV := Aside0.mk (blk_below (g := wb.heap.size + 1 + 1) (o := (.cells #[.int .i64 a0_0, .int .i64 a0_1, .bool a0_2, .int .i64 2, .int .i64 0, .int .i64 1, .int .i64 0, .bool a0_7, .slice A0_8 l0_8.length c0_8] 25 (0, 0))) (by (with_reducible repeat (first | refine blk_drewN ?_ _ | refine blk_drew ?_)); exact BV.out) hb)
            have nHB := Aside0.mk (below_step (by (repeat (with_reducible first | exact HB.out | apply pw_below_drewN | apply below_drew1))) hb)
            clear BP BQ BU BV HB hb
            have BP := nBP
            have BQ := nBQ
            have BU := nBU
            have BV := nBV
            have HB := nHB
            clear nBP nBQ nBU nBV nHB
            refine hK.out _ _ ⟨(blk_cell BP.out 3).trans rfl, (blk_cell BP.out 5).trans rfl, (blk_cell BQ.out 0).trans rfl, (blk_cell BQ.out 1).trans rfl, (blk_cell BQ.out 2).trans rfl, (blk_cell BQ.out 3).trans rfl, (blk_cell BQ.out 4).trans rfl, (blk_cell BQ.out 5).trans rfl, (blk_cell BQ.out 6).trans rfl, (blk_cell BQ.out 7).trans rfl, (blk_cell BQ.out 8).trans rfl, (blk_cell BU.out 0).trans rfl, (blk_cell BU.out 1).trans rfl, (blk_cell BU.out 2).trans rfl, (blk_cell BU.out 3).trans rfl, (blk_cell BU.out 4).trans rfl, (blk_cell BU.out 5).trans rfl, (blk_cell BU.out 6).trans rfl, (blk_cell BU.out 7).trans rfl, (blk_cell BU.out 8).trans rfl, (blk_cell BV.out 0).trans rfl, (blk_cell BV.out 1).trans rfl, (blk_cell BV.out 2).trans rfl, (blk_cell BV.out 3).trans rfl, (blk_cell BV.out 4).trans rfl, (blk_cell BV.out 5).trans rfl, (blk_cell BV.out 6).trans rfl, (blk_cell BV.out 7).trans rfl, (blk_cell BV.out 8).trans rfl⟩ (fun hHeld => ?_)
            clear hK K
            refine norm_ (a' := ?_) ?_ ?_
            rotate_left
            · show Act.put _ (some 105) _ = _
              simp only [Act.put, List.setIfInBounds_toArray, List.set_cons_zero, List.set_cons_succ, i64_w, i32_w]
              rfl
            refine pure_ (i := 3) (N := some 107) (v := ?_) (a' := ?_) #[true, true, true, true, false, false, false, false, false, false, false, false, false, false, false, false, false, false, false, false, false, false] rfl rfl (by kernel_rfl) (fun _ _ _ h => h) (Or.inl ⟨by rfl, ?_⟩) ?_ ?_
            rotate_left
            · intro w'
              go_simp
              with_reducible rfl
            rotate_left
            · simp only [Act.put, List.setIfInBounds_toArray, List.set_cons_zero, List.set_cons_succ, i64_w, i32_w]
              rfl
            refine pure_ (i := 4) (N := some 108) (v := ?_) (a' := ?_) #[true, true, true, true, true, false, false, false, false, false, false, false, false, false, false, false, false, false, false, false, false, false] rfl rfl (by kernel_rfl) (fun _ _ _ h => h) (Or.inl ⟨by rfl, ?_⟩) ?_ ?_
            rotate_left
            · intro w'
              go_simp
              with_reducible rfl
            rotate_left
            · simp only [Act.put, List.setIfInBounds_toArray, List.set_cons_zero, List.set_cons_succ, i64_w, i32_w]
              rfl
            refine take_ (i := 5) (N := some 109) (v := ?_) (a' := ?_) #[true, true, true, true, true, true, false, false, false, false, false, false, false, false, false, false, false, false, false, false, false, false] rfl rfl (by kernel_rfl) (fun _ _ _ h => h) (Or.inl ⟨by rfl, ?_⟩) hHeld ?_ ?_
            rotate_left
            · rintro w' ⟨s0, s1, s2, s3, s4, s5, s6, s7, s8, s9, s10, s11, s12, s13, s14, s15, s16, s17, s18, s19, s20, s21, s22, s23, s24, s25, s26, s27, s28⟩
              go_simp
              with_reducible rfl
            rotate_left
            · simp only [Act.put, List.setIfInBounds_toArray, List.set_cons_zero, List.set_cons_succ, i64_w, i32_w]
              rfl
            refine one_ (i := 6) (N := some 110) #[true, true, true, true, true, true, true, false, false, false, false, false, false, false, false, false, false, false, false, false, false, false] rfl rfl (by kernel_rfl) (by decide) (fun K hK => ?_)
            refine goes_ Try.func34 (by kernel_rfl) rfl #[.agg #[.int .i64 a0_0, .int .i64 a0_1, .bool a0_2, .int .i64 2, .int .i64 0, .int .i64 0, .int .i64 0, .bool (!a0_7), .slice A0_8 l0_8.length c0_8]] (by rfl) rfl rfl (by simp only [List.map_toArray, List.map_cons, List.map_nil]; rfl) ?_
            with_reducible refine (pdu_May.calls 4 (a0_0) (a0_1) (a0_2) (2) (0) (0) (0) ((!a0_7)) A0_8 c0_8 l0_8 true _ (Kd.C_below HR.out (by (repeat (with_reducible first | exact HB.out | apply pw_below_drewN | apply below_drew1)))) HC.out (KindP.pk_poll (!a0_7) l0_8 HM.out rfl)).mono ?_
            rintro e w3 ⟨rfl, hb⟩
            refine ⟨_, rfl, ?_⟩
            have nBP := Aside0.mk (blk_below (g := w.heap.size) (o := (.cells #[.int .i64 a0_0, .int .i64 a0_1, .bool a0_2, .int .i64 2, .int .i64 0, .int .i64 0, .int .i64 0, .bool a0_7, .slice A0_8 l0_8.length c0_8] 25 (0, 0))) (by (with_reducible repeat (first | refine blk_drewN ?_ _ | refine blk_drew ?_)); exact BP.out) hb)
            have nBQ := Aside0.mk (blk_below (g := wb.heap.size) (o := (.cells #[.int .i64 a0_0, .int .i64 a0_1, .bool (!a0_2), .int .i64 2, .int .i64 0, .int .i64 0, .int .i64 0, .bool a0_7, .slice A0_8 l0_8.length c0_8] 25 (0, 0))) (by (with_reducible repeat (first | refine blk_drewN ?_ _ | refine blk_drew ?_)); exact BQ.out) hb)
            have nBU := Aside0.mk (blk_below (g := wb.heap.size + 1) (o := (.cells #[.int .i64 a0_0, .int .i64 a0_1, .bool a0_2, .int .i64 2, .int .i64 0, .int .i64 0, .int .i64 0, .bool (!a0_7), .slice A0_8 l0_8.length c0_8] 25 (0, 0))) (by (with_reducible repeat (first | refine blk_drewN ?_ _ | refine blk_drew ?_)); exact BU.out) hb)
            have nBV := Aside0.mk (blk_below (g := wb.heap.size + 1 + 1) (o := (.cells #[.int .i64 a0_0, .int .i64 a0_1, .bool a0_2, .int .i64 2, .int .i64 0, .int .i64 1, .int .i64 0, .bool a0_7, .slice A0_8 l0_8.length c0_8] 25 (0, 0))) (by (with_reducible repeat (first | refine blk_drewN ?_ _ | refine blk_drew ?_)); exact BV.out) hb)
            have nHB := Aside0.mk (below_step (by (repeat (with_reducible first | exact HB.out | apply pw_below_drewN | apply below_drew1))) hb)
            clear BP BQ BU BV HB hb
            have BP := nBP
            have BQ := nBQ
            have BU := nBU
            have BV := nBV
            have HB := nHB
            clear nBP nBQ nBU nBV nHB
            refine hK.out _ _ ⟨(blk_cell BP.out 3).trans rfl, (blk_cell BP.out 5).trans rfl, (blk_cell BQ.out 0).trans rfl, (blk_cell BQ.out 1).trans rfl, (blk_cell BQ.out 2).trans rfl, (blk_cell BQ.out 3).trans rfl, (blk_cell BQ.out 4).trans rfl, (blk_cell BQ.out 5).trans rfl, (blk_cell BQ.out 6).trans rfl, (blk_cell BQ.out 7).trans rfl, (blk_cell BQ.out 8).trans rfl, (blk_cell BU.out 0).trans rfl, (blk_cell BU.out 1).trans rfl, (blk_cell BU.out 2).trans rfl, (blk_cell BU.out 3).trans rfl, (blk_cell BU.out 4).trans rfl, (blk_cell BU.out 5).trans rfl, (blk_cell BU.out 6).trans rfl, (blk_cell BU.out 7).trans rfl, (blk_cell BU.out 8).trans rfl, (blk_cell BV.out 0).trans rfl, (blk_cell BV.out 1).trans rfl, (blk_cell BV.out 2).trans rfl, (blk_cell BV.out 3).trans rfl, (blk_cell BV.out 4).trans rfl, (blk_cell BV.out 5).trans rfl, (blk_cell BV.out 6).trans rfl, (blk_cell BV.out 7).trans rfl, (blk_cell BV.out 8).trans rfl⟩ (fun hHeld => ?_)
            clear hK K
            refine norm_ (a' := ?_) ?_ ?_
            rotate_left
            · show Act.put _ (some 110) _ = _
              simp only [Act.put, List.setIfInBounds_toArray, List.set_cons_zero, List.set_cons_succ, i64_w, i32_w]
              rfl
            refine pure_ (i := 7) (N := some 111) (v := ?_) (a' := ?_) #[true, true, true, true, true, true, true, true, false, false, false, false, false, false, false, false, false, false, false, false, false, false] rfl rfl (by kernel_rfl) (fun _ _ _ h => h) (Or.inl ⟨by rfl, ?_⟩) ?_ ?_
            rotate_left
            · intro w'
              go_simp
              with_reducible rfl
            rotate_left
            · simp only [Act.put, List.setIfInBounds_toArray, List.set_cons_zero, List.set_cons_succ, i64_w, i32_w]
              rfl
            refine pure_ (i := 8) (N := some 112) (v := ?_) (a' := ?_) #[true, true, true, true, true, true, true, true, true, false, false, false, false, false, false, false, false, false, false, false, false, false] rfl rfl (by kernel_rfl) (fun _ _ _ h => h) (Or.inl ⟨by rfl, ?_⟩) ?_ ?_
            rotate_left
            · intro w'
              go_simp
              with_reducible rfl
            rotate_left
            · simp only [Act.put, List.setIfInBounds_toArray, List.set_cons_zero, List.set_cons_succ, i64_w, i32_w]
              rfl
            refine pure_ (i := 11) (N := some 115) (v := ?_) (a' := ?_) #[true, true, true, true, true, true, true, true, true, false, false, true, false, false, false, false, false, false, false, false, false, false] rfl rfl (by kernel_rfl) (fun _ _ _ h => h) (Or.inl ⟨by rfl, ?_⟩) ?_ ?_
            rotate_left
            · intro w'
              go_simp
              with_reducible rfl
            rotate_left
            · simp only [Act.put, List.setIfInBounds_toArray, List.set_cons_zero, List.set_cons_succ, i64_w, i32_w]
              rfl
            refine take_ (i := 9) (N := some 113) (v := ?_) (a' := ?_) #[true, true, true, true, true, true, true, true, true, true, false, true, false, false, false, false, false, false, false, false, false, false] rfl rfl (by kernel_rfl) (fun _ _ _ h => h) (Or.inl ⟨by rfl, ?_⟩) hHeld ?_ ?_
            rotate_left
            · rintro w' ⟨s0, s1, s2, s3, s4, s5, s6, s7, s8, s9, s10, s11, s12, s13, s14, s15, s16, s17, s18, s19, s20, s21, s22, s23, s24, s25, s26, s27, s28⟩
              go_simp
              with_reducible rfl
            rotate_left
            · simp only [Act.put, List.setIfInBounds_toArray, List.set_cons_zero, List.set_cons_succ, i64_w, i32_w]
              rfl
            refine take_ (i := 12) (N := some 116) (v := ?_) (a' := ?_) #[true, true, true, true, true, true, true, true, true, true, false, true, true, false, false, false, false, false, false, false, false, false] rfl rfl (by kernel_rfl) (fun _ _ _ h => h) (Or.inl ⟨by rfl, ?_⟩) hHeld ?_ ?_
            rotate_left
            · rintro w' ⟨s0, s1, s2, s3, s4, s5, s6, s7, s8, s9, s10, s11, s12, s13, s14, s15, s16, s17, s18, s19, s20, s21, s22, s23, s24, s25, s26, s27, s28⟩
              go_simp
              with_reducible rfl
            rotate_left
            · simp only [Act.put, List.setIfInBounds_toArray, List.set_cons_zero, List.set_cons_succ, i64_w, i32_w]
              rfl
            refine pure_ (i := 13) (N := some 117) (v := ?_) (a' := ?_) #[true, true, true, true, true, true, true, true, true, true, false, true, true, true, false, false, false, false, false, false, false, false] rfl rfl (by kernel_rfl) (fun _ _ _ h => h) (Or.inl ⟨by rfl, ?_⟩) ?_ ?_
            rotate_left
            · intro w'
              go_simp
              with_reducible rfl
            rotate_left
            · simp only [Act.put, List.setIfInBounds_toArray, List.set_cons_zero, List.set_cons_succ, i64_w, i32_w]
              rfl
            refine one_ (i := 10) (N := some 114) #[true, true, true, true, true, true, true, true, true, true, true, true, true, true, false, false, false, false, false, false, false, false] rfl rfl (by kernel_rfl) (by decide) (fun K hK => ?_)
            refine goes_ Try.func34 (by kernel_rfl) rfl #[.agg #[.int .i64 a0_0, .int .i64 a0_1, .bool a0_2, .int .i64 2, .int .i64 0, .int .i64 1, .int .i64 0, .bool a0_7, .slice A0_8 l0_8.length c0_8]] (by rfl) rfl rfl (by simp only [List.map_toArray, List.map_cons, List.map_nil]; rfl) ?_
            with_reducible refine (pdu_May.calls 4 (a0_0) (a0_1) (a0_2) (2) (0) (1) (0) (a0_7) A0_8 c0_8 l0_8 false _ (Kd.C_below HR.out (by (repeat (with_reducible first | exact HB.out | apply pw_below_drewN | apply below_drew1)))) HC.out ((Lib.may_pdu 0 _ _ _ _ _ _ _ _ _).trans (congrArg some HLT.out))).mono ?_
            rintro e w3 ⟨rfl, hb⟩
            refine ⟨_, rfl, ?_⟩
            have nBP := Aside0.mk (blk_below (g := w.heap.size) (o := (.cells #[.int .i64 a0_0, .int .i64 a0_1, .bool a0_2, .int .i64 2, .int .i64 0, .int .i64 0, .int .i64 0, .bool a0_7, .slice A0_8 l0_8.length c0_8] 25 (0, 0))) (by (with_reducible repeat (first | refine blk_drewN ?_ _ | refine blk_drew ?_)); exact BP.out) hb)
            have nBQ := Aside0.mk (blk_below (g := wb.heap.size) (o := (.cells #[.int .i64 a0_0, .int .i64 a0_1, .bool (!a0_2), .int .i64 2, .int .i64 0, .int .i64 0, .int .i64 0, .bool a0_7, .slice A0_8 l0_8.length c0_8] 25 (0, 0))) (by (with_reducible repeat (first | refine blk_drewN ?_ _ | refine blk_drew ?_)); exact BQ.out) hb)
            have nBU := Aside0.mk (blk_below (g := wb.heap.size + 1) (o := (.cells #[.int .i64 a0_0, .int .i64 a0_1, .bool a0_2, .int .i64 2, .int .i64 0, .int .i64 0, .int .i64 0, .bool (!a0_7), .slice A0_8 l0_8.length c0_8] 25 (0, 0))) (by (with_reducible repeat (first | refine blk_drewN ?_ _ | refine blk_drew ?_)); exact BU.out) hb)
            have nBV := Aside0.mk (blk_below (g := wb.heap.size + 1 + 1) (o := (.cells #[.int .i64 a0_0, .int .i64 a0_1, .bool a0_2, .int .i64 2, .int .i64 0, .int .i64 1, .int .i64 0, .bool a0_7, .slice A0_8 l0_8.length c0_8] 25 (0, 0))) (by (with_reducible repeat (first | refine blk_drewN ?_ _ | refine blk_drew ?_)); exact BV.out) hb)
            have nHB := Aside0.mk (below_step (by (repeat (with_reducible first | exact HB.out | apply pw_below_drewN | apply below_drew1))) hb)
            clear BP BQ BU BV HB hb
            have BP := nBP
            have BQ := nBQ
            have BU := nBU
            have BV := nBV
            have HB := nHB
            clear nBP nBQ nBU nBV nHB
            refine hK.out _ _ ⟨(blk_cell BP.out 3).trans rfl, (blk_cell BP.out 5).trans rfl, (blk_cell BQ.out 0).trans rfl, (blk_cell BQ.out 1).trans rfl, (blk_cell BQ.out 2).trans rfl, (blk_cell BQ.out 3).trans rfl, (blk_cell BQ.out 4).trans rfl, (blk_cell BQ.out 5).trans rfl, (blk_cell BQ.out 6).trans rfl, (blk_cell BQ.out 7).trans rfl, (blk_cell BQ.out 8).trans rfl, (blk_cell BU.out 0).trans rfl, (blk_cell BU.out 1).trans rfl, (blk_cell BU.out 2).trans rfl, (blk_cell BU.out 3).trans rfl, (blk_cell BU.out 4).trans rfl, (blk_cell BU.out 5).trans rfl, (blk_cell BU.out 6).trans rfl, (blk_cell BU.out 7).trans rfl, (blk_cell BU.out 8).trans rfl, (blk_cell BV.out 0).trans rfl, (blk_cell BV.out 1).trans rfl, (blk_cell BV.out 2).trans rfl, (blk_cell BV.out 3).trans rfl, (blk_cell BV.out 4).trans rfl, (blk_cell BV.out 5).trans rfl, (blk_cell BV.out 6).trans rfl, (blk_cell BV.out 7).trans rfl, (blk_cell BV.out 8).trans rfl⟩ (fun hHeld => ?_)
            clear hK K
            refine norm_ (a' := ?_) ?_ ?_
            rotate_left
            · show Act.put _ (some 114) _ = _
              simp only [Act.put, List.setIfInBounds_toArray, List.set_cons_zero, List.set_cons_succ, i64_w, i32_w]
              rfl
            refine pure_ (i := 14) (N := some 118) (v := ?_) (a' := ?_) #[true, true, true, true, true, true, true, true, true, true, true, true, true, true, true, false, false, false, false, false, false, false] rfl rfl (by kernel_rfl) (fun _ _ _ h => h) (Or.inl ⟨by rfl, ?_⟩) ?_ ?_
            rotate_left
            · intro w'
              go_simp
              with_reducible rfl
            rotate_left
            · simp only [Act.put, List.setIfInBounds_toArray, List.set_cons_zero, List.set_cons_succ, i64_w, i32_w]
              rfl
            refine pure_ (i := 15) (N := some 119) (v := undef) (a' := ?_) #[true, true, true, true, true, true, true, true, true, true, true, true, true, true, true, true, false, false, false, false, false, false] rfl rfl (by kernel_rfl) (fun _ _ _ h => h) (Or.inr ⟨by rfl, rfl⟩) ?_ ?_
            rotate_left
            · simp only [Act.put, List.setIfInBounds_toArray, List.set_cons_zero, List.set_cons_succ, i64_w, i32_w]
              rfl
            refine pure_ (i := 16) (N := some 120) (v := undef) (a' := ?_) #[true, true, true, true, true, true, true, true, true, true, true, true, true, true, true, true, true, false, false, false, false, false] rfl rfl (by kernel_rfl) (fun _ _ _ h => h) (Or.inr ⟨by rfl, rfl⟩) ?_ ?_
            rotate_left
            · simp only [Act.put, List.setIfInBounds_toArray, List.set_cons_zero, List.set_cons_succ, i64_w, i32_w]
              rfl
            refine pure_ (i := 17) (N := some 121) (v := undef) (a' := ?_) #[true, true, true, true, true, true, true, true, true, true, true, true, true, true, true, true, true, true, false, false, false, false] rfl rfl (by kernel_rfl) (fun _ _ _ h => h) (Or.inr ⟨by rfl, rfl⟩) ?_ ?_
            rotate_left
            · simp only [Act.put, List.setIfInBounds_toArray, List.set_cons_zero, List.set_cons_succ, i64_w, i32_w]
              rfl
            refine pure_ (i := 18) (N := some 122) (v := ?_) (a' := ?_) #[true, true, true, true, true, true, true, true, true, true, true, true, true, true, true, true, true, true, true, false, false, false] rfl rfl (by kernel_rfl) (fun _ _ _ h => h) (Or.inl ⟨by rfl, ?_⟩) ?_ ?_
            rotate_left
            · intro w'
              go_simp
              with_reducible rfl
            rotate_left
            · simp only [Act.put, List.setIfInBounds_toArray, List.set_cons_zero, List.set_cons_succ, i64_w, i32_w]
              rfl
            refine pure_ (i := 19) (N := some 123) (v := ?_) (a' := ?_) #[true, true, true, true, true, true, true, true, true, true, true, true, true, true, true, true, true, true, true, true, false, false] rfl rfl (by kernel_rfl) (fun _ _ _ h => h) (Or.inl ⟨by rfl, ?_⟩) ?_ ?_
            rotate_left
            · intro w'
              go_simp
              with_reducible rfl
            rotate_left
            · simp only [Act.put, List.setIfInBounds_toArray, List.set_cons_zero, List.set_cons_succ, i64_w, i32_w]
              rfl
            refine pure_ (i := 20) (N := some 124) (v := ?_) (a' := ?_) #[true, true, true, true, true, true, true, true, true, true, true, true, true, true, true, true, true, true, true, true, true, false] rfl rfl (by kernel_rfl) (fun _ _ _ h => h) (Or.inl ⟨by rfl, ?_⟩) ?_ ?_
            rotate_left
            · intro w'
              go_simp
              with_reducible rfl
            rotate_left
            · simp only [Act.put, List.setIfInBounds_toArray, List.set_cons_zero, List.set_cons_succ, i64_w, i32_w]
              rfl
            refine pure_ (i := 21) (N := some 2) (v := ?_) (a' := ?_) #[true, true, true, true, true, true, true, true, true, true, true, true, true, true, true, true, true, true, true, true, true, true] rfl rfl (by kernel_rfl) (fun _ _ _ h => h) (Or.inl ⟨by rfl, ?_⟩) ?_ ?_
            rotate_left
            · intro w'
              go_simp
              with_reducible rfl
            rotate_left
            · simp only [Act.put, List.setIfInBounds_toArray, List.set_cons_zero, List.set_cons_succ, i64_w, i32_w]
              rfl
            refine done_ (by kernel_rfl) ?_
            go_wp2_with fail
            go_ret
            exact ⟨rfl, HB.out⟩
          · skip
            have k0 : wb.cell? ⟨w.heap.size, 0, none⟩ = some (.int .i64 a0_0) := (blk_cell HPb.out 0).trans rfl
            have k1 : wb.cell? ⟨w.heap.size, 1, none⟩ = some (.int .i64 a0_1) := (blk_cell HPb.out 1).trans rfl
            have k2 : wb.cell? ⟨w.heap.size, 2, none⟩ = some (.bool a0_2) := (blk_cell HPb.out 2).trans rfl
            have k3 : wb.cell? ⟨w.heap.size, 3, none⟩ = some (.int .i64 2) := (blk_cell HPb.out 3).trans rfl
            have k4 : wb.cell? ⟨w.heap.size, 4, none⟩ = some (.int .i64 0) := (blk_cell HPb.out 4).trans rfl
            have k5 : wb.cell? ⟨w.heap.size, 5, none⟩ = some (.int .i64 0) := (blk_cell HPb.out 5).trans rfl
            have k6 : wb.cell? ⟨w.heap.size, 6, none⟩ = some (.int .i64 0) := (blk_cell HPb.out 6).trans rfl
            have k7 : wb.cell? ⟨w.heap.size, 7, none⟩ = some (.bool a0_7) := (blk_cell HPb.out 7).trans rfl
            have k8 : wb.cell? ⟨w.heap.size, 8, none⟩ = some (.slice A0_8 l0_8.length c0_8) := (blk_cell HPb.out 8).trans rfl
            have hpw : w.heap.size < wb.heap.size := blk_lt HPb.out
            have hpw1 : w.heap.size < wb.heap.size + 1 := by omega
            have hpw2 : w.heap.size < wb.heap.size + 1 + 1 := by omega
            have hpw3 : w.heap.size ≠ wb.heap.size + 1 + 1 := by omega
            go_wp2_with fail
            generalize hW : (((wb.alloc _).alloc _).alloc _) = W
            have BP := Aside0.mk (show W.heap[w.heap.size]? = some (.cells #[.int .i64 a0_0, .int .i64 a0_1, .bool a0_2, .int .i64 2, .int .i64 0, .int .i64 0, .int .i64 0, .bool a0_7, .slice A0_8 l0_8.length c0_8] 25 (0, 0)) by rw [← hW]; exact blk_alloc (blk_alloc (blk_alloc HPb.out _) _) _)
            have BQ := Aside0.mk (show W.heap[wb.heap.size]? = some (.cells #[.int .i64 a0_0, .int .i64 a0_1, .bool (!a0_2), .int .i64 2, .int .i64 0, .int .i64 0, .int .i64 0, .bool a0_7, .slice A0_8 l0_8.length c0_8] 25 (0, 0)) by rw [← hW]; exact blk_alloc (blk_alloc (blk_new wb _) _) _)
            have BU := Aside0.mk (show W.heap[wb.heap.size + 1]? = some (.cells #[.int .i64 a0_0, .int .i64 a0_1, .bool a0_2, .int .i64 2, .int .i64 0, .int .i64 0, .int .i64 0, .bool (!a0_7), .slice A0_8 l0_8.length c0_8] 25 (0, 0)) by rw [← hW]; exact blk_alloc (KindP.blk_new2 wb _ _) _)
            have BV := Aside0.mk (show W.heap[wb.heap.size + 1 + 1]? = some (.cells #[.int .i64 a0_0, .int .i64 a0_1, .bool a0_2, .int .i64 2, .int .i64 0, .int .i64 1, .int .i64 0, .bool a0_7, .slice A0_8 l0_8.length c0_8] 25 (0, 0)) by rw [← hW]; exact KindP.blk_new3 wb _ _ _)
            have HB := Aside0.mk (show Below w.heap.size w W by rw [← hW]; exact below_alloc (below_alloc (below_alloc HBb.out _) _) _)
            clear hW k0 k1 k2 k3 k4 k5 k6 k7 k8
            refine start_ (n := 22) (S := fun w' => w'.cell? ⟨w.heap.size, 3, none⟩ = some (.int .i64 2) ∧ w'.cell? ⟨w.heap.size, 5, none⟩ = some (.int .i64 0) ∧ w'.cell? ⟨wb.heap.size, 0, none⟩ = some (.int .i64 a0_0) ∧ w'.cell? ⟨wb.heap.size, 1, none⟩ = some (.int .i64 a0_1) ∧ w'.cell? ⟨wb.heap.size, 2, none⟩ = some (.bool (!a0_2)) ∧ w'.cell? ⟨wb.heap.size, 3, none⟩ = some (.int .i64 2) ∧ w'.cell? ⟨wb.heap.size, 4, none⟩ = some (.int .i64 0) ∧ w'.cell? ⟨wb.heap.size, 5, none⟩ = some (.int .i64 0) ∧ w'.cell? ⟨wb.heap.size, 6, none⟩ = some (.int .i64 0) ∧ w'.cell? ⟨wb.heap.size, 7, none⟩ = some (.bool a0_7) ∧ w'.cell? ⟨wb.heap.size, 8, none⟩ = some (.slice A0_8 l0_8.length c0_8) ∧ w'.cell? ⟨wb.heap.size + 1, 0, none⟩ = some (.int .i64 a0_0) ∧ w'.cell? ⟨wb.heap.size + 1, 1, none⟩ = some (.int .i64 a0_1) ∧ w'.cell? ⟨wb.heap.size + 1, 2, none⟩ = some (.bool a0_2) ∧ w'.cell? ⟨wb.heap.size + 1, 3, none⟩ = some (.int .i64 2) ∧ w'.cell? ⟨wb.heap.size + 1, 4, none⟩ = some (.int .i64 0) ∧ w'.cell? ⟨wb.heap.size + 1, 5, none⟩ = some (.int .i64 0) ∧ w'.cell? ⟨wb.heap.size + 1, 6, none⟩ = some (.int .i64 0) ∧ w'.cell? ⟨wb.heap.size + 1, 7, none⟩ = some (.bool (!a0_7)) ∧ w'.cell? ⟨wb.heap.size + 1, 8, none⟩ = some (.slice A0_8 l0_8.length c0_8) ∧ w'.cell? ⟨wb.heap.size + 1 + 1, 0, none⟩ = some (.int .i64 a0_0) ∧ w'.cell? ⟨wb.heap.size + 1 + 1, 1, none⟩ = some (.int .i64 a0_1) ∧ w'.cell? ⟨wb.heap.size + 1 + 1, 2, none⟩ = some (.bool a0_2) ∧ w'.cell? ⟨wb.heap.size + 1 + 1, 3, none⟩ = some (.int .i64 2) ∧ w'.cell? ⟨wb.heap.size + 1 + 1, 4, none⟩ = some (.int .i64 0) ∧ w'.cell? ⟨wb.heap.size + 1 + 1, 5, none⟩ = some (.int .i64 1) ∧ w'.cell? ⟨wb.heap.size + 1 + 1, 6, none⟩ = some (.int .i64 0) ∧ w'.cell? ⟨wb.heap.size + 1 + 1, 7, none⟩ = some (.bool a0_7) ∧ w'.cell? ⟨wb.heap.size + 1 + 1, 8, none⟩ = some (.slice A0_8 l0_8.length c0_8)) (ds := []) #[false, false, false, false, false, false, false, false, false, false, false, false, false, false, false, false, false, false, false, false, false, false] (by kernel_rfl) rfl rfl ⟨(blk_cell BP.out 3).trans rfl, (blk_cell BP.out 5).trans rfl, (blk_cell BQ.out 0).trans rfl, (blk_cell BQ.out 1).trans rfl, (blk_cell BQ.out 2).trans rfl, (blk_cell BQ.out 3).trans rfl, (blk_cell BQ.out 4).trans rfl, (blk_cell BQ.out 5).trans rfl, (blk_cell BQ.out 6).trans rfl, (blk_cell BQ.out 7).trans rfl, (blk_cell BQ.out 8).trans rfl, (blk_cell BU.out 0).trans rfl, (blk_cell BU.out 1).trans rfl, (blk_cell BU.out 2).trans rfl, (blk_cell BU.out 3).trans rfl, (blk_cell BU.out 4).trans rfl, (blk_cell BU.out 5).trans rfl, (blk_cell BU.out 6).trans rfl, (blk_cell BU.out 7).trans rfl, (blk_cell BU.out 8).trans rfl, (blk_cell BV.out 0).trans rfl, (blk_cell BV.out 1).trans rfl, (blk_cell BV.out 2).trans rfl, (blk_cell BV.out 3).trans rfl, (blk_cell BV.out 4).trans rfl, (blk_cell BV.out 5).trans rfl, (blk_cell BV.out 6).trans rfl, (blk_cell BV.out 7).trans rfl, (blk_cell BV.out 8).trans rfl⟩ (fun hHeld => ?_)
            refine pure_ (i := 2) (N := some 106) (v := ?_) (a' := ?_) #[false, false, true, false, false, false, false, false, false, false, false, false, false, false, false, false, false, false, false, false, false, false] rfl rfl (by kernel_rfl) (fun _ _ _ h => h) (Or.inl ⟨by rfl, ?_⟩) ?_ ?_
            rotate_left
            · intro w'
              go_simp
              with_reducible rfl
            rotate_left
            · simp only [Act.put, List.setIfInBounds_toArray, List.set_cons_zero, List.set_cons_succ, i64_w, i32_w]
              rfl
            refine take_ (i := 0) (N := some 104) (v := ?_) (a' := ?_) #[true, false, true, false, false, false, false, false, false, false, false, false, false, false, false, false, false, false, false, false, false, false] rfl rfl (by kernel_rfl) (fun _ _ _ h => h) (Or.inl ⟨by rfl, ?_⟩) hHeld ?_ ?_
            rotate_left
            · rintro w' ⟨s0, s1, s2, s3, s4, s5, s6, s7, s8, s9, s10, s11, s12, s13, s14, s15, s16, s17, s18, s19, s20, s21, s22, s23, s24, s25, s26, s27, s28⟩
              go_simp
              with_reducible rfl
            rotate_left
            · simp only [Act.put, List.setIfInBounds_toArray, List.set_cons_zero, List.set_cons_succ, i64_w, i32_w]
              rfl
            refine one_ (i := 1) (N := some 105) #[true, true, true, false, false, false, false, false, false, false, false, false, false, false, false, false, false, false, false, false, false, false] rfl rfl (by kernel_rfl) (by decide) (fun K hK => ?_)
            refine goes_ Try.func34 (by kernel_rfl) rfl #[.agg #[.int .i64 a0_0, .int .i64 a0_1, .bool (!a0_2), .int .i64 2, .int .i64 0, .int .i64 0, .int .i64 0, .bool a0_7, .slice A0_8 l0_8.length c0_8]] (by rfl) rfl rfl (by simp only [List.map_toArray, List.map_cons, List.map_nil]; rfl) ?_
            with_reducible refine (pdu_May.calls 4 (a0_0) (a0_1) ((!a0_2)) (2) (0) (0) (0) (a0_7) A0_8 c0_8 l0_8 false _ (Kd.C_below HR.out (by (repeat (with_reducible first | exact HB.out | apply pw_below_drewN | apply below_drew1)))) HC.out ((Lib.may_pdu 0 _ _ _ _ _ _ _ _ _).trans (congrArg some HBO.out))).mono ?_
            rintro e w3 ⟨rfl, hb⟩
            refine ⟨_, rfl, ?_⟩
            have nBP := Aside0.mk (blk_below (g := w.heap.size) (o := (.cells #[.int .i64 a0_0, .int .i64 a0_1, .bool a0_2, .int .i64 2, .int .i64 0, .int .i64 0, .int .i64 0, .bool a0_7, .slice A0_8 l0_8.length c0_8] 25 (0, 0))) (by (with_reducible repeat (first | refine blk_drewN ?_ _ | refine blk_drew ?_)); exact BP.out) hb)
            have nBQ := Aside0.mk (blk_below (g := wb.heap.size) (o := (.cells #[.int .i64 a0_0, .int .i64 a0_1, .bool (!a0_2), .int .i64 2, .int .i64 0, .int .i64 0, .int .i64 0, .bool a0_7, .slice A0_8 l0_8.length c0_8] 25 (0, 0))) (by (with_reducible repeat (first | refine blk_drewN ?_ _ | refine blk_drew ?_)); exact BQ.out) hb)
            have nBU := Aside0.mk (blk_below (g := wb.heap.size + 1) (o := (.cells #[.int .i64 a0_0, .int .i64 a0_1, .bool a0_2, .int .i64 2, .int .i64 0, .int .i64 0, .int .i64 0, .bool (!a0_7), .slice A0_8 l0_8.length c0_8] 25 (0, 0))) (by (with_reducible repeat (first | refine blk_drewN ?_ _ | refine blk_drew ?_)); exact BU.out) hb)
            have nBV := Aside0.mk (blk_below (g := wb.heap.size + 1 + 1) (o := (.cells #[.int .i64 a0_0, .int .i64 a0_1, .bool a0_2, .int .i64 2, .int .i64 0, .int .i64 1, .int .i64 0, .bool a0_7, .slice A0_8 l0_8.length c0_8] 25 (0, 0))) (by (with_reducible repeat (first | refine blk_drewN ?_ _ | refine blk_drew ?_)); exact BV.out) hb)
            have nHB := Aside0.mk (below_step (by (repeat (with_reducible first | exact HB.out | apply pw_below_drewN | apply below_drew1))) hb)
            clear BP BQ BU BV HB hb
            have BP := nBP
            have BQ := nBQ
            have BU := nBU
            have BV := nBV
            have HB := nHB
            clear nBP nBQ nBU nBV nHB
            refine hK.out _ _ ⟨(blk_cell BP.out 3).trans rfl, (blk_cell BP.out 5).trans rfl, (blk_cell BQ.out 0).trans rfl, (blk_cell BQ.out 1).trans rfl, (blk_cell BQ.out 2).trans rfl, (blk_cell BQ.out 3).trans rfl, (blk_cell BQ.out 4).trans rfl, (blk_cell BQ.out 5).trans rfl, (blk_cell BQ.out 6).trans rfl, (blk_cell BQ.out 7).trans rfl, (blk_cell BQ.out 8).trans rfl, (blk_cell BU.out 0).trans rfl, (blk_cell BU.out 1).trans rfl, (blk_cell BU.out 2).trans rfl, (blk_cell BU.out 3).trans rfl, (blk_cell BU.out 4).trans rfl, (blk_cell BU.out 5).trans rfl, (blk_cell BU.out 6).trans rfl, (blk_cell BU.out 7).trans rfl, (blk_cell BU.out 8).trans rfl, (blk_cell BV.out 0).trans rfl, (blk_cell BV.out 1).trans rfl, (blk_cell BV.out 2).trans rfl, (blk_cell BV.out 3).trans rfl, (blk_cell BV.out 4).trans rfl, (blk_cell BV.out 5).trans rfl, (blk_cell BV.out 6).trans rfl, (blk_cell BV.out 7).trans rfl, (blk_cell BV.out 8).trans rfl⟩ (fun hHeld => ?_)
            clear hK K
            refine norm_ (a' := ?_) ?_ ?_
            rotate_left
            · show Act.put _ (some 105) _ = _
              simp only [Act.put, List.setIfInBounds_toArray, List.set_cons_zero, List.set_cons_succ, i64_w, i32_w]
              rfl
            refine pure_ (i := 3) (N := some 107) (v := ?_) (a' := ?_) #[true, true, true, true, false, false, false, false, false, false, false, false, false, false, false, false, false, false, false, false, false, false] rfl rfl (by kernel_rfl) (fun _ _ _ h => h) (Or.inl ⟨by rfl, ?_⟩) ?_ ?_
            rotate_left
            · intro w'
              go_simp
              with_reducible rfl
            rotate_left
            · simp only [Act.put, List.setIfInBounds_toArray, List.set_cons_zero, List.set_cons_succ, i64_w, i32_w]
              rfl
            refine pure_ (i := 4) (N := some 108) (v := ?_) (a' := ?_) #[true, true, true, true, true, false, false, false, false, false, false, false, false, false, false, false, false, false, false, false, false, false] rfl rfl (by kernel_rfl) (fun _ _ _ h => h) (Or.inl ⟨by rfl, ?_⟩) ?_ ?_
            rotate_left
            · intro w'
              go_simp
              with_reducible rfl
            rotate_left
            · simp only [Act.put, List.setIfInBounds_toArray, List.set_cons_zero, List.set_cons_succ, i64_w, i32_w]
              rfl
            refine take_ (i := 5) (N := some 109) (v := ?_) (a' := ?_) #[true, true, true, true, true, true, false, false, false, false, false, false, false, false, false, false, false, false, false, false, false, false] rfl rfl (by kernel_rfl) (fun _ _ _ h => h) (Or.inl ⟨by rfl, ?_⟩) hHeld ?_ ?_
            rotate_left
            · rintro w' ⟨s0, s1, s2, s3, s4, s5, s6, s7, s8, s9, s10, s11, s12, s13, s14, s15, s16, s17, s18, s19, s20, s21, s22, s23, s24, s25, s26, s27, s28⟩
              go_simp
              with_reducible rfl
            rotate_left
            · simp only [Act.put, List.setIfInBounds_toArray, List.set_cons_zero, List.set_cons_succ, i64_w, i32_w]
              rfl
            refine one_ (i := 6) (N := some 110) #[true, true, true, true, true, true, true, false, false, false, false, false, false, false, false, false, false, false, false, false, false, false] rfl rfl (by kernel_rfl) (by decide) (fun K hK => ?_)
            refine goes_ Try.func34 (by kernel_rfl) rfl #[.agg #[.int .i64 a0_0, .int .i64 a0_1, .bool a0_2, .int .i64 2, .int .i64 0, .int .i64 0, .int .i64 0, .bool (!a0_7), .slice A0_8 l0_8.length c0_8]] (by rfl) rfl rfl (by simp only [List.map_toArray, List.map_cons, List.map_nil]; rfl) ?_
            with_reducible refine (pdu_May.calls 4 (a0_0) (a0_1) (a0_2) (2) (0) (0) (0) ((!a0_7)) A0_8 c0_8 l0_8 true _ (Kd.C_below HR.out (by (repeat (with_reducible first | exact HB.out | apply pw_below_drewN | apply below_drew1)))) HC.out (KindP.pk_poll (!a0_7) l0_8 HM.out rfl)).mono ?_
            rintro e w3 ⟨rfl, hb⟩
            refine ⟨_, rfl, ?_⟩
            have nBP := Aside0.mk (blk_below (g := w.heap.size) (o := (.cells #[.int .i64 a0_0, .int .i64 a0_1, .bool a0_2, .int .i64 2, .int .i64 0, .int .i64 0, .int .i64 0, .bool a0_7, .slice A0_8 l0_8.length c0_8] 25 (0, 0))) (by (with_reducible repeat (first | refine blk_drewN ?_ _ | refine blk_drew ?_)); exact BP.out) hb)
            have nBQ := Aside0.mk (blk_below (g := wb.heap.size) (o := (.cells #[.int .i64 a0_0, .int .i64 a0_1, .bool (!a0_2), .int .i64 2, .int .i64 0, .int .i64 0, .int .i64 0, .bool a0_7, .slice A0_8 l0_8.length c0_8] 25 (0, 0))) (by (with_reducible repeat (first | refine blk_drewN ?_ _ | refine blk_drew ?_)); exact BQ.out) hb)
            have nBU := Aside0.mk (blk_below (g := wb.heap.size + 1) (o := (.cells #[.int .i64 a0_0, .int .i64 a0_1, .bool a0_2, .int .i64 2, .int .i64 0, .int .i64 0, .int .i64 0, .bool (!a0_7), .slice A0_8 l0_8.length c0_8] 25 (0, 0))) (by (with_reducible repeat (first | refine blk_drewN ?_ _ | refine blk_drew ?_)); exact BU.out) hb)
            have nBV := Aside0.mk (blk_below (g := wb.heap.size + 1 + 1) (o := (.cells #[.int .i64 a0_0, .int .i64 a0_1, .bool a0_2, .int .i64 2, .int .i64 0, .int .i64 1, .int .i64 0, .bool a0_7, .slice A0_8 l0_8.length c0_8] 25 (0, 0))) (by (with_reducible repeat (first | refine blk_drewN ?_ _ | refine blk_drew ?_)); exact BV.out) hb)
            have nHB := Aside0.mk (below_step (by (repeat (with_reducible first | exact HB.out | apply pw_below_drewN | apply below_drew1))) hb)
            clear BP BQ BU BV HB hb
            have BP := nBP
            have BQ := nBQ
            have BU := nBU
            have BV := nBV
            have HB := nHB
            clear nBP nBQ nBU nBV nHB
            refine hK.out _ _ ⟨(blk_cell BP.out 3).trans rfl, (blk_cell BP.out 5).trans rfl, (blk_cell BQ.out 0).trans rfl, (blk_cell BQ.out 1).trans rfl, (blk_cell BQ.out 2).trans rfl, (blk_cell BQ.out 3).trans rfl, (blk_cell BQ.out 4).trans rfl, (blk_cell BQ.out 5).trans rfl, (blk_cell BQ.out 6).trans rfl, (blk_cell BQ.out 7).trans rfl, (blk_cell BQ.out 8).trans rfl, (blk_cell BU.out 0).trans rfl, (blk_cell BU.out 1).trans rfl, (blk_cell BU.out 2).trans rfl, (blk_cell BU.out 3).trans rfl, (blk_cell BU.out 4).trans rfl, (blk_cell BU.out 5).trans rfl, (blk_cell BU.out 6).trans rfl, (blk_cell BU.out 7).trans rfl, (blk_cell BU.out 8).trans rfl, (blk_cell BV.out 0).trans rfl, (blk_cell BV.out 1).trans rfl, (blk_cell BV.out 2).trans rfl, (blk_cell BV.out 3).trans rfl, (blk_cell BV.out 4).trans rfl, (blk_cell BV.out 5).trans rfl, (blk_cell BV.out 6).trans rfl, (blk_cell BV.out 7).trans rfl, (blk_cell BV.out 8).trans rfl⟩ (fun hHeld => ?_)
            clear hK K
            refine norm_ (a' := ?_) ?_ ?_
            rotate_left
            · show Act.put _ (some 110) _ = _
              simp only [Act.put, List.setIfInBounds_toArray, List.set_cons_zero, List.set_cons_succ, i64_w, i32_w]
              rfl
            refine pure_ (i := 7) (N := some 111) (v := ?_) (a' := ?_) #[true, true, true, true, true, true, true, true, false, false, false, false, false, false, false, false, false, false, false, false, false, false] rfl rfl (by kernel_rfl) (fun _ _ _ h => h) (Or.inl ⟨by rfl, ?_⟩) ?_ ?_
            rotate_left
            · intro w'
              go_simp
              with_reducible rfl
            rotate_left
            · simp only [Act.put, List.setIfInBounds_toArray, List.set_cons_zero, List.set_cons_succ, i64_w, i32_w]
              rfl
            refine pure_ (i := 8) (N := some 112) (v := ?_) (a' := ?_) #[true, true, true, true, true, true, true, true, true, false, false, false, false, false, false, false, false, false, false, false, false, false] rfl rfl (by kernel_rfl) (fun _ _ _ h => h) (Or.inl ⟨by rfl, ?_⟩) ?_ ?_
            rotate_left
            · intro w'
              go_simp
              with_reducible rfl
            rotate_left
            · simp only [Act.put, List.setIfInBounds_toArray, List.set_cons_zero, List.set_cons_succ, i64_w, i32_w]
              rfl
            refine pure_ (i := 11) (N := some 115) (v := ?_) (a' := ?_) #[true, true, true, true, true, true, true, true, true, false, false, true, false, false, false, false, false, false, false, false, false, false] rfl rfl (by kernel_rfl) (fun _ _ _ h => h) (Or.inl ⟨by rfl, ?_⟩) ?_ ?_
            rotate_left
            · intro w'
              go_simp
              with_reducible rfl
            rotate_left
            · simp only [Act.put, List.setIfInBounds_toArray, List.set_cons_zero, List.set_cons_succ, i64_w, i32_w]
              rfl
            refine take_ (i := 9) (N := some 113) (v := ?_) (a' := ?_) #[true, true, true, true, true, true, true, true, true, true, false, true, false, false, false, false, false, false, false, false, false, false] rfl rfl (by kernel_rfl) (fun _ _ _ h => h) (Or.inl ⟨by rfl, ?_⟩) hHeld ?_ ?_
            rotate_left
            · rintro w' ⟨s0, s1, s2, s3, s4, s5, s6, s7, s8, s9, s10, s11, s12, s13, s14, s15, s16, s17, s18, s19, s20, s21, s22, s23, s24, s25, s26, s27, s28⟩
              go_simp
              with_reducible rfl
            rotate_left
            · simp only [Act.put, List.setIfInBounds_toArray, List.set_cons_zero, List.set_cons_succ, i64_w, i32_w]
              rfl
            refine take_ (i := 12) (N := some 116) (v := ?_) (a' := ?_) #[true, true, true, true, true, true, true, true, true, true, false, true, true, false, false, false, false, false, false, false, false, false] rfl rfl (by kernel_rfl) (fun _ _ _ h => h) (Or.inl ⟨by rfl, ?_⟩) hHeld ?_ ?_
            rotate_left
            · rintro w' ⟨s0, s1, s2, s3, s4, s5, s6, s7, s8, s9, s10, s11, s12, s13, s14, s15, s16, s17, s18, s19, s20, s21, s22, s23, s24, s25, s26, s27, s28⟩
              go_simp
              with_reducible rfl
            rotate_left
            · simp only [Act.put, List.setIfInBounds_toArray, List.set_cons_zero, List.set_cons_succ, i64_w, i32_w]
              rfl
            refine pure_ (i := 13) (N := some 117) (v := ?_) (a' := ?_) #[true, true, true, true, true, true, true, true, true, true, false, true, true, true, false, false, false, false, false, false, false, false] rfl rfl (by kernel_rfl) (fun _ _ _ h => h) (Or.inl ⟨by rfl, ?_⟩) ?_ ?_
            rotate_left
            · intro w'
              go_simp
              with_reducible rfl
            rotate_left
            · simp only [Act.put, List.setIfInBounds_toArray, List.set_cons_zero, List.set_cons_succ, i64_w, i32_w]
              rfl
            refine one_ (i := 10) (N := some 114) #[true, true, true, true, true, true, true, true, true, true, true, true, true, true, false, false, false, false, false, false, false, false] rfl rfl (by kernel_rfl) (by decide) (fun K hK => ?_)
            refine goes_ Try.func34 (by kernel_rfl) rfl #[.agg #[.int .i64 a0_0, .int .i64 a0_1, .bool a0_2, .int .i64 2, .int .i64 0, .int .i64 1, .int .i64 0, .bool a0_7, .slice A0_8 l0_8.length c0_8]] (by rfl) rfl rfl (by simp only [List.map_toArray, List.map_cons, List.map_nil]; rfl) ?_
            with_reducible refine (pdu_May.calls 4 (a0_0) (a0_1) (a0_2) (2) (0) (1) (0) (a0_7) A0_8 c0_8 l0_8 false _ (Kd.C_below HR.out (by (repeat (with_reducible first | exact HB.out | apply pw_below_drewN | apply below_drew1)))) HC.out ((Lib.may_pdu 0 _ _ _ _ _ _ _ _ _).trans (congrArg some HLT.out))).mono ?_
            rintro e w3 ⟨rfl, hb⟩
            refine ⟨_, rfl, ?_⟩
            have nBP := Aside0.mk (blk_below (g := w.heap.size) (o := (.cells #[.int .i64 a0_0, .int .i64 a0_1, .bool a0_2, .int .i64 2, .int .i64 0, .int .i64 0, .int .i64 0, .bool a0_7, .slice A0_8 l0_8.length c0_8] 25 (0, 0))) (by (with_reducible repeat (first | refine blk_drewN ?_ _ | refine blk_drew ?_)); exact BP.out) hb)
            have nBQ := Aside0.mk (blk_below (g := wb.heap.size) (o := (.cells #[.int .i64 a0_0, .int .i64 a0_1, .bool (!a0_2), .int .i64 2, .int .i64 0, .int .i64 0, .int .i64 0, .bool a0_7, .slice A0_8 l0_8.length c0_8] 25 (0, 0))) (by (with_reducible repeat (first | refine blk_drewN ?_ _ | refine blk_drew ?_)); exact BQ.out) hb)
            have nBU := Aside0.mk (blk_below (g := wb.heap.size + 1) (o := (.cells #[.int .i64 a0_0, .int .i64 a0_1, .bool a0_2, .int .i64 2, .int .i64 0, .int .i64 0, .int .i64 0, .bool (!a0_7), .slice A0_8 l0_8.length c0_8] 25 (0, 0))) (by (with_reducible repeat (first | refine blk_drewN ?_ _ | refine blk_drew ?_)); exact BU.out) hb)
            have nBV := Aside0.mk (blk_below (g := wb.heap.size + 1 + 1) (o := (.cells #[.int .i64 a0_0, .int .i64 a0_1, .bool a0_2, .int .i64 2, .int .i64 0, .int .i64 1, .int .i64 0, .bool a0_7, .slice A0_8 l0_8.length c0_8] 25 (0, 0))) (by (with_reducible repeat (first | refine blk_drewN ?_ _ | refine blk_drew ?_)); exact BV.out) hb)
            have nHB := Aside0.mk (below_step (by (repeat (with_reducible first | exact HB.out | apply pw_below_drewN | apply below_drew1))) hb)
            clear BP BQ BU BV HB hb
            have BP := nBP
            have BQ := nBQ
            have BU := nBU
            have BV := nBV
            have HB := nHB
            clear nBP nBQ nBU nBV nHB
            refine hK.out _ _ ⟨(blk_cell BP.out 3).trans rfl, (blk_cell BP.out 5).trans rfl, (blk_cell BQ.out 0).trans rfl, (blk_cell BQ.out 1).trans rfl, (blk_cell BQ.out 2).trans rfl, (blk_cell BQ.out 3).trans rfl, (blk_cell BQ.out 4).trans rfl, (blk_cell BQ.out 5).trans rfl, (blk_cell BQ.out 6).trans rfl, (blk_cell BQ.out 7).trans rfl, (blk_cell BQ.out 8).trans rfl, (blk_cell BU.out 0).trans rfl, (blk_cell BU.out 1).trans rfl, (blk_cell BU.out 2).trans rfl, (blk_cell BU.out 3).trans rfl, (blk_cell BU.out 4).trans rfl, (blk_cell BU.out 5).trans rfl, (blk_cell BU.out 6).trans rfl, (blk_cell BU.out 7).trans rfl, (blk_cell BU.out 8).trans rfl, (blk_cell BV.out 0).trans rfl, (blk_cell BV.out 1).trans rfl, (blk_cell BV.out 2).trans rfl, (blk_cell BV.out 3).trans rfl, (blk_cell BV.out 4).trans rfl, (blk_cell BV.out 5).trans rfl, (blk_cell BV.out 6).trans rfl, (blk_cell BV.out 7).trans rfl, (blk_cell BV.out 8).trans rfl⟩ (fun hHeld => ?_)
            clear hK K
            refine norm_ (a' := ?_) ?_ ?_
            rotate_left
            · show Act.put _ (some 114) _ = _
              simp only [Act.put, List.setIfInBounds_toArray, List.set_cons_zero, List.set_cons_succ, i64_w, i32_w]
              rfl
            refine pure_ (i := 14) (N := some 118) (v := ?_) (a' := ?_) #[true, true, true, true, true, true, true, true, true, true, true, true, true, true, true, false, false, false, false, false, false, false] rfl rfl (by kernel_rfl) (fun _ _ _ h => h) (Or.inl ⟨by rfl, ?_⟩) ?_ ?_
            rotate_left
            · intro w'
              go_simp
              with_reducible rfl
            rotate_left
            · simp only [Act.put, List.setIfInBounds_toArray, List.set_cons_zero, List.set_cons_succ, i64_w, i32_w]
              rfl
            refine pure_ (i := 15) (N := some 119) (v := undef) (a' := ?_) #[true, true, true, true, true, true, true, true, true, true, true, true, true, true, true, true, false, false, false, false, false, false] rfl rfl (by kernel_rfl) (fun _ _ _ h => h) (Or.inr ⟨by rfl, rfl⟩) ?_ ?_
            rotate_left
            · simp only [Act.put, List.setIfInBounds_toArray, List.set_cons_zero, List.set_cons_succ, i64_w, i32_w]
              rfl
            refine pure_ (i := 16) (N := some 120) (v := undef) (a' := ?_) #[true, true, true, true, true, true, true, true, true, true, true, true, true, true, true, true, true, false, false, false, false, false] rfl rfl (by kernel_rfl) (fun _ _ _ h => h) (Or.inr ⟨by rfl, rfl⟩) ?_ ?_
            rotate_left
            · simp only [Act.put, List.setIfInBounds_toArray, List.set_cons_zero, List.set_cons_succ, i64_w, i32_w]
              rfl
            refine pure_ (i := 17) (N := some 121) (v := undef) (a' := ?_) #[true, true, true, true, true, true, true, true, true, true, true, true, true, true, true, true, true, true, false, false, false, false] rfl rfl (by kernel_rfl) (fun _ _ _ h => h) (Or.inr ⟨by rfl, rfl⟩) ?_ ?_
            rotate_left
            · simp only [Act.put, List.setIfInBounds_toArray, List.set_cons_zero, List.set_cons_succ, i64_w, i32_w]
              rfl
            refine pure_ (i := 18) (N := some 122) (v := ?_) (a' := ?_) #[true, true, true, true, true, true, true, true, true, true, true, true, true, true, true, true, true, true, true, false, false, false] rfl rfl (by kernel_rfl) (fun _ _ _ h => h) (Or.inl ⟨by rfl, ?_⟩) ?_ ?_
            rotate_left
            · intro w'
              go_simp
              with_reducible rfl
            rotate_left
            · simp only [Act.put, List.setIfInBounds_toArray, List.set_cons_zero, List.set_cons_succ, i64_w, i32_w]
              rfl
            refine pure_ (i := 19) (N := some 123) (v := ?_) (a' := ?_) #[true, true, true, true, true, true, true, true, true, true, true, true, true, true, true, true, true, true, true, true, false, false] rfl rfl (by kernel_rfl) (fun _ _ _ h => h) (Or.inl ⟨by rfl, ?_⟩) ?_ ?_
            rotate_left
            · intro w'
              go_simp
              with_reducible rfl
            rotate_left
            · simp only [Act.put, List.setIfInBounds_toArray, List.set_cons_zero, List.set_cons_succ, i64_w, i32_w]
              rfl
            refine pure_ (i := 20) (N := some 124) (v := ?_) (a' := ?_) #[true, true, true, true, true, true, true, true, true, true, true, true, true, true, true, true, true, true, true, true, true, false] rfl rfl (by kernel_rfl) (fun _ _ _ h => h) (Or.inl ⟨by rfl, ?_⟩) ?_ ?_
            rotate_left
            · intro w'
              go_simp
              with_reducible rfl
            rotate_left
            · simp only [Act.put, List.setIfInBounds_toArray, List.set_cons_zero, List.set_cons_succ, i64_w, i32_w]
              rfl
            refine pure_ (i := 21) (N := some 2) (v := ?_) (a' := ?_) #[true, true, true, true, true, true, true, true, true, true, true, true, true, true, true, true, true, true, true, true, true, true] rfl rfl (by kernel_rfl) (fun _ _ _ h => h) (Or.inl ⟨by rfl, ?_⟩) ?_ ?_
            rotate_left
            · intro w'
              go_simp
              with_reducible rfl
            rotate_left
            · simp only [Act.put, List.setIfInBounds_toArray, List.set_cons_zero, List.set_cons_succ, i64_w, i32_w]
              rfl
            refine done_ (by kernel_rfl) ?_
            go_wp2_with fail
            go_ret
            exact ⟨rfl, HB.out⟩
        · have HBO := Aside0.mk ((KindP.pk_q HM.out).trans (by decide : _ = true))
          have HLT := Aside0.mk (show Lib.mayB a0_0 a0_1 a0_2 2 1 1 0 l0_8.length = false from (KindP.pk_w HM.out).trans (by decide))
          rcases (show a0_0 % 2 = 0 ∨ a0_0 % 2 = 1 by omega) with ht | ht
          · skip
            have k0 : wb.cell? ⟨w.heap.size, 0, none⟩ = some (.int .i64 a0_0) := (blk_cell HPb.out 0).trans rfl
            have k1 : wb.cell? ⟨w.heap.size, 1, none⟩ = some (.int .i64 a0_1) := (blk_cell HPb.out 1).trans rfl
            have k2 : wb.cell? ⟨w.heap.size, 2, none⟩ = some (.bool a0_2) := (blk_cell HPb.out 2).trans rfl
            have k3 : wb.cell? ⟨w.heap.size, 3, none⟩ = some (.int .i64 2) := (blk_cell HPb.out 3).trans rfl
            have k4 : wb.cell? ⟨w.heap.size, 4, none⟩ = some (.int .i64 1) := (blk_cell HPb.out 4).trans rfl
            have k5 : wb.cell? ⟨w.heap.size, 5, none⟩ = some (.int .i64 0) := (blk_cell HPb.out 5).trans rfl
            have k6 : wb.cell? ⟨w.heap.size, 6, none⟩ = some (.int .i64 0) := (blk_cell HPb.out 6).trans rfl
            have k7 : wb.cell? ⟨w.heap.size, 7, none⟩ = some (.bool a0_7) := (blk_cell HPb.out 7).trans rfl
            have k8 : wb.cell? ⟨w.heap.size, 8, none⟩ = some (.slice A0_8 l0_8.length c0_8) := (blk_cell HPb.out 8).trans rfl
            have hpw : w.heap.size < wb.heap.size := blk_lt HPb.out
            have hpw1 : w.heap.size < wb.heap.size + 1 := by omega
            have hpw2 : w.heap.size < wb.heap.size + 1 + 1 := by omega
            have hpw3 : w.heap.size ≠ wb.heap.size + 1 + 1 := by omega
            go_wp2_with fail
            generalize hW : (((wb.alloc _).alloc _).alloc _) = W
            have BP := Aside0.mk (show W.heap[w.heap.size]? = some (.cells #[.int .i64 a0_0, .int .i64 a0_1, .bool a0_2, .int .i64 2, .int .i64 1, .int .i64 0, .int .i64 0, .bool a0_7, .slice A0_8 l0_8.length c0_8] 25 (0, 0)) by rw [← hW]; exact blk_alloc (blk_alloc (blk_alloc HPb.out _) _) _)
            have BQ := Aside0.mk (show W.heap[wb.heap.size]? = some (.cells #[.int .i64 a0_0, .int .i64 a0_1, .bool (!a0_2), .int .i64 2, .int .i64 1, .int .i64 0, .int .i64 0, .bool a0_7, .slice A0_8 l0_8.length c0_8] 25 (0, 0)) by rw [← hW]; exact blk_alloc (blk_alloc (blk_new wb _) _) _)
            have BU := Aside0.mk (show W.heap[wb.heap.size + 1]? = some (.cells #[.int .i64 a0_0, .int .i64 a0_1, .bool a0_2, .int .i64 2, .int .i64 1, .int .i64 0, .int .i64 0, .bool (!a0_7), .slice A0_8 l0_8.length c0_8] 25 (0, 0)) by rw [← hW]; exact blk_alloc (KindP.blk_new2 wb _ _) _)
            have BV := Aside0.mk (show W.heap[wb.heap.size + 1 + 1]? = some (.cells #[.int .i64 a0_0, .int .i64 a0_1, .bool a0_2, .int .i64 2, .int .i64 1, .int .i64 1, .int .i64 0, .bool a0_7, .slice A0_8 l0_8.length c0_8] 25 (0, 0)) by rw [← hW]; exact KindP.blk_new3 wb _ _ _)
            have HB := Aside0.mk (show Below w.heap.size w W by rw [← hW]; exact below_alloc (below_alloc (below_alloc HBb.out _) _) _)
            clear hW k0 k1 k2 k3 k4 k5 k6 k7 k8
            refine start_ (n := 22) (S := fun w' => w'.cell? ⟨w.heap.size, 3, none⟩ = some (.int .i64 2) ∧ w'.cell? ⟨w.heap.size, 5, none⟩ = some (.int .i64 0) ∧ w'.cell? ⟨wb.heap.size, 0, none⟩ = some (.int .i64 a0_0) ∧ w'.cell? ⟨wb.heap.size, 1, none⟩ = some (.int .i64 a0_1) ∧ w'.cell? ⟨wb.heap.size, 2, none⟩ = some (.bool (!a0_2)) ∧ w'.cell? ⟨wb.heap.size, 3, none⟩ = some (.int .i64 2) ∧ w'.cell? ⟨wb.heap.size, 4, none⟩ = some (.int .i64 1) ∧ w'.cell? ⟨wb.heap.size, 5, none⟩ = some (.int .i64 0) ∧ w'.cell? ⟨wb.heap.size, 6, none⟩ = some (.int .i64 0) ∧ w'.cell? ⟨wb.heap.size, 7, none⟩ = some (.bool a0_7) ∧ w'.cell? ⟨wb.heap.size, 8, none⟩ = some (.slice A0_8 l0_8.length c0_8) ∧ w'.cell? ⟨wb.heap.size + 1, 0, none⟩ = some (.int .i64 a0_0) ∧ w'.cell? ⟨wb.heap.size + 1, 1, none⟩ = some (.int .i64 a0_1) ∧ w'.cell? ⟨wb.heap.size + 1, 2, none⟩ = some (.bool a0_2) ∧ w'.cell? ⟨wb.heap.size + 1, 3, none⟩ = some (.int .i64 2) ∧ w'.cell? ⟨wb.heap.size + 1, 4, none⟩ = some (.int .i64 1) ∧ w'.cell? ⟨wb.heap.size + 1, 5, none⟩ = some (.int .i64 0) ∧ w'.cell? ⟨wb.heap.size + 1, 6, none⟩ = some (.int .i64 0) ∧ w'.cell? ⟨wb.heap.size + 1, 7, none⟩ = some (.bool (!a0_7)) ∧ w'.cell? ⟨wb.heap.size + 1, 8, none⟩ = some (.slice A0_8 l0_8.length c0_8) ∧ w'.cell? ⟨wb.heap.size + 1 + 1, 0, none⟩ = some (.int .i64 a0_0) ∧ w'.cell? ⟨wb.heap.size + 1 + 1, 1, none⟩ = some (.int .i64 a0_1) ∧ w'.cell? ⟨wb.heap.size + 1 + 1, 2, none⟩ = some (.bool a0_2) ∧ w'.cell? ⟨wb.heap.size + 1 + 1, 3, none⟩ = some (.int .i64 2) ∧ w'.cell? ⟨wb.heap.size + 1 + 1, 4, none⟩ = some (.int .i64 1) ∧ w'.cell? ⟨wb.heap.size + 1 + 1, 5, none⟩ = some (.int .i64 1) ∧ w'.cell? ⟨wb.heap.size + 1 + 1, 6, none⟩ = some (.int .i64 0) ∧ w'.cell? ⟨wb.heap.size + 1 + 1, 7, none⟩ = some (.bool a0_7) ∧ w'.cell? ⟨wb.heap.size + 1 + 1, 8, none⟩ = some (.slice A0_8 l0_8.length c0_8)) (ds := []) #[false, false, false, false, false, false, false, false, false, false, false, false, false, false, false, false, false, false, false, false, false, false] (by kernel_rfl) rfl rfl ⟨(blk_cell BP.out 3).trans rfl, (blk_cell BP.out 5).trans rfl, (blk_cell BQ.out 0).trans rfl, (blk_cell BQ.out 1).trans rfl, (blk_cell BQ.out 2).trans rfl, (blk_cell BQ.out 3).trans rfl, (blk_cell BQ.out 4).trans rfl, (blk_cell BQ.out 5).trans rfl, (blk_cell BQ.out 6).trans rfl, (blk_cell BQ.out 7).trans rfl, (blk_cell BQ.out 8).trans rfl, (blk_cell BU.out 0).trans rfl, (blk_cell BU.out 1).trans rfl, (blk_cell BU.out 2).trans rfl, (blk_cell BU.out 3).trans rfl, (blk_cell BU.out 4).trans rfl, (blk_cell BU.out 5).trans rfl, (blk_cell BU.out 6).trans rfl, (blk_cell BU.out 7).trans rfl, (blk_cell BU.out 8).trans rfl, (blk_cell BV.out 0).trans rfl, (blk_cell BV.out 1).trans rfl, (blk_cell BV.out 2).trans rfl, (blk_cell BV.out 3).trans rfl, (blk_cell BV.out 4).trans rfl, (blk_cell BV.out 5).trans rfl, (blk_cell BV.out 6).trans rfl, (blk_cell BV.out 7).trans rfl, (blk_cell BV.out 8).trans rfl⟩ (fun hHeld => ?_)
            refine pure_ (i := 2) (N := some 106) (v := ?_) (a' := ?_) #[false, false, true, false, false, false, false, false, false, false, false, false, false, false, false, false, false, false, false, false, false, false] rfl rfl (by kernel_rfl) (fun _ _ _ h => h) (Or.inl ⟨by rfl, ?_⟩) ?_ ?_
            rotate_left
            · intro w'
              go_simp
              with_reducible rfl
            rotate_left
            · simp only [Act.put, List.setIfInBounds_toArray, List.set_cons_zero, List.set_cons_succ, i64_w, i32_w]
              rfl
            refine take_ (i := 0) (N := some 104) (v := ?_) (a' := ?_) #[true, false, true, false, false, false, false, false, false, false, false, false, false, false, false, false, false, false, false, false, false, false] rfl rfl (by kernel_rfl) (fun _ _ _ h => h) (Or.inl ⟨by rfl, ?_⟩) hHeld ?_ ?_
            rotate_left
            · rintro w' ⟨s0, s1, s2, s3, s4, s5, s6, s7, s8, s9, s10, s11, s12, s13, s14, s15, s16, s17, s18, s19, s20, s21, s22, s23, s24, s25, s26, s27, s28⟩
              go_simp
              with_reducible rfl
            rotate_left
            · simp only [Act.put, List.setIfInBounds_toArray, List.set_cons_zero, List.set_cons_succ, i64_w, i32_w]
              rfl
            refine one_ (i := 1) (N := some 105) #[true, true, true, false, false, false, false, false, false, false, false, false, false, false, false, false, false, false, false, false, false, false] rfl rfl (by kernel_rfl) (by decide) (fun K hK => ?_)
            refine goes_ Try.func34 (by kernel_rfl) rfl #[.agg #[.int .i64 a0_0, .int .i64 a0_1, .bool (!a0_2), .int .i64 2, .int .i64 1, .int .i64 0, .int .i64 0, .bool a0_7, .slice A0_8 l0_8.length c0_8]] (by rfl) rfl rfl (by simp only [List.map_toArray, List.map_cons, List.map_nil]; rfl) ?_
            with_reducible refine (pdu_May.calls 4 (a0_0) (a0_1) ((!a0_2)) (2) (1) (0) (0) (a0_7) A0_8 c0_8 l0_8 true _ (Kd.C_below HR.out (by (repeat (with_reducible first | exact HB.out | apply pw_below_drewN | apply below_drew1)))) HC.out ((Lib.may_pdu 0 _ _ _ _ _ _ _ _ _).trans (congrArg some HBO.out))).mono ?_
            rintro e w3 ⟨rfl, hb⟩
            refine ⟨_, rfl, ?_⟩
            have nBP := Aside0.mk (blk_below (g := w.heap.size) (o := (.cells #[.int .i64 a0_0, .int .i64 a0_1, .bool a0_2, .int .i64 2, .int .i64 1, .int .i64 0, .int .i64 0, .bool a0_7, .slice A0_8 l0_8.length c0_8] 25 (0, 0))) (by (with_reducible repeat (first | refine blk_drewN ?_ _ | refine blk_drew ?_)); exact BP.out) hb)
            have nBQ := Aside0.mk (blk_below (g := wb.heap.size) (o := (.cells #[.int .i64 a0_0, .int .i64 a0_1, .bool (!a0_2), .int .i64 2, .int .i64 1, .int .i64 0, .int .i64 0, .bool a0_7, .slice A0_8 l0_8.length c0_8] 25 (0, 0))) (by (with_reducible repeat (first | refine blk_drewN ?_ _ | refine blk_drew ?_)); exact BQ.out) hb)
            have nBU := Aside0.mk (blk_below (g := wb.heap.size + 1) (o := (.cells #[.int .i64 a0_0, .int .i64 a0_1, .bool a0_2, .int .i64 2, .int .i64 1, .int .i64 0, .int .i64 0, .bool (!a0_7), .slice A0_8 l0_8.length c0_8] 25 (0, 0))) (by (with_reducible repeat (first | refine blk_drewN ?_ _ | refine blk_drew ?_)); exact BU.out) hb)
            have nBV := Aside0.mk (blk_below (g := wb.heap.size + 1 + 1) (o := (.cells #[.int .i64 a0_0, .int .i64 a0_1, .bool a0_2, .int .i64 2, .int .i64 1, .int .i64 1, .int .i64 0, .bool a0_7, .slice A0_8 l0_8.length c0_8] 25 (0, 0))) (by (with_reducible repeat (first | refine blk_drewN ?_ _ | refine blk_drew ?_)); exact BV.out) hb)
            have nHB := Aside0.mk (below_step (by (repeat (with_reducible first | exact HB.out | apply pw_below_drewN | apply below_drew1))) hb)
            clear BP BQ BU BV HB hb
            have BP := nBP
            have BQ := nBQ
            have BU := nBU
            have BV := nBV
            have HB := nHB
            clear nBP nBQ nBU nBV nHB
            refine hK.out _ _ ⟨(blk_cell BP.out 3).trans rfl, (blk_cell BP.out 5).trans rfl, (blk_cell BQ.out 0).trans rfl, (blk_cell BQ.out 1).trans rfl, (blk_cell BQ.out 2).trans rfl, (blk_cell BQ.out 3).trans rfl, (blk_cell BQ.out 4).trans rfl, (blk_cell BQ.out 5).trans rfl, (blk_cell BQ.out 6).trans rfl, (blk_cell BQ.out 7).trans rfl, (blk_cell BQ.out 8).trans rfl, (blk_cell BU.out 0).trans rfl, (blk_cell BU.out 1).trans rfl, (blk_cell BU.out 2).trans rfl, (blk_cell BU.out 3).trans rfl, (blk_cell BU.out 4).trans rfl, (blk_cell BU.out 5).trans rfl, (blk_cell BU.out 6).trans rfl, (blk_cell BU.out 7).trans rfl, (blk_cell BU.out 8).trans rfl, (blk_cell BV.out 0).trans rfl, (blk_cell BV.out 1).trans rfl, (blk_cell BV.out 2).trans rfl, (blk_cell BV.out 3).trans rfl, (blk_cell BV.out 4).trans rfl, (blk_cell BV.out 5).trans rfl, (blk_cell BV.out 6).trans rfl, (blk_cell BV.out 7).trans rfl, (blk_cell BV.out 8).trans rfl⟩ (fun hHeld => ?_)
            clear hK K
            refine norm_ (a' := ?_) ?_ ?_
            rotate_left
            · show Act.put _ (some 105) _ = _
              simp only [Act.put, List.setIfInBounds_toArray, List.set_cons_zero, List.set_cons_succ, i64_w, i32_w]
              rfl
            refine pure_ (i := 3) (N := some 107) (v := ?_) (a' := ?_) #[true, true, true, true, false, false, false, false, false, false, false, false, false, false, false, false, false, false, false, false, false, false] rfl rfl (by kernel_rfl) (fun _ _ _ h => h) (Or.inl ⟨by rfl, ?_⟩) ?_ ?_
            rotate_left
            · intro w'
              go_simp
              with_reducible rfl
            rotate_left
            · simp only [Act.put, List.setIfInBounds_toArray, List.set_cons_zero, List.set_cons_succ, i64_w, i32_w]
              rfl
            refine pure_ (i := 4) (N := some 108) (v := ?_) (a' := ?_) #[true, true, true, true, true, false, false, false, false, false, false, false, false, false, false, false, false, false, false, false, false, false] rfl rfl (by kernel_rfl) (fun _ _ _ h => h) (Or.inl ⟨by rfl, ?_⟩) ?_ ?_
            rotate_left
            · intro w'
              go_simp
              with_reducible rfl
            rotate_left
            · simp only [Act.put, List.setIfInBounds_toArray, List.set_cons_zero, List.set_cons_succ, i64_w, i32_w]
              rfl
            refine take_ (i := 5) (N := some 109) (v := ?_) (a' := ?_) #[true, true, true, true, true, true, false, false, false, false, false, false, false, false, false, false, false, false, false, false, false, false] rfl rfl (by kernel_rfl) (fun _ _ _ h => h) (Or.inl ⟨by rfl, ?_⟩) hHeld ?_ ?_
            rotate_left
            · rintro w' ⟨s0, s1, s2, s3, s4, s5, s6, s7, s8, s9, s10, s11, s12, s13, s14, s15, s16, s17, s18, s19, s20, s21, s22, s23, s24, s25, s26, s27, s28⟩
              go_simp
              with_reducible rfl
            rotate_left
            · simp only [Act.put, List.setIfInBounds_toArray, List.set_cons_zero, List.set_cons_succ, i64_w, i32_w]
              rfl
            refine one_ (i := 6) (N := some 110) #[true, true, true, true, true, true, true, false, false, false, false, false, false, false, false, false, false, false, false, false, false, false] rfl rfl (by kernel_rfl) (by decide) (fun K hK => ?_)
            refine goes_ Try.func34 (by kernel_rfl) rfl #[.agg #[.int .i64 a0_0, .int .i64 a0_1, .bool a0_2, .int .i64 2, .int .i64 1, .int .i64 0, .int .i64 0, .bool (!a0_7), .slice A0_8 l0_8.length c0_8]] (by rfl) rfl rfl (by simp only [List.map_toArray, List.map_cons, List.map_nil]; rfl) ?_
            with_reducible refine (pdu_May.calls 4 (a0_0) (a0_1) (a0_2) (2) (1) (0) (0) ((!a0_7)) A0_8 c0_8 l0_8 true _ (Kd.C_below HR.out (by (repeat (with_reducible first | exact HB.out | apply pw_below_drewN | apply below_drew1)))) HC.out (KindP.pk_poll (!a0_7) l0_8 HM.out rfl)).mono ?_
            rintro e w3 ⟨rfl, hb⟩
            refine ⟨_, rfl, ?_⟩
            have nBP := Aside0.mk (blk_below (g := w.heap.size) (o := (.cells #[.int .i64 a0_0, .int .i64 a0_1, .bool a0_2, .int .i64 2, .int .i64 1, .int .i64 0, .int .i64 0, .bool a0_7, .slice A0_8 l0_8.length c0_8] 25 (0, 0))) (by (with_reducible repeat (first | refine blk_drewN ?_ _ | refine blk_drew ?_)); exact BP.out) hb)
            have nBQ := Aside0.mk (blk_below (g := wb.heap.size) (o := (.cells #[.int .i64 a0_0, .int .i64 a0_1, .bool (!a0_2), .int .i64 2, .int .i64 1, .int .i64 0, .int .i64 0, .bool a0_7, .slice A0_8 l0_8.length c0_8] 25 (0, 0))) (by (with_reducible repeat (first | refine blk_drewN ?_ _ | refine blk_drew ?_)); exact BQ.out) hb)
            have nBU := Aside0.mk (blk_below (g := wb.heap.size + 1) (o := (.cells #[.int .i64 a0_0, .int .i64 a0_1, .bool a0_2, .int .i64 2, .int .i64 1, .int .i64 0, .int .i64 0, .bool (!a0_7), .slice A0_8 l0_8.length c0_8] 25 (0, 0))) (by (with_reducible repeat (first | refine blk_drewN ?_ _ | refine blk_drew ?_)); exact BU.out) hb)
            have nBV := Aside0.mk (blk_below (g := wb.heap.size + 1 + 1) (o := (.cells #[.int .i64 a0_0, .int .i64 a0_1, .bool a0_2, .int .i64 2, .int .i64 1, .int .i64 1, .int .i64 0, .bool a0_7, .slice A0_8 l0_8.length c0_8] 25 (0, 0))) (by (with_reducible repeat (first | refine blk_drewN ?_ _ | refine blk_drew ?_)); exact BV.out) hb)
            have nHB := Aside0.mk (below_step (by (repeat (with_reducible first | exact HB.out | apply pw_below_drewN | apply below_drew1))) hb)
            clear BP BQ BU BV HB hb
            have BP := nBP
            have BQ := nBQ
            have BU := nBU
            have BV := nBV
            have HB := nHB
            clear nBP nBQ nBU nBV nHB
            refine hK.out _ _ ⟨(blk_cell BP.out 3).trans rfl, (blk_cell BP.out 5).trans rfl, (blk_cell BQ.out 0).trans rfl, (blk_cell BQ.out 1).trans rfl, (blk_cell BQ.out 2).trans rfl, (blk_cell BQ.out 3).trans rfl, (blk_cell BQ.out 4).trans rfl, (blk_cell BQ.out 5).trans rfl, (blk_cell BQ.out 6).trans rfl, (blk_cell BQ.out 7).trans rfl, (blk_cell BQ.out 8).trans rfl, (blk_cell BU.out 0).trans rfl, (blk_cell BU.out 1).trans rfl, (blk_cell BU.out 2).trans rfl, (blk_cell BU.out 3).trans rfl, (blk_cell BU.out 4).trans rfl, (blk_cell BU.out 5).trans rfl, (blk_cell BU.out 6).trans rfl, (blk_cell BU.out 7).trans rfl, (blk_cell BU.out 8).trans rfl, (blk_cell BV.out 0).trans rfl, (blk_cell BV.out 1).trans rfl, (blk_cell BV.out 2).trans rfl, (blk_cell BV.out 3).trans rfl, (blk_cell BV.out 4).trans rfl, (blk_cell BV.out 5).trans rfl, (blk_cell BV.out 6).trans rfl, (blk_cell BV.out 7).trans rfl, (blk_cell BV.out 8).trans rfl⟩ (fun hHeld => ?_)
            clear hK K
            refine norm_ (a' := ?_) ?_ ?_
            rotate_left
            · show Act.put _ (some 110) _ = _
              simp only [Act.put, List.setIfInBounds_toArray, List.set_cons_zero, List.set_cons_succ, i64_w, i32_w]
              rfl
            refine pure_ (i := 7) (N := some 111) (v := ?_) (a' := ?_) #[true, true, true, true, true, true, true, true, false, false, false, false, false, false, false, false, false, false, false, false, false, false] rfl rfl (by kernel_rfl) (fun _ _ _ h => h) (Or.inl ⟨by rfl, ?_⟩) ?_ ?_
            rotate_left
            · intro w'
              go_simp
              with_reducible rfl
            rotate_left
            · simp only [Act.put, List.setIfInBounds_toArray, List.set_cons_zero, List.set_cons_succ, i64_w, i32_w]
              rfl
            refine pure_ (i := 8) (N := some 112) (v := ?_) (a' := ?_) #[true, true, true, true, true, true, true, true, true, false, false, false, false, false, false, false, false, false, false, false, false, false] rfl rfl (by kernel_rfl) (fun _ _ _ h => h) (Or.inl ⟨by rfl, ?_⟩) ?_ ?_
            rotate_left
            · intro w'
              go_simp
              with_reducible rfl
            rotate_left
            · simp only [Act.put, List.setIfInBounds_toArray, List.set_cons_zero, List.set_cons_succ, i64_w, i32_w]
              rfl
            refine pure_ (i := 11) (N := some 115) (v := ?_) (a' := ?_) #[true, true, true, true, true, true, true, true, true, false, false, true, false, false, false, false, false, false, false, false, false, false] rfl rfl (by kernel_rfl) (fun _ _ _ h => h) (Or.inl ⟨by rfl, ?_⟩) ?_ ?_
            rotate_left
            · intro w'
              go_simp
              with_reducible rfl
            rotate_left
            · simp only [Act.put, List.setIfInBounds_toArray, List.set_cons_zero, List.set_cons_succ, i64_w, i32_w]
              rfl
            refine take_ (i := 9) (N := some 113) (v := ?_) (a' := ?_) #[true, true, true, true, true, true, true, true, true, true, false, true, false, false, false, false, false, false, false, false, false, false] rfl rfl (by kernel_rfl) (fun _ _ _ h => h) (Or.inl ⟨by rfl, ?_⟩) hHeld ?_ ?_
            rotate_left
            · rintro w' ⟨s0, s1, s2, s3, s4, s5, s6, s7, s8, s9, s10, s11, s12, s13, s14, s15, s16, s17, s18, s19, s20, s21, s22, s23, s24, s25, s26, s27, s28⟩
              go_simp
              with_reducible rfl
            rotate_left
            · simp only [Act.put, List.setIfInBounds_toArray, List.set_cons_zero, List.set_cons_succ, i64_w, i32_w]
              rfl
            refine take_ (i := 12) (N := some 116) (v := ?_) (a' := ?_) #[true, true, true, true, true, true, true, true, true, true, false, true, true, false, false, false, false, false, false, false, false, false] rfl rfl (by kernel_rfl) (fun _ _ _ h => h) (Or.inl ⟨by rfl, ?_⟩) hHeld ?_ ?_
            rotate_left
            · rintro w' ⟨s0, s1, s2, s3, s4, s5, s6, s7, s8, s9, s10, s11, s12, s13, s14, s15, s16, s17, s18, s19, s20, s21, s22, s23, s24, s25, s26, s27, s28⟩
              go_simp
              with_reducible rfl
            rotate_left
            · simp only [Act.put, List.setIfInBounds_toArray, List.set_cons_zero, List.set_cons_succ, i64_w, i32_w]
              rfl
            refine pure_ (i := 13) (N := some 117) (v := ?_) (a' := ?_) #[true, true, true, true, true, true, true, true, true, true, false, true, true, true, false, false, false, false, false, false, false, false] rfl rfl (by kernel_rfl) (fun _ _ _ h => h) (Or.inl ⟨by rfl, ?_⟩) ?_ ?_
            rotate_left
            · intro w'
              go_simp
              with_reducible rfl
            rotate_left
            · simp only [Act.put, List.setIfInBounds_toArray, List.set_cons_zero, List.set_cons_succ, i64_w, i32_w]
              rfl
            refine one_ (i := 10) (N := some 114) #[true, true, true, true, true, true, true, true, true, true, true, true, true, true, false, false, false, false, false, false, false, false] rfl rfl (by kernel_rfl) (by decide) (fun K hK => ?_)
            refine goes_ Try.func34 (by kernel_rfl) rfl #[.agg #[.int .i64 a0_0, .int .i64 a0_1, .bool a0_2, .int .i64 2, .int .i64 1, .int .i64 1, .int .i64 0, .bool a0_7, .slice A0_8 l0_8.length c0_8]] (by rfl) rfl rfl (by simp only [List.map_toArray, List.map_cons, List.map_nil]; rfl) ?_
            with_reducible refine (pdu_May.calls 4 (a0_0) (a0_1) (a0_2) (2) (1) (1) (0) (a0_7) A0_8 c0_8 l0_8 false _ (Kd.C_below HR.out (by (repeat (with_reducible first | exact HB.out | apply pw_below_drewN | apply below_drew1)))) HC.out ((Lib.may_pdu 0 _ _ _ _ _ _ _ _ _).trans (congrArg some HLT.out))).mono ?_
            rintro e w3 ⟨rfl, hb⟩
            refine ⟨_, rfl, ?_⟩
            have nBP := Aside0.mk (blk_below (g := w.heap.size) (o := (.cells #[.int .i64 a0_0, .int .i64 a0_1, .bool a0_2, .int .i64 2, .int .i64 1, .int .i64 0, .int .i64 0, .bool a0_7, .slice A0_8 l0_8.length c0_8] 25 (0, 0))) (by (with_reducible repeat (first | refine blk_drewN ?_ _ | refine blk_drew ?_)); exact BP.out) hb)
            have nBQ := Aside0.mk (blk_below (g := wb.heap.size) (o := (.cells #[.int .i64 a0_0, .int .i64 a0_1, .bool (!a0_2), .int .i64 2, .int .i64 1, .int .i64 0, .int .i64 0, .bool a0_7, .slice A0_8 l0_8.length c0_8] 25 (0, 0))) (by (with_reducible repeat (first | refine blk_drewN ?_ _ | refine blk_drew ?_)); exact BQ.out) hb)
            have nBU := Aside0.mk (blk_below (g := wb.heap.size + 1) (o := (.cells #[.int .i64 a0_0, .int .i64 a0_1, .bool a0_2, .int .i64 2, .int .i64 1, .int .i64 0, .int .i64 0, .bool (!a0_7), .slice A0_8 l0_8.length c0_8] 25 (0, 0))) (by (with_reducible repeat (first | refine blk_drewN ?_ _ | refine blk_drew ?_)); exact BU.out) hb)
            have nBV := Aside0.mk (blk_below (g := wb.heap.size + 1 + 1) (o := (.cells #[.int .i64 a0_0, .int .i64 a0_1, .bool a0_2, .int .i64 2, .int .i64 1, .int .i64 1, .int .i64 0, .bool a0_7, .slice A0_8 l0_8.length c0_8] 25 (0, 0))) (by (with_reducible repeat (first | refine blk_drewN ?_ _ | refine blk_drew ?_)); exact BV.out) hb)
            have nHB := Aside0.mk (below_step (by (repeat (with_reducible first | exact HB.out | apply pw_below_drewN | apply below_drew1))) hb)
            clear BP BQ BU BV HB hb
            have BP := nBP
            have BQ := nBQ
            have BU := nBU
            have BV := nBV
            have HB := nHB
            clear nBP nBQ nBU nBV nHB
            refine hK.out _ _ ⟨(blk_cell BP.out 3).trans rfl, (blk_cell BP.out 5).trans rfl, (blk_cell BQ.out 0).trans rfl, (blk_cell BQ.out 1).trans rfl, (blk_cell BQ.out 2).trans rfl, (blk_cell BQ.out 3).trans rfl, (blk_cell BQ.out 4).trans rfl, (blk_cell BQ.out 5).trans rfl, (blk_cell BQ.out 6).trans rfl, (blk_cell BQ.out 7).trans rfl, (blk_cell BQ.out 8).trans rfl, (blk_cell BU.out 0).trans rfl, (blk_cell BU.out 1).trans rfl, (blk_cell BU.out 2).trans rfl, (blk_cell BU.out 3).trans rfl, (blk_cell BU.out 4).trans rfl, (blk_cell BU.out 5).trans rfl, (blk_cell BU.out 6).trans rfl, (blk_cell BU.out 7).trans rfl, (blk_cell BU.out 8).trans rfl, (blk_cell BV.out 0).trans rfl, (blk_cell BV.out 1).trans rfl, (blk_cell BV.out 2).trans rfl, (blk_cell BV.out 3).trans rfl, (blk_cell BV.out 4).trans rfl, (blk_cell BV.out 5).trans rfl, (blk_cell BV.out 6).trans rfl, (blk_cell BV.out 7).trans rfl, (blk_cell BV.out 8).trans rfl⟩ (fun hHeld => ?_)
            clear hK K
            refine norm_ (a' := ?_) ?_ ?_
            rotate_left
            · show Act.put _ (some 114) _ = _
              simp only [Act.put, List.setIfInBounds_toArray, List.set_cons_zero, List.set_cons_succ, i64_w, i32_w]
              rfl
            refine pure_ (i := 14) (N := some 118) (v := ?_) (a' := ?_) #[true, true, true, true, true, true, true, true, true, true, true, true, true, true, true, false, false, false, false, false, false, false] rfl rfl (by kernel_rfl) (fun _ _ _ h => h) (Or.inl ⟨by rfl, ?_⟩) ?_ ?_
            rotate_left
            · intro w'
              go_simp
              with_reducible rfl
            rotate_left
            · simp only [Act.put, List.setIfInBounds_toArray, List.set_cons_zero, List.set_cons_succ, i64_w, i32_w]
              rfl
            refine pure_ (i := 15) (N := some 119) (v := undef) (a' := ?_) #[true, true, true, true, true, true, true, true, true, true, true, true, true, true, true, true, false, false, false, false, false, false] rfl rfl (by kernel_rfl) (fun _ _ _ h => h) (Or.inr ⟨by rfl, rfl⟩) ?_ ?_
            rotate_left
            · simp only [Act.put, List.setIfInBounds_toArray, List.set_cons_zero, List.set_cons_succ, i64_w, i32_w]
              rfl
            refine pure_ (i := 16) (N := some 120) (v := undef) (a' := ?_) #[true, true, true, true, true, true, true, true, true, true, true, true, true, true, true, true, true, false, false, false, false, false] rfl rfl (by kernel_rfl) (fun _ _ _ h => h) (Or.inr ⟨by rfl, rfl⟩) ?_ ?_
            rotate_left
            · simp only [Act.put, List.setIfInBounds_toArray, List.set_cons_zero, List.set_cons_succ, i64_w, i32_w]
              rfl
            refine pure_ (i := 17) (N := some 121) (v := undef) (a' := ?_) #[true, true, true, true, true, true, true, true, true, true, true, true, true, true, true, true, true, true, false, false, false, false] rfl rfl (by kernel_rfl) (fun _ _ _ h => h) (Or.inr ⟨by rfl, rfl⟩) ?_ ?_
            rotate_left
            · simp only [Act.put, List.setIfInBounds_toArray, List.set_cons_zero, List.set_cons_succ, i64_w, i32_w]
              rfl
            refine pure_ (i := 18) (N := some 122) (v := ?_) (a' := ?_) #[true, true, true, true, true, true, true, true, true, true, true, true, true, true, true, true, true, true, true, false, false, false] rfl rfl (by kernel_rfl) (fun _ _ _ h => h) (Or.inl ⟨by rfl, ?_⟩) ?_ ?_
            rotate_left
            · intro w'
              go_simp
              with_reducible rfl
            rotate_left
            · simp only [Act.put, List.setIfInBounds_toArray, List.set_cons_zero, List.set_cons_succ, i64_w, i32_w]
              rfl
            refine pure_ (i := 19) (N := some 123) (v := ?_) (a' := ?_) #[true, true, true, true, true, true, true, true, true, true, true, true, true, true, true, true, true, true, true, true, false, false] rfl rfl (by kernel_rfl) (fun _ _ _ h => h) (Or.inl ⟨by rfl, ?_⟩) ?_ ?_
            rotate_left
            · intro w'
              go_simp
              with_reducible rfl
            rotate_left
            · simp only [Act.put, List.setIfInBounds_toArray, List.set_cons_zero, List.set_cons_succ, i64_w, i32_w]
              rfl
            refine pure_ (i := 20) (N := some 124) (v := ?_) (a' := ?_) #[true, true, true, true, true, true, true, true, true, true, true, true, true, true, true, true, true, true, true, true, true, false] rfl rfl (by kernel_rfl) (fun _ _ _ h => h) (Or.inl ⟨by rfl, ?_⟩) ?_ ?_
            rotate_left
            · intro w'
              go_simp
              with_reducible rfl
            rotate_left
            · simp only [Act.put, List.setIfInBounds_toArray, List.set_cons_zero, List.set_cons_succ, i64_w, i32_w]
              rfl
            refine pure_ (i := 21) (N := some 2) (v := ?_) (a' := ?_) #[true, true, true, true, true, true, true, true, true, true, true, true, true, true, true, true, true, true, true, true, true, true] rfl rfl (by kernel_rfl) (fun _ _ _ h => h) (Or.inl ⟨by rfl, ?_⟩) ?_ ?_
            rotate_left
            · intro w'
              go_simp
              with_reducible rfl
            rotate_left
            · simp only [Act.put, List.setIfInBounds_toArray, List.set_cons_zero, List.set_cons_succ, i64_w, i32_w]
              rfl
            refine done_ (by kernel_rfl) ?_
            go_wp2_with fail
            go_ret
            exact ⟨rfl, HB.out⟩
          · skip
            have k0 : wb.cell? ⟨w.heap.size, 0, none⟩ = some (.int .i64 a0_0) := (blk_cell HPb.out 0).trans rfl
            have k1 : wb.cell? ⟨w.heap.size, 1, none⟩ = some (.int .i64 a0_1) := (blk_cell HPb.out 1).trans rfl
            have k2 : wb.cell? ⟨w.heap.size, 2, none⟩ = some (.bool a0_2) := (blk_cell HPb.out 2).trans rfl
            have k3 : wb.cell? ⟨w.heap.size, 3, none⟩ = some (.int .i64 2) := (blk_cell HPb.out 3).trans rfl
            have k4 : wb.cell? ⟨w.heap.size, 4, none⟩ = some (.int .i64 1) := (blk_cell HPb.out 4).trans rfl
            have k5 : wb.cell? ⟨w.heap.size, 5, none⟩ = some (.int .i64 0) := (blk_cell HPb.out 5).trans rfl
            have k6 : wb.cell? ⟨w.heap.size, 6, none⟩ = some (.int .i64 0) := (blk_cell HPb.out 6).trans rfl
            have k7 : wb.cell? ⟨w.heap.size, 7, none⟩ = some (.bool a0_7) := (blk_cell HPb.out 7).trans rfl
            have k8 : wb.cell? ⟨w.heap.size, 8, none⟩ = some (.slice A0_8 l0_8.length c0_8) := (blk_cell HPb.out 8).trans rfl
            have hpw : w.heap.size < wb.heap.size := blk_lt HPb.out
            have hpw1 : w.heap.size < wb.heap.size + 1 := by omega
            have hpw2 : w.heap.size < wb.heap.size + 1 + 1 := by omega
            have hpw3 : w.heap.size ≠ wb.heap.size + 1 + 1 := by omega
            go_wp2_with fail
            generalize hW : (((wb.alloc _).alloc _).alloc _) = W
            have BP := Aside0.mk (show W.heap[w.heap.size]? = some (.cells #[.int .i64 a0_0, .int .i64 a0_1, .bool a0_2, .int .i64 2, .int .i64 1, .int .i64 0, .int .i64 0, .bool a0_7, .slice A0_8 l0_8.length c0_8] 25 (0, 0)) by rw [← hW]; exact blk_alloc (blk_alloc (blk_alloc HPb.out _) _) _)
            have BQ := Aside0.mk (show W.heap[wb.heap.size]? = some (.cells #[.int .i64 a0_0, .int .i64 a0_1, .bool (!a0_2), .int .i64 2, .int .i64 1, .int .i64 0, .int .i64 0, .bool a0_7, .slice A0_8 l0_8.length c0_8] 25 (0, 0)) by rw [← hW]; exact blk_alloc (blk_alloc (blk_new wb _) _) _)
            have BU := Aside0.mk (show W.heap[wb.heap.size + 1]? = some (.cells #[.int .i64 a0_0, .int .i64 a0_1, .bool a0_2, .int .i64 2, .int .i64 1, .int .i64 0, .int .i64 0, .bool (!a0_7), .slice A0_8 l0_8.length c0_8] 25 (0, 0)) by rw [← hW]; exact blk_alloc (KindP.blk_new2 wb _ _) _)
            have BV := Aside0.mk (show W.heap[wb.heap.size + 1 + 1]? = some (.cells #[.int .i64 a0_0, .int .i64 a0_1, .bool a0_2, .int .i64 2, .int .i64 1, .int .i64 1, .int .i64 0, .bool a0_7, .slice A0_8 l0_8.length c0_8] 25 (0, 0)) by rw [← hW]; exact KindP.blk_new3 wb _ _ _)
            have HB := Aside0.mk (show Below w.heap.size w W by rw [← hW]; exact below_alloc (below_alloc (below_alloc HBb.out _) _) _)
            clear hW k0 k1 k2 k3 k4 k5 k6 k7 k8
            refine start_ (n := 22) (S := fun w' => w'.cell? ⟨w.heap.size, 3, none⟩ = some (.int .i64 2) ∧ w'.cell? ⟨w.heap.size, 5, none⟩ = some (.int .i64 0) ∧ w'.cell? ⟨wb.heap.size, 0, none⟩ = some (.int .i64 a0_0) ∧ w'.cell? ⟨wb.heap.size, 1, none⟩ = some (.int .i64 a0_1) ∧ w'.cell? ⟨wb.heap.size, 2, none⟩ = some (.bool (!a0_2)) ∧ w'.cell? ⟨wb.heap.size, 3, none⟩ = some (.int .i64 2) ∧ w'.cell? ⟨wb.heap.size, 4, none⟩ = some (.int .i64 1) ∧ w'.cell? ⟨wb.heap.size, 5, none⟩ = some (.int .i64 0) ∧ w'.cell? ⟨wb.heap.size, 6, none⟩ = some (.int .i64 0) ∧ w'.cell? ⟨wb.heap.size, 7, none⟩ = some (.bool a0_7) ∧ w'.cell? ⟨wb.heap.size, 8, none⟩ = some (.slice A0_8 l0_8.length c0_8) ∧ w'.cell? ⟨wb.heap.size + 1, 0, none⟩ = some (.int .i64 a0_0) ∧ w'.cell? ⟨wb.heap.size + 1, 1, none⟩ = some (.int .i64 a0_1) ∧ w'.cell? ⟨wb.heap.size + 1, 2, none⟩ = some (.bool a0_2) ∧ w'.cell? ⟨wb.heap.size + 1, 3, none⟩ = some (.int .i64 2) ∧ w'.cell? ⟨wb.heap.size + 1, 4, none⟩ = some (.int .i64 1) ∧ w'.cell? ⟨wb.heap.size + 1, 5, none⟩ = some (.int .i64 0) ∧ w'.cell? ⟨wb.heap.size + 1, 6, none⟩ = some (.int .i64 0) ∧ w'.cell? ⟨wb.heap.size + 1, 7, none⟩ = some (.bool (!a0_7)) ∧ w'.cell? ⟨wb.heap.size + 1, 8, none⟩ = some (.slice A0_8 l0_8.length c0_8) ∧ w'.cell? ⟨wb.heap.size + 1 + 1, 0, none⟩ = some (.int .i64 a0_0) ∧ w'.cell? ⟨wb.heap.size + 1 + 1, 1, none⟩ = some (.int .i64 a0_1) ∧ w'.cell? ⟨wb.heap.size + 1 + 1, 2, none⟩ = some (.bool a0_2) ∧ w'.cell? ⟨wb.heap.size + 1 + 1, 3, none⟩ = some (.int .i64 2) ∧ w'.cell? ⟨wb.heap.size + 1 + 1, 4, none⟩ = some (.int .i64 1) ∧ w'.cell? ⟨wb.heap.size + 1 + 1, 5, none⟩ = some (.int .i64 1) ∧ w'.cell? ⟨wb.heap.size + 1 + 1, 6, none⟩ = some (.int .i64 0) ∧ w'.cell? ⟨wb.heap.size + 1 + 1, 7, none⟩ = some (.bool a0_7) ∧ w'.cell? ⟨wb.heap.size + 1 + 1, 8, none⟩ = some (.slice A0_8 l0_8.length c0_8)) (ds := []) #[false, false, false, false, false, false, false, false, false, false, false, false, false, false, false, false, false, false, false, false, false, false] (by kernel_rfl) rfl rfl ⟨(blk_cell BP.out 3).trans rfl, (blk_cell BP.out 5).trans rfl, (blk_cell BQ.out 0).trans rfl, (blk_cell BQ.out 1).trans rfl, (blk_cell BQ.out 2).trans rfl, (blk_cell BQ.out 3).trans rfl, (blk_cell BQ.out 4).trans rfl, (blk_cell BQ.out 5).trans rfl, (blk_cell BQ.out 6).trans rfl, (blk_cell BQ.out 7).trans rfl, (blk_cell BQ.out 8).trans rfl, (blk_cell BU.out 0).trans rfl, (blk_cell BU.out 1).trans rfl, (blk_cell BU.out 2).trans rfl, (blk_cell BU.out 3).trans rfl, (blk_cell BU.out 4).trans rfl, (blk_cell BU.out 5).trans rfl, (blk_cell BU.out 6).trans rfl, (blk_cell BU.out 7).trans rfl, (blk_cell BU.out 8).trans rfl, (blk_cell BV.out 0).trans rfl, (blk_cell BV.out 1).trans rfl, (blk_cell BV.out 2).trans rfl, (blk_cell BV.out 3).trans rfl, (blk_cell BV.out 4).trans rfl, (blk_cell BV.out 5).trans rfl, (blk_cell BV.out 6).trans rfl, (blk_cell BV.out 7).trans rfl, (blk_cell BV.out 8).trans rfl⟩ (fun hHeld => ?_)
            refine pure_ (i := 2) (N := some 106) (v := ?_) (a' := ?_) #[false, false, true, false, false, false, false, false, false, false, false, false, false, false, false, false, false, false, false, false, false, false] rfl rfl (by kernel_rfl) (fun _ _ _ h => h) (Or.inl ⟨by rfl, ?_⟩) ?_ ?_
            rotate_left
            · intro w'
              go_simp
              with_reducible rfl
            rotate_left
            · simp only [Act.put, List.setIfInBounds_toArray, List.set_cons_zero, List.set_cons_succ, i64_w, i32_w]
              rfl
            refine take_ (i := 0) (N := some 104) (v := ?_) (a' := ?_) #[true, false, true, false, false, false, false, false, false, false, false, false, false, false, false, false, false, false, false, false, false, false] rfl rfl (by kernel_rfl) (fun _ _ _ h => h) (Or.inl ⟨by rfl, ?_⟩) hHeld ?_ ?_
            rotate_left
            · rintro w' ⟨s0, s1, s2, s3, s4, s5, s6, s7, s8, s9, s10, s11, s12, s13, s14, s15, s16, s17, s18, s19, s20, s21, s22, s23, s24, s25, s26, s27, s28⟩
              go_simp
              with_reducible rfl
            rotate_left
            · simp only [Act.put, List.setIfInBounds_toArray, List.set_cons_zero, List.set_cons_succ, i64_w, i32_w]
              rfl
            refine one_ (i := 1) (N := some 105) #[true, true, true, false, false, false, false, false, false, false, false, false, false, false, false, false, false, false, false, false, false, false] rfl rfl (by kernel_rfl) (by decide) (fun K hK => ?_)
            refine goes_ Try.func34 (by kernel_rfl) rfl #[.agg #[.int .i64 a0_0, .int .i64 a0_1, .bool (!a0_2), .int .i64 2, .int .i64 1, .int .i64 0, .int .i64 0, .bool a0_7, .slice A0_8 l0_8.length c0_8]] (by rfl) rfl rfl (by simp only [List.map_toArray, List.map_cons, List.map_nil]; rfl) ?_
            with_reducible refine (pdu_May.calls 4 (a0_0) (a0_1) ((!a0_2)) (2) (1) (0) (0) (a0_7) A0_8 c0_8 l0_8 true _ (Kd.C_below HR.out (by (repeat (with_reducible first | exact HB.out | apply pw_below_drewN | apply below_drew1)))) HC.out ((Lib.may_pdu 0 _ _ _ _ _ _ _ _ _).trans (congrArg some HBO.out))).mono ?_
            rintro e w3 ⟨rfl, hb⟩
            refine ⟨_, rfl, ?_⟩
            have nBP := Aside0.mk (blk_below (g := w.heap.size) (o := (.cells #[.int .i64 a0_0, .int .i64 a0_1, .bool a0_2, .int .i64 2, .int .i64 1, .int .i64 0, .int .i64 0, .bool a0_7, .slice A0_8 l0_8.length c0_8] 25 (0, 0))) (by (with_reducible repeat (first | refine blk_drewN ?_ _ | refine blk_drew ?_)); exact BP.out) hb)
            have nBQ := Aside0.mk (blk_below (g := wb.heap.size) (o := (.cells #[.int .i64 a0_0, .int .i64 a0_1, .bool (!a0_2), .int .i64 2, .int .i64 1, .int .i64 0, .int .i64 0, .bool a0_7, .slice A0_8 l0_8.length c0_8] 25 (0, 0))) (by (with_reducible repeat (first | refine blk_drewN ?_ _ | refine blk_drew ?_)); exact BQ.out) hb)
            have nBU := Aside0.mk (blk_below (g := wb.heap.size + 1) (o := (.cells #[.int .i64 a0_0, .int .i64 a0_1, .bool a0_2, .int .i64 2, .int .i64 1, .int .i64 0, .int .i64 0, .bool (!a0_7), .slice A0_8 l0_8.length c0_8] 25 (0, 0))) (by (with_reducible repeat (first | refine blk_drewN ?_ _ | refine blk_drew ?_)); exact BU.out) hb)
            have nBV := Aside0.mk (blk_below (g := wb.heap.size + 1 + 1) (o := (.cells #[.int .i64 a0_0, .int .i64 a0_1, .bool a0_2, .int .i64 2, .int .i64 1, .int .i64 1, .int .i64 0, .bool a0_7, .slice A0_8 l0_8.length c0_8] 25 (0, 0))) (by (with_reducible repeat (first | refine blk_drewN ?_ _ | refine blk_drew ?_)); exact BV.out) hb)
            have nHB := Aside0.mk (below_step (by (repeat (with_reducible first | exact HB.out | apply pw_below_drewN | apply below_drew1))) hb)
            clear BP BQ BU BV HB hb
            have BP := nBP
            have BQ := nBQ
            have BU := nBU
            have BV := nBV
            have HB := nHB
            clear nBP nBQ nBU nBV nHB
            refine hK.out _ _ ⟨(blk_cell BP.out 3).trans rfl, (blk_cell BP.out 5).trans rfl, (blk_cell BQ.out 0).trans rfl, (blk_cell BQ.out 1).trans rfl, (blk_cell BQ.out 2).trans rfl, (blk_cell BQ.out 3).trans rfl, (blk_cell BQ.out 4).trans rfl, (blk_cell BQ.out 5).trans rfl, (blk_cell BQ.out 6).trans rfl, (blk_cell BQ.out 7).trans rfl, (blk_cell BQ.out 8).trans rfl, (blk_cell BU.out 0).trans rfl, (blk_cell BU.out 1).trans rfl, (blk_cell BU.out 2).trans rfl, (blk_cell BU.out 3).trans rfl, (blk_cell BU.out 4).trans rfl, (blk_cell BU.out 5).trans rfl, (blk_cell BU.out 6).trans rfl, (blk_cell BU.out 7).trans rfl, (blk_cell BU.out 8).trans rfl, (blk_cell BV.out 0).trans rfl, (blk_cell BV.out 1).trans rfl, (blk_cell BV.out 2).trans rfl, (blk_cell BV.out 3).trans rfl, (blk_cell BV.out 4).trans rfl, (blk_cell BV.out 5).trans rfl, (blk_cell BV.out 6).trans rfl, (blk_cell BV.out 7).trans rfl, (blk_cell BV.out 8).trans rfl⟩ (fun hHeld => ?_)
            clear hK K
            refine norm_ (a' := ?_) ?_ ?_
            rotate_left
            · show Act.put _ (some 105) _ = _
              simp only [Act.put, List.setIfInBounds_toArray, List.set_cons_zero, List.set_cons_succ, i64_w, i32_w]
              rfl
            refine pure_ (i := 3) (N := some 107) (v := ?_) (a' := ?_) #[true, true, true, true, false, false, false, false, false, false, false, false, false, false, false, false, false, false, false, false, false, false] rfl rfl (by kernel_rfl) (fun _ _ _ h => h) (Or.inl ⟨by rfl, ?_⟩) ?_ ?_
            rotate_left
            · intro w'
              go_simp
              with_reducible rfl
            rotate_left
            · simp only [Act.put, List.setIfInBounds_toArray, List.set_cons_zero, List.set_cons_succ, i64_w, i32_w]
              rfl
            refine pure_ (i := 4) (N := some 108) (v := ?_) (a' := ?_) #[true, true, true, true, true, false, false, false, false, false, false, false, false, false, false, false, false, false, false, false, false, false] rfl rfl (by kernel_rfl) (fun _ _ _ h => h) (Or.inl ⟨by rfl, ?_⟩) ?_ ?_
            rotate_left
            · intro w'
              go_simp
              with_reducible rfl
            rotate_left
            · simp only [Act.put, List.setIfInBounds_toArray, List.set_cons_zero, List.set_cons_succ, i64_w, i32_w]
              rfl
            refine take_ (i := 5) (N := some 109) (v := ?_) (a' := ?_) #[true, true, true, true, true, true, false, false, false, false, false, false, false, false, false, false, false, false, false, false, false, false] rfl rfl (by kernel_rfl) (fun _ _ _ h => h) (Or.inl ⟨by rfl, ?_⟩) hHeld ?_ ?_
            rotate_left
            · rintro w' ⟨s0, s1, s2, s3, s4, s5, s6, s7, s8, s9, s10, s11, s12, s13, s14, s15, s16, s17, s18, s19, s20, s21, s22, s23, s24, s25, s26, s27, s28⟩
              go_simp
              with_reducible rfl
            rotate_left
            · simp only [Act.put, List.setIfInBounds_toArray, List.set_cons_zero, List.set_cons_succ, i64_w, i32_w]
              rfl
            refine one_ (i := 6) (N := some 110) #[true, true, true, true, true, true, true, false, false, false, false, false, false, false, false, false, false, false, false, false, false, false] rfl rfl (by kernel_rfl) (by decide) (fun K hK => ?_)
            refine goes_ Try.func34 (by kernel_rfl) rfl #[.agg #[.int .i64 a0_0, .int .i64 a0_1, .bool a0_2, .int .i64 2, .int .i64 1, .int .i64 0, .int .i64 0, .bool (!a0_7), .slice A0_8 l0_8.length c0_8]] (by rfl) rfl rfl (by simp only [List.map_toArray, List.map_cons, List.map_nil]; rfl) ?_
            with_reducible refine (pdu_May.calls 4 (a0_0) (a0_1) (a0_2) (2) (1) (0) (0) ((!a0_7)) A0_8 c0_8 l0_8 true _ (Kd.C_below HR.out (by (repeat (with_reducible first | exact HB.out | apply pw_below_drewN | apply below_drew1)))) HC.out (KindP.pk_poll (!a0_7) l0_8 HM.out rfl)).mono ?_
            rintro e w3 ⟨rfl, hb⟩
            refine ⟨_, rfl, ?_⟩
            have nBP := Aside0.mk (blk_below (g := w.heap.size) (o := (.cells #[.int .i64 a0_0, .int .i64 a0_1, .bool a0_2, .int .i64 2, .int .i64 1, .int .i64 0, .int .i64 0, .bool a0_7, .slice A0_8 l0_8.length c0_8] 25 (0, 0))) (by (with_reducible repeat (first | refine blk_drewN ?_ _ | refine blk_drew ?_)); exact BP.out) hb)
            have nBQ := Aside0.mk (blk_below (g := wb.heap.size) (o := (.cells #[.int .i64 a0_0, .int .i64 a0_1, .bool (!a0_2), .int .i64 2, .int .i64 1, .int .i64 0, .int .i64 0, .bool a0_7, .slice A0_8 l0_8.length c0_8] 25 (0, 0))) (by (with_reducible repeat (first | refine blk_drewN ?_ _ | refine blk_drew ?_)); exact BQ.out) hb)
            have nBU := Aside0.mk (blk_below (g := wb.heap.size + 1) (o := (.cells #[.int .i64 a0_0, .int .i64 a0_1, .bool a0_2, .int .i64 2, .int .i64 1, .int .i64 0, .int .i64 0, .bool (!a0_7), .slice A0_8 l0_8.length c0_8] 25 (0, 0))) (by (with_reducible repeat (first | refine blk_drewN ?_ _ | refine blk_drew ?_)); exact BU.out) hb)
            have nBV := Aside0.mk (blk_below (g := wb.heap.size + 1 + 1) (o := (.cells #[.int .i64 a0_0, .int .i64 a0_1, .bool a0_2, .int .i64 2, .int .i64 1, .int .i64 1, .int .i64 0, .bool a0_7, .slice A0_8 l0_8.length c0_8] 25 (0, 0))) (by (with_reducible repeat (first | refine blk_drewN ?_ _ | refine blk_drew ?_)); exact BV.out) hb)
            have nHB := Aside0.mk (below_step (by (repeat (with_reducible first | exact HB.out | apply pw_below_drewN | apply below_drew1))) hb)
            clear BP BQ BU BV HB hb
            have BP := nBP
            have BQ := nBQ
            have BU := nBU
            have BV := nBV
            have HB := nHB
            clear nBP nBQ nBU nBV nHB
            refine hK.out _ _ ⟨(blk_cell BP.out 3).trans rfl, (blk_cell BP.out 5).trans rfl, (blk_cell BQ.out 0).trans rfl, (blk_cell BQ.out 1).trans rfl, (blk_cell BQ.out 2).trans rfl, (blk_cell BQ.out 3).trans rfl, (blk_cell BQ.out 4).trans rfl, (blk_cell BQ.out 5).trans rfl, (blk_cell BQ.out 6).trans rfl, (blk_cell BQ.out 7).trans rfl, (blk_cell BQ.out 8).trans rfl, (blk_cell BU.out 0).trans rfl, (blk_cell BU.out 1).trans rfl, (blk_cell BU.out 2).trans rfl, (blk_cell BU.out 3).trans rfl, (blk_cell BU.out 4).trans rfl, (blk_cell BU.out 5).trans rfl, (blk_cell BU.out 6).trans rfl, (blk_cell BU.out 7).trans rfl, (blk_cell BU.out 8).trans rfl, (blk_cell BV.out 0).trans rfl, (blk_cell BV.out 1).trans rfl, (blk_cell BV.out 2).trans rfl, (blk_cell BV.out 3).trans rfl, (blk_cell BV.out 4).trans rfl, (blk_cell BV.out 5).trans rfl, (blk_cell BV.out 6).trans rfl, (blk_cell BV.out 7).trans rfl, (blk_cell BV.out 8).trans rfl⟩ (fun hHeld => ?_)
            clear hK K
            refine norm_ (a' := ?_) ?_ ?_
            rotate_left
            · show Act.put _ (some 110) _ = _
              simp only [Act.put, List.setIfInBounds_toArray, List.set_cons_zero, List.set_cons_succ, i64_w, i32_w]
              rfl
            refine pure_ (i := 7) (N := some 111) (v := ?_) (a' := ?_) #[true, true, true, true, true, true, true, true, false, false, false, false, false, false, false, false, false, false, false, false, false, false] rfl rfl (by kernel_rfl) (fun _ _ _ h => h) (Or.inl ⟨by rfl, ?_⟩) ?_ ?_
            rotate_left
            · intro w'
              go_simp
              with_reducible rfl
            rotate_left
            · simp only [Act.put, List.setIfInBounds_toArray, List.set_cons_zero, List.set_cons_succ, i64_w, i32_w]
              rfl
            refine pure_ (i := 8) (N := some 112) (v := ?_) (a' := ?_) #[true, true, true, true, true, true, true, true, true, false, false, false, false, false, false, false, false, false, false, false, false, false] rfl rfl (by kernel_rfl) (fun _ _ _ h => h) (Or.inl ⟨by rfl, ?_⟩) ?_ ?_
            rotate_left
            · intro w'
              go_simp
              with_reducible rfl
            rotate_left
            · simp only [Act.put, List.setIfInBounds_toArray, List.set_cons_zero, List.set_cons_succ, i64_w, i32_w]
              rfl
            refine pure_ (i := 11) (N := some 115) (v := ?_) (a' := ?_) #[true, true, true, true, true, true, true, true, true, false, false, true, false, false, false, false, false, false, false, false, false, false] rfl rfl (by kernel_rfl) (fun _ _ _ h => h) (Or.inl ⟨by rfl, ?_⟩) ?_ ?_
            rotate_left
            · intro w'
              go_simp
              with_reducible rfl
            rotate_left
            · simp only [Act.put, List.setIfInBounds_toArray, List.set_cons_zero, List.set_cons_succ, i64_w, i32_w]
              rfl
            refine take_ (i := 9) (N := some 113) (v := ?_) (a' := ?_) #[true, true, true, true, true, true, true, true, true, true, false, true, false, false, false, false, false, false, false, false, false, false] rfl rfl (by kernel_rfl) (fun _ _ _ h => h) (Or.inl ⟨by rfl, ?_⟩) hHeld ?_ ?_
            rotate_left
            · rintro w' ⟨s0, s1, s2, s3, s4, s5, s6, s7, s8, s9, s10, s11, s12, s13, s14, s15, s16, s17, s18, s19, s20, s21, s22, s23, s24, s25, s26, s27, s28⟩
              go_simp
              with_reducible rfl
            rotate_left
            · simp only [Act.put, List.setIfInBounds_toArray, List.set_cons_zero, List.set_cons_succ, i64_w, i32_w]
              rfl
            refine take_ (i := 12) (N := some 116) (v := ?_) (a' := ?_) #[true, true, true, true, true, true, true, true, true, true, false, true, true, false, false, false, false, false, false, false, false, false] rfl rfl (by kernel_rfl) (fun _ _ _ h => h) (Or.inl ⟨by rfl, ?_⟩) hHeld ?_ ?_
            rotate_left
            · rintro w' ⟨s0, s1, s2, s3, s4, s5, s6, s7, s8, s9, s10, s11, s12, s13, s14, s15, s16, s17, s18, s19, s20, s21, s22, s23, s24, s25, s26, s27, s28⟩
              go_simp
              with_reducible rfl
            rotate_left
            · simp only [Act.put, List.setIfInBounds_toArray, List.set_cons_zero, List.set_cons_succ, i64_w, i32_w]
              rfl
            refine pure_ (i := 13) (N := some 117) (v := ?_) (a' := ?_) #[true, true, true, true, true, true, true, true, true, true, false, true, true, true, false, false, false, false, false, false, false, false] rfl rfl (by kernel_rfl) (fun _ _ _ h => h) (Or.inl ⟨by rfl, ?_⟩) ?_ ?_
            rotate_left
            · intro w'
              go_simp
              with_reducible rfl
            rotate_left
            · simp only [Act.put, List.setIfInBounds_toArray, List.set_cons_zero, List.set_cons_succ, i64_w, i32_w]
              rfl
            refine one_ (i := 10) (N := some 114) #[true, true, true, true, true, true, true, true, true, true, true, true, true, true, false, false, false, false, false, false, false, false] rfl rfl (by kernel_rfl) (by decide) (fun K hK => ?_)
            refine goes_ Try.func34 (by kernel_rfl) rfl #[.agg #[.int .i64 a0_0, .int .i64 a0_1, .bool a0_2, .int .i64 2, .int .i64 1, .int .i64 1, .int .i64 0, .bool a0_7, .slice A0_8 l0_8.length c0_8]] (by rfl) rfl rfl (by simp only [List.map_toArray, List.map_cons, List.map_nil]; rfl) ?_
            with_reducible refine (pdu_May.calls 4 (a0_0) (a0_1) (a0_2) (2) (1) (1) (0) (a0_7) A0_8 c0_8 l0_8 false _ (Kd.C_below HR.out (by (repeat (with_reducible first | exact HB.out | apply pw_below_drewN | apply below_drew1)))) HC.out ((Lib.may_pdu 0 _ _ _ _ _ _ _ _ _).trans (congrArg some HLT.out))).mono ?_
            rintro e w3 ⟨rfl, hb⟩
            refine ⟨_, rfl, ?_⟩
            have nBP := Aside0.mk (blk_below (g := w.heap.size) (o := (.cells #[.int .i64 a0_0, .int .i64 a0_1, .bool a0_2, .int .i64 2, .int .i64 1, .int .i64 0, .int .i64 0, .bool a0_7, .slice A0_8 l0_8.length c0_8] 25 (0, 0))) (by (with_reducible repeat (first | refine blk_drewN ?_ _ | refine blk_drew ?_)); exact BP.out) hb)
            have nBQ := Aside0.mk (blk_below (g := wb.heap.size) (o := (.cells #[.int .i64 a0_0, .int .i64 a0_1, .bool (!a0_2), .int .i64 2, .int .i64 1, .int .i64 0, .int .i64 0, .bool a0_7, .slice A0_8 l0_8.length c0_8] 25 (0, 0))) (by (with_reducible repeat (first | refine blk_drewN ?_ _ | refine blk_drew ?_)); exact BQ.out) hb)
            have nBU := Aside0.mk (blk_below (g := wb.heap.size + 1) (o := (.cells #[.int .i64 a0_0, .int .i64 a0_1, .bool a0_2, .int .i64 2, .int .i64 1, .int .i64 0, .int .i64 0, .bool (!a0_7), .slice A0_8 l0_8.length c0_8] 25 (0, 0))) (by (with_reducible repeat (first | refine blk_drewN ?_ _ | refine blk_drew ?_)); exact BU.out) hb)
            have nBV := Aside0.mk (blk_below (g := wb.heap.size + 1 + 1) (o := (.cells #[.int .i64 a0_0, .int .i64 a0_1, .bool a0_2, .int .i64 2, .int .i64 1, .int .i64 1, .int .i64 0, .bool a0_7, .slice A0_8 l0_8.length c0_8] 25 (0, 0))) (by (with_reducible repeat (first | refine blk_drewN ?_ _ | refine blk_drew ?_)); exact BV.out) hb)
            have nHB := Aside0.mk (below_step (by (repeat (with_reducible first | exact HB.out | apply pw_below_drewN | apply below_drew1))) hb)
            clear BP BQ BU BV HB hb
            have BP := nBP
            have BQ := nBQ
            have BU := nBU
            have BV := nBV
            have HB := nHB
            clear nBP nBQ nBU nBV nHB
            refine hK.out _ _ ⟨(blk_cell BP.out 3).trans rfl, (blk_cell BP.out 5).trans rfl, (blk_cell BQ.out 0).trans rfl, (blk_cell BQ.out 1).trans rfl, (blk_cell BQ.out 2).trans rfl, (blk_cell BQ.out 3).trans rfl, (blk_cell BQ.out 4).trans rfl, (blk_cell BQ.out 5).trans rfl, (blk_cell BQ.out 6).trans rfl, (blk_cell BQ.out 7).trans rfl, (blk_cell BQ.out 8).trans rfl, (blk_cell BU.out 0).trans rfl, (blk_cell BU.out 1).trans rfl, (blk_cell BU.out 2).trans rfl, (blk_cell BU.out 3).trans rfl, (blk_cell BU.out 4).trans rfl, (blk_cell BU.out 5).trans rfl, (blk_cell BU.out 6).trans rfl, (blk_cell BU.out 7).trans rfl, (blk_cell BU.out 8).trans rfl, (blk_cell BV.out 0).trans rfl, (blk_cell BV.out 1).trans rfl, (blk_cell BV.out 2).trans rfl, (blk_cell BV.out 3).trans rfl, (blk_cell BV.out 4).trans rfl, (blk_cell BV.out 5).trans rfl, (blk_cell BV.out 6).trans rfl, (blk_cell BV.out 7).trans rfl, (blk_cell BV.out 8).trans rfl⟩ (fun hHeld => ?_)
            clear hK K
            refine norm_ (a' := ?_) ?_ ?_
            rotate_left
            · show Act.put _ (some 114) _ = _
              simp only [Act.put, List.setIfInBounds_toArray, List.set_cons_zero, List.set_cons_succ, i64_w, i32_w]
              rfl
            refine pure_ (i := 14) (N := some 118) (v := ?_) (a' := ?_) #[true, true, true, true, true, true, true, true, true, true, true, true, true, true, true, false, false, false, false, false, false, false] rfl rfl (by kernel_rfl) (fun _ _ _ h => h) (Or.inl ⟨by rfl, ?_⟩) ?_ ?_
            rotate_left
            · intro w'
              go_simp
              with_reducible rfl
            rotate_left
            · simp only [Act.put, List.setIfInBounds_toArray, List.set_cons_zero, List.set_cons_succ, i64_w, i32_w]
              rfl
            refine pure_ (i := 15) (N := some 119) (v := undef) (a' := ?_) #[true, true, true, true, true, true, true, true, true, true, true, true, true, true, true, true, false, false, false, false, false, false] rfl rfl (by kernel_rfl) (fun _ _ _ h => h) (Or.inr ⟨by rfl, rfl⟩) ?_ ?_
            rotate_left
            · simp only [Act.put, List.setIfInBounds_toArray, List.set_cons_zero, List.set_cons_succ, i64_w, i32_w]
              rfl
            refine pure_ (i := 16) (N := some 120) (v := undef) (a' := ?_) #[true, true, true, true, true, true, true, true, true, true, true, true, true, true, true, true, true, false, false, false, false, false] rfl rfl (by kernel_rfl) (fun _ _ _ h => h) (Or.inr ⟨by rfl, rfl⟩) ?_ ?_
            rotate_left
            · simp only [Act.put, List.setIfInBounds_toArray, List.set_cons_zero, List.set_cons_succ, i64_w, i32_w]
              rfl
            refine pure_ (i := 17) (N := some 121) (v := undef) (a' := ?_) #[true, true, true, true, true, true, true, true, true, true, true, true, true, true, true, true, true, true, false, false, false, false] rfl rfl (by kernel_rfl) (fun _ _ _ h => h) (Or.inr ⟨by rfl, rfl⟩) ?_ ?_
            rotate_left
            · simp only [Act.put, List.setIfInBounds_toArray, List.set_cons_zero, List.set_cons_succ, i64_w, i32_w]
              rfl
            refine pure_ (i := 18) (N := some 122) (v := ?_) (a' := ?_) #[true, true, true, true, true, true, true, true, true, true, true, true, true, true, true, true, true, true, true, false, false, false] rfl rfl (by kernel_rfl) (fun _ _ _ h => h) (Or.inl ⟨by rfl, ?_⟩) ?_ ?_
            rotate_left
            · intro w'
              go_simp
              with_reducible rfl
            rotate_left
            · simp only [Act.put, List.setIfInBounds_toArray, List.set_cons_zero, List.set_cons_succ, i64_w, i32_w]
              rfl
            refine pure_ (i := 19) (N := some 123) (v := ?_) (a' := ?_) #[true, true, true, true, true, true, true, true, true, true, true, true, true, true, true, true, true, true, true, true, false, false] rfl rfl (by kernel_rfl) (fun _ _ _ h => h) (Or.inl ⟨by rfl, ?_⟩) ?_ ?_
            rotate_left
            · intro w'
              go_simp
              with_reducible rfl
            rotate_left
            · simp only [Act.put, List.setIfInBounds_toArray, List.set_cons_zero, List.set_cons_succ, i64_w, i32_w]
              rfl
            refine pure_ (i := 20) (N := some 124) (v := ?_) (a' := ?_) #[true, true, true, true, true, true, true, true, true, true, true, true, true, true, true, true, true, true, true, true, true, false] rfl rfl (by kernel_rfl) (fun _ _ _ h => h) (Or.inl ⟨by rfl, ?_⟩) ?_ ?_
            rotate_left
            · intro w'
              go_simp
              with_reducible rfl
            rotate_left
            · simp only [Act.put, List.setIfInBounds_toArray, List.set_cons_zero, List.set_cons_succ, i64_w, i32_w]
              rfl
            refine pure_ (i := 21) (N := some 2) (v := ?_) (a' := ?_) #[true, true, true, true, true, true, true, true, true, true, true, true, true, true, true, true, true, true, true, true, true, true] rfl rfl (by kernel_rfl) (fun _ _ _ h => h) (Or.inl ⟨by rfl, ?_⟩) ?_ ?_
            rotate_left
            · intro w'
              go_simp
              with_reducible rfl
            rotate_left
            · simp only [Act.put, List.setIfInBounds_toArray, List.set_cons_zero, List.set_cons_succ, i64_w, i32_w]
              rfl
            refine done_ (by kernel_rfl) ?_
            go_wp2_with fail
            go_ret
            exact ⟨rfl, HB.out⟩
        · have HBO := Aside0.mk ((KindP.pk_q HM.out).trans (by decide : _ = true))
          have HLT := Aside0.mk (show Lib.mayB a0_0 a0_1 a0_2 2 2 1 0 l0_8.length = false from (KindP.pk_w HM.out).trans (by decide))
          rcases (show a0_0 % 2 = 0 ∨ a0_0 % 2 = 1 by omega) with ht | ht
          · skip
            have k0 : wb.cell? ⟨w.heap.size, 0, none⟩ = some (.int .i64 a0_0) := (blk_cell HPb.out 0).trans rfl
            have k1 : wb.cell? ⟨w.heap.size, 1, none⟩ = some (.int .i64 a0_1) := (blk_cell HPb.out 1).trans rfl
            have k2 : wb.cell? ⟨w.heap.size, 2, none⟩ = some (.bool a0_2) := (blk_cell HPb.out 2).trans rfl
            have k3 : wb.cell? ⟨w.heap.size, 3, none⟩ = some (.int .i64 2) := (blk_cell HPb.out 3).trans rfl
            have k4 : wb.cell? ⟨w.heap.size, 4, none⟩ = some (.int .i64 2) := (blk_cell HPb.out 4).trans rfl
            have k5 : wb.cell? ⟨w.heap.size, 5, none⟩ = some (.int .i64 0) := (blk_cell HPb.out 5).trans rfl
            have k6 : wb.cell? ⟨w.heap.size, 6, none⟩ = some (.int .i64 0) := (blk_cell HPb.out 6).trans rfl
            have k7 : wb.cell? ⟨w.heap.size, 7, none⟩ = some (.bool a0_7) := (blk_cell HPb.out 7).trans rfl
            have k8 : wb.cell? ⟨w.heap.size, 8, none⟩ = some (.slice A0_8 l0_8.length c0_8) := (blk_cell HPb.out 8).trans rfl
            have hpw : w.heap.size < wb.heap.size := blk_lt HPb.out
            have hpw1 : w.heap.size < wb.heap.size + 1 := by omega
            have hpw2 : w.heap.size < wb.heap.size + 1 + 1 := by omega
            have hpw3 : w.heap.size ≠ wb.heap.size + 1 + 1 := by omega
            go_wp2_with fail
            generalize hW : (((wb.alloc _).alloc _).alloc _) = W
            have BP := Aside0.mk (show W.heap[w.heap.size]? = some (.cells #[.int .i64 a0_0, .int .i64 a0_1, .bool a0_2, .int .i64 2, .int .i64 2, .int .i64 0, .int .i64 0, .bool a0_7, .slice A0_8 l0_8.length c0_8] 25 (0, 0)) by rw [← hW]; exact blk_alloc (blk_alloc (blk_alloc HPb.out _) _) _)
            have BQ := Aside0.mk (show W.heap[wb.heap.size]? = some (.cells #[.int .i64 a0_0, .int .i64 a0_1, .bool (!a0_2), .int .i64 2, .int .i64 2, .int .i64 0, .int .i64 0, .bool a0_7, .slice A0_8 l0_8.length c0_8] 25 (0, 0)) by rw [← hW]; exact blk_alloc (blk_alloc (blk_new wb _) _) _)
            have BU := Aside0.mk (show W.heap[wb.heap.size + 1]? = some (.cells #[.int .i64 a0_0, .int .i64 a0_1, .bool a0_2, .int .i64 2, .int .i64 2, .int .i64 0, .int .i64 0, .bool (!a0_7), .slice A0_8 l0_8.length c0_8] 25 (0, 0)) by rw [← hW]; exact blk_alloc (KindP.blk_new2 wb _ _) _)
            have BV := Aside0.mk (show W.heap[wb.heap.size + 1 + 1]? = some (.cells #[.int .i64 a0_0, .int .i64 a0_1, .bool a0_2, .int .i64 2, .int .i64 2, .int .i64 1, .int .i64 0, .bool a0_7, .slice A0_8 l0_8.length c0_8] 25 (0, 0)) by rw [← hW]; exact KindP.blk_new3 wb _ _ _)
            have HB := Aside0.mk (show Below w.heap.size w W by rw [← hW]; exact below_alloc (below_alloc (below_alloc HBb.out _) _) _)
            clear hW k0 k1 k2 k3 k4 k5 k6 k7 k8
            refine start_ (n := 22) (S := fun w' => w'.cell? ⟨w.heap.size, 3, none⟩ = some (.int .i64 2) ∧ w'.cell? ⟨w.heap.size, 5, none⟩ = some (.int .i64 0) ∧ w'.cell? ⟨wb.heap.size, 0, none⟩ = some (.int .i64 a0_0) ∧ w'.cell? ⟨wb.heap.size, 1, none⟩ = some (.int .i64 a0_1) ∧ w'.cell? ⟨wb.heap.size, 2, none⟩ = some (.bool (!a0_2)) ∧ w'.cell? ⟨wb.heap.size, 3, none⟩ = some (.int .i64 2) ∧ w'.cell? ⟨wb.heap.size, 4, none⟩ = some (.int .i64 2) ∧ w'.cell? ⟨wb.heap.size, 5, none⟩ = some (.int .i64 0) ∧ w'.cell? ⟨wb.heap.size, 6, none⟩ = some (.int .i64 0) ∧ w'.cell? ⟨wb.heap.size, 7, none⟩ = some (.bool a0_7) ∧ w'.cell? ⟨wb.heap.size, 8, none⟩ = some (.slice A0_8 l0_8.length c0_8) ∧ w'.cell? ⟨wb.heap.size + 1, 0, none⟩ = some (.int .i64 a0_0) ∧ w'.cell? ⟨wb.heap.size + 1, 1, none⟩ = some (.int .i64 a0_1) ∧ w'.cell? ⟨wb.heap.size + 1, 2, none⟩ = some (.bool a0_2) ∧ w'.cell? ⟨wb.heap.size + 1, 3, none⟩ = some (.int .i64 2) ∧ w'.cell? ⟨wb.heap.size + 1, 4, none⟩ = some (.int .i64 2) ∧ w'.cell? ⟨wb.heap.size + 1, 5, none⟩ = some (.int .i64 0) ∧ w'.cell? ⟨wb.heap.size + 1, 6, none⟩ = some (.int .i64 0) ∧ w'.cell? ⟨wb.heap.size + 1, 7, none⟩ = some (.bool (!a0_7)) ∧ w'.cell? ⟨wb.heap.size + 1, 8, none⟩ = some (.slice A0_8 l0_8.length c0_8) ∧ w'.cell? ⟨wb.heap.size + 1 + 1, 0, none⟩ = some (.int .i64 a0_0) ∧ w'.cell? ⟨wb.heap.size + 1 + 1, 1, none⟩ = some (.int .i64 a0_1) ∧ w'.cell? ⟨wb.heap.size + 1 + 1, 2, none⟩ = some (.bool a0_2) ∧ w'.cell? ⟨wb.heap.size + 1 + 1, 3, none⟩ = some (.int .i64 2) ∧ w'.cell? ⟨wb.heap.size + 1 + 1, 4, none⟩ = some (.int .i64 2) ∧ w'.cell? ⟨wb.heap.size + 1 + 1, 5, none⟩ = some (.int .i64 1) ∧ w'.cell? ⟨wb.heap.size + 1 + 1, 6, none⟩ = some (.int .i64 0) ∧ w'.cell? ⟨wb.heap.size + 1 + 1, 7, none⟩ = some (.bool a0_7) ∧ w'.cell? ⟨wb.heap.size + 1 + 1, 8, none⟩ = some (.slice A0_8 l0_8.length c0_8)) (ds := []) #[false, false, false, false, false, false, false, false, false, false, false, false, false, false, false, false, false, false, false, false, false, false] (by kernel_rfl) rfl rfl ⟨(blk_cell BP.out 3).trans rfl, (blk_cell BP.out 5).trans rfl, (blk_cell BQ.out 0).trans rfl, (blk_cell BQ.out 1).trans rfl, (blk_cell BQ.out 2).trans rfl, (blk_cell BQ.out 3).trans rfl, (blk_cell BQ.out 4).trans rfl, (blk_cell BQ.out 5).trans rfl, (blk_cell BQ.out 6).trans rfl, (blk_cell BQ.out 7).trans rfl, (blk_cell BQ.out 8).trans rfl, (blk_cell BU.out 0).trans rfl, (blk_cell BU.out 1).trans rfl, (blk_cell BU.out 2).trans rfl, (blk_cell BU.out 3).trans rfl, (blk_cell BU.out 4).trans rfl, (blk_cell BU.out 5).trans rfl, (blk_cell BU.out 6).trans rfl, (blk_cell BU.out 7).trans rfl, (blk_cell BU.out 8).trans rfl, (blk_cell BV.out 0).trans rfl, (blk_cell BV.out 1).trans rfl, (blk_cell BV.out 2).trans rfl, (blk_cell BV.out 3).trans rfl, (blk_cell BV.out 4).trans rfl, (blk_cell BV.out 5).trans rfl, (blk_cell BV.out 6).trans rfl, (blk_cell BV.out 7).trans rfl, (blk_cell BV.out 8).trans rfl⟩ (fun hHeld => ?_)
            refine pure_ (i := 2) (N := some 106) (v := ?_) (a' := ?_) #[false, false, true, false, false, false, false, false, false, false, false, false, false, false, false, false, false, false, false, false, false, false] rfl rfl (by kernel_rfl) (fun _ _ _ h => h) (Or.inl ⟨by rfl, ?_⟩) ?_ ?_
            rotate_left
            · intro w'
              go_simp
              with_reducible rfl
            rotate_left
            · simp only [Act.put, List.setIfInBounds_toArray, List.set_cons_zero, List.set_cons_succ, i64_w, i32_w]
              rfl
            refine take_ (i := 0) (N := some 104) (v := ?_) (a' := ?_) #[true, false, true, false, false, false, false, false, false, false, false, false, false, false, false, false, false, false, false, false, false, false] rfl rfl (by kernel_rfl) (fun _ _ _ h => h) (Or.inl ⟨by rfl, ?_⟩) hHeld ?_ ?_
            rotate_left
            · rintro w' ⟨s0, s1, s2, s3, s4, s5, s6, s7, s8, s9, s10, s11, s12, s13, s14, s15, s16, s17, s18, s19, s20, s21, s22, s23, s24, s25, s26, s27, s28⟩
              go_simp
              with_reducible rfl
            rotate_left
            · simp only [Act.put, List.setIfInBounds_toArray, List.set_cons_zero, List.set_cons_succ, i64_w, i32_w]
              rfl
            refine one_ (i := 1) (N := some 105) #[true, true, true, false, false, false, false, false, false, false, false, false, false, false, false, false, false, false, false, false, false, false] rfl rfl (by kernel_rfl) (by decide) (fun K hK => ?_)
            refine goes_ Try.func34 (by kernel_rfl) rfl #[.agg #[.int .i64 a0_0, .int .i64 a0_1, .bool (!a0_2), .int .i64 2, .int .i64 2, .int .i64 0, .int .i64 0, .bool a0_7, .slice A0_8 l0_8.length c0_8]] (by rfl) rfl rfl (by simp only [List.map_toArray, List.map_cons, List.map_nil]; rfl) ?_
            with_reducible refine (pdu_May.calls 4 (a0_0) (a0_1) ((!a0_2)) (2) (2) (0) (0) (a0_7) A0_8 c0_8 l0_8 true _ (Kd.C_below HR.out (by (repeat (with_reducible first | exact HB.out | apply pw_below_drewN | apply below_drew1)))) HC.out ((Lib.may_pdu 0 _ _ _ _ _ _ _ _ _).trans (congrArg some HBO.out))).mono ?_
            rintro e w3 ⟨rfl, hb⟩
            refine ⟨_, rfl, ?_⟩
            have nBP := Aside0.mk (blk_below (g := w.heap.size) (o := (.cells #[.int .i64 a0_0, .int .i64 a0_1, .bool a0_2, .int .i64 2, .int .i64 2, .int .i64 0, .int .i64 0, .bool a0_7, .slice A0_8 l0_8.length c0_8] 25 (0, 0))) (by (with_reducible repeat (first | refine blk_drewN ?_ _ | refine blk_drew ?_)); exact BP.out) hb)
            have nBQ := Aside0.mk (blk_below (g := wb.heap.size) (o := (.cells #[.int .i64 a0_0, .int .i64 a0_1, .bool (!a0_2), .int .i64 2, .int .i64 2, .int .i64 0, .int .i64 0, .bool a0_7, .slice A0_8 l0_8.length c0_8] 25 (0, 0))) (by (with_reducible repeat (first | refine blk_drewN ?_ _ | refine blk_drew ?_)); exact BQ.out) hb)
            have nBU := Aside0.mk (blk_below (g := wb.heap.size + 1) (o := (.cells #[.int .i64 a0_0, .int .i64 a0_1, .bool a0_2, .int .i64 2, .int .i64 2, .int .i64 0, .int .i64 0, .bool (!a0_7), .slice A0_8 l0_8.length c0_8] 25 (0, 0))) (by (with_reducible repeat (first | refine blk_drewN ?_ _ | refine blk_drew ?_)); exact BU.out) hb)
            have nBV := Aside0.mk (blk_below (g := wb.heap.size + 1 + 1) (o := (.cells #[.int .i64 a0_0, .int .i64 a0_1, .bool a0_2, .int .i64 2, .int .i64 2, .int .i64 1, .int .i64 0, .bool a0_7, .slice A0_8 l0_8.length c0_8] 25 (0, 0))) (by (with_reducible repeat (first | refine blk_drewN ?_ _ | refine blk_drew ?_)); exact BV.out) hb)
            have nHB := Aside0.mk (below_step (by (repeat (with_reducible first | exact HB.out | apply pw_below_drewN | apply below_drew1))) hb)
            clear BP BQ BU BV HB hb
            have BP := nBP
            have BQ := nBQ
            have BU := nBU
            have BV := nBV
            have HB := nHB
            clear nBP nBQ nBU nBV nHB
            refine hK.out _ _ ⟨(blk_cell BP.out 3).trans rfl, (blk_cell BP.out 5).trans rfl, (blk_cell BQ.out 0).trans rfl, (blk_cell BQ.out 1).trans rfl, (blk_cell BQ.out 2).trans rfl, (blk_cell BQ.out 3).trans rfl, (blk_cell BQ.out 4).trans rfl, (blk_cell BQ.out 5).trans rfl, (blk_cell BQ.out 6).trans rfl, (blk_cell BQ.out 7).trans rfl, (blk_cell BQ.out 8).trans rfl, (blk_cell BU.out 0).trans rfl, (blk_cell BU.out 1).trans rfl, (blk_cell BU.out 2).trans rfl, (blk_cell BU.out 3).trans rfl, (blk_cell BU.out 4).trans rfl, (blk_cell BU.out 5).trans rfl, (blk_cell BU.out 6).trans rfl, (blk_cell BU.out 7).trans rfl, (blk_cell BU.out 8).trans rfl, (blk_cell BV.out 0).trans rfl, (blk_cell BV.out 1).trans rfl, (blk_cell BV.out 2).trans rfl, (blk_cell BV.out 3).trans rfl, (blk_cell BV.out 4).trans rfl, (blk_cell BV.out 5).trans rfl, (blk_cell BV.out 6).trans rfl, (blk_cell BV.out 7).trans rfl, (blk_cell BV.out 8).trans rfl⟩ (fun hHeld => ?_)
            clear hK K
            refine norm_ (a' := ?_) ?_ ?_
            rotate_left
            · show Act.put _ (some 105) _ = _
              simp only [Act.put, List.setIfInBounds_toArray, List.set_cons_zero, List.set_cons_succ, i64_w, i32_w]
              rfl
            refine pure_ (i := 3) (N := some 107) (v := ?_) (a' := ?_) #[true, true, true, true, false, false, false, false, false, false, false, false, false, false, false, false, false, false, false, false, false, false] rfl rfl (by kernel_rfl) (fun _ _ _ h => h) (Or.inl ⟨by rfl, ?_⟩) ?_ ?_
            rotate_left
            · intro w'
              go_simp
              with_reducible rfl
            rotate_left
            · simp only [Act.put, List.setIfInBounds_toArray, List.set_cons_zero, List.set_cons_succ, i64_w, i32_w]
              rfl
            refine pure_ (i := 4) (N := some 108) (v := ?_) (a' := ?_) #[true, true, true, true, true, false, false, false, false, false, false, false, false, false, false, false, false, false, false, false, false, false] rfl rfl (by kernel_rfl) (fun _ _ _ h => h) (Or.inl ⟨by rfl, ?_⟩) ?_ ?_
            rotate_left
            · intro w'
              go_simp
              with_reducible rfl
            rotate_left
            · simp only [Act.put, List.setIfInBounds_toArray, List.set_cons_zero, List.set_cons_succ, i64_w, i32_w]
              rfl
            refine take_ (i := 5) (N := some 109) (v := ?_) (a' := ?_) #[true, true, true, true, true, true, false, false, false, false, false, false, false, false, false, false, false, false, false, false, false, false] rfl rfl (by kernel_rfl) (fun _ _ _ h => h) (Or.inl ⟨by rfl, ?_⟩) hHeld ?_ ?_
            rotate_left
            · rintro w' ⟨s0, s1, s2, s3, s4, s5, s6, s7, s8, s9, s10, s11, s12, s13, s14, s15, s16, s17, s18, s19, s20, s21, s22, s23, s24, s25, s26, s27, s28⟩
              go_simp
              with_reducible rfl
            rotate_left
            · simp only [Act.put, List.setIfInBounds_toArray, List.set_cons_zero, List.set_cons_succ, i64_w, i32_w]
              rfl
            refine one_ (i := 6) (N := some 110) #[true, true, true, true, true, true, true, false, false, false, false, false, false, false, false, false, false, false, false, false, false, false] rfl rfl (by kernel_rfl) (by decide) (fun K hK => ?_)
            refine goes_ Try.func34 (by kernel_rfl) rfl #[.agg #[.int .i64 a0_0, .int .i64 a0_1, .bool a0_2, .int .i64 2, .int .i64 2, .int .i64 0, .int .i64 0, .bool (!a0_7), .slice A0_8 l0_8.length c0_8]] (by rfl) rfl rfl (by simp only [List.map_toArray, List.map_cons, List.map_nil]; rfl) ?_
            with_reducible refine (pdu_May.calls 4 (a0_0) (a0_1) (a0_2) (2) (2) (0) (0) ((!a0_7)) A0_8 c0_8 l0_8 true _ (Kd.C_below HR.out (by (repeat (with_reducible first | exact HB.out | apply pw_below_drewN | apply below_drew1)))) HC.out (KindP.pk_poll (!a0_7) l0_8 HM.out rfl)).mono ?_
            rintro e w3 ⟨rfl, hb⟩
            refine ⟨_, rfl, ?_⟩
            have nBP := Aside0.mk (blk_below (g := w.heap.size) (o := (.cells #[.int .i64 a0_0, .int .i64 a0_1, .bool a0_2, .int .i64 2, .int .i64 2, .int .i64 0, .int .i64 0, .bool a0_7, .slice A0_8 l0_8.length c0_8] 25 (0, 0))) (by (with_reducible repeat (first | refine blk_drewN ?_ _ | refine blk_drew ?_)); exact BP.out) hb)
            have nBQ := Aside0.mk (blk_below (g := wb.heap.size) (o := (.cells #[.int .i64 a0_0, .int .i64 a0_1, .bool (!a0_2), .int .i64 2, .int .i64 2, .int .i64 0, .int .i64 0, .bool a0_7, .slice A0_8 l0_8.length c0_8] 25 (0, 0))) (by (with_reducible repeat (first | refine blk_drewN ?_ _ | refine blk_drew ?_)); exact BQ.out) hb)
            have nBU := Aside0.mk (blk_below (g := wb.heap.size + 1) (o := (.cells #[.int .i64 a0_0, .int .i64 a0_1, .bool a0_2, .int .i64 2, .int .i64 2, .int .i64 0, .int .i64 0, .bool (!a0_7), .slice A0_8 l0_8.length c0_8] 25 (0, 0))) (by (with_reducible repeat (first | refine blk_drewN ?_ _ | refine blk_drew ?_)); exact BU.out) hb)
            have nBV := Aside0.mk (blk_below (g := wb.heap.size + 1 + 1) (o := (.cells #[.int .i64 a0_0, .int .i64 a0_1, .bool a0_2, .int .i64 2, .int .i64 2, .int .i64 1, .int .i64 0, .bool a0_7, .slice A0_8 l0_8.length c0_8] 25 (0, 0))) (by (with_reducible repeat (first | refine blk_drewN ?_ _ | refine blk_drew ?_)); exact BV.out) hb)
            have nHB := Aside0.mk (below_step (by (repeat (with_reducible first | exact HB.out | apply pw_below_drewN | apply below_drew1))) hb)
            clear BP BQ BU BV HB hb
            have BP := nBP
            have BQ := nBQ
            have BU := nBU
            have BV := nBV
            have HB := nHB
            clear nBP nBQ nBU nBV nHB
            refine hK.out _ _ ⟨(blk_cell BP.out 3).trans rfl, (blk_cell BP.out 5).trans rfl, (blk_cell BQ.out 0).trans rfl, (blk_cell BQ.out 1).trans rfl, (blk_cell BQ.out 2).trans rfl, (blk_cell BQ.out 3).trans rfl, (blk_cell BQ.out 4).trans rfl, (blk_cell BQ.out 5).trans rfl, (blk_cell BQ.out 6).trans rfl, (blk_cell BQ.out 7).trans rfl, (blk_cell BQ.out 8).trans rfl, (blk_cell BU.out 0).trans rfl, (blk_cell BU.out 1).trans rfl, (blk_cell BU.out 2).trans rfl, (blk_cell BU.out 3).trans rfl, (blk_cell BU.out 4).trans rfl, (blk_cell BU.out 5).trans rfl, (blk_cell BU.out 6).trans rfl, (blk_cell BU.out 7).trans rfl, (blk_cell BU.out 8).trans rfl, (blk_cell BV.out 0).trans rfl, (blk_cell BV.out 1).trans rfl, (blk_cell BV.out 2).trans rfl, (blk_cell BV.out 3).trans rfl, (blk_cell BV.out 4).trans rfl, (blk_cell BV.out 5).trans rfl, (blk_cell BV.out 6).trans rfl, (blk_cell BV.out 7).trans rfl, (blk_cell BV.out 8).trans rfl⟩ (fun hHeld => ?_)
            clear hK K
            refine norm_ (a' := ?_) ?_ ?_
            rotate_left
            · show Act.put _ (some 110) _ = _
              simp only [Act.put, List.setIfInBounds_toArray, List.set_cons_zero, List.set_cons_succ, i64_w, i32_w]
              rfl
            refine pure_ (i := 7) (N := some 111) (v := ?_) (a' := ?_) #[true, true, true, true, true, true, true, true, false, false, false, false, false, false, false, false, false, false, false, false, false, false] rfl rfl (by kernel_rfl) (fun _ _ _ h => h) (Or.inl ⟨by rfl, ?_⟩) ?_ ?_
            rotate_left
            · intro w'
              go_simp
              with_reducible rfl
            rotate_left
            · simp only [Act.put, List.setIfInBounds_toArray, List.set_cons_zero, List.set_cons_succ, i64_w, i32_w]
              rfl
            refine pure_ (i := 8) (N := some 112) (v := ?_) (a' := ?_) #[true, true, true, true, true, true, true, true, true, false, false, false, false, false, false, false, false, false, false, false, false, false] rfl rfl (by kernel_rfl) (fun _ _ _ h => h) (Or.inl ⟨by rfl, ?_⟩) ?_ ?_
            rotate_left
            · intro w'
              go_simp
              with_reducible rfl
            rotate_left
            · simp only [Act.put, List.setIfInBounds_toArray, List.set_cons_zero, List.set_cons_succ, i64_w, i32_w]
              rfl
            refine pure_ (i := 11) (N := some 115) (v := ?_) (a' := ?_) #[true, true, true, true, true, true, true, true, true, false, false, true, false, false, false, false, false, false, false, false, false, false] rfl rfl (by kernel_rfl) (fun _ _ _ h => h) (Or.inl ⟨by rfl, ?_⟩) ?_ ?_
            rotate_left
            · intro w'
              go_simp
              with_reducible rfl
            rotate_left
            · simp only [Act.put, List.setIfInBounds_toArray, List.set_cons_zero, List.set_cons_succ, i64_w, i32_w]
              rfl
            refine take_ (i := 9) (N := some 113) (v := ?_) (a' := ?_) #[true, true, true, true, true, true, true, true, true, true, false, true, false, false, false, false, false, false, false, false, false, false] rfl rfl (by kernel_rfl) (fun _ _ _ h => h) (Or.inl ⟨by rfl, ?_⟩) hHeld ?_ ?_
            rotate_left
            · rintro w' ⟨s0, s1, s2, s3, s4, s5, s6, s7, s8, s9, s10, s11, s12, s13, s14, s15, s16, s17, s18, s19, s20, s21, s22, s23, s24, s25, s26, s27, s28⟩
              go_simp
              with_reducible rfl
            rotate_left
            · simp only [Act.put, List.setIfInBounds_toArray, List.set_cons_zero, List.set_cons_succ, i64_w, i32_w]
              rfl
            refine take_ (i := 12) (N := some 116) (v := ?_) (a' := ?_) #[true, true, true, true, true, true, true, true, true, true, false, true, true, false, false, false, false, false, false, false, false, false] rfl rfl (by kernel_rfl) (fun _ _ _ h => h) (Or.inl ⟨by rfl, ?_⟩) hHeld ?_ ?_
            rotate_left
            · rintro w' ⟨s0, s1, s2, s3, s4, s5, s6, s7, s8, s9, s10, s11, s12, s13, s14, s15, s16, s17, s18, s19, s20, s21, s22, s23, s24, s25, s26, s27, s28⟩
              go_simp
              with_reducible rfl
            rotate_left
            · simp only [Act.put, List.setIfInBounds_toArray, List.set_cons_zero, List.set_cons_succ, i64_w, i32_w]
              rfl
            refine pure_ (i := 13) (N := some 117) (v := ?_) (a' := ?_) #[true, true, true, true, true, true, true, true, true, true, false, true, true, true, false, false, false, false, false, false, false, false] rfl rfl (by kernel_rfl) (fun _ _ _ h => h) (Or.inl ⟨by rfl, ?_⟩) ?_ ?_
            rotate_left
            · intro w'
              go_simp
              with_reducible rfl
            rotate_left
            · simp only [Act.put, List.setIfInBounds_toArray, List.set_cons_zero, List.set_cons_succ, i64_w, i32_w]
              rfl
            refine one_ (i := 10) (N := some 114) #[true, true, true, true, true, true, true, true, true, true, true, true, true, true, false, false, false, false, false, false, false, false] rfl rfl (by kernel_rfl) (by decide) (fun K hK => ?_)
            refine goes_ Try.func34 (by kernel_rfl) rfl #[.agg #[.int .i64 a0_0, .int .i64 a0_1, .bool a0_2, .int .i64 2, .int .i64 2, .int .i64 1, .int .i64 0, .bool a0_7, .slice A0_8 l0_8.length c0_8]] (by rfl) rfl rfl (by simp only [List.map_toArray, List.map_cons, List.map_nil]; rfl) ?_
            with_reducible refine (pdu_May.calls 4 (a0_0) (a0_1) (a0_2) (2) (2) (1) (0) (a0_7) A0_8 c0_8 l0_8 false _ (Kd.C_below HR.out (by (repeat (with_reducible first | exact HB.out | apply pw_below_drewN | apply below_drew1)))) HC.out ((Lib.may_pdu 0 _ _ _ _ _ _ _ _ _).trans (congrArg some HLT.out))).mono ?_
            rintro e w3 ⟨rfl, hb⟩
            refine ⟨_, rfl, ?_⟩
            have nBP := Aside0.mk (blk_below (g := w.heap.size) (o := (.cells #[.int .i64 a0_0, .int .i64 a0_1, .bool a0_2, .int .i64 2, .int .i64 2, .int .i64 0, .int .i64 0, .bool a0_7, .slice A0_8 l0_8.length c0_8] 25 (0, 0))) (by (with_reducible repeat (first | refine blk_drewN ?_ _ | refine blk_drew ?_)); exact BP.out) hb)
            have nBQ := Aside0.mk (blk_below (g := wb.heap.size) (o := (.cells #[.int .i64 a0_0, .int .i64 a0_1, .bool (!a0_2), .int .i64 2, .int .i64 2, .int .i64 0, .int .i64 0, .bool a0_7, .slice A0_8 l0_8.length c0_8] 25 (0, 0))) (by (with_reducible repeat (first | refine blk_drewN ?_ _ | refine blk_drew ?_)); exact BQ.out) hb)
            have nBU := Aside0.mk (blk_below (g := wb.heap.size + 1) (o := (.cells #[.int .i64 a0_0, .int .i64 a0_1, .bool a0_2, .int .i64 2, .int .i64 2, .int .i64 0, .int .i64 0, .bool (!a0_7), .slice A0_8 l0_8.length c0_8] 25 (0, 0))) (by (with_reducible repeat (first | refine blk_drewN ?_ _ | refine blk_drew ?_)); exact BU.out) hb)
            have nBV := Aside0.mk (blk_below (g := wb.heap.size + 1 + 1) (o := (.cells #[.int .i64 a0_0, .int .i64 a0_1, .bool a0_2, .int .i64 2, .int .i64 2, .int .i64 1, .int .i64 0, .bool a0_7, .slice A0_8 l0_8.length c0_8] 25 (0, 0))) (by (with_reducible repeat (first | refine blk_drewN ?_ _ | refine blk_drew ?_)); exact BV.out) hb)
            have nHB := Aside0.mk (below_step (by (repeat (with_reducible first | exact HB.out | apply pw_below_drewN | apply below_drew1))) hb)
            clear BP BQ BU BV HB hb
            have BP := nBP
            have BQ := nBQ
            have BU := nBU
            have BV := nBV
            have HB := nHB
            clear nBP nBQ nBU nBV nHB
            refine hK.out _ _ ⟨(blk_cell BP.out 3).trans rfl, (blk_cell BP.out 5).trans rfl, (blk_cell BQ.out 0).trans rfl, (blk_cell BQ.out 1).trans rfl, (blk_cell BQ.out 2).trans rfl, (blk_cell BQ.out 3).trans rfl, (blk_cell BQ.out 4).trans rfl, (blk_cell BQ.out 5).trans rfl, (blk_cell BQ.out 6).trans rfl, (blk_cell BQ.out 7).trans rfl, (blk_cell BQ.out 8).trans rfl, (blk_cell BU.out 0).trans rfl, (blk_cell BU.out 1).trans rfl, (blk_cell BU.out 2).trans rfl, (blk_cell BU.out 3).trans rfl, (blk_cell BU.out 4).trans rfl, (blk_cell BU.out 5).trans rfl, (blk_cell BU.out 6).trans rfl, (blk_cell BU.out 7).trans rfl, (blk_cell BU.out 8).trans rfl, (blk_cell BV.out 0).trans rfl, (blk_cell BV.out 1).trans rfl, (blk_cell BV.out 2).trans rfl, (blk_cell BV.out 3).trans rfl, (blk_cell BV.out 4).trans rfl, (blk_cell BV.out 5).trans rfl, (blk_cell BV.out 6).trans rfl, (blk_cell BV.out 7).trans rfl, (blk_cell BV.out 8).trans rfl⟩ (fun hHeld => ?_)
            clear hK K
            refine norm_ (a' := ?_) ?_ ?_
            rotate_left
            · show Act.put _ (some 114) _ = _
              simp only [Act.put, List.setIfInBounds_toArray, List.set_cons_zero, List.set_cons_succ, i64_w, i32_w]
              rfl
            refine pure_ (i := 14) (N := some 118) (v := ?_) (a' := ?_) #[true, true, true, true, true, true, true, true, true, true, true, true, true, true, true, false, false, false, false, false, false, false] rfl rfl (by kernel_rfl) (fun _ _ _ h => h) (Or.inl ⟨by rfl, ?_⟩) ?_ ?_
            rotate_left
            · intro w'
              go_simp
              with_reducible rfl
            rotate_left
            · simp only [Act.put, List.setIfInBounds_toArray, List.set_cons_zero, List.set_cons_succ, i64_w, i32_w]
              rfl
            refine pure_ (i := 15) (N := some 119) (v := undef) (a' := ?_) #[true, true, true, true, true, true, true, true, true, true, true, true, true, true, true, true, false, false, false, false, false, false] rfl rfl (by kernel_rfl) (fun _ _ _ h => h) (Or.inr ⟨by rfl, rfl⟩) ?_ ?_
            rotate_left
            · simp only [Act.put, List.setIfInBounds_toArray, List.set_cons_zero, List.set_cons_succ, i64_w, i32_w]
              rfl
            refine pure_ (i := 16) (N := some 120) (v := undef) (a' := ?_) #[true, true, true, true, true, true, true, true, true, true, true, true, true, true, true, true, true, false, false, false, false, false] rfl rfl (by kernel_rfl) (fun _ _ _ h => h) (Or.inr ⟨by rfl, rfl⟩) ?_ ?_
            rotate_left
            · simp only [Act.put, List.setIfInBounds_toArray, List.set_cons_zero, List.set_cons_succ, i64_w, i32_w]
              rfl
            refine pure_ (i := 17) (N := some 121) (v := undef) (a' := ?_) #[true, true, true, true, true, true, true, true, true, true, true, true, true, true, true, true, true, true, false, false, false, false] rfl rfl (by kernel_rfl) (fun _ _ _ h => h) (Or.inr ⟨by rfl, rfl⟩) ?_ ?_
            rotate_left
            · simp only [Act.put, List.setIfInBounds_toArray, List.set_cons_zero, List.set_cons_succ, i64_w, i32_w]
              rfl
            refine pure_ (i := 18) (N := some 122) (v := ?_) (a' := ?_) #[true, true, true, true, true, true, true, true, true, true, true, true, true, true, true, true, true, true, true, false, false, false] rfl rfl (by kernel_rfl) (fun _ _ _ h => h) (Or.inl ⟨by rfl, ?_⟩) ?_ ?_
            rotate_left
            · intro w'
              go_simp
              with_reducible rfl
            rotate_left
            · simp only [Act.put, List.setIfInBounds_toArray, List.set_cons_zero, List.set_cons_succ, i64_w, i32_w]
              rfl
            refine pure_ (i := 19) (N := some 123) (v := ?_) (a' := ?_) #[true, true, true, true, true, true, true, true, true, true, true, true, true, true, true, true, true, true, true, true, false, false] rfl rfl (by kernel_rfl) (fun _ _ _ h => h) (Or.inl ⟨by rfl, ?_⟩) ?_ ?_
            rotate_left
            · intro w'
              go_simp
              with_reducible rfl
            rotate_left
            · simp only [Act.put, List.setIfInBounds_toArray, List.set_cons_zero, List.set_cons_succ, i64_w, i32_w]
              rfl
            refine pure_ (i := 20) (N := some 124) (v := ?_) (a' := ?_) #[true, true, true, true, true, true, true, true, true, true, true, true, true, true, true, true, true, true, true, true, true, false] rfl rfl (by kernel_rfl) (fun _ _ _ h => h) (Or.inl ⟨by rfl, ?_⟩) ?_ ?_
            rotate_left
            · intro w'
              go_simp
              with_reducible rfl
            rotate_left
            · simp only [Act.put, List.setIfInBounds_toArray, List.set_cons_zero, List.set_cons_succ, i64_w, i32_w]
              rfl
            refine pure_ (i := 21) (N := some 2) (v := ?_) (a' := ?_) #[true, true, true, true, true, true, true, true, true, true, true, true, true, true, true, true, true, true, true, true, true, true] rfl rfl (by kernel_rfl) (fun _ _ _ h => h) (Or.inl ⟨by rfl, ?_⟩) ?_ ?_
            rotate_left
            · intro w'
              go_simp
              with_reducible rfl
            rotate_left
            · simp only [Act.put, List.setIfInBounds_toArray, List.set_cons_zero, List.set_cons_succ, i64_w, i32_w]
              rfl
            refine done_ (by kernel_rfl) ?_
            go_wp2_with fail
            go_ret
            exact ⟨rfl, HB.out⟩
          · skip
            have k0 : wb.cell? ⟨w.heap.size, 0, none⟩ = some (.int .i64 a0_0) := (blk_cell HPb.out 0).trans rfl
            have k1 : wb.cell? ⟨w.heap.size, 1, none⟩ = some (.int .i64 a0_1) := (blk_cell HPb.out 1).trans rfl
            have k2 : wb.cell? ⟨w.heap.size, 2, none⟩ = some (.bool a0_2) := (blk_cell HPb.out 2).trans rfl
            have k3 : wb.cell? ⟨w.heap.size, 3, none⟩ = some (.int .i64 2) := (blk_cell HPb.out 3).trans rfl
            have k4 : wb.cell? ⟨w.heap.size, 4, none⟩ = some (.int .i64 2) := (blk_cell HPb.out 4).trans rfl
            have k5 : wb.cell? ⟨w.heap.size, 5, none⟩ = some (.int .i64 0) := (blk_cell HPb.out 5).trans rfl
            have k6 : wb.cell? ⟨w.heap.size, 6, none⟩ = some (.int .i64 0) := (blk_cell HPb.out 6).trans rfl
            have k7 : wb.cell? ⟨w.heap.size, 7, none⟩ = some (.bool a0_7) := (blk_cell HPb.out 7).trans rfl
            have k8 : wb.cell? ⟨w.heap.size, 8, none⟩ = some (.slice A0_8 l0_8.length c0_8) := (blk_cell HPb.out 8).trans rfl
            have hpw : w.heap.size < wb.heap.size := blk_lt HPb.out
            have hpw1 : w.heap.size < wb.heap.size + 1 := by omega
            have hpw2 : w.heap.size < wb.heap.size + 1 + 1 := by omega
            have hpw3 : w.heap.size ≠ wb.heap.size + 1 + 1 := by omega
            go_wp2_with fail
            generalize hW : (((wb.alloc _).alloc _).alloc _) = W
            have BP := Aside0.mk (show W.heap[w.heap.size]? = some (.cells #[.int .i64 a0_0, .int .i64 a0_1, .bool a0_2, .int .i64 2, .int .i64 2, .int .i64 0, .int .i64 0, .bool a0_7, .slice A0_8 l0_8.length c0_8] 25 (0, 0)) by rw [← hW]; exact blk_alloc (blk_alloc (blk_alloc HPb.out _) _) _)
            have BQ := Aside0.mk (show W.heap[wb.heap.size]? = some (.cells #[.int .i64 a0_0, .int .i64 a0_1, .bool (!a0_2), .int .i64 2, .int .i64 2, .int .i64 0, .int .i64 0, .bool a0_7, .slice A0_8 l0_8.length c0_8] 25 (0, 0)) by rw [← hW]; exact blk_alloc (blk_alloc (blk_new wb _) _) _)
            have BU := Aside0.mk (show W.heap[wb.heap.size + 1]? = some (.cells #[.int .i64 a0_0, .int .i64 a0_1, .bool a0_2, .int .i64 2, .int .i64 2, .int .i64 0, .int .i64 0, .bool (!a0_7), .slice A0_8 l0_8.length c0_8] 25 (0, 0)) by rw [← hW]; exact blk_alloc (KindP.blk_new2 wb _ _) _)
            have BV := Aside0.mk (show W.heap[wb.heap.size + 1 + 1]? = some (.cells #[.int .i64 a0_0, .int .i64 a0_1, .bool a0_2, .int .i64 2, .int .i64 2, .int .i64 1, .int .i64 0, .bool a0_7, .slice A0_8 l0_8.length c0_8] 25 (0, 0)) by rw [← hW]; exact KindP.blk_new3 wb _ _ _)
            have HB := Aside0.mk (show Below w.heap.size w W by rw [← hW]; exact below_alloc (below_alloc (below_alloc HBb.out _) _) _)
            clear hW k0 k1 k2 k3 k4 k5 k6 k7 k8
            refine start_ (n := 22) (S := fun w' => w'.cell? ⟨w.heap.size, 3, none⟩ = some (.int .i64 2) ∧ w'.cell? ⟨w.heap.size, 5, none⟩ = some (.int .i64 0) ∧ w'.cell? ⟨wb.heap.size, 0, none⟩ = some (.int .i64 a0_0) ∧ w'.cell? ⟨wb.heap.size, 1, none⟩ = some (.int .i64 a0_1) ∧ w'.cell? ⟨wb.heap.size, 2, none⟩ = some (.bool (!a0_2)) ∧ w'.cell? ⟨wb.heap.size, 3, none⟩ = some (.int .i64 2) ∧ w'.cell? ⟨wb.heap.size, 4, none⟩ = some (.int .i64 2) ∧ w'.cell? ⟨wb.heap.size, 5, none⟩ = some (.int .i64 0) ∧ w'.cell? ⟨wb.heap.size, 6, none⟩ = some (.int .i64 0) ∧ w'.cell? ⟨wb.heap.size, 7, none⟩ = some (.bool a0_7) ∧ w'.cell? ⟨wb.heap.size, 8, none⟩ = some (.slice A0_8 l0_8.length c0_8) ∧ w'.cell? ⟨wb.heap.size + 1, 0, none⟩ = some (.int .i64 a0_0) ∧ w'.cell? ⟨wb.heap.size + 1, 1, none⟩ = some (.int .i64 a0_1) ∧ w'.cell? ⟨wb.heap.size + 1, 2, none⟩ = some (.bool a0_2) ∧ w'.cell? ⟨wb.heap.size + 1, 3, none⟩ = some (.int .i64 2) ∧ w'.cell? ⟨wb.heap.size + 1, 4, none⟩ = some (.int .i64 2) ∧ w'.cell? ⟨wb.heap.size + 1, 5, none⟩ = some (.int .i64 0) ∧ w'.cell? ⟨wb.heap.size + 1, 6, none⟩ = some (.int .i64 0) ∧ w'.cell? ⟨wb.heap.size + 1, 7, none⟩ = some (.bool (!a0_7)) ∧ w'.cell? ⟨wb.heap.size + 1, 8, none⟩ = some (.slice A0_8 l0_8.length c0_8) ∧ w'.cell? ⟨wb.heap.size + 1 + 1, 0, none⟩ = some (.int .i64 a0_0) ∧ w'.cell? ⟨wb.heap.size + 1 + 1, 1, none⟩ = some (.int .i64 a0_1) ∧ w'.cell? ⟨wb.heap.size + 1 + 1, 2, none⟩ = some (.bool a0_2) ∧ w'.cell? ⟨wb.heap.size + 1 + 1, 3, none⟩ = some (.int .i64 2) ∧ w'.cell? ⟨wb.heap.size + 1 + 1, 4, none⟩ = some (.int .i64 2) ∧ w'.cell? ⟨wb.heap.size + 1 + 1, 5, none⟩ = some (.int .i64 1) ∧ w'.cell? ⟨wb.heap.size + 1 + 1, 6, none⟩ = some (.int .i64 0) ∧ w'.cell? ⟨wb.heap.size + 1 + 1, 7, none⟩ = some (.bool a0_7) ∧ w'.cell? ⟨wb.heap.size + 1 + 1, 8, none⟩ = some (.slice A0_8 l0_8.length c0_8)) (ds := []) #[false, false, false, false, false, false, false, false, false, false, false, false, false, false, false, false, false, false, false, false, false, false] (by kernel_rfl) rfl rfl ⟨(blk_cell BP.out 3).trans rfl, (blk_cell BP.out 5).trans rfl, (blk_cell BQ.out 0).trans rfl, (blk_cell BQ.out 1).trans rfl, (blk_cell BQ.out 2).trans rfl, (blk_cell BQ.out 3).trans rfl, (blk_cell BQ.out 4).trans rfl, (blk_cell BQ.out 5).trans rfl, (blk_cell BQ.out 6).trans rfl, (blk_cell BQ.out 7).trans rfl, (blk_cell BQ.out 8).trans rfl, (blk_cell BU.out 0).trans rfl, (blk_cell BU.out 1).trans rfl, (blk_cell BU.out 2).trans rfl, (blk_cell BU.out 3).trans rfl, (blk_cell BU.out 4).trans rfl, (blk_cell BU.out 5).trans rfl, (blk_cell BU.out 6).trans rfl, (blk_cell BU.out 7).trans rfl, (blk_cell BU.out 8).trans rfl, (blk_cell BV.out 0).trans rfl, (blk_cell BV.out 1).trans rfl, (blk_cell BV.out 2).trans rfl, (blk_cell BV.out 3).trans rfl, (blk_cell BV.out 4).trans rfl, (blk_cell BV.out 5).trans rfl, (blk_cell BV.out 6).trans rfl, (blk_cell BV.out 7).trans rfl, (blk_cell BV.out 8).trans rfl⟩ (fun hHeld => ?_)
            refine pure_ (i := 2) (N := some 106) (v := ?_) (a' := ?_) #[false, false, true, false, false, false, false, false, false, false, false, false, false, false, false, false, false, false, false, false, false, false] rfl rfl (by kernel_rfl) (fun _ _ _ h => h) (Or.inl ⟨by rfl, ?_⟩) ?_ ?_
            rotate_left
            · intro w'
              go_simp
              with_reducible rfl
            rotate_left
            · simp only [Act.put, List.setIfInBounds_toArray, List.set_cons_zero, List.set_cons_succ, i64_w, i32_w]
              rfl
            refine take_ (i := 0) (N := some 104) (v := ?_) (a' := ?_) #[true, false, true, false, false, false, false, false, false, false, false, false, false, false, false, false, false, false, false, false, false, false] rfl rfl (by kernel_rfl) (fun _ _ _ h => h) (Or.inl ⟨by rfl, ?_⟩) hHeld ?_ ?_
            rotate_left
            · rintro w' ⟨s0, s1, s2, s3, s4, s5, s6, s7, s8, s9, s10, s11, s12, s13, s14, s15, s16, s17, s18, s19, s20, s21, s22, s23, s24, s25, s26, s27, s28⟩
              go_simp
              with_reducible rfl
            rotate_left
            · simp only [Act.put, List.setIfInBounds_toArray, List.set_cons_zero, List.set_cons_succ, i64_w, i32_w]
              rfl
            refine one_ (i := 1) (N := some 105) #[true, true, true, false, false, false, false, false, false, false, false, false, false, false, false, false, false, false, false, false, false, false] rfl rfl (by kernel_rfl) (by decide) (fun K hK => ?_)
            refine goes_ Try.func34 (by kernel_rfl) rfl #[.agg #[.int .i64 a0_0, .int .i64 a0_1, .bool (!a0_2), .int .i64 2, .int .i64 2, .int .i64 0, .int .i64 0, .bool a0_7, .slice A0_8 l0_8.length c0_8]] (by rfl) rfl rfl (by simp only [List.map_toArray, List.map_cons, List.map_nil]; rfl) ?_
            with_reducible refine (pdu_May.calls 4 (a0_0) (a0_1) ((!a0_2)) (2) (2) (0) (0) (a0_7) A0_8 c0_8 l0_8 true _ (Kd.C_below HR.out (by (repeat (with_reducible first | exact HB.out | apply pw_below_drewN | apply below_drew1)))) HC.out ((Lib.may_pdu 0 _ _ _ _ _ _ _ _ _).trans (congrArg some HBO.out))).mono ?_
            rintro e w3 ⟨rfl, hb⟩
            refine ⟨_, rfl, ?_⟩
            have nBP := Aside0.mk (blk_below (g := w.heap.size) (o := (.cells #[.int .i64 a0_0, .int .i64 a0_1, .bool a0_2, .int .i64 2, .int .i64 2, .int .i64 0, .int .i64 0, .bool a0_7, .slice A0_8 l0_8.length c0_8] 25 (0, 0))) (by (with_reducible repeat (first | refine blk_drewN ?_ _ | refine blk_drew ?_)); exact BP.out) hb)
            have nBQ := Aside0.mk (blk_below (g := wb.heap.size) (o := (.cells #[.int .i64 a0_0, .int .i64 a0_1, .bool (!a0_2), .int .i64 2, .int .i64 2, .int .i64 0, .int .i64 0, .bool a0_7, .slice A0_8 l0_8.length c0_8] 25 (0, 0))) (by (with_reducible repeat (first | refine blk_drewN ?_ _ | refine blk_drew ?_)); exact BQ.out) hb)
            have nBU := Aside0.mk (blk_below (g := wb.heap.size + 1) (o := (.cells #[.int .i64 a0_0, .int .i64 a0_1, .bool a0_2, .int .i64 2, .int .i64 2, .int .i64 0, .int .i64 0, .bool (!a0_7), .slice A0_8 l0_8.length c0_8] 25 (0, 0))) (by (with_reducible repeat (first | refine blk_drewN ?_ _ | refine blk_drew ?_)); exact BU.out) hb)
            have nBV := Aside0.mk (blk_below (g := wb.heap.size + 1 + 1) (o := (.cells #[.int .i64 a0_0, .int .i64 a0_1, .bool a0_2, .int .i64 2, .int .i64 2, .int .i64 1, .int .i64 0, .bool a0_7, .slice A0_8 l0_8.length c0_8] 25 (0, 0))) (by (with_reducible repeat (first | refine blk_drewN ?_ _ | refine blk_drew ?_)); exact BV.out) hb)
            have nHB := Aside0.mk (below_step (by (repeat (with_reducible first | exact HB.out | apply pw_below_drewN | apply below_drew1))) hb)
            clear BP BQ BU BV HB hb
            have BP := nBP
            have BQ := nBQ
            have BU := nBU
            have BV := nBV
            have HB := nHB
            clear nBP nBQ nBU nBV nHB
            refine hK.out _ _ ⟨(blk_cell BP.out 3).trans rfl, (blk_cell BP.out 5).trans rfl, (blk_cell BQ.out 0).trans rfl, (blk_cell BQ.out 1).trans rfl, (blk_cell BQ.out 2).trans rfl, (blk_cell BQ.out 3).trans rfl, (blk_cell BQ.out 4).trans rfl, (blk_cell BQ.out 5).trans rfl, (blk_cell BQ.out 6).trans rfl, (blk_cell BQ.out 7).trans rfl, (blk_cell BQ.out 8).trans rfl, (blk_cell BU.out 0).trans rfl, (blk_cell BU.out 1).trans rfl, (blk_cell BU.out 2).trans rfl, (blk_cell BU.out 3).trans rfl, (blk_cell BU.out 4).trans rfl, (blk_cell BU.out 5).trans rfl, (blk_cell BU.out 6).trans rfl, (blk_cell BU.out 7).trans rfl, (blk_cell BU.out 8).trans rfl, (blk_cell BV.out 0).trans rfl, (blk_cell BV.out 1).trans rfl, (blk_cell BV.out 2).trans rfl, (blk_cell BV.out 3).trans rfl, (blk_cell BV.out 4).trans rfl, (blk_cell BV.out 5).trans rfl, (blk_cell BV.out 6).trans rfl, (blk_cell BV.out 7).trans rfl, (blk_cell BV.out 8).trans rfl⟩ (fun hHeld => ?_)
            clear hK K
            refine norm_ (a' := ?_) ?_ ?_
            rotate_left
            · show Act.put _ (some 105) _ = _
              simp only [Act.put, List.setIfInBounds_toArray, List.set_cons_zero, List.set_cons_succ, i64_w, i32_w]
              rfl
            refine pure_ (i := 3) (N := some 107) (v := ?_) (a' := ?_) #[true, true, true, true, false, false, false, false, false, false, false, false, false, false, false, false, false, false, false, false, false, false] rfl rfl (by kernel_rfl) (fun _ _ _ h => h) (Or.inl ⟨by rfl, ?_⟩) ?_ ?_
            rotate_left
            · intro w'
              go_simp
              with_reducible rfl
            rotate_left
            · simp only [Act.put, List.setIfInBounds_toArray, List.set_cons_zero, List.set_cons_succ, i64_w, i32_w]
              rfl
            refine pure_ (i := 4) (N := some 108) (v := ?_) (a' := ?_) #[true, true, true, true, true, false, false, false, false, false, false, false, false, false, false, false, false, false, false, false, false, false] rfl rfl (by kernel_rfl) (fun _ _ _ h => h) (Or.inl ⟨by rfl, ?_⟩) ?_ ?_
            rotate_left
            · intro w'
              go_simp
              with_reducible rfl
            rotate_left
            · simp only [Act.put, List.setIfInBounds_toArray, List.set_cons_zero, List.set_cons_succ, i64_w, i32_w]
              rfl
            refine take_ (i := 5) (N := some 109) (v := ?_) (a' := ?_) #[true, true, true, true, true, true, false, false, false, false, false, false, false, false, false, false, false, false, false, false, false, false] rfl rfl (by kernel_rfl) (fun _ _ _ h => h) (Or.inl ⟨by rfl, ?_⟩) hHeld ?_ ?_
            rotate_left
            · rintro w' ⟨s0, s1, s2, s3, s4, s5, s6, s7, s8, s9, s10, s11, s12, s13, s14, s15, s16, s17, s18, s19, s20, s21, s22, s23, s24, s25, s26, s27, s28⟩
              go_simp
              with_reducible rfl
            rotate_left
            · simp only [Act.put, List.setIfInBounds_toArray, List.set_cons_zero, List.set_cons_succ, i64_w, i32_w]
              rfl
            refine one_ (i := 6) (N := some 110) #[true, true, true, true, true, true, true, false, false, false, false, false, false, false, false, false, false, false, false, false, false, false] rfl rfl (by kernel_rfl) (by decide) (fun K hK => ?_)
            refine goes_ Try.func34 (by kernel_rfl) rfl #[.agg #[.int .i64 a0_0, .int .i64 a0_1, .bool a0_2, .int .i64 2, .int .i64 2, .int .i64 0, .int .i64 0, .bool (!a0_7), .slice A0_8 l0_8.length c0_8]] (by rfl) rfl rfl (by simp only [List.map_toArray, List.map_cons, List.map_nil]; rfl) ?_
            with_reducible refine (pdu_May.calls 4 (a0_0) (a0_1) (a0_2) (2) (2) (0) (0) ((!a0_7)) A0_8 c0_8 l0_8 true _ (Kd.C_below HR.out (by (repeat (with_reducible first | exact HB.out | apply pw_below_drewN | apply below_drew1)))) HC.out (KindP.pk_poll (!a0_7) l0_8 HM.out rfl)).mono ?_
            rintro e w3 ⟨rfl, hb⟩
            refine ⟨_, rfl, ?_⟩
            have nBP := Aside0.mk (blk_below (g := w.heap.size) (o := (.cells #[.int .i64 a0_0, .int .i64 a0_1, .bool a0_2, .int .i64 2, .int .i64 2, .int .i64 0, .int .i64 0, .bool a0_7, .slice A0_8 l0_8.length c0_8] 25 (0, 0))) (by (with_reducible repeat (first | refine blk_drewN ?_ _ | refine blk_drew ?_)); exact BP.out) hb)
            have nBQ := Aside0.mk (blk_below (g := wb.heap.size) (o := (.cells #[.int .i64 a0_0, .int .i64 a0_1, .bool (!a0_2), .int .i64 2, .int .i64 2, .int .i64 0, .int .i64 0, .bool a0_7, .slice A0_8 l0_8.length c0_8] 25 (0, 0))) (by (with_reducible repeat (first | refine blk_drewN ?_ _ | refine blk_drew ?_)); exact BQ.out) hb)
            have nBU := Aside0.mk (blk_below (g := wb.heap.size + 1) (o := (.cells #[.int .i64 a0_0, .int .i64 a0_1, .bool a0_2, .int .i64 2, .int .i64 2, .int .i64 0, .int .i64 0, .bool (!a0_7), .slice A0_8 l0_8.length c0_8] 25 (0, 0))) (by (with_reducible repeat (first | refine blk_drewN ?_ _ | refine blk_drew ?_)); exact BU.out) hb)
            have nBV := Aside0.mk (blk_below (g := wb.heap.size + 1 + 1) (o := (.cells #[.int .i64 a0_0, .int .i64 a0_1, .bool a0_2, .int .i64 2, .int .i64 2, .int .i64 1, .int .i64 0, .bool a0_7, .slice A0_8 l0_8.length c0_8] 25 (0, 0))) (by (with_reducible repeat (first | refine blk_drewN ?_ _ | refine blk_drew ?_)); exact BV.out) hb)
            have nHB := Aside0.mk (below_step (by (repeat (with_reducible first | exact HB.out | apply pw_below_drewN | apply below_drew1))) hb)
            clear BP BQ BU BV HB hb
            have BP := nBP
            have BQ := nBQ
            have BU := nBU
            have BV := nBV
            have HB := nHB
            clear nBP nBQ nBU nBV nHB
            refine hK.out _ _ ⟨(blk_cell BP.out 3).trans rfl, (blk_cell BP.out 5).trans rfl, (blk_cell BQ.out 0).trans rfl, (blk_cell BQ.out 1).trans rfl, (blk_cell BQ.out 2).trans rfl, (blk_cell BQ.out 3).trans rfl, (blk_cell BQ.out 4).trans rfl, (blk_cell BQ.out 5).trans rfl, (blk_cell BQ.out 6).trans rfl, (blk_cell BQ.out 7).trans rfl, (blk_cell BQ.out 8).trans rfl, (blk_cell BU.out 0).trans rfl, (blk_cell BU.out 1).trans rfl, (blk_cell BU.out 2).trans rfl, (blk_cell BU.out 3).trans rfl, (blk_cell BU.out 4).trans rfl, (blk_cell BU.out 5).trans rfl, (blk_cell BU.out 6).trans rfl, (blk_cell BU.out 7).trans rfl, (blk_cell BU.out 8).trans rfl, (blk_cell BV.out 0).trans rfl, (blk_cell BV.out 1).trans rfl, (blk_cell BV.out 2).trans rfl, (blk_cell BV.out 3).trans rfl, (blk_cell BV.out 4).trans rfl, (blk_cell BV.out 5).trans rfl, (blk_cell BV.out 6).trans rfl, (blk_cell BV.out 7).trans rfl, (blk_cell BV.out 8).trans rfl⟩ (fun hHeld => ?_)
            clear hK K
            refine norm_ (a' := ?_) ?_ ?_
            rotate_left
            · show Act.put _ (some 110) _ = _
              simp only [Act.put, List.setIfInBounds_toArray, List.set_cons_zero, List.set_cons_succ, i64_w, i32_w]
              rfl
            refine pure_ (i := 7) (N := some 111) (v := ?_) (a' := ?_) #[true, true, true, true, true, true, true, true, false, false, false, false, false, false, false, false, false, false, false, false, false, false] rfl rfl (by kernel_rfl) (fun _ _ _ h => h) (Or.inl ⟨by rfl, ?_⟩) ?_ ?_
            rotate_left
            · intro w'
              go_simp
              with_reducible rfl
            rotate_left
            · simp only [Act.put, List.setIfInBounds_toArray, List.set_cons_zero, List.set_cons_succ, i64_w, i32_w]
              rfl
            refine pure_ (i := 8) (N := some 112) (v := ?_) (a' := ?_) #[true, true, true, true, true, true, true, true, true, false, false, false, false, false, false, false, false, false, false, false, false, false] rfl rfl (by kernel_rfl) (fun _ _ _ h => h) (Or.inl ⟨by rfl, ?_⟩) ?_ ?_
            rotate_left
            · intro w'
              go_simp
              with_reducible rfl
            rotate_left
            · simp only [Act.put, List.setIfInBounds_toArray, List.set_cons_zero, List.set_cons_succ, i64_w, i32_w]
              rfl
            refine pure_ (i := 11) (N := some 115) (v := ?_) (a' := ?_) #[true, true, true, true, true, true, true, true, true, false, false, true, false, false, false, false, false, false, false, false, false, false] rfl rfl (by kernel_rfl) (fun _ _ _ h => h) (Or.inl ⟨by rfl, ?_⟩) ?_ ?_
            rotate_left
            · intro w'
              go_simp
              with_reducible rfl
            rotate_left
            · simp only [Act.put, List.setIfInBounds_toArray, List.set_cons_zero, List.set_cons_succ, i64_w, i32_w]
              rfl
            refine take_ (i := 9) (N := some 113) (v := ?_) (a' := ?_) #[true, true, true, true, true, true, true, true, true, true, false, true, false, false, false, false, false, false, false, false, false, false] rfl rfl (by kernel_rfl) (fun _ _ _ h => h) (Or.inl ⟨by rfl, ?_⟩) hHeld ?_ ?_
            rotate_left
            · rintro w' ⟨s0, s1, s2, s3, s4, s5, s6, s7, s8, s9, s10, s11, s12, s13, s14, s15, s16, s17, s18, s19, s20, s21, s22, s23, s24, s25, s26, s27, s28⟩
              go_simp
              with_reducible rfl
            rotate_left
            · simp only [Act.put, List.setIfInBounds_toArray, List.set_cons_zero, List.set_cons_succ, i64_w, i32_w]
              rfl
            refine take_ (i := 12) (N := some 116) (v := ?_) (a' := ?_) #[true, true, true, true, true, true, true, true, true, true, false, true, true, false, false, false, false, false, false, false, false, false] rfl rfl (by kernel_rfl) (fun _ _ _ h => h) (Or.inl ⟨by rfl, ?_⟩) hHeld ?_ ?_
            rotate_left
            · rintro w' ⟨s0, s1, s2, s3, s4, s5, s6, s7, s8, s9, s10, s11, s12, s13, s14, s15, s16, s17, s18, s19, s20, s21, s22, s23, s24, s25, s26, s27, s28⟩
              go_simp
              with_reducible rfl
            rotate_left
            · simp only [Act.put, List.setIfInBounds_toArray, List.set_cons_zero, List.set_cons_succ, i64_w, i32_w]
              rfl
            refine pure_ (i := 13) (N := some 117) (v := ?_) (a' := ?_) #[true, true, true, true, true, true, true, true, true, true, false, true, true, true, false, false, false, false, false, false, false, false] rfl rfl (by kernel_rfl) (fun _ _ _ h => h) (Or.inl ⟨by rfl, ?_⟩) ?_ ?_
            rotate_left
            · intro w'
              go_simp
              with_reducible rfl
            rotate_left
            · simp only [Act.put, List.setIfInBounds_toArray, List.set_cons_zero, List.set_cons_succ, i64_w, i32_w]
              rfl
            refine one_ (i := 10) (N := some 114) #[true, true, true, true, true, true, true, true, true, true, true, true, true, true, false, false, false, false, false, false, false, false] rfl rfl (by kernel_rfl) (by decide) (fun K hK => ?_)
            refine goes_ Try.func34 (by kernel_rfl) rfl #[.agg #[.int .i64 a0_0, .int .i64 a0_1, .bool a0_2, .int .i64 2, .int .i64 2, .int .i64 1, .int .i64 0, .bool a0_7, .slice A0_8 l0_8.length c0_8]] (by rfl) rfl rfl (by simp only [List.map_toArray, List.map_cons, List.map_nil]; rfl) ?_
            with_reducible refine (pdu_May.calls 4 (a0_0) (a0_1) (a0_2) (2) (2) (1) (0) (a0_7) A0_8 c0_8 l0_8 false _ (Kd.C_below HR.out (by (repeat (with_reducible first | exact HB.out | apply pw_below_drewN | apply below_drew1)))) HC.out ((Lib.may_pdu 0 _ _ _ _ _ _ _ _ _).trans (congrArg some HLT.out))).mono ?_
            rintro e w3 ⟨rfl, hb⟩
            refine ⟨_, rfl, ?_⟩
            have nBP := Aside0.mk (blk_below (g := w.heap.size) (o := (.cells #[.int .i64 a0_0, .int .i64 a0_1, .bool a0_2, .int .i64 2, .int .i64 2, .int .i64 0, .int .i64 0, .bool a0_7, .slice A0_8 l0_8.length c0_8] 25 (0, 0))) (by (with_reducible repeat (first | refine blk_drewN ?_ _ | refine blk_drew ?_)); exact BP.out) hb)
            have nBQ := Aside0.mk (blk_below (g := wb.heap.size) (o := (.cells #[.int .i64 a0_0, .int .i64 a0_1, .bool (!a0_2), .int .i64 2, .int .i64 2, .int .i64 0, .int .i64 0, .bool a0_7, .slice A0_8 l0_8.length c0_8] 25 (0, 0))) (by (with_reducible repeat (first | refine blk_drewN ?_ _ | refine blk_drew ?_)); exact BQ.out) hb)
            have nBU := Aside0.mk (blk_below (g := wb.heap.size + 1) (o := (.cells #[.int .i64 a0_0, .int .i64 a0_1, .bool a0_2, .int .i64 2, .int .i64 2, .int .i64 0, .int .i64 0, .bool (!a0_7), .slice A0_8 l0_8.length c0_8] 25 (0, 0))) (by (with_reducible repeat (first | refine blk_drewN ?_ _ | refine blk_drew ?_)); exact BU.out) hb)
            have nBV := Aside0.mk (blk_below (g := wb.heap.size + 1 + 1) (o := (.cells #[.int .i64 a0_0, .int .i64 a0_1, .bool a0_2, .int .i64 2, .int .i64 2, .int .i64 1, .int .i64 0, .bool a0_7, .slice A0_8 l0_8.length c0_8] 25 (0, 0))) (by (with_reducible repeat (first | refine blk_drewN ?_ _ | refine blk_drew ?_)); exact BV.out) hb)
            have nHB := Aside0.mk (below_step (by (repeat (with_reducible first | exact HB.out | apply pw_below_drewN | apply below_drew1))) hb)
            clear BP BQ BU BV HB hb
            have BP := nBP
            have BQ := nBQ
            have BU := nBU
            have BV := nBV
            have HB := nHB
            clear nBP nBQ nBU nBV nHB
            refine hK.out _ _ ⟨(blk_cell BP.out 3).trans rfl, (blk_cell BP.out 5).trans rfl, (blk_cell BQ.out 0).trans rfl, (blk_cell BQ.out 1).trans rfl, (blk_cell BQ.out 2).trans rfl, (blk_cell BQ.out 3).trans rfl, (blk_cell BQ.out 4).trans rfl, (blk_cell BQ.out 5).trans rfl, (blk_cell BQ.out 6).trans rfl, (blk_cell BQ.out 7).trans rfl, (blk_cell BQ.out 8).trans rfl, (blk_cell BU.out 0).trans rfl, (blk_cell BU.out 1).trans rfl, (blk_cell BU.out 2).trans rfl, (blk_cell BU.out 3).trans rfl, (blk_cell BU.out 4).trans rfl, (blk_cell BU.out 5).trans rfl, (blk_cell BU.out 6).trans rfl, (blk_cell BU.out 7).trans rfl, (blk_cell BU.out 8).trans rfl, (blk_cell BV.out 0).trans rfl, (blk_cell BV.out 1).trans rfl, (blk_cell BV.out 2).trans rfl, (blk_cell BV.out 3).trans rfl, (blk_cell BV.out 4).trans rfl, (blk_cell BV.out 5).trans rfl, (blk_cell BV.out 6).trans rfl, (blk_cell BV.out 7).trans rfl, (blk_cell BV.out 8).trans rfl⟩ (fun hHeld => ?_)
            clear hK K
            refine norm_ (a' := ?_) ?_ ?_
            rotate_left
            · show Act.put _ (some 114) _ = _
              simp only [Act.put, List.setIfInBounds_toArray, List.set_cons_zero, List.set_cons_succ, i64_w, i32_w]
              rfl
            refine pure_ (i := 14) (N := some 118) (v := ?_) (a' := ?_) #[true, true, true, true, true, true, true, true, true, true, true, true, true, true, true, false, false, false, false, false, false, false] rfl rfl (by kernel_rfl) (fun _ _ _ h => h) (Or.inl ⟨by rfl, ?_⟩) ?_ ?_
            rotate_left
            · intro w'
              go_simp
              with_reducible rfl
            rotate_left
            · simp only [Act.put, List.setIfInBounds_toArray, List.set_cons_zero, List.set_cons_succ, i64_w, i32_w]
              rfl
            refine pure_ (i := 15) (N := some 119) (v := undef) (a' := ?_) #[true, true, true, true, true, true, true, true, true, true, true, true, true, true, true, true, false, false, false, false, false, false] rfl rfl (by kernel_rfl) (fun _ _ _ h => h) (Or.inr ⟨by rfl, rfl⟩) ?_ ?_
            rotate_left
            · simp only [Act.put, List.setIfInBounds_toArray, List.set_cons_zero, List.set_cons_succ, i64_w, i32_w]
              rfl
            refine pure_ (i := 16) (N := some 120) (v := undef) (a' := ?_) #[true, true, true, true, true, true, true, true, true, true, true, true, true, true, true, true, true, false, false, false, false, false] rfl rfl (by kernel_rfl) (fun _ _ _ h => h) (Or.inr ⟨by rfl, rfl⟩) ?_ ?_
            rotate_left
            · simp only [Act.put, List.setIfInBounds_toArray, List.set_cons_zero, List.set_cons_succ, i64_w, i32_w]
              rfl
            refine pure_ (i := 17) (N := some 121) (v := undef) (a' := ?_) #[true, true, true, true, true, true, true, true, true, true, true, true, true, true, true, true, true, true, false, false, false, false] rfl rfl (by kernel_rfl) (fun _ _ _ h => h) (Or.inr ⟨by rfl, rfl⟩) ?_ ?_
            rotate_left
            · simp only [Act.put, List.setIfInBounds_toArray, List.set_cons_zero, List.set_cons_succ, i64_w, i32_w]
              rfl
            refine pure_ (i := 18) (N := some 122) (v := ?_) (a' := ?_) #[true, true, true, true, true, true, true, true, true, true, true, true, true, true, true, true, true, true, true, false, false, false] rfl rfl (by kernel_rfl) (fun _ _ _ h => h) (Or.inl ⟨by rfl, ?_⟩) ?_ ?_
            rotate_left
            · intro w'
              go_simp
              with_reducible rfl
            rotate_left
            · simp only [Act.put, List.setIfInBounds_toArray, List.set_cons_zero, List.set_cons_succ, i64_w, i32_w]
              rfl
            refine pure_ (i := 19) (N := some 123) (v := ?_) (a' := ?_) #[true, true, true, true, true, true, true, true, true, true, true, true, true, true, true, true, true, true, true, true, false, false] rfl rfl (by kernel_rfl) (fun _ _ _ h => h) (Or.inl ⟨by rfl, ?_⟩) ?_ ?_
            rotate_left
            · intro w'
              go_simp
              with_reducible rfl
            rotate_left
            · simp only [Act.put, List.setIfInBounds_toArray, List.set_cons_zero, List.set_cons_succ, i64_w, i32_w]
              rfl
            refine pure_ (i := 20) (N := some 124) (v := ?_) (a' := ?_) #[true, true, true, true, true, true, true, true, true, true, true, true, true, true, true, true, true, true, true, true, true, false] rfl rfl (by kernel_rfl) (fun _ _ _ h => h) (Or.inl ⟨by rfl, ?_⟩) ?_ ?_
            rotate_left
            · intro w'
              go_simp
              with_reducible rfl
            rotate_left
            · simp only [Act.put, List.setIfInBounds_toArray, List.set_cons_zero, List.set_cons_succ, i64_w, i32_w]
              rfl
            refine pure_ (i := 21) (N := some 2) (v := ?_) (a' := ?_) #[true, true, true, true, true, true, true, true, true, true, true, true, true, true, true, true, true, true, true, true, true, true] rfl rfl (by kernel_rfl) (fun _ _ _ h => h) (Or.inl ⟨by rfl, ?_⟩) ?_ ?_
            rotate_left
            · intro w'
              go_simp
              with_reducible rfl
            rotate_left
            · simp only [Act.put, List.setIfInBounds_toArray, List.set_cons_zero, List.set_cons_succ, i64_w, i32_w]
              rfl
            refine done_ (by kernel_rfl) ?_
            go_wp2_with fail
            go_ret
            exact ⟨rfl, HB.out⟩
theorem antiphonlaw6_PduKinds.calls (a0_0 a0_1 : Int) (a0_2 : Bool) (a0_3 a0_4 a0_5 a0_6 : Int) (a0_7 : Bool) (A0_8 : Option Addr) (c0_8 : Nat) (l0_8 : List Int) (r : Bool) (w : World) (hr0_8 : Kd.C (Kd.int .u8) w A0_8 l0_8.length l0_8) (hc0_8 : l0_8.length ≤ c0_8) (h : antiphonlaw6_PduKinds.f a0_0 a0_1 a0_2 a0_3 a0_4 a0_5 a0_6 a0_7 l0_8 = some r) :
    Calls Try.prog 6 #[.agg #[.int .i64 a0_0, .int .i64 a0_1, .bool a0_2, .int .i64 a0_3, .int .i64 a0_4, .int .i64 a0_5, .int .i64 a0_6, .bool a0_7, .slice A0_8 l0_8.length c0_8]] w fun e w' => e = .returned (.bool r) ∧ Below w.heap.size w w' := by
  by_cases hab : a0_3 = 2 ∧ a0_4 ≤ 2
  · exact antiphonlaw6_PduKinds.callsB a0_0 a0_1 a0_2 a0_3 a0_4 a0_5 a0_6 a0_7 A0_8 c0_8 l0_8 r w hr0_8 hc0_8 hab h
  · exact antiphonlaw6_PduKinds.callsA a0_0 a0_1 a0_2 a0_3 a0_4 a0_5 a0_6 a0_7 A0_8 c0_8 l0_8 r w hr0_8 hc0_8 hab h
end Go.Proofs.Ytnmcoebjkfpmjaa.P
/-! Open -/
namespace Go.Proofs.Ytnmcoebjkfpmjaa.Open
open Go.ChangeShapes Go.WideShapes Go.RowKit Go.Deep
open Go.Proofs.YtnmcoebjkfpmjaaW.PrintWords
set_option linter.unusedVariables false
section
variable {H : Type} {enc : TypeId × Value → H} {P : Program} {w : World} {base : Nat} {spare : Nat → Bool} {held : Bool}
theorem cells_get {cs : Array Value} {j o k : Nat} (ho : o = j) (hk : k = 1) (hj : j < cs.size) : (cs.toList.drop o).take k = [cs[j]] := by
  subst ho
  subst hk
  rw [List.drop_eq_getElem_cons (by simpa using hj)]
  simp
theorem open_fields {r : Reach} {b0 : Nat} {t : TypeId} {fs : Array Field} {v : Value} {d : DataW H} {p : List MemPlace} (hs : P.underlying t = some (.struct fs)) (hone : oneCellFields P fs = true) (hC : P.cellsOf t = fs.size)
    (hv : Value.okWide P w r b0 t v) (h : DataW.Trod enc P w base spare held t v d p) :
    ∃ cs : Array Value, v = .agg cs ∧ cs.size = fs.size ∧ ∃ n, ∀ (j : Nat) (f : Field), fs[j]? = some f → ∃ (u : Value) (y : DataW H × List MemPlace), cs[j]? = some u ∧ DataW.trod enc P w base spare held n f.type [u] = some y := by
  obtain ⟨cs, rfl, hsz⟩ := okWide_struct hs hv
  refine ⟨cs, rfl, hsz.trans hC, ?_⟩
  obtain ⟨fuel, hf⟩ := h
  obtain ⟨xs, n, _, hx, _, hlen, hg⟩ := DataW.trod_struct hs hf
  refine ⟨n, fun j f hj => ?_⟩
  obtain ⟨ho, hk⟩ := hone_of hone j f hj
  have hjl : j < fs.size := (Array.getElem?_eq_some_iff.1 hj).1
  have hjc : j < cs.size := by omega
  have h1 := hg j f hj
  have h2 : (((Value.agg cs).cells.toList).drop f.offset).take (P.cellsOf f.type) = [cs[j]] := cells_get ho hk hjc
  rw [h2] at h1
  have hxs : xs[j]? = some (xs[j]'(by omega)) := List.getElem?_eq_getElem (by omega)
  exact ⟨cs[j], _, Array.getElem?_eq_getElem hjc, h1.trans hxs⟩
def IsRow (k : IntKind) (w : World) (a : Option Addr) (len cap : Nat) (zs : List Int) : Prop :=
  (a = none ∧ len = 0 ∧ cap = 0 ∧ zs = []) ∨
  ∃ x, a = some x ∧ len ≤ cap ∧ cap ≤ maxLen ∧ zs.length = cap ∧ (∀ i, i < zs.length → w.cell? (x.add i) = some (.int k (zs.getD i 0))) ∧ ∀ n ∈ zs, (Lit.int k n).wf = true
theorem field_int {n : Nat} {t : TypeId} {k : IntKind} {u : Value} {y : DataW H × List MemPlace} (ht : P.underlying t = some (.int k)) (h : DataW.trod enc P w base spare held n t [u] = some y) : ∃ x : Int, u = .int k x ∧ (Lit.int k x).wf = true := by
  obtain ⟨x, he, _, hw⟩ := DataW.trod_int ht h
  exact ⟨x, by simpa using he, hw⟩
theorem field_bool {n : Nat} {t : TypeId} {u : Value} {y : DataW H × List MemPlace} (ht : P.underlying t = some .bool) (h : DataW.trod enc P w base spare held n t [u] = some y) : ∃ x : Bool, u = .bool x := by
  obtain ⟨x, he, _⟩ := DataW.trod_bool ht h
  exact ⟨x, by simpa using he⟩
theorem field_ints {n : Nat} {t e : TypeId} {k : IntKind} {u : Value} {y : DataW H × List MemPlace} (ht : P.underlying t = some (.slice e)) (he : P.underlying e = some (.int k)) (hc : P.cellsOf e = 1) (h : DataW.trod enc P w base (fun _ => true) held n t [u] = some y) :
    ∃ (a : Option Addr) (len cap : Nat) (zs : List Int), u = .slice a len cap ∧ IsRow k w a len cap zs := by
  rcases open_ints ht he hc h with ⟨hcs, _⟩ | ⟨x, l, c, zs, hcs, _, hl, hm, hz, _, hcell, hwz⟩
  · exact ⟨none, 0, 0, [], by simpa using hcs, .inl ⟨rfl, rfl, rfl, rfl⟩⟩
  · exact ⟨some x, l, c, zs, by simpa using hcs, .inr ⟨x, rfl, hl, hm, by simpa using hz, hcell, hwz⟩⟩
end
end Go.Proofs.Ytnmcoebjkfpmjaa.Open
/-! Opens -/
namespace Go.Proofs.Ytnmcoebjkfpmjaa.Open
open Go.ChangeShapes Go.WideShapes Go.RowKit Go.Deep
open Go.Proofs.YtnmcoebjkfpmjaaW.PrintWords
set_option linter.unusedVariables false
set_option maxRecDepth 100000 in
theorem open_s25 {H : Type} {enc : TypeId × Value → H} {w : World} {base : Nat} {held : Bool} {r : Reach} {b0 : Nat} {v : Value} {d : DataW H} {p : List MemPlace}
    (hv : Value.okWide Try.prog w r b0 25 v) (h : DataW.Trod enc Try.prog w base (fun _ => true) held 25 v d p) :
    ∃ (a0 : Int) (a1 : Int) (a2 : Bool) (a3 : Int) (a4 : Int) (a5 : Int) (a6 : Int) (a7 : Bool) (A8 : Option Addr) (n8 c8 : Nat) (z8 : List Int), v = .agg #[.int .i64 a0, .int .i64 a1, .bool a2, .int .i64 a3, .int .i64 a4, .int .i64 a5, .int .i64 a6, .bool a7, .slice A8 n8 c8] ∧ (Lit.int .i64 a0).wf = true ∧ (Lit.int .i64 a1).wf = true ∧ (Lit.int .i64 a3).wf = true ∧ (Lit.int .i64 a4).wf = true ∧ (Lit.int .i64 a5).wf = true ∧ (Lit.int .i64 a6).wf = true ∧ IsRow .u8 w A8 n8 c8 z8 ∧ True := by
  obtain ⟨cs, rfl, hsz, n, hf⟩ := open_fields Try.underlying25 (by kernel_rfl) (by kernel_rfl) hv h
  obtain ⟨u0, y0, g0, h0⟩ := hf 0 _ rfl
  obtain ⟨u1, y1, g1, h1⟩ := hf 1 _ rfl
  obtain ⟨u2, y2, g2, h2⟩ := hf 2 _ rfl
  obtain ⟨u3, y3, g3, h3⟩ := hf 3 _ rfl
  obtain ⟨u4, y4, g4, h4⟩ := hf 4 _ rfl
  obtain ⟨u5, y5, g5, h5⟩ := hf 5 _ rfl
  obtain ⟨u6, y6, g6, h6⟩ := hf 6 _ rfl
  obtain ⟨u7, y7, g7, h7⟩ := hf 7 _ rfl
  obtain ⟨u8, y8, g8, h8⟩ := hf 8 _ rfl
  obtain ⟨a0, rfl, w0⟩ := field_int Try.underlying3 h0
  obtain ⟨a1, rfl, w1⟩ := field_int Try.underlying3 h1
  obtain ⟨a2, rfl⟩ := field_bool Try.underlying4 h2
  obtain ⟨a3, rfl, w3⟩ := field_int Try.underlying3 h3
  obtain ⟨a4, rfl, w4⟩ := field_int Try.underlying3 h4
  obtain ⟨a5, rfl, w5⟩ := field_int Try.underlying3 h5
  obtain ⟨a6, rfl, w6⟩ := field_int Try.underlying3 h6
  obtain ⟨a7, rfl⟩ := field_bool Try.underlying4 h7
  obtain ⟨A8, n8, c8, z8, rfl, w8⟩ := field_ints Try.underlying23 Try.underlying5 (by kernel_rfl) h8
  refine ⟨a0, a1, a2, a3, a4, a5, a6, a7, A8, n8, c8, z8, ?_, w0, w1, w3, w4, w5, w6, w8, trivial⟩
  obtain ⟨l⟩ := cs
  match l, hsz with
  | [x0, x1, x2, x3, x4, x5, x6, x7, x8], _ =>
    simp at g0 g1 g2 g3 g4 g5 g6 g7 g8
    subst g0 g1 g2 g3 g4 g5 g6 g7 g8
    rfl
end Go.Proofs.Ytnmcoebjkfpmjaa.Open
/-! WalkPduKinds -/
namespace Go.Proofs.Ytnmcoebjkfpmjaa.P
open Go.RowKit Go.Proofs.YtnmcoebjkfpmjaaW.PrintWords Go.Proofs.YtnmcoebjkfpmjaaW.PrintLast Go.Proofs.YtnmcoebjkfpmjaaW.PrintMore
set_option linter.unusedVariables false
def antiphonlaw6_PduKinds.Pure : Prop := ∀ (a0_0 : Int) (a0_1 : Int) (a0_2 : Bool) (a0_3 : Int) (a0_4 : Int) (a0_5 : Int) (a0_6 : Int) (a0_7 : Bool) (l0_8 : List Int), (Lit.int .i64 a0_0).wf = true → (Lit.int .i64 a0_1).wf = true → (Lit.int .i64 a0_3).wf = true → (Lit.int .i64 a0_4).wf = true → (Lit.int .i64 a0_5).wf = true → (Lit.int .i64 a0_6).wf = true → l0_8.length ≤ maxLen → (∀ x ∈ l0_8, (Lit.int .u8 x).wf = true) → antiphonlaw6_PduKinds.f a0_0 a0_1 a0_2 a0_3 a0_4 a0_5 a0_6 a0_7 l0_8 = some true
theorem antiphonlaw6_PduKinds.walk (P : antiphonlaw6_PduKinds.Pure) (a0_0 : Int) (a0_1 : Int) (a0_2 : Bool) (a0_3 : Int) (a0_4 : Int) (a0_5 : Int) (a0_6 : Int) (a0_7 : Bool) (a0_8 : Option Addr) (n0_8 c0_8 : Nat) (z0_8 : List Int) (w : World) (w0_0 : (Lit.int .i64 a0_0).wf = true) (w0_1 : (Lit.int .i64 a0_1).wf = true) (w0_3 : (Lit.int .i64 a0_3).wf = true) (w0_4 : (Lit.int .i64 a0_4).wf = true) (w0_5 : (Lit.int .i64 a0_5).wf = true) (w0_6 : (Lit.int .i64 a0_6).wf = true) (w0_8 : Open.IsRow .u8 w a0_8 n0_8 c0_8 z0_8) :
    Calls Try.prog 6 #[.agg #[.int .i64 a0_0, .int .i64 a0_1, .bool a0_2, .int .i64 a0_3, .int .i64 a0_4, .int .i64 a0_5, .int .i64 a0_6, .bool a0_7, .slice a0_8 n0_8 c0_8]] w fun e w' => e = .returned (.bool true) ∧ Below w.heap.size w w' := by
  obtain ⟨l0_8, rfl, hr0_8, hm0_8, hw0_8, hc0_8⟩ := ReadsInt.ofRowC w0_8
  have h := P a0_0 a0_1 a0_2 a0_3 a0_4 a0_5 a0_6 a0_7 l0_8 w0_0 w0_1 w0_3 w0_4 w0_5 w0_6 hm0_8 hw0_8
  refine (antiphonlaw6_PduKinds.calls a0_0 a0_1 a0_2 a0_3 a0_4 a0_5 a0_6 a0_7 _ _ l0_8 true w (Kd.C_of_reads (d := (0 : Int)) (h1 := fun _ => rfl) hr0_8) hc0_8 h).mono ?_
  rintro e w' ⟨rfl, hd⟩
  exact ⟨rfl, hd⟩
end Go.Proofs.Ytnmcoebjkfpmjaa.P
/-! PurePduKinds -/
namespace Go.Proofs.Ytnmcoebjkfpmjaa.Pure
open Go.RowKit Go.Proofs.Ytnmcoebjkfpmjaa.P Go.Proofs.YtnmcoebjkfpmjaaW.PrintWords Go.Proofs.YtnmcoebjkfpmjaaW.PrintLast
theorem PduKinds : antiphonlaw6_PduKinds.Pure := by
  unfold antiphonlaw6_PduKinds.Pure
  intros
  rfl
end Go.Proofs.Ytnmcoebjkfpmjaa.Pure
/-! LawPduKinds -/
namespace Go.Proofs.Ytnmcoebjkfpmjaa.pduKinds
open Go.ChangeShapes Go.WideShapes Go.ChangeAt Go.RowKit
open Go.ChangeMaps (open_string shut_string)
set_option linter.unusedVariables false
theorem own : ownKnob Try.prog.godebug = none := by kernel_rfl
theorem laidOut : laidOutB Try.prog = true := by kernel_rfl
set_option maxRecDepth 100000 in
theorem lifted (os : Os) (started : os.Started) (H : Type) (enc : TypeId × Value → H) :
    ReturnsInHanded {} Try.checked os 6 .any (Rows.pduKindsSpec.pre6 enc Try.prog Try.f6 Rows.pduKindsRow.domain false) (Rows.pduKindsSpec.post enc Try.prog Try.f6 false true false false) := by
  refine returnsInHanded_of_change_sized (C := Try.checked) own started (by kernel_rfl) Try.func6
    (ChangeSpec.witness6 (enc := enc) (C := Try.checked) false ⟨#[], #[.agg #[.int .i64 0, .int .i64 0, .bool false, .int .i64 0, .int .i64 0, .int .i64 0, .int .i64 0, .bool false, .slice none 0 0]], []⟩ 8 (by kernel_rfl) (by kernel_rfl) (by kernel_rfl) (by kernel_rfl)) ?_
  intro W base args ds gs before hval0 hW hcnd hsz0 _
  have hsz : (DataW.weightsEach Try.prog (Try.f6.params.toList ++ Rows.pduKindsSpec.plain.varTypes Try.prog) (ds ++ gs)).all (· ≤ reachBytes) = true := hsz0
  have hval : ∀ (j : Nat) t v, Try.f6.params[j]? = some t → args[j]? = some v → Value.okWide Try.prog W .any base t v := hval0
  have hW' := hW
  obtain ⟨p, q, hA0, hV, rfl, hfz, hnd⟩ := hW
  have hA : DataW.TrodAll enc Try.prog W 0 (fun _ => true) true Try.f6.params.toList args.toList ds p := hA0
  rw [Try.params6] at hA hval hsz
  obtain ⟨v0, vs0, d0, ds0, p0, q0, hargs, rfl, rfl, h0, r0⟩ := trodAll_cons hA
  obtain ⟨rfl, rfl, rfl⟩ := trodAll_nil r0
  obtain rfl : args = #[v0] := by cases args; simp_all
  obtain ⟨rfl, rfl⟩ := trodVars_none hV
  obtain ⟨a0_0, a0_1, a0_2, a0_3, a0_4, a0_5, a0_6, a0_7, a0_8, n0_8, c0_8, z0_8, rfl, w0_0, w0_1, w0_3, w0_4, w0_5, w0_6, w0_8, _⟩ := Open.open_s25 (hval 0 25 v0 rfl rfl) h0
  have k0 := h0
  have lt0 : ∀ x ∈ p0, x.block < W.heap.size := by obtain ⟨m, hm⟩ := k0; exact DataW.trod_lt m _ _ _ hm
  clear hA0 hval0 hsz0 hsz
  refine (P.antiphonlaw6_PduKinds.walk Pure.PduKinds a0_0 a0_1 a0_2 a0_3 a0_4 a0_5 a0_6 a0_7 a0_8 n0_8 c0_8 z0_8 W w0_0 w0_1 w0_3 w0_4 w0_5 w0_6 w0_8).mono fun e W' ⟨he, bel⟩ => ?_
  subst he
  exact ⟨_, rfl, _, _, _, [], _, [], hW', trodAll_mk1 (shut_bool Try.underlying4 _), (trodAll_cons_mk (Below.trod laidOut (by kernel_rfl) (of_decide_eq_true (by kernel_rfl)) k0 bel lt0) trodAll_mk0), rfl, bel.frame _, fun h => by cases h⟩
theorem fact0 : (Rows.pduKindsRow.wf (OpenSpec.ofChange Rows.pduKindsSpec)) = true := by kernel_rfl
theorem fact1 : (laidOutB Try.prog) = true := Kit.laidOut
theorem fact2 : (mapsRowed Try.prog) = true := Kit.mapsRowed
theorem fact3 : (Try.f6.params.all (Try.prog.readableRec ·)) = true := by kernel_rfl
theorem fact4 : (namedTie Try.prog Rows.pduKindsRow.named Rows.pduKindsSpec.vars) = true := by kernel_rfl
theorem fact5 : ((Rows.pduKindsRow.stops == [])) = true := by kernel_rfl
theorem fact6 : ((Try.prog.stops == [])) = true := Kit.stops
theorem fact7 : ((Rows.pduKindsRow.knobs == [])) = true := by kernel_rfl
theorem fact8 : ((Try.prog.stopKnobs == [])) = true := Kit.stopKnobs
theorem fact9 : ((Rows.pduKindsRow.inPlace == Try.prog.inPlace 6)) = true := by kernel_rfl
theorem fact10 : ((Rows.pduKindsRow.unfollowed == Try.prog.unfollowed 6)) = true := by kernel_rfl
theorem fact11 : ((Rows.pduKindsRow.recurses == Try.prog.recurses 6)) = true := by kernel_rfl
theorem fact12 : ((Rows.pduKindsRow.named == Try.prog.varsNamed 6)) = true := by kernel_rfl
theorem fact13 : ((Rows.pduKindsRow.maps == (Try.f6.params.toList ++ Rows.pduKindsSpec.plain.varTypes Try.prog).any (Try.prog.mapsRec ·))) = true := by kernel_rfl
theorem fact14 : ((Rows.pduKindsRow.ifaces == (Try.f6.params.toList ++ Rows.pduKindsSpec.plain.varTypes Try.prog).any (Try.prog.ifacesRec ·))) = true := by kernel_rfl
theorem fact15 : ((Rows.pduKindsRow.mapsOut == Try.prog.mapsAmong Try.f6.resultTypes.toList)) = true := by kernel_rfl
theorem fact16 : ((Rows.pduKindsRow.loops == (Try.f6.params.toList ++ Rows.pduKindsSpec.plain.varTypes Try.prog).any (Try.prog.loopsFrom ·))) = true := by kernel_rfl
theorem fact17 : ((Rows.pduKindsRow.wideKeys == (Try.f6.params.toList ++ Rows.pduKindsSpec.plain.varTypes Try.prog ++ Try.f6.resultTypes.toList).any (Try.prog.wideKeysFrom ·))) = true := by kernel_rfl
theorem fact18 : (Rows.pduKindsSpec.vars.all (Try.prog.varReadable ·)) = true := by kernel_rfl
theorem fact19 : (Try.f6.resultTypes.all (fun t => Try.prog.readableRec t && decide (t < Try.prog.types.size))) = true := by kernel_rfl
theorem fact20 : ((Rows.pduKindsRow.ifacesOut == Try.f6.resultTypes.toList.any (Try.prog.ifacesRec ·))) = true := by kernel_rfl
theorem fact21 : ((Rows.pduKindsRow.loopsOut == Try.f6.resultTypes.toList.any (Try.prog.loopsFrom ·))) = true := by kernel_rfl
theorem fact22 : ((Rows.pduKindsRow.plainKeys == Try.prog.plainKeys)) = true := (by rw [Kit.plainKeys]; rfl)
theorem fact23 : (Rows.pduKindsRow.shortTexts.isNone) = true := by kernel_rfl
theorem fact24 : (Try.prog.stopsHeard) = true := Kit.stopsHeard
theorem fact25 : (Try.prog.mayEnter) = true := Kit.mayEnter
theorem fact26 : ((Rows.pduKindsRow.lifted == Try.prog.liftsFinal)) = true := (by rw [Kit.liftsFinal]; rfl)
theorem fact27 : ((Try.prog.make == some Rows.pduKindsRow.make)) = true := (by rw [Kit.make]; rfl)
theorem fact28 : ((Rows.pduKindsRow.kinds == (if Rows.pduKindsRow.domain.isEmpty then [] else Try.f6.params.toList.map fun t => match Try.prog.underlying t with | some (.int k) => some k | _ => none))) = true := by kernel_rfl
theorem fact29 : ((Rows.pduKindsRow.pinned == Rows.pduKindsRow.pinnedBy)) = true := by kernel_rfl
theorem fact30 : ((Rows.pduKindsRow.veiled == (Try.f6.params.toList ++ Rows.pduKindsSpec.plain.varTypes Try.prog ++ Try.f6.resultTypes.toList).any (Try.prog.veiledRec ·))) = true := by kernel_rfl
theorem fact31 : (Rows.pduKindsRow.veiledFits Try.prog Try.f6.params.toList (Try.f6.params.toList ++ Rows.pduKindsSpec.plain.varTypes Try.prog ++ Try.f6.resultTypes.toList)) = true := by kernel_rfl
set_option maxRecDepth 100000 in
theorem closed : joinedFacts Try.prog 6 Try.f6 Rows.pduKindsSpec Rows.pduKindsRow = true := by
  unfold joinedFacts
  exact (Kit.and2 (Kit.and2 (Kit.and2 (Kit.and2 (Kit.and2 (Kit.and2 (Kit.and2 (Kit.and2 (Kit.and2 (Kit.and2 (Kit.and2 (Kit.and2 (Kit.and2 (Kit.and2 (Kit.and2 (Kit.and2 (Kit.and2 (Kit.and2 (Kit.and2 (Kit.and2 (Kit.and2 (Kit.and2 (Kit.and2 (Kit.and2 (Kit.and2 (Kit.and2 (Kit.and2 (Kit.and2 (Kit.and2 (Kit.and2 (Kit.and2 fact0 fact1) fact2) fact3) fact4) fact5) fact6) fact7) fact8) fact9) fact10) fact11) fact12) fact13) fact14) fact15) fact16) fact17) fact18) fact19) fact20) fact21) fact22) fact23) fact24) fact25) fact26) fact27) fact28) fact29) fact30) fact31)
theorem named : Try.prog.funcNamed Rows.pduKindsRow.func = some 6 := by kernel_rfl
theorem inst : Try.f6.isInstance Try.prog Rows.pduKindsRow.origin Rows.pduKindsRow.targs := of_decide_eq_true (by kernel_rfl)
theorem wrap_ : Try.f6.isWrapper Try.prog Rows.pduKindsRow.wrapper Rows.pduKindsRow.mainSum := by unfold Func.isWrapper; first | (rw [if_pos (by decide +kernel)]; kernel_rfl) | (rw [if_neg (by decide +kernel)]; exact ⟨rfl, rfl⟩)
theorem over : Rows.pduKindsRow.holds Try.pinned (OpenSpec.ofChange Rows.pduKindsSpec) :=
  OpenClaim.holds_of_wide 6 Try.f6 rfl rfl rfl rfl rfl rfl rfl ⟨rfl, rfl, rfl, rfl, rfl⟩ rfl rfl rfl rfl rfl named Try.func6 closed
    inst wrap_
    (fun os started H enc _ => lifted os started H enc)
theorem proved : Rows.PduKindsSaid := over
#print axioms proved
end Go.Proofs.Ytnmcoebjkfpmjaa.pduKinds
namespace Go.Proofs.Ytnmcoebjkfpmjaa
theorem pduKinds_holds : Rows.PduKindsSaid := pduKinds.proved
end Go.Proofs.Ytnmcoebjkfpmjaa
