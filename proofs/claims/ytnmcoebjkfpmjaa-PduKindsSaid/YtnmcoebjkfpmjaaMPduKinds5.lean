/- Of each kind of PDU: what is no response, what is one, what stands behind it, whom it goes to; each rule by itself. -/
-- Put together by wip/print2/mergelaw.py: printed words (what this claim does not use is left out), printed functions, texts of this session.
import Derived.Test.YtnmcoebjkfpmjaaMPduKinds4
/-! KindA -/
namespace Go.Proofs.Ytnmcoebjkfpmjaa.KindP
open Go.RowKit Go.Proofs.Ytnmcoebjkfpmjaa.P Go.Proofs.Ytnmcoebjkfpmjaa.Lib Go.Proofs.YtnmcoebjkfpmjaaW.PrintWords Go.Proofs.YtnmcoebjkfpmjaaW.PrintLast
theorem pk_q {t f : Int} {resp : Bool} {form kind ns nr : Int} {n : Nat} (h : mayB t f resp form kind ns nr n = true) : mayB t f (!resp) form kind ns nr n = decide (form ≠ 2 ∨ kind = 1 ∨ kind = 2 ∨ kind = 8 ∨ kind = 9) := by
  obtain ⟨hi, hf⟩ := may_inB h
  unfold mayB
  rw [if_pos hi]
  unfold formB at hf ⊢
  by_cases f0 : form = 0
  · rw [if_pos f0] at hf ⊢; rw [hf]; subst f0; exact (decide_eq_true (.inl (by decide))).symm
  rw [if_neg f0] at hf ⊢
  by_cases f1 : form = 1
  · rw [if_pos f1] at hf ⊢; rw [hf]; subst f1; exact (decide_eq_true (.inl (by decide))).symm
  rw [if_neg f1] at hf ⊢
  by_cases f2 : form = 2
  · rw [if_pos f2] at hf ⊢
    rw [Bool.and_eq_true] at hf
    rw [hf.1, Bool.true_and]
    have hk := hf.2
    subst f2
    unfold kindB at hk ⊢
    have hr := kindB_range hf.2
    rcases (show kind = 0 ∨ kind = 1 ∨ kind = 2 ∨ kind = 3 ∨ kind = 4 ∨ kind = 5 ∨ kind = 6 ∨ kind = 7 ∨ kind = 8 ∨ kind = 9 by omega) with rfl | rfl | rfl | rfl | rfl | rfl | rfl | rfl | rfl | rfl
    all_goals (cases resp <;> simp_all)
  · rw [if_neg f2] at hf; cases hf
theorem pk_w {t f : Int} {resp : Bool} {form kind ns nr : Int} {n : Nat} (h : mayB t f resp form kind ns nr n = true) : mayB t f resp form kind (ns + 1) nr n = decide (form = 0 ∧ ns < 127) := by
  obtain ⟨hi, hf⟩ := may_cases h
  have hf' := (may_inB h).2
  unfold inB at hi
  rcases hf with ⟨rfl, rfl, h2⟩ | ⟨rfl, h1, h2, rfl, h3⟩ | ⟨rfl, rfl, rfl, h3⟩
  · by_cases hn : ns < 127
    · rw [decide_eq_true (show (0 : Int) = 0 ∧ ns < 127 from ⟨rfl, hn⟩)]
      unfold mayB
      rw [if_pos (show inB t f (ns + 1) nr n by unfold inB; omega)]
      exact hf'
    · rw [decide_eq_false (show ¬ ((0 : Int) = 0 ∧ ns < 127) from fun h => hn h.2)]
      unfold mayB
      rw [if_neg (show ¬ inB t f (ns + 1) nr n by unfold inB; omega)]
  · rw [decide_eq_false (by omega)]
    unfold mayB
    split
    · unfold formB; rw [if_neg (by decide), if_pos rfl, decide_eq_false (by omega)]; rfl
    · rfl
  · rw [decide_eq_false (by omega)]
    unfold mayB
    split
    · unfold formB; rw [if_neg (by decide), if_neg (by decide), if_pos rfl, decide_eq_false (by omega)]; rfl
    · rfl
theorem pk_odd {t f : Int} {resp : Bool} {kind ns nr : Int} {n : Nat} (h : mayB t f resp 2 kind ns nr n = true) (h3 : 3 ≤ kind) : t % 2 = 0 := by
  have hf := (may_inB h).2
  unfold formB at hf
  rw [if_neg (by decide), if_neg (by decide), if_pos rfl, Bool.and_eq_true] at hf
  have hk := hf.2
  have hr := kindB_range hk
  unfold kindB at hk
  rcases (show kind = 3 ∨ kind = 4 ∨ kind = 5 ∨ kind = 6 ∨ kind = 7 ∨ kind = 8 ∨ kind = 9 by omega) with rfl | rfl | rfl | rfl | rfl | rfl | rfl
  all_goals (simp at hk; omega)
theorem blk_new2 (w : World) (a b : Obj) : ((w.alloc a).alloc b).heap[w.heap.size + 1]? = some b := by
  have h : (w.alloc a).heap.size = w.heap.size + 1 := Array.size_push _
  rw [← h]; exact blk_new (w.alloc a) b
theorem blk_new3 (w : World) (a b c : Obj) : (((w.alloc a).alloc b).alloc c).heap[w.heap.size + 1 + 1]? = some c := by
  have h : ((w.alloc a).alloc b).heap.size = w.heap.size + 1 + 1 := by rw [show ((w.alloc a).alloc b).heap = (w.heap.push a).push b from rfl]; simp
  rw [← h]; exact blk_new ((w.alloc a).alloc b) c
theorem pk_poll {t f : Int} {resp : Bool} {form kind ns nr : Int} {n : Nat} (poll : Bool) (info : List Int) (h : mayB t f resp form kind ns nr n = true) (hn : info.length = n) : pdu_May.f 4 t f resp form kind ns nr poll info = some true := by
  subst hn; rw [may_pdu 0, h]
end Go.Proofs.Ytnmcoebjkfpmjaa.KindP
namespace Go.Proofs.Ytnmcoebjkfpmjaa.P
open Go.RowKit Go.Proofs.YtnmcoebjkfpmjaaW.PrintWords Go.Proofs.YtnmcoebjkfpmjaaW.PrintLast Go.Proofs.YtnmcoebjkfpmjaaW.PrintMore
set_option linter.unusedVariables false
set_option linter.unusedSimpArgs false
def antiphonlaw6_PduKinds.f (a0_0 a0_1 : Int) (a0_2 : Bool) (a0_3 a0_4 a0_5 a0_6 : Int) (a0_7 : Bool) (l0_8 : List Int) : Option Bool := some true
set_option maxHeartbeats 16000000 in
set_option maxRecDepth 100000 in
theorem antiphonlaw6_PduKinds.antiphonlaw6_PduKinds.callsA (a0_0 a0_1 : Int) (a0_2 : Bool) (a0_3 a0_4 a0_5 a0_6 : Int) (a0_7 : Bool) (A0_8 : Option Addr) (c0_8 : Nat) (l0_8 : List Int) (r : Bool) (w : World) (hr0_8 : Kd.C (Kd.int .u8) w A0_8 l0_8.length l0_8) (hc0_8 : l0_8.length ≤ c0_8) (hab : ¬ (a0_3 = 2 ∧ a0_4 ≤ 2)) (h : antiphonlaw6_PduKinds.f a0_0 a0_1 a0_2 a0_3 a0_4 a0_5 a0_6 a0_7 l0_8 = some r) :
    Calls Try.prog 6 #[.agg #[.int .i64 a0_0, .int .i64 a0_1, .bool a0_2, .int .i64 a0_3, .int .i64 a0_4, .int .i64 a0_5, .int .i64 a0_6, .bool a0_7, .slice A0_8 l0_8.length c0_8]] w fun e w' => e = .returned (.bool r) ∧ Below w.heap.size w w' := by
  obtain rfl : true = r := Option.some.inj h
  clear h
  have HR := Aside0.mk hr0_8
  have HC := Aside0.mk hc0_8
  have HAW := Aside0.mk (show antiphonlaw6_awake.f 300 = some true by decide +kernel)
  clear hr0_8 hc0_8
  have HAB := Aside0.mk hab
  clear hab
  go_enter Try.func6, Try.ntmps6
  go_wp2_with fail
  refine (antiphonlaw6_awake.calls 300 true _ HAW.out).mono ?_
  rintro e wa ⟨rfl, hBa⟩
  have hpa := (hBa.block _ (blk_lt (blk_new w (.cells #[.int .i64 a0_0, .int .i64 a0_1, .bool a0_2, .int .i64 a0_3, .int .i64 a0_4, .int .i64 a0_5, .int .i64 a0_6, .bool a0_7, .slice A0_8 l0_8.length c0_8] 25)))).trans (blk_new w _)
  have HBa := Aside0.mk (below_step (below_alloc (Below.refl w.heap.size w) _) hBa)
  have HPa := Aside0.mk hpa
  clear hBa hpa
  have k0 : wa.cell? ⟨w.heap.size, 0, none⟩ = some (.int .i64 a0_0) := (blk_cell HPa.out 0).trans rfl
  have k1 : wa.cell? ⟨w.heap.size, 1, none⟩ = some (.int .i64 a0_1) := (blk_cell HPa.out 1).trans rfl
  have k2 : wa.cell? ⟨w.heap.size, 2, none⟩ = some (.bool a0_2) := (blk_cell HPa.out 2).trans rfl
  have k3 : wa.cell? ⟨w.heap.size, 3, none⟩ = some (.int .i64 a0_3) := (blk_cell HPa.out 3).trans rfl
  have k4 : wa.cell? ⟨w.heap.size, 4, none⟩ = some (.int .i64 a0_4) := (blk_cell HPa.out 4).trans rfl
  have k5 : wa.cell? ⟨w.heap.size, 5, none⟩ = some (.int .i64 a0_5) := (blk_cell HPa.out 5).trans rfl
  have k6 : wa.cell? ⟨w.heap.size, 6, none⟩ = some (.int .i64 a0_6) := (blk_cell HPa.out 6).trans rfl
  have k7 : wa.cell? ⟨w.heap.size, 7, none⟩ = some (.bool a0_7) := (blk_cell HPa.out 7).trans rfl
  have k8 : wa.cell? ⟨w.heap.size, 8, none⟩ = some (.slice A0_8 l0_8.length c0_8) := (blk_cell HPa.out 8).trans rfl
  by_cases hl : l0_8.length ≤ 2000
  case neg =>
    have hl' : decide (2000 < l0_8.length) = true := decide_eq_true (by omega)
    go_wp2_with fail
    go_ret
    exact ⟨rfl, HBa.out⟩
  have hl' : decide (2000 < l0_8.length) = false := decide_eq_false (by omega)
  go_wp2_with fail
  refine (pdu_May.calls 4 a0_0 a0_1 a0_2 a0_3 a0_4 a0_5 a0_6 a0_7 A0_8 c0_8 l0_8 _ _ (Kd.C_below HR.out HBa.out) HC.out (Lib.may_pdu 0 a0_0 a0_1 a0_2 a0_3 a0_4 a0_5 a0_6 a0_7 l0_8)).mono ?_
  rintro e wb ⟨rfl, hBb⟩
  have HBb := Aside0.mk (below_step HBa.out hBb)
  have HPb := Aside0.mk ((hBb.block _ (blk_lt HPa.out)).trans HPa.out)
  clear hBb k0 k1 k2 k3 k4 k5 k6 k7 k8
  cases hm : Lib.mayB a0_0 a0_1 a0_2 a0_3 a0_4 a0_5 a0_6 l0_8.length with
  | false =>
    go_wp2_with fail
    go_ret
    exact ⟨rfl, HBb.out⟩
  | true =>
    obtain ⟨hi, hcs⟩ := Lib.may_cases hm
    have HM := Aside0.mk hm
    unfold Lib.inB at hi
    obtain ⟨t0, t1, f0, f1, f2, ns0, ns1, nr0, nr1, hn⟩ := hi
    clear hm hl hl' hn
    rcases hcs with ⟨rfl, rfl, ht⟩ | ⟨rfl, h1, h2, rfl, h3, ht⟩ | ⟨rfl, rfl, rfl, h1, h2, h3⟩
    · have HBO := Aside0.mk ((KindP.pk_q HM.out).trans (by decide : _ = true))
      obtain ⟨lt, hlt⟩ : ∃ lt, decide (a0_5 < 127) = lt := ⟨_, rfl⟩
      have HLT := Aside0.mk ((KindP.pk_w HM.out).trans (by rw [← hlt]; simp : _ = lt))
      have k0 : wb.cell? ⟨w.heap.size, 0, none⟩ = some (.int .i64 a0_0) := (blk_cell HPb.out 0).trans rfl
      have k1 : wb.cell? ⟨w.heap.size, 1, none⟩ = some (.int .i64 a0_1) := (blk_cell HPb.out 1).trans rfl
      have k2 : wb.cell? ⟨w.heap.size, 2, none⟩ = some (.bool a0_2) := (blk_cell HPb.out 2).trans rfl
      have k3 : wb.cell? ⟨w.heap.size, 3, none⟩ = some (.int .i64 0) := (blk_cell HPb.out 3).trans rfl
      have k4 : wb.cell? ⟨w.heap.size, 4, none⟩ = some (.int .i64 0) := (blk_cell HPb.out 4).trans rfl
      have k5 : wb.cell? ⟨w.heap.size, 5, none⟩ = some (.int .i64 a0_5) := (blk_cell HPb.out 5).trans rfl
      have k6 : wb.cell? ⟨w.heap.size, 6, none⟩ = some (.int .i64 a0_6) := (blk_cell HPb.out 6).trans rfl
      have k7 : wb.cell? ⟨w.heap.size, 7, none⟩ = some (.bool a0_7) := (blk_cell HPb.out 7).trans rfl
      have k8 : wb.cell? ⟨w.heap.size, 8, none⟩ = some (.slice A0_8 l0_8.length c0_8) := (blk_cell HPb.out 8).trans rfl
      have hpw : w.heap.size < wb.heap.size := blk_lt HPb.out
      have hpw1 : w.heap.size < wb.heap.size + 1 := by omega
      have hpw2 : w.heap.size < wb.heap.size + 1 + 1 := by omega
      have hpw3 : w.heap.size ≠ wb.heap.size + 1 + 1 := by omega
      go_wp2_with fail
      generalize hW : (((wb.alloc _).alloc _).alloc _) = W
      have BP := Aside0.mk (show W.heap[w.heap.size]? = some (.cells #[.int .i64 a0_0, .int .i64 a0_1, .bool a0_2, .int .i64 0, .int .i64 0, .int .i64 a0_5, .int .i64 a0_6, .bool a0_7, .slice A0_8 l0_8.length c0_8] 25 (0, 0)) by rw [← hW]; exact blk_alloc (blk_alloc (blk_alloc HPb.out _) _) _)
      have BQ := Aside0.mk (show W.heap[wb.heap.size]? = some (.cells #[.int .i64 a0_0, .int .i64 a0_1, .bool (!a0_2), .int .i64 0, .int .i64 0, .int .i64 a0_5, .int .i64 a0_6, .bool a0_7, .slice A0_8 l0_8.length c0_8] 25 (0, 0)) by rw [← hW]; exact blk_alloc (blk_alloc (blk_new wb _) _) _)
      have BU := Aside0.mk (show W.heap[wb.heap.size + 1]? = some (.cells #[.int .i64 a0_0, .int .i64 a0_1, .bool a0_2, .int .i64 0, .int .i64 0, .int .i64 a0_5, .int .i64 a0_6, .bool (!a0_7), .slice A0_8 l0_8.length c0_8] 25 (0, 0)) by rw [← hW]; exact blk_alloc (KindP.blk_new2 wb _ _) _)
      have BV := Aside0.mk (show W.heap[wb.heap.size + 1 + 1]? = some (.cells #[.int .i64 a0_0, .int .i64 a0_1, .bool a0_2, .int .i64 0, .int .i64 0, .int .i64 (a0_5 + 1), .int .i64 a0_6, .bool a0_7, .slice A0_8 l0_8.length c0_8] 25 (0, 0)) by rw [← hW]; exact KindP.blk_new3 wb _ _ _)
      have HB := Aside0.mk (show Below w.heap.size w W by rw [← hW]; exact below_alloc (below_alloc (below_alloc HBb.out _) _) _)
      clear hW k0 k1 k2 k3 k4 k5 k6 k7 k8
      refine start_ (n := 22) (S := fun w' => w'.cell? ⟨w.heap.size, 3, none⟩ = some (.int .i64 0) ∧ w'.cell? ⟨w.heap.size, 5, none⟩ = some (.int .i64 a0_5) ∧ w'.cell? ⟨wb.heap.size, 0, none⟩ = some (.int .i64 a0_0) ∧ w'.cell? ⟨wb.heap.size, 1, none⟩ = some (.int .i64 a0_1) ∧ w'.cell? ⟨wb.heap.size, 2, none⟩ = some (.bool (!a0_2)) ∧ w'.cell? ⟨wb.heap.size, 3, none⟩ = some (.int .i64 0) ∧ w'.cell? ⟨wb.heap.size, 4, none⟩ = some (.int .i64 0) ∧ w'.cell? ⟨wb.heap.size, 5, none⟩ = some (.int .i64 a0_5) ∧ w'.cell? ⟨wb.heap.size, 6, none⟩ = some (.int .i64 a0_6) ∧ w'.cell? ⟨wb.heap.size, 7, none⟩ = some (.bool a0_7) ∧ w'.cell? ⟨wb.heap.size, 8, none⟩ = some (.slice A0_8 l0_8.length c0_8) ∧ w'.cell? ⟨wb.heap.size + 1, 0, none⟩ = some (.int .i64 a0_0) ∧ w'.cell? ⟨wb.heap.size + 1, 1, none⟩ = some (.int .i64 a0_1) ∧ w'.cell? ⟨wb.heap.size + 1, 2, none⟩ = some (.bool a0_2) ∧ w'.cell? ⟨wb.heap.size + 1, 3, none⟩ = some (.int .i64 0) ∧ w'.cell? ⟨wb.heap.size + 1, 4, none⟩ = some (.int .i64 0) ∧ w'.cell? ⟨wb.heap.size + 1, 5, none⟩ = some (.int .i64 a0_5) ∧ w'.cell? ⟨wb.heap.size + 1, 6, none⟩ = some (.int .i64 a0_6) ∧ w'.cell? ⟨wb.heap.size + 1, 7, none⟩ = some (.bool (!a0_7)) ∧ w'.cell? ⟨wb.heap.size + 1, 8, none⟩ = some (.slice A0_8 l0_8.length c0_8) ∧ w'.cell? ⟨wb.heap.size + 1 + 1, 0, none⟩ = some (.int .i64 a0_0) ∧ w'.cell? ⟨wb.heap.size + 1 + 1, 1, none⟩ = some (.int .i64 a0_1) ∧ w'.cell? ⟨wb.heap.size + 1 + 1, 2, none⟩ = some (.bool a0_2) ∧ w'.cell? ⟨wb.heap.size + 1 + 1, 3, none⟩ = some (.int .i64 0) ∧ w'.cell? ⟨wb.heap.size + 1 + 1, 4, none⟩ = some (.int .i64 0) ∧ w'.cell? ⟨wb.heap.size + 1 + 1, 5, none⟩ = some (.int .i64 (a0_5 + 1)) ∧ w'.cell? ⟨wb.heap.size + 1 + 1, 6, none⟩ = some (.int .i64 a0_6) ∧ w'.cell? ⟨wb.heap.size + 1 + 1, 7, none⟩ = some (.bool a0_7) ∧ w'.cell? ⟨wb.heap.size + 1 + 1, 8, none⟩ = some (.slice A0_8 l0_8.length c0_8)) (ds := []) #[false, false, false, false, false, false, false, false, false, false, false, false, false, false, false, false, false, false, false, false, false, false] (by kernel_rfl) rfl rfl ⟨(blk_cell BP.out 3).trans rfl, (blk_cell BP.out 5).trans rfl, (blk_cell BQ.out 0).trans rfl, (blk_cell BQ.out 1).trans rfl, (blk_cell BQ.out 2).trans rfl, (blk_cell BQ.out 3).trans rfl, (blk_cell BQ.out 4).trans rfl, (blk_cell BQ.out 5).trans rfl, (blk_cell BQ.out 6).trans rfl, (blk_cell BQ.out 7).trans rfl, (blk_cell BQ.out 8).trans rfl, (blk_cell BU.out 0).trans rfl, (blk_cell BU.out 1).trans rfl, (blk_cell BU.out 2).trans rfl, (blk_cell BU.out 3).trans rfl, (blk_cell BU.out 4).trans rfl, (blk_cell BU.out 5).trans rfl, (blk_cell BU.out 6).trans rfl, (blk_cell BU.out 7).trans rfl, (blk_cell BU.out 8).trans rfl, (blk_cell BV.out 0).trans rfl, (blk_cell BV.out 1).trans rfl, (blk_cell BV.out 2).trans rfl, (blk_cell BV.out 3).trans rfl, (blk_cell BV.out 4).trans rfl, (blk_cell BV.out 5).trans rfl, (blk_cell BV.out 6).trans rfl, (blk_cell BV.out 7).trans rfl, (blk_cell BV.out 8).trans rfl⟩ (fun hHeld => ?_)
      refine pure_ (i := 2) (N := some 106) (v := ?_) (a' := ?_) #[false, false, true, false, false, false, false, false, false, false, false, false, false, false, false, false, false, false, false, false, false, false] rfl rfl (by kernel_rfl) (fun _ _ _ h => h) (Or.inl ⟨by rfl, ?_⟩) ?_ ?_
      rotate_left
      · intro w'
        go_simp
        with_reducible rfl
      rotate_left
      · simp only [Act.put, List.setIfInBounds_toArray, List.set_cons_zero, List.set_cons_succ, i64_w, i32_w]
        rfl
      refine take_ (i := 0) (N := some 104) (v := ?_) (a' := ?_) #[true, false, true, false, false, false, false, false, false, false, false, false, false, false, false, false, false, false, false, false, false, false] rfl rfl (by kernel_rfl) (fun _ _ _ h => h) (Or.inl ⟨by rfl, ?_⟩) hHeld ?_ ?_
      rotate_left
      · rintro w' ⟨s0, s1, s2, s3, s4, s5, s6, s7, s8, s9, s10, s11, s12, s13, s14, s15, s16, s17, s18, s19, s20, s21, s22, s23, s24, s25, s26, s27, s28⟩
        go_simp
        with_reducible rfl
      rotate_left
      · simp only [Act.put, List.setIfInBounds_toArray, List.set_cons_zero, List.set_cons_succ, i64_w, i32_w]
        rfl
      refine one_ (i := 1) (N := some 105) #[true, true, true, false, false, false, false, false, false, false, false, false, false, false, false, false, false, false, false, false, false, false] rfl rfl (by kernel_rfl) (by decide) (fun K hK => ?_)
      refine goes_ Try.func34 (by kernel_rfl) rfl #[.agg #[.int .i64 a0_0, .int .i64 a0_1, .bool (!a0_2), .int .i64 0, .int .i64 0, .int .i64 a0_5, .int .i64 a0_6, .bool a0_7, .slice A0_8 l0_8.length c0_8]] (by rfl) rfl rfl (by simp only [List.map_toArray, List.map_cons, List.map_nil]; rfl) ?_
      with_reducible refine (pdu_May.calls 4 (a0_0) (a0_1) ((!a0_2)) (0) (0) (a0_5) (a0_6) (a0_7) A0_8 c0_8 l0_8 true _ (Kd.C_below HR.out (by (repeat (with_reducible first | exact HB.out | apply pw_below_drewN | apply below_drew1)))) HC.out ((Lib.may_pdu 0 _ _ _ _ _ _ _ _ _).trans (congrArg some HBO.out))).mono ?_
      rintro e w3 ⟨rfl, hb⟩
      refine ⟨_, rfl, ?_⟩
      have nBP := Aside0.mk (blk_below (g := w.heap.size) (o := (.cells #[.int .i64 a0_0, .int .i64 a0_1, .bool a0_2, .int .i64 0, .int .i64 0, .int .i64 a0_5, .int .i64 a0_6, .bool a0_7, .slice A0_8 l0_8.length c0_8] 25 (0, 0))) (by (with_reducible repeat (first | refine blk_drewN ?_ _ | refine blk_drew ?_)); exact BP.out) hb)
      have nBQ := Aside0.mk (blk_below (g := wb.heap.size) (o := (.cells #[.int .i64 a0_0, .int .i64 a0_1, .bool (!a0_2), .int .i64 0, .int .i64 0, .int .i64 a0_5, .int .i64 a0_6, .bool a0_7, .slice A0_8 l0_8.length c0_8] 25 (0, 0))) (by (with_reducible repeat (first | refine blk_drewN ?_ _ | refine blk_drew ?_)); exact BQ.out) hb)
      have nBU := Aside0.mk (blk_below (g := wb.heap.size + 1) (o := (.cells #[.int .i64 a0_0, .int .i64 a0_1, .bool a0_2, .int .i64 0, .int .i64 0, .int .i64 a0_5, .int .i64 a0_6, .bool (!a0_7), .slice A0_8 l0_8.length c0_8] 25 (0, 0))) (by (with_reducible repeat (first | refine blk_drewN ?_ _ | refine blk_drew ?_)); exact BU.out) hb)
      have nBV := Aside0.mk (blk_below (g := wb.heap.size + 1 + 1) (o := (.cells #[.int .i64 a0_0, .int .i64 a0_1, .bool a0_2, .int .i64 0, .int .i64 0, .int .i64 (a0_5 + 1), .int .i64 a0_6, .bool a0_7, .slice A0_8 l0_8.length c0_8] 25 (0, 0))) (by (with_reducible repeat (first | refine blk_drewN ?_ _ | refine blk_drew ?_)); exact BV.out) hb)
      have nHB := Aside0.mk (below_step (by (repeat (with_reducible first | exact HB.out | apply pw_below_drewN | apply below_drew1))) hb)
      clear BP BQ BU BV HB hb
      have BP := nBP
      have BQ := nBQ
      have BU := nBU
      have BV := nBV
      have HB := nHB
      clear nBP nBQ nBU nBV nHB
      refine hK.out _ _ ⟨(blk_cell BP.out 3).trans rfl, (blk_cell BP.out 5).trans rfl, (blk_cell BQ.out 0).trans rfl, (blk_cell BQ.out 1).trans rfl, (blk_cell BQ.out 2).trans rfl, (blk_cell BQ.out 3).trans rfl, (blk_cell BQ.out 4).trans rfl, (blk_cell BQ.out 5).trans rfl, (blk_cell BQ.out 6).trans rfl, (blk_cell BQ.out 7).trans rfl, (blk_cell BQ.out 8).trans rfl, (blk_cell BU.out 0).trans rfl, (blk_cell BU.out 1).trans rfl, (blk_cell BU.out 2).trans rfl, (blk_cell BU.out 3).trans rfl, (blk_cell BU.out 4).trans rfl, (blk_cell BU.out 5).trans rfl, (blk_cell BU.out 6).trans rfl, (blk_cell BU.out 7).trans rfl, (blk_cell BU.out 8).trans rfl, (blk_cell BV.out 0).trans rfl, (blk_cell BV.out 1).trans rfl, (blk_cell BV.out 2).trans rfl, (blk_cell BV.out 3).trans rfl, (blk_cell BV.out 4).trans rfl, (blk_cell BV.out 5).trans rfl, (blk_cell BV.out 6).trans rfl, (blk_cell BV.out 7).trans rfl, (blk_cell BV.out 8).trans rfl⟩ (fun hHeld => ?_)
      clear hK K
      refine norm_ (a' := ?_) ?_ ?_
      rotate_left
      · show Act.put _ (some 105) _ = _
        simp only [Act.put, List.setIfInBounds_toArray, List.set_cons_zero, List.set_cons_succ, i64_w, i32_w]
        rfl
      refine pure_ (i := 3) (N := some 107) (v := ?_) (a' := ?_) #[true, true, true, true, false, false, false, false, false, false, false, false, false, false, false, false, false, false, false, false, false, false] rfl rfl (by kernel_rfl) (fun _ _ _ h => h) (Or.inl ⟨by rfl, ?_⟩) ?_ ?_
      rotate_left
      · intro w'
        go_simp
        with_reducible rfl
      rotate_left
      · simp only [Act.put, List.setIfInBounds_toArray, List.set_cons_zero, List.set_cons_succ, i64_w, i32_w]
        rfl
      refine pure_ (i := 4) (N := some 108) (v := ?_) (a' := ?_) #[true, true, true, true, true, false, false, false, false, false, false, false, false, false, false, false, false, false, false, false, false, false] rfl rfl (by kernel_rfl) (fun _ _ _ h => h) (Or.inl ⟨by rfl, ?_⟩) ?_ ?_
      rotate_left
      · intro w'
        go_simp
        with_reducible rfl
      rotate_left
      · simp only [Act.put, List.setIfInBounds_toArray, List.set_cons_zero, List.set_cons_succ, i64_w, i32_w]
        rfl
      refine take_ (i := 5) (N := some 109) (v := ?_) (a' := ?_) #[true, true, true, true, true, true, false, false, false, false, false, false, false, false, false, false, false, false, false, false, false, false] rfl rfl (by kernel_rfl) (fun _ _ _ h => h) (Or.inl ⟨by rfl, ?_⟩) hHeld ?_ ?_
      rotate_left
      · rintro w' ⟨s0, s1, s2, s3, s4, s5, s6, s7, s8, s9, s10, s11, s12, s13, s14, s15, s16, s17, s18, s19, s20, s21, s22, s23, s24, s25, s26, s27, s28⟩
        go_simp
        with_reducible rfl
      rotate_left
      · simp only [Act.put, List.setIfInBounds_toArray, List.set_cons_zero, List.set_cons_succ, i64_w, i32_w]
        rfl
      refine one_ (i := 6) (N := some 110) #[true, true, true, true, true, true, true, false, false, false, false, false, false, false, false, false, false, false, false, false, false, false] rfl rfl (by kernel_rfl) (by decide) (fun K hK => ?_)
      refine goes_ Try.func34 (by kernel_rfl) rfl #[.agg #[.int .i64 a0_0, .int .i64 a0_1, .bool a0_2, .int .i64 0, .int .i64 0, .int .i64 a0_5, .int .i64 a0_6, .bool (!a0_7), .slice A0_8 l0_8.length c0_8]] (by rfl) rfl rfl (by simp only [List.map_toArray, List.map_cons, List.map_nil]; rfl) ?_
      with_reducible refine (pdu_May.calls 4 (a0_0) (a0_1) (a0_2) (0) (0) (a0_5) (a0_6) ((!a0_7)) A0_8 c0_8 l0_8 true _ (Kd.C_below HR.out (by (repeat (with_reducible first | exact HB.out | apply pw_below_drewN | apply below_drew1)))) HC.out (KindP.pk_poll (!a0_7) l0_8 HM.out rfl)).mono ?_
      rintro e w3 ⟨rfl, hb⟩
      refine ⟨_, rfl, ?_⟩
      have nBP := Aside0.mk (blk_below (g := w.heap.size) (o := (.cells #[.int .i64 a0_0, .int .i64 a0_1, .bool a0_2, .int .i64 0, .int .i64 0, .int .i64 a0_5, .int .i64 a0_6, .bool a0_7, .slice A0_8 l0_8.length c0_8] 25 (0, 0))) (by (with_reducible repeat (first | refine blk_drewN ?_ _ | refine blk_drew ?_)); exact BP.out) hb)
      have nBQ := Aside0.mk (blk_below (g := wb.heap.size) (o := (.cells #[.int .i64 a0_0, .int .i64 a0_1, .bool (!a0_2), .int .i64 0, .int .i64 0, .int .i64 a0_5, .int .i64 a0_6, .bool a0_7, .slice A0_8 l0_8.length c0_8] 25 (0, 0))) (by (with_reducible repeat (first | refine blk_drewN ?_ _ | refine blk_drew ?_)); exact BQ.out) hb)
      have nBU := Aside0.mk (blk_below (g := wb.heap.size + 1) (o := (.cells #[.int .i64 a0_0, .int .i64 a0_1, .bool a0_2, .int .i64 0, .int .i64 0, .int .i64 a0_5, .int .i64 a0_6, .bool (!a0_7), .slice A0_8 l0_8.length c0_8] 25 (0, 0))) (by (with_reducible repeat (first | refine blk_drewN ?_ _ | refine blk_drew ?_)); exact BU.out) hb)
      have nBV := Aside0.mk (blk_below (g := wb.heap.size + 1 + 1) (o := (.cells #[.int .i64 a0_0, .int .i64 a0_1, .bool a0_2, .int .i64 0, .int .i64 0, .int .i64 (a0_5 + 1), .int .i64 a0_6, .bool a0_7, .slice A0_8 l0_8.length c0_8] 25 (0, 0))) (by (with_reducible repeat (first | refine blk_drewN ?_ _ | refine blk_drew ?_)); exact BV.out) hb)
      have nHB := Aside0.mk (below_step (by (repeat (with_reducible first | exact HB.out | apply pw_below_drewN | apply below_drew1))) hb)
      clear BP BQ BU BV HB hb
      have BP := nBP
      have BQ := nBQ
      have BU := nBU
      have BV := nBV
      have HB := nHB
      clear nBP nBQ nBU nBV nHB
      refine hK.out _ _ ⟨(blk_cell BP.out 3).trans rfl, (blk_cell BP.out 5).trans rfl, (blk_cell BQ.out 0).trans rfl, (blk_cell BQ.out 1).trans rfl, (blk_cell BQ.out 2).trans rfl, (blk_cell BQ.out 3).trans rfl, (blk_cell BQ.out 4).trans rfl, (blk_cell BQ.out 5).trans rfl, (blk_cell BQ.out 6).trans rfl, (blk_cell BQ.out 7).trans rfl, (blk_cell BQ.out 8).trans rfl, (blk_cell BU.out 0).trans rfl, (blk_cell BU.out 1).trans rfl, (blk_cell BU.out 2).trans rfl, (blk_cell BU.out 3).trans rfl, (blk_cell BU.out 4).trans rfl, (blk_cell BU.out 5).trans rfl, (blk_cell BU.out 6).trans rfl, (blk_cell BU.out 7).trans rfl, (blk_cell BU.out 8).trans rfl, (blk_cell BV.out 0).trans rfl, (blk_cell BV.out 1).trans rfl, (blk_cell BV.out 2).trans rfl, (blk_cell BV.out 3).trans rfl, (blk_cell BV.out 4).trans rfl, (blk_cell BV.out 5).trans rfl, (blk_cell BV.out 6).trans rfl, (blk_cell BV.out 7).trans rfl, (blk_cell BV.out 8).trans rfl⟩ (fun hHeld => ?_)
      clear hK K
      refine norm_ (a' := ?_) ?_ ?_
      rotate_left
      · show Act.put _ (some 110) _ = _
        simp only [Act.put, List.setIfInBounds_toArray, List.set_cons_zero, List.set_cons_succ, i64_w, i32_w]
        rfl
      refine pure_ (i := 7) (N := some 111) (v := ?_) (a' := ?_) #[true, true, true, true, true, true, true, true, false, false, false, false, false, false, false, false, false, false, false, false, false, false] rfl rfl (by kernel_rfl) (fun _ _ _ h => h) (Or.inl ⟨by rfl, ?_⟩) ?_ ?_
      rotate_left
      · intro w'
        go_simp
        with_reducible rfl
      rotate_left
      · simp only [Act.put, List.setIfInBounds_toArray, List.set_cons_zero, List.set_cons_succ, i64_w, i32_w]
        rfl
      refine pure_ (i := 8) (N := some 112) (v := ?_) (a' := ?_) #[true, true, true, true, true, true, true, true, true, false, false, false, false, false, false, false, false, false, false, false, false, false] rfl rfl (by kernel_rfl) (fun _ _ _ h => h) (Or.inl ⟨by rfl, ?_⟩) ?_ ?_
      rotate_left
      · intro w'
        go_simp
        with_reducible rfl
      rotate_left
      · simp only [Act.put, List.setIfInBounds_toArray, List.set_cons_zero, List.set_cons_succ, i64_w, i32_w]
        rfl
      refine pure_ (i := 11) (N := some 115) (v := ?_) (a' := ?_) #[true, true, true, true, true, true, true, true, true, false, false, true, false, false, false, false, false, false, false, false, false, false] rfl rfl (by kernel_rfl) (fun _ _ _ h => h) (Or.inl ⟨by rfl, ?_⟩) ?_ ?_
      rotate_left
      · intro w'
        go_simp
        with_reducible rfl
      rotate_left
      · simp only [Act.put, List.setIfInBounds_toArray, List.set_cons_zero, List.set_cons_succ, i64_w, i32_w]
        rfl
      refine take_ (i := 9) (N := some 113) (v := ?_) (a' := ?_) #[true, true, true, true, true, true, true, true, true, true, false, true, false, false, false, false, false, false, false, false, false, false] rfl rfl (by kernel_rfl) (fun _ _ _ h => h) (Or.inl ⟨by rfl, ?_⟩) hHeld ?_ ?_
      rotate_left
      · rintro w' ⟨s0, s1, s2, s3, s4, s5, s6, s7, s8, s9, s10, s11, s12, s13, s14, s15, s16, s17, s18, s19, s20, s21, s22, s23, s24, s25, s26, s27, s28⟩
        go_simp
        with_reducible rfl
      rotate_left
      · simp only [Act.put, List.setIfInBounds_toArray, List.set_cons_zero, List.set_cons_succ, i64_w, i32_w]
        rfl
      refine take_ (i := 12) (N := some 116) (v := ?_) (a' := ?_) #[true, true, true, true, true, true, true, true, true, true, false, true, true, false, false, false, false, false, false, false, false, false] rfl rfl (by kernel_rfl) (fun _ _ _ h => h) (Or.inl ⟨by rfl, ?_⟩) hHeld ?_ ?_
      rotate_left
      · rintro w' ⟨s0, s1, s2, s3, s4, s5, s6, s7, s8, s9, s10, s11, s12, s13, s14, s15, s16, s17, s18, s19, s20, s21, s22, s23, s24, s25, s26, s27, s28⟩
        go_simp
        with_reducible rfl
      rotate_left
      · simp only [Act.put, List.setIfInBounds_toArray, List.set_cons_zero, List.set_cons_succ, i64_w, i32_w]
        rfl
      refine pure_ (i := 13) (N := some 117) (v := ?_) (a' := ?_) #[true, true, true, true, true, true, true, true, true, true, false, true, true, true, false, false, false, false, false, false, false, false] rfl rfl (by kernel_rfl) (fun _ _ _ h => h) (Or.inl ⟨by rfl, ?_⟩) ?_ ?_
      rotate_left
      · intro w'
        go_simp
        with_reducible rfl
      rotate_left
      · simp only [Act.put, List.setIfInBounds_toArray, List.set_cons_zero, List.set_cons_succ, i64_w, i32_w]
        rfl
      refine one_ (i := 10) (N := some 114) #[true, true, true, true, true, true, true, true, true, true, true, true, true, true, false, false, false, false, false, false, false, false] rfl rfl (by kernel_rfl) (by decide) (fun K hK => ?_)
      refine goes_ Try.func34 (by kernel_rfl) rfl #[.agg #[.int .i64 a0_0, .int .i64 a0_1, .bool a0_2, .int .i64 0, .int .i64 0, .int .i64 (a0_5 + 1), .int .i64 a0_6, .bool a0_7, .slice A0_8 l0_8.length c0_8]] (by rfl) rfl rfl (by simp only [List.map_toArray, List.map_cons, List.map_nil]; rfl) ?_
      with_reducible refine (pdu_May.calls 4 (a0_0) (a0_1) (a0_2) (0) (0) ((a0_5 + 1)) (a0_6) (a0_7) A0_8 c0_8 l0_8 lt _ (Kd.C_below HR.out (by (repeat (with_reducible first | exact HB.out | apply pw_below_drewN | apply below_drew1)))) HC.out ((Lib.may_pdu 0 _ _ _ _ _ _ _ _ _).trans (congrArg some HLT.out))).mono ?_
      rintro e w3 ⟨rfl, hb⟩
      refine ⟨_, rfl, ?_⟩
      have nBP := Aside0.mk (blk_below (g := w.heap.size) (o := (.cells #[.int .i64 a0_0, .int .i64 a0_1, .bool a0_2, .int .i64 0, .int .i64 0, .int .i64 a0_5, .int .i64 a0_6, .bool a0_7, .slice A0_8 l0_8.length c0_8] 25 (0, 0))) (by (with_reducible repeat (first | refine blk_drewN ?_ _ | refine blk_drew ?_)); exact BP.out) hb)
      have nBQ := Aside0.mk (blk_below (g := wb.heap.size) (o := (.cells #[.int .i64 a0_0, .int .i64 a0_1, .bool (!a0_2), .int .i64 0, .int .i64 0, .int .i64 a0_5, .int .i64 a0_6, .bool a0_7, .slice A0_8 l0_8.length c0_8] 25 (0, 0))) (by (with_reducible repeat (first | refine blk_drewN ?_ _ | refine blk_drew ?_)); exact BQ.out) hb)
      have nBU := Aside0.mk (blk_below (g := wb.heap.size + 1) (o := (.cells #[.int .i64 a0_0, .int .i64 a0_1, .bool a0_2, .int .i64 0, .int .i64 0, .int .i64 a0_5, .int .i64 a0_6, .bool (!a0_7), .slice A0_8 l0_8.length c0_8] 25 (0, 0))) (by (with_reducible repeat (first | refine blk_drewN ?_ _ | refine blk_drew ?_)); exact BU.out) hb)
      have nBV := Aside0.mk (blk_below (g := wb.heap.size + 1 + 1) (o := (.cells #[.int .i64 a0_0, .int .i64 a0_1, .bool a0_2, .int .i64 0, .int .i64 0, .int .i64 (a0_5 + 1), .int .i64 a0_6, .bool a0_7, .slice A0_8 l0_8.length c0_8] 25 (0, 0))) (by (with_reducible repeat (first | refine blk_drewN ?_ _ | refine blk_drew ?_)); exact BV.out) hb)
      have nHB := Aside0.mk (below_step (by (repeat (with_reducible first | exact HB.out | apply pw_below_drewN | apply below_drew1))) hb)
      clear BP BQ BU BV HB hb
      have BP := nBP
      have BQ := nBQ
      have BU := nBU
      have BV := nBV
      have HB := nHB
      clear nBP nBQ nBU nBV nHB
      refine hK.out _ _ ⟨(blk_cell BP.out 3).trans rfl, (blk_cell BP.out 5).trans rfl, (blk_cell BQ.out 0).trans rfl, (blk_cell BQ.out 1).trans rfl, (blk_cell BQ.out 2).trans rfl, (blk_cell BQ.out 3).trans rfl, (blk_cell BQ.out 4).trans rfl, (blk_cell BQ.out 5).trans rfl, (blk_cell BQ.out 6).trans rfl, (blk_cell BQ.out 7).trans rfl, (blk_cell BQ.out 8).trans rfl, (blk_cell BU.out 0).trans rfl, (blk_cell BU.out 1).trans rfl, (blk_cell BU.out 2).trans rfl, (blk_cell BU.out 3).trans rfl, (blk_cell BU.out 4).trans rfl, (blk_cell BU.out 5).trans rfl, (blk_cell BU.out 6).trans rfl, (blk_cell BU.out 7).trans rfl, (blk_cell BU.out 8).trans rfl, (blk_cell BV.out 0).trans rfl, (blk_cell BV.out 1).trans rfl, (blk_cell BV.out 2).trans rfl, (blk_cell BV.out 3).trans rfl, (blk_cell BV.out 4).trans rfl, (blk_cell BV.out 5).trans rfl, (blk_cell BV.out 6).trans rfl, (blk_cell BV.out 7).trans rfl, (blk_cell BV.out 8).trans rfl⟩ (fun hHeld => ?_)
      clear hK K
      refine norm_ (a' := ?_) ?_ ?_
      rotate_left
      · show Act.put _ (some 114) _ = _
        simp only [Act.put, List.setIfInBounds_toArray, List.set_cons_zero, List.set_cons_succ, i64_w, i32_w]
        rfl
      refine pure_ (i := 14) (N := some 118) (v := ?_) (a' := ?_) #[true, true, true, true, true, true, true, true, true, true, true, true, true, true, true, false, false, false, false, false, false, false] rfl rfl (by kernel_rfl) (fun _ _ _ h => h) (Or.inl ⟨by rfl, ?_⟩) ?_ ?_
      rotate_left
      · intro w'
        go_simp
        with_reducible rfl
      rotate_left
      · simp only [Act.put, List.setIfInBounds_toArray, List.set_cons_zero, List.set_cons_succ, i64_w, i32_w]
        rfl
      refine pure_ (i := 15) (N := some 119) (v := ?_) (a' := ?_) #[true, true, true, true, true, true, true, true, true, true, true, true, true, true, true, true, false, false, false, false, false, false] rfl rfl (by kernel_rfl) (fun _ _ _ h => h) (Or.inl ⟨by rfl, ?_⟩) ?_ ?_
      rotate_left
      · intro w'
        go_simp
        with_reducible rfl
      rotate_left
      · simp only [Act.put, List.setIfInBounds_toArray, List.set_cons_zero, List.set_cons_succ, i64_w, i32_w]
        rfl
      refine take_ (i := 16) (N := some 120) (v := ?_) (a' := ?_) #[true, true, true, true, true, true, true, true, true, true, true, true, true, true, true, true, true, false, false, false, false, false] rfl rfl (by kernel_rfl) (fun _ _ _ h => h) (Or.inl ⟨by rfl, ?_⟩) hHeld ?_ ?_
      rotate_left
      · rintro w' ⟨s0, s1, s2, s3, s4, s5, s6, s7, s8, s9, s10, s11, s12, s13, s14, s15, s16, s17, s18, s19, s20, s21, s22, s23, s24, s25, s26, s27, s28⟩
        go_simp
        with_reducible rfl
      rotate_left
      · simp only [Act.put, List.setIfInBounds_toArray, List.set_cons_zero, List.set_cons_succ, i64_w, i32_w]
        rfl
      refine pure_ (i := 17) (N := some 121) (v := ?_) (a' := ?_) #[true, true, true, true, true, true, true, true, true, true, true, true, true, true, true, true, true, true, false, false, false, false] rfl rfl (by kernel_rfl) (fun _ _ _ h => h) (Or.inl ⟨by rfl, ?_⟩) ?_ ?_
      rotate_left
      · intro w'
        go_simp
        with_reducible rfl
      rotate_left
      · simp only [Act.put, List.setIfInBounds_toArray, List.set_cons_zero, List.set_cons_succ, i64_w, i32_w]
        rfl
      refine pure_ (i := 18) (N := some 122) (v := ?_) (a' := ?_) #[true, true, true, true, true, true, true, true, true, true, true, true, true, true, true, true, true, true, true, false, false, false] rfl rfl (by kernel_rfl) (fun _ _ _ h => h) (Or.inl ⟨by rfl, ?_⟩) ?_ ?_
      rotate_left
      · intro w'
        go_simp
        with_reducible rfl
      rotate_left
      · simp only [Act.put, List.setIfInBounds_toArray, List.set_cons_zero, List.set_cons_succ, i64_w, i32_w]
        rfl
      refine pure_ (i := 19) (N := some 123) (v := ?_) (a' := ?_) #[true, true, true, true, true, true, true, true, true, true, true, true, true, true, true, true, true, true, true, true, false, false] rfl rfl (by kernel_rfl) (fun _ _ _ h => h) (Or.inl ⟨by rfl, ?_⟩) ?_ ?_
      rotate_left
      · intro w'
        go_simp
        with_reducible rfl
      rotate_left
      · simp only [Act.put, List.setIfInBounds_toArray, List.set_cons_zero, List.set_cons_succ, i64_w, i32_w]
        rfl
      refine pure_ (i := 20) (N := some 124) (v := ?_) (a' := ?_) #[true, true, true, true, true, true, true, true, true, true, true, true, true, true, true, true, true, true, true, true, true, false] rfl rfl (by kernel_rfl) (fun _ _ _ h => h) (Or.inl ⟨by rfl, ?_⟩) ?_ ?_
      rotate_left
      · intro w'
        go_simp
        with_reducible rfl
      rotate_left
      · simp only [Act.put, List.setIfInBounds_toArray, List.set_cons_zero, List.set_cons_succ, i64_w, i32_w]
        rfl
      refine pure_ (i := 21) (N := some 2) (v := ?_) (a' := ?_) #[true, true, true, true, true, true, true, true, true, true, true, true, true, true, true, true, true, true, true, true, true, true] rfl rfl (by kernel_rfl) (fun _ _ _ h => h) (Or.inl ⟨by rfl, ?_⟩) ?_ ?_
      rotate_left
      · intro w'
        go_simp
        with_reducible rfl
      rotate_left
      · simp only [Act.put, List.setIfInBounds_toArray, List.set_cons_zero, List.set_cons_succ, i64_w, i32_w]
        rfl
      refine done_ (by kernel_rfl) ?_
      go_wp2_with fail
      go_ret
      exact ⟨rfl, HB.out⟩
    · have HBO := Aside0.mk ((KindP.pk_q HM.out).trans (decide_eq_true (.inl (by decide)) : _ = true))
      clear h3
      have HLT := Aside0.mk (show Lib.mayB a0_0 a0_1 a0_2 1 a0_4 1 a0_6 l0_8.length = false from (KindP.pk_w HM.out).trans (by decide))
      have k0 : wb.cell? ⟨w.heap.size, 0, none⟩ = some (.int .i64 a0_0) := (blk_cell HPb.out 0).trans rfl
      have k1 : wb.cell? ⟨w.heap.size, 1, none⟩ = some (.int .i64 a0_1) := (blk_cell HPb.out 1).trans rfl
      have k2 : wb.cell? ⟨w.heap.size, 2, none⟩ = some (.bool a0_2) := (blk_cell HPb.out 2).trans rfl
      have k3 : wb.cell? ⟨w.heap.size, 3, none⟩ = some (.int .i64 1) := (blk_cell HPb.out 3).trans rfl
      have k4 : wb.cell? ⟨w.heap.size, 4, none⟩ = some (.int .i64 a0_4) := (blk_cell HPb.out 4).trans rfl
      have k5 : wb.cell? ⟨w.heap.size, 5, none⟩ = some (.int .i64 0) := (blk_cell HPb.out 5).trans rfl
      have k6 : wb.cell? ⟨w.heap.size, 6, none⟩ = some (.int .i64 a0_6) := (blk_cell HPb.out 6).trans rfl
      have k7 : wb.cell? ⟨w.heap.size, 7, none⟩ = some (.bool a0_7) := (blk_cell HPb.out 7).trans rfl
      have k8 : wb.cell? ⟨w.heap.size, 8, none⟩ = some (.slice A0_8 l0_8.length c0_8) := (blk_cell HPb.out 8).trans rfl
      have hpw : w.heap.size < wb.heap.size := blk_lt HPb.out
      have hpw1 : w.heap.size < wb.heap.size + 1 := by omega
      have hpw2 : w.heap.size < wb.heap.size + 1 + 1 := by omega
      have hpw3 : w.heap.size ≠ wb.heap.size + 1 + 1 := by omega
      go_wp2_with fail
      generalize hW : (((wb.alloc _).alloc _).alloc _) = W
      have BP := Aside0.mk (show W.heap[w.heap.size]? = some (.cells #[.int .i64 a0_0, .int .i64 a0_1, .bool a0_2, .int .i64 1, .int .i64 a0_4, .int .i64 0, .int .i64 a0_6, .bool a0_7, .slice A0_8 l0_8.length c0_8] 25 (0, 0)) by rw [← hW]; exact blk_alloc (blk_alloc (blk_alloc HPb.out _) _) _)
      have BQ := Aside0.mk (show W.heap[wb.heap.size]? = some (.cells #[.int .i64 a0_0, .int .i64 a0_1, .bool (!a0_2), .int .i64 1, .int .i64 a0_4, .int .i64 0, .int .i64 a0_6, .bool a0_7, .slice A0_8 l0_8.length c0_8] 25 (0, 0)) by rw [← hW]; exact blk_alloc (blk_alloc (blk_new wb _) _) _)
      have BU := Aside0.mk (show W.heap[wb.heap.size + 1]? = some (.cells #[.int .i64 a0_0, .int .i64 a0_1, .bool a0_2, .int .i64 1, .int .i64 a0_4, .int .i64 0, .int .i64 a0_6, .bool (!a0_7), .slice A0_8 l0_8.length c0_8] 25 (0, 0)) by rw [← hW]; exact blk_alloc (KindP.blk_new2 wb _ _) _)
      have BV := Aside0.mk (show W.heap[wb.heap.size + 1 + 1]? = some (.cells #[.int .i64 a0_0, .int .i64 a0_1, .bool a0_2, .int .i64 1, .int .i64 a0_4, .int .i64 1, .int .i64 a0_6, .bool a0_7, .slice A0_8 l0_8.length c0_8] 25 (0, 0)) by rw [← hW]; exact KindP.blk_new3 wb _ _ _)
      have HB := Aside0.mk (show Below w.heap.size w W by rw [← hW]; exact below_alloc (below_alloc (below_alloc HBb.out _) _) _)
      clear hW k0 k1 k2 k3 k4 k5 k6 k7 k8
      refine start_ (n := 22) (S := fun w' => w'.cell? ⟨w.heap.size, 3, none⟩ = some (.int .i64 1) ∧ w'.cell? ⟨w.heap.size, 5, none⟩ = some (.int .i64 0) ∧ w'.cell? ⟨wb.heap.size, 0, none⟩ = some (.int .i64 a0_0) ∧ w'.cell? ⟨wb.heap.size, 1, none⟩ = some (.int .i64 a0_1) ∧ w'.cell? ⟨wb.heap.size, 2, none⟩ = some (.bool (!a0_2)) ∧ w'.cell? ⟨wb.heap.size, 3, none⟩ = some (.int .i64 1) ∧ w'.cell? ⟨wb.heap.size, 4, none⟩ = some (.int .i64 a0_4) ∧ w'.cell? ⟨wb.heap.size, 5, none⟩ = some (.int .i64 0) ∧ w'.cell? ⟨wb.heap.size, 6, none⟩ = some (.int .i64 a0_6) ∧ w'.cell? ⟨wb.heap.size, 7, none⟩ = some (.bool a0_7) ∧ w'.cell? ⟨wb.heap.size, 8, none⟩ = some (.slice A0_8 l0_8.length c0_8) ∧ w'.cell? ⟨wb.heap.size + 1, 0, none⟩ = some (.int .i64 a0_0) ∧ w'.cell? ⟨wb.heap.size + 1, 1, none⟩ = some (.int .i64 a0_1) ∧ w'.cell? ⟨wb.heap.size + 1, 2, none⟩ = some (.bool a0_2) ∧ w'.cell? ⟨wb.heap.size + 1, 3, none⟩ = some (.int .i64 1) ∧ w'.cell? ⟨wb.heap.size + 1, 4, none⟩ = some (.int .i64 a0_4) ∧ w'.cell? ⟨wb.heap.size + 1, 5, none⟩ = some (.int .i64 0) ∧ w'.cell? ⟨wb.heap.size + 1, 6, none⟩ = some (.int .i64 a0_6) ∧ w'.cell? ⟨wb.heap.size + 1, 7, none⟩ = some (.bool (!a0_7)) ∧ w'.cell? ⟨wb.heap.size + 1, 8, none⟩ = some (.slice A0_8 l0_8.length c0_8) ∧ w'.cell? ⟨wb.heap.size + 1 + 1, 0, none⟩ = some (.int .i64 a0_0) ∧ w'.cell? ⟨wb.heap.size + 1 + 1, 1, none⟩ = some (.int .i64 a0_1) ∧ w'.cell? ⟨wb.heap.size + 1 + 1, 2, none⟩ = some (.bool a0_2) ∧ w'.cell? ⟨wb.heap.size + 1 + 1, 3, none⟩ = some (.int .i64 1) ∧ w'.cell? ⟨wb.heap.size + 1 + 1, 4, none⟩ = some (.int .i64 a0_4) ∧ w'.cell? ⟨wb.heap.size + 1 + 1, 5, none⟩ = some (.int .i64 1) ∧ w'.cell? ⟨wb.heap.size + 1 + 1, 6, none⟩ = some (.int .i64 a0_6) ∧ w'.cell? ⟨wb.heap.size + 1 + 1, 7, none⟩ = some (.bool a0_7) ∧ w'.cell? ⟨wb.heap.size + 1 + 1, 8, none⟩ = some (.slice A0_8 l0_8.length c0_8)) (ds := []) #[false, false, false, false, false, false, false, false, false, false, false, false, false, false, false, false, false, false, false, false, false, false] (by kernel_rfl) rfl rfl ⟨(blk_cell BP.out 3).trans rfl, (blk_cell BP.out 5).trans rfl, (blk_cell BQ.out 0).trans rfl, (blk_cell BQ.out 1).trans rfl, (blk_cell BQ.out 2).trans rfl, (blk_cell BQ.out 3).trans rfl, (blk_cell BQ.out 4).trans rfl, (blk_cell BQ.out 5).trans rfl, (blk_cell BQ.out 6).trans rfl, (blk_cell BQ.out 7).trans rfl, (blk_cell BQ.out 8).trans rfl, (blk_cell BU.out 0).trans rfl, (blk_cell BU.out 1).trans rfl, (blk_cell BU.out 2).trans rfl, (blk_cell BU.out 3).trans rfl, (blk_cell BU.out 4).trans rfl, (blk_cell BU.out 5).trans rfl, (blk_cell BU.out 6).trans rfl, (blk_cell BU.out 7).trans rfl, (blk_cell BU.out 8).trans rfl, (blk_cell BV.out 0).trans rfl, (blk_cell BV.out 1).trans rfl, (blk_cell BV.out 2).trans rfl, (blk_cell BV.out 3).trans rfl, (blk_cell BV.out 4).trans rfl, (blk_cell BV.out 5).trans rfl, (blk_cell BV.out 6).trans rfl, (blk_cell BV.out 7).trans rfl, (blk_cell BV.out 8).trans rfl⟩ (fun hHeld => ?_)
      refine pure_ (i := 2) (N := some 106) (v := ?_) (a' := ?_) #[false, false, true, false, false, false, false, false, false, false, false, false, false, false, false, false, false, false, false, false, false, false] rfl rfl (by kernel_rfl) (fun _ _ _ h => h) (Or.inl ⟨by rfl, ?_⟩) ?_ ?_
      rotate_left
      · intro w'
        go_simp
        with_reducible rfl
      rotate_left
      · simp only [Act.put, List.setIfInBounds_toArray, List.set_cons_zero, List.set_cons_succ, i64_w, i32_w]
        rfl
      refine take_ (i := 0) (N := some 104) (v := ?_) (a' := ?_) #[true, false, true, false, false, false, false, false, false, false, false, false, false, false, false, false, false, false, false, false, false, false] rfl rfl (by kernel_rfl) (fun _ _ _ h => h) (Or.inl ⟨by rfl, ?_⟩) hHeld ?_ ?_
      rotate_left
      · rintro w' ⟨s0, s1, s2, s3, s4, s5, s6, s7, s8, s9, s10, s11, s12, s13, s14, s15, s16, s17, s18, s19, s20, s21, s22, s23, s24, s25, s26, s27, s28⟩
        go_simp
        with_reducible rfl
      rotate_left
      · simp only [Act.put, List.setIfInBounds_toArray, List.set_cons_zero, List.set_cons_succ, i64_w, i32_w]
        rfl
      refine one_ (i := 1) (N := some 105) #[true, true, true, false, false, false, false, false, false, false, false, false, false, false, false, false, false, false, false, false, false, false] rfl rfl (by kernel_rfl) (by decide) (fun K hK => ?_)
      refine goes_ Try.func34 (by kernel_rfl) rfl #[.agg #[.int .i64 a0_0, .int .i64 a0_1, .bool (!a0_2), .int .i64 1, .int .i64 a0_4, .int .i64 0, .int .i64 a0_6, .bool a0_7, .slice A0_8 l0_8.length c0_8]] (by rfl) rfl rfl (by simp only [List.map_toArray, List.map_cons, List.map_nil]; rfl) ?_
      with_reducible refine (pdu_May.calls 4 (a0_0) (a0_1) ((!a0_2)) (1) (a0_4) (0) (a0_6) (a0_7) A0_8 c0_8 l0_8 true _ (Kd.C_below HR.out (by (repeat (with_reducible first | exact HB.out | apply pw_below_drewN | apply below_drew1)))) HC.out ((Lib.may_pdu 0 _ _ _ _ _ _ _ _ _).trans (congrArg some HBO.out))).mono ?_
      rintro e w3 ⟨rfl, hb⟩
      refine ⟨_, rfl, ?_⟩
      have nBP := Aside0.mk (blk_below (g := w.heap.size) (o := (.cells #[.int .i64 a0_0, .int .i64 a0_1, .bool a0_2, .int .i64 1, .int .i64 a0_4, .int .i64 0, .int .i64 a0_6, .bool a0_7, .slice A0_8 l0_8.length c0_8] 25 (0, 0))) (by (with_reducible repeat (first | refine blk_drewN ?_ _ | refine blk_drew ?_)); exact BP.out) hb)
      have nBQ := Aside0.mk (blk_below (g := wb.heap.size) (o := (.cells #[.int .i64 a0_0, .int .i64 a0_1, .bool (!a0_2), .int .i64 1, .int .i64 a0_4, .int .i64 0, .int .i64 a0_6, .bool a0_7, .slice A0_8 l0_8.length c0_8] 25 (0, 0))) (by (with_reducible repeat (first | refine blk_drewN ?_ _ | refine blk_drew ?_)); exact BQ.out) hb)
      have nBU := Aside0.mk (blk_below (g := wb.heap.size + 1) (o := (.cells #[.int .i64 a0_0, .int .i64 a0_1, .bool a0_2, .int .i64 1, .int .i64 a0_4, .int .i64 0, .int .i64 a0_6, .bool (!a0_7), .slice A0_8 l0_8.length c0_8] 25 (0, 0))) (by (with_reducible repeat (first | refine blk_drewN ?_ _ | refine blk_drew ?_)); exact BU.out) hb)
      have nBV := Aside0.mk (blk_below (g := wb.heap.size + 1 + 1) (o := (.cells #[.int .i64 a0_0, .int .i64 a0_1, .bool a0_2, .int .i64 1, .int .i64 a0_4, .int .i64 1, .int .i64 a0_6, .bool a0_7, .slice A0_8 l0_8.length c0_8] 25 (0, 0))) (by (with_reducible repeat (first | refine blk_drewN ?_ _ | refine blk_drew ?_)); exact BV.out) hb)
      have nHB := Aside0.mk (below_step (by (repeat (with_reducible first | exact HB.out | apply pw_below_drewN | apply below_drew1))) hb)
      clear BP BQ BU BV HB hb
      have BP := nBP
      have BQ := nBQ
      have BU := nBU
      have BV := nBV
      have HB := nHB
      clear nBP nBQ nBU nBV nHB
      refine hK.out _ _ ⟨(blk_cell BP.out 3).trans rfl, (blk_cell BP.out 5).trans rfl, (blk_cell BQ.out 0).trans rfl, (blk_cell BQ.out 1).trans rfl, (blk_cell BQ.out 2).trans rfl, (blk_cell BQ.out 3).trans rfl, (blk_cell BQ.out 4).trans rfl, (blk_cell BQ.out 5).trans rfl, (blk_cell BQ.out 6).trans rfl, (blk_cell BQ.out 7).trans rfl, (blk_cell BQ.out 8).trans rfl, (blk_cell BU.out 0).trans rfl, (blk_cell BU.out 1).trans rfl, (blk_cell BU.out 2).trans rfl, (blk_cell BU.out 3).trans rfl, (blk_cell BU.out 4).trans rfl, (blk_cell BU.out 5).trans rfl, (blk_cell BU.out 6).trans rfl, (blk_cell BU.out 7).trans rfl, (blk_cell BU.out 8).trans rfl, (blk_cell BV.out 0).trans rfl, (blk_cell BV.out 1).trans rfl, (blk_cell BV.out 2).trans rfl, (blk_cell BV.out 3).trans rfl, (blk_cell BV.out 4).trans rfl, (blk_cell BV.out 5).trans rfl, (blk_cell BV.out 6).trans rfl, (blk_cell BV.out 7).trans rfl, (blk_cell BV.out 8).trans rfl⟩ (fun hHeld => ?_)
      clear hK K
      refine norm_ (a' := ?_) ?_ ?_
      rotate_left
      · show Act.put _ (some 105) _ = _
        simp only [Act.put, List.setIfInBounds_toArray, List.set_cons_zero, List.set_cons_succ, i64_w, i32_w]
        rfl
      refine pure_ (i := 3) (N := some 107) (v := ?_) (a' := ?_) #[true, true, true, true, false, false, false, false, false, false, false, false, false, false, false, false, false, false, false, false, false, false] rfl rfl (by kernel_rfl) (fun _ _ _ h => h) (Or.inl ⟨by rfl, ?_⟩) ?_ ?_
      rotate_left
      · intro w'
        go_simp
        with_reducible rfl
      rotate_left
      · simp only [Act.put, List.setIfInBounds_toArray, List.set_cons_zero, List.set_cons_succ, i64_w, i32_w]
        rfl
      refine pure_ (i := 4) (N := some 108) (v := ?_) (a' := ?_) #[true, true, true, true, true, false, false, false, false, false, false, false, false, false, false, false, false, false, false, false, false, false] rfl rfl (by kernel_rfl) (fun _ _ _ h => h) (Or.inl ⟨by rfl, ?_⟩) ?_ ?_
      rotate_left
      · intro w'
        go_simp
        with_reducible rfl
      rotate_left
      · simp only [Act.put, List.setIfInBounds_toArray, List.set_cons_zero, List.set_cons_succ, i64_w, i32_w]
        rfl
      refine take_ (i := 5) (N := some 109) (v := ?_) (a' := ?_) #[true, true, true, true, true, true, false, false, false, false, false, false, false, false, false, false, false, false, false, false, false, false] rfl rfl (by kernel_rfl) (fun _ _ _ h => h) (Or.inl ⟨by rfl, ?_⟩) hHeld ?_ ?_
      rotate_left
      · rintro w' ⟨s0, s1, s2, s3, s4, s5, s6, s7, s8, s9, s10, s11, s12, s13, s14, s15, s16, s17, s18, s19, s20, s21, s22, s23, s24, s25, s26, s27, s28⟩
        go_simp
        with_reducible rfl
      rotate_left
      · simp only [Act.put, List.setIfInBounds_toArray, List.set_cons_zero, List.set_cons_succ, i64_w, i32_w]
        rfl
      refine one_ (i := 6) (N := some 110) #[true, true, true, true, true, true, true, false, false, false, false, false, false, false, false, false, false, false, false, false, false, false] rfl rfl (by kernel_rfl) (by decide) (fun K hK => ?_)
      refine goes_ Try.func34 (by kernel_rfl) rfl #[.agg #[.int .i64 a0_0, .int .i64 a0_1, .bool a0_2, .int .i64 1, .int .i64 a0_4, .int .i64 0, .int .i64 a0_6, .bool (!a0_7), .slice A0_8 l0_8.length c0_8]] (by rfl) rfl rfl (by simp only [List.map_toArray, List.map_cons, List.map_nil]; rfl) ?_
      with_reducible refine (pdu_May.calls 4 (a0_0) (a0_1) (a0_2) (1) (a0_4) (0) (a0_6) ((!a0_7)) A0_8 c0_8 l0_8 true _ (Kd.C_below HR.out (by (repeat (with_reducible first | exact HB.out | apply pw_below_drewN | apply below_drew1)))) HC.out (KindP.pk_poll (!a0_7) l0_8 HM.out rfl)).mono ?_
      rintro e w3 ⟨rfl, hb⟩
      refine ⟨_, rfl, ?_⟩
      have nBP := Aside0.mk (blk_below (g := w.heap.size) (o := (.cells #[.int .i64 a0_0, .int .i64 a0_1, .bool a0_2, .int .i64 1, .int .i64 a0_4, .int .i64 0, .int .i64 a0_6, .bool a0_7, .slice A0_8 l0_8.length c0_8] 25 (0, 0))) (by (with_reducible repeat (first | refine blk_drewN ?_ _ | refine blk_drew ?_)); exact BP.out) hb)
      have nBQ := Aside0.mk (blk_below (g := wb.heap.size) (o := (.cells #[.int .i64 a0_0, .int .i64 a0_1, .bool (!a0_2), .int .i64 1, .int .i64 a0_4, .int .i64 0, .int .i64 a0_6, .bool a0_7, .slice A0_8 l0_8.length c0_8] 25 (0, 0))) (by (with_reducible repeat (first | refine blk_drewN ?_ _ | refine blk_drew ?_)); exact BQ.out) hb)
      have nBU := Aside0.mk (blk_below (g := wb.heap.size + 1) (o := (.cells #[.int .i64 a0_0, .int .i64 a0_1, .bool a0_2, .int .i64 1, .int .i64 a0_4, .int .i64 0, .int .i64 a0_6, .bool (!a0_7), .slice A0_8 l0_8.length c0_8] 25 (0, 0))) (by (with_reducible repeat (first | refine blk_drewN ?_ _ | refine blk_drew ?_)); exact BU.out) hb)
      have nBV := Aside0.mk (blk_below (g := wb.heap.size + 1 + 1) (o := (.cells #[.int .i64 a0_0, .int .i64 a0_1, .bool a0_2, .int .i64 1, .int .i64 a0_4, .int .i64 1, .int .i64 a0_6, .bool a0_7, .slice A0_8 l0_8.length c0_8] 25 (0, 0))) (by (with_reducible repeat (first | refine blk_drewN ?_ _ | refine blk_drew ?_)); exact BV.out) hb)
      have nHB := Aside0.mk (below_step (by (repeat (with_reducible first | exact HB.out | apply pw_below_drewN | apply below_drew1))) hb)
      clear BP BQ BU BV HB hb
      have BP := nBP
      have BQ := nBQ
      have BU := nBU
      have BV := nBV
      have HB := nHB
      clear nBP nBQ nBU nBV nHB
      refine hK.out _ _ ⟨(blk_cell BP.out 3).trans rfl, (blk_cell BP.out 5).trans rfl, (blk_cell BQ.out 0).trans rfl, (blk_cell BQ.out 1).trans rfl, (blk_cell BQ.out 2).trans rfl, (blk_cell BQ.out 3).trans rfl, (blk_cell BQ.out 4).trans rfl, (blk_cell BQ.out 5).trans rfl, (blk_cell BQ.out 6).trans rfl, (blk_cell BQ.out 7).trans rfl, (blk_cell BQ.out 8).trans rfl, (blk_cell BU.out 0).trans rfl, (blk_cell BU.out 1).trans rfl, (blk_cell BU.out 2).trans rfl, (blk_cell BU.out 3).trans rfl, (blk_cell BU.out 4).trans rfl, (blk_cell BU.out 5).trans rfl, (blk_cell BU.out 6).trans rfl, (blk_cell BU.out 7).trans rfl, (blk_cell BU.out 8).trans rfl, (blk_cell BV.out 0).trans rfl, (blk_cell BV.out 1).trans rfl, (blk_cell BV.out 2).trans rfl, (blk_cell BV.out 3).trans rfl, (blk_cell BV.out 4).trans rfl, (blk_cell BV.out 5).trans rfl, (blk_cell BV.out 6).trans rfl, (blk_cell BV.out 7).trans rfl, (blk_cell BV.out 8).trans rfl⟩ (fun hHeld => ?_)
      clear hK K
      refine norm_ (a' := ?_) ?_ ?_
      rotate_left
      · show Act.put _ (some 110) _ = _
        simp only [Act.put, List.setIfInBounds_toArray, List.set_cons_zero, List.set_cons_succ, i64_w, i32_w]
        rfl
      refine pure_ (i := 7) (N := some 111) (v := ?_) (a' := ?_) #[true, true, true, true, true, true, true, true, false, false, false, false, false, false, false, false, false, false, false, false, false, false] rfl rfl (by kernel_rfl) (fun _ _ _ h => h) (Or.inl ⟨by rfl, ?_⟩) ?_ ?_
      rotate_left
      · intro w'
        go_simp
        with_reducible rfl
      rotate_left
      · simp only [Act.put, List.setIfInBounds_toArray, List.set_cons_zero, List.set_cons_succ, i64_w, i32_w]
        rfl
      refine pure_ (i := 8) (N := some 112) (v := ?_) (a' := ?_) #[true, true, true, true, true, true, true, true, true, false, false, false, false, false, false, false, false, false, false, false, false, false] rfl rfl (by kernel_rfl) (fun _ _ _ h => h) (Or.inl ⟨by rfl, ?_⟩) ?_ ?_
      rotate_left
      · intro w'
        go_simp
        with_reducible rfl
      rotate_left
      · simp only [Act.put, List.setIfInBounds_toArray, List.set_cons_zero, List.set_cons_succ, i64_w, i32_w]
        rfl
      refine pure_ (i := 11) (N := some 115) (v := ?_) (a' := ?_) #[true, true, true, true, true, true, true, true, true, false, false, true, false, false, false, false, false, false, false, false, false, false] rfl rfl (by kernel_rfl) (fun _ _ _ h => h) (Or.inl ⟨by rfl, ?_⟩) ?_ ?_
      rotate_left
      · intro w'
        go_simp
        with_reducible rfl
      rotate_left
      · simp only [Act.put, List.setIfInBounds_toArray, List.set_cons_zero, List.set_cons_succ, i64_w, i32_w]
        rfl
      refine take_ (i := 9) (N := some 113) (v := ?_) (a' := ?_) #[true, true, true, true, true, true, true, true, true, true, false, true, false, false, false, false, false, false, false, false, false, false] rfl rfl (by kernel_rfl) (fun _ _ _ h => h) (Or.inl ⟨by rfl, ?_⟩) hHeld ?_ ?_
      rotate_left
      · rintro w' ⟨s0, s1, s2, s3, s4, s5, s6, s7, s8, s9, s10, s11, s12, s13, s14, s15, s16, s17, s18, s19, s20, s21, s22, s23, s24, s25, s26, s27, s28⟩
        go_simp
        with_reducible rfl
      rotate_left
      · simp only [Act.put, List.setIfInBounds_toArray, List.set_cons_zero, List.set_cons_succ, i64_w, i32_w]
        rfl
      refine take_ (i := 12) (N := some 116) (v := ?_) (a' := ?_) #[true, true, true, true, true, true, true, true, true, true, false, true, true, false, false, false, false, false, false, false, false, false] rfl rfl (by kernel_rfl) (fun _ _ _ h => h) (Or.inl ⟨by rfl, ?_⟩) hHeld ?_ ?_
      rotate_left
      · rintro w' ⟨s0, s1, s2, s3, s4, s5, s6, s7, s8, s9, s10, s11, s12, s13, s14, s15, s16, s17, s18, s19, s20, s21, s22, s23, s24, s25, s26, s27, s28⟩
        go_simp
        with_reducible rfl
      rotate_left
      · simp only [Act.put, List.setIfInBounds_toArray, List.set_cons_zero, List.set_cons_succ, i64_w, i32_w]
        rfl
      refine pure_ (i := 13) (N := some 117) (v := ?_) (a' := ?_) #[true, true, true, true, true, true, true, true, true, true, false, true, true, true, false, false, false, false, false, false, false, false] rfl rfl (by kernel_rfl) (fun _ _ _ h => h) (Or.inl ⟨by rfl, ?_⟩) ?_ ?_
      rotate_left
      · intro w'
        go_simp
        with_reducible rfl
      rotate_left
      · simp only [Act.put, List.setIfInBounds_toArray, List.set_cons_zero, List.set_cons_succ, i64_w, i32_w]
        rfl
      refine one_ (i := 10) (N := some 114) #[true, true, true, true, true, true, true, true, true, true, true, true, true, true, false, false, false, false, false, false, false, false] rfl rfl (by kernel_rfl) (by decide) (fun K hK => ?_)
      refine goes_ Try.func34 (by kernel_rfl) rfl #[.agg #[.int .i64 a0_0, .int .i64 a0_1, .bool a0_2, .int .i64 1, .int .i64 a0_4, .int .i64 1, .int .i64 a0_6, .bool a0_7, .slice A0_8 l0_8.length c0_8]] (by rfl) rfl rfl (by simp only [List.map_toArray, List.map_cons, List.map_nil]; rfl) ?_
      with_reducible refine (pdu_May.calls 4 (a0_0) (a0_1) (a0_2) (1) (a0_4) (1) (a0_6) (a0_7) A0_8 c0_8 l0_8 false _ (Kd.C_below HR.out (by (repeat (with_reducible first | exact HB.out | apply pw_below_drewN | apply below_drew1)))) HC.out ((Lib.may_pdu 0 _ _ _ _ _ _ _ _ _).trans (congrArg some HLT.out))).mono ?_
      rintro e w3 ⟨rfl, hb⟩
      refine ⟨_, rfl, ?_⟩
      have nBP := Aside0.mk (blk_below (g := w.heap.size) (o := (.cells #[.int .i64 a0_0, .int .i64 a0_1, .bool a0_2, .int .i64 1, .int .i64 a0_4, .int .i64 0, .int .i64 a0_6, .bool a0_7, .slice A0_8 l0_8.length c0_8] 25 (0, 0))) (by (with_reducible repeat (first | refine blk_drewN ?_ _ | refine blk_drew ?_)); exact BP.out) hb)
      have nBQ := Aside0.mk (blk_below (g := wb.heap.size) (o := (.cells #[.int .i64 a0_0, .int .i64 a0_1, .bool (!a0_2), .int .i64 1, .int .i64 a0_4, .int .i64 0, .int .i64 a0_6, .bool a0_7, .slice A0_8 l0_8.length c0_8] 25 (0, 0))) (by (with_reducible repeat (first | refine blk_drewN ?_ _ | refine blk_drew ?_)); exact BQ.out) hb)
      have nBU := Aside0.mk (blk_below (g := wb.heap.size + 1) (o := (.cells #[.int .i64 a0_0, .int .i64 a0_1, .bool a0_2, .int .i64 1, .int .i64 a0_4, .int .i64 0, .int .i64 a0_6, .bool (!a0_7), .slice A0_8 l0_8.length c0_8] 25 (0, 0))) (by (with_reducible repeat (first | refine blk_drewN ?_ _ | refine blk_drew ?_)); exact BU.out) hb)
      have nBV := Aside0.mk (blk_below (g := wb.heap.size + 1 + 1) (o := (.cells #[.int .i64 a0_0, .int .i64 a0_1, .bool a0_2, .int .i64 1, .int .i64 a0_4, .int .i64 1, .int .i64 a0_6, .bool a0_7, .slice A0_8 l0_8.length c0_8] 25 (0, 0))) (by (with_reducible repeat (first | refine blk_drewN ?_ _ | refine blk_drew ?_)); exact BV.out) hb)
      have nHB := Aside0.mk (below_step (by (repeat (with_reducible first | exact HB.out | apply pw_below_drewN | apply below_drew1))) hb)
      clear BP BQ BU BV HB hb
      have BP := nBP
      have BQ := nBQ
      have BU := nBU
      have BV := nBV
      have HB := nHB
      clear nBP nBQ nBU nBV nHB
      refine hK.out _ _ ⟨(blk_cell BP.out 3).trans rfl, (blk_cell BP.out 5).trans rfl, (blk_cell BQ.out 0).trans rfl, (blk_cell BQ.out 1).trans rfl, (blk_cell BQ.out 2).trans rfl, (blk_cell BQ.out 3).trans rfl, (blk_cell BQ.out 4).trans rfl, (blk_cell BQ.out 5).trans rfl, (blk_cell BQ.out 6).trans rfl, (blk_cell BQ.out 7).trans rfl, (blk_cell BQ.out 8).trans rfl, (blk_cell BU.out 0).trans rfl, (blk_cell BU.out 1).trans rfl, (blk_cell BU.out 2).trans rfl, (blk_cell BU.out 3).trans rfl, (blk_cell BU.out 4).trans rfl, (blk_cell BU.out 5).trans rfl, (blk_cell BU.out 6).trans rfl, (blk_cell BU.out 7).trans rfl, (blk_cell BU.out 8).trans rfl, (blk_cell BV.out 0).trans rfl, (blk_cell BV.out 1).trans rfl, (blk_cell BV.out 2).trans rfl, (blk_cell BV.out 3).trans rfl, (blk_cell BV.out 4).trans rfl, (blk_cell BV.out 5).trans rfl, (blk_cell BV.out 6).trans rfl, (blk_cell BV.out 7).trans rfl, (blk_cell BV.out 8).trans rfl⟩ (fun hHeld => ?_)
      clear hK K
      refine norm_ (a' := ?_) ?_ ?_
      rotate_left
      · show Act.put _ (some 114) _ = _
        simp only [Act.put, List.setIfInBounds_toArray, List.set_cons_zero, List.set_cons_succ, i64_w, i32_w]
        rfl
      refine pure_ (i := 14) (N := some 118) (v := ?_) (a' := ?_) #[true, true, true, true, true, true, true, true, true, true, true, true, true, true, true, false, false, false, false, false, false, false] rfl rfl (by kernel_rfl) (fun _ _ _ h => h) (Or.inl ⟨by rfl, ?_⟩) ?_ ?_
      rotate_left
      · intro w'
        go_simp
        with_reducible rfl
      rotate_left
      · simp only [Act.put, List.setIfInBounds_toArray, List.set_cons_zero, List.set_cons_succ, i64_w, i32_w]
        rfl
      refine pure_ (i := 15) (N := some 119) (v := undef) (a' := ?_) #[true, true, true, true, true, true, true, true, true, true, true, true, true, true, true, true, false, false, false, false, false, false] rfl rfl (by kernel_rfl) (fun _ _ _ h => h) (Or.inr ⟨by rfl, rfl⟩) ?_ ?_
      rotate_left
      · simp only [Act.put, List.setIfInBounds_toArray, List.set_cons_zero, List.set_cons_succ, i64_w, i32_w]
        rfl
      refine pure_ (i := 16) (N := some 120) (v := undef) (a' := ?_) #[true, true, true, true, true, true, true, true, true, true, true, true, true, true, true, true, true, false, false, false, false, false] rfl rfl (by kernel_rfl) (fun _ _ _ h => h) (Or.inr ⟨by rfl, rfl⟩) ?_ ?_
      rotate_left
      · simp only [Act.put, List.setIfInBounds_toArray, List.set_cons_zero, List.set_cons_succ, i64_w, i32_w]
        rfl
      refine pure_ (i := 17) (N := some 121) (v := undef) (a' := ?_) #[true, true, true, true, true, true, true, true, true, true, true, true, true, true, true, true, true, true, false, false, false, false] rfl rfl (by kernel_rfl) (fun _ _ _ h => h) (Or.inr ⟨by rfl, rfl⟩) ?_ ?_
      rotate_left
      · simp only [Act.put, List.setIfInBounds_toArray, List.set_cons_zero, List.set_cons_succ, i64_w, i32_w]
        rfl
      refine pure_ (i := 18) (N := some 122) (v := ?_) (a' := ?_) #[true, true, true, true, true, true, true, true, true, true, true, true, true, true, true, true, true, true, true, false, false, false] rfl rfl (by kernel_rfl) (fun _ _ _ h => h) (Or.inl ⟨by rfl, ?_⟩) ?_ ?_
      rotate_left
      · intro w'
        go_simp
        with_reducible rfl
      rotate_left
      · simp only [Act.put, List.setIfInBounds_toArray, List.set_cons_zero, List.set_cons_succ, i64_w, i32_w]
        rfl
      refine pure_ (i := 19) (N := some 123) (v := ?_) (a' := ?_) #[true, true, true, true, true, true, true, true, true, true, true, true, true, true, true, true, true, true, true, true, false, false] rfl rfl (by kernel_rfl) (fun _ _ _ h => h) (Or.inl ⟨by rfl, ?_⟩) ?_ ?_
      rotate_left
      · intro w'
        go_simp
        with_reducible rfl
      rotate_left
      · simp only [Act.put, List.setIfInBounds_toArray, List.set_cons_zero, List.set_cons_succ, i64_w, i32_w]
        rfl
      refine pure_ (i := 20) (N := some 124) (v := ?_) (a' := ?_) #[true, true, true, true, true, true, true, true, true, true, true, true, true, true, true, true, true, true, true, true, true, false] rfl rfl (by kernel_rfl) (fun _ _ _ h => h) (Or.inl ⟨by rfl, ?_⟩) ?_ ?_
      rotate_left
      · intro w'
        go_simp
        with_reducible rfl
      rotate_left
      · simp only [Act.put, List.setIfInBounds_toArray, List.set_cons_zero, List.set_cons_succ, i64_w, i32_w]
        rfl
      refine pure_ (i := 21) (N := some 2) (v := ?_) (a' := ?_) #[true, true, true, true, true, true, true, true, true, true, true, true, true, true, true, true, true, true, true, true, true, true] rfl rfl (by kernel_rfl) (fun _ _ _ h => h) (Or.inl ⟨by rfl, ?_⟩) ?_ ?_
      rotate_left
      · intro w'
        go_simp
        with_reducible rfl
      rotate_left
      · simp only [Act.put, List.setIfInBounds_toArray, List.set_cons_zero, List.set_cons_succ, i64_w, i32_w]
        rfl
      refine done_ (by kernel_rfl) ?_
      go_wp2_with fail
      go_ret
      exact ⟨rfl, HB.out⟩
    · clear h3
      have hab := HAB.out
      rcases (show (3 ≤ a0_4 ∧ a0_4 ≤ 7) ∨ a0_4 = 8 ∨ a0_4 = 9 by omega) with hk
      clear hab
      · have ht := KindP.pk_odd HM.out (by omega)
        rcases hk with hk | rfl | rfl
        · have hk1 : (a0_4 == 1) = false := beq_eq_false_iff_ne.mpr (by omega)
          have hk2 : (a0_4 == 2) = false := beq_eq_false_iff_ne.mpr (by omega)
          have hk8 : (a0_4 == 8) = false := beq_eq_false_iff_ne.mpr (by omega)
          have hk9 : (a0_4 == 9) = false := beq_eq_false_iff_ne.mpr (by omega)
          have HBO := Aside0.mk ((KindP.pk_q HM.out).trans (decide_eq_false (by omega) : _ = false))
          have HLT := Aside0.mk (show Lib.mayB a0_0 a0_1 a0_2 2 a0_4 1 0 l0_8.length = false from (KindP.pk_w HM.out).trans (by decide))
          have k0 : wb.cell? ⟨w.heap.size, 0, none⟩ = some (.int .i64 a0_0) := (blk_cell HPb.out 0).trans rfl
          have k1 : wb.cell? ⟨w.heap.size, 1, none⟩ = some (.int .i64 a0_1) := (blk_cell HPb.out 1).trans rfl
          have k2 : wb.cell? ⟨w.heap.size, 2, none⟩ = some (.bool a0_2) := (blk_cell HPb.out 2).trans rfl
          have k3 : wb.cell? ⟨w.heap.size, 3, none⟩ = some (.int .i64 2) := (blk_cell HPb.out 3).trans rfl
          have k4 : wb.cell? ⟨w.heap.size, 4, none⟩ = some (.int .i64 a0_4) := (blk_cell HPb.out 4).trans rfl
          have k5 : wb.cell? ⟨w.heap.size, 5, none⟩ = some (.int .i64 0) := (blk_cell HPb.out 5).trans rfl
          have k6 : wb.cell? ⟨w.heap.size, 6, none⟩ = some (.int .i64 0) := (blk_cell HPb.out 6).trans rfl
          have k7 : wb.cell? ⟨w.heap.size, 7, none⟩ = some (.bool a0_7) := (blk_cell HPb.out 7).trans rfl
          have k8 : wb.cell? ⟨w.heap.size, 8, none⟩ = some (.slice A0_8 l0_8.length c0_8) := (blk_cell HPb.out 8).trans rfl
          have hpw : w.heap.size < wb.heap.size := blk_lt HPb.out
          have hpw1 : w.heap.size < wb.heap.size + 1 := by omega
          have hpw2 : w.heap.size < wb.heap.size + 1 + 1 := by omega
          have hpw3 : w.heap.size ≠ wb.heap.size + 1 + 1 := by omega
          go_wp2_with fail
          generalize hW : (((wb.alloc _).alloc _).alloc _) = W
          have BP := Aside0.mk (show W.heap[w.heap.size]? = some (.cells #[.int .i64 a0_0, .int .i64 a0_1, .bool a0_2, .int .i64 2, .int .i64 a0_4, .int .i64 0, .int .i64 0, .bool a0_7, .slice A0_8 l0_8.length c0_8] 25 (0, 0)) by rw [← hW]; exact blk_alloc (blk_alloc (blk_alloc HPb.out _) _) _)
          have BQ := Aside0.mk (show W.heap[wb.heap.size]? = some (.cells #[.int .i64 a0_0, .int .i64 a0_1, .bool (!a0_2), .int .i64 2, .int .i64 a0_4, .int .i64 0, .int .i64 0, .bool a0_7, .slice A0_8 l0_8.length c0_8] 25 (0, 0)) by rw [← hW]; exact blk_alloc (blk_alloc (blk_new wb _) _) _)
          have BU := Aside0.mk (show W.heap[wb.heap.size + 1]? = some (.cells #[.int .i64 a0_0, .int .i64 a0_1, .bool a0_2, .int .i64 2, .int .i64 a0_4, .int .i64 0, .int .i64 0, .bool (!a0_7), .slice A0_8 l0_8.length c0_8] 25 (0, 0)) by rw [← hW]; exact blk_alloc (KindP.blk_new2 wb _ _) _)
          have BV := Aside0.mk (show W.heap[wb.heap.size + 1 + 1]? = some (.cells #[.int .i64 a0_0, .int .i64 a0_1, .bool a0_2, .int .i64 2, .int .i64 a0_4, .int .i64 1, .int .i64 0, .bool a0_7, .slice A0_8 l0_8.length c0_8] 25 (0, 0)) by rw [← hW]; exact KindP.blk_new3 wb _ _ _)
          have HB := Aside0.mk (show Below w.heap.size w W by rw [← hW]; exact below_alloc (below_alloc (below_alloc HBb.out _) _) _)
          clear hW k0 k1 k2 k3 k4 k5 k6 k7 k8
          refine start_ (n := 22) (S := fun w' => w'.cell? ⟨w.heap.size, 3, none⟩ = some (.int .i64 2) ∧ w'.cell? ⟨w.heap.size, 5, none⟩ = some (.int .i64 0) ∧ w'.cell? ⟨wb.heap.size, 0, none⟩ = some (.int .i64 a0_0) ∧ w'.cell? ⟨wb.heap.size, 1, none⟩ = some (.int .i64 a0_1) ∧ w'.cell? ⟨wb.heap.size, 2, none⟩ = some (.bool (!a0_2)) ∧ w'.cell? ⟨wb.heap.size, 3, none⟩ = some (.int .i64 2) ∧ w'.cell? ⟨wb.heap.size, 4, none⟩ = some (.int .i64 a0_4) ∧ w'.cell? ⟨wb.heap.size, 5, none⟩ = some (.int .i64 0) ∧ w'.cell? ⟨wb.heap.size, 6, none⟩ = some (.int .i64 0) ∧ w'.cell? ⟨wb.heap.size, 7, none⟩ = some (.bool a0_7) ∧ w'.cell? ⟨wb.heap.size, 8, none⟩ = some (.slice A0_8 l0_8.length c0_8) ∧ w'.cell? ⟨wb.heap.size + 1, 0, none⟩ = some (.int .i64 a0_0) ∧ w'.cell? ⟨wb.heap.size + 1, 1, none⟩ = some (.int .i64 a0_1) ∧ w'.cell? ⟨wb.heap.size + 1, 2, none⟩ = some (.bool a0_2) ∧ w'.cell? ⟨wb.heap.size + 1, 3, none⟩ = some (.int .i64 2) ∧ w'.cell? ⟨wb.heap.size + 1, 4, none⟩ = some (.int .i64 a0_4) ∧ w'.cell? ⟨wb.heap.size + 1, 5, none⟩ = some (.int .i64 0) ∧ w'.cell? ⟨wb.heap.size + 1, 6, none⟩ = some (.int .i64 0) ∧ w'.cell? ⟨wb.heap.size + 1, 7, none⟩ = some (.bool (!a0_7)) ∧ w'.cell? ⟨wb.heap.size + 1, 8, none⟩ = some (.slice A0_8 l0_8.length c0_8) ∧ w'.cell? ⟨wb.heap.size + 1 + 1, 0, none⟩ = some (.int .i64 a0_0) ∧ w'.cell? ⟨wb.heap.size + 1 + 1, 1, none⟩ = some (.int .i64 a0_1) ∧ w'.cell? ⟨wb.heap.size + 1 + 1, 2, none⟩ = some (.bool a0_2) ∧ w'.cell? ⟨wb.heap.size + 1 + 1, 3, none⟩ = some (.int .i64 2) ∧ w'.cell? ⟨wb.heap.size + 1 + 1, 4, none⟩ = some (.int .i64 a0_4) ∧ w'.cell? ⟨wb.heap.size + 1 + 1, 5, none⟩ = some (.int .i64 1) ∧ w'.cell? ⟨wb.heap.size + 1 + 1, 6, none⟩ = some (.int .i64 0) ∧ w'.cell? ⟨wb.heap.size + 1 + 1, 7, none⟩ = some (.bool a0_7) ∧ w'.cell? ⟨wb.heap.size + 1 + 1, 8, none⟩ = some (.slice A0_8 l0_8.length c0_8)) (ds := []) #[false, false, false, false, false, false, false, false, false, false, false, false, false, false, false, false, false, false, false, false, false, false] (by kernel_rfl) rfl rfl ⟨(blk_cell BP.out 3).trans rfl, (blk_cell BP.out 5).trans rfl, (blk_cell BQ.out 0).trans rfl, (blk_cell BQ.out 1).trans rfl, (blk_cell BQ.out 2).trans rfl, (blk_cell BQ.out 3).trans rfl, (blk_cell BQ.out 4).trans rfl, (blk_cell BQ.out 5).trans rfl, (blk_cell BQ.out 6).trans rfl, (blk_cell BQ.out 7).trans rfl, (blk_cell BQ.out 8).trans rfl, (blk_cell BU.out 0).trans rfl, (blk_cell BU.out 1).trans rfl, (blk_cell BU.out 2).trans rfl, (blk_cell BU.out 3).trans rfl, (blk_cell BU.out 4).trans rfl, (blk_cell BU.out 5).trans rfl, (blk_cell BU.out 6).trans rfl, (blk_cell BU.out 7).trans rfl, (blk_cell BU.out 8).trans rfl, (blk_cell BV.out 0).trans rfl, (blk_cell BV.out 1).trans rfl, (blk_cell BV.out 2).trans rfl, (blk_cell BV.out 3).trans rfl, (blk_cell BV.out 4).trans rfl, (blk_cell BV.out 5).trans rfl, (blk_cell BV.out 6).trans rfl, (blk_cell BV.out 7).trans rfl, (blk_cell BV.out 8).trans rfl⟩ (fun hHeld => ?_)
          refine pure_ (i := 2) (N := some 106) (v := ?_) (a' := ?_) #[false, false, true, false, false, false, false, false, false, false, false, false, false, false, false, false, false, false, false, false, false, false] rfl rfl (by kernel_rfl) (fun _ _ _ h => h) (Or.inl ⟨by rfl, ?_⟩) ?_ ?_
          rotate_left
          · intro w'
            go_simp
            with_reducible rfl
          rotate_left
          · simp only [Act.put, List.setIfInBounds_toArray, List.set_cons_zero, List.set_cons_succ, i64_w, i32_w]
            rfl
          refine take_ (i := 0) (N := some 104) (v := ?_) (a' := ?_) #[true, false, true, false, false, false, false, false, false, false, false, false, false, false, false, false, false, false, false, false, false, false] rfl rfl (by kernel_rfl) (fun _ _ _ h => h) (Or.inl ⟨by rfl, ?_⟩) hHeld ?_ ?_
          rotate_left
          · rintro w' ⟨s0, s1, s2, s3, s4, s5, s6, s7, s8, s9, s10, s11, s12, s13, s14, s15, s16, s17, s18, s19, s20, s21, s22, s23, s24, s25, s26, s27, s28⟩
            go_simp
            with_reducible rfl
          rotate_left
          · simp only [Act.put, List.setIfInBounds_toArray, List.set_cons_zero, List.set_cons_succ, i64_w, i32_w]
            rfl
          refine one_ (i := 1) (N := some 105) #[true, true, true, false, false, false, false, false, false, false, false, false, false, false, false, false, false, false, false, false, false, false] rfl rfl (by kernel_rfl) (by decide) (fun K hK => ?_)
          refine goes_ Try.func34 (by kernel_rfl) rfl #[.agg #[.int .i64 a0_0, .int .i64 a0_1, .bool (!a0_2), .int .i64 2, .int .i64 a0_4, .int .i64 0, .int .i64 0, .bool a0_7, .slice A0_8 l0_8.length c0_8]] (by rfl) rfl rfl (by simp only [List.map_toArray, List.map_cons, List.map_nil]; rfl) ?_
          with_reducible refine (pdu_May.calls 4 (a0_0) (a0_1) ((!a0_2)) (2) (a0_4) (0) (0) (a0_7) A0_8 c0_8 l0_8 false _ (Kd.C_below HR.out (by (repeat (with_reducible first | exact HB.out | apply pw_below_drewN | apply below_drew1)))) HC.out ((Lib.may_pdu 0 _ _ _ _ _ _ _ _ _).trans (congrArg some HBO.out))).mono ?_
          rintro e w3 ⟨rfl, hb⟩
          refine ⟨_, rfl, ?_⟩
          have nBP := Aside0.mk (blk_below (g := w.heap.size) (o := (.cells #[.int .i64 a0_0, .int .i64 a0_1, .bool a0_2, .int .i64 2, .int .i64 a0_4, .int .i64 0, .int .i64 0, .bool a0_7, .slice A0_8 l0_8.length c0_8] 25 (0, 0))) (by (with_reducible repeat (first | refine blk_drewN ?_ _ | refine blk_drew ?_)); exact BP.out) hb)
          have nBQ := Aside0.mk (blk_below (g := wb.heap.size) (o := (.cells #[.int .i64 a0_0, .int .i64 a0_1, .bool (!a0_2), .int .i64 2, .int .i64 a0_4, .int .i64 0, .int .i64 0, .bool a0_7, .slice A0_8 l0_8.length c0_8] 25 (0, 0))) (by (with_reducible repeat (first | refine blk_drewN ?_ _ | refine blk_drew ?_)); exact BQ.out) hb)
          have nBU := Aside0.mk (blk_below (g := wb.heap.size + 1) (o := (.cells #[.int .i64 a0_0, .int .i64 a0_1, .bool a0_2, .int .i64 2, .int .i64 a0_4, .int .i64 0, .int .i64 0, .bool (!a0_7), .slice A0_8 l0_8.length c0_8] 25 (0, 0))) (by (with_reducible repeat (first | refine blk_drewN ?_ _ | refine blk_drew ?_)); exact BU.out) hb)
          have nBV := Aside0.mk (blk_below (g := wb.heap.size + 1 + 1) (o := (.cells #[.int .i64 a0_0, .int .i64 a0_1, .bool a0_2, .int .i64 2, .int .i64 a0_4, .int .i64 1, .int .i64 0, .bool a0_7, .slice A0_8 l0_8.length c0_8] 25 (0, 0))) (by (with_reducible repeat (first | refine blk_drewN ?_ _ | refine blk_drew ?_)); exact BV.out) hb)
          have nHB := Aside0.mk (below_step (by (repeat (with_reducible first | exact HB.out | apply pw_below_drewN | apply below_drew1))) hb)
          clear BP BQ BU BV HB hb
          have BP := nBP
          have BQ := nBQ
          have BU := nBU
          have BV := nBV
          have HB := nHB
          clear nBP nBQ nBU nBV nHB
          refine hK.out _ _ ⟨(blk_cell BP.out 3).trans rfl, (blk_cell BP.out 5).trans rfl, (blk_cell BQ.out 0).trans rfl, (blk_cell BQ.out 1).trans rfl, (blk_cell BQ.out 2).trans rfl, (blk_cell BQ.out 3).trans rfl, (blk_cell BQ.out 4).trans rfl, (blk_cell BQ.out 5).trans rfl, (blk_cell BQ.out 6).trans rfl, (blk_cell BQ.out 7).trans rfl, (blk_cell BQ.out 8).trans rfl, (blk_cell BU.out 0).trans rfl, (blk_cell BU.out 1).trans rfl, (blk_cell BU.out 2).trans rfl, (blk_cell BU.out 3).trans rfl, (blk_cell BU.out 4).trans rfl, (blk_cell BU.out 5).trans rfl, (blk_cell BU.out 6).trans rfl, (blk_cell BU.out 7).trans rfl, (blk_cell BU.out 8).trans rfl, (blk_cell BV.out 0).trans rfl, (blk_cell BV.out 1).trans rfl, (blk_cell BV.out 2).trans rfl, (blk_cell BV.out 3).trans rfl, (blk_cell BV.out 4).trans rfl, (blk_cell BV.out 5).trans rfl, (blk_cell BV.out 6).trans rfl, (blk_cell BV.out 7).trans rfl, (blk_cell BV.out 8).trans rfl⟩ (fun hHeld => ?_)
          clear hK K
          refine norm_ (a' := ?_) ?_ ?_
          rotate_left
          · show Act.put _ (some 105) _ = _
            simp only [Act.put, List.setIfInBounds_toArray, List.set_cons_zero, List.set_cons_succ, i64_w, i32_w]
            rfl
          refine pure_ (i := 3) (N := some 107) (v := ?_) (a' := ?_) #[true, true, true, true, false, false, false, false, false, false, false, false, false, false, false, false, false, false, false, false, false, false] rfl rfl (by kernel_rfl) (fun _ _ _ h => h) (Or.inl ⟨by rfl, ?_⟩) ?_ ?_
          rotate_left
          · intro w'
            go_simp
            with_reducible rfl
          rotate_left
          · simp only [Act.put, List.setIfInBounds_toArray, List.set_cons_zero, List.set_cons_succ, i64_w, i32_w]
            rfl
          refine pure_ (i := 4) (N := some 108) (v := ?_) (a' := ?_) #[true, true, true, true, true, false, false, false, false, false, false, false, false, false, false, false, false, false, false, false, false, false] rfl rfl (by kernel_rfl) (fun _ _ _ h => h) (Or.inl ⟨by rfl, ?_⟩) ?_ ?_
          rotate_left
          · intro w'
            go_simp
            with_reducible rfl
          rotate_left
          · simp only [Act.put, List.setIfInBounds_toArray, List.set_cons_zero, List.set_cons_succ, i64_w, i32_w]
            rfl
          refine take_ (i := 5) (N := some 109) (v := ?_) (a' := ?_) #[true, true, true, true, true, true, false, false, false, false, false, false, false, false, false, false, false, false, false, false, false, false] rfl rfl (by kernel_rfl) (fun _ _ _ h => h) (Or.inl ⟨by rfl, ?_⟩) hHeld ?_ ?_
          rotate_left
          · rintro w' ⟨s0, s1, s2, s3, s4, s5, s6, s7, s8, s9, s10, s11, s12, s13, s14, s15, s16, s17, s18, s19, s20, s21, s22, s23, s24, s25, s26, s27, s28⟩
            go_simp
            with_reducible rfl
          rotate_left
          · simp only [Act.put, List.setIfInBounds_toArray, List.set_cons_zero, List.set_cons_succ, i64_w, i32_w]
            rfl
          refine one_ (i := 6) (N := some 110) #[true, true, true, true, true, true, true, false, false, false, false, false, false, false, false, false, false, false, false, false, false, false] rfl rfl (by kernel_rfl) (by decide) (fun K hK => ?_)
          refine goes_ Try.func34 (by kernel_rfl) rfl #[.agg #[.int .i64 a0_0, .int .i64 a0_1, .bool a0_2, .int .i64 2, .int .i64 a0_4, .int .i64 0, .int .i64 0, .bool (!a0_7), .slice A0_8 l0_8.length c0_8]] (by rfl) rfl rfl (by simp only [List.map_toArray, List.map_cons, List.map_nil]; rfl) ?_
          with_reducible refine (pdu_May.calls 4 (a0_0) (a0_1) (a0_2) (2) (a0_4) (0) (0) ((!a0_7)) A0_8 c0_8 l0_8 true _ (Kd.C_below HR.out (by (repeat (with_reducible first | exact HB.out | apply pw_below_drewN | apply below_drew1)))) HC.out (KindP.pk_poll (!a0_7) l0_8 HM.out rfl)).mono ?_
          rintro e w3 ⟨rfl, hb⟩
          refine ⟨_, rfl, ?_⟩
          have nBP := Aside0.mk (blk_below (g := w.heap.size) (o := (.cells #[.int .i64 a0_0, .int .i64 a0_1, .bool a0_2, .int .i64 2, .int .i64 a0_4, .int .i64 0, .int .i64 0, .bool a0_7, .slice A0_8 l0_8.length c0_8] 25 (0, 0))) (by (with_reducible repeat (first | refine blk_drewN ?_ _ | refine blk_drew ?_)); exact BP.out) hb)
          have nBQ := Aside0.mk (blk_below (g := wb.heap.size) (o := (.cells #[.int .i64 a0_0, .int .i64 a0_1, .bool (!a0_2), .int .i64 2, .int .i64 a0_4, .int .i64 0, .int .i64 0, .bool a0_7, .slice A0_8 l0_8.length c0_8] 25 (0, 0))) (by (with_reducible repeat (first | refine blk_drewN ?_ _ | refine blk_drew ?_)); exact BQ.out) hb)
          have nBU := Aside0.mk (blk_below (g := wb.heap.size + 1) (o := (.cells #[.int .i64 a0_0, .int .i64 a0_1, .bool a0_2, .int .i64 2, .int .i64 a0_4, .int .i64 0, .int .i64 0, .bool (!a0_7), .slice A0_8 l0_8.length c0_8] 25 (0, 0))) (by (with_reducible repeat (first | refine blk_drewN ?_ _ | refine blk_drew ?_)); exact BU.out) hb)
          have nBV := Aside0.mk (blk_below (g := wb.heap.size + 1 + 1) (o := (.cells #[.int .i64 a0_0, .int .i64 a0_1, .bool a0_2, .int .i64 2, .int .i64 a0_4, .int .i64 1, .int .i64 0, .bool a0_7, .slice A0_8 l0_8.length c0_8] 25 (0, 0))) (by (with_reducible repeat (first | refine blk_drewN ?_ _ | refine blk_drew ?_)); exact BV.out) hb)
          have nHB := Aside0.mk (below_step (by (repeat (with_reducible first | exact HB.out | apply pw_below_drewN | apply below_drew1))) hb)
          clear BP BQ BU BV HB hb
          have BP := nBP
          have BQ := nBQ
          have BU := nBU
          have BV := nBV
          have HB := nHB
          clear nBP nBQ nBU nBV nHB
          refine hK.out _ _ ⟨(blk_cell BP.out 3).trans rfl, (blk_cell BP.out 5).trans rfl, (blk_cell BQ.out 0).trans rfl, (blk_cell BQ.out 1).trans rfl, (blk_cell BQ.out 2).trans rfl, (blk_cell BQ.out 3).trans rfl, (blk_cell BQ.out 4).trans rfl, (blk_cell BQ.out 5).trans rfl, (blk_cell BQ.out 6).trans rfl, (blk_cell BQ.out 7).trans rfl, (blk_cell BQ.out 8).trans rfl, (blk_cell BU.out 0).trans rfl, (blk_cell BU.out 1).trans rfl, (blk_cell BU.out 2).trans rfl, (blk_cell BU.out 3).trans rfl, (blk_cell BU.out 4).trans rfl, (blk_cell BU.out 5).trans rfl, (blk_cell BU.out 6).trans rfl, (blk_cell BU.out 7).trans rfl, (blk_cell BU.out 8).trans rfl, (blk_cell BV.out 0).trans rfl, (blk_cell BV.out 1).trans rfl, (blk_cell BV.out 2).trans rfl, (blk_cell BV.out 3).trans rfl, (blk_cell BV.out 4).trans rfl, (blk_cell BV.out 5).trans rfl, (blk_cell BV.out 6).trans rfl, (blk_cell BV.out 7).trans rfl, (blk_cell BV.out 8).trans rfl⟩ (fun hHeld => ?_)
          clear hK K
          refine norm_ (a' := ?_) ?_ ?_
          rotate_left
          · show Act.put _ (some 110) _ = _
            simp only [Act.put, List.setIfInBounds_toArray, List.set_cons_zero, List.set_cons_succ, i64_w, i32_w]
            rfl
          refine pure_ (i := 7) (N := some 111) (v := ?_) (a' := ?_) #[true, true, true, true, true, true, true, true, false, false, false, false, false, false, false, false, false, false, false, false, false, false] rfl rfl (by kernel_rfl) (fun _ _ _ h => h) (Or.inl ⟨by rfl, ?_⟩) ?_ ?_
          rotate_left
          · intro w'
            go_simp
            with_reducible rfl
          rotate_left
          · simp only [Act.put, List.setIfInBounds_toArray, List.set_cons_zero, List.set_cons_succ, i64_w, i32_w]
            rfl
          refine pure_ (i := 8) (N := some 112) (v := ?_) (a' := ?_) #[true, true, true, true, true, true, true, true, true, false, false, false, false, false, false, false, false, false, false, false, false, false] rfl rfl (by kernel_rfl) (fun _ _ _ h => h) (Or.inl ⟨by rfl, ?_⟩) ?_ ?_
          rotate_left
          · intro w'
            go_simp
            with_reducible rfl
          rotate_left
          · simp only [Act.put, List.setIfInBounds_toArray, List.set_cons_zero, List.set_cons_succ, i64_w, i32_w]
            rfl
          refine pure_ (i := 11) (N := some 115) (v := ?_) (a' := ?_) #[true, true, true, true, true, true, true, true, true, false, false, true, false, false, false, false, false, false, false, false, false, false] rfl rfl (by kernel_rfl) (fun _ _ _ h => h) (Or.inl ⟨by rfl, ?_⟩) ?_ ?_
          rotate_left
          · intro w'
            go_simp
            with_reducible rfl
          rotate_left
          · simp only [Act.put, List.setIfInBounds_toArray, List.set_cons_zero, List.set_cons_succ, i64_w, i32_w]
            rfl
          refine take_ (i := 9) (N := some 113) (v := ?_) (a' := ?_) #[true, true, true, true, true, true, true, true, true, true, false, true, false, false, false, false, false, false, false, false, false, false] rfl rfl (by kernel_rfl) (fun _ _ _ h => h) (Or.inl ⟨by rfl, ?_⟩) hHeld ?_ ?_
          rotate_left
          · rintro w' ⟨s0, s1, s2, s3, s4, s5, s6, s7, s8, s9, s10, s11, s12, s13, s14, s15, s16, s17, s18, s19, s20, s21, s22, s23, s24, s25, s26, s27, s28⟩
            go_simp
            with_reducible rfl
          rotate_left
          · simp only [Act.put, List.setIfInBounds_toArray, List.set_cons_zero, List.set_cons_succ, i64_w, i32_w]
            rfl
          refine take_ (i := 12) (N := some 116) (v := ?_) (a' := ?_) #[true, true, true, true, true, true, true, true, true, true, false, true, true, false, false, false, false, false, false, false, false, false] rfl rfl (by kernel_rfl) (fun _ _ _ h => h) (Or.inl ⟨by rfl, ?_⟩) hHeld ?_ ?_
          rotate_left
          · rintro w' ⟨s0, s1, s2, s3, s4, s5, s6, s7, s8, s9, s10, s11, s12, s13, s14, s15, s16, s17, s18, s19, s20, s21, s22, s23, s24, s25, s26, s27, s28⟩
            go_simp
            with_reducible rfl
          rotate_left
          · simp only [Act.put, List.setIfInBounds_toArray, List.set_cons_zero, List.set_cons_succ, i64_w, i32_w]
            rfl
          refine pure_ (i := 13) (N := some 117) (v := ?_) (a' := ?_) #[true, true, true, true, true, true, true, true, true, true, false, true, true, true, false, false, false, false, false, false, false, false] rfl rfl (by kernel_rfl) (fun _ _ _ h => h) (Or.inl ⟨by rfl, ?_⟩) ?_ ?_
          rotate_left
          · intro w'
            go_simp
            with_reducible rfl
          rotate_left
          · simp only [Act.put, List.setIfInBounds_toArray, List.set_cons_zero, List.set_cons_succ, i64_w, i32_w]
            rfl
          refine one_ (i := 10) (N := some 114) #[true, true, true, true, true, true, true, true, true, true, true, true, true, true, false, false, false, false, false, false, false, false] rfl rfl (by kernel_rfl) (by decide) (fun K hK => ?_)
          refine goes_ Try.func34 (by kernel_rfl) rfl #[.agg #[.int .i64 a0_0, .int .i64 a0_1, .bool a0_2, .int .i64 2, .int .i64 a0_4, .int .i64 1, .int .i64 0, .bool a0_7, .slice A0_8 l0_8.length c0_8]] (by rfl) rfl rfl (by simp only [List.map_toArray, List.map_cons, List.map_nil]; rfl) ?_
          with_reducible refine (pdu_May.calls 4 (a0_0) (a0_1) (a0_2) (2) (a0_4) (1) (0) (a0_7) A0_8 c0_8 l0_8 false _ (Kd.C_below HR.out (by (repeat (with_reducible first | exact HB.out | apply pw_below_drewN | apply below_drew1)))) HC.out ((Lib.may_pdu 0 _ _ _ _ _ _ _ _ _).trans (congrArg some HLT.out))).mono ?_
          rintro e w3 ⟨rfl, hb⟩
          refine ⟨_, rfl, ?_⟩
          have nBP := Aside0.mk (blk_below (g := w.heap.size) (o := (.cells #[.int .i64 a0_0, .int .i64 a0_1, .bool a0_2, .int .i64 2, .int .i64 a0_4, .int .i64 0, .int .i64 0, .bool a0_7, .slice A0_8 l0_8.length c0_8] 25 (0, 0))) (by (with_reducible repeat (first | refine blk_drewN ?_ _ | refine blk_drew ?_)); exact BP.out) hb)
          have nBQ := Aside0.mk (blk_below (g := wb.heap.size) (o := (.cells #[.int .i64 a0_0, .int .i64 a0_1, .bool (!a0_2), .int .i64 2, .int .i64 a0_4, .int .i64 0, .int .i64 0, .bool a0_7, .slice A0_8 l0_8.length c0_8] 25 (0, 0))) (by (with_reducible repeat (first | refine blk_drewN ?_ _ | refine blk_drew ?_)); exact BQ.out) hb)
          have nBU := Aside0.mk (blk_below (g := wb.heap.size + 1) (o := (.cells #[.int .i64 a0_0, .int .i64 a0_1, .bool a0_2, .int .i64 2, .int .i64 a0_4, .int .i64 0, .int .i64 0, .bool (!a0_7), .slice A0_8 l0_8.length c0_8] 25 (0, 0))) (by (with_reducible repeat (first | refine blk_drewN ?_ _ | refine blk_drew ?_)); exact BU.out) hb)
          have nBV := Aside0.mk (blk_below (g := wb.heap.size + 1 + 1) (o := (.cells #[.int .i64 a0_0, .int .i64 a0_1, .bool a0_2, .int .i64 2, .int .i64 a0_4, .int .i64 1, .int .i64 0, .bool a0_7, .slice A0_8 l0_8.length c0_8] 25 (0, 0))) (by (with_reducible repeat (first | refine blk_drewN ?_ _ | refine blk_drew ?_)); exact BV.out) hb)
          have nHB := Aside0.mk (below_step (by (repeat (with_reducible first | exact HB.out | apply pw_below_drewN | apply below_drew1))) hb)
          clear BP BQ BU BV HB hb
          have BP := nBP
          have BQ := nBQ
          have BU := nBU
          have BV := nBV
          have HB := nHB
          clear nBP nBQ nBU nBV nHB
          refine hK.out _ _ ⟨(blk_cell BP.out 3).trans rfl, (blk_cell BP.out 5).trans rfl, (blk_cell BQ.out 0).trans rfl, (blk_cell BQ.out 1).trans rfl, (blk_cell BQ.out 2).trans rfl, (blk_cell BQ.out 3).trans rfl, (blk_cell BQ.out 4).trans rfl, (blk_cell BQ.out 5).trans rfl, (blk_cell BQ.out 6).trans rfl, (blk_cell BQ.out 7).trans rfl, (blk_cell BQ.out 8).trans rfl, (blk_cell BU.out 0).trans rfl, (blk_cell BU.out 1).trans rfl, (blk_cell BU.out 2).trans rfl, (blk_cell BU.out 3).trans rfl, (blk_cell BU.out 4).trans rfl, (blk_cell BU.out 5).trans rfl, (blk_cell BU.out 6).trans rfl, (blk_cell BU.out 7).trans rfl, (blk_cell BU.out 8).trans rfl, (blk_cell BV.out 0).trans rfl, (blk_cell BV.out 1).trans rfl, (blk_cell BV.out 2).trans rfl, (blk_cell BV.out 3).trans rfl, (blk_cell BV.out 4).trans rfl, (blk_cell BV.out 5).trans rfl, (blk_cell BV.out 6).trans rfl, (blk_cell BV.out 7).trans rfl, (blk_cell BV.out 8).trans rfl⟩ (fun hHeld => ?_)
          clear hK K
          refine norm_ (a' := ?_) ?_ ?_
          rotate_left
          · show Act.put _ (some 114) _ = _
            simp only [Act.put, List.setIfInBounds_toArray, List.set_cons_zero, List.set_cons_succ, i64_w, i32_w]
            rfl
          refine pure_ (i := 14) (N := some 118) (v := ?_) (a' := ?_) #[true, true, true, true, true, true, true, true, true, true, true, true, true, true, true, false, false, false, false, false, false, false] rfl rfl (by kernel_rfl) (fun _ _ _ h => h) (Or.inl ⟨by rfl, ?_⟩) ?_ ?_
          rotate_left
          · intro w'
            go_simp
            with_reducible rfl
          rotate_left
          · simp only [Act.put, List.setIfInBounds_toArray, List.set_cons_zero, List.set_cons_succ, i64_w, i32_w]
            rfl
          refine pure_ (i := 15) (N := some 119) (v := undef) (a' := ?_) #[true, true, true, true, true, true, true, true, true, true, true, true, true, true, true, true, false, false, false, false, false, false] rfl rfl (by kernel_rfl) (fun _ _ _ h => h) (Or.inr ⟨by rfl, rfl⟩) ?_ ?_
          rotate_left
          · simp only [Act.put, List.setIfInBounds_toArray, List.set_cons_zero, List.set_cons_succ, i64_w, i32_w]
            rfl
          refine pure_ (i := 16) (N := some 120) (v := undef) (a' := ?_) #[true, true, true, true, true, true, true, true, true, true, true, true, true, true, true, true, true, false, false, false, false, false] rfl rfl (by kernel_rfl) (fun _ _ _ h => h) (Or.inr ⟨by rfl, rfl⟩) ?_ ?_
          rotate_left
          · simp only [Act.put, List.setIfInBounds_toArray, List.set_cons_zero, List.set_cons_succ, i64_w, i32_w]
            rfl
          refine pure_ (i := 17) (N := some 121) (v := undef) (a' := ?_) #[true, true, true, true, true, true, true, true, true, true, true, true, true, true, true, true, true, true, false, false, false, false] rfl rfl (by kernel_rfl) (fun _ _ _ h => h) (Or.inr ⟨by rfl, rfl⟩) ?_ ?_
          rotate_left
          · simp only [Act.put, List.setIfInBounds_toArray, List.set_cons_zero, List.set_cons_succ, i64_w, i32_w]
            rfl
          refine pure_ (i := 18) (N := some 122) (v := ?_) (a' := ?_) #[true, true, true, true, true, true, true, true, true, true, true, true, true, true, true, true, true, true, true, false, false, false] rfl rfl (by kernel_rfl) (fun _ _ _ h => h) (Or.inl ⟨by rfl, ?_⟩) ?_ ?_
          rotate_left
          · intro w'
            go_simp
            with_reducible rfl
          rotate_left
          · simp only [Act.put, List.setIfInBounds_toArray, List.set_cons_zero, List.set_cons_succ, i64_w, i32_w]
            rfl
          refine pure_ (i := 19) (N := some 123) (v := ?_) (a' := ?_) #[true, true, true, true, true, true, true, true, true, true, true, true, true, true, true, true, true, true, true, true, false, false] rfl rfl (by kernel_rfl) (fun _ _ _ h => h) (Or.inl ⟨by rfl, ?_⟩) ?_ ?_
          rotate_left
          · intro w'
            go_simp
            with_reducible rfl
          rotate_left
          · simp only [Act.put, List.setIfInBounds_toArray, List.set_cons_zero, List.set_cons_succ, i64_w, i32_w]
            rfl
          refine pure_ (i := 20) (N := some 124) (v := ?_) (a' := ?_) #[true, true, true, true, true, true, true, true, true, true, true, true, true, true, true, true, true, true, true, true, true, false] rfl rfl (by kernel_rfl) (fun _ _ _ h => h) (Or.inl ⟨by rfl, ?_⟩) ?_ ?_
          rotate_left
          · intro w'
            go_simp
            with_reducible rfl
          rotate_left
          · simp only [Act.put, List.setIfInBounds_toArray, List.set_cons_zero, List.set_cons_succ, i64_w, i32_w]
            rfl
          refine pure_ (i := 21) (N := some 2) (v := ?_) (a' := ?_) #[true, true, true, true, true, true, true, true, true, true, true, true, true, true, true, true, true, true, true, true, true, true] rfl rfl (by kernel_rfl) (fun _ _ _ h => h) (Or.inl ⟨by rfl, ?_⟩) ?_ ?_
          rotate_left
          · intro w'
            go_simp
            with_reducible rfl
          rotate_left
          · simp only [Act.put, List.setIfInBounds_toArray, List.set_cons_zero, List.set_cons_succ, i64_w, i32_w]
            rfl
          refine done_ (by kernel_rfl) ?_
          go_wp2_with fail
          go_ret
          exact ⟨rfl, HB.out⟩
        · have HBO := Aside0.mk ((KindP.pk_q HM.out).trans (by decide : _ = true))
          have HLT := Aside0.mk (show Lib.mayB a0_0 a0_1 a0_2 2 8 1 0 l0_8.length = false from (KindP.pk_w HM.out).trans (by decide))
          clear h1 h2
          have k0 : wb.cell? ⟨w.heap.size, 0, none⟩ = some (.int .i64 a0_0) := (blk_cell HPb.out 0).trans rfl
          have k1 : wb.cell? ⟨w.heap.size, 1, none⟩ = some (.int .i64 a0_1) := (blk_cell HPb.out 1).trans rfl
          have k2 : wb.cell? ⟨w.heap.size, 2, none⟩ = some (.bool a0_2) := (blk_cell HPb.out 2).trans rfl
          have k3 : wb.cell? ⟨w.heap.size, 3, none⟩ = some (.int .i64 2) := (blk_cell HPb.out 3).trans rfl
          have k4 : wb.cell? ⟨w.heap.size, 4, none⟩ = some (.int .i64 8) := (blk_cell HPb.out 4).trans rfl
          have k5 : wb.cell? ⟨w.heap.size, 5, none⟩ = some (.int .i64 0) := (blk_cell HPb.out 5).trans rfl
          have k6 : wb.cell? ⟨w.heap.size, 6, none⟩ = some (.int .i64 0) := (blk_cell HPb.out 6).trans rfl
          have k7 : wb.cell? ⟨w.heap.size, 7, none⟩ = some (.bool a0_7) := (blk_cell HPb.out 7).trans rfl
          have k8 : wb.cell? ⟨w.heap.size, 8, none⟩ = some (.slice A0_8 l0_8.length c0_8) := (blk_cell HPb.out 8).trans rfl
          have hpw : w.heap.size < wb.heap.size := blk_lt HPb.out
          have hpw1 : w.heap.size < wb.heap.size + 1 := by omega
          have hpw2 : w.heap.size < wb.heap.size + 1 + 1 := by omega
          have hpw3 : w.heap.size ≠ wb.heap.size + 1 + 1 := by omega
          go_wp2_with fail
          generalize hW : (((wb.alloc _).alloc _).alloc _) = W
          have BP := Aside0.mk (show W.heap[w.heap.size]? = some (.cells #[.int .i64 a0_0, .int .i64 a0_1, .bool a0_2, .int .i64 2, .int .i64 8, .int .i64 0, .int .i64 0, .bool a0_7, .slice A0_8 l0_8.length c0_8] 25 (0, 0)) by rw [← hW]; exact blk_alloc (blk_alloc (blk_alloc HPb.out _) _) _)
          have BQ := Aside0.mk (show W.heap[wb.heap.size]? = some (.cells #[.int .i64 a0_0, .int .i64 a0_1, .bool (!a0_2), .int .i64 2, .int .i64 8, .int .i64 0, .int .i64 0, .bool a0_7, .slice A0_8 l0_8.length c0_8] 25 (0, 0)) by rw [← hW]; exact blk_alloc (blk_alloc (blk_new wb _) _) _)
          have BU := Aside0.mk (show W.heap[wb.heap.size + 1]? = some (.cells #[.int .i64 a0_0, .int .i64 a0_1, .bool a0_2, .int .i64 2, .int .i64 8, .int .i64 0, .int .i64 0, .bool (!a0_7), .slice A0_8 l0_8.length c0_8] 25 (0, 0)) by rw [← hW]; exact blk_alloc (KindP.blk_new2 wb _ _) _)
          have BV := Aside0.mk (show W.heap[wb.heap.size + 1 + 1]? = some (.cells #[.int .i64 a0_0, .int .i64 a0_1, .bool a0_2, .int .i64 2, .int .i64 8, .int .i64 1, .int .i64 0, .bool a0_7, .slice A0_8 l0_8.length c0_8] 25 (0, 0)) by rw [← hW]; exact KindP.blk_new3 wb _ _ _)
          have HB := Aside0.mk (show Below w.heap.size w W by rw [← hW]; exact below_alloc (below_alloc (below_alloc HBb.out _) _) _)
          clear hW k0 k1 k2 k3 k4 k5 k6 k7 k8
          refine start_ (n := 22) (S := fun w' => w'.cell? ⟨w.heap.size, 3, none⟩ = some (.int .i64 2) ∧ w'.cell? ⟨w.heap.size, 5, none⟩ = some (.int .i64 0) ∧ w'.cell? ⟨wb.heap.size, 0, none⟩ = some (.int .i64 a0_0) ∧ w'.cell? ⟨wb.heap.size, 1, none⟩ = some (.int .i64 a0_1) ∧ w'.cell? ⟨wb.heap.size, 2, none⟩ = some (.bool (!a0_2)) ∧ w'.cell? ⟨wb.heap.size, 3, none⟩ = some (.int .i64 2) ∧ w'.cell? ⟨wb.heap.size, 4, none⟩ = some (.int .i64 8) ∧ w'.cell? ⟨wb.heap.size, 5, none⟩ = some (.int .i64 0) ∧ w'.cell? ⟨wb.heap.size, 6, none⟩ = some (.int .i64 0) ∧ w'.cell? ⟨wb.heap.size, 7, none⟩ = some (.bool a0_7) ∧ w'.cell? ⟨wb.heap.size, 8, none⟩ = some (.slice A0_8 l0_8.length c0_8) ∧ w'.cell? ⟨wb.heap.size + 1, 0, none⟩ = some (.int .i64 a0_0) ∧ w'.cell? ⟨wb.heap.size + 1, 1, none⟩ = some (.int .i64 a0_1) ∧ w'.cell? ⟨wb.heap.size + 1, 2, none⟩ = some (.bool a0_2) ∧ w'.cell? ⟨wb.heap.size + 1, 3, none⟩ = some (.int .i64 2) ∧ w'.cell? ⟨wb.heap.size + 1, 4, none⟩ = some (.int .i64 8) ∧ w'.cell? ⟨wb.heap.size + 1, 5, none⟩ = some (.int .i64 0) ∧ w'.cell? ⟨wb.heap.size + 1, 6, none⟩ = some (.int .i64 0) ∧ w'.cell? ⟨wb.heap.size + 1, 7, none⟩ = some (.bool (!a0_7)) ∧ w'.cell? ⟨wb.heap.size + 1, 8, none⟩ = some (.slice A0_8 l0_8.length c0_8) ∧ w'.cell? ⟨wb.heap.size + 1 + 1, 0, none⟩ = some (.int .i64 a0_0) ∧ w'.cell? ⟨wb.heap.size + 1 + 1, 1, none⟩ = some (.int .i64 a0_1) ∧ w'.cell? ⟨wb.heap.size + 1 + 1, 2, none⟩ = some (.bool a0_2) ∧ w'.cell? ⟨wb.heap.size + 1 + 1, 3, none⟩ = some (.int .i64 2) ∧ w'.cell? ⟨wb.heap.size + 1 + 1, 4, none⟩ = some (.int .i64 8) ∧ w'.cell? ⟨wb.heap.size + 1 + 1, 5, none⟩ = some (.int .i64 1) ∧ w'.cell? ⟨wb.heap.size + 1 + 1, 6, none⟩ = some (.int .i64 0) ∧ w'.cell? ⟨wb.heap.size + 1 + 1, 7, none⟩ = some (.bool a0_7) ∧ w'.cell? ⟨wb.heap.size + 1 + 1, 8, none⟩ = some (.slice A0_8 l0_8.length c0_8)) (ds := []) #[false, false, false, false, false, false, false, false, false, false, false, false, false, false, false, false, false, false, false, false, false, false] (by kernel_rfl) rfl rfl ⟨(blk_cell BP.out 3).trans rfl, (blk_cell BP.out 5).trans rfl, (blk_cell BQ.out 0).trans rfl, (blk_cell BQ.out 1).trans rfl, (blk_cell BQ.out 2).trans rfl, (blk_cell BQ.out 3).trans rfl, (blk_cell BQ.out 4).trans rfl, (blk_cell BQ.out 5).trans rfl, (blk_cell BQ.out 6).trans rfl, (blk_cell BQ.out 7).trans rfl, (blk_cell BQ.out 8).trans rfl, (blk_cell BU.out 0).trans rfl, (blk_cell BU.out 1).trans rfl, (blk_cell BU.out 2).trans rfl, (blk_cell BU.out 3).trans rfl, (blk_cell BU.out 4).trans rfl, (blk_cell BU.out 5).trans rfl, (blk_cell BU.out 6).trans rfl, (blk_cell BU.out 7).trans rfl, (blk_cell BU.out 8).trans rfl, (blk_cell BV.out 0).trans rfl, (blk_cell BV.out 1).trans rfl, (blk_cell BV.out 2).trans rfl, (blk_cell BV.out 3).trans rfl, (blk_cell BV.out 4).trans rfl, (blk_cell BV.out 5).trans rfl, (blk_cell BV.out 6).trans rfl, (blk_cell BV.out 7).trans rfl, (blk_cell BV.out 8).trans rfl⟩ (fun hHeld => ?_)
          refine pure_ (i := 2) (N := some 106) (v := ?_) (a' := ?_) #[false, false, true, false, false, false, false, false, false, false, false, false, false, false, false, false, false, false, false, false, false, false] rfl rfl (by kernel_rfl) (fun _ _ _ h => h) (Or.inl ⟨by rfl, ?_⟩) ?_ ?_
          rotate_left
          · intro w'
            go_simp
            with_reducible rfl
          rotate_left
          · simp only [Act.put, List.setIfInBounds_toArray, List.set_cons_zero, List.set_cons_succ, i64_w, i32_w]
            rfl
          refine take_ (i := 0) (N := some 104) (v := ?_) (a' := ?_) #[true, false, true, false, false, false, false, false, false, false, false, false, false, false, false, false, false, false, false, false, false, false] rfl rfl (by kernel_rfl) (fun _ _ _ h => h) (Or.inl ⟨by rfl, ?_⟩) hHeld ?_ ?_
          rotate_left
          · rintro w' ⟨s0, s1, s2, s3, s4, s5, s6, s7, s8, s9, s10, s11, s12, s13, s14, s15, s16, s17, s18, s19, s20, s21, s22, s23, s24, s25, s26, s27, s28⟩
            go_simp
            with_reducible rfl
          rotate_left
          · simp only [Act.put, List.setIfInBounds_toArray, List.set_cons_zero, List.set_cons_succ, i64_w, i32_w]
            rfl
          refine one_ (i := 1) (N := some 105) #[true, true, true, false, false, false, false, false, false, false, false, false, false, false, false, false, false, false, false, false, false, false] rfl rfl (by kernel_rfl) (by decide) (fun K hK => ?_)
          refine goes_ Try.func34 (by kernel_rfl) rfl #[.agg #[.int .i64 a0_0, .int .i64 a0_1, .bool (!a0_2), .int .i64 2, .int .i64 8, .int .i64 0, .int .i64 0, .bool a0_7, .slice A0_8 l0_8.length c0_8]] (by rfl) rfl rfl (by simp only [List.map_toArray, List.map_cons, List.map_nil]; rfl) ?_
          with_reducible refine (pdu_May.calls 4 (a0_0) (a0_1) ((!a0_2)) (2) (8) (0) (0) (a0_7) A0_8 c0_8 l0_8 true _ (Kd.C_below HR.out (by (repeat (with_reducible first | exact HB.out | apply pw_below_drewN | apply below_drew1)))) HC.out ((Lib.may_pdu 0 _ _ _ _ _ _ _ _ _).trans (congrArg some HBO.out))).mono ?_
          rintro e w3 ⟨rfl, hb⟩
          refine ⟨_, rfl, ?_⟩
          have nBP := Aside0.mk (blk_below (g := w.heap.size) (o := (.cells #[.int .i64 a0_0, .int .i64 a0_1, .bool a0_2, .int .i64 2, .int .i64 8, .int .i64 0, .int .i64 0, .bool a0_7, .slice A0_8 l0_8.length c0_8] 25 (0, 0))) (by (with_reducible repeat (first | refine blk_drewN ?_ _ | refine blk_drew ?_)); exact BP.out) hb)
          have nBQ := Aside0.mk (blk_below (g := wb.heap.size) (o := (.cells #[.int .i64 a0_0, .int .i64 a0_1, .bool (!a0_2), .int .i64 2, .int .i64 8, .int .i64 0, .int .i64 0, .bool a0_7, .slice A0_8 l0_8.length c0_8] 25 (0, 0))) (by (with_reducible repeat (first | refine blk_drewN ?_ _ | refine blk_drew ?_)); exact BQ.out) hb)
          have nBU := Aside0.mk (blk_below (g := wb.heap.size + 1) (o := (.cells #[.int .i64 a0_0, .int .i64 a0_1, .bool a0_2, .int .i64 2, .int .i64 8, .int .i64 0, .int .i64 0, .bool (!a0_7), .slice A0_8 l0_8.length c0_8] 25 (0, 0))) (by (with_reducible repeat (first | refine blk_drewN ?_ _ | refine blk_drew ?_)); exact BU.out) hb)
          have nBV := Aside0.mk (blk_below (g := wb.heap.size + 1 + 1) (o := (.cells #[.int .i64 a0_0, .int .i64 a0_1, .bool a0_2, .int .i64 2, .int .i64 8, .int .i64 1, .int .i64 0, .bool a0_7, .slice A0_8 l0_8.length c0_8] 25 (0, 0))) (by (with_reducible repeat (first | refine blk_drewN ?_ _ | refine blk_drew ?_)); exact BV.out) hb)
          have nHB := Aside0.mk (below_step (by (repeat (with_reducible first | exact HB.out | apply pw_below_drewN | apply below_drew1))) hb)
          clear BP BQ BU BV HB hb
          have BP := nBP
          have BQ := nBQ
          have BU := nBU
          have BV := nBV
          have HB := nHB
          clear nBP nBQ nBU nBV nHB
          refine hK.out _ _ ⟨(blk_cell BP.out 3).trans rfl, (blk_cell BP.out 5).trans rfl, (blk_cell BQ.out 0).trans rfl, (blk_cell BQ.out 1).trans rfl, (blk_cell BQ.out 2).trans rfl, (blk_cell BQ.out 3).trans rfl, (blk_cell BQ.out 4).trans rfl, (blk_cell BQ.out 5).trans rfl, (blk_cell BQ.out 6).trans rfl, (blk_cell BQ.out 7).trans rfl, (blk_cell BQ.out 8).trans rfl, (blk_cell BU.out 0).trans rfl, (blk_cell BU.out 1).trans rfl, (blk_cell BU.out 2).trans rfl, (blk_cell BU.out 3).trans rfl, (blk_cell BU.out 4).trans rfl, (blk_cell BU.out 5).trans rfl, (blk_cell BU.out 6).trans rfl, (blk_cell BU.out 7).trans rfl, (blk_cell BU.out 8).trans rfl, (blk_cell BV.out 0).trans rfl, (blk_cell BV.out 1).trans rfl, (blk_cell BV.out 2).trans rfl, (blk_cell BV.out 3).trans rfl, (blk_cell BV.out 4).trans rfl, (blk_cell BV.out 5).trans rfl, (blk_cell BV.out 6).trans rfl, (blk_cell BV.out 7).trans rfl, (blk_cell BV.out 8).trans rfl⟩ (fun hHeld => ?_)
          clear hK K
          refine norm_ (a' := ?_) ?_ ?_
          rotate_left
          · show Act.put _ (some 105) _ = _
            simp only [Act.put, List.setIfInBounds_toArray, List.set_cons_zero, List.set_cons_succ, i64_w, i32_w]
            rfl
          refine pure_ (i := 3) (N := some 107) (v := ?_) (a' := ?_) #[true, true, true, true, false, false, false, false, false, false, false, false, false, false, false, false, false, false, false, false, false, false] rfl rfl (by kernel_rfl) (fun _ _ _ h => h) (Or.inl ⟨by rfl, ?_⟩) ?_ ?_
          rotate_left
          · intro w'
            go_simp
            with_reducible rfl
          rotate_left
          · simp only [Act.put, List.setIfInBounds_toArray, List.set_cons_zero, List.set_cons_succ, i64_w, i32_w]
            rfl
          refine pure_ (i := 4) (N := some 108) (v := ?_) (a' := ?_) #[true, true, true, true, true, false, false, false, false, false, false, false, false, false, false, false, false, false, false, false, false, false] rfl rfl (by kernel_rfl) (fun _ _ _ h => h) (Or.inl ⟨by rfl, ?_⟩) ?_ ?_
          rotate_left
          · intro w'
            go_simp
            with_reducible rfl
          rotate_left
          · simp only [Act.put, List.setIfInBounds_toArray, List.set_cons_zero, List.set_cons_succ, i64_w, i32_w]
            rfl
          refine take_ (i := 5) (N := some 109) (v := ?_) (a' := ?_) #[true, true, true, true, true, true, false, false, false, false, false, false, false, false, false, false, false, false, false, false, false, false] rfl rfl (by kernel_rfl) (fun _ _ _ h => h) (Or.inl ⟨by rfl, ?_⟩) hHeld ?_ ?_
          rotate_left
          · rintro w' ⟨s0, s1, s2, s3, s4, s5, s6, s7, s8, s9, s10, s11, s12, s13, s14, s15, s16, s17, s18, s19, s20, s21, s22, s23, s24, s25, s26, s27, s28⟩
            go_simp
            with_reducible rfl
          rotate_left
          · simp only [Act.put, List.setIfInBounds_toArray, List.set_cons_zero, List.set_cons_succ, i64_w, i32_w]
            rfl
          refine one_ (i := 6) (N := some 110) #[true, true, true, true, true, true, true, false, false, false, false, false, false, false, false, false, false, false, false, false, false, false] rfl rfl (by kernel_rfl) (by decide) (fun K hK => ?_)
          refine goes_ Try.func34 (by kernel_rfl) rfl #[.agg #[.int .i64 a0_0, .int .i64 a0_1, .bool a0_2, .int .i64 2, .int .i64 8, .int .i64 0, .int .i64 0, .bool (!a0_7), .slice A0_8 l0_8.length c0_8]] (by rfl) rfl rfl (by simp only [List.map_toArray, List.map_cons, List.map_nil]; rfl) ?_
          with_reducible refine (pdu_May.calls 4 (a0_0) (a0_1) (a0_2) (2) (8) (0) (0) ((!a0_7)) A0_8 c0_8 l0_8 true _ (Kd.C_below HR.out (by (repeat (with_reducible first | exact HB.out | apply pw_below_drewN | apply below_drew1)))) HC.out (KindP.pk_poll (!a0_7) l0_8 HM.out rfl)).mono ?_
          rintro e w3 ⟨rfl, hb⟩
          refine ⟨_, rfl, ?_⟩
          have nBP := Aside0.mk (blk_below (g := w.heap.size) (o := (.cells #[.int .i64 a0_0, .int .i64 a0_1, .bool a0_2, .int .i64 2, .int .i64 8, .int .i64 0, .int .i64 0, .bool a0_7, .slice A0_8 l0_8.length c0_8] 25 (0, 0))) (by (with_reducible repeat (first | refine blk_drewN ?_ _ | refine blk_drew ?_)); exact BP.out) hb)
          have nBQ := Aside0.mk (blk_below (g := wb.heap.size) (o := (.cells #[.int .i64 a0_0, .int .i64 a0_1, .bool (!a0_2), .int .i64 2, .int .i64 8, .int .i64 0, .int .i64 0, .bool a0_7, .slice A0_8 l0_8.length c0_8] 25 (0, 0))) (by (with_reducible repeat (first | refine blk_drewN ?_ _ | refine blk_drew ?_)); exact BQ.out) hb)
          have nBU := Aside0.mk (blk_below (g := wb.heap.size + 1) (o := (.cells #[.int .i64 a0_0, .int .i64 a0_1, .bool a0_2, .int .i64 2, .int .i64 8, .int .i64 0, .int .i64 0, .bool (!a0_7), .slice A0_8 l0_8.length c0_8] 25 (0, 0))) (by (with_reducible repeat (first | refine blk_drewN ?_ _ | refine blk_drew ?_)); exact BU.out) hb)
          have nBV := Aside0.mk (blk_below (g := wb.heap.size + 1 + 1) (o := (.cells #[.int .i64 a0_0, .int .i64 a0_1, .bool a0_2, .int .i64 2, .int .i64 8, .int .i64 1, .int .i64 0, .bool a0_7, .slice A0_8 l0_8.length c0_8] 25 (0, 0))) (by (with_reducible repeat (first | refine blk_drewN ?_ _ | refine blk_drew ?_)); exact BV.out) hb)
          have nHB := Aside0.mk (below_step (by (repeat (with_reducible first | exact HB.out | apply pw_below_drewN | apply below_drew1))) hb)
          clear BP BQ BU BV HB hb
          have BP := nBP
          have BQ := nBQ
          have BU := nBU
          have BV := nBV
          have HB := nHB
          clear nBP nBQ nBU nBV nHB
          refine hK.out _ _ ⟨(blk_cell BP.out 3).trans rfl, (blk_cell BP.out 5).trans rfl, (blk_cell BQ.out 0).trans rfl, (blk_cell BQ.out 1).trans rfl, (blk_cell BQ.out 2).trans rfl, (blk_cell BQ.out 3).trans rfl, (blk_cell BQ.out 4).trans rfl, (blk_cell BQ.out 5).trans rfl, (blk_cell BQ.out 6).trans rfl, (blk_cell BQ.out 7).trans rfl, (blk_cell BQ.out 8).trans rfl, (blk_cell BU.out 0).trans rfl, (blk_cell BU.out 1).trans rfl, (blk_cell BU.out 2).trans rfl, (blk_cell BU.out 3).trans rfl, (blk_cell BU.out 4).trans rfl, (blk_cell BU.out 5).trans rfl, (blk_cell BU.out 6).trans rfl, (blk_cell BU.out 7).trans rfl, (blk_cell BU.out 8).trans rfl, (blk_cell BV.out 0).trans rfl, (blk_cell BV.out 1).trans rfl, (blk_cell BV.out 2).trans rfl, (blk_cell BV.out 3).trans rfl, (blk_cell BV.out 4).trans rfl, (blk_cell BV.out 5).trans rfl, (blk_cell BV.out 6).trans rfl, (blk_cell BV.out 7).trans rfl, (blk_cell BV.out 8).trans rfl⟩ (fun hHeld => ?_)
          clear hK K
          refine norm_ (a' := ?_) ?_ ?_
          rotate_left
          · show Act.put _ (some 110) _ = _
            simp only [Act.put, List.setIfInBounds_toArray, List.set_cons_zero, List.set_cons_succ, i64_w, i32_w]
            rfl
          refine pure_ (i := 7) (N := some 111) (v := ?_) (a' := ?_) #[true, true, true, true, true, true, true, true, false, false, false, false, false, false, false, false, false, false, false, false, false, false] rfl rfl (by kernel_rfl) (fun _ _ _ h => h) (Or.inl ⟨by rfl, ?_⟩) ?_ ?_
          rotate_left
          · intro w'
            go_simp
            with_reducible rfl
          rotate_left
          · simp only [Act.put, List.setIfInBounds_toArray, List.set_cons_zero, List.set_cons_succ, i64_w, i32_w]
            rfl
          refine pure_ (i := 8) (N := some 112) (v := ?_) (a' := ?_) #[true, true, true, true, true, true, true, true, true, false, false, false, false, false, false, false, false, false, false, false, false, false] rfl rfl (by kernel_rfl) (fun _ _ _ h => h) (Or.inl ⟨by rfl, ?_⟩) ?_ ?_
          rotate_left
          · intro w'
            go_simp
            with_reducible rfl
          rotate_left
          · simp only [Act.put, List.setIfInBounds_toArray, List.set_cons_zero, List.set_cons_succ, i64_w, i32_w]
            rfl
          refine pure_ (i := 11) (N := some 115) (v := ?_) (a' := ?_) #[true, true, true, true, true, true, true, true, true, false, false, true, false, false, false, false, false, false, false, false, false, false] rfl rfl (by kernel_rfl) (fun _ _ _ h => h) (Or.inl ⟨by rfl, ?_⟩) ?_ ?_
          rotate_left
          · intro w'
            go_simp
            with_reducible rfl
          rotate_left
          · simp only [Act.put, List.setIfInBounds_toArray, List.set_cons_zero, List.set_cons_succ, i64_w, i32_w]
            rfl
          refine take_ (i := 9) (N := some 113) (v := ?_) (a' := ?_) #[true, true, true, true, true, true, true, true, true, true, false, true, false, false, false, false, false, false, false, false, false, false] rfl rfl (by kernel_rfl) (fun _ _ _ h => h) (Or.inl ⟨by rfl, ?_⟩) hHeld ?_ ?_
          rotate_left
          · rintro w' ⟨s0, s1, s2, s3, s4, s5, s6, s7, s8, s9, s10, s11, s12, s13, s14, s15, s16, s17, s18, s19, s20, s21, s22, s23, s24, s25, s26, s27, s28⟩
            go_simp
            with_reducible rfl
          rotate_left
          · simp only [Act.put, List.setIfInBounds_toArray, List.set_cons_zero, List.set_cons_succ, i64_w, i32_w]
            rfl
          refine take_ (i := 12) (N := some 116) (v := ?_) (a' := ?_) #[true, true, true, true, true, true, true, true, true, true, false, true, true, false, false, false, false, false, false, false, false, false] rfl rfl (by kernel_rfl) (fun _ _ _ h => h) (Or.inl ⟨by rfl, ?_⟩) hHeld ?_ ?_
          rotate_left
          · rintro w' ⟨s0, s1, s2, s3, s4, s5, s6, s7, s8, s9, s10, s11, s12, s13, s14, s15, s16, s17, s18, s19, s20, s21, s22, s23, s24, s25, s26, s27, s28⟩
            go_simp
            with_reducible rfl
          rotate_left
          · simp only [Act.put, List.setIfInBounds_toArray, List.set_cons_zero, List.set_cons_succ, i64_w, i32_w]
            rfl
          refine pure_ (i := 13) (N := some 117) (v := ?_) (a' := ?_) #[true, true, true, true, true, true, true, true, true, true, false, true, true, true, false, false, false, false, false, false, false, false] rfl rfl (by kernel_rfl) (fun _ _ _ h => h) (Or.inl ⟨by rfl, ?_⟩) ?_ ?_
          rotate_left
          · intro w'
            go_simp
            with_reducible rfl
          rotate_left
          · simp only [Act.put, List.setIfInBounds_toArray, List.set_cons_zero, List.set_cons_succ, i64_w, i32_w]
            rfl
          refine one_ (i := 10) (N := some 114) #[true, true, true, true, true, true, true, true, true, true, true, true, true, true, false, false, false, false, false, false, false, false] rfl rfl (by kernel_rfl) (by decide) (fun K hK => ?_)
          refine goes_ Try.func34 (by kernel_rfl) rfl #[.agg #[.int .i64 a0_0, .int .i64 a0_1, .bool a0_2, .int .i64 2, .int .i64 8, .int .i64 1, .int .i64 0, .bool a0_7, .slice A0_8 l0_8.length c0_8]] (by rfl) rfl rfl (by simp only [List.map_toArray, List.map_cons, List.map_nil]; rfl) ?_
          with_reducible refine (pdu_May.calls 4 (a0_0) (a0_1) (a0_2) (2) (8) (1) (0) (a0_7) A0_8 c0_8 l0_8 false _ (Kd.C_below HR.out (by (repeat (with_reducible first | exact HB.out | apply pw_below_drewN | apply below_drew1)))) HC.out ((Lib.may_pdu 0 _ _ _ _ _ _ _ _ _).trans (congrArg some HLT.out))).mono ?_
          rintro e w3 ⟨rfl, hb⟩
          refine ⟨_, rfl, ?_⟩
          have nBP := Aside0.mk (blk_below (g := w.heap.size) (o := (.cells #[.int .i64 a0_0, .int .i64 a0_1, .bool a0_2, .int .i64 2, .int .i64 8, .int .i64 0, .int .i64 0, .bool a0_7, .slice A0_8 l0_8.length c0_8] 25 (0, 0))) (by (with_reducible repeat (first | refine blk_drewN ?_ _ | refine blk_drew ?_)); exact BP.out) hb)
          have nBQ := Aside0.mk (blk_below (g := wb.heap.size) (o := (.cells #[.int .i64 a0_0, .int .i64 a0_1, .bool (!a0_2), .int .i64 2, .int .i64 8, .int .i64 0, .int .i64 0, .bool a0_7, .slice A0_8 l0_8.length c0_8] 25 (0, 0))) (by (with_reducible repeat (first | refine blk_drewN ?_ _ | refine blk_drew ?_)); exact BQ.out) hb)
          have nBU := Aside0.mk (blk_below (g := wb.heap.size + 1) (o := (.cells #[.int .i64 a0_0, .int .i64 a0_1, .bool a0_2, .int .i64 2, .int .i64 8, .int .i64 0, .int .i64 0, .bool (!a0_7), .slice A0_8 l0_8.length c0_8] 25 (0, 0))) (by (with_reducible repeat (first | refine blk_drewN ?_ _ | refine blk_drew ?_)); exact BU.out) hb)
          have nBV := Aside0.mk (blk_below (g := wb.heap.size + 1 + 1) (o := (.cells #[.int .i64 a0_0, .int .i64 a0_1, .bool a0_2, .int .i64 2, .int .i64 8, .int .i64 1, .int .i64 0, .bool a0_7, .slice A0_8 l0_8.length c0_8] 25 (0, 0))) (by (with_reducible repeat (first | refine blk_drewN ?_ _ | refine blk_drew ?_)); exact BV.out) hb)
          have nHB := Aside0.mk (below_step (by (repeat (with_reducible first | exact HB.out | apply pw_below_drewN | apply below_drew1))) hb)
          clear BP BQ BU BV HB hb
          have BP := nBP
          have BQ := nBQ
          have BU := nBU
          have BV := nBV
          have HB := nHB
          clear nBP nBQ nBU nBV nHB
          refine hK.out _ _ ⟨(blk_cell BP.out 3).trans rfl, (blk_cell BP.out 5).trans rfl, (blk_cell BQ.out 0).trans rfl, (blk_cell BQ.out 1).trans rfl, (blk_cell BQ.out 2).trans rfl, (blk_cell BQ.out 3).trans rfl, (blk_cell BQ.out 4).trans rfl, (blk_cell BQ.out 5).trans rfl, (blk_cell BQ.out 6).trans rfl, (blk_cell BQ.out 7).trans rfl, (blk_cell BQ.out 8).trans rfl, (blk_cell BU.out 0).trans rfl, (blk_cell BU.out 1).trans rfl, (blk_cell BU.out 2).trans rfl, (blk_cell BU.out 3).trans rfl, (blk_cell BU.out 4).trans rfl, (blk_cell BU.out 5).trans rfl, (blk_cell BU.out 6).trans rfl, (blk_cell BU.out 7).trans rfl, (blk_cell BU.out 8).trans rfl, (blk_cell BV.out 0).trans rfl, (blk_cell BV.out 1).trans rfl, (blk_cell BV.out 2).trans rfl, (blk_cell BV.out 3).trans rfl, (blk_cell BV.out 4).trans rfl, (blk_cell BV.out 5).trans rfl, (blk_cell BV.out 6).trans rfl, (blk_cell BV.out 7).trans rfl, (blk_cell BV.out 8).trans rfl⟩ (fun hHeld => ?_)
          clear hK K
          refine norm_ (a' := ?_) ?_ ?_
          rotate_left
          · show Act.put _ (some 114) _ = _
            simp only [Act.put, List.setIfInBounds_toArray, List.set_cons_zero, List.set_cons_succ, i64_w, i32_w]
            rfl
          refine pure_ (i := 14) (N := some 118) (v := ?_) (a' := ?_) #[true, true, true, true, true, true, true, true, true, true, true, true, true, true, true, false, false, false, false, false, false, false] rfl rfl (by kernel_rfl) (fun _ _ _ h => h) (Or.inl ⟨by rfl, ?_⟩) ?_ ?_
          rotate_left
          · intro w'
            go_simp
            with_reducible rfl
          rotate_left
          · simp only [Act.put, List.setIfInBounds_toArray, List.set_cons_zero, List.set_cons_succ, i64_w, i32_w]
            rfl
          refine pure_ (i := 15) (N := some 119) (v := undef) (a' := ?_) #[true, true, true, true, true, true, true, true, true, true, true, true, true, true, true, true, false, false, false, false, false, false] rfl rfl (by kernel_rfl) (fun _ _ _ h => h) (Or.inr ⟨by rfl, rfl⟩) ?_ ?_
          rotate_left
          · simp only [Act.put, List.setIfInBounds_toArray, List.set_cons_zero, List.set_cons_succ, i64_w, i32_w]
            rfl
          refine pure_ (i := 16) (N := some 120) (v := undef) (a' := ?_) #[true, true, true, true, true, true, true, true, true, true, true, true, true, true, true, true, true, false, false, false, false, false] rfl rfl (by kernel_rfl) (fun _ _ _ h => h) (Or.inr ⟨by rfl, rfl⟩) ?_ ?_
          rotate_left
          · simp only [Act.put, List.setIfInBounds_toArray, List.set_cons_zero, List.set_cons_succ, i64_w, i32_w]
            rfl
          refine pure_ (i := 17) (N := some 121) (v := undef) (a' := ?_) #[true, true, true, true, true, true, true, true, true, true, true, true, true, true, true, true, true, true, false, false, false, false] rfl rfl (by kernel_rfl) (fun _ _ _ h => h) (Or.inr ⟨by rfl, rfl⟩) ?_ ?_
          rotate_left
          · simp only [Act.put, List.setIfInBounds_toArray, List.set_cons_zero, List.set_cons_succ, i64_w, i32_w]
            rfl
          refine pure_ (i := 18) (N := some 122) (v := ?_) (a' := ?_) #[true, true, true, true, true, true, true, true, true, true, true, true, true, true, true, true, true, true, true, false, false, false] rfl rfl (by kernel_rfl) (fun _ _ _ h => h) (Or.inl ⟨by rfl, ?_⟩) ?_ ?_
          rotate_left
          · intro w'
            go_simp
            with_reducible rfl
          rotate_left
          · simp only [Act.put, List.setIfInBounds_toArray, List.set_cons_zero, List.set_cons_succ, i64_w, i32_w]
            rfl
          refine pure_ (i := 19) (N := some 123) (v := ?_) (a' := ?_) #[true, true, true, true, true, true, true, true, true, true, true, true, true, true, true, true, true, true, true, true, false, false] rfl rfl (by kernel_rfl) (fun _ _ _ h => h) (Or.inl ⟨by rfl, ?_⟩) ?_ ?_
          rotate_left
          · intro w'
            go_simp
            with_reducible rfl
          rotate_left
          · simp only [Act.put, List.setIfInBounds_toArray, List.set_cons_zero, List.set_cons_succ, i64_w, i32_w]
            rfl
          refine pure_ (i := 20) (N := some 124) (v := ?_) (a' := ?_) #[true, true, true, true, true, true, true, true, true, true, true, true, true, true, true, true, true, true, true, true, true, false] rfl rfl (by kernel_rfl) (fun _ _ _ h => h) (Or.inl ⟨by rfl, ?_⟩) ?_ ?_
          rotate_left
          · intro w'
            go_simp
            with_reducible rfl
          rotate_left
          · simp only [Act.put, List.setIfInBounds_toArray, List.set_cons_zero, List.set_cons_succ, i64_w, i32_w]
            rfl
          refine pure_ (i := 21) (N := some 2) (v := ?_) (a' := ?_) #[true, true, true, true, true, true, true, true, true, true, true, true, true, true, true, true, true, true, true, true, true, true] rfl rfl (by kernel_rfl) (fun _ _ _ h => h) (Or.inl ⟨by rfl, ?_⟩) ?_ ?_
          rotate_left
          · intro w'
            go_simp
            with_reducible rfl
          rotate_left
          · simp only [Act.put, List.setIfInBounds_toArray, List.set_cons_zero, List.set_cons_succ, i64_w, i32_w]
            rfl
          refine done_ (by kernel_rfl) ?_
          go_wp2_with fail
          go_ret
          exact ⟨rfl, HB.out⟩
        · have HBO := Aside0.mk ((KindP.pk_q HM.out).trans (by decide : _ = true))
          have HLT := Aside0.mk (show Lib.mayB a0_0 a0_1 a0_2 2 9 1 0 l0_8.length = false from (KindP.pk_w HM.out).trans (by decide))
          clear h1 h2
          have k0 : wb.cell? ⟨w.heap.size, 0, none⟩ = some (.int .i64 a0_0) := (blk_cell HPb.out 0).trans rfl
          have k1 : wb.cell? ⟨w.heap.size, 1, none⟩ = some (.int .i64 a0_1) := (blk_cell HPb.out 1).trans rfl
          have k2 : wb.cell? ⟨w.heap.size, 2, none⟩ = some (.bool a0_2) := (blk_cell HPb.out 2).trans rfl
          have k3 : wb.cell? ⟨w.heap.size, 3, none⟩ = some (.int .i64 2) := (blk_cell HPb.out 3).trans rfl
          have k4 : wb.cell? ⟨w.heap.size, 4, none⟩ = some (.int .i64 9) := (blk_cell HPb.out 4).trans rfl
          have k5 : wb.cell? ⟨w.heap.size, 5, none⟩ = some (.int .i64 0) := (blk_cell HPb.out 5).trans rfl
          have k6 : wb.cell? ⟨w.heap.size, 6, none⟩ = some (.int .i64 0) := (blk_cell HPb.out 6).trans rfl
          have k7 : wb.cell? ⟨w.heap.size, 7, none⟩ = some (.bool a0_7) := (blk_cell HPb.out 7).trans rfl
          have k8 : wb.cell? ⟨w.heap.size, 8, none⟩ = some (.slice A0_8 l0_8.length c0_8) := (blk_cell HPb.out 8).trans rfl
          have hpw : w.heap.size < wb.heap.size := blk_lt HPb.out
          have hpw1 : w.heap.size < wb.heap.size + 1 := by omega
          have hpw2 : w.heap.size < wb.heap.size + 1 + 1 := by omega
          have hpw3 : w.heap.size ≠ wb.heap.size + 1 + 1 := by omega
          go_wp2_with fail
          generalize hW : (((wb.alloc _).alloc _).alloc _) = W
          have BP := Aside0.mk (show W.heap[w.heap.size]? = some (.cells #[.int .i64 a0_0, .int .i64 a0_1, .bool a0_2, .int .i64 2, .int .i64 9, .int .i64 0, .int .i64 0, .bool a0_7, .slice A0_8 l0_8.length c0_8] 25 (0, 0)) by rw [← hW]; exact blk_alloc (blk_alloc (blk_alloc HPb.out _) _) _)
          have BQ := Aside0.mk (show W.heap[wb.heap.size]? = some (.cells #[.int .i64 a0_0, .int .i64 a0_1, .bool (!a0_2), .int .i64 2, .int .i64 9, .int .i64 0, .int .i64 0, .bool a0_7, .slice A0_8 l0_8.length c0_8] 25 (0, 0)) by rw [← hW]; exact blk_alloc (blk_alloc (blk_new wb _) _) _)
          have BU := Aside0.mk (show W.heap[wb.heap.size + 1]? = some (.cells #[.int .i64 a0_0, .int .i64 a0_1, .bool a0_2, .int .i64 2, .int .i64 9, .int .i64 0, .int .i64 0, .bool (!a0_7), .slice A0_8 l0_8.length c0_8] 25 (0, 0)) by rw [← hW]; exact blk_alloc (KindP.blk_new2 wb _ _) _)
          have BV := Aside0.mk (show W.heap[wb.heap.size + 1 + 1]? = some (.cells #[.int .i64 a0_0, .int .i64 a0_1, .bool a0_2, .int .i64 2, .int .i64 9, .int .i64 1, .int .i64 0, .bool a0_7, .slice A0_8 l0_8.length c0_8] 25 (0, 0)) by rw [← hW]; exact KindP.blk_new3 wb _ _ _)
          have HB := Aside0.mk (show Below w.heap.size w W by rw [← hW]; exact below_alloc (below_alloc (below_alloc HBb.out _) _) _)
          clear hW k0 k1 k2 k3 k4 k5 k6 k7 k8
          refine start_ (n := 22) (S := fun w' => w'.cell? ⟨w.heap.size, 3, none⟩ = some (.int .i64 2) ∧ w'.cell? ⟨w.heap.size, 5, none⟩ = some (.int .i64 0) ∧ w'.cell? ⟨wb.heap.size, 0, none⟩ = some (.int .i64 a0_0) ∧ w'.cell? ⟨wb.heap.size, 1, none⟩ = some (.int .i64 a0_1) ∧ w'.cell? ⟨wb.heap.size, 2, none⟩ = some (.bool (!a0_2)) ∧ w'.cell? ⟨wb.heap.size, 3, none⟩ = some (.int .i64 2) ∧ w'.cell? ⟨wb.heap.size, 4, none⟩ = some (.int .i64 9) ∧ w'.cell? ⟨wb.heap.size, 5, none⟩ = some (.int .i64 0) ∧ w'.cell? ⟨wb.heap.size, 6, none⟩ = some (.int .i64 0) ∧ w'.cell? ⟨wb.heap.size, 7, none⟩ = some (.bool a0_7) ∧ w'.cell? ⟨wb.heap.size, 8, none⟩ = some (.slice A0_8 l0_8.length c0_8) ∧ w'.cell? ⟨wb.heap.size + 1, 0, none⟩ = some (.int .i64 a0_0) ∧ w'.cell? ⟨wb.heap.size + 1, 1, none⟩ = some (.int .i64 a0_1) ∧ w'.cell? ⟨wb.heap.size + 1, 2, none⟩ = some (.bool a0_2) ∧ w'.cell? ⟨wb.heap.size + 1, 3, none⟩ = some (.int .i64 2) ∧ w'.cell? ⟨wb.heap.size + 1, 4, none⟩ = some (.int .i64 9) ∧ w'.cell? ⟨wb.heap.size + 1, 5, none⟩ = some (.int .i64 0) ∧ w'.cell? ⟨wb.heap.size + 1, 6, none⟩ = some (.int .i64 0) ∧ w'.cell? ⟨wb.heap.size + 1, 7, none⟩ = some (.bool (!a0_7)) ∧ w'.cell? ⟨wb.heap.size + 1, 8, none⟩ = some (.slice A0_8 l0_8.length c0_8) ∧ w'.cell? ⟨wb.heap.size + 1 + 1, 0, none⟩ = some (.int .i64 a0_0) ∧ w'.cell? ⟨wb.heap.size + 1 + 1, 1, none⟩ = some (.int .i64 a0_1) ∧ w'.cell? ⟨wb.heap.size + 1 + 1, 2, none⟩ = some (.bool a0_2) ∧ w'.cell? ⟨wb.heap.size + 1 + 1, 3, none⟩ = some (.int .i64 2) ∧ w'.cell? ⟨wb.heap.size + 1 + 1, 4, none⟩ = some (.int .i64 9) ∧ w'.cell? ⟨wb.heap.size + 1 + 1, 5, none⟩ = some (.int .i64 1) ∧ w'.cell? ⟨wb.heap.size + 1 + 1, 6, none⟩ = some (.int .i64 0) ∧ w'.cell? ⟨wb.heap.size + 1 + 1, 7, none⟩ = some (.bool a0_7) ∧ w'.cell? ⟨wb.heap.size + 1 + 1, 8, none⟩ = some (.slice A0_8 l0_8.length c0_8)) (ds := []) #[false, false, false, false, false, false, false, false, false, false, false, false, false, false, false, false, false, false, false, false, false, false] (by kernel_rfl) rfl rfl ⟨(blk_cell BP.out 3).trans rfl, (blk_cell BP.out 5).trans rfl, (blk_cell BQ.out 0).trans rfl, (blk_cell BQ.out 1).trans rfl, (blk_cell BQ.out 2).trans rfl, (blk_cell BQ.out 3).trans rfl, (blk_cell BQ.out 4).trans rfl, (blk_cell BQ.out 5).trans rfl, (blk_cell BQ.out 6).trans rfl, (blk_cell BQ.out 7).trans rfl, (blk_cell BQ.out 8).trans rfl, (blk_cell BU.out 0).trans rfl, (blk_cell BU.out 1).trans rfl, (blk_cell BU.out 2).trans rfl, (blk_cell BU.out 3).trans rfl, (blk_cell BU.out 4).trans rfl, (blk_cell BU.out 5).trans rfl, (blk_cell BU.out 6).trans rfl, (blk_cell BU.out 7).trans rfl, (blk_cell BU.out 8).trans rfl, (blk_cell BV.out 0).trans rfl, (blk_cell BV.out 1).trans rfl, (blk_cell BV.out 2).trans rfl, (blk_cell BV.out 3).trans rfl, (blk_cell BV.out 4).trans rfl, (blk_cell BV.out 5).trans rfl, (blk_cell BV.out 6).trans rfl, (blk_cell BV.out 7).trans rfl, (blk_cell BV.out 8).trans rfl⟩ (fun hHeld => ?_)
          refine pure_ (i := 2) (N := some 106) (v := ?_) (a' := ?_) #[false, false, true, false, false, false, false, false, false, false, false, false, false, false, false, false, false, false, false, false, false, false] rfl rfl (by kernel_rfl) (fun _ _ _ h => h) (Or.inl ⟨by rfl, ?_⟩) ?_ ?_
          rotate_left
          · intro w'
            go_simp
            with_reducible rfl
          rotate_left
          · simp only [Act.put, List.setIfInBounds_toArray, List.set_cons_zero, List.set_cons_succ, i64_w, i32_w]
            rfl
          refine take_ (i := 0) (N := some 104) (v := ?_) (a' := ?_) #[true, false, true, false, false, false, false, false, false, false, false, false, false, false, false, false, false, false, false, false, false, false] rfl rfl (by kernel_rfl) (fun _ _ _ h => h) (Or.inl ⟨by rfl, ?_⟩) hHeld ?_ ?_
          rotate_left
          · rintro w' ⟨s0, s1, s2, s3, s4, s5, s6, s7, s8, s9, s10, s11, s12, s13, s14, s15, s16, s17, s18, s19, s20, s21, s22, s23, s24, s25, s26, s27, s28⟩
            go_simp
            with_reducible rfl
          rotate_left
          · simp only [Act.put, List.setIfInBounds_toArray, List.set_cons_zero, List.set_cons_succ, i64_w, i32_w]
            rfl
          refine one_ (i := 1) (N := some 105) #[true, true, true, false, false, false, false, false, false, false, false, false, false, false, false, false, false, false, false, false, false, false] rfl rfl (by kernel_rfl) (by decide) (fun K hK => ?_)
          refine goes_ Try.func34 (by kernel_rfl) rfl #[.agg #[.int .i64 a0_0, .int .i64 a0_1, .bool (!a0_2), .int .i64 2, .int .i64 9, .int .i64 0, .int .i64 0, .bool a0_7, .slice A0_8 l0_8.length c0_8]] (by rfl) rfl rfl (by simp only [List.map_toArray, List.map_cons, List.map_nil]; rfl) ?_
          with_reducible refine (pdu_May.calls 4 (a0_0) (a0_1) ((!a0_2)) (2) (9) (0) (0) (a0_7) A0_8 c0_8 l0_8 true _ (Kd.C_below HR.out (by (repeat (with_reducible first | exact HB.out | apply pw_below_drewN | apply below_drew1)))) HC.out ((Lib.may_pdu 0 _ _ _ _ _ _ _ _ _).trans (congrArg some HBO.out))).mono ?_
          rintro e w3 ⟨rfl, hb⟩
          refine ⟨_, rfl, ?_⟩
          have nBP := Aside0.mk (blk_below (g := w.heap.size) (o := (.cells #[.int .i64 a0_0, .int .i64 a0_1, .bool a0_2, .int .i64 2, .int .i64 9, .int .i64 0, .int .i64 0, .bool a0_7, .slice A0_8 l0_8.length c0_8] 25 (0, 0))) (by (with_reducible repeat (first | refine blk_drewN ?_ _ | refine blk_drew ?_)); exact BP.out) hb)
          have nBQ := Aside0.mk (blk_below (g := wb.heap.size) (o := (.cells #[.int .i64 a0_0, .int .i64 a0_1, .bool (!a0_2), .int .i64 2, .int .i64 9, .int .i64 0, .int .i64 0, .bool a0_7, .slice A0_8 l0_8.length c0_8] 25 (0, 0))) (by (with_reducible repeat (first | refine blk_drewN ?_ _ | refine blk_drew ?_)); exact BQ.out) hb)
          have nBU := Aside0.mk (blk_below (g := wb.heap.size + 1) (o := (.cells #[.int .i64 a0_0, .int .i64 a0_1, .bool a0_2, .int .i64 2, .int .i64 9, .int .i64 0, .int .i64 0, .bool (!a0_7), .slice A0_8 l0_8.length c0_8] 25 (0, 0))) (by (with_reducible repeat (first | refine blk_drewN ?_ _ | refine blk_drew ?_)); exact BU.out) hb)
          have nBV := Aside0.mk (blk_below (g := wb.heap.size + 1 + 1) (o := (.cells #[.int .i64 a0_0, .int .i64 a0_1, .bool a0_2, .int .i64 2, .int .i64 9, .int .i64 1, .int .i64 0, .bool a0_7, .slice A0_8 l0_8.length c0_8] 25 (0, 0))) (by (with_reducible repeat (first | refine blk_drewN ?_ _ | refine blk_drew ?_)); exact BV.out) hb)
          have nHB := Aside0.mk (below_step (by (repeat (with_reducible first | exact HB.out | apply pw_below_drewN | apply below_drew1))) hb)
          clear BP BQ BU BV HB hb
          have BP := nBP
          have BQ := nBQ
          have BU := nBU
          have BV := nBV
          have HB := nHB
          clear nBP nBQ nBU nBV nHB
          refine hK.out _ _ ⟨(blk_cell BP.out 3).trans rfl, (blk_cell BP.out 5).trans rfl, (blk_cell BQ.out 0).trans rfl, (blk_cell BQ.out 1).trans rfl, (blk_cell BQ.out 2).trans rfl, (blk_cell BQ.out 3).trans rfl, (blk_cell BQ.out 4).trans rfl, (blk_cell BQ.out 5).trans rfl, (blk_cell BQ.out 6).trans rfl, (blk_cell BQ.out 7).trans rfl, (blk_cell BQ.out 8).trans rfl, (blk_cell BU.out 0).trans rfl, (blk_cell BU.out 1).trans rfl, (blk_cell BU.out 2).trans rfl, (blk_cell BU.out 3).trans rfl, (blk_cell BU.out 4).trans rfl, (blk_cell BU.out 5).trans rfl, (blk_cell BU.out 6).trans rfl, (blk_cell BU.out 7).trans rfl, (blk_cell BU.out 8).trans rfl, (blk_cell BV.out 0).trans rfl, (blk_cell BV.out 1).trans rfl, (blk_cell BV.out 2).trans rfl, (blk_cell BV.out 3).trans rfl, (blk_cell BV.out 4).trans rfl, (blk_cell BV.out 5).trans rfl, (blk_cell BV.out 6).trans rfl, (blk_cell BV.out 7).trans rfl, (blk_cell BV.out 8).trans rfl⟩ (fun hHeld => ?_)
          clear hK K
          refine norm_ (a' := ?_) ?_ ?_
          rotate_left
          · show Act.put _ (some 105) _ = _
            simp only [Act.put, List.setIfInBounds_toArray, List.set_cons_zero, List.set_cons_succ, i64_w, i32_w]
            rfl
          refine pure_ (i := 3) (N := some 107) (v := ?_) (a' := ?_) #[true, true, true, true, false, false, false, false, false, false, false, false, false, false, false, false, false, false, false, false, false, false] rfl rfl (by kernel_rfl) (fun _ _ _ h => h) (Or.inl ⟨by rfl, ?_⟩) ?_ ?_
          rotate_left
          · intro w'
            go_simp
            with_reducible rfl
          rotate_left
          · simp only [Act.put, List.setIfInBounds_toArray, List.set_cons_zero, List.set_cons_succ, i64_w, i32_w]
            rfl
          refine pure_ (i := 4) (N := some 108) (v := ?_) (a' := ?_) #[true, true, true, true, true, false, false, false, false, false, false, false, false, false, false, false, false, false, false, false, false, false] rfl rfl (by kernel_rfl) (fun _ _ _ h => h) (Or.inl ⟨by rfl, ?_⟩) ?_ ?_
          rotate_left
          · intro w'
            go_simp
            with_reducible rfl
          rotate_left
          · simp only [Act.put, List.setIfInBounds_toArray, List.set_cons_zero, List.set_cons_succ, i64_w, i32_w]
            rfl
          refine take_ (i := 5) (N := some 109) (v := ?_) (a' := ?_) #[true, true, true, true, true, true, false, false, false, false, false, false, false, false, false, false, false, false, false, false, false, false] rfl rfl (by kernel_rfl) (fun _ _ _ h => h) (Or.inl ⟨by rfl, ?_⟩) hHeld ?_ ?_
          rotate_left
          · rintro w' ⟨s0, s1, s2, s3, s4, s5, s6, s7, s8, s9, s10, s11, s12, s13, s14, s15, s16, s17, s18, s19, s20, s21, s22, s23, s24, s25, s26, s27, s28⟩
            go_simp
            with_reducible rfl
          rotate_left
          · simp only [Act.put, List.setIfInBounds_toArray, List.set_cons_zero, List.set_cons_succ, i64_w, i32_w]
            rfl
          refine one_ (i := 6) (N := some 110) #[true, true, true, true, true, true, true, false, false, false, false, false, false, false, false, false, false, false, false, false, false, false] rfl rfl (by kernel_rfl) (by decide) (fun K hK => ?_)
          refine goes_ Try.func34 (by kernel_rfl) rfl #[.agg #[.int .i64 a0_0, .int .i64 a0_1, .bool a0_2, .int .i64 2, .int .i64 9, .int .i64 0, .int .i64 0, .bool (!a0_7), .slice A0_8 l0_8.length c0_8]] (by rfl) rfl rfl (by simp only [List.map_toArray, List.map_cons, List.map_nil]; rfl) ?_
          with_reducible refine (pdu_May.calls 4 (a0_0) (a0_1) (a0_2) (2) (9) (0) (0) ((!a0_7)) A0_8 c0_8 l0_8 true _ (Kd.C_below HR.out (by (repeat (with_reducible first | exact HB.out | apply pw_below_drewN | apply below_drew1)))) HC.out (KindP.pk_poll (!a0_7) l0_8 HM.out rfl)).mono ?_
          rintro e w3 ⟨rfl, hb⟩
          refine ⟨_, rfl, ?_⟩
          have nBP := Aside0.mk (blk_below (g := w.heap.size) (o := (.cells #[.int .i64 a0_0, .int .i64 a0_1, .bool a0_2, .int .i64 2, .int .i64 9, .int .i64 0, .int .i64 0, .bool a0_7, .slice A0_8 l0_8.length c0_8] 25 (0, 0))) (by (with_reducible repeat (first | refine blk_drewN ?_ _ | refine blk_drew ?_)); exact BP.out) hb)
          have nBQ := Aside0.mk (blk_below (g := wb.heap.size) (o := (.cells #[.int .i64 a0_0, .int .i64 a0_1, .bool (!a0_2), .int .i64 2, .int .i64 9, .int .i64 0, .int .i64 0, .bool a0_7, .slice A0_8 l0_8.length c0_8] 25 (0, 0))) (by (with_reducible repeat (first | refine blk_drewN ?_ _ | refine blk_drew ?_)); exact BQ.out) hb)
          have nBU := Aside0.mk (blk_below (g := wb.heap.size + 1) (o := (.cells #[.int .i64 a0_0, .int .i64 a0_1, .bool a0_2, .int .i64 2, .int .i64 9, .int .i64 0, .int .i64 0, .bool (!a0_7), .slice A0_8 l0_8.length c0_8] 25 (0, 0))) (by (with_reducible repeat (first | refine blk_drewN ?_ _ | refine blk_drew ?_)); exact BU.out) hb)
          have nBV := Aside0.mk (blk_below (g := wb.heap.size + 1 + 1) (o := (.cells #[.int .i64 a0_0, .int .i64 a0_1, .bool a0_2, .int .i64 2, .int .i64 9, .int .i64 1, .int .i64 0, .bool a0_7, .slice A0_8 l0_8.length c0_8] 25 (0, 0))) (by (with_reducible repeat (first | refine blk_drewN ?_ _ | refine blk_drew ?_)); exact BV.out) hb)
          have nHB := Aside0.mk (below_step (by (repeat (with_reducible first | exact HB.out | apply pw_below_drewN | apply below_drew1))) hb)
          clear BP BQ BU BV HB hb
          have BP := nBP
          have BQ := nBQ
          have BU := nBU
          have BV := nBV
          have HB := nHB
          clear nBP nBQ nBU nBV nHB
          refine hK.out _ _ ⟨(blk_cell BP.out 3).trans rfl, (blk_cell BP.out 5).trans rfl, (blk_cell BQ.out 0).trans rfl, (blk_cell BQ.out 1).trans rfl, (blk_cell BQ.out 2).trans rfl, (blk_cell BQ.out 3).trans rfl, (blk_cell BQ.out 4).trans rfl, (blk_cell BQ.out 5).trans rfl, (blk_cell BQ.out 6).trans rfl, (blk_cell BQ.out 7).trans rfl, (blk_cell BQ.out 8).trans rfl, (blk_cell BU.out 0).trans rfl, (blk_cell BU.out 1).trans rfl, (blk_cell BU.out 2).trans rfl, (blk_cell BU.out 3).trans rfl, (blk_cell BU.out 4).trans rfl, (blk_cell BU.out 5).trans rfl, (blk_cell BU.out 6).trans rfl, (blk_cell BU.out 7).trans rfl, (blk_cell BU.out 8).trans rfl, (blk_cell BV.out 0).trans rfl, (blk_cell BV.out 1).trans rfl, (blk_cell BV.out 2).trans rfl, (blk_cell BV.out 3).trans rfl, (blk_cell BV.out 4).trans rfl, (blk_cell BV.out 5).trans rfl, (blk_cell BV.out 6).trans rfl, (blk_cell BV.out 7).trans rfl, (blk_cell BV.out 8).trans rfl⟩ (fun hHeld => ?_)
          clear hK K
          refine norm_ (a' := ?_) ?_ ?_
          rotate_left
          · show Act.put _ (some 110) _ = _
            simp only [Act.put, List.setIfInBounds_toArray, List.set_cons_zero, List.set_cons_succ, i64_w, i32_w]
            rfl
          refine pure_ (i := 7) (N := some 111) (v := ?_) (a' := ?_) #[true, true, true, true, true, true, true, true, false, false, false, false, false, false, false, false, false, false, false, false, false, false] rfl rfl (by kernel_rfl) (fun _ _ _ h => h) (Or.inl ⟨by rfl, ?_⟩) ?_ ?_
          rotate_left
          · intro w'
            go_simp
            with_reducible rfl
          rotate_left
          · simp only [Act.put, List.setIfInBounds_toArray, List.set_cons_zero, List.set_cons_succ, i64_w, i32_w]
            rfl
          refine pure_ (i := 8) (N := some 112) (v := ?_) (a' := ?_) #[true, true, true, true, true, true, true, true, true, false, false, false, false, false, false, false, false, false, false, false, false, false] rfl rfl (by kernel_rfl) (fun _ _ _ h => h) (Or.inl ⟨by rfl, ?_⟩) ?_ ?_
          rotate_left
          · intro w'
            go_simp
            with_reducible rfl
          rotate_left
          · simp only [Act.put, List.setIfInBounds_toArray, List.set_cons_zero, List.set_cons_succ, i64_w, i32_w]
            rfl
          refine pure_ (i := 11) (N := some 115) (v := ?_) (a' := ?_) #[true, true, true, true, true, true, true, true, true, false, false, true, false, false, false, false, false, false, false, false, false, false] rfl rfl (by kernel_rfl) (fun _ _ _ h => h) (Or.inl ⟨by rfl, ?_⟩) ?_ ?_
          rotate_left
          · intro w'
            go_simp
            with_reducible rfl
          rotate_left
          · simp only [Act.put, List.setIfInBounds_toArray, List.set_cons_zero, List.set_cons_succ, i64_w, i32_w]
            rfl
          refine take_ (i := 9) (N := some 113) (v := ?_) (a' := ?_) #[true, true, true, true, true, true, true, true, true, true, false, true, false, false, false, false, false, false, false, false, false, false] rfl rfl (by kernel_rfl) (fun _ _ _ h => h) (Or.inl ⟨by rfl, ?_⟩) hHeld ?_ ?_
          rotate_left
          · rintro w' ⟨s0, s1, s2, s3, s4, s5, s6, s7, s8, s9, s10, s11, s12, s13, s14, s15, s16, s17, s18, s19, s20, s21, s22, s23, s24, s25, s26, s27, s28⟩
            go_simp
            with_reducible rfl
          rotate_left
          · simp only [Act.put, List.setIfInBounds_toArray, List.set_cons_zero, List.set_cons_succ, i64_w, i32_w]
            rfl
          refine take_ (i := 12) (N := some 116) (v := ?_) (a' := ?_) #[true, true, true, true, true, true, true, true, true, true, false, true, true, false, false, false, false, false, false, false, false, false] rfl rfl (by kernel_rfl) (fun _ _ _ h => h) (Or.inl ⟨by rfl, ?_⟩) hHeld ?_ ?_
          rotate_left
          · rintro w' ⟨s0, s1, s2, s3, s4, s5, s6, s7, s8, s9, s10, s11, s12, s13, s14, s15, s16, s17, s18, s19, s20, s21, s22, s23, s24, s25, s26, s27, s28⟩
            go_simp
            with_reducible rfl
          rotate_left
          · simp only [Act.put, List.setIfInBounds_toArray, List.set_cons_zero, List.set_cons_succ, i64_w, i32_w]
            rfl
          refine pure_ (i := 13) (N := some 117) (v := ?_) (a' := ?_) #[true, true, true, true, true, true, true, true, true, true, false, true, true, true, false, false, false, false, false, false, false, false] rfl rfl (by kernel_rfl) (fun _ _ _ h => h) (Or.inl ⟨by rfl, ?_⟩) ?_ ?_
          rotate_left
          · intro w'
            go_simp
            with_reducible rfl
          rotate_left
          · simp only [Act.put, List.setIfInBounds_toArray, List.set_cons_zero, List.set_cons_succ, i64_w, i32_w]
            rfl
          refine one_ (i := 10) (N := some 114) #[true, true, true, true, true, true, true, true, true, true, true, true, true, true, false, false, false, false, false, false, false, false] rfl rfl (by kernel_rfl) (by decide) (fun K hK => ?_)
          refine goes_ Try.func34 (by kernel_rfl) rfl #[.agg #[.int .i64 a0_0, .int .i64 a0_1, .bool a0_2, .int .i64 2, .int .i64 9, .int .i64 1, .int .i64 0, .bool a0_7, .slice A0_8 l0_8.length c0_8]] (by rfl) rfl rfl (by simp only [List.map_toArray, List.map_cons, List.map_nil]; rfl) ?_
          with_reducible refine (pdu_May.calls 4 (a0_0) (a0_1) (a0_2) (2) (9) (1) (0) (a0_7) A0_8 c0_8 l0_8 false _ (Kd.C_below HR.out (by (repeat (with_reducible first | exact HB.out | apply pw_below_drewN | apply below_drew1)))) HC.out ((Lib.may_pdu 0 _ _ _ _ _ _ _ _ _).trans (congrArg some HLT.out))).mono ?_
          rintro e w3 ⟨rfl, hb⟩
          refine ⟨_, rfl, ?_⟩
          have nBP := Aside0.mk (blk_below (g := w.heap.size) (o := (.cells #[.int .i64 a0_0, .int .i64 a0_1, .bool a0_2, .int .i64 2, .int .i64 9, .int .i64 0, .int .i64 0, .bool a0_7, .slice A0_8 l0_8.length c0_8] 25 (0, 0))) (by (with_reducible repeat (first | refine blk_drewN ?_ _ | refine blk_drew ?_)); exact BP.out) hb)
          have nBQ := Aside0.mk (blk_below (g := wb.heap.size) (o := (.cells #[.int .i64 a0_0, .int .i64 a0_1, .bool (!a0_2), .int .i64 2, .int .i64 9, .int .i64 0, .int .i64 0, .bool a0_7, .slice A0_8 l0_8.length c0_8] 25 (0, 0))) (by (with_reducible repeat (first | refine blk_drewN ?_ _ | refine blk_drew ?_)); exact BQ.out) hb)
          have nBU := Aside0.mk (blk_below (g := wb.heap.size + 1) (o := (.cells #[.int .i64 a0_0, .int .i64 a0_1, .bool a0_2, .int .i64 2, .int .i64 9, .int .i64 0, .int .i64 0, .bool (!a0_7), .slice A0_8 l0_8.length c0_8] 25 (0, 0))) (by (with_reducible repeat (first | refine blk_drewN ?_ _ | refine blk_drew ?_)); exact BU.out) hb)
          have nBV := Aside0.mk (blk_below (g := wb.heap.size + 1 + 1) (o := (.cells #[.int .i64 a0_0, .int .i64 a0_1, .bool a0_2, .int .i64 2, .int .i64 9, .int .i64 1, .int .i64 0, .bool a0_7, .slice A0_8 l0_8.length c0_8] 25 (0, 0))) (by (with_reducible repeat (first | refine blk_drewN ?_ _ | refine blk_drew ?_)); exact BV.out) hb)
          have nHB := Aside0.mk (below_step (by (repeat (with_reducible first | exact HB.out | apply pw_below_drewN | apply below_drew1))) hb)
          clear BP BQ BU BV HB hb
          have BP := nBP
          have BQ := nBQ
          have BU := nBU
          have BV := nBV
          have HB := nHB
          clear nBP nBQ nBU nBV nHB
          refine hK.out _ _ ⟨(blk_cell BP.out 3).trans rfl, (blk_cell BP.out 5).trans rfl, (blk_cell BQ.out 0).trans rfl, (blk_cell BQ.out 1).trans rfl, (blk_cell BQ.out 2).trans rfl, (blk_cell BQ.out 3).trans rfl, (blk_cell BQ.out 4).trans rfl, (blk_cell BQ.out 5).trans rfl, (blk_cell BQ.out 6).trans rfl, (blk_cell BQ.out 7).trans rfl, (blk_cell BQ.out 8).trans rfl, (blk_cell BU.out 0).trans rfl, (blk_cell BU.out 1).trans rfl, (blk_cell BU.out 2).trans rfl, (blk_cell BU.out 3).trans rfl, (blk_cell BU.out 4).trans rfl, (blk_cell BU.out 5).trans rfl, (blk_cell BU.out 6).trans rfl, (blk_cell BU.out 7).trans rfl, (blk_cell BU.out 8).trans rfl, (blk_cell BV.out 0).trans rfl, (blk_cell BV.out 1).trans rfl, (blk_cell BV.out 2).trans rfl, (blk_cell BV.out 3).trans rfl, (blk_cell BV.out 4).trans rfl, (blk_cell BV.out 5).trans rfl, (blk_cell BV.out 6).trans rfl, (blk_cell BV.out 7).trans rfl, (blk_cell BV.out 8).trans rfl⟩ (fun hHeld => ?_)
          clear hK K
          refine norm_ (a' := ?_) ?_ ?_
          rotate_left
          · show Act.put _ (some 114) _ = _
            simp only [Act.put, List.setIfInBounds_toArray, List.set_cons_zero, List.set_cons_succ, i64_w, i32_w]
            rfl
          refine pure_ (i := 14) (N := some 118) (v := ?_) (a' := ?_) #[true, true, true, true, true, true, true, true, true, true, true, true, true, true, true, false, false, false, false, false, false, false] rfl rfl (by kernel_rfl) (fun _ _ _ h => h) (Or.inl ⟨by rfl, ?_⟩) ?_ ?_
          rotate_left
          · intro w'
            go_simp
            with_reducible rfl
          rotate_left
          · simp only [Act.put, List.setIfInBounds_toArray, List.set_cons_zero, List.set_cons_succ, i64_w, i32_w]
            rfl
          refine pure_ (i := 15) (N := some 119) (v := undef) (a' := ?_) #[true, true, true, true, true, true, true, true, true, true, true, true, true, true, true, true, false, false, false, false, false, false] rfl rfl (by kernel_rfl) (fun _ _ _ h => h) (Or.inr ⟨by rfl, rfl⟩) ?_ ?_
          rotate_left
          · simp only [Act.put, List.setIfInBounds_toArray, List.set_cons_zero, List.set_cons_succ, i64_w, i32_w]
            rfl
          refine pure_ (i := 16) (N := some 120) (v := undef) (a' := ?_) #[true, true, true, true, true, true, true, true, true, true, true, true, true, true, true, true, true, false, false, false, false, false] rfl rfl (by kernel_rfl) (fun _ _ _ h => h) (Or.inr ⟨by rfl, rfl⟩) ?_ ?_
          rotate_left
          · simp only [Act.put, List.setIfInBounds_toArray, List.set_cons_zero, List.set_cons_succ, i64_w, i32_w]
            rfl
          refine pure_ (i := 17) (N := some 121) (v := undef) (a' := ?_) #[true, true, true, true, true, true, true, true, true, true, true, true, true, true, true, true, true, true, false, false, false, false] rfl rfl (by kernel_rfl) (fun _ _ _ h => h) (Or.inr ⟨by rfl, rfl⟩) ?_ ?_
          rotate_left
          · simp only [Act.put, List.setIfInBounds_toArray, List.set_cons_zero, List.set_cons_succ, i64_w, i32_w]
            rfl
          refine pure_ (i := 18) (N := some 122) (v := ?_) (a' := ?_) #[true, true, true, true, true, true, true, true, true, true, true, true, true, true, true, true, true, true, true, false, false, false] rfl rfl (by kernel_rfl) (fun _ _ _ h => h) (Or.inl ⟨by rfl, ?_⟩) ?_ ?_
          rotate_left
          · intro w'
            go_simp
            with_reducible rfl
          rotate_left
          · simp only [Act.put, List.setIfInBounds_toArray, List.set_cons_zero, List.set_cons_succ, i64_w, i32_w]
            rfl
          refine pure_ (i := 19) (N := some 123) (v := ?_) (a' := ?_) #[true, true, true, true, true, true, true, true, true, true, true, true, true, true, true, true, true, true, true, true, false, false] rfl rfl (by kernel_rfl) (fun _ _ _ h => h) (Or.inl ⟨by rfl, ?_⟩) ?_ ?_
          rotate_left
          · intro w'
            go_simp
            with_reducible rfl
          rotate_left
          · simp only [Act.put, List.setIfInBounds_toArray, List.set_cons_zero, List.set_cons_succ, i64_w, i32_w]
            rfl
          refine pure_ (i := 20) (N := some 124) (v := ?_) (a' := ?_) #[true, true, true, true, true, true, true, true, true, true, true, true, true, true, true, true, true, true, true, true, true, false] rfl rfl (by kernel_rfl) (fun _ _ _ h => h) (Or.inl ⟨by rfl, ?_⟩) ?_ ?_
          rotate_left
          · intro w'
            go_simp
            with_reducible rfl
          rotate_left
          · simp only [Act.put, List.setIfInBounds_toArray, List.set_cons_zero, List.set_cons_succ, i64_w, i32_w]
            rfl
          refine pure_ (i := 21) (N := some 2) (v := ?_) (a' := ?_) #[true, true, true, true, true, true, true, true, true, true, true, true, true, true, true, true, true, true, true, true, true, true] rfl rfl (by kernel_rfl) (fun _ _ _ h => h) (Or.inl ⟨by rfl, ?_⟩) ?_ ?_
          rotate_left
          · intro w'
            go_simp
            with_reducible rfl
          rotate_left
          · simp only [Act.put, List.setIfInBounds_toArray, List.set_cons_zero, List.set_cons_succ, i64_w, i32_w]
            rfl
          refine done_ (by kernel_rfl) ?_
          go_wp2_with fail
          go_ret
          exact ⟨rfl, HB.out⟩
end Go.Proofs.Ytnmcoebjkfpmjaa.P
