/- Any PDU: whether it may be, its bytes; any bytes: the PDU that they are, or what is wrong. -/
-- Put together by wip/print2/mergelaw.py: printed words (what this claim does not use is left out), printed functions, texts of this session.
import Derived.Test.YtnmcoebjkfpmjaaMPduCodes4
/-! Px93 -/
namespace Go.Proofs.Ytnmcoebjkfpmjaa.P
open Go.RowKit Go.Proofs.YtnmcoebjkfpmjaaW.PrintWords Go.Proofs.YtnmcoebjkfpmjaaW.PrintLast Go.Proofs.YtnmcoebjkfpmjaaW.PrintMore
attribute [local go_sem] max2_int min2_int max_two min_two max_three min_three max_four min_four   -- for this text's walks alone
set_option linter.unusedVariables false
set_option linter.unusedSimpArgs false
def antiphonref6_flag.f (a0 : Bool) : Option (Int) := if a0 = true then (some 1) else (some 0)
set_option maxHeartbeats 8000000 in
set_option maxRecDepth 100000 in
theorem antiphonref6_flag.calls (a0 : Bool) (r : Int) (w : World) (h : antiphonref6_flag.f a0 = some r) :
    Calls Try.prog 92 #[.bool a0] w fun e w' => e = .returned (.int .i64 r) ∧ Drawn0 w w' := by
  have H : (if a0 = true then (some 1) else (some 0)) = some r := h
  clear h
  by_cases c2 : a0 = true
  · subst c2
    have H1 : (some 1) = some r := by rw [if_pos rfl] at H; exact H
    clear H
    have H := H1
    clear H1
    obtain rfl := Option.some.inj H
    go_enter Try.func92, Try.ntmps92
    go_wp2
    go_ret
    exact ⟨by first | rfl | (simp; done) | (simp [*]; done), by repeat (first | exact Drawn0.refl _ | apply Drawn0.step)⟩
  · replace c2 := Bool.eq_false_iff.mpr c2
    subst c2
    have H1 : (some 0) = some r := by rw [if_neg (show ¬ (false = true) by decide)] at H; exact H
    clear H
    have H := H1
    clear H1
    obtain rfl := Option.some.inj H
    go_enter Try.func92, Try.ntmps92
    go_wp2
    go_ret
    exact ⟨by first | rfl | (simp; done) | (simp [*]; done), by repeat (first | exact Drawn0.refl _ | apply Drawn0.step)⟩
end Go.Proofs.Ytnmcoebjkfpmjaa.P
/-! Px39 -/
namespace Go.Proofs.Ytnmcoebjkfpmjaa.P
open Go.RowKit Go.Proofs.YtnmcoebjkfpmjaaW.PrintWords Go.Proofs.YtnmcoebjkfpmjaaW.PrintLast Go.Proofs.YtnmcoebjkfpmjaaW.PrintMore
attribute [local go_sem] max2_int min2_int max_two min_two max_three min_three max_four min_four   -- for this text's walks alone
set_option linter.unusedVariables false
set_option linter.unusedSimpArgs false
def antiphonref6_Code.f (a0 : Int) : Option (Int) := (some (([3, 175, 227, 111, 67, 99, 15, 135, 103, 231] : List Int) : List Int)).bind fun y101 => (if a0 < 0 then (some 0) else (if a0 ≥ (y101.length : Int) then (some 0) else (if 0 ≤ a0 then (if a0 < (y101.length : Int) then (some (rd y101 a0)) else (none)) else (none))))
set_option maxHeartbeats 8000000 in
set_option maxRecDepth 100000 in
theorem antiphonref6_Code.calls (a0 : Int) (r : Int) (w : World) (h : antiphonref6_Code.f a0 = some r) :
    Calls Try.prog 38 #[.int .i64 a0] w fun e w' => e = .returned (.int .i64 r) ∧ Below w.heap.size w w' := by
  have HB := Aside0.mk (Below.refl w.heap.size w)
  have H : ((some (([3, 175, 227, 111, 67, 99, 15, 135, 103, 231] : List Int) : List Int)).bind fun y101 => (if a0 < 0 then (some 0) else (if a0 ≥ (y101.length : Int) then (some 0) else (if 0 ≤ a0 then (if a0 < (y101.length : Int) then (some (rd y101 a0)) else (none)) else (none))))) = some r := h
  clear h
  obtain ⟨y101, hy101⟩ : ∃ y_ : List Int, y_ = (([3, 175, 227, 111, 67, 99, 15, 135, 103, 231] : List Int)) := ⟨_, rfl⟩
  replace H : (if a0 < 0 then (some 0) else (if a0 ≥ (y101.length : Int) then (some 0) else (if 0 ≤ a0 then (if a0 < (y101.length : Int) then (some (rd y101 a0)) else (none)) else (none)))) = some r := by first | (rw [hy101]; with_reducible exact H) | (have H2_ := (Option.bind_some _ _).symm.trans H; rw [hy101]; with_reducible exact H2_) | (have H2_ := (Option.bind_some _ _).symm.trans H; with_reducible exact H2_) | with_reducible exact H | (rw [hy101]; exact H) | exact H
  have Ny101 := Aside0.mk hy101
  clear hy101
  by_cases c2 : a0 < 0
  · rw [if_pos c2] at H
    have c2b0 : decide (a0 < 0) = true := decide_eq_true c2
    clear c2
    obtain rfl := Option.some.inj H
    go_enter Try.func38, Try.ntmps38
    go_wp2_with (first | ((with_reducible refine gate_dst (N := 4) rfl ?_); (try (refine gate_guard (by rfl) ?_; dsimp only)); refine Kd.R_lit (Kd.int .i64) _ 3 ?hg (N := 4) ?hd (xs := ([3, 175, 227, 111, 67, 99, 15, 135, 103, 231] : List Int)) (inner := [.int .i64 3, .int .i64 175, .int .i64 227, .int .i64 111, .int .i64 67, .int .i64 99, .int .i64 15, .int .i64 135, .int .i64 103, .int .i64 231]) (ok := fun _ => True) (okp := fun _ => True) ?hr ?hp (fun _ hk => hk) trivial (Below.refl _ _) (Nat.le_refl _) (by simp) ?_; (case hd => rfl); (case hg => rfl); (case hr => first | (go_simp; done) | (go_simp; rfl)); (case hp => exact (Reps.one (show Kd.M (Kd.int .i64) _ _ _ 3 [.int .i64 3] from rfl) (Reps.one (show Kd.M (Kd.int .i64) _ _ _ 175 [.int .i64 175] from rfl) (Reps.one (show Kd.M (Kd.int .i64) _ _ _ 227 [.int .i64 227] from rfl) (Reps.one (show Kd.M (Kd.int .i64) _ _ _ 111 [.int .i64 111] from rfl) (Reps.one (show Kd.M (Kd.int .i64) _ _ _ 67 [.int .i64 67] from rfl) (Reps.one (show Kd.M (Kd.int .i64) _ _ _ 99 [.int .i64 99] from rfl) (Reps.one (show Kd.M (Kd.int .i64) _ _ _ 15 [.int .i64 15] from rfl) (Reps.one (show Kd.M (Kd.int .i64) _ _ _ 135 [.int .i64 135] from rfl) (Reps.one (show Kd.M (Kd.int .i64) _ _ _ 103 [.int .i64 103] from rfl) (Reps.one (show Kd.M (Kd.int .i64) _ _ _ 231 [.int .i64 231] from rfl) (Reps.none _ _)))))))))))); intro v102 w3 ho4 hb hg_ hnew_; clear hg_ hnew_; (first | rw [← Ny101.out] at ho4 | (simp only [Int.reduceToNat] at ho4; rw [← Ny101.out] at ho4)); have n0_ := Aside0.mk (Kd.R_lower ho4 (below_size (by repeat (first | (with_reducible first | exact HB.out | apply below_alloc | apply pw_below_drewN | apply below_drew1) | exact HB.out)))); have n1_ := Aside0.mk (below_step (by repeat (first | (with_reducible first | exact HB.out | apply below_alloc | apply pw_below_drewN | apply below_drew1) | exact HB.out)) hb); clear HB; have HO103 := n0_; have HB := n1_; clear n0_ n1_; clear hb ho4))
    go_ret
    exact ⟨by first | rfl | (simp [errW_none, errW_some] <;> rfl) | (simp [*, errW_none, errW_some] <;> rfl), by repeat (first | (with_reducible first | exact HB.out | apply below_alloc | apply pw_below_drewN | apply below_drew1) | exact HB.out)⟩
  · rw [if_neg c2] at H
    have c2b0 : decide (a0 < 0) = false := decide_eq_false c2
    clear c2
    by_cases c5 : a0 ≥ (y101.length : Int)
    · rw [if_pos c5] at H
      have c5b0 : decide ((y101.length : Int) ≤ a0) = true := decide_eq_true c5
      clear c5
      obtain rfl := Option.some.inj H
      go_enter Try.func38, Try.ntmps38
      go_wp2_with (first | ((with_reducible refine gate_dst (N := 4) rfl ?_); (try (refine gate_guard (by rfl) ?_; dsimp only)); refine Kd.R_lit (Kd.int .i64) _ 3 ?hg (N := 4) ?hd (xs := ([3, 175, 227, 111, 67, 99, 15, 135, 103, 231] : List Int)) (inner := [.int .i64 3, .int .i64 175, .int .i64 227, .int .i64 111, .int .i64 67, .int .i64 99, .int .i64 15, .int .i64 135, .int .i64 103, .int .i64 231]) (ok := fun _ => True) (okp := fun _ => True) ?hr ?hp (fun _ hk => hk) trivial (Below.refl _ _) (Nat.le_refl _) (by simp) ?_; (case hd => rfl); (case hg => rfl); (case hr => first | (go_simp; done) | (go_simp; rfl)); (case hp => exact (Reps.one (show Kd.M (Kd.int .i64) _ _ _ 3 [.int .i64 3] from rfl) (Reps.one (show Kd.M (Kd.int .i64) _ _ _ 175 [.int .i64 175] from rfl) (Reps.one (show Kd.M (Kd.int .i64) _ _ _ 227 [.int .i64 227] from rfl) (Reps.one (show Kd.M (Kd.int .i64) _ _ _ 111 [.int .i64 111] from rfl) (Reps.one (show Kd.M (Kd.int .i64) _ _ _ 67 [.int .i64 67] from rfl) (Reps.one (show Kd.M (Kd.int .i64) _ _ _ 99 [.int .i64 99] from rfl) (Reps.one (show Kd.M (Kd.int .i64) _ _ _ 15 [.int .i64 15] from rfl) (Reps.one (show Kd.M (Kd.int .i64) _ _ _ 135 [.int .i64 135] from rfl) (Reps.one (show Kd.M (Kd.int .i64) _ _ _ 103 [.int .i64 103] from rfl) (Reps.one (show Kd.M (Kd.int .i64) _ _ _ 231 [.int .i64 231] from rfl) (Reps.none _ _)))))))))))); intro v102 w6 ho7 hb hg_ hnew_; clear hg_ hnew_; (first | rw [← Ny101.out] at ho7 | (simp only [Int.reduceToNat] at ho7; rw [← Ny101.out] at ho7)); have n0_ := Aside0.mk (Kd.R_lower ho7 (below_size (by repeat (first | (with_reducible first | exact HB.out | apply below_alloc | apply pw_below_drewN | apply below_drew1) | exact HB.out)))); have n1_ := Aside0.mk (below_step (by repeat (first | (with_reducible first | exact HB.out | apply below_alloc | apply pw_below_drewN | apply below_drew1) | exact HB.out)) hb); clear HB; have HO103 := n0_; have HB := n1_; clear n0_ n1_; clear hb ho7; obtain ⟨Ao8, co8, eo8⟩ := Kd.R_slice HO103.out; subst eo8))
      go_ret
      exact ⟨by first | rfl | (simp [errW_none, errW_some] <;> rfl) | (simp [*, errW_none, errW_some] <;> rfl), by repeat (first | (with_reducible first | exact HB.out | apply below_alloc | apply pw_below_drewN | apply below_drew1) | exact HB.out)⟩
    · rw [if_neg c5] at H
      have c5b0 : decide ((y101.length : Int) ≤ a0) = false := decide_eq_false c5
      clear c5
      by_cases c9 : 0 ≤ a0
      · rw [if_pos c9] at H
        have c9b0 : decide (0 ≤ a0) = true := decide_eq_true c9
        clear c9
        by_cases c10 : a0 < (y101.length : Int)
        · rw [if_pos c10] at H
          have c10b0 : decide (a0 < (y101.length : Int)) = true := decide_eq_true c10
          clear c10
          obtain rfl := Option.some.inj H
          go_enter Try.func38, Try.ntmps38
          go_wp2_with (first | ((with_reducible refine gate_dst (N := 4) rfl ?_); (try (refine gate_guard (by rfl) ?_; dsimp only)); refine Kd.R_lit (Kd.int .i64) _ 3 ?hg (N := 4) ?hd (xs := ([3, 175, 227, 111, 67, 99, 15, 135, 103, 231] : List Int)) (inner := [.int .i64 3, .int .i64 175, .int .i64 227, .int .i64 111, .int .i64 67, .int .i64 99, .int .i64 15, .int .i64 135, .int .i64 103, .int .i64 231]) (ok := fun _ => True) (okp := fun _ => True) ?hr ?hp (fun _ hk => hk) trivial (Below.refl _ _) (Nat.le_refl _) (by simp) ?_; (case hd => rfl); (case hg => rfl); (case hr => first | (go_simp; done) | (go_simp; rfl)); (case hp => exact (Reps.one (show Kd.M (Kd.int .i64) _ _ _ 3 [.int .i64 3] from rfl) (Reps.one (show Kd.M (Kd.int .i64) _ _ _ 175 [.int .i64 175] from rfl) (Reps.one (show Kd.M (Kd.int .i64) _ _ _ 227 [.int .i64 227] from rfl) (Reps.one (show Kd.M (Kd.int .i64) _ _ _ 111 [.int .i64 111] from rfl) (Reps.one (show Kd.M (Kd.int .i64) _ _ _ 67 [.int .i64 67] from rfl) (Reps.one (show Kd.M (Kd.int .i64) _ _ _ 99 [.int .i64 99] from rfl) (Reps.one (show Kd.M (Kd.int .i64) _ _ _ 15 [.int .i64 15] from rfl) (Reps.one (show Kd.M (Kd.int .i64) _ _ _ 135 [.int .i64 135] from rfl) (Reps.one (show Kd.M (Kd.int .i64) _ _ _ 103 [.int .i64 103] from rfl) (Reps.one (show Kd.M (Kd.int .i64) _ _ _ 231 [.int .i64 231] from rfl) (Reps.none _ _)))))))))))); intro v102 w11 ho12 hb hg_ hnew_; clear hg_ hnew_; (first | rw [← Ny101.out] at ho12 | (simp only [Int.reduceToNat] at ho12; rw [← Ny101.out] at ho12)); have n0_ := Aside0.mk (Kd.R_lower ho12 (below_size (by repeat (first | (with_reducible first | exact HB.out | apply below_alloc | apply pw_below_drewN | apply below_drew1) | exact HB.out)))); have n1_ := Aside0.mk (below_step (by repeat (first | (with_reducible first | exact HB.out | apply below_alloc | apply pw_below_drewN | apply below_drew1) | exact HB.out)) hb); clear HB; have HO103 := n0_; have HB := n1_; clear n0_ n1_; clear hb ho12; obtain ⟨Ao13, co13, eo13⟩ := Kd.R_slice HO103.out; subst eo13; have p104 : 0 ≤ (a0 : Int) := of_decide_eq_true (by first | (with_reducible assumption) | assumption); have q104 : a0 < (y101.length : Int) := of_decide_eq_true (by first | (with_reducible assumption) | assumption); obtain ⟨ad104, e104, hx104_0⟩ := Kd.at_int (Kd.R_reads' HO103.out).2.2 a0 p104 q104; cases e104; replace p104 := eq_true p104; replace q104 := eq_true q104))
          go_ret
          exact ⟨by first | rfl | (simp [errW_none, errW_some] <;> rfl) | (simp [*, errW_none, errW_some] <;> rfl), by repeat (first | (with_reducible first | exact HB.out | apply below_alloc | apply pw_below_drewN | apply below_drew1) | exact HB.out)⟩
        · rw [if_neg c10] at H
          exact absurd H (by simp)
      · rw [if_neg c9] at H
        exact absurd H (by simp)
end Go.Proofs.Ytnmcoebjkfpmjaa.P
/-! Px94 -/
namespace Go.Proofs.Ytnmcoebjkfpmjaa.P
open Go.RowKit Go.Proofs.YtnmcoebjkfpmjaaW.PrintWords Go.Proofs.YtnmcoebjkfpmjaaW.PrintLast Go.Proofs.YtnmcoebjkfpmjaaW.PrintMore
attribute [local go_sem] max2_int min2_int max_two min_two max_three min_three max_four min_four   -- for this text's walks alone
set_option linter.unusedVariables false
set_option linter.unusedSimpArgs false
def antiphonref6_Control.f (a0_0 : Int) (a0_1 : Int) (a0_2 : Bool) (a0_3 : Int) (a0_4 : Int) (a0_5 : Int) (a0_6 : Int) (a0_7 : Bool) (l0_8 : List Int) : Option (List Int) := if a0_3 = 0 then ((antiphonref6_flag.f a0_7).bind fun t102 => (some (([(wrap64 (2 * a0_5)) % 256, (wrap64 ((wrap64 (2 * a0_6)) + t102)) % 256] : List Int)))) else (if a0_3 = 1 then ((antiphonref6_flag.f a0_7).bind fun t106 => (some (([(wrap64 (1 + (wrap64 (4 * a0_4)))) % 256, (wrap64 ((wrap64 (2 * a0_6)) + t106)) % 256] : List Int)))) else ((antiphonref6_Code.f a0_4).bind fun t110 => ((antiphonref6_flag.f a0_7).bind fun t111 => (some (([(wrap64 (t110 + (wrap64 (16 * t111)))) % 256] : List Int))))))
def antiphonref6_Control.T3 : Bool × List (List Nat × List Nat) := (true, [([], []), ([0], [0]), ([1], [1]), ([2], [2]), ([], []), ([4], [4]), ([5], [5]), ([], []), ([7], [7]), ([8], [8]), ([6, 9], [6, 9]), ([10], [10]), ([3, 11], [3, 11]), ([12, 9, 0, 1, 2, 3, 4, 5, 6, 7, 8, 9, 10, 11, 12], [12])])
def antiphonref6_Control.B3 : List Nat := [0, 1, 3, 7, 0, 16, 48, 0, 128, 384, 1008, 2032, 4095, 8191]
theorem antiphonref6_Control.tab3 : rtab .any (opsOf Try.f93 3) = antiphonref6_Control.T3 := by kernel_rfl
theorem antiphonref6_Control.bits3 : waitsOk antiphonref6_Control.T3.2 antiphonref6_Control.B3 = true := by kernel_rfl
def antiphonref6_Control.T5 : Bool × List (List Nat × List Nat) := (true, [([], []), ([0], [0]), ([1], [1]), ([2], [2]), ([3], [3]), ([], []), ([5], [5]), ([6], [6]), ([], []), ([8], [8]), ([9], [9]), ([7, 10], [7, 10]), ([11], [11]), ([4, 12], [4, 12]), ([13, 10, 0, 1, 2, 3, 4, 5, 6, 7, 8, 9, 10, 11, 12, 13], [13])])
def antiphonref6_Control.B5 : List Nat := [0, 1, 3, 7, 15, 0, 32, 96, 0, 256, 768, 2016, 4064, 8191, 16383]
theorem antiphonref6_Control.tab5 : rtab .any (opsOf Try.f93 5) = antiphonref6_Control.T5 := by kernel_rfl
theorem antiphonref6_Control.bits5 : waitsOk antiphonref6_Control.T5.2 antiphonref6_Control.B5 = true := by kernel_rfl
def antiphonref6_Control.T6 : Bool × List (List Nat × List Nat) := (true, [([], []), ([0], [0]), ([1], [1]), ([], []), ([3], [3]), ([4, 2], [4]), ([5], [5]), ([2, 6], [2, 6]), ([7], [7]), ([8], [8]), ([9, 5, 0, 1, 2, 3, 4, 5, 6, 7, 8, 9], [9])])
def antiphonref6_Control.B6 : List Nat := [0, 1, 3, 0, 8, 31, 63, 127, 255, 511, 1023]
theorem antiphonref6_Control.tab6 : rtab .any (opsOf Try.f93 6) = antiphonref6_Control.T6 := by kernel_rfl
theorem antiphonref6_Control.bits6 : waitsOk antiphonref6_Control.T6.2 antiphonref6_Control.B6 = true := by kernel_rfl
set_option maxHeartbeats 8000000 in
set_option maxRecDepth 100000 in
theorem antiphonref6_Control.calls (a0_0 : Int) (a0_1 : Int) (a0_2 : Bool) (a0_3 : Int) (a0_4 : Int) (a0_5 : Int) (a0_6 : Int) (a0_7 : Bool) (A0_8 : Option Addr) (c0_8 : Nat) (l0_8 : List Int) (r : List Int) (w : World) (hr0_8 : Kd.C (Kd.int .u8) w A0_8 l0_8.length l0_8) (hc0_8 : l0_8.length ≤ c0_8) (h : antiphonref6_Control.f a0_0 a0_1 a0_2 a0_3 a0_4 a0_5 a0_6 a0_7 l0_8 = some r) :
    Calls Try.prog 93 #[.agg #[.int .i64 a0_0, .int .i64 a0_1, .bool a0_2, .int .i64 a0_3, .int .i64 a0_4, .int .i64 a0_5, .int .i64 a0_6, .bool a0_7, .slice A0_8 l0_8.length c0_8]] w fun e w' => ∃ v0_ : Value, e = .returned (v0_) ∧ Kd.R (Kd.int .u8) 5 w' w.heap.size (fun _ => True) v0_ r ∧ Below w.heap.size w w' := by
  have hu25 := Try.underlying25
  have HR0_8 := Aside0.mk hr0_8
  have HC0_8 := Aside0.mk hc0_8
  clear hr0_8 hc0_8
  have HB := Aside0.mk (Below.refl w.heap.size w)
  have H : (if a0_3 = 0 then ((antiphonref6_flag.f a0_7).bind fun t102 => (some (([(wrap64 (2 * a0_5)) % 256, (wrap64 ((wrap64 (2 * a0_6)) + t102)) % 256] : List Int)))) else (if a0_3 = 1 then ((antiphonref6_flag.f a0_7).bind fun t106 => (some (([(wrap64 (1 + (wrap64 (4 * a0_4)))) % 256, (wrap64 ((wrap64 (2 * a0_6)) + t106)) % 256] : List Int)))) else ((antiphonref6_Code.f a0_4).bind fun t110 => ((antiphonref6_flag.f a0_7).bind fun t111 => (some (([(wrap64 (t110 + (wrap64 (16 * t111)))) % 256] : List Int))))))) = some r := h
  clear h
  by_cases c2 : a0_3 = 0
  · rw [if_pos c2] at H
    have c2b0 : (a0_3 == 0) = true := beq_iff_eq.mpr c2
    have c2b1 : (a0_3 != 0) = false := bne_eq_false_iff_eq.mpr c2
    clear c2
    replace H := Option.bind_eq_some_iff.mp H
    obtain ⟨t102, A30, H⟩ := H
    replace H : (some (([(wrap64 (2 * a0_5)) % 256, (wrap64 ((wrap64 (2 * a0_6)) + t102)) % 256] : List Int))) = some r := H
    have A3 := Aside0.mk A30
    clear A30
    obtain ⟨y103, hy103⟩ : ∃ y_ : List Int, y_ = (([(wrap64 (2 * a0_5)) % 256, (wrap64 ((wrap64 (2 * a0_6)) + t102)) % 256] : List Int)) := ⟨_, rfl⟩
    replace H : (some y103) = some r := by first | (rw [hy103]; with_reducible exact H) | (have H2_ := (Option.bind_some _ _).symm.trans H; rw [hy103]; with_reducible exact H2_) | (have H2_ := (Option.bind_some _ _).symm.trans H; with_reducible exact H2_) | with_reducible exact H | (rw [hy103]; exact H) | exact H
    have Ny103 := Aside0.mk hy103
    clear hy103
    obtain rfl := Option.some.inj H
    go_enter Try.func93, Try.ntmps93
    try go_wp2_with (first | ((with_reducible refine gate_dst (N := 1) rfl ?_); refine box_event ?hg (N := 1) ?hd (cs := #[.int .i64 a0_0, .int .i64 a0_1, .bool a0_2, .int .i64 a0_3, .int .i64 a0_4, .int .i64 a0_5, .int .i64 a0_6, .bool a0_7, .slice A0_8 l0_8.length c0_8]) (t := 25) ?hr ?_; (case hd => rfl); (case hg => rfl); (case hr => first | (go_simp; done) | (go_simp; rfl)); intro gb101 hg w4 hbox hb; have n0_ := Aside0.mk (below_step (by repeat (first | (with_reducible first | exact HB.out | apply below_alloc | apply pw_below_drewN | apply below_drew1) | exact HB.out)) hb); have n1_ := Aside0.mk (hbox); have n2_ := Aside0.mk ((by rw [hg]; exact (below_size (by repeat (first | (with_reducible first | exact HB.out | apply below_alloc | apply pw_below_drewN | apply below_drew1) | exact HB.out))) : w.heap.size ≤ gb101)); have n3_ := Aside0.mk ((by rw [hg]; exact (below_size (by repeat (first | (with_reducible first | exact HB.out | apply below_alloc | apply pw_below_drewN | apply below_drew1) | exact HB.out))) : w.heap.size ≤ gb101)); clear HB; have HB := n0_; have BK101 := n1_; have GW101 := n2_; have GE101 := n3_; clear n0_ n1_ n2_ n3_; clear hb hbox hg; have hcz5_0 : w4.cell? ⟨gb101, 0, none⟩ = some (.int .i64 a0_0) := (blk_cell BK101.out 0).trans rfl; have hcz5_1 : w4.cell? ⟨gb101, 1, none⟩ = some (.int .i64 a0_1) := (blk_cell BK101.out 1).trans rfl; have hcz5_2 : w4.cell? ⟨gb101, 2, none⟩ = some (.bool a0_2) := (blk_cell BK101.out 2).trans rfl; have hcz5_3 : w4.cell? ⟨gb101, 3, none⟩ = some (.int .i64 a0_3) := (blk_cell BK101.out 3).trans rfl; have hcz5_4 : w4.cell? ⟨gb101, 4, none⟩ = some (.int .i64 a0_4) := (blk_cell BK101.out 4).trans rfl; have hcz5_5 : w4.cell? ⟨gb101, 5, none⟩ = some (.int .i64 a0_5) := (blk_cell BK101.out 5).trans rfl; have hcz5_6 : w4.cell? ⟨gb101, 6, none⟩ = some (.int .i64 a0_6) := (blk_cell BK101.out 6).trans rfl; have hcz5_7 : w4.cell? ⟨gb101, 7, none⟩ = some (.bool a0_7) := (blk_cell BK101.out 7).trans rfl; have hcz5_8 : w4.cell? ⟨gb101, 8, none⟩ = some (.slice A0_8 l0_8.length c0_8) := (blk_cell BK101.out 8).trans rfl; have hfz5_0 := blk_frozen BK101.out 0; have hfz5_1 := blk_frozen BK101.out 1; have hfz5_2 := blk_frozen BK101.out 2; have hfz5_3 := blk_frozen BK101.out 3; have hfz5_4 := blk_frozen BK101.out 4; have hfz5_5 := blk_frozen BK101.out 5; have hfz5_6 := blk_frozen BK101.out 6; have hfz5_7 := blk_frozen BK101.out 7; have hfz5_8 := blk_frozen BK101.out 8))
    have n0_ := Aside0.mk (blk_drew BK101.out)
    have n1_ := Aside0.mk (below_drew1 HB.out)
    clear BK101
    clear HB
    have BK101 := n0_
    have HB := n1_
    clear n0_ n1_
    refine start_ (n := 14) (S := fun w' => w'.cell? ⟨gb101, 0, none⟩ = some (.int .i64 a0_0) ∧ w'.cell? ⟨gb101, 1, none⟩ = some (.int .i64 a0_1) ∧ w'.cell? ⟨gb101, 2, none⟩ = some (.bool a0_2) ∧ w'.cell? ⟨gb101, 3, none⟩ = some (.int .i64 a0_3) ∧ w'.cell? ⟨gb101, 4, none⟩ = some (.int .i64 a0_4) ∧ w'.cell? ⟨gb101, 5, none⟩ = some (.int .i64 a0_5) ∧ w'.cell? ⟨gb101, 6, none⟩ = some (.int .i64 a0_6) ∧ w'.cell? ⟨gb101, 7, none⟩ = some (.bool a0_7) ∧ w'.cell? ⟨gb101, 8, none⟩ = some (.slice A0_8 l0_8.length c0_8)) (ds := []) #[false, false, false, false, false, false, false, false, false, false, false, false, false, false] (by kernel_rfl) rfl rfl ⟨(blk_cell BK101.out 0).trans rfl, (blk_cell BK101.out 1).trans rfl, (blk_cell BK101.out 2).trans rfl, (blk_cell BK101.out 3).trans rfl, (blk_cell BK101.out 4).trans rfl, (blk_cell BK101.out 5).trans rfl, (blk_cell BK101.out 6).trans rfl, (blk_cell BK101.out 7).trans rfl, (blk_cell BK101.out 8).trans rfl⟩ (fun hHeld => ?_); refine with_tabW antiphonref6_Control.tab3 antiphonref6_Control.bits3 (fun HT_ HW_ => ?_)
    generalize w4.drew = w6 at BK101 HB hHeld ⊢
    refine pure_ (i := 0) (N := some 7) (v := ?_) (a' := ?_) #[true, false, false, false, false, false, false, false, false, false, false, false, false, false] rfl rfl (any_of HT_.out (by kernel_rfl)) (fun _ _ _ h => h) (Or.inl ⟨by rfl, ?_⟩) ?_ ?_
    rotate_left
    · intro w'
      go_simp
      with_reducible rfl
    rotate_left
    · simp only [Act.put, List.setIfInBounds_toArray, List.set_cons_zero, List.set_cons_succ, i64_w, i32_w]
      rfl
    refine pure_ (i := 4) (N := some 11) (v := ?_) (a' := ?_) #[true, false, false, false, true, false, false, false, false, false, false, false, false, false] rfl rfl (any_of HT_.out (by kernel_rfl)) (fun _ _ _ h => h) (Or.inl ⟨by rfl, ?_⟩) ?_ ?_
    rotate_left
    · intro w'
      go_simp
      with_reducible rfl
    rotate_left
    · simp only [Act.put, List.setIfInBounds_toArray, List.set_cons_zero, List.set_cons_succ, i64_w, i32_w]
      rfl
    refine pure_ (i := 7) (N := some 14) (v := ?_) (a' := ?_) #[true, false, false, false, true, false, false, true, false, false, false, false, false, false] rfl rfl (any_of HT_.out (by kernel_rfl)) (fun _ _ _ h => h) (Or.inl ⟨by rfl, ?_⟩) ?_ ?_
    rotate_left
    · intro w'
      go_simp
      with_reducible rfl
    rotate_left
    · simp only [Act.put, List.setIfInBounds_toArray, List.set_cons_zero, List.set_cons_succ, i64_w, i32_w]
      rfl
    refine take_ (i := 1) (N := some 8) (v := ?_) (a' := ?_) #[true, true, false, false, true, false, false, true, false, false, false, false, false, false] rfl rfl (take_ofW HT_.out HW_.out (by kernel_rfl)) (fun _ _ _ h => h) (Or.inl ⟨by rfl, ?_⟩) hHeld ?_ ?_
    rotate_left
    · rintro w' ⟨s0, s1, s2, s3, s4, s5, s6, s7, s8⟩
      go_simp
      with_reducible rfl
    rotate_left
    · simp only [Act.put, List.setIfInBounds_toArray, List.set_cons_zero, List.set_cons_succ, i64_w, i32_w]
      rfl
    refine pure_ (i := 2) (N := some 9) (v := ?_) (a' := ?_) #[true, true, true, false, true, false, false, true, false, false, false, false, false, false] rfl rfl (any_of HT_.out (by kernel_rfl)) (fun _ _ _ h => h) (Or.inl ⟨by rfl, ?_⟩) ?_ ?_
    rotate_left
    · intro w'
      go_simp
      with_reducible rfl
    rotate_left
    · simp only [Act.put, List.setIfInBounds_toArray, List.set_cons_zero, List.set_cons_succ, i64_w, i32_w]
      rfl
    refine pure_ (i := 3) (N := some 10) (v := ?_) (a' := ?_) #[true, true, true, true, true, false, false, true, false, false, false, false, false, false] rfl rfl (any_of HT_.out (by kernel_rfl)) (fun _ _ _ h => h) (Or.inl ⟨by rfl, ?_⟩) ?_ ?_
    rotate_left
    · intro w'
      go_simp
      with_reducible rfl
    rotate_left
    · simp only [Act.put, List.setIfInBounds_toArray, List.set_cons_zero, List.set_cons_succ, i64_w, i32_w]
      rfl
    refine take_ (i := 5) (N := some 12) (v := ?_) (a' := ?_) #[true, true, true, true, true, true, false, true, false, false, false, false, false, false] rfl rfl (take_ofW HT_.out HW_.out (by kernel_rfl)) (fun _ _ _ h => h) (Or.inl ⟨by rfl, ?_⟩) hHeld ?_ ?_
    rotate_left
    · rintro w' ⟨s0, s1, s2, s3, s4, s5, s6, s7, s8⟩
      go_simp
      with_reducible rfl
    rotate_left
    · simp only [Act.put, List.setIfInBounds_toArray, List.set_cons_zero, List.set_cons_succ, i64_w, i32_w]
      rfl
    refine pure_ (i := 6) (N := some 13) (v := ?_) (a' := ?_) #[true, true, true, true, true, true, true, true, false, false, false, false, false, false] rfl rfl (any_of HT_.out (by kernel_rfl)) (fun _ _ _ h => h) (Or.inl ⟨by rfl, ?_⟩) ?_ ?_
    rotate_left
    · intro w'
      go_simp
      with_reducible rfl
    rotate_left
    · simp only [Act.put, List.setIfInBounds_toArray, List.set_cons_zero, List.set_cons_succ, i64_w, i32_w]
      rfl
    refine take_ (i := 8) (N := some 15) (v := ?_) (a' := ?_) #[true, true, true, true, true, true, true, true, true, false, false, false, false, false] rfl rfl (take_ofW HT_.out HW_.out (by kernel_rfl)) (fun _ _ _ h => h) (Or.inl ⟨by rfl, ?_⟩) hHeld ?_ ?_
    rotate_left
    · rintro w' ⟨s0, s1, s2, s3, s4, s5, s6, s7, s8⟩
      go_simp
      with_reducible rfl
    rotate_left
    · simp only [Act.put, List.setIfInBounds_toArray, List.set_cons_zero, List.set_cons_succ, i64_w, i32_w]
      rfl
    refine one_ (i := 9) (N := some 16) #[true, true, true, true, true, true, true, true, true, true, false, false, false, false] rfl rfl (one_of HT_.out (by kernel_rfl)) (by decide) (fun K hK => ?_)
    refine goes_ Try.func92 (by kernel_rfl) rfl #[.bool a0_7] (by rfl) rfl rfl (by (try simp only [List.map_toArray, List.map_cons, List.map_nil]); first | done | rfl | (simp only [List.length_drop, List.length_take]; rfl)) ?_
    with_reducible refine (antiphonref6_flag.calls a0_7 t102 _ A3.out).mono ?_
    rintro e w' ⟨rfl, ⟨nd, rfl⟩⟩
    refine ⟨_, rfl, ?_⟩
    refine hK.out _ _ ⟨(blk_cell BK101.out 0).trans rfl, (blk_cell BK101.out 1).trans rfl, (blk_cell BK101.out 2).trans rfl, (blk_cell BK101.out 3).trans rfl, (blk_cell BK101.out 4).trans rfl, (blk_cell BK101.out 5).trans rfl, (blk_cell BK101.out 6).trans rfl, (blk_cell BK101.out 7).trans rfl, (blk_cell BK101.out 8).trans rfl⟩ (fun hHeld => ?_)
    clear hK K
    refine norm_ (a' := ?_) ?_ ?_
    rotate_left
    · show Act.put _ (some 16) _ = _
      simp only [Act.put, List.setIfInBounds_toArray, List.set_cons_zero, List.set_cons_succ, i64_w, i32_w]
      rfl
    refine pure_ (i := 10) (N := some 17) (v := ?_) (a' := ?_) #[true, true, true, true, true, true, true, true, true, true, true, false, false, false] rfl rfl (any_of HT_.out (by kernel_rfl)) (fun _ _ _ h => h) (Or.inl ⟨by rfl, ?_⟩) ?_ ?_
    rotate_left
    · intro w'
      go_simp
      with_reducible rfl
    rotate_left
    · simp only [Act.put, List.setIfInBounds_toArray, List.set_cons_zero, List.set_cons_succ, i64_w, i32_w]
      rfl
    refine pure_ (i := 11) (N := some 18) (v := ?_) (a' := ?_) #[true, true, true, true, true, true, true, true, true, true, true, true, false, false] rfl rfl (any_of HT_.out (by kernel_rfl)) (fun _ _ _ h => h) (Or.inl ⟨by rfl, ?_⟩) ?_ ?_
    rotate_left
    · intro w'
      go_simp
      with_reducible rfl
    rotate_left
    · simp only [Act.put, List.setIfInBounds_toArray, List.set_cons_zero, List.set_cons_succ, i64_w, i32_w]
      rfl
    refine one_ (i := 12) (N := some 19) #[true, true, true, true, true, true, true, true, true, true, true, true, true, false] rfl rfl (one_of HT_.out (by kernel_rfl)) (by decide) (fun K hK => ?_)
    refine Kd.R_lit_step (Kd.int .u8) _ 5 ?hg (N := 19) ?hd (xs := ([(wrap64 (2 * a0_5)) % 256, (wrap64 ((wrap64 (2 * a0_6)) + t102)) % 256] : List Int)) (inner := [.int .u8 ((wrap64 (2 * a0_5)) % 256), .int .u8 ((wrap64 ((wrap64 (2 * a0_6)) + t102)) % 256)]) (ok := fun _ => True) (okp := fun _ => True) ?hr ?hp (fun _ hk => hk) trivial (Below.refl _ _) (Nat.le_refl _) (by simp) ?_; (case hd => rfl); (case hg => rfl); (case hr => first | (go_simp; done) | (go_simp; rfl)); (case hp => exact (Reps.one (show Kd.M (Kd.int .u8) _ _ _ ((wrap64 (2 * a0_5)) % 256) [.int .u8 ((wrap64 (2 * a0_5)) % 256)] from rfl) (Reps.one (show Kd.M (Kd.int .u8) _ _ _ ((wrap64 ((wrap64 (2 * a0_6)) + t102)) % 256) [.int .u8 ((wrap64 ((wrap64 (2 * a0_6)) + t102)) % 256)] from rfl) (Reps.none _ _))))
    intro v104 w7 ho8 hb hg_ hnew_
    clear hg_ hnew_
    (first | rw [← Ny103.out] at ho8 | (simp only [Int.reduceToNat] at ho8; rw [← Ny103.out] at ho8))
    have n0_ := Aside0.mk (Kd.R_lower ho8 (below_size (by repeat (first | (with_reducible first | exact HB.out | apply below_alloc | apply pw_below_drewN | apply below_drew1 | refine below_set ?_ GE101.out) | exact HB.out))))
    have n1_ := Aside0.mk (blk_below (g := gb101) (o := .cells #[.int .i64 a0_0, .int .i64 a0_1, .bool a0_2, .int .i64 a0_3, .int .i64 a0_4, .int .i64 a0_5, .int .i64 a0_6, .bool a0_7, .slice A0_8 l0_8.length c0_8] 25 (0, 0)) (by (with_reducible repeat (first | refine blk_drewN ?_ _ | refine blk_drew ?_ | refine blk_alloc ?_ _)); exact BK101.out) hb)
    have n2_ := Aside0.mk (below_step (by repeat (first | (with_reducible first | exact HB.out | apply below_alloc | apply pw_below_drewN | apply below_drew1 | refine below_set ?_ GE101.out) | exact HB.out)) hb)
    clear BK101
    clear HB
    have HO105 := n0_
    have BK101 := n1_
    have HB := n2_
    clear n0_ n1_ n2_
    clear hb ho8
    refine hK.out _ _ ⟨(blk_cell BK101.out 0).trans rfl, (blk_cell BK101.out 1).trans rfl, (blk_cell BK101.out 2).trans rfl, (blk_cell BK101.out 3).trans rfl, (blk_cell BK101.out 4).trans rfl, (blk_cell BK101.out 5).trans rfl, (blk_cell BK101.out 6).trans rfl, (blk_cell BK101.out 7).trans rfl, (blk_cell BK101.out 8).trans rfl⟩ (fun hHeld => ?_)
    clear hK K
    refine norm_ (a' := ?_) ?_ ?_
    rotate_left
    · show Act.put _ (some 19) _ = _
      simp only [Act.put, List.setIfInBounds_toArray, List.set_cons_zero, List.set_cons_succ, i64_w, i32_w]
      rfl
    refine pure_ (i := 13) (N := some 2) (v := ?_) (a' := ?_) #[true, true, true, true, true, true, true, true, true, true, true, true, true, true] rfl rfl (any_of HT_.out (by kernel_rfl)) (fun _ _ _ h => h) (Or.inl ⟨by rfl, ?_⟩) ?_ ?_
    rotate_left
    · intro w'
      go_simp
      with_reducible rfl
    rotate_left
    · simp only [Act.put, List.setIfInBounds_toArray, List.set_cons_zero, List.set_cons_succ, i64_w, i32_w]
      rfl
    refine done_ (done_of HT_.out (by kernel_rfl)) ?_
    try go_wp2
    go_ret
    exact ⟨_, by first | rfl | (simp [errW_none, errW_some] <;> rfl) | (simp [*, errW_none, errW_some] <;> rfl), by (with_reducible repeat (first | apply Kd.R_alloc | apply Kd.R_drewN | apply Kd.R_drew)); exact HO105.out, by repeat (first | (with_reducible first | exact HB.out | apply below_alloc | apply pw_below_drewN | apply below_drew1 | refine below_set ?_ GE101.out) | exact HB.out)⟩
  · rw [if_neg c2] at H
    have c2b0 : (a0_3 == 0) = false := beq_eq_false_iff_ne.mpr c2
    have c2b1 : (a0_3 != 0) = true := bne_iff_ne.mpr c2
    by_cases c9 : a0_3 = 1
    · rw [if_pos c9] at H
      have c9b0 : (a0_3 == 1) = true := beq_iff_eq.mpr c9
      have c9b1 : (a0_3 != 1) = false := bne_eq_false_iff_eq.mpr c9
      clear c9
      replace H := Option.bind_eq_some_iff.mp H
      obtain ⟨t106, A100, H⟩ := H
      replace H : (some (([(wrap64 (1 + (wrap64 (4 * a0_4)))) % 256, (wrap64 ((wrap64 (2 * a0_6)) + t106)) % 256] : List Int))) = some r := H
      have A10 := Aside0.mk A100
      clear A100
      obtain ⟨y107, hy107⟩ : ∃ y_ : List Int, y_ = (([(wrap64 (1 + (wrap64 (4 * a0_4)))) % 256, (wrap64 ((wrap64 (2 * a0_6)) + t106)) % 256] : List Int)) := ⟨_, rfl⟩
      replace H : (some y107) = some r := by first | (rw [hy107]; with_reducible exact H) | (have H2_ := (Option.bind_some _ _).symm.trans H; rw [hy107]; with_reducible exact H2_) | (have H2_ := (Option.bind_some _ _).symm.trans H; with_reducible exact H2_) | with_reducible exact H | (rw [hy107]; exact H) | exact H
      have Ny107 := Aside0.mk hy107
      clear hy107
      obtain rfl := Option.some.inj H
      go_enter Try.func93, Try.ntmps93
      try go_wp2_with (first | ((with_reducible refine gate_dst (N := 1) rfl ?_); refine box_event ?hg (N := 1) ?hd (cs := #[.int .i64 a0_0, .int .i64 a0_1, .bool a0_2, .int .i64 a0_3, .int .i64 a0_4, .int .i64 a0_5, .int .i64 a0_6, .bool a0_7, .slice A0_8 l0_8.length c0_8]) (t := 25) ?hr ?_; (case hd => rfl); (case hg => rfl); (case hr => first | (go_simp; done) | (go_simp; rfl)); intro gb101 hg w11 hbox hb; have n0_ := Aside0.mk (below_step (by repeat (first | (with_reducible first | exact HB.out | apply below_alloc | apply pw_below_drewN | apply below_drew1) | exact HB.out)) hb); have n1_ := Aside0.mk (hbox); have n2_ := Aside0.mk ((by rw [hg]; exact (below_size (by repeat (first | (with_reducible first | exact HB.out | apply below_alloc | apply pw_below_drewN | apply below_drew1) | exact HB.out))) : w.heap.size ≤ gb101)); have n3_ := Aside0.mk ((by rw [hg]; exact (below_size (by repeat (first | (with_reducible first | exact HB.out | apply below_alloc | apply pw_below_drewN | apply below_drew1) | exact HB.out))) : w.heap.size ≤ gb101)); clear HB; have HB := n0_; have BK101 := n1_; have GW101 := n2_; have GE101 := n3_; clear n0_ n1_ n2_ n3_; clear hb hbox hg; have hcz12_0 : w11.cell? ⟨gb101, 0, none⟩ = some (.int .i64 a0_0) := (blk_cell BK101.out 0).trans rfl; have hcz12_1 : w11.cell? ⟨gb101, 1, none⟩ = some (.int .i64 a0_1) := (blk_cell BK101.out 1).trans rfl; have hcz12_2 : w11.cell? ⟨gb101, 2, none⟩ = some (.bool a0_2) := (blk_cell BK101.out 2).trans rfl; have hcz12_3 : w11.cell? ⟨gb101, 3, none⟩ = some (.int .i64 a0_3) := (blk_cell BK101.out 3).trans rfl; have hcz12_4 : w11.cell? ⟨gb101, 4, none⟩ = some (.int .i64 a0_4) := (blk_cell BK101.out 4).trans rfl; have hcz12_5 : w11.cell? ⟨gb101, 5, none⟩ = some (.int .i64 a0_5) := (blk_cell BK101.out 5).trans rfl; have hcz12_6 : w11.cell? ⟨gb101, 6, none⟩ = some (.int .i64 a0_6) := (blk_cell BK101.out 6).trans rfl; have hcz12_7 : w11.cell? ⟨gb101, 7, none⟩ = some (.bool a0_7) := (blk_cell BK101.out 7).trans rfl; have hcz12_8 : w11.cell? ⟨gb101, 8, none⟩ = some (.slice A0_8 l0_8.length c0_8) := (blk_cell BK101.out 8).trans rfl; have hfz12_0 := blk_frozen BK101.out 0; have hfz12_1 := blk_frozen BK101.out 1; have hfz12_2 := blk_frozen BK101.out 2; have hfz12_3 := blk_frozen BK101.out 3; have hfz12_4 := blk_frozen BK101.out 4; have hfz12_5 := blk_frozen BK101.out 5; have hfz12_6 := blk_frozen BK101.out 6; have hfz12_7 := blk_frozen BK101.out 7; have hfz12_8 := blk_frozen BK101.out 8))
      have n0_ := Aside0.mk (blk_drew BK101.out)
      have n1_ := Aside0.mk (below_drew1 HB.out)
      clear BK101
      clear HB
      have BK101 := n0_
      have HB := n1_
      clear n0_ n1_
      refine start_ (n := 15) (S := fun w' => w'.cell? ⟨gb101, 0, none⟩ = some (.int .i64 a0_0) ∧ w'.cell? ⟨gb101, 1, none⟩ = some (.int .i64 a0_1) ∧ w'.cell? ⟨gb101, 2, none⟩ = some (.bool a0_2) ∧ w'.cell? ⟨gb101, 3, none⟩ = some (.int .i64 a0_3) ∧ w'.cell? ⟨gb101, 4, none⟩ = some (.int .i64 a0_4) ∧ w'.cell? ⟨gb101, 5, none⟩ = some (.int .i64 a0_5) ∧ w'.cell? ⟨gb101, 6, none⟩ = some (.int .i64 a0_6) ∧ w'.cell? ⟨gb101, 7, none⟩ = some (.bool a0_7) ∧ w'.cell? ⟨gb101, 8, none⟩ = some (.slice A0_8 l0_8.length c0_8)) (ds := []) #[false, false, false, false, false, false, false, false, false, false, false, false, false, false, false] (by kernel_rfl) rfl rfl ⟨(blk_cell BK101.out 0).trans rfl, (blk_cell BK101.out 1).trans rfl, (blk_cell BK101.out 2).trans rfl, (blk_cell BK101.out 3).trans rfl, (blk_cell BK101.out 4).trans rfl, (blk_cell BK101.out 5).trans rfl, (blk_cell BK101.out 6).trans rfl, (blk_cell BK101.out 7).trans rfl, (blk_cell BK101.out 8).trans rfl⟩ (fun hHeld => ?_); refine with_tabW antiphonref6_Control.tab5 antiphonref6_Control.bits5 (fun HT_ HW_ => ?_)
      generalize w11.drew = w13 at BK101 HB hHeld ⊢
      refine pure_ (i := 0) (N := some 22) (v := ?_) (a' := ?_) #[true, false, false, false, false, false, false, false, false, false, false, false, false, false, false] rfl rfl (any_of HT_.out (by kernel_rfl)) (fun _ _ _ h => h) (Or.inl ⟨by rfl, ?_⟩) ?_ ?_
      rotate_left
      · intro w'
        go_simp
        with_reducible rfl
      rotate_left
      · simp only [Act.put, List.setIfInBounds_toArray, List.set_cons_zero, List.set_cons_succ, i64_w, i32_w]
        rfl
      refine pure_ (i := 5) (N := some 27) (v := ?_) (a' := ?_) #[true, false, false, false, false, true, false, false, false, false, false, false, false, false, false] rfl rfl (any_of HT_.out (by kernel_rfl)) (fun _ _ _ h => h) (Or.inl ⟨by rfl, ?_⟩) ?_ ?_
      rotate_left
      · intro w'
        go_simp
        with_reducible rfl
      rotate_left
      · simp only [Act.put, List.setIfInBounds_toArray, List.set_cons_zero, List.set_cons_succ, i64_w, i32_w]
        rfl
      refine pure_ (i := 8) (N := some 30) (v := ?_) (a' := ?_) #[true, false, false, false, false, true, false, false, true, false, false, false, false, false, false] rfl rfl (any_of HT_.out (by kernel_rfl)) (fun _ _ _ h => h) (Or.inl ⟨by rfl, ?_⟩) ?_ ?_
      rotate_left
      · intro w'
        go_simp
        with_reducible rfl
      rotate_left
      · simp only [Act.put, List.setIfInBounds_toArray, List.set_cons_zero, List.set_cons_succ, i64_w, i32_w]
        rfl
      refine take_ (i := 1) (N := some 23) (v := ?_) (a' := ?_) #[true, true, false, false, false, true, false, false, true, false, false, false, false, false, false] rfl rfl (take_ofW HT_.out HW_.out (by kernel_rfl)) (fun _ _ _ h => h) (Or.inl ⟨by rfl, ?_⟩) hHeld ?_ ?_
      rotate_left
      · rintro w' ⟨s0, s1, s2, s3, s4, s5, s6, s7, s8⟩
        go_simp
        with_reducible rfl
      rotate_left
      · simp only [Act.put, List.setIfInBounds_toArray, List.set_cons_zero, List.set_cons_succ, i64_w, i32_w]
        rfl
      refine pure_ (i := 2) (N := some 24) (v := ?_) (a' := ?_) #[true, true, true, false, false, true, false, false, true, false, false, false, false, false, false] rfl rfl (any_of HT_.out (by kernel_rfl)) (fun _ _ _ h => h) (Or.inl ⟨by rfl, ?_⟩) ?_ ?_
      rotate_left
      · intro w'
        go_simp
        with_reducible rfl
      rotate_left
      · simp only [Act.put, List.setIfInBounds_toArray, List.set_cons_zero, List.set_cons_succ, i64_w, i32_w]
        rfl
      refine pure_ (i := 3) (N := some 25) (v := ?_) (a' := ?_) #[true, true, true, true, false, true, false, false, true, false, false, false, false, false, false] rfl rfl (any_of HT_.out (by kernel_rfl)) (fun _ _ _ h => h) (Or.inl ⟨by rfl, ?_⟩) ?_ ?_
      rotate_left
      · intro w'
        go_simp
        with_reducible rfl
      rotate_left
      · simp only [Act.put, List.setIfInBounds_toArray, List.set_cons_zero, List.set_cons_succ, i64_w, i32_w]
        rfl
      refine pure_ (i := 4) (N := some 26) (v := ?_) (a' := ?_) #[true, true, true, true, true, true, false, false, true, false, false, false, false, false, false] rfl rfl (any_of HT_.out (by kernel_rfl)) (fun _ _ _ h => h) (Or.inl ⟨by rfl, ?_⟩) ?_ ?_
      rotate_left
      · intro w'
        go_simp
        with_reducible rfl
      rotate_left
      · simp only [Act.put, List.setIfInBounds_toArray, List.set_cons_zero, List.set_cons_succ, i64_w, i32_w]
        rfl
      refine take_ (i := 6) (N := some 28) (v := ?_) (a' := ?_) #[true, true, true, true, true, true, true, false, true, false, false, false, false, false, false] rfl rfl (take_ofW HT_.out HW_.out (by kernel_rfl)) (fun _ _ _ h => h) (Or.inl ⟨by rfl, ?_⟩) hHeld ?_ ?_
      rotate_left
      · rintro w' ⟨s0, s1, s2, s3, s4, s5, s6, s7, s8⟩
        go_simp
        with_reducible rfl
      rotate_left
      · simp only [Act.put, List.setIfInBounds_toArray, List.set_cons_zero, List.set_cons_succ, i64_w, i32_w]
        rfl
      refine pure_ (i := 7) (N := some 29) (v := ?_) (a' := ?_) #[true, true, true, true, true, true, true, true, true, false, false, false, false, false, false] rfl rfl (any_of HT_.out (by kernel_rfl)) (fun _ _ _ h => h) (Or.inl ⟨by rfl, ?_⟩) ?_ ?_
      rotate_left
      · intro w'
        go_simp
        with_reducible rfl
      rotate_left
      · simp only [Act.put, List.setIfInBounds_toArray, List.set_cons_zero, List.set_cons_succ, i64_w, i32_w]
        rfl
      refine take_ (i := 9) (N := some 31) (v := ?_) (a' := ?_) #[true, true, true, true, true, true, true, true, true, true, false, false, false, false, false] rfl rfl (take_ofW HT_.out HW_.out (by kernel_rfl)) (fun _ _ _ h => h) (Or.inl ⟨by rfl, ?_⟩) hHeld ?_ ?_
      rotate_left
      · rintro w' ⟨s0, s1, s2, s3, s4, s5, s6, s7, s8⟩
        go_simp
        with_reducible rfl
      rotate_left
      · simp only [Act.put, List.setIfInBounds_toArray, List.set_cons_zero, List.set_cons_succ, i64_w, i32_w]
        rfl
      refine one_ (i := 10) (N := some 32) #[true, true, true, true, true, true, true, true, true, true, true, false, false, false, false] rfl rfl (one_of HT_.out (by kernel_rfl)) (by decide) (fun K hK => ?_)
      refine goes_ Try.func92 (by kernel_rfl) rfl #[.bool a0_7] (by rfl) rfl rfl (by (try simp only [List.map_toArray, List.map_cons, List.map_nil]); first | done | rfl | (simp only [List.length_drop, List.length_take]; rfl)) ?_
      with_reducible refine (antiphonref6_flag.calls a0_7 t106 _ A10.out).mono ?_
      rintro e w' ⟨rfl, ⟨nd, rfl⟩⟩
      refine ⟨_, rfl, ?_⟩
      refine hK.out _ _ ⟨(blk_cell BK101.out 0).trans rfl, (blk_cell BK101.out 1).trans rfl, (blk_cell BK101.out 2).trans rfl, (blk_cell BK101.out 3).trans rfl, (blk_cell BK101.out 4).trans rfl, (blk_cell BK101.out 5).trans rfl, (blk_cell BK101.out 6).trans rfl, (blk_cell BK101.out 7).trans rfl, (blk_cell BK101.out 8).trans rfl⟩ (fun hHeld => ?_)
      clear hK K
      refine norm_ (a' := ?_) ?_ ?_
      rotate_left
      · show Act.put _ (some 32) _ = _
        simp only [Act.put, List.setIfInBounds_toArray, List.set_cons_zero, List.set_cons_succ, i64_w, i32_w]
        rfl
      refine pure_ (i := 11) (N := some 33) (v := ?_) (a' := ?_) #[true, true, true, true, true, true, true, true, true, true, true, true, false, false, false] rfl rfl (any_of HT_.out (by kernel_rfl)) (fun _ _ _ h => h) (Or.inl ⟨by rfl, ?_⟩) ?_ ?_
      rotate_left
      · intro w'
        go_simp
        with_reducible rfl
      rotate_left
      · simp only [Act.put, List.setIfInBounds_toArray, List.set_cons_zero, List.set_cons_succ, i64_w, i32_w]
        rfl
      refine pure_ (i := 12) (N := some 34) (v := ?_) (a' := ?_) #[true, true, true, true, true, true, true, true, true, true, true, true, true, false, false] rfl rfl (any_of HT_.out (by kernel_rfl)) (fun _ _ _ h => h) (Or.inl ⟨by rfl, ?_⟩) ?_ ?_
      rotate_left
      · intro w'
        go_simp
        with_reducible rfl
      rotate_left
      · simp only [Act.put, List.setIfInBounds_toArray, List.set_cons_zero, List.set_cons_succ, i64_w, i32_w]
        rfl
      refine one_ (i := 13) (N := some 35) #[true, true, true, true, true, true, true, true, true, true, true, true, true, true, false] rfl rfl (one_of HT_.out (by kernel_rfl)) (by decide) (fun K hK => ?_)
      refine Kd.R_lit_step (Kd.int .u8) _ 5 ?hg (N := 35) ?hd (xs := ([(wrap64 (1 + (wrap64 (4 * a0_4)))) % 256, (wrap64 ((wrap64 (2 * a0_6)) + t106)) % 256] : List Int)) (inner := [.int .u8 ((wrap64 (1 + (wrap64 (4 * a0_4)))) % 256), .int .u8 ((wrap64 ((wrap64 (2 * a0_6)) + t106)) % 256)]) (ok := fun _ => True) (okp := fun _ => True) ?hr ?hp (fun _ hk => hk) trivial (Below.refl _ _) (Nat.le_refl _) (by simp) ?_; (case hd => rfl); (case hg => rfl); (case hr => first | (go_simp; done) | (go_simp; rfl)); (case hp => exact (Reps.one (show Kd.M (Kd.int .u8) _ _ _ ((wrap64 (1 + (wrap64 (4 * a0_4)))) % 256) [.int .u8 ((wrap64 (1 + (wrap64 (4 * a0_4)))) % 256)] from rfl) (Reps.one (show Kd.M (Kd.int .u8) _ _ _ ((wrap64 ((wrap64 (2 * a0_6)) + t106)) % 256) [.int .u8 ((wrap64 ((wrap64 (2 * a0_6)) + t106)) % 256)] from rfl) (Reps.none _ _))))
      intro v108 w14 ho15 hb hg_ hnew_
      clear hg_ hnew_
      (first | rw [← Ny107.out] at ho15 | (simp only [Int.reduceToNat] at ho15; rw [← Ny107.out] at ho15))
      have n0_ := Aside0.mk (Kd.R_lower ho15 (below_size (by repeat (first | (with_reducible first | exact HB.out | apply below_alloc | apply pw_below_drewN | apply below_drew1 | refine below_set ?_ GE101.out) | exact HB.out))))
      have n1_ := Aside0.mk (blk_below (g := gb101) (o := .cells #[.int .i64 a0_0, .int .i64 a0_1, .bool a0_2, .int .i64 a0_3, .int .i64 a0_4, .int .i64 a0_5, .int .i64 a0_6, .bool a0_7, .slice A0_8 l0_8.length c0_8] 25 (0, 0)) (by (with_reducible repeat (first | refine blk_drewN ?_ _ | refine blk_drew ?_ | refine blk_alloc ?_ _)); exact BK101.out) hb)
      have n2_ := Aside0.mk (below_step (by repeat (first | (with_reducible first | exact HB.out | apply below_alloc | apply pw_below_drewN | apply below_drew1 | refine below_set ?_ GE101.out) | exact HB.out)) hb)
      clear BK101
      clear HB
      have HO109 := n0_
      have BK101 := n1_
      have HB := n2_
      clear n0_ n1_ n2_
      clear hb ho15
      refine hK.out _ _ ⟨(blk_cell BK101.out 0).trans rfl, (blk_cell BK101.out 1).trans rfl, (blk_cell BK101.out 2).trans rfl, (blk_cell BK101.out 3).trans rfl, (blk_cell BK101.out 4).trans rfl, (blk_cell BK101.out 5).trans rfl, (blk_cell BK101.out 6).trans rfl, (blk_cell BK101.out 7).trans rfl, (blk_cell BK101.out 8).trans rfl⟩ (fun hHeld => ?_)
      clear hK K
      refine norm_ (a' := ?_) ?_ ?_
      rotate_left
      · show Act.put _ (some 35) _ = _
        simp only [Act.put, List.setIfInBounds_toArray, List.set_cons_zero, List.set_cons_succ, i64_w, i32_w]
        rfl
      refine pure_ (i := 14) (N := some 2) (v := ?_) (a' := ?_) #[true, true, true, true, true, true, true, true, true, true, true, true, true, true, true] rfl rfl (any_of HT_.out (by kernel_rfl)) (fun _ _ _ h => h) (Or.inl ⟨by rfl, ?_⟩) ?_ ?_
      rotate_left
      · intro w'
        go_simp
        with_reducible rfl
      rotate_left
      · simp only [Act.put, List.setIfInBounds_toArray, List.set_cons_zero, List.set_cons_succ, i64_w, i32_w]
        rfl
      refine done_ (done_of HT_.out (by kernel_rfl)) ?_
      try go_wp2
      go_ret
      exact ⟨_, by first | rfl | (simp [errW_none, errW_some] <;> rfl) | (simp [*, errW_none, errW_some] <;> rfl), by (with_reducible repeat (first | apply Kd.R_alloc | apply Kd.R_drewN | apply Kd.R_drew)); exact HO109.out, by repeat (first | (with_reducible first | exact HB.out | apply below_alloc | apply pw_below_drewN | apply below_drew1 | refine below_set ?_ GE101.out) | exact HB.out)⟩
    · rw [if_neg c9] at H
      have c9b0 : (a0_3 == 1) = false := beq_eq_false_iff_ne.mpr c9
      have c9b1 : (a0_3 != 1) = true := bne_iff_ne.mpr c9
      replace H := Option.bind_eq_some_iff.mp H
      obtain ⟨t110, A160, H⟩ := H
      replace H : ((antiphonref6_flag.f a0_7).bind fun t111 => (some (([(wrap64 (t110 + (wrap64 (16 * t111)))) % 256] : List Int)))) = some r := H
      have A16 := Aside0.mk A160
      clear A160
      replace H := Option.bind_eq_some_iff.mp H
      obtain ⟨t111, A170, H⟩ := H
      replace H : (some (([(wrap64 (t110 + (wrap64 (16 * t111)))) % 256] : List Int))) = some r := H
      have A17 := Aside0.mk A170
      clear A170
      obtain ⟨y112, hy112⟩ : ∃ y_ : List Int, y_ = (([(wrap64 (t110 + (wrap64 (16 * t111)))) % 256] : List Int)) := ⟨_, rfl⟩
      replace H : (some y112) = some r := by first | (rw [hy112]; with_reducible exact H) | (have H2_ := (Option.bind_some _ _).symm.trans H; rw [hy112]; with_reducible exact H2_) | (have H2_ := (Option.bind_some _ _).symm.trans H; with_reducible exact H2_) | with_reducible exact H | (rw [hy112]; exact H) | exact H
      have Ny112 := Aside0.mk hy112
      clear hy112
      obtain rfl := Option.some.inj H
      go_enter Try.func93, Try.ntmps93
      try go_wp2_with (first | ((with_reducible refine gate_dst (N := 1) rfl ?_); refine box_event ?hg (N := 1) ?hd (cs := #[.int .i64 a0_0, .int .i64 a0_1, .bool a0_2, .int .i64 a0_3, .int .i64 a0_4, .int .i64 a0_5, .int .i64 a0_6, .bool a0_7, .slice A0_8 l0_8.length c0_8]) (t := 25) ?hr ?_; (case hd => rfl); (case hg => rfl); (case hr => first | (go_simp; done) | (go_simp; rfl)); intro gb101 hg w18 hbox hb; have n0_ := Aside0.mk (below_step (by repeat (first | (with_reducible first | exact HB.out | apply below_alloc | apply pw_below_drewN | apply below_drew1) | exact HB.out)) hb); have n1_ := Aside0.mk (hbox); have n2_ := Aside0.mk ((by rw [hg]; exact (below_size (by repeat (first | (with_reducible first | exact HB.out | apply below_alloc | apply pw_below_drewN | apply below_drew1) | exact HB.out))) : w.heap.size ≤ gb101)); have n3_ := Aside0.mk ((by rw [hg]; exact (below_size (by repeat (first | (with_reducible first | exact HB.out | apply below_alloc | apply pw_below_drewN | apply below_drew1) | exact HB.out))) : w.heap.size ≤ gb101)); clear HB; have HB := n0_; have BK101 := n1_; have GW101 := n2_; have GE101 := n3_; clear n0_ n1_ n2_ n3_; clear hb hbox hg; have hcz19_0 : w18.cell? ⟨gb101, 0, none⟩ = some (.int .i64 a0_0) := (blk_cell BK101.out 0).trans rfl; have hcz19_1 : w18.cell? ⟨gb101, 1, none⟩ = some (.int .i64 a0_1) := (blk_cell BK101.out 1).trans rfl; have hcz19_2 : w18.cell? ⟨gb101, 2, none⟩ = some (.bool a0_2) := (blk_cell BK101.out 2).trans rfl; have hcz19_3 : w18.cell? ⟨gb101, 3, none⟩ = some (.int .i64 a0_3) := (blk_cell BK101.out 3).trans rfl; have hcz19_4 : w18.cell? ⟨gb101, 4, none⟩ = some (.int .i64 a0_4) := (blk_cell BK101.out 4).trans rfl; have hcz19_5 : w18.cell? ⟨gb101, 5, none⟩ = some (.int .i64 a0_5) := (blk_cell BK101.out 5).trans rfl; have hcz19_6 : w18.cell? ⟨gb101, 6, none⟩ = some (.int .i64 a0_6) := (blk_cell BK101.out 6).trans rfl; have hcz19_7 : w18.cell? ⟨gb101, 7, none⟩ = some (.bool a0_7) := (blk_cell BK101.out 7).trans rfl; have hcz19_8 : w18.cell? ⟨gb101, 8, none⟩ = some (.slice A0_8 l0_8.length c0_8) := (blk_cell BK101.out 8).trans rfl; have hfz19_0 := blk_frozen BK101.out 0; have hfz19_1 := blk_frozen BK101.out 1; have hfz19_2 := blk_frozen BK101.out 2; have hfz19_3 := blk_frozen BK101.out 3; have hfz19_4 := blk_frozen BK101.out 4; have hfz19_5 := blk_frozen BK101.out 5; have hfz19_6 := blk_frozen BK101.out 6; have hfz19_7 := blk_frozen BK101.out 7; have hfz19_8 := blk_frozen BK101.out 8))
      have n0_ := Aside0.mk (blk_drew BK101.out)
      have n1_ := Aside0.mk (below_drew1 HB.out)
      clear BK101
      clear HB
      have BK101 := n0_
      have HB := n1_
      clear n0_ n1_
      refine start_ (n := 11) (S := fun w' => w'.cell? ⟨gb101, 0, none⟩ = some (.int .i64 a0_0) ∧ w'.cell? ⟨gb101, 1, none⟩ = some (.int .i64 a0_1) ∧ w'.cell? ⟨gb101, 2, none⟩ = some (.bool a0_2) ∧ w'.cell? ⟨gb101, 3, none⟩ = some (.int .i64 a0_3) ∧ w'.cell? ⟨gb101, 4, none⟩ = some (.int .i64 a0_4) ∧ w'.cell? ⟨gb101, 5, none⟩ = some (.int .i64 a0_5) ∧ w'.cell? ⟨gb101, 6, none⟩ = some (.int .i64 a0_6) ∧ w'.cell? ⟨gb101, 7, none⟩ = some (.bool a0_7) ∧ w'.cell? ⟨gb101, 8, none⟩ = some (.slice A0_8 l0_8.length c0_8)) (ds := []) #[false, false, false, false, false, false, false, false, false, false, false] (by kernel_rfl) rfl rfl ⟨(blk_cell BK101.out 0).trans rfl, (blk_cell BK101.out 1).trans rfl, (blk_cell BK101.out 2).trans rfl, (blk_cell BK101.out 3).trans rfl, (blk_cell BK101.out 4).trans rfl, (blk_cell BK101.out 5).trans rfl, (blk_cell BK101.out 6).trans rfl, (blk_cell BK101.out 7).trans rfl, (blk_cell BK101.out 8).trans rfl⟩ (fun hHeld => ?_); refine with_tabW antiphonref6_Control.tab6 antiphonref6_Control.bits6 (fun HT_ HW_ => ?_)
      generalize w18.drew = w20 at BK101 HB hHeld ⊢
      refine pure_ (i := 0) (N := some 36) (v := ?_) (a' := ?_) #[true, false, false, false, false, false, false, false, false, false, false] rfl rfl (any_of HT_.out (by kernel_rfl)) (fun _ _ _ h => h) (Or.inl ⟨by rfl, ?_⟩) ?_ ?_
      rotate_left
      · intro w'
        go_simp
        with_reducible rfl
      rotate_left
      · simp only [Act.put, List.setIfInBounds_toArray, List.set_cons_zero, List.set_cons_succ, i64_w, i32_w]
        rfl
      refine pure_ (i := 3) (N := some 39) (v := ?_) (a' := ?_) #[true, false, false, true, false, false, false, false, false, false, false] rfl rfl (any_of HT_.out (by kernel_rfl)) (fun _ _ _ h => h) (Or.inl ⟨by rfl, ?_⟩) ?_ ?_
      rotate_left
      · intro w'
        go_simp
        with_reducible rfl
      rotate_left
      · simp only [Act.put, List.setIfInBounds_toArray, List.set_cons_zero, List.set_cons_succ, i64_w, i32_w]
        rfl
      refine take_ (i := 1) (N := some 37) (v := ?_) (a' := ?_) #[true, true, false, true, false, false, false, false, false, false, false] rfl rfl (take_ofW HT_.out HW_.out (by kernel_rfl)) (fun _ _ _ h => h) (Or.inl ⟨by rfl, ?_⟩) hHeld ?_ ?_
      rotate_left
      · rintro w' ⟨s0, s1, s2, s3, s4, s5, s6, s7, s8⟩
        go_simp
        with_reducible rfl
      rotate_left
      · simp only [Act.put, List.setIfInBounds_toArray, List.set_cons_zero, List.set_cons_succ, i64_w, i32_w]
        rfl
      refine take_ (i := 4) (N := some 40) (v := ?_) (a' := ?_) #[true, true, false, true, true, false, false, false, false, false, false] rfl rfl (take_ofW HT_.out HW_.out (by kernel_rfl)) (fun _ _ _ h => h) (Or.inl ⟨by rfl, ?_⟩) hHeld ?_ ?_
      rotate_left
      · rintro w' ⟨s0, s1, s2, s3, s4, s5, s6, s7, s8⟩
        go_simp
        with_reducible rfl
      rotate_left
      · simp only [Act.put, List.setIfInBounds_toArray, List.set_cons_zero, List.set_cons_succ, i64_w, i32_w]
        rfl
      refine one_ (i := 2) (N := some 38) #[true, true, true, true, true, false, false, false, false, false, false] rfl rfl (one_of HT_.out (by kernel_rfl)) (by decide) (fun K hK => ?_)
      refine goes_ Try.func38 (by kernel_rfl) rfl #[.int .i64 a0_4] (by rfl) rfl rfl (by (try simp only [List.map_toArray, List.map_cons, List.map_nil]); first | done | rfl | (simp only [List.length_drop, List.length_take]; rfl)) ?_
      with_reducible refine (antiphonref6_Code.calls a0_4 t110 _ A16.out).mono ?_
      rintro e w21 ⟨rfl, hb⟩
      refine ⟨_, rfl, ?_⟩
      have n0_ := Aside0.mk (blk_below (g := gb101) (o := .cells #[.int .i64 a0_0, .int .i64 a0_1, .bool a0_2, .int .i64 a0_3, .int .i64 a0_4, .int .i64 a0_5, .int .i64 a0_6, .bool a0_7, .slice A0_8 l0_8.length c0_8] 25 (0, 0)) (by (with_reducible repeat (first | refine blk_drewN ?_ _ | refine blk_drew ?_ | refine blk_alloc ?_ _)); exact BK101.out) hb)
      have n1_ := Aside0.mk (below_step (by repeat (first | (with_reducible first | exact HB.out | apply below_alloc | apply pw_below_drewN | apply below_drew1 | refine below_set ?_ GE101.out) | exact HB.out)) hb)
      clear BK101
      clear HB
      have BK101 := n0_
      have HB := n1_
      clear n0_ n1_
      (try clear hb)
      (try clear hb2)
      (try clear hk)
      (try clear hi)
      refine hK.out _ _ ⟨(blk_cell BK101.out 0).trans rfl, (blk_cell BK101.out 1).trans rfl, (blk_cell BK101.out 2).trans rfl, (blk_cell BK101.out 3).trans rfl, (blk_cell BK101.out 4).trans rfl, (blk_cell BK101.out 5).trans rfl, (blk_cell BK101.out 6).trans rfl, (blk_cell BK101.out 7).trans rfl, (blk_cell BK101.out 8).trans rfl⟩ (fun hHeld => ?_)
      clear hK K
      refine norm_ (a' := ?_) ?_ ?_
      rotate_left
      · show Act.put _ (some 38) _ = _
        simp only [Act.put, List.setIfInBounds_toArray, List.set_cons_zero, List.set_cons_succ, i64_w, i32_w]
        rfl
      refine one_ (i := 5) (N := some 41) #[true, true, true, true, true, true, false, false, false, false, false] rfl rfl (one_of HT_.out (by kernel_rfl)) (by decide) (fun K hK => ?_)
      refine goes_ Try.func92 (by kernel_rfl) rfl #[.bool a0_7] (by rfl) rfl rfl (by (try simp only [List.map_toArray, List.map_cons, List.map_nil]); first | done | rfl | (simp only [List.length_drop, List.length_take]; rfl)) ?_
      with_reducible refine (antiphonref6_flag.calls a0_7 t111 _ A17.out).mono ?_
      rintro e w' ⟨rfl, ⟨nd, rfl⟩⟩
      refine ⟨_, rfl, ?_⟩
      refine hK.out _ _ ⟨(blk_cell BK101.out 0).trans rfl, (blk_cell BK101.out 1).trans rfl, (blk_cell BK101.out 2).trans rfl, (blk_cell BK101.out 3).trans rfl, (blk_cell BK101.out 4).trans rfl, (blk_cell BK101.out 5).trans rfl, (blk_cell BK101.out 6).trans rfl, (blk_cell BK101.out 7).trans rfl, (blk_cell BK101.out 8).trans rfl⟩ (fun hHeld => ?_)
      clear hK K
      refine norm_ (a' := ?_) ?_ ?_
      rotate_left
      · show Act.put _ (some 41) _ = _
        simp only [Act.put, List.setIfInBounds_toArray, List.set_cons_zero, List.set_cons_succ, i64_w, i32_w]
        rfl
      refine pure_ (i := 6) (N := some 42) (v := ?_) (a' := ?_) #[true, true, true, true, true, true, true, false, false, false, false] rfl rfl (any_of HT_.out (by kernel_rfl)) (fun _ _ _ h => h) (Or.inl ⟨by rfl, ?_⟩) ?_ ?_
      rotate_left
      · intro w'
        go_simp
        with_reducible rfl
      rotate_left
      · simp only [Act.put, List.setIfInBounds_toArray, List.set_cons_zero, List.set_cons_succ, i64_w, i32_w]
        rfl
      refine pure_ (i := 7) (N := some 43) (v := ?_) (a' := ?_) #[true, true, true, true, true, true, true, true, false, false, false] rfl rfl (any_of HT_.out (by kernel_rfl)) (fun _ _ _ h => h) (Or.inl ⟨by rfl, ?_⟩) ?_ ?_
      rotate_left
      · intro w'
        go_simp
        with_reducible rfl
      rotate_left
      · simp only [Act.put, List.setIfInBounds_toArray, List.set_cons_zero, List.set_cons_succ, i64_w, i32_w]
        rfl
      refine pure_ (i := 8) (N := some 44) (v := ?_) (a' := ?_) #[true, true, true, true, true, true, true, true, true, false, false] rfl rfl (any_of HT_.out (by kernel_rfl)) (fun _ _ _ h => h) (Or.inl ⟨by rfl, ?_⟩) ?_ ?_
      rotate_left
      · intro w'
        go_simp
        with_reducible rfl
      rotate_left
      · simp only [Act.put, List.setIfInBounds_toArray, List.set_cons_zero, List.set_cons_succ, i64_w, i32_w]
        rfl
      refine one_ (i := 9) (N := some 45) #[true, true, true, true, true, true, true, true, true, true, false] rfl rfl (one_of HT_.out (by kernel_rfl)) (by decide) (fun K hK => ?_)
      refine Kd.R_lit_step (Kd.int .u8) _ 5 ?hg (N := 45) ?hd (xs := ([(wrap64 (t110 + (wrap64 (16 * t111)))) % 256] : List Int)) (inner := [.int .u8 ((wrap64 (t110 + (wrap64 (16 * t111)))) % 256)]) (ok := fun _ => True) (okp := fun _ => True) ?hr ?hp (fun _ hk => hk) trivial (Below.refl _ _) (Nat.le_refl _) (by simp) ?_; (case hd => rfl); (case hg => rfl); (case hr => first | (go_simp; done) | (go_simp; rfl)); (case hp => exact (Reps.one (show Kd.M (Kd.int .u8) _ _ _ ((wrap64 (t110 + (wrap64 (16 * t111)))) % 256) [.int .u8 ((wrap64 (t110 + (wrap64 (16 * t111)))) % 256)] from rfl) (Reps.none _ _)))
      intro v113 w22 ho23 hb hg_ hnew_
      clear hg_ hnew_
      (first | rw [← Ny112.out] at ho23 | (simp only [Int.reduceToNat] at ho23; rw [← Ny112.out] at ho23))
      have n0_ := Aside0.mk (Kd.R_lower ho23 (below_size (by repeat (first | (with_reducible first | exact HB.out | apply below_alloc | apply pw_below_drewN | apply below_drew1 | refine below_set ?_ GE101.out) | exact HB.out))))
      have n1_ := Aside0.mk (blk_below (g := gb101) (o := .cells #[.int .i64 a0_0, .int .i64 a0_1, .bool a0_2, .int .i64 a0_3, .int .i64 a0_4, .int .i64 a0_5, .int .i64 a0_6, .bool a0_7, .slice A0_8 l0_8.length c0_8] 25 (0, 0)) (by (with_reducible repeat (first | refine blk_drewN ?_ _ | refine blk_drew ?_ | refine blk_alloc ?_ _)); exact BK101.out) hb)
      have n2_ := Aside0.mk (below_step (by repeat (first | (with_reducible first | exact HB.out | apply below_alloc | apply pw_below_drewN | apply below_drew1 | refine below_set ?_ GE101.out) | exact HB.out)) hb)
      clear BK101
      clear HB
      have HO114 := n0_
      have BK101 := n1_
      have HB := n2_
      clear n0_ n1_ n2_
      clear hb ho23
      refine hK.out _ _ ⟨(blk_cell BK101.out 0).trans rfl, (blk_cell BK101.out 1).trans rfl, (blk_cell BK101.out 2).trans rfl, (blk_cell BK101.out 3).trans rfl, (blk_cell BK101.out 4).trans rfl, (blk_cell BK101.out 5).trans rfl, (blk_cell BK101.out 6).trans rfl, (blk_cell BK101.out 7).trans rfl, (blk_cell BK101.out 8).trans rfl⟩ (fun hHeld => ?_)
      clear hK K
      refine norm_ (a' := ?_) ?_ ?_
      rotate_left
      · show Act.put _ (some 45) _ = _
        simp only [Act.put, List.setIfInBounds_toArray, List.set_cons_zero, List.set_cons_succ, i64_w, i32_w]
        rfl
      refine pure_ (i := 10) (N := some 2) (v := ?_) (a' := ?_) #[true, true, true, true, true, true, true, true, true, true, true] rfl rfl (any_of HT_.out (by kernel_rfl)) (fun _ _ _ h => h) (Or.inl ⟨by rfl, ?_⟩) ?_ ?_
      rotate_left
      · intro w'
        go_simp
        with_reducible rfl
      rotate_left
      · simp only [Act.put, List.setIfInBounds_toArray, List.set_cons_zero, List.set_cons_succ, i64_w, i32_w]
        rfl
      refine done_ (done_of HT_.out (by kernel_rfl)) ?_
      try go_wp2
      go_ret
      exact ⟨_, by first | rfl | (simp [errW_none, errW_some] <;> rfl) | (simp [*, errW_none, errW_some] <;> rfl), by (with_reducible repeat (first | apply Kd.R_alloc | apply Kd.R_drewN | apply Kd.R_drew)); exact HO114.out, by repeat (first | (with_reducible first | exact HB.out | apply below_alloc | apply pw_below_drewN | apply below_drew1 | refine below_set ?_ GE101.out) | exact HB.out)⟩
end Go.Proofs.Ytnmcoebjkfpmjaa.P
/-! Px33 -/
namespace Go.Proofs.Ytnmcoebjkfpmjaa.P
open Go.RowKit Go.Proofs.YtnmcoebjkfpmjaaW.PrintWords Go.Proofs.YtnmcoebjkfpmjaaW.PrintLast Go.Proofs.YtnmcoebjkfpmjaaW.PrintMore
attribute [local go_sem] max2_int min2_int max_two min_two max_three min_three max_four min_four   -- for this text's walks alone
set_option linter.unusedVariables false
set_option linter.unusedSimpArgs false
def antiphonref6_Encode.f (k : Nat) (a0_0 : Int) (a0_1 : Int) (a0_2 : Bool) (a0_3 : Int) (a0_4 : Int) (a0_5 : Int) (a0_6 : Int) (a0_7 : Bool) (l0_8 : List Int) : Option (List Int × Int) := (antiphonref6_May.f k a0_0 a0_1 a0_2 a0_3 a0_4 a0_5 a0_6 a0_7 l0_8).bind fun t102 => (if t102 = true then ((antiphonref6_flag.f a0_2).bind fun t103 => ((some (([(a0_0) % 256, (wrap64 (a0_1 + t103)) % 256] : List Int) : List Int)).bind fun y104 => ((antiphonref6_Control.f a0_0 a0_1 a0_2 a0_3 a0_4 a0_5 a0_6 a0_7 l0_8).bind fun t107 => (if y104.length + t107.length < 140737488355328 then ((some (y104 ++ t107 : List Int)).bind fun y110 => (if y110.length + l0_8.length < 140737488355328 then (some ((y110 ++ l0_8), 0)) else (none))) else (none))))) else (some (([] : List Int), 1)))
def antiphonref6_Encode.T3 : Bool × List (List Nat × List Nat) := (true, [([], []), ([0], [0]), ([1], [1]), ([], []), ([3], [3]), ([], []), ([5], [5]), ([6], [6]), ([4, 7], [4, 7]), ([8], [8]), ([2, 9], [2, 9]), ([10, 7, 0, 1, 2, 3, 4, 5, 6, 7, 8, 9, 10], [10])])
def antiphonref6_Encode.B3 : List Nat := [0, 1, 3, 0, 8, 0, 32, 96, 248, 504, 1023, 2047]
theorem antiphonref6_Encode.tab3 : rtab .any (opsOf Try.f32 3) = antiphonref6_Encode.T3 := by kernel_rfl
theorem antiphonref6_Encode.bits3 : waitsOk antiphonref6_Encode.T3.2 antiphonref6_Encode.B3 = true := by kernel_rfl
set_option maxHeartbeats 8000000 in
set_option maxRecDepth 100000 in
theorem antiphonref6_Encode.calls (k : Nat) (a0_0 : Int) (a0_1 : Int) (a0_2 : Bool) (a0_3 : Int) (a0_4 : Int) (a0_5 : Int) (a0_6 : Int) (a0_7 : Bool) (A0_8 : Option Addr) (c0_8 : Nat) (l0_8 : List Int) (r1 : List Int) (r2 : Int) (w : World) (hr0_8 : Kd.C (Kd.int .u8) w A0_8 l0_8.length l0_8) (hc0_8 : l0_8.length ≤ c0_8) (h : antiphonref6_Encode.f k a0_0 a0_1 a0_2 a0_3 a0_4 a0_5 a0_6 a0_7 l0_8 = some (r1, r2)) :
    Calls Try.prog 32 #[.agg #[.int .i64 a0_0, .int .i64 a0_1, .bool a0_2, .int .i64 a0_3, .int .i64 a0_4, .int .i64 a0_5, .int .i64 a0_6, .bool a0_7, .slice A0_8 l0_8.length c0_8]] w fun e w' => ∃ v0_ : Value, e = .returned (.tuple #[v0_, .int .i64 r2]) ∧ Kd.R (Kd.int .u8) 5 w' w.heap.size (fun _ => True) v0_ r1 ∧ Below w.heap.size w w' := by
  have hu25 := Try.underlying25
  have HR0_8 := Aside0.mk hr0_8
  have HC0_8 := Aside0.mk hc0_8
  clear hr0_8 hc0_8
  have HB := Aside0.mk (Below.refl w.heap.size w)
  have H : ((antiphonref6_May.f k a0_0 a0_1 a0_2 a0_3 a0_4 a0_5 a0_6 a0_7 l0_8).bind fun t102 => (if t102 = true then ((antiphonref6_flag.f a0_2).bind fun t103 => ((some (([(a0_0) % 256, (wrap64 (a0_1 + t103)) % 256] : List Int) : List Int)).bind fun y104 => ((antiphonref6_Control.f a0_0 a0_1 a0_2 a0_3 a0_4 a0_5 a0_6 a0_7 l0_8).bind fun t107 => (if y104.length + t107.length < 140737488355328 then ((some (y104 ++ t107 : List Int)).bind fun y110 => (if y110.length + l0_8.length < 140737488355328 then (some ((y110 ++ l0_8), 0)) else (none))) else (none))))) else (some (([] : List Int), 1)))) = some (r1, r2) := h
  clear h
  replace H := Option.bind_eq_some_iff.mp H
  obtain ⟨t102, A20, H⟩ := H
  replace H : (if t102 = true then ((antiphonref6_flag.f a0_2).bind fun t103 => ((some (([(a0_0) % 256, (wrap64 (a0_1 + t103)) % 256] : List Int) : List Int)).bind fun y104 => ((antiphonref6_Control.f a0_0 a0_1 a0_2 a0_3 a0_4 a0_5 a0_6 a0_7 l0_8).bind fun t107 => (if y104.length + t107.length < 140737488355328 then ((some (y104 ++ t107 : List Int)).bind fun y110 => (if y110.length + l0_8.length < 140737488355328 then (some ((y110 ++ l0_8), 0)) else (none))) else (none))))) else (some (([] : List Int), 1))) = some (r1, r2) := H
  have A2 := Aside0.mk A20
  clear A20
  by_cases c3 : t102 = true
  · subst c3
    have H1 : ((antiphonref6_flag.f a0_2).bind fun t103 => ((some (([(a0_0) % 256, (wrap64 (a0_1 + t103)) % 256] : List Int) : List Int)).bind fun y104 => ((antiphonref6_Control.f a0_0 a0_1 a0_2 a0_3 a0_4 a0_5 a0_6 a0_7 l0_8).bind fun t107 => (if y104.length + t107.length < 140737488355328 then ((some (y104 ++ t107 : List Int)).bind fun y110 => (if y110.length + l0_8.length < 140737488355328 then (some ((y110 ++ l0_8), 0)) else (none))) else (none))))) = some (r1, r2) := by rw [if_pos rfl] at H; exact H
    clear H
    have H := H1
    clear H1
    replace H := Option.bind_eq_some_iff.mp H
    obtain ⟨t103, A40, H⟩ := H
    replace H : ((some (([(a0_0) % 256, (wrap64 (a0_1 + t103)) % 256] : List Int) : List Int)).bind fun y104 => ((antiphonref6_Control.f a0_0 a0_1 a0_2 a0_3 a0_4 a0_5 a0_6 a0_7 l0_8).bind fun t107 => (if y104.length + t107.length < 140737488355328 then ((some (y104 ++ t107 : List Int)).bind fun y110 => (if y110.length + l0_8.length < 140737488355328 then (some ((y110 ++ l0_8), 0)) else (none))) else (none)))) = some (r1, r2) := H
    have A4 := Aside0.mk A40
    clear A40
    obtain ⟨y104, hy104⟩ : ∃ y_ : List Int, y_ = (([(a0_0) % 256, (wrap64 (a0_1 + t103)) % 256] : List Int)) := ⟨_, rfl⟩
    replace H : ((antiphonref6_Control.f a0_0 a0_1 a0_2 a0_3 a0_4 a0_5 a0_6 a0_7 l0_8).bind fun t107 => (if y104.length + t107.length < 140737488355328 then ((some (y104 ++ t107 : List Int)).bind fun y110 => (if y110.length + l0_8.length < 140737488355328 then (some ((y110 ++ l0_8), 0)) else (none))) else (none))) = some (r1, r2) := by first | (rw [hy104]; with_reducible exact H) | (have H2_ := (Option.bind_some _ _).symm.trans H; rw [hy104]; with_reducible exact H2_) | (have H2_ := (Option.bind_some _ _).symm.trans H; with_reducible exact H2_) | with_reducible exact H | (rw [hy104]; exact H) | exact H
    have Ny104 := Aside0.mk hy104
    clear hy104
    replace H := Option.bind_eq_some_iff.mp H
    obtain ⟨t107, A50, H⟩ := H
    replace H : (if y104.length + t107.length < 140737488355328 then ((some (y104 ++ t107 : List Int)).bind fun y110 => (if y110.length + l0_8.length < 140737488355328 then (some ((y110 ++ l0_8), 0)) else (none))) else (none)) = some (r1, r2) := H
    have A5 := Aside0.mk A50
    clear A50
    by_cases c6 : y104.length + t107.length < 140737488355328
    · rw [if_pos c6] at H
      have LMc6 := Aside0.mk c6
      clear c6
      obtain ⟨y110, hy110⟩ : ∃ y_ : List Int, y_ = (y104 ++ t107) := ⟨_, rfl⟩
      replace H : (if y110.length + l0_8.length < 140737488355328 then (some ((y110 ++ l0_8), 0)) else (none)) = some (r1, r2) := by first | (rw [hy110]; with_reducible exact H) | (have H2_ := (Option.bind_some _ _).symm.trans H; rw [hy110]; with_reducible exact H2_) | (have H2_ := (Option.bind_some _ _).symm.trans H; with_reducible exact H2_) | with_reducible exact H | (rw [hy110]; exact H) | exact H
      have Ny110 := Aside0.mk hy110
      clear hy110
      by_cases c7 : y110.length + l0_8.length < 140737488355328
      · rw [if_pos c7] at H
        have LMc7 := Aside0.mk c7
        clear c7
        obtain ⟨y113, hy113⟩ : ∃ y_ : List Int, y_ = (y110 ++ l0_8) := ⟨_, rfl⟩
        replace H : (some (y113, 0)) = some (r1, r2) := by first | (rw [hy113]; with_reducible exact H) | (have H2_ := (Option.bind_some _ _).symm.trans H; rw [hy113]; with_reducible exact H2_) | (have H2_ := (Option.bind_some _ _).symm.trans H; with_reducible exact H2_) | with_reducible exact H | (rw [hy113]; exact H) | exact H
        have Ny113 := Aside0.mk hy113
        clear hy113
        simp only [Option.some.injEq, Prod.mk.injEq] at H
        obtain ⟨rfl, rfl⟩ := H
        go_enter Try.func32, Try.ntmps32
        try go_wp2_with (first | ((with_reducible refine gate_dst (N := 1) rfl ?_); refine box_event ?hg (N := 1) ?hd (cs := #[.int .i64 a0_0, .int .i64 a0_1, .bool a0_2, .int .i64 a0_3, .int .i64 a0_4, .int .i64 a0_5, .int .i64 a0_6, .bool a0_7, .slice A0_8 l0_8.length c0_8]) (t := 25) ?hr ?_; (case hd => rfl); (case hg => rfl); (case hr => first | (go_simp; done) | (go_simp; rfl)); intro gb101 hg w8 hbox hb; have n0_ := Aside0.mk (below_step (by repeat (first | (with_reducible first | exact HB.out | apply below_alloc | apply pw_below_drewN | apply below_drew1) | exact HB.out)) hb); have n1_ := Aside0.mk (hbox); have n2_ := Aside0.mk ((by rw [hg]; exact (below_size (by repeat (first | (with_reducible first | exact HB.out | apply below_alloc | apply pw_below_drewN | apply below_drew1) | exact HB.out))) : w.heap.size ≤ gb101)); have n3_ := Aside0.mk ((by rw [hg]; exact (below_size (by repeat (first | (with_reducible first | exact HB.out | apply below_alloc | apply pw_below_drewN | apply below_drew1) | exact HB.out))) : w.heap.size ≤ gb101)); clear HB; have HB := n0_; have BK101 := n1_; have GW101 := n2_; have GE101 := n3_; clear n0_ n1_ n2_ n3_; clear hb hbox hg; have hcz9_0 : w8.cell? ⟨gb101, 0, none⟩ = some (.int .i64 a0_0) := (blk_cell BK101.out 0).trans rfl; have hcz9_1 : w8.cell? ⟨gb101, 1, none⟩ = some (.int .i64 a0_1) := (blk_cell BK101.out 1).trans rfl; have hcz9_2 : w8.cell? ⟨gb101, 2, none⟩ = some (.bool a0_2) := (blk_cell BK101.out 2).trans rfl; have hcz9_3 : w8.cell? ⟨gb101, 3, none⟩ = some (.int .i64 a0_3) := (blk_cell BK101.out 3).trans rfl; have hcz9_4 : w8.cell? ⟨gb101, 4, none⟩ = some (.int .i64 a0_4) := (blk_cell BK101.out 4).trans rfl; have hcz9_5 : w8.cell? ⟨gb101, 5, none⟩ = some (.int .i64 a0_5) := (blk_cell BK101.out 5).trans rfl; have hcz9_6 : w8.cell? ⟨gb101, 6, none⟩ = some (.int .i64 a0_6) := (blk_cell BK101.out 6).trans rfl; have hcz9_7 : w8.cell? ⟨gb101, 7, none⟩ = some (.bool a0_7) := (blk_cell BK101.out 7).trans rfl; have hcz9_8 : w8.cell? ⟨gb101, 8, none⟩ = some (.slice A0_8 l0_8.length c0_8) := (blk_cell BK101.out 8).trans rfl; have hfz9_0 := blk_frozen BK101.out 0; have hfz9_1 := blk_frozen BK101.out 1; have hfz9_2 := blk_frozen BK101.out 2; have hfz9_3 := blk_frozen BK101.out 3; have hfz9_4 := blk_frozen BK101.out 4; have hfz9_5 := blk_frozen BK101.out 5; have hfz9_6 := blk_frozen BK101.out 6; have hfz9_7 := blk_frozen BK101.out 7; have hfz9_8 := blk_frozen BK101.out 8) | ((with_reducible refine gate_callee (f := 35) rfl ?_); refine goesL_ (some 6) rfl rfl Try.func35 (by kernel_rfl) rfl #[.agg #[.int .i64 a0_0, .int .i64 a0_1, .bool a0_2, .int .i64 a0_3, .int .i64 a0_4, .int .i64 a0_5, .int .i64 a0_6, .bool a0_7, .slice A0_8 l0_8.length c0_8]] rfl (by (try simp only [List.map_toArray, List.map_cons, List.map_nil]); first | done | rfl | (simp only [List.length_drop, List.length_take]; rfl)) ?_; (with_reducible refine (antiphonref6_May.calls k a0_0 a0_1 a0_2 a0_3 a0_4 a0_5 a0_6 a0_7 _ _ l0_8 true _ ?side1 ?side2 A2.out).mono ?_); (case side1 => repeat (first | exact (Kd.C_below HR0_8.out HB.out) | (with_reducible refine Kd.C_alloc ?_ _) | (with_reducible refine Kd.C_drewN ?_ _) | (with_reducible refine Kd.C_drew ?_))); (case side2 => exact HC0_8.out); rintro e w10 ⟨rfl, hb⟩; refine ⟨_, rfl, ?_⟩; have n0_ := Aside0.mk (blk_below (g := gb101) (o := .cells #[.int .i64 a0_0, .int .i64 a0_1, .bool a0_2, .int .i64 a0_3, .int .i64 a0_4, .int .i64 a0_5, .int .i64 a0_6, .bool a0_7, .slice A0_8 l0_8.length c0_8] 25 (0, 0)) (by (with_reducible repeat (first | refine blk_drewN ?_ _ | refine blk_drew ?_ | refine blk_alloc ?_ _)); exact BK101.out) hb); have n1_ := Aside0.mk (below_step (by repeat (first | (with_reducible first | exact HB.out | apply below_alloc | apply pw_below_drewN | apply below_drew1 | refine below_set ?_ GE101.out) | exact HB.out)) hb); clear BK101; clear HB; have BK101 := n0_; have HB := n1_; clear n0_ n1_; (try clear hb); (try clear hb2); (try clear hk); (try clear hi)))
        have n0_ := Aside0.mk (blk_drew BK101.out)
        have n1_ := Aside0.mk (below_drew1 HB.out)
        clear BK101
        clear HB
        have BK101 := n0_
        have HB := n1_
        clear n0_ n1_
        refine start_ (n := 12) (S := fun w' => w'.cell? ⟨gb101, 0, none⟩ = some (.int .i64 a0_0) ∧ w'.cell? ⟨gb101, 1, none⟩ = some (.int .i64 a0_1) ∧ w'.cell? ⟨gb101, 2, none⟩ = some (.bool a0_2) ∧ w'.cell? ⟨gb101, 3, none⟩ = some (.int .i64 a0_3) ∧ w'.cell? ⟨gb101, 4, none⟩ = some (.int .i64 a0_4) ∧ w'.cell? ⟨gb101, 5, none⟩ = some (.int .i64 a0_5) ∧ w'.cell? ⟨gb101, 6, none⟩ = some (.int .i64 a0_6) ∧ w'.cell? ⟨gb101, 7, none⟩ = some (.bool a0_7) ∧ w'.cell? ⟨gb101, 8, none⟩ = some (.slice A0_8 l0_8.length c0_8)) (ds := []) #[false, false, false, false, false, false, false, false, false, false, false, false] (by kernel_rfl) rfl rfl ⟨(blk_cell BK101.out 0).trans rfl, (blk_cell BK101.out 1).trans rfl, (blk_cell BK101.out 2).trans rfl, (blk_cell BK101.out 3).trans rfl, (blk_cell BK101.out 4).trans rfl, (blk_cell BK101.out 5).trans rfl, (blk_cell BK101.out 6).trans rfl, (blk_cell BK101.out 7).trans rfl, (blk_cell BK101.out 8).trans rfl⟩ (fun hHeld => ?_); refine with_tabW antiphonref6_Encode.tab3 antiphonref6_Encode.bits3 (fun HT_ HW_ => ?_)
        generalize w10.drew = w11 at BK101 HB hHeld ⊢
        refine pure_ (i := 0) (N := some 8) (v := ?_) (a' := ?_) #[true, false, false, false, false, false, false, false, false, false, false, false] rfl rfl (any_of HT_.out (by kernel_rfl)) (fun _ _ _ h => h) (Or.inl ⟨by rfl, ?_⟩) ?_ ?_
        rotate_left
        · intro w'
          go_simp
          with_reducible rfl
        rotate_left
        · simp only [Act.put, List.setIfInBounds_toArray, List.set_cons_zero, List.set_cons_succ, i64_w, i32_w]
          rfl
        refine pure_ (i := 3) (N := some 11) (v := ?_) (a' := ?_) #[true, false, false, true, false, false, false, false, false, false, false, false] rfl rfl (any_of HT_.out (by kernel_rfl)) (fun _ _ _ h => h) (Or.inl ⟨by rfl, ?_⟩) ?_ ?_
        rotate_left
        · intro w'
          go_simp
          with_reducible rfl
        rotate_left
        · simp only [Act.put, List.setIfInBounds_toArray, List.set_cons_zero, List.set_cons_succ, i64_w, i32_w]
          rfl
        refine pure_ (i := 5) (N := some 13) (v := ?_) (a' := ?_) #[true, false, false, true, false, true, false, false, false, false, false, false] rfl rfl (any_of HT_.out (by kernel_rfl)) (fun _ _ _ h => h) (Or.inl ⟨by rfl, ?_⟩) ?_ ?_
        rotate_left
        · intro w'
          go_simp
          with_reducible rfl
        rotate_left
        · simp only [Act.put, List.setIfInBounds_toArray, List.set_cons_zero, List.set_cons_succ, i64_w, i32_w]
          rfl
        refine take_ (i := 1) (N := some 9) (v := ?_) (a' := ?_) #[true, true, false, true, false, true, false, false, false, false, false, false] rfl rfl (take_ofW HT_.out HW_.out (by kernel_rfl)) (fun _ _ _ h => h) (Or.inl ⟨by rfl, ?_⟩) hHeld ?_ ?_
        rotate_left
        · rintro w' ⟨s0, s1, s2, s3, s4, s5, s6, s7, s8⟩
          go_simp
          with_reducible rfl
        rotate_left
        · simp only [Act.put, List.setIfInBounds_toArray, List.set_cons_zero, List.set_cons_succ, i64_w, i32_w]
          rfl
        refine pure_ (i := 2) (N := some 10) (v := ?_) (a' := ?_) #[true, true, true, true, false, true, false, false, false, false, false, false] rfl rfl (any_of HT_.out (by kernel_rfl)) (fun _ _ _ h => h) (Or.inl ⟨by rfl, ?_⟩) ?_ ?_
        rotate_left
        · intro w'
          go_simp
          with_reducible rfl
        rotate_left
        · simp only [Act.put, List.setIfInBounds_toArray, List.set_cons_zero, List.set_cons_succ, i64_w, i32_w]
          rfl
        refine take_ (i := 4) (N := some 12) (v := ?_) (a' := ?_) #[true, true, true, true, true, true, false, false, false, false, false, false] rfl rfl (take_ofW HT_.out HW_.out (by kernel_rfl)) (fun _ _ _ h => h) (Or.inl ⟨by rfl, ?_⟩) hHeld ?_ ?_
        rotate_left
        · rintro w' ⟨s0, s1, s2, s3, s4, s5, s6, s7, s8⟩
          go_simp
          with_reducible rfl
        rotate_left
        · simp only [Act.put, List.setIfInBounds_toArray, List.set_cons_zero, List.set_cons_succ, i64_w, i32_w]
          rfl
        refine take_ (i := 6) (N := some 14) (v := ?_) (a' := ?_) #[true, true, true, true, true, true, true, false, false, false, false, false] rfl rfl (take_ofW HT_.out HW_.out (by kernel_rfl)) (fun _ _ _ h => h) (Or.inl ⟨by rfl, ?_⟩) hHeld ?_ ?_
        rotate_left
        · rintro w' ⟨s0, s1, s2, s3, s4, s5, s6, s7, s8⟩
          go_simp
          with_reducible rfl
        rotate_left
        · simp only [Act.put, List.setIfInBounds_toArray, List.set_cons_zero, List.set_cons_succ, i64_w, i32_w]
          rfl
        refine one_ (i := 7) (N := some 15) #[true, true, true, true, true, true, true, true, false, false, false, false] rfl rfl (one_of HT_.out (by kernel_rfl)) (by decide) (fun K hK => ?_)
        refine goes_ Try.func92 (by kernel_rfl) rfl #[.bool a0_2] (by rfl) rfl rfl (by (try simp only [List.map_toArray, List.map_cons, List.map_nil]); first | done | rfl | (simp only [List.length_drop, List.length_take]; rfl)) ?_
        with_reducible refine (antiphonref6_flag.calls a0_2 t103 _ A4.out).mono ?_
        rintro e w' ⟨rfl, ⟨nd, rfl⟩⟩
        refine ⟨_, rfl, ?_⟩
        refine hK.out _ _ ⟨(blk_cell BK101.out 0).trans rfl, (blk_cell BK101.out 1).trans rfl, (blk_cell BK101.out 2).trans rfl, (blk_cell BK101.out 3).trans rfl, (blk_cell BK101.out 4).trans rfl, (blk_cell BK101.out 5).trans rfl, (blk_cell BK101.out 6).trans rfl, (blk_cell BK101.out 7).trans rfl, (blk_cell BK101.out 8).trans rfl⟩ (fun hHeld => ?_)
        clear hK K
        refine norm_ (a' := ?_) ?_ ?_
        rotate_left
        · show Act.put _ (some 15) _ = _
          simp only [Act.put, List.setIfInBounds_toArray, List.set_cons_zero, List.set_cons_succ, i64_w, i32_w]
          rfl
        refine pure_ (i := 8) (N := some 16) (v := ?_) (a' := ?_) #[true, true, true, true, true, true, true, true, true, false, false, false] rfl rfl (any_of HT_.out (by kernel_rfl)) (fun _ _ _ h => h) (Or.inl ⟨by rfl, ?_⟩) ?_ ?_
        rotate_left
        · intro w'
          go_simp
          with_reducible rfl
        rotate_left
        · simp only [Act.put, List.setIfInBounds_toArray, List.set_cons_zero, List.set_cons_succ, i64_w, i32_w]
          rfl
        refine pure_ (i := 9) (N := some 17) (v := ?_) (a' := ?_) #[true, true, true, true, true, true, true, true, true, true, false, false] rfl rfl (any_of HT_.out (by kernel_rfl)) (fun _ _ _ h => h) (Or.inl ⟨by rfl, ?_⟩) ?_ ?_
        rotate_left
        · intro w'
          go_simp
          with_reducible rfl
        rotate_left
        · simp only [Act.put, List.setIfInBounds_toArray, List.set_cons_zero, List.set_cons_succ, i64_w, i32_w]
          rfl
        refine one_ (i := 10) (N := some 18) #[true, true, true, true, true, true, true, true, true, true, true, false] rfl rfl (one_of HT_.out (by kernel_rfl)) (by decide) (fun K hK => ?_)
        refine Kd.R_lit_step (Kd.int .u8) _ 5 ?hg (N := 18) ?hd (xs := ([(a0_0) % 256, (wrap64 (a0_1 + t103)) % 256] : List Int)) (inner := [.int .u8 ((a0_0) % 256), .int .u8 ((wrap64 (a0_1 + t103)) % 256)]) (ok := fun _ => True) (okp := fun _ => True) ?hr ?hp (fun _ hk => hk) trivial (Below.refl _ _) (Nat.le_refl _) (by simp) ?_; (case hd => rfl); (case hg => rfl); (case hr => first | (go_simp; done) | (go_simp; rfl)); (case hp => exact (Reps.one (show Kd.M (Kd.int .u8) _ _ _ ((a0_0) % 256) [.int .u8 ((a0_0) % 256)] from rfl) (Reps.one (show Kd.M (Kd.int .u8) _ _ _ ((wrap64 (a0_1 + t103)) % 256) [.int .u8 ((wrap64 (a0_1 + t103)) % 256)] from rfl) (Reps.none _ _))))
        intro v105 w12 ho13 hb hg_ hnew_
        clear hg_ hnew_
        (first | rw [← Ny104.out] at ho13 | (simp only [Int.reduceToNat] at ho13; rw [← Ny104.out] at ho13))
        have n0_ := Aside0.mk (Kd.R_lower ho13 (below_size (by repeat (first | (with_reducible first | exact HB.out | apply below_alloc | apply pw_below_drewN | apply below_drew1 | refine below_set ?_ GE101.out) | exact HB.out))))
        have n1_ := Aside0.mk (blk_below (g := gb101) (o := .cells #[.int .i64 a0_0, .int .i64 a0_1, .bool a0_2, .int .i64 a0_3, .int .i64 a0_4, .int .i64 a0_5, .int .i64 a0_6, .bool a0_7, .slice A0_8 l0_8.length c0_8] 25 (0, 0)) (by (with_reducible repeat (first | refine blk_drewN ?_ _ | refine blk_drew ?_ | refine blk_alloc ?_ _)); exact BK101.out) hb)
        have n2_ := Aside0.mk (below_step (by repeat (first | (with_reducible first | exact HB.out | apply below_alloc | apply pw_below_drewN | apply below_drew1 | refine below_set ?_ GE101.out) | exact HB.out)) hb)
        clear BK101
        clear HB
        have HO106 := n0_
        have BK101 := n1_
        have HB := n2_
        clear n0_ n1_ n2_
        clear hb ho13
        refine hK.out _ _ ⟨(blk_cell BK101.out 0).trans rfl, (blk_cell BK101.out 1).trans rfl, (blk_cell BK101.out 2).trans rfl, (blk_cell BK101.out 3).trans rfl, (blk_cell BK101.out 4).trans rfl, (blk_cell BK101.out 5).trans rfl, (blk_cell BK101.out 6).trans rfl, (blk_cell BK101.out 7).trans rfl, (blk_cell BK101.out 8).trans rfl⟩ (fun hHeld => ?_)
        clear hK K
        refine norm_ (a' := ?_) ?_ ?_
        rotate_left
        · show Act.put _ (some 18) _ = _
          simp only [Act.put, List.setIfInBounds_toArray, List.set_cons_zero, List.set_cons_succ, i64_w, i32_w]
          rfl
        refine pure_ (i := 11) (N := some 4) (v := ?_) (a' := ?_) #[true, true, true, true, true, true, true, true, true, true, true, true] rfl rfl (any_of HT_.out (by kernel_rfl)) (fun _ _ _ h => h) (Or.inl ⟨by rfl, ?_⟩) ?_ ?_
        rotate_left
        · intro w'
          go_simp
          with_reducible rfl
        rotate_left
        · simp only [Act.put, List.setIfInBounds_toArray, List.set_cons_zero, List.set_cons_succ, i64_w, i32_w]
          rfl
        refine done_ (done_of HT_.out (by kernel_rfl)) ?_
        have hcz14_0 : w12.cell? ⟨gb101, 0, none⟩ = some (.int .i64 a0_0) := (blk_cell BK101.out 0).trans rfl
        have hcz14_1 : w12.cell? ⟨gb101, 1, none⟩ = some (.int .i64 a0_1) := (blk_cell BK101.out 1).trans rfl
        have hcz14_2 : w12.cell? ⟨gb101, 2, none⟩ = some (.bool a0_2) := (blk_cell BK101.out 2).trans rfl
        have hcz14_3 : w12.cell? ⟨gb101, 3, none⟩ = some (.int .i64 a0_3) := (blk_cell BK101.out 3).trans rfl
        have hcz14_4 : w12.cell? ⟨gb101, 4, none⟩ = some (.int .i64 a0_4) := (blk_cell BK101.out 4).trans rfl
        have hcz14_5 : w12.cell? ⟨gb101, 5, none⟩ = some (.int .i64 a0_5) := (blk_cell BK101.out 5).trans rfl
        have hcz14_6 : w12.cell? ⟨gb101, 6, none⟩ = some (.int .i64 a0_6) := (blk_cell BK101.out 6).trans rfl
        have hcz14_7 : w12.cell? ⟨gb101, 7, none⟩ = some (.bool a0_7) := (blk_cell BK101.out 7).trans rfl
        have hcz14_8 : w12.cell? ⟨gb101, 8, none⟩ = some (.slice A0_8 l0_8.length c0_8) := (blk_cell BK101.out 8).trans rfl
        have hfz14_0 := blk_frozen BK101.out 0
        have hfz14_1 := blk_frozen BK101.out 1
        have hfz14_2 := blk_frozen BK101.out 2
        have hfz14_3 := blk_frozen BK101.out 3
        have hfz14_4 := blk_frozen BK101.out 4
        have hfz14_5 := blk_frozen BK101.out 5
        have hfz14_6 := blk_frozen BK101.out 6
        have hfz14_7 := blk_frozen BK101.out 7
        have hfz14_8 := blk_frozen BK101.out 8
        try go_wp2_with (first | ((with_reducible refine gate_callee (f := 93) rfl ?_); refine goesL_ (some 21) rfl rfl Try.func93 (by kernel_rfl) rfl #[.agg #[.int .i64 a0_0, .int .i64 a0_1, .bool a0_2, .int .i64 a0_3, .int .i64 a0_4, .int .i64 a0_5, .int .i64 a0_6, .bool a0_7, .slice A0_8 l0_8.length c0_8]] rfl (by (try simp only [List.map_toArray, List.map_cons, List.map_nil]); first | done | rfl | (simp only [List.length_drop, List.length_take]; rfl)) ?_; (with_reducible refine (antiphonref6_Control.calls a0_0 a0_1 a0_2 a0_3 a0_4 a0_5 a0_6 a0_7 _ _ l0_8 t107 _ ?side1 ?side2 A5.out).mono ?_); (case side1 => repeat (first | exact (Kd.C_below HR0_8.out HB.out) | (with_reducible refine Kd.C_alloc ?_ _) | (with_reducible refine Kd.C_drewN ?_ _) | (with_reducible refine Kd.C_drew ?_))); (case side2 => exact HC0_8.out); rintro e w15 ⟨v108, rfl, ho0, hb⟩; refine ⟨_, rfl, ?_⟩; have n0_ := Aside0.mk (Kd.R_elder' (by (with_reducible repeat (first | apply Kd.R_alloc | apply Kd.R_drewN | apply Kd.R_drew)); exact HO106.out) (Kd.R_base ho0) hb); have n1_ := Aside0.mk (Kd.R_lower (Kd.R_new' ho0 (Kd.R_lt (by (with_reducible repeat (first | apply Kd.R_alloc | apply Kd.R_drewN | apply Kd.R_drew)); exact HO106.out))) (below_size (by repeat (first | (with_reducible first | exact HB.out | apply below_alloc | apply pw_below_drewN | apply below_drew1 | refine below_set ?_ GE101.out) | exact HB.out)))); have n2_ := Aside0.mk (blk_below (g := gb101) (o := .cells #[.int .i64 a0_0, .int .i64 a0_1, .bool a0_2, .int .i64 a0_3, .int .i64 a0_4, .int .i64 a0_5, .int .i64 a0_6, .bool a0_7, .slice A0_8 l0_8.length c0_8] 25 (0, 0)) (by (with_reducible repeat (first | refine blk_drewN ?_ _ | refine blk_drew ?_ | refine blk_alloc ?_ _)); exact BK101.out) hb); have n3_ := Aside0.mk (below_step (by repeat (first | (with_reducible first | exact HB.out | apply below_alloc | apply pw_below_drewN | apply below_drew1 | refine below_set ?_ GE101.out) | exact HB.out)) hb); clear HO106; clear BK101; clear HB; have HO106 := n0_; have HO109 := n1_; have BK101 := n2_; have HB := n3_; clear n0_ n1_ n2_ n3_; (try clear hb); (try clear hb2); (try clear hk); (try clear hi); (try clear ho0); obtain ⟨Ao17, co17, eo17⟩ := Kd.R_slice HO109.out; subst eo17) | ((with_reducible refine gate_builtin (b := .append) (xs := #[.tmp 19, .tmp 21]) rfl ?_); at_builtin; refine Kd.R_append_rows (Kd.int .u8) (w0 := w) w.heap.size rfl (.tmp 19) (.tmp 21) 23 5 (.int .u8 0) 1 rfl Try.underlying23 info5 rfl (by decide) (by omega) v105 y104 t107 _ _ _ (fun k_ => some k_ ≠ (.slice Ao17 t107.length co17 : Value).ownBlock) (fun _ => False) rfl rfl ?aO ?aR (fun _ _ h => h) (fun _ h => h.elim) ?aF ?aB ?aS ?aL ?_; (case aR => repeat (first | exact (Kd.R_reads' HO109.out).2.2 | (with_reducible refine Kd.C_alloc ?_ _) | (with_reducible refine Kd.C_drewN ?_ _) | (with_reducible refine Kd.C_drew ?_))); (case aB => exact (by repeat (first | (with_reducible first | exact HB.out | apply below_alloc | apply pw_below_drewN | apply below_drew1 | refine below_set ?_ GE101.out) | exact HB.out))); (case aF => exact (fun k_ hk => Kd.fresh' (Kd.R_lt (by (with_reducible repeat (first | apply Kd.R_alloc | apply Kd.R_drewN | apply Kd.R_drew)); exact HO109.out)) k_ hk)); (case aO => exact (by (with_reducible repeat (first | apply Kd.R_alloc | apply Kd.R_drewN | apply Kd.R_drew)); exact Kd.R_mono HO106.out (fun _ hk => hk.2))); (case aS => exact (below_size (by repeat (first | (with_reducible first | exact HB.out | apply below_alloc | apply pw_below_drewN | apply below_drew1 | refine below_set ?_ GE101.out) | exact HB.out)))); (case aL => have := LMc6.out; omega); intro v111 w16 ho hb hg hat; rw [← Ny110.out] at ho; have n0_ := Aside0.mk (blk_grown (g := gb101) (o := .cells #[.int .i64 a0_0, .int .i64 a0_1, .bool a0_2, .int .i64 a0_3, .int .i64 a0_4, .int .i64 a0_5, .int .i64 a0_6, .bool a0_7, .slice A0_8 l0_8.length c0_8] 25 (0, 0)) (by (with_reducible repeat (first | refine blk_drewN ?_ _ | refine blk_drew ?_ | refine blk_alloc ?_ _)); exact BK101.out) hg (Kd.R_ne HO106.out BK101.out (by decide))); have n1_ := Aside0.mk (Kd.R_after (ok := (fun _ => True)) (by (with_reducible repeat (first | apply Kd.R_alloc | apply Kd.R_drewN | apply Kd.R_drew)); exact HO109.out) hg hat); have n2_ := Aside0.mk (hb); have n3_ := Aside0.mk (ho); clear BK101; clear HO109; clear HB; clear HO106; have BK101 := n0_; have HO109 := n1_; have HB := n2_; have HO112 := n3_; clear n0_ n1_ n2_ n3_; clear ho hb hg hat; have hcz18_0 : w16.cell? ⟨gb101, 0, none⟩ = some (.int .i64 a0_0) := (blk_cell BK101.out 0).trans rfl; have hcz18_1 : w16.cell? ⟨gb101, 1, none⟩ = some (.int .i64 a0_1) := (blk_cell BK101.out 1).trans rfl; have hcz18_2 : w16.cell? ⟨gb101, 2, none⟩ = some (.bool a0_2) := (blk_cell BK101.out 2).trans rfl; have hcz18_3 : w16.cell? ⟨gb101, 3, none⟩ = some (.int .i64 a0_3) := (blk_cell BK101.out 3).trans rfl; have hcz18_4 : w16.cell? ⟨gb101, 4, none⟩ = some (.int .i64 a0_4) := (blk_cell BK101.out 4).trans rfl; have hcz18_5 : w16.cell? ⟨gb101, 5, none⟩ = some (.int .i64 a0_5) := (blk_cell BK101.out 5).trans rfl; have hcz18_6 : w16.cell? ⟨gb101, 6, none⟩ = some (.int .i64 a0_6) := (blk_cell BK101.out 6).trans rfl; have hcz18_7 : w16.cell? ⟨gb101, 7, none⟩ = some (.bool a0_7) := (blk_cell BK101.out 7).trans rfl; have hcz18_8 : w16.cell? ⟨gb101, 8, none⟩ = some (.slice A0_8 l0_8.length c0_8) := (blk_cell BK101.out 8).trans rfl; have hfz18_0 := blk_frozen BK101.out 0; have hfz18_1 := blk_frozen BK101.out 1; have hfz18_2 := blk_frozen BK101.out 2; have hfz18_3 := blk_frozen BK101.out 3; have hfz18_4 := blk_frozen BK101.out 4; have hfz18_5 := blk_frozen BK101.out 5; have hfz18_6 := blk_frozen BK101.out 6; have hfz18_7 := blk_frozen BK101.out 7; have hfz18_8 := blk_frozen BK101.out 8) | ((with_reducible refine gate_builtin (b := .append) (xs := #[.tmp 23, .tmp 25]) rfl ?_); at_builtin; refine Kd.R_append_rows (Kd.int .u8) (w0 := w) w.heap.size rfl (.tmp 23) (.tmp 25) 23 5 (.int .u8 0) 1 rfl Try.underlying23 info5 rfl (by decide) (by omega) v111 y110 l0_8 _ _ _ (fun k_ => some k_ ≠ (.slice Ao17 t107.length co17 : Value).ownBlock) (fun _ => False) rfl rfl ?aO ?aR (fun _ _ h => h) (fun _ h => h.elim) ?aF ?aB ?aS ?aL ?_; (case aR => repeat (first | exact (Kd.C_below HR0_8.out HB.out) | (with_reducible refine Kd.C_alloc ?_ _) | (with_reducible refine Kd.C_drewN ?_ _) | (with_reducible refine Kd.C_drew ?_))); (case aB => exact (by repeat (first | (with_reducible first | exact HB.out | apply below_alloc | apply pw_below_drewN | apply below_drew1 | refine below_set ?_ GE101.out) | exact HB.out))); (case aF => exact (fun k_ hk => Kd.fresh' (Kd.R_lt (by (with_reducible repeat (first | apply Kd.R_alloc | apply Kd.R_drewN | apply Kd.R_drew)); exact HO109.out)) k_ hk)); (case aO => exact (by (with_reducible repeat (first | apply Kd.R_alloc | apply Kd.R_drewN | apply Kd.R_drew)); exact HO112.out)); (case aS => exact (below_size (by repeat (first | (with_reducible first | exact HB.out | apply below_alloc | apply pw_below_drewN | apply below_drew1 | refine below_set ?_ GE101.out) | exact HB.out)))); (case aL => have := LMc7.out; omega); intro v114 w19 ho hb hg hat; rw [← Ny113.out] at ho; have n0_ := Aside0.mk (blk_grown (g := gb101) (o := .cells #[.int .i64 a0_0, .int .i64 a0_1, .bool a0_2, .int .i64 a0_3, .int .i64 a0_4, .int .i64 a0_5, .int .i64 a0_6, .bool a0_7, .slice A0_8 l0_8.length c0_8] 25 (0, 0)) (by (with_reducible repeat (first | refine blk_drewN ?_ _ | refine blk_drew ?_ | refine blk_alloc ?_ _)); exact BK101.out) hg (Kd.R_ne HO112.out BK101.out (by decide))); have n1_ := Aside0.mk (Kd.R_after (ok := (fun _ => True)) (by (with_reducible repeat (first | apply Kd.R_alloc | apply Kd.R_drewN | apply Kd.R_drew)); exact HO109.out) hg hat); have n2_ := Aside0.mk (hb); have n3_ := Aside0.mk (ho); clear BK101; clear HO109; clear HB; clear HO112; have BK101 := n0_; have HO109 := n1_; have HB := n2_; have HO115 := n3_; clear n0_ n1_ n2_ n3_; clear ho hb hg hat))
        go_ret2
        exact ⟨_, by first | rfl | (simp [errW_none, errW_some] <;> rfl) | (simp [*, errW_none, errW_some] <;> rfl), by (with_reducible repeat (first | apply Kd.R_alloc | apply Kd.R_drewN | apply Kd.R_drew)); exact Kd.R_mono HO115.out (fun _ hk => trivial), by repeat (first | (with_reducible first | exact HB.out | apply below_alloc | apply pw_below_drewN | apply below_drew1 | refine below_set ?_ GE101.out) | exact HB.out)⟩
      · rw [if_neg c7] at H
        exact absurd H (by simp)
    · rw [if_neg c6] at H
      exact absurd H (by simp)
  · replace c3 := Bool.eq_false_iff.mpr c3
    subst c3
    have H1 : (some (([] : List Int), 1)) = some (r1, r2) := by rw [if_neg (show ¬ (false = true) by decide)] at H; exact H
    clear H
    have H := H1
    clear H1
    simp only [Option.some.injEq, Prod.mk.injEq] at H
    obtain ⟨rfl, rfl⟩ := H
    go_enter Try.func32, Try.ntmps32
    go_wp2_with (first | ((with_reducible refine gate_dst (N := 1) rfl ?_); refine box_event ?hg (N := 1) ?hd (cs := #[.int .i64 a0_0, .int .i64 a0_1, .bool a0_2, .int .i64 a0_3, .int .i64 a0_4, .int .i64 a0_5, .int .i64 a0_6, .bool a0_7, .slice A0_8 l0_8.length c0_8]) (t := 25) ?hr ?_; (case hd => rfl); (case hg => rfl); (case hr => first | (go_simp; done) | (go_simp; rfl)); intro gb101 hg w20 hbox hb; have n0_ := Aside0.mk (below_step (by repeat (first | (with_reducible first | exact HB.out | apply below_alloc | apply pw_below_drewN | apply below_drew1) | exact HB.out)) hb); have n1_ := Aside0.mk (hbox); have n2_ := Aside0.mk ((by rw [hg]; exact (below_size (by repeat (first | (with_reducible first | exact HB.out | apply below_alloc | apply pw_below_drewN | apply below_drew1) | exact HB.out))) : w.heap.size ≤ gb101)); have n3_ := Aside0.mk ((by rw [hg]; exact (below_size (by repeat (first | (with_reducible first | exact HB.out | apply below_alloc | apply pw_below_drewN | apply below_drew1) | exact HB.out))) : w.heap.size ≤ gb101)); clear HB; have HB := n0_; have BK101 := n1_; have GW101 := n2_; have GE101 := n3_; clear n0_ n1_ n2_ n3_; clear hb hbox hg; have hcz21_0 : w20.cell? ⟨gb101, 0, none⟩ = some (.int .i64 a0_0) := (blk_cell BK101.out 0).trans rfl; have hcz21_1 : w20.cell? ⟨gb101, 1, none⟩ = some (.int .i64 a0_1) := (blk_cell BK101.out 1).trans rfl; have hcz21_2 : w20.cell? ⟨gb101, 2, none⟩ = some (.bool a0_2) := (blk_cell BK101.out 2).trans rfl; have hcz21_3 : w20.cell? ⟨gb101, 3, none⟩ = some (.int .i64 a0_3) := (blk_cell BK101.out 3).trans rfl; have hcz21_4 : w20.cell? ⟨gb101, 4, none⟩ = some (.int .i64 a0_4) := (blk_cell BK101.out 4).trans rfl; have hcz21_5 : w20.cell? ⟨gb101, 5, none⟩ = some (.int .i64 a0_5) := (blk_cell BK101.out 5).trans rfl; have hcz21_6 : w20.cell? ⟨gb101, 6, none⟩ = some (.int .i64 a0_6) := (blk_cell BK101.out 6).trans rfl; have hcz21_7 : w20.cell? ⟨gb101, 7, none⟩ = some (.bool a0_7) := (blk_cell BK101.out 7).trans rfl; have hcz21_8 : w20.cell? ⟨gb101, 8, none⟩ = some (.slice A0_8 l0_8.length c0_8) := (blk_cell BK101.out 8).trans rfl; have hfz21_0 := blk_frozen BK101.out 0; have hfz21_1 := blk_frozen BK101.out 1; have hfz21_2 := blk_frozen BK101.out 2; have hfz21_3 := blk_frozen BK101.out 3; have hfz21_4 := blk_frozen BK101.out 4; have hfz21_5 := blk_frozen BK101.out 5; have hfz21_6 := blk_frozen BK101.out 6; have hfz21_7 := blk_frozen BK101.out 7; have hfz21_8 := blk_frozen BK101.out 8) | ((with_reducible refine gate_callee (f := 35) rfl ?_); refine goesL_ (some 6) rfl rfl Try.func35 (by kernel_rfl) rfl #[.agg #[.int .i64 a0_0, .int .i64 a0_1, .bool a0_2, .int .i64 a0_3, .int .i64 a0_4, .int .i64 a0_5, .int .i64 a0_6, .bool a0_7, .slice A0_8 l0_8.length c0_8]] rfl (by (try simp only [List.map_toArray, List.map_cons, List.map_nil]); first | done | rfl | (simp only [List.length_drop, List.length_take]; rfl)) ?_; (with_reducible refine (antiphonref6_May.calls k a0_0 a0_1 a0_2 a0_3 a0_4 a0_5 a0_6 a0_7 _ _ l0_8 false _ ?side1 ?side2 A2.out).mono ?_); (case side1 => repeat (first | exact (Kd.C_below HR0_8.out HB.out) | (with_reducible refine Kd.C_alloc ?_ _) | (with_reducible refine Kd.C_drewN ?_ _) | (with_reducible refine Kd.C_drew ?_))); (case side2 => exact HC0_8.out); rintro e w22 ⟨rfl, hb⟩; refine ⟨_, rfl, ?_⟩; have n0_ := Aside0.mk (blk_below (g := gb101) (o := .cells #[.int .i64 a0_0, .int .i64 a0_1, .bool a0_2, .int .i64 a0_3, .int .i64 a0_4, .int .i64 a0_5, .int .i64 a0_6, .bool a0_7, .slice A0_8 l0_8.length c0_8] 25 (0, 0)) (by (with_reducible repeat (first | refine blk_drewN ?_ _ | refine blk_drew ?_ | refine blk_alloc ?_ _)); exact BK101.out) hb); have n1_ := Aside0.mk (below_step (by repeat (first | (with_reducible first | exact HB.out | apply below_alloc | apply pw_below_drewN | apply below_drew1 | refine below_set ?_ GE101.out) | exact HB.out)) hb); clear BK101; clear HB; have BK101 := n0_; have HB := n1_; clear n0_ n1_; (try clear hb); (try clear hb2); (try clear hk); (try clear hi)))
    go_ret2
    exact ⟨_, by first | rfl | (simp [errW_none, errW_some] <;> rfl) | (simp [*, errW_none, errW_some] <;> rfl), by first | exact Kd.R_nil _ _ _ _ _ | exact Kd.N_nil _ _ _ _ _ | exact Kd.V_nil _ _ _ _ _ | exact Kd.Q_nil _ _ _ _ _ | exact Kd.S_nil _ _ _ _ _, by repeat (first | (with_reducible first | exact HB.out | apply below_alloc | apply pw_below_drewN | apply below_drew1 | refine below_set ?_ GE101.out) | exact HB.out)⟩
end Go.Proofs.Ytnmcoebjkfpmjaa.P
/-! Px55 -/
namespace Go.Proofs.Ytnmcoebjkfpmjaa.P
open Go.RowKit Go.Proofs.YtnmcoebjkfpmjaaW.PrintWords Go.Proofs.YtnmcoebjkfpmjaaW.PrintLast Go.Proofs.YtnmcoebjkfpmjaaW.PrintMore
attribute [local go_sem] max2_int min2_int max_two min_two max_three min_three max_four min_four   -- for this text's walks alone
set_option linter.unusedVariables false
set_option linter.unusedSimpArgs false
def antiphonref1_Copy.l0 : Nat → List Int → List Int → Int → Option (List Int)
  | 0, _, _, _ => none
  | k + 1, x0, x3, x4 => if x4 < (x0.length : Int) then (if 0 ≤ x4 then (if x3.length < 140737488355328 then (antiphonref1_Copy.l0 k x0 (x3 ++ [rd x0 x4]) (wrap64 (x4 + 1))) else (none)) else (none)) else (some x3)
def antiphonref1_Copy.f (k : Nat) (l0 : List Int) : Option (List Int) := antiphonref1_Copy.l0 k l0 ([] : List Int) 0
set_option maxHeartbeats 8000000 in
set_option maxRecDepth 100000 in
theorem antiphonref1_Copy.calls (k : Nat) (A0 : Option Addr) (c0 : Nat) (l0 : List Int) (r : List Int) (w : World) (hr0 : Kd.C (Kd.int .u8) w A0 l0.length l0) (hc0 : l0.length ≤ c0) (h : antiphonref1_Copy.f k l0 = some r) :
    Calls Try.prog 54 #[.slice A0 l0.length c0] w fun e w' => ∃ v0_ : Value, e = .returned (v0_) ∧ Kd.R (Kd.int .u8) 5 w' w.heap.size (fun _ => True) v0_ r ∧ Below w.heap.size w w' := by
  have HR0 := Aside0.mk hr0
  have HC0 := Aside0.mk hc0
  clear hr0 hc0
  have HB := Aside0.mk (Below.refl w.heap.size w)
  have H : (antiphonref1_Copy.l0 k l0 ([] : List Int) 0) = some r := h
  clear h
  have H' := Aside0.mk H
  clear H
  go_enter Try.func54, Try.ntmps54
  go_wp2
  go_loopg [3, 4] k (fun kq v3 v4 w' => ∃ (x3_1 : List Int) (x4_1 : Int), v4 = .int .i64 x4_1 ∧ Aside0 (antiphonref1_Copy.l0 kq l0 x3_1 x4_1 = some r) ∧ Aside0 (kq ≤ k) ∧ Aside0 (Kd.R (Kd.int .u8) 5 w' w.heap.size (fun _ => True) v3 x3_1) ∧ Aside0 (Below w.heap.size w w'))
  case atStart => exact ⟨(([] : List Int)), (0), (by first | rfl | (simp; done) | (simp [*]; done)), H', ⟨Nat.le_refl _⟩, ⟨by first | exact Kd.R_nil _ _ _ _ _ | exact Kd.N_nil _ _ _ _ _ | exact Kd.V_nil _ _ _ _ _ | exact Kd.Q_nil _ _ _ _ _ | exact Kd.S_nil _ _ _ _ _⟩, ⟨by repeat (first | (with_reducible first | exact HB.out | apply below_alloc | apply pw_below_drewN | apply below_drew1) | exact HB.out)⟩⟩
  case round =>
    clear H'
    obtain ⟨x3_1, x4_1, rfl, HA, HK1, HO_3, HB⟩ := hrel
    cases gk with
    | zero => exact absurd HA.out (by simp [antiphonref1_Copy.l0])
    | succ k1 =>
      have H := HA.out
      clear HA
      simp only [antiphonref1_Copy.l0] at H
      by_cases c2 : x4_1 < (l0.length : Int)
      · rw [if_pos c2] at H
        have c2b0 : decide (x4_1 < (l0.length : Int)) = true := decide_eq_true c2
        clear c2
        by_cases c3 : 0 ≤ x4_1
        · rw [if_pos c3] at H
          have c3b0 : decide (0 ≤ x4_1) = true := decide_eq_true c3
          clear c3
          by_cases c4 : x3_1.length < 140737488355328
          · rw [if_pos c4] at H
            have LMc4 := Aside0.mk c4
            clear c4
            obtain ⟨y102, hy102⟩ : ∃ y_ : List Int, y_ = (x3_1 ++ [rd l0 x4_1]) := ⟨_, rfl⟩
            replace H : (antiphonref1_Copy.l0 k1 l0 y102 (wrap64 (x4_1 + 1))) = some r := by first | (rw [hy102]; with_reducible exact H) | (have H2_ := (Option.bind_some _ _).symm.trans H; rw [hy102]; with_reducible exact H2_) | (have H2_ := (Option.bind_some _ _).symm.trans H; with_reducible exact H2_) | with_reducible exact H | (rw [hy102]; exact H) | exact H
            have Ny102 := Aside0.mk hy102
            clear hy102
            have H' := Aside0.mk H
            clear H
            have p101 : 0 ≤ (x4_1 : Int) := of_decide_eq_true (by first | (with_reducible assumption) | assumption)
            have q101 : x4_1 < (l0.length : Int) := of_decide_eq_true (by first | (with_reducible assumption) | assumption)
            obtain ⟨ad101, e101, hx101_0⟩ := Kd.at_int HR0.out x4_1 p101 q101
            cases e101
            replace hx101_0 := (HB.out.cell (World.block_lt_of_cell? w _ hx101_0)).trans hx101_0
            replace p101 := eq_true p101
            replace q101 := eq_true q101
            go_wp2_with (first | ((with_reducible refine gate_builtin (b := .append) (xs := #[.tmp 11, .tmp 16]) rfl ?_); at_builtin; refine Kd.R_append (Kd.int .u8) (w0 := w) w.heap.size rfl (.tmp 11) (.tmp 16) 23 5 (.int .u8 0) 1 rfl Try.underlying23 info5 rfl (by decide) (by omega) u3 x3_1 (rd l0 x4_1) [.int .u8 (rd l0 x4_1)] (fun _ => True) (fun _ => False) rfl rfl ?aP (fun _ hk => hk.elim) ?aF ?aO ?aB ?aS ?aL ?_; (case aP => exact rfl); (case aB => exact (by repeat (first | (with_reducible first | exact HB.out | apply below_alloc | apply pw_below_drewN | apply below_drew1) | exact HB.out))); (case aF => exact (fun _ _ => trivial)); (case aO => exact (by (with_reducible repeat (first | apply Kd.R_alloc | apply Kd.R_drewN | apply Kd.R_drew)); exact HO_3.out)); (case aS => exact (below_size (by repeat (first | (with_reducible first | exact HB.out | apply below_alloc | apply pw_below_drewN | apply below_drew1) | exact HB.out)))); (case aL => have := LMc4.out; omega); intro v103 w5 ho hb hg hat; rw [← Ny102.out] at ho; have n0_ := Aside0.mk (hb); have n1_ := Aside0.mk (ho); clear HB; clear HO_3; have HB := n0_; have HO104 := n1_; clear n0_ n1_; clear ho hb hg hat))
            go_roundg k1
            case measure => have := HK1.out; omega
            case rel => exact ⟨(y102), (wrap64 (x4_1 + 1)), (by first | rfl | (simp; done) | (simp [*]; done)), H', ⟨by have := HK1.out; omega⟩, ⟨by (with_reducible repeat (first | apply Kd.R_alloc | apply Kd.R_drewN | apply Kd.R_drew)); exact HO104.out⟩, ⟨by repeat (first | (with_reducible first | exact HB.out | apply below_alloc | apply pw_below_drewN | apply below_drew1) | exact HB.out)⟩⟩
          · rw [if_neg c4] at H
            exact absurd H (by simp)
        · rw [if_neg c3] at H
          exact absurd H (by simp)
      · rw [if_neg c2] at H
        have c2b0 : decide (x4_1 < (l0.length : Int)) = false := decide_eq_false c2
        clear c2
        obtain rfl := Option.some.inj H
        go_wp2
        go_ret
        exact ⟨_, by first | rfl | (simp [errW_none, errW_some] <;> rfl) | (simp [*, errW_none, errW_some] <;> rfl), by (with_reducible repeat (first | apply Kd.R_alloc | apply Kd.R_drewN | apply Kd.R_drew)); exact HO_3.out, by repeat (first | (with_reducible first | exact HB.out | apply below_alloc | apply pw_below_drewN | apply below_drew1) | exact HB.out)⟩
end Go.Proofs.Ytnmcoebjkfpmjaa.P
/-! Px34 -/
namespace Go.Proofs.Ytnmcoebjkfpmjaa.P
open Go.RowKit Go.Proofs.YtnmcoebjkfpmjaaW.PrintWords Go.Proofs.YtnmcoebjkfpmjaaW.PrintLast Go.Proofs.YtnmcoebjkfpmjaaW.PrintMore
attribute [local go_sem] max2_int min2_int max_two min_two max_three min_three max_four min_four   -- for this text's walks alone
set_option linter.unusedVariables false
set_option linter.unusedSimpArgs false
def allBytes (l : List Int) : Bool := l.all fun x => decide (0 ≤ x) && decide (x ≤ 255)
theorem allBytes_rd {l : List Int} (h : allBytes l = true) (i : Int) : 0 ≤ rd l i ∧ rd l i ≤ 255 := by
  unfold rd
  rw [List.getD_eq_getElem?_getD]
  cases hx : l[i.toNat]? with
  | none => simp
  | some x =>
    have hm := List.mem_of_getElem? hx
    have := List.all_eq_true.1 h x hm
    simp only [Bool.and_eq_true, decide_eq_true_eq] at this
    exact this
def ref6Codes : List Int := [3, 175, 227, 111, 67, 99, 15, 135, 103, 231]
def antiphonref6_Decode.fin (k : Nat) (t_ f_ : Int) (resp : Bool) (form kind ns nr : Int) (poll : Bool) (info : List Int) : Option PduR :=
  (antiphonref6_May.f k t_ f_ resp form kind ns nr poll info).bind fun m => if m = true then some (t_, f_, resp, form, kind, ns, nr, poll, info, 0) else some (pduBad 4)
def antiphonref6_Decode.f (k : Nat) (l0 : List Int) : Option (Int × Int × Bool × Int × Int × Int × Int × Bool × List Int × Int) :=
  if l0.length < 3 then some (pduBad 2) else if allBytes l0 = true then
    if Go.bits .and .i64 (rd l0 2) 3 = 3 then (antiphonref1_Copy.f k (l0.drop 3)).bind fun inf =>
      antiphonref6_Decode.fin k (rd l0 0) (Go.bits .andNot .i64 (rd l0 1) 1) (Go.bits .and .u8 (rd l0 1) 1 == 1) 2 (kindTo ref6Codes (Go.bits .andNot .i64 (rd l0 2) 16) 10) 0 0 (Go.bits .and .i64 (rd l0 2) 16 != 0) inf
    else if l0.length < 4 then some (pduBad 2) else (antiphonref1_Copy.f k (l0.drop 4)).bind fun inf =>
      if Go.bits .and .i64 (rd l0 2) 1 = 0 then antiphonref6_Decode.fin k (rd l0 0) (Go.bits .andNot .i64 (rd l0 1) 1) (Go.bits .and .u8 (rd l0 1) 1 == 1) 0 0 (rd l0 2 / 2) (rd l0 3 / 2) (Go.bits .and .u8 (rd l0 3) 1 == 1) inf
      else if rd l0 2 > 9 then some (pduBad 4) else antiphonref6_Decode.fin k (rd l0 0) (Go.bits .andNot .i64 (rd l0 1) 1) (Go.bits .and .u8 (rd l0 1) 1 == 1) 1 (rd l0 2 / 4) 0 (rd l0 3 / 2) (Go.bits .and .u8 (rd l0 3) 1 == 1) inf
  else none
theorem fin_cases6 {k : Nat} {t f : Int} {resp : Bool} {form kind ns nr : Int} {poll : Bool} {info : List Int} {r : PduR} (h : antiphonref6_Decode.fin k t f resp form kind ns nr poll info = some r) :
    (antiphonref6_May.f k t f resp form kind ns nr poll info = some true ∧ (t, f, resp, form, kind, ns, nr, poll, info, 0) = r) ∨ (antiphonref6_May.f k t f resp form kind ns nr poll info = some false ∧ pduBad 4 = r) := by
  unfold antiphonref6_Decode.fin at h
  obtain ⟨m, hm, h⟩ := Option.bind_eq_some_iff.mp h
  cases m with
  | true => exact .inl ⟨hm, by simpa using h⟩
  | false => exact .inr ⟨hm, by simpa using h⟩
theorem code_at (j : Nat) (hj : j < 10) : antiphonref6_Code.f (j : Int) = some (rd ref6Codes j) := by
  have : ∀ j : Fin 10, antiphonref6_Code.f (j.val : Int) = some (rd ref6Codes j.val) := by decide +kernel
  exact this ⟨j, hj⟩
set_option maxHeartbeats 4000000 in
set_option maxRecDepth 100000 in
theorem antiphonref6_Decode.calls (k : Nat) (A0 : Option Addr) (c0 : Nat) (l0 : List Int) (r1 r2 : Int) (r3 : Bool) (r4 r5 r6 r7 : Int) (r8 : Bool) (r9 : List Int) (r10 : Int) (w : World) (hr0 : Kd.C (Kd.int .u8) w A0 l0.length l0) (hc0 : l0.length ≤ c0) (h : antiphonref6_Decode.f k l0 = some (r1, r2, r3, r4, r5, r6, r7, r8, r9, r10)) :
    Calls Try.prog 33 #[.slice A0 l0.length c0] w fun e w' => ∃ v8_ : Value, e = .returned (.tuple #[.agg #[.int .i64 r1, .int .i64 r2, .bool r3, .int .i64 r4, .int .i64 r5, .int .i64 r6, .int .i64 r7, .bool r8, v8_], .int .i64 r10]) ∧ Kd.R (Kd.int .u8) 5 w' w.heap.size (fun _ => True) v8_ r9 ∧ Below w.heap.size w w' := by
  have hu := Try.underlying25
  unfold antiphonref6_Decode.f at h
  by_cases h3 : l0.length < 3
  · rw [if_pos h3] at h
    simp only [pduBad, Option.some.injEq, Prod.mk.injEq] at h
    obtain ⟨rfl, rfl, rfl, rfl, rfl, rfl, rfl, rfl, rfl, rfl⟩ := h
    have h3' : decide ((l0.length : Int) < 3) = true := decide_eq_true (by omega)
    clear h3
    go_enter Try.func33, Try.ntmps33
    go_wp2
    refine bodyPost_ret (v := .tuple #[.agg #[.int .i64 0, .int .i64 0, .bool false, .int .i64 0, .int .i64 0, .int .i64 0, .int .i64 0, .bool false, .slice none 0 0], .int .i64 2]) (by simp [results, Try.results33, go_sem, hu]) rfl ⟨_, rfl, Kd.R_nil _ _ _ _ _, ?_⟩
    exact below_alloc (Below.refl _ _) _
  · rw [if_neg h3] at h
    have hok : allBytes l0 = true := by
      by_cases hok : allBytes l0 = true
      · exact hok
      · rw [if_neg hok] at h; cases h
    rw [if_pos hok] at h
    obtain ⟨i0, hi, hz0, hz1, hz2⟩ := info_parts info5
    obtain ⟨b0, hb0⟩ : ∃ x, rd l0 0 = x := ⟨_, rfl⟩
    obtain ⟨b1, hb1⟩ : ∃ x, rd l0 1 = x := ⟨_, rfl⟩
    obtain ⟨b2, hb2⟩ : ∃ x, rd l0 2 = x := ⟨_, rfl⟩
    have w0 := allBytes_rd hok 0
    have w1 := allBytes_rd hok 1
    have w2 := allBytes_rd hok 2
    have w3 := allBytes_rd hok 3
    obtain ⟨ad, rfl, hcell0⟩ := Kd.at_int hr0 0 (by omega) (by omega)
    have hall : ∀ i : Nat, i < l0.length → w.cell? (ad.add i) = some (.int .u8 (rd l0 i)) := by
      intro i hi
      obtain ⟨ad', e, hc⟩ := Kd.at_int hr0 i (by omega) (by omega)
      injection e with e
      subst e
      exact hc
    have hcell1 : w.cell? (ad.add 1) = some (.int .u8 b1) := (hall 1 (by omega)).trans (congrArg (fun x => some (Value.int .u8 x)) hb1)
    have hcell2 : w.cell? (ad.add 2) = some (.int .u8 b2) := (hall 2 (by omega)).trans (congrArg (fun x => some (Value.int .u8 x)) hb2)
    simp only [Int.toNat_zero] at hcell0
    rw [hb0] at hcell0 w0
    rw [hb1] at w1
    rw [hb2] at w2
    rw [hb0, hb1, hb2] at h
    obtain ⟨w0a, w0b⟩ := w0
    obtain ⟨w1a, w1b⟩ := w1
    obtain ⟨w2a, w2b⟩ := w2
    have hlt := World.block_lt_of_cell? w _ hcell0
    have h3' : decide ((l0.length : Int) < 3) = false := decide_eq_false (by omega)
    obtain ⟨n0, hn0⟩ : ∃ x, l0.length = x := ⟨_, rfl⟩
    have h0n : (0 : Int) < (n0 : Int) := by omega
    have h1n : (1 : Int) < (n0 : Int) := by omega
    have h2n : (2 : Int) < (n0 : Int) := by omega
    have h0m : 0 < n0 := by omega
    have h1m : 1 < n0 := by omega
    have h2m : 2 < n0 := by omega
    rw [hn0] at h3'
    have q3 := cut_from 23 5 .i64 (P := Try.prog) Try.underlying23 hi 1 hz1 (some ad) n0 c0 3 (by omega) (by omega)
    have hD3 := Kd.C_drop hr0 (m := 3) (by omega) hc0
    rw [show (3 : Int).toNat = 3 from rfl] at q3
    rw [show 3 * (Kd.int .u8).sz = 3 * 1 from rfl] at hD3
    obtain ⟨A3, hA3⟩ : ∃ x, (if c0 = 3 then (some ad) else (some ad).map (·.add (3 * 1))) = x := ⟨_, rfl⟩
    rw [hA3] at q3 hD3
    have HCopy : Aside0 (∀ W inf, Below w.heap.size w W → antiphonref1_Copy.f k (l0.drop 3) = some inf → Calls Try.prog 54 #[.slice A3 (n0 - 3) (c0 - 3)] W fun e w' => ∃ v0_ : Value, e = .returned (v0_) ∧ Kd.R (Kd.int .u8) 5 w' W.heap.size (fun _ => True) v0_ inf ∧ Below W.heap.size W w') := by
      refine ⟨fun W inf hB hf => ?_⟩
      have := antiphonref1_Copy.calls k A3 (c0 - 3) (l0.drop 3) inf W (Kd.C_below hD3 hB) (by rw [List.length_drop]; omega) hf
      rwa [List.length_drop, hn0] at this
    have HCopy4 : Aside0 (3 < n0 → ∃ A4 : Option Addr, (∀ W, (Instr.slice 23 (.slice (some ad) n0 c0) (some (.int .i64 4)) none none).run Try.prog W = .ok (.slice A4 (n0 - 4) (c0 - 4)) W) ∧ ∀ W inf, Below w.heap.size w W → antiphonref1_Copy.f k (l0.drop 4) = some inf → Calls Try.prog 54 #[.slice A4 (n0 - 4) (c0 - 4)] W fun e w' => ∃ v0_ : Value, e = .returned (v0_) ∧ Kd.R (Kd.int .u8) 5 w' W.heap.size (fun _ => True) v0_ inf ∧ Below W.heap.size W w') := by
      refine ⟨fun h4 => ?_⟩
      have q4 := cut_from 23 5 .i64 (P := Try.prog) Try.underlying23 hi 1 hz1 (some ad) n0 c0 4 (by omega) (by omega)
      have hD4 := Kd.C_drop hr0 (m := 4) (by omega) hc0
      rw [show (4 : Int).toNat = 4 from rfl] at q4
      rw [show 4 * (Kd.int .u8).sz = 4 * 1 from rfl] at hD4
      refine ⟨_, q4, fun W inf hB hf => ?_⟩
      have := antiphonref1_Copy.calls k _ (c0 - 4) (l0.drop 4) inf W (Kd.C_below hD4 hB) (by rw [List.length_drop]; omega) hf
      rwa [List.length_drop, hn0] at this
    have hA0 : w.cell? ad = some (.int .u8 b0) := hcell0
    have hA1 : w.cell? { block := ad.block, off := ad.off + 1 } = some (.int .u8 b1) := hcell1
    have hA2' : w.cell? { block := ad.block, off := ad.off + 2 } = some (.int .u8 b2) := hcell2
    have hA2 : ∀ o1 o2, ((w.alloc o1).alloc o2).cell? { block := ad.block, off := ad.off + 2 } = some (.int .u8 b2) := fun o1 o2 => Go.Lib.cell?_alloc_some _ (Go.Lib.cell?_alloc_some _ hA2')
    have hA3' : 3 < n0 → w.cell? { block := ad.block, off := ad.off + 3 } = some (.int .u8 (rd l0 3)) := fun h => hall 3 (by omega)
    have hblk : ad.block < w.heap.size := hlt
    have hw0 : IntKind.i64.wrap b0 = b0 := by rw [i64_w]; unfold wrap64; omega
    have hw1 : IntKind.i64.wrap b1 = b1 := by rw [i64_w]; unfold wrap64; omega
    have hw2 : IntKind.i64.wrap b2 = b2 := by rw [i64_w]; unfold wrap64; omega
    have HA0 := Aside0.mk hA0
    have HA1 := Aside0.mk hA1
    have HA3 := Aside0.mk hA3'
    have HNEW : Aside0 (∀ Z P, ((w.alloc Z).alloc P).heap[w.heap.size + 1]? = some P) := ⟨fun Z P => by
      have h1 := blk_new (w.alloc Z) P
      have h2 : (w.alloc Z).heap.size = w.heap.size + 1 := Array.size_push _
      rwa [h2] at h1⟩
    have HC := Aside0.mk hc0
    have HB00 := Aside0.mk (Below.refl w.heap.size w)
    have H2 : Aside0 (∀ Z P, ((w.alloc Z).alloc P).heap.size = w.heap.size + 2) := ⟨fun Z P => by rw [show ((w.alloc Z).alloc P).heap = (w.heap.push Z).push P from rfl]; simp⟩
    have HN0 := Aside0.mk hn0
    have HBLK := Aside0.mk hblk
    rw [hn0] at h
    rw [hn0]
    clear hcell0 hcell1 hcell2 hlt hA2' hA3' hblk hA3 hD3
    clear hr0 hc0 hb0 hb1 hb2 hok hall h3 hi hz0 hz1 hz2 hn0
    by_cases c1 : Go.bits .and .i64 b2 3 = 3
    · rw [if_pos c1] at h
      obtain ⟨inf, eC, h⟩ := Option.bind_eq_some_iff.mp h
      have HCP := Aside0.mk (fun W hB => HCopy.out W inf hB eC)
      have H := Aside0.mk h
      have c1' : (Go.bits .and .i64 b2 3 != 3) = false := bne_eq_false_iff_eq.mpr c1
      clear h eC c1 HCopy HCopy4
      go_enter Try.func33, Try.ntmps33
      go_wp2_with fail
      go_region_held3 (fun w' => w'.cell? ad = some (.int .u8 b0) ∧ w'.cell? { block := ad.block, off := ad.off + 1 } = some (.int .u8 b1)) (refine ⟨?_, ?_⟩ <;> repeat (first | exact HA0.out | exact HA1.out | refine Go.Lib.cell?_alloc_some _ ?_)) (fail)
      go_wp2_with fail
      refine (HCP.out _ (by repeat (first | (with_reducible first | exact HB00.out | apply below_alloc | apply pw_below_drewN | apply below_drew1) | exact HB00.out))).mono ?_
      rintro e w1 ⟨v1, rfl, hR, hB⟩
      have hSz : w.heap.size + 2 ≤ w1.heap.size := Nat.le_trans (Nat.le_of_eq (H2.out (.cells #[.int .i64 0, .int .i64 0, .bool false, .int .i64 0, .int .i64 0, .int .i64 0, .int .i64 0, .bool false, .slice none 0 0] 25) (.cells #[.int .i64 b0, .int .i64 (Go.bits .andNot .i64 b1 1), .bool (Go.bits .and .u8 b1 1 == 1), .int .i64 (2), .int .i64 (0), .int .i64 (0), .int .i64 (0), .bool (Go.bits .and .i64 b2 16 != 0), .slice none 0 0] 25)).symm) hB.size
      obtain ⟨A8, c8, rfl, hc8, hC8⟩ := Kd.R_reads hR
      have hs1 := H2.out (.cells #[.int .i64 0, .int .i64 0, .bool false, .int .i64 0, .int .i64 0, .int .i64 0, .int .i64 0, .bool false, .slice none 0 0] 25) (.cells #[.int .i64 b0, .int .i64 (Go.bits .andNot .i64 b1 1), .bool (Go.bits .and .u8 b1 1 == 1), .int .i64 (2), .int .i64 (0), .int .i64 (0), .int .i64 (0), .bool (Go.bits .and .i64 b2 16 != 0), .slice none 0 0] 25)
      have hp1 : w1.heap[w.heap.size + 1]? = some (.cells #[.int .i64 b0, .int .i64 (Go.bits .andNot .i64 b1 1), .bool (Go.bits .and .u8 b1 1 == 1), .int .i64 (2), .int .i64 (0), .int .i64 (0), .int .i64 (0), .bool (Go.bits .and .i64 b2 16 != 0), .slice none 0 0] 25 (0, 0)) := (hB.block _ (Nat.lt_of_lt_of_eq (by omega) hs1.symm)).trans (HNEW.out (.cells #[.int .i64 0, .int .i64 0, .bool false, .int .i64 0, .int .i64 0, .int .i64 0, .int .i64 0, .bool false, .slice none 0 0] 25) (.cells #[.int .i64 b0, .int .i64 (Go.bits .andNot .i64 b1 1), .bool (Go.bits .and .u8 b1 1 == 1), .int .i64 (2), .int .i64 (0), .int .i64 (0), .int .i64 (0), .bool (Go.bits .and .i64 b2 16 != 0), .slice none 0 0] 25))
      have hz1 : w1.heap[w.heap.size]? = some (.cells #[.int .i64 0, .int .i64 0, .bool false, .int .i64 0, .int .i64 0, .int .i64 0, .int .i64 0, .bool false, .slice none 0 0] 25 (0, 0)) := (hB.block _ (Nat.lt_of_lt_of_eq (by omega) hs1.symm)).trans (blk_alloc (blk_new w (.cells #[.int .i64 0, .int .i64 0, .bool false, .int .i64 0, .int .i64 0, .int .i64 0, .int .i64 0, .bool false, .slice none 0 0] 25)) (.cells #[.int .i64 b0, .int .i64 (Go.bits .andNot .i64 b1 1), .bool (Go.bits .and .u8 b1 1 == 1), .int .i64 (2), .int .i64 (0), .int .i64 (0), .int .i64 (0), .bool (Go.bits .and .i64 b2 16 != 0), .slice none 0 0] 25))
      have hbw : Below w.heap.size w w1 := below_step (by repeat (first | (with_reducible first | exact HB00.out | apply below_alloc | apply pw_below_drewN | apply below_drew1) | exact HB00.out)) hB
      have HR1 := Aside0.mk (Kd.R_lower (base' := w.heap.size) (Kd.R_mono (Kd.R_bound hR) (ok' := fun k => k ≠ w.heap.size + 1 ∧ k ≠ w.heap.size) (fun k hk => by have h9 := hk.2.1; have h8 := Nat.lt_of_lt_of_eq (show w.heap.size + 1 < w.heap.size + 2 by omega) hs1.symm; exact ⟨fun e => absurd (Nat.lt_of_lt_of_le h8 h9) (by omega), fun e => absurd (Nat.lt_of_lt_of_le h8 h9) (by omega)⟩)) (Nat.le_trans (by omega) (Nat.le_of_eq hs1.symm)))
      have HP1 := Aside0.mk hp1
      have HZ1 := Aside0.mk hz1
      have HBW := Aside0.mk hbw
      have HSZ := Aside0.mk (show w.heap.size + 1 < w1.heap.size by omega)
      have HCL8 := Aside0.mk hc8
      have kq0 : w1.cell? ⟨w.heap.size + 1, 0, none⟩ = some (.int .i64 b0) := (blk_cell hp1 0).trans rfl
      have kf0 : w1.frozen? ⟨w.heap.size + 1, 0, none⟩ = false := blk_frozen hp1 0
      have kq1 : w1.cell? ⟨w.heap.size + 1, 1, none⟩ = some (.int .i64 (Go.bits .andNot .i64 b1 1)) := (blk_cell hp1 1).trans rfl
      have kf1 : w1.frozen? ⟨w.heap.size + 1, 1, none⟩ = false := blk_frozen hp1 1
      have kq2 : w1.cell? ⟨w.heap.size + 1, 2, none⟩ = some (.bool (Go.bits .and .u8 b1 1 == 1)) := (blk_cell hp1 2).trans rfl
      have kf2 : w1.frozen? ⟨w.heap.size + 1, 2, none⟩ = false := blk_frozen hp1 2
      have kq3 : w1.cell? ⟨w.heap.size + 1, 3, none⟩ = some (.int .i64 (2)) := (blk_cell hp1 3).trans rfl
      have kf3 : w1.frozen? ⟨w.heap.size + 1, 3, none⟩ = false := blk_frozen hp1 3
      have kq4 : w1.cell? ⟨w.heap.size + 1, 4, none⟩ = some (.int .i64 (0)) := (blk_cell hp1 4).trans rfl
      have kf4 : w1.frozen? ⟨w.heap.size + 1, 4, none⟩ = false := blk_frozen hp1 4
      have kq5 : w1.cell? ⟨w.heap.size + 1, 5, none⟩ = some (.int .i64 (0)) := (blk_cell hp1 5).trans rfl
      have kf5 : w1.frozen? ⟨w.heap.size + 1, 5, none⟩ = false := blk_frozen hp1 5
      have kq6 : w1.cell? ⟨w.heap.size + 1, 6, none⟩ = some (.int .i64 (0)) := (blk_cell hp1 6).trans rfl
      have kf6 : w1.frozen? ⟨w.heap.size + 1, 6, none⟩ = false := blk_frozen hp1 6
      have kq7 : w1.cell? ⟨w.heap.size + 1, 7, none⟩ = some (.bool (Go.bits .and .i64 b2 16 != 0)) := (blk_cell hp1 7).trans rfl
      have kf7 : w1.frozen? ⟨w.heap.size + 1, 7, none⟩ = false := blk_frozen hp1 7
      have kq8 : w1.cell? ⟨w.heap.size + 1, 8, none⟩ = some (.slice none 0 0) := (blk_cell hp1 8).trans rfl
      have kf8 : w1.frozen? ⟨w.heap.size + 1, 8, none⟩ = false := blk_frozen hp1 8
      clear hB hR hc8 hC8 hs1 hp1 hz1 hbw hSz
      go_wp2_with fail
      go_loopw [6] (fun v6 wr => ∃ j : Nat, j ≤ 10 ∧ v6 = .int .i64 j ∧ Aside0 (wr.heap[w.heap.size + 1]? = some (.cells #[.int .i64 b0, .int .i64 (Go.bits .andNot .i64 b1 1), .bool (Go.bits .and .u8 b1 1 == 1), .int .i64 (2), .int .i64 (kindTo ref6Codes (Go.bits .andNot .i64 b2 16) j), .int .i64 (0), .int .i64 (0), .bool (Go.bits .and .i64 b2 16 != 0), .slice A8 inf.length c8] 25 (0, 0))) ∧ Aside0 (w1.grownBy wr (some (w.heap.size + 1)))) (fun v6 _ => 10 - (intOf v6).toNat)
      case atStart => exact ⟨0, Nat.zero_le _, rfl, ⟨blk_put (blk_put HP1.out 8 (.slice A8 inf.length c8) rfl) 4 (.int .i64 (-1)) rfl⟩, ⟨World.grownBy.trans (only_set 8 _) (only_set 4 _)⟩⟩
      case round =>
        obtain ⟨j, hj, rfl, HPr, HGr⟩ := hrel
        by_cases hlt : j < 10
        · have hcode := Aside0.mk (code_at j hlt)
          have hj1 : decide ((j : Int) ≤ 9) = true := decide_eq_true (by omega)
          by_cases hc : rd ref6Codes j = Go.bits .andNot .i64 b2 16
          · have hc' : (rd ref6Codes j == Go.bits .andNot .i64 b2 16) = true := beq_iff_eq.mpr hc
            have HK := Aside0.mk (show kindTo ref6Codes (Go.bits .andNot .i64 b2 16) (j + 1) = (j : Int) by rw [kindTo, if_pos hc])
            clear hc
            go_wp2_with fail
            refine (antiphonref6_Code.calls j _ _ hcode.out).mono ?_
            rintro e w2 ⟨rfl, hB2⟩
            have HP2 := Aside0.mk (blk_below HPr.out hB2)
            have HG2 := Aside0.mk (World.grownBy.trans HGr.out (only_below hB2 _))
            have hk4 : w2.cell? ⟨w.heap.size + 1, 4, none⟩ = some (.int .i64 (kindTo ref6Codes (Go.bits .andNot .i64 b2 16) j)) := (blk_cell HP2.out 4).trans rfl
            have hf4 : w2.frozen? ⟨w.heap.size + 1, 4, none⟩ = false := blk_frozen HP2.out 4
            clear hB2
            go_wp2
            refine ⟨⟨j + 1, by omega, by go_num, ⟨?_⟩, ⟨World.grownBy.trans HG2.out (only_set 4 _)⟩⟩, by simp [intOf]; omega⟩
            rw [HK.out]
            exact blk_put HP2.out 4 _ rfl
          · have hc' : (rd ref6Codes j == Go.bits .andNot .i64 b2 16) = false := beq_eq_false_iff_ne.mpr hc
            have HK := Aside0.mk (show kindTo ref6Codes (Go.bits .andNot .i64 b2 16) (j + 1) = kindTo ref6Codes (Go.bits .andNot .i64 b2 16) j by rw [kindTo, if_neg hc])
            clear hc
            go_wp2_with fail
            refine (antiphonref6_Code.calls j _ _ hcode.out).mono ?_
            rintro e w2 ⟨rfl, hB2⟩
            have HP2 := Aside0.mk (blk_below HPr.out hB2)
            have HG2 := Aside0.mk (World.grownBy.trans HGr.out (only_below hB2 _))
            clear hB2
            go_wp2
            refine ⟨⟨j + 1, by omega, by go_num, ⟨?_⟩, HG2⟩, by simp [intOf]; omega⟩
            rw [HK.out]
            exact HP2.out
        · obtain rfl : j = 10 := by omega
          have HP8 := HPr
          have HRES8 := Aside0.mk (blk_grown HZ1.out HGr.out (fun e => by injection e with e; omega))
          have HB8 := Aside0.mk (Below.grown HBW.out HGr.out HBW.out.size (fun k hk => by cases hk; omega))
          have HR8 := Aside0.mk (Kd.R_grown HR1.out HGr.out (fun k hk e => hk.1 (by injection e)))
          have HC8 := Aside0.mk (Kd.R_reads' HR8.out).2.2
          have hj1 : decide ((10 : Int) ≤ 9) = false := by decide
          have pq0 : wr.cell? ⟨w.heap.size + 1, 0, none⟩ = some (.int .i64 b0) := (blk_cell HPr.out 0).trans rfl
          have pf0 : wr.frozen? ⟨w.heap.size + 1, 0, none⟩ = false := blk_frozen HPr.out 0
          have pq1 : wr.cell? ⟨w.heap.size + 1, 1, none⟩ = some (.int .i64 (Go.bits .andNot .i64 b1 1)) := (blk_cell HPr.out 1).trans rfl
          have pf1 : wr.frozen? ⟨w.heap.size + 1, 1, none⟩ = false := blk_frozen HPr.out 1
          have pq2 : wr.cell? ⟨w.heap.size + 1, 2, none⟩ = some (.bool (Go.bits .and .u8 b1 1 == 1)) := (blk_cell HPr.out 2).trans rfl
          have pf2 : wr.frozen? ⟨w.heap.size + 1, 2, none⟩ = false := blk_frozen HPr.out 2
          have pq3 : wr.cell? ⟨w.heap.size + 1, 3, none⟩ = some (.int .i64 (2)) := (blk_cell HPr.out 3).trans rfl
          have pf3 : wr.frozen? ⟨w.heap.size + 1, 3, none⟩ = false := blk_frozen HPr.out 3
          have pq4 : wr.cell? ⟨w.heap.size + 1, 4, none⟩ = some (.int .i64 (kindTo ref6Codes (Go.bits .andNot .i64 b2 16) 10)) := (blk_cell HPr.out 4).trans rfl
          have pf4 : wr.frozen? ⟨w.heap.size + 1, 4, none⟩ = false := blk_frozen HPr.out 4
          have pq5 : wr.cell? ⟨w.heap.size + 1, 5, none⟩ = some (.int .i64 (0)) := (blk_cell HPr.out 5).trans rfl
          have pf5 : wr.frozen? ⟨w.heap.size + 1, 5, none⟩ = false := blk_frozen HPr.out 5
          have pq6 : wr.cell? ⟨w.heap.size + 1, 6, none⟩ = some (.int .i64 (0)) := (blk_cell HPr.out 6).trans rfl
          have pf6 : wr.frozen? ⟨w.heap.size + 1, 6, none⟩ = false := blk_frozen HPr.out 6
          have pq7 : wr.cell? ⟨w.heap.size + 1, 7, none⟩ = some (.bool (Go.bits .and .i64 b2 16 != 0)) := (blk_cell HPr.out 7).trans rfl
          have pf7 : wr.frozen? ⟨w.heap.size + 1, 7, none⟩ = false := blk_frozen HPr.out 7
          have pq8 : wr.cell? ⟨w.heap.size + 1, 8, none⟩ = some (.slice A8 inf.length c8) := (blk_cell HPr.out 8).trans rfl
          have pf8 : wr.frozen? ⟨w.heap.size + 1, 8, none⟩ = false := blk_frozen HPr.out 8
          clear HPr HGr
          rcases fin_cases6 H.out with ⟨hm, hr⟩ | ⟨hm, hr⟩
          · simp only [Prod.mk.injEq] at hr
            obtain ⟨rfl, rfl, rfl, rfl, rfl, rfl, rfl, rfl, rfl, rfl⟩ := hr
            have HM := Aside0.mk hm
            clear hm
            go_wp2_with fail
            refine (antiphonref6_May.calls k _ _ _ _ _ _ _ _ A8 c8 inf true _ HC8.out HCL8.out HM.out).mono ?_
            rintro e w9 ⟨rfl, hB9⟩
            have HB9 := Aside0.mk hB9
            have hp9 := blk_below HP8.out hB9
            have hz9 := blk_below HRES8.out hB9
            clear hB9
            have pq0 : w9.cell? ⟨w.heap.size + 1, 0, none⟩ = some (.int .i64 b0) := (blk_cell hp9 0).trans rfl
            have pf0 : w9.frozen? ⟨w.heap.size + 1, 0, none⟩ = false := blk_frozen hp9 0
            have pq1 : w9.cell? ⟨w.heap.size + 1, 1, none⟩ = some (.int .i64 (Go.bits .andNot .i64 b1 1)) := (blk_cell hp9 1).trans rfl
            have pf1 : w9.frozen? ⟨w.heap.size + 1, 1, none⟩ = false := blk_frozen hp9 1
            have pq2 : w9.cell? ⟨w.heap.size + 1, 2, none⟩ = some (.bool (Go.bits .and .u8 b1 1 == 1)) := (blk_cell hp9 2).trans rfl
            have pf2 : w9.frozen? ⟨w.heap.size + 1, 2, none⟩ = false := blk_frozen hp9 2
            have pq3 : w9.cell? ⟨w.heap.size + 1, 3, none⟩ = some (.int .i64 (2)) := (blk_cell hp9 3).trans rfl
            have pf3 : w9.frozen? ⟨w.heap.size + 1, 3, none⟩ = false := blk_frozen hp9 3
            have pq4 : w9.cell? ⟨w.heap.size + 1, 4, none⟩ = some (.int .i64 (kindTo ref6Codes (Go.bits .andNot .i64 b2 16) 10)) := (blk_cell hp9 4).trans rfl
            have pf4 : w9.frozen? ⟨w.heap.size + 1, 4, none⟩ = false := blk_frozen hp9 4
            have pq5 : w9.cell? ⟨w.heap.size + 1, 5, none⟩ = some (.int .i64 (0)) := (blk_cell hp9 5).trans rfl
            have pf5 : w9.frozen? ⟨w.heap.size + 1, 5, none⟩ = false := blk_frozen hp9 5
            have pq6 : w9.cell? ⟨w.heap.size + 1, 6, none⟩ = some (.int .i64 (0)) := (blk_cell hp9 6).trans rfl
            have pf6 : w9.frozen? ⟨w.heap.size + 1, 6, none⟩ = false := blk_frozen hp9 6
            have pq7 : w9.cell? ⟨w.heap.size + 1, 7, none⟩ = some (.bool (Go.bits .and .i64 b2 16 != 0)) := (blk_cell hp9 7).trans rfl
            have pf7 : w9.frozen? ⟨w.heap.size + 1, 7, none⟩ = false := blk_frozen hp9 7
            have pq8 : w9.cell? ⟨w.heap.size + 1, 8, none⟩ = some (.slice A8 inf.length c8) := (blk_cell hp9 8).trans rfl
            have pf8 : w9.frozen? ⟨w.heap.size + 1, 8, none⟩ = false := blk_frozen hp9 8
            have zq0 : w9.cell? ⟨w.heap.size, 0, none⟩ = some (.int .i64 0) := (blk_cell hz9 0).trans rfl
            have zf0 : w9.frozen? ⟨w.heap.size, 0, none⟩ = false := blk_frozen hz9 0
            have zq1 : w9.cell? ⟨w.heap.size, 1, none⟩ = some (.int .i64 0) := (blk_cell hz9 1).trans rfl
            have zf1 : w9.frozen? ⟨w.heap.size, 1, none⟩ = false := blk_frozen hz9 1
            have zq2 : w9.cell? ⟨w.heap.size, 2, none⟩ = some (.bool false) := (blk_cell hz9 2).trans rfl
            have zf2 : w9.frozen? ⟨w.heap.size, 2, none⟩ = false := blk_frozen hz9 2
            have zq3 : w9.cell? ⟨w.heap.size, 3, none⟩ = some (.int .i64 0) := (blk_cell hz9 3).trans rfl
            have zf3 : w9.frozen? ⟨w.heap.size, 3, none⟩ = false := blk_frozen hz9 3
            have zq4 : w9.cell? ⟨w.heap.size, 4, none⟩ = some (.int .i64 0) := (blk_cell hz9 4).trans rfl
            have zf4 : w9.frozen? ⟨w.heap.size, 4, none⟩ = false := blk_frozen hz9 4
            have zq5 : w9.cell? ⟨w.heap.size, 5, none⟩ = some (.int .i64 0) := (blk_cell hz9 5).trans rfl
            have zf5 : w9.frozen? ⟨w.heap.size, 5, none⟩ = false := blk_frozen hz9 5
            have zq6 : w9.cell? ⟨w.heap.size, 6, none⟩ = some (.int .i64 0) := (blk_cell hz9 6).trans rfl
            have zf6 : w9.frozen? ⟨w.heap.size, 6, none⟩ = false := blk_frozen hz9 6
            have zq7 : w9.cell? ⟨w.heap.size, 7, none⟩ = some (.bool false) := (blk_cell hz9 7).trans rfl
            have zf7 : w9.frozen? ⟨w.heap.size, 7, none⟩ = false := blk_frozen hz9 7
            have zq8 : w9.cell? ⟨w.heap.size, 8, none⟩ = some (.slice none 0 0) := (blk_cell hz9 8).trans rfl
            have zf8 : w9.frozen? ⟨w.heap.size, 8, none⟩ = false := blk_frozen hz9 8
            clear hp9 hz9
            go_wp2
            refine bodyPost_ret (v := .tuple #[.agg #[.int .i64 b0, .int .i64 (Go.bits .andNot .i64 b1 1), .bool (Go.bits .and .u8 b1 1 == 1), .int .i64 (2), .int .i64 (kindTo ref6Codes (Go.bits .andNot .i64 b2 16) 10), .int .i64 (0), .int .i64 (0), .bool (Go.bits .and .i64 b2 16 != 0), .slice A8 inf.length c8], .int .i64 0]) (by simp [results, Try.results33, go_sem, hu, zq0, zf0, zq1, zf1, zq2, zf2, zq3, zf3, zq4, zf4, zq5, zf5, zq6, zf6, zq7, zf7, zq8, zf8]) rfl ⟨_, rfl, ?_, ?_⟩
            · refine Kd.R_mono (ok := fun k => k ≠ w.heap.size + 1 ∧ k ≠ w.heap.size) ?_ (fun _ _ => trivial)
              repeat (with_reducible refine Kd.R_far ?_ (fun k hk => hk.2) _)
              exact Kd.R_below HR8.out HB9.out
            · repeat (with_reducible refine below_set ?_ (Nat.le_refl _))
              exact below_step HB8.out HB9.out
          · simp only [pduBad, Prod.mk.injEq] at hr
            obtain ⟨rfl, rfl, rfl, rfl, rfl, rfl, rfl, rfl, rfl, rfl⟩ := hr
            have HM := Aside0.mk hm
            clear hm
            go_wp2_with fail
            refine (antiphonref6_May.calls k _ _ _ _ _ _ _ _ A8 c8 inf false _ HC8.out HCL8.out HM.out).mono ?_
            rintro e w9 ⟨rfl, hB9⟩
            have HB9 := Aside0.mk hB9
            have hp9 := blk_below HP8.out hB9
            have hz9 := blk_below HRES8.out hB9
            clear hB9
            have zq0 : w9.cell? ⟨w.heap.size, 0, none⟩ = some (.int .i64 0) := (blk_cell hz9 0).trans rfl
            have zf0 : w9.frozen? ⟨w.heap.size, 0, none⟩ = false := blk_frozen hz9 0
            have zq1 : w9.cell? ⟨w.heap.size, 1, none⟩ = some (.int .i64 0) := (blk_cell hz9 1).trans rfl
            have zf1 : w9.frozen? ⟨w.heap.size, 1, none⟩ = false := blk_frozen hz9 1
            have zq2 : w9.cell? ⟨w.heap.size, 2, none⟩ = some (.bool false) := (blk_cell hz9 2).trans rfl
            have zf2 : w9.frozen? ⟨w.heap.size, 2, none⟩ = false := blk_frozen hz9 2
            have zq3 : w9.cell? ⟨w.heap.size, 3, none⟩ = some (.int .i64 0) := (blk_cell hz9 3).trans rfl
            have zf3 : w9.frozen? ⟨w.heap.size, 3, none⟩ = false := blk_frozen hz9 3
            have zq4 : w9.cell? ⟨w.heap.size, 4, none⟩ = some (.int .i64 0) := (blk_cell hz9 4).trans rfl
            have zf4 : w9.frozen? ⟨w.heap.size, 4, none⟩ = false := blk_frozen hz9 4
            have zq5 : w9.cell? ⟨w.heap.size, 5, none⟩ = some (.int .i64 0) := (blk_cell hz9 5).trans rfl
            have zf5 : w9.frozen? ⟨w.heap.size, 5, none⟩ = false := blk_frozen hz9 5
            have zq6 : w9.cell? ⟨w.heap.size, 6, none⟩ = some (.int .i64 0) := (blk_cell hz9 6).trans rfl
            have zf6 : w9.frozen? ⟨w.heap.size, 6, none⟩ = false := blk_frozen hz9 6
            have zq7 : w9.cell? ⟨w.heap.size, 7, none⟩ = some (.bool false) := (blk_cell hz9 7).trans rfl
            have zf7 : w9.frozen? ⟨w.heap.size, 7, none⟩ = false := blk_frozen hz9 7
            have zq8 : w9.cell? ⟨w.heap.size, 8, none⟩ = some (.slice none 0 0) := (blk_cell hz9 8).trans rfl
            have zf8 : w9.frozen? ⟨w.heap.size, 8, none⟩ = false := blk_frozen hz9 8
            clear hp9 hz9
            go_wp2
            refine bodyPost_ret (v := .tuple #[.agg #[.int .i64 0, .int .i64 0, .bool false, .int .i64 0, .int .i64 0, .int .i64 0, .int .i64 0, .bool false, .slice none 0 0], .int .i64 4]) (by simp [results, Try.results33, go_sem, hu, zq0, zf0, zq1, zf1, zq2, zf2, zq3, zf3, zq4, zf4, zq5, zf5, zq6, zf6, zq7, zf7, zq8, zf8]) rfl ⟨_, rfl, Kd.R_nil _ _ _ _ _, ?_⟩
            repeat (with_reducible refine below_set ?_ (Nat.le_refl _))
            exact below_step HB8.out HB9.out
    · rw [if_neg c1] at h
      have c1' : (Go.bits .and .i64 b2 3 != 3) = true := bne_iff_ne.mpr c1
      by_cases hl : n0 < 4
      · rw [if_pos hl] at h
        simp only [pduBad, Option.some.injEq, Prod.mk.injEq] at h
        obtain ⟨rfl, rfl, rfl, rfl, rfl, rfl, rfl, rfl, rfl, rfl⟩ := h
        have hl' : decide ((n0 : Int) < 4) = true := decide_eq_true (by omega)
        clear hl c1 HCopy HCopy4
        go_enter Try.func33, Try.ntmps33
        go_wp2_with fail
        go_region_held3 (fun w' => w'.cell? ad = some (.int .u8 b0) ∧ w'.cell? { block := ad.block, off := ad.off + 1 } = some (.int .u8 b1)) (refine ⟨?_, ?_⟩ <;> repeat (first | exact HA0.out | exact HA1.out | refine Go.Lib.cell?_alloc_some _ ?_)) (fail)
        go_wp2_with fail
        refine bodyPost_ret (v := .tuple #[.agg #[.int .i64 0, .int .i64 0, .bool false, .int .i64 0, .int .i64 0, .int .i64 0, .int .i64 0, .bool false, .slice none 0 0], .int .i64 2]) (by simp [results, Try.results33, go_sem, hu]) rfl ⟨_, rfl, Kd.R_nil _ _ _ _ _, ?_⟩
        repeat (first | (with_reducible first | exact HB00.out | apply below_alloc | apply pw_below_drewN | apply below_drew1) | exact HB00.out)
      · rw [if_neg hl] at h
        obtain ⟨inf, eC, h⟩ := Option.bind_eq_some_iff.mp h
        obtain ⟨A4, q4, hcp⟩ := HCopy4.out (by omega)
        have HCP := Aside0.mk (fun W hB => hcp W inf hB eC)
        obtain ⟨b3, hb3⟩ : ∃ x, rd l0 3 = x := ⟨_, rfl⟩
        have hA3q : ∀ o1 o2, ((w.alloc o1).alloc o2).cell? { block := ad.block, off := ad.off + 3 } = some (.int .u8 b3) := fun o1 o2 => Go.Lib.cell?_alloc_some _ (Go.Lib.cell?_alloc_some _ (hb3 ▸ HA3.out (by omega)))
        rw [hb3] at h w3
        obtain ⟨w3a, w3b⟩ := w3
        have hw3 : IntKind.i64.wrap b3 = b3 := by rw [i64_w]; unfold wrap64; omega
        have h3n : (3 : Int) < (n0 : Int) := by omega
        have h3m : 3 < n0 := by omega
        have hl' : decide ((n0 : Int) < 4) = false := decide_eq_false (by omega)
        clear hl c1 HCopy HCopy4 q3 HA3 hb3 hcp eC
        by_cases c2 : Go.bits .and .i64 b2 1 = 0
        · rw [if_pos c2] at h
          have H := Aside0.mk h
          have c2' : (Go.bits .and .i64 b2 1 == 0) = true := beq_iff_eq.mpr c2
          clear h c2
          go_enter Try.func33, Try.ntmps33
          go_wp2_with fail
          go_region_held3 (fun w' => w'.cell? ad = some (.int .u8 b0) ∧ w'.cell? { block := ad.block, off := ad.off + 1 } = some (.int .u8 b1)) (refine ⟨?_, ?_⟩ <;> repeat (first | exact HA0.out | exact HA1.out | refine Go.Lib.cell?_alloc_some _ ?_)) (fail)
          go_wp2_with fail
          refine (HCP.out _ (by repeat (first | (with_reducible first | exact HB00.out | apply below_alloc | apply pw_below_drewN | apply below_drew1) | exact HB00.out))).mono ?_
          rintro e w1 ⟨v1, rfl, hR, hB⟩
          have hSz : w.heap.size + 2 ≤ w1.heap.size := Nat.le_trans (Nat.le_of_eq (H2.out (.cells #[.int .i64 0, .int .i64 0, .bool false, .int .i64 0, .int .i64 0, .int .i64 0, .int .i64 0, .bool false, .slice none 0 0] 25) (.cells #[.int .i64 b0, .int .i64 (Go.bits .andNot .i64 b1 1), .bool (Go.bits .and .u8 b1 1 == 1), .int .i64 (0), .int .i64 (0), .int .i64 (0), .int .i64 (b3 / 2), .bool (Go.bits .and .u8 b3 1 == 1), .slice none 0 0] 25)).symm) hB.size
          obtain ⟨A8, c8, rfl, hc8, hC8⟩ := Kd.R_reads hR
          have hs1 := H2.out (.cells #[.int .i64 0, .int .i64 0, .bool false, .int .i64 0, .int .i64 0, .int .i64 0, .int .i64 0, .bool false, .slice none 0 0] 25) (.cells #[.int .i64 b0, .int .i64 (Go.bits .andNot .i64 b1 1), .bool (Go.bits .and .u8 b1 1 == 1), .int .i64 (0), .int .i64 (0), .int .i64 (0), .int .i64 (b3 / 2), .bool (Go.bits .and .u8 b3 1 == 1), .slice none 0 0] 25)
          have hp1 : w1.heap[w.heap.size + 1]? = some (.cells #[.int .i64 b0, .int .i64 (Go.bits .andNot .i64 b1 1), .bool (Go.bits .and .u8 b1 1 == 1), .int .i64 (0), .int .i64 (0), .int .i64 (0), .int .i64 (b3 / 2), .bool (Go.bits .and .u8 b3 1 == 1), .slice none 0 0] 25 (0, 0)) := (hB.block _ (Nat.lt_of_lt_of_eq (by omega) hs1.symm)).trans (HNEW.out (.cells #[.int .i64 0, .int .i64 0, .bool false, .int .i64 0, .int .i64 0, .int .i64 0, .int .i64 0, .bool false, .slice none 0 0] 25) (.cells #[.int .i64 b0, .int .i64 (Go.bits .andNot .i64 b1 1), .bool (Go.bits .and .u8 b1 1 == 1), .int .i64 (0), .int .i64 (0), .int .i64 (0), .int .i64 (b3 / 2), .bool (Go.bits .and .u8 b3 1 == 1), .slice none 0 0] 25))
          have hz1 : w1.heap[w.heap.size]? = some (.cells #[.int .i64 0, .int .i64 0, .bool false, .int .i64 0, .int .i64 0, .int .i64 0, .int .i64 0, .bool false, .slice none 0 0] 25 (0, 0)) := (hB.block _ (Nat.lt_of_lt_of_eq (by omega) hs1.symm)).trans (blk_alloc (blk_new w (.cells #[.int .i64 0, .int .i64 0, .bool false, .int .i64 0, .int .i64 0, .int .i64 0, .int .i64 0, .bool false, .slice none 0 0] 25)) (.cells #[.int .i64 b0, .int .i64 (Go.bits .andNot .i64 b1 1), .bool (Go.bits .and .u8 b1 1 == 1), .int .i64 (0), .int .i64 (0), .int .i64 (0), .int .i64 (b3 / 2), .bool (Go.bits .and .u8 b3 1 == 1), .slice none 0 0] 25))
          have hbw : Below w.heap.size w w1 := below_step (by repeat (first | (with_reducible first | exact HB00.out | apply below_alloc | apply pw_below_drewN | apply below_drew1) | exact HB00.out)) hB
          have HR1 := Aside0.mk (Kd.R_lower (base' := w.heap.size) (Kd.R_mono (Kd.R_bound hR) (ok' := fun k => k ≠ w.heap.size + 1 ∧ k ≠ w.heap.size) (fun k hk => by have h9 := hk.2.1; have h8 := Nat.lt_of_lt_of_eq (show w.heap.size + 1 < w.heap.size + 2 by omega) hs1.symm; exact ⟨fun e => absurd (Nat.lt_of_lt_of_le h8 h9) (by omega), fun e => absurd (Nat.lt_of_lt_of_le h8 h9) (by omega)⟩)) (Nat.le_trans (by omega) (Nat.le_of_eq hs1.symm)))
          have HP1 := Aside0.mk hp1
          have HZ1 := Aside0.mk hz1
          have HBW := Aside0.mk hbw
          have HSZ := Aside0.mk (show w.heap.size + 1 < w1.heap.size by omega)
          have HCL8 := Aside0.mk hc8
          have kq0 : w1.cell? ⟨w.heap.size + 1, 0, none⟩ = some (.int .i64 b0) := (blk_cell hp1 0).trans rfl
          have kf0 : w1.frozen? ⟨w.heap.size + 1, 0, none⟩ = false := blk_frozen hp1 0
          have kq1 : w1.cell? ⟨w.heap.size + 1, 1, none⟩ = some (.int .i64 (Go.bits .andNot .i64 b1 1)) := (blk_cell hp1 1).trans rfl
          have kf1 : w1.frozen? ⟨w.heap.size + 1, 1, none⟩ = false := blk_frozen hp1 1
          have kq2 : w1.cell? ⟨w.heap.size + 1, 2, none⟩ = some (.bool (Go.bits .and .u8 b1 1 == 1)) := (blk_cell hp1 2).trans rfl
          have kf2 : w1.frozen? ⟨w.heap.size + 1, 2, none⟩ = false := blk_frozen hp1 2
          have kq3 : w1.cell? ⟨w.heap.size + 1, 3, none⟩ = some (.int .i64 (0)) := (blk_cell hp1 3).trans rfl
          have kf3 : w1.frozen? ⟨w.heap.size + 1, 3, none⟩ = false := blk_frozen hp1 3
          have kq4 : w1.cell? ⟨w.heap.size + 1, 4, none⟩ = some (.int .i64 (0)) := (blk_cell hp1 4).trans rfl
          have kf4 : w1.frozen? ⟨w.heap.size + 1, 4, none⟩ = false := blk_frozen hp1 4
          have kq5 : w1.cell? ⟨w.heap.size + 1, 5, none⟩ = some (.int .i64 (0)) := (blk_cell hp1 5).trans rfl
          have kf5 : w1.frozen? ⟨w.heap.size + 1, 5, none⟩ = false := blk_frozen hp1 5
          have kq6 : w1.cell? ⟨w.heap.size + 1, 6, none⟩ = some (.int .i64 (b3 / 2)) := (blk_cell hp1 6).trans rfl
          have kf6 : w1.frozen? ⟨w.heap.size + 1, 6, none⟩ = false := blk_frozen hp1 6
          have kq7 : w1.cell? ⟨w.heap.size + 1, 7, none⟩ = some (.bool (Go.bits .and .u8 b3 1 == 1)) := (blk_cell hp1 7).trans rfl
          have kf7 : w1.frozen? ⟨w.heap.size + 1, 7, none⟩ = false := blk_frozen hp1 7
          have kq8 : w1.cell? ⟨w.heap.size + 1, 8, none⟩ = some (.slice none 0 0) := (blk_cell hp1 8).trans rfl
          have kf8 : w1.frozen? ⟨w.heap.size + 1, 8, none⟩ = false := blk_frozen hp1 8
          clear hB hR hc8 hC8 hs1 hp1 hz1 hbw hSz
          have HP8 := Aside0.mk (blk_put (blk_put (blk_put (HP1.out) 8 (.slice A8 inf.length c8) rfl) 3 (.int .i64 0) rfl) 5 (.int .i64 (b2 / 2)) rfl)
          have HR8 := Aside0.mk (Kd.R_far (Kd.R_far (Kd.R_far (HR1.out) (p := ⟨w.heap.size + 1, 8, none⟩) (fun k hk => hk.1) (.slice A8 inf.length c8)) (p := ⟨w.heap.size + 1, 3, none⟩) (fun k hk => hk.1) (.int .i64 0)) (p := ⟨w.heap.size + 1, 5, none⟩) (fun k hk => hk.1) (.int .i64 (b2 / 2)))
          have HB8 := Aside0.mk (below_set (g := w.heap.size + 1) (j := 5) (v := .int .i64 (b2 / 2)) (below_set (g := w.heap.size + 1) (j := 3) (v := .int .i64 0) (below_set (g := w.heap.size + 1) (j := 8) (v := .slice A8 inf.length c8) (HBW.out) (by omega)) (by omega)) (by omega))
          have HRES8 := Aside0.mk (blk_far (blk_far (blk_far (HZ1.out) (p := ⟨w.heap.size + 1, 8, none⟩) (by simp) (.slice A8 inf.length c8)) (p := ⟨w.heap.size + 1, 3, none⟩) (by simp) (.int .i64 0)) (p := ⟨w.heap.size + 1, 5, none⟩) (by simp) (.int .i64 (b2 / 2)))
          have HC8 := Aside0.mk (Kd.R_reads' HR8.out).2.2
          rcases fin_cases6 H.out with ⟨hm, hr⟩ | ⟨hm, hr⟩
          · simp only [Prod.mk.injEq] at hr
            obtain ⟨rfl, rfl, rfl, rfl, rfl, rfl, rfl, rfl, rfl, rfl⟩ := hr
            have HM := Aside0.mk hm
            clear hm
            go_wp2_with fail
            refine (antiphonref6_May.calls k _ _ _ _ _ _ _ _ A8 c8 inf true _ HC8.out HCL8.out HM.out).mono ?_
            rintro e w9 ⟨rfl, hB9⟩
            have HB9 := Aside0.mk hB9
            have hp9 := blk_below HP8.out hB9
            have hz9 := blk_below HRES8.out hB9
            clear hB9
            have pq0 : w9.cell? ⟨w.heap.size + 1, 0, none⟩ = some (.int .i64 b0) := (blk_cell hp9 0).trans rfl
            have pf0 : w9.frozen? ⟨w.heap.size + 1, 0, none⟩ = false := blk_frozen hp9 0
            have pq1 : w9.cell? ⟨w.heap.size + 1, 1, none⟩ = some (.int .i64 (Go.bits .andNot .i64 b1 1)) := (blk_cell hp9 1).trans rfl
            have pf1 : w9.frozen? ⟨w.heap.size + 1, 1, none⟩ = false := blk_frozen hp9 1
            have pq2 : w9.cell? ⟨w.heap.size + 1, 2, none⟩ = some (.bool (Go.bits .and .u8 b1 1 == 1)) := (blk_cell hp9 2).trans rfl
            have pf2 : w9.frozen? ⟨w.heap.size + 1, 2, none⟩ = false := blk_frozen hp9 2
            have pq3 : w9.cell? ⟨w.heap.size + 1, 3, none⟩ = some (.int .i64 (0)) := (blk_cell hp9 3).trans rfl
            have pf3 : w9.frozen? ⟨w.heap.size + 1, 3, none⟩ = false := blk_frozen hp9 3
            have pq4 : w9.cell? ⟨w.heap.size + 1, 4, none⟩ = some (.int .i64 (0)) := (blk_cell hp9 4).trans rfl
            have pf4 : w9.frozen? ⟨w.heap.size + 1, 4, none⟩ = false := blk_frozen hp9 4
            have pq5 : w9.cell? ⟨w.heap.size + 1, 5, none⟩ = some (.int .i64 (b2 / 2)) := (blk_cell hp9 5).trans rfl
            have pf5 : w9.frozen? ⟨w.heap.size + 1, 5, none⟩ = false := blk_frozen hp9 5
            have pq6 : w9.cell? ⟨w.heap.size + 1, 6, none⟩ = some (.int .i64 (b3 / 2)) := (blk_cell hp9 6).trans rfl
            have pf6 : w9.frozen? ⟨w.heap.size + 1, 6, none⟩ = false := blk_frozen hp9 6
            have pq7 : w9.cell? ⟨w.heap.size + 1, 7, none⟩ = some (.bool (Go.bits .and .u8 b3 1 == 1)) := (blk_cell hp9 7).trans rfl
            have pf7 : w9.frozen? ⟨w.heap.size + 1, 7, none⟩ = false := blk_frozen hp9 7
            have pq8 : w9.cell? ⟨w.heap.size + 1, 8, none⟩ = some (.slice A8 inf.length c8) := (blk_cell hp9 8).trans rfl
            have pf8 : w9.frozen? ⟨w.heap.size + 1, 8, none⟩ = false := blk_frozen hp9 8
            have zq0 : w9.cell? ⟨w.heap.size, 0, none⟩ = some (.int .i64 0) := (blk_cell hz9 0).trans rfl
            have zf0 : w9.frozen? ⟨w.heap.size, 0, none⟩ = false := blk_frozen hz9 0
            have zq1 : w9.cell? ⟨w.heap.size, 1, none⟩ = some (.int .i64 0) := (blk_cell hz9 1).trans rfl
            have zf1 : w9.frozen? ⟨w.heap.size, 1, none⟩ = false := blk_frozen hz9 1
            have zq2 : w9.cell? ⟨w.heap.size, 2, none⟩ = some (.bool false) := (blk_cell hz9 2).trans rfl
            have zf2 : w9.frozen? ⟨w.heap.size, 2, none⟩ = false := blk_frozen hz9 2
            have zq3 : w9.cell? ⟨w.heap.size, 3, none⟩ = some (.int .i64 0) := (blk_cell hz9 3).trans rfl
            have zf3 : w9.frozen? ⟨w.heap.size, 3, none⟩ = false := blk_frozen hz9 3
            have zq4 : w9.cell? ⟨w.heap.size, 4, none⟩ = some (.int .i64 0) := (blk_cell hz9 4).trans rfl
            have zf4 : w9.frozen? ⟨w.heap.size, 4, none⟩ = false := blk_frozen hz9 4
            have zq5 : w9.cell? ⟨w.heap.size, 5, none⟩ = some (.int .i64 0) := (blk_cell hz9 5).trans rfl
            have zf5 : w9.frozen? ⟨w.heap.size, 5, none⟩ = false := blk_frozen hz9 5
            have zq6 : w9.cell? ⟨w.heap.size, 6, none⟩ = some (.int .i64 0) := (blk_cell hz9 6).trans rfl
            have zf6 : w9.frozen? ⟨w.heap.size, 6, none⟩ = false := blk_frozen hz9 6
            have zq7 : w9.cell? ⟨w.heap.size, 7, none⟩ = some (.bool false) := (blk_cell hz9 7).trans rfl
            have zf7 : w9.frozen? ⟨w.heap.size, 7, none⟩ = false := blk_frozen hz9 7
            have zq8 : w9.cell? ⟨w.heap.size, 8, none⟩ = some (.slice none 0 0) := (blk_cell hz9 8).trans rfl
            have zf8 : w9.frozen? ⟨w.heap.size, 8, none⟩ = false := blk_frozen hz9 8
            clear hp9 hz9
            go_wp2
            refine bodyPost_ret (v := .tuple #[.agg #[.int .i64 b0, .int .i64 (Go.bits .andNot .i64 b1 1), .bool (Go.bits .and .u8 b1 1 == 1), .int .i64 (0), .int .i64 (0), .int .i64 (b2 / 2), .int .i64 (b3 / 2), .bool (Go.bits .and .u8 b3 1 == 1), .slice A8 inf.length c8], .int .i64 0]) (by simp [results, Try.results33, go_sem, hu, zq0, zf0, zq1, zf1, zq2, zf2, zq3, zf3, zq4, zf4, zq5, zf5, zq6, zf6, zq7, zf7, zq8, zf8]) rfl ⟨_, rfl, ?_, ?_⟩
            · refine Kd.R_mono (ok := fun k => k ≠ w.heap.size + 1 ∧ k ≠ w.heap.size) ?_ (fun _ _ => trivial)
              repeat (with_reducible refine Kd.R_far ?_ (fun k hk => hk.2) _)
              exact Kd.R_below HR8.out HB9.out
            · repeat (with_reducible refine below_set ?_ (Nat.le_refl _))
              exact below_step HB8.out HB9.out
          · simp only [pduBad, Prod.mk.injEq] at hr
            obtain ⟨rfl, rfl, rfl, rfl, rfl, rfl, rfl, rfl, rfl, rfl⟩ := hr
            have HM := Aside0.mk hm
            clear hm
            go_wp2_with fail
            refine (antiphonref6_May.calls k _ _ _ _ _ _ _ _ A8 c8 inf false _ HC8.out HCL8.out HM.out).mono ?_
            rintro e w9 ⟨rfl, hB9⟩
            have HB9 := Aside0.mk hB9
            have hp9 := blk_below HP8.out hB9
            have hz9 := blk_below HRES8.out hB9
            clear hB9
            have zq0 : w9.cell? ⟨w.heap.size, 0, none⟩ = some (.int .i64 0) := (blk_cell hz9 0).trans rfl
            have zf0 : w9.frozen? ⟨w.heap.size, 0, none⟩ = false := blk_frozen hz9 0
            have zq1 : w9.cell? ⟨w.heap.size, 1, none⟩ = some (.int .i64 0) := (blk_cell hz9 1).trans rfl
            have zf1 : w9.frozen? ⟨w.heap.size, 1, none⟩ = false := blk_frozen hz9 1
            have zq2 : w9.cell? ⟨w.heap.size, 2, none⟩ = some (.bool false) := (blk_cell hz9 2).trans rfl
            have zf2 : w9.frozen? ⟨w.heap.size, 2, none⟩ = false := blk_frozen hz9 2
            have zq3 : w9.cell? ⟨w.heap.size, 3, none⟩ = some (.int .i64 0) := (blk_cell hz9 3).trans rfl
            have zf3 : w9.frozen? ⟨w.heap.size, 3, none⟩ = false := blk_frozen hz9 3
            have zq4 : w9.cell? ⟨w.heap.size, 4, none⟩ = some (.int .i64 0) := (blk_cell hz9 4).trans rfl
            have zf4 : w9.frozen? ⟨w.heap.size, 4, none⟩ = false := blk_frozen hz9 4
            have zq5 : w9.cell? ⟨w.heap.size, 5, none⟩ = some (.int .i64 0) := (blk_cell hz9 5).trans rfl
            have zf5 : w9.frozen? ⟨w.heap.size, 5, none⟩ = false := blk_frozen hz9 5
            have zq6 : w9.cell? ⟨w.heap.size, 6, none⟩ = some (.int .i64 0) := (blk_cell hz9 6).trans rfl
            have zf6 : w9.frozen? ⟨w.heap.size, 6, none⟩ = false := blk_frozen hz9 6
            have zq7 : w9.cell? ⟨w.heap.size, 7, none⟩ = some (.bool false) := (blk_cell hz9 7).trans rfl
            have zf7 : w9.frozen? ⟨w.heap.size, 7, none⟩ = false := blk_frozen hz9 7
            have zq8 : w9.cell? ⟨w.heap.size, 8, none⟩ = some (.slice none 0 0) := (blk_cell hz9 8).trans rfl
            have zf8 : w9.frozen? ⟨w.heap.size, 8, none⟩ = false := blk_frozen hz9 8
            clear hp9 hz9
            go_wp2
            refine bodyPost_ret (v := .tuple #[.agg #[.int .i64 0, .int .i64 0, .bool false, .int .i64 0, .int .i64 0, .int .i64 0, .int .i64 0, .bool false, .slice none 0 0], .int .i64 4]) (by simp [results, Try.results33, go_sem, hu, zq0, zf0, zq1, zf1, zq2, zf2, zq3, zf3, zq4, zf4, zq5, zf5, zq6, zf6, zq7, zf7, zq8, zf8]) rfl ⟨_, rfl, Kd.R_nil _ _ _ _ _, ?_⟩
            repeat (with_reducible refine below_set ?_ (Nat.le_refl _))
            exact below_step HB8.out HB9.out
        · rw [if_neg c2] at h
          have c2' : (Go.bits .and .i64 b2 1 == 0) = false := beq_eq_false_iff_ne.mpr c2
          by_cases c9 : b2 > 9
          · rw [if_pos c9] at h
            simp only [pduBad, Option.some.injEq, Prod.mk.injEq] at h
            obtain ⟨rfl, rfl, rfl, rfl, rfl, rfl, rfl, rfl, rfl, rfl⟩ := h
            have c9' : decide (9 < b2) = true := decide_eq_true c9
            have c9'' : decide (b2 > 9) = true := decide_eq_true c9
            clear c9 c2
            go_enter Try.func33, Try.ntmps33
            go_wp2_with fail
            go_region_held3 (fun w' => w'.cell? ad = some (.int .u8 b0) ∧ w'.cell? { block := ad.block, off := ad.off + 1 } = some (.int .u8 b1)) (refine ⟨?_, ?_⟩ <;> repeat (first | exact HA0.out | exact HA1.out | refine Go.Lib.cell?_alloc_some _ ?_)) (fail)
            go_wp2_with fail
            refine (HCP.out _ (by repeat (first | (with_reducible first | exact HB00.out | apply below_alloc | apply pw_below_drewN | apply below_drew1) | exact HB00.out))).mono ?_
            rintro e w1 ⟨v1, rfl, hR, hB⟩
            have hSz : w.heap.size + 2 ≤ w1.heap.size := Nat.le_trans (Nat.le_of_eq (H2.out (.cells #[.int .i64 0, .int .i64 0, .bool false, .int .i64 0, .int .i64 0, .int .i64 0, .int .i64 0, .bool false, .slice none 0 0] 25) (.cells #[.int .i64 b0, .int .i64 (Go.bits .andNot .i64 b1 1), .bool (Go.bits .and .u8 b1 1 == 1), .int .i64 (0), .int .i64 (0), .int .i64 (0), .int .i64 (b3 / 2), .bool (Go.bits .and .u8 b3 1 == 1), .slice none 0 0] 25)).symm) hB.size
            obtain ⟨A8, c8, rfl, hc8, hC8⟩ := Kd.R_reads hR
            have hs1 := H2.out (.cells #[.int .i64 0, .int .i64 0, .bool false, .int .i64 0, .int .i64 0, .int .i64 0, .int .i64 0, .bool false, .slice none 0 0] 25) (.cells #[.int .i64 b0, .int .i64 (Go.bits .andNot .i64 b1 1), .bool (Go.bits .and .u8 b1 1 == 1), .int .i64 (0), .int .i64 (0), .int .i64 (0), .int .i64 (b3 / 2), .bool (Go.bits .and .u8 b3 1 == 1), .slice none 0 0] 25)
            have hp1 : w1.heap[w.heap.size + 1]? = some (.cells #[.int .i64 b0, .int .i64 (Go.bits .andNot .i64 b1 1), .bool (Go.bits .and .u8 b1 1 == 1), .int .i64 (0), .int .i64 (0), .int .i64 (0), .int .i64 (b3 / 2), .bool (Go.bits .and .u8 b3 1 == 1), .slice none 0 0] 25 (0, 0)) := (hB.block _ (Nat.lt_of_lt_of_eq (by omega) hs1.symm)).trans (HNEW.out (.cells #[.int .i64 0, .int .i64 0, .bool false, .int .i64 0, .int .i64 0, .int .i64 0, .int .i64 0, .bool false, .slice none 0 0] 25) (.cells #[.int .i64 b0, .int .i64 (Go.bits .andNot .i64 b1 1), .bool (Go.bits .and .u8 b1 1 == 1), .int .i64 (0), .int .i64 (0), .int .i64 (0), .int .i64 (b3 / 2), .bool (Go.bits .and .u8 b3 1 == 1), .slice none 0 0] 25))
            have hz1 : w1.heap[w.heap.size]? = some (.cells #[.int .i64 0, .int .i64 0, .bool false, .int .i64 0, .int .i64 0, .int .i64 0, .int .i64 0, .bool false, .slice none 0 0] 25 (0, 0)) := (hB.block _ (Nat.lt_of_lt_of_eq (by omega) hs1.symm)).trans (blk_alloc (blk_new w (.cells #[.int .i64 0, .int .i64 0, .bool false, .int .i64 0, .int .i64 0, .int .i64 0, .int .i64 0, .bool false, .slice none 0 0] 25)) (.cells #[.int .i64 b0, .int .i64 (Go.bits .andNot .i64 b1 1), .bool (Go.bits .and .u8 b1 1 == 1), .int .i64 (0), .int .i64 (0), .int .i64 (0), .int .i64 (b3 / 2), .bool (Go.bits .and .u8 b3 1 == 1), .slice none 0 0] 25))
            have hbw : Below w.heap.size w w1 := below_step (by repeat (first | (with_reducible first | exact HB00.out | apply below_alloc | apply pw_below_drewN | apply below_drew1) | exact HB00.out)) hB
            have HR1 := Aside0.mk (Kd.R_lower (base' := w.heap.size) (Kd.R_mono (Kd.R_bound hR) (ok' := fun k => k ≠ w.heap.size + 1 ∧ k ≠ w.heap.size) (fun k hk => by have h9 := hk.2.1; have h8 := Nat.lt_of_lt_of_eq (show w.heap.size + 1 < w.heap.size + 2 by omega) hs1.symm; exact ⟨fun e => absurd (Nat.lt_of_lt_of_le h8 h9) (by omega), fun e => absurd (Nat.lt_of_lt_of_le h8 h9) (by omega)⟩)) (Nat.le_trans (by omega) (Nat.le_of_eq hs1.symm)))
            have HP1 := Aside0.mk hp1
            have HZ1 := Aside0.mk hz1
            have HBW := Aside0.mk hbw
            have HSZ := Aside0.mk (show w.heap.size + 1 < w1.heap.size by omega)
            have HCL8 := Aside0.mk hc8
            have kq0 : w1.cell? ⟨w.heap.size + 1, 0, none⟩ = some (.int .i64 b0) := (blk_cell hp1 0).trans rfl
            have kf0 : w1.frozen? ⟨w.heap.size + 1, 0, none⟩ = false := blk_frozen hp1 0
            have kq1 : w1.cell? ⟨w.heap.size + 1, 1, none⟩ = some (.int .i64 (Go.bits .andNot .i64 b1 1)) := (blk_cell hp1 1).trans rfl
            have kf1 : w1.frozen? ⟨w.heap.size + 1, 1, none⟩ = false := blk_frozen hp1 1
            have kq2 : w1.cell? ⟨w.heap.size + 1, 2, none⟩ = some (.bool (Go.bits .and .u8 b1 1 == 1)) := (blk_cell hp1 2).trans rfl
            have kf2 : w1.frozen? ⟨w.heap.size + 1, 2, none⟩ = false := blk_frozen hp1 2
            have kq3 : w1.cell? ⟨w.heap.size + 1, 3, none⟩ = some (.int .i64 (0)) := (blk_cell hp1 3).trans rfl
            have kf3 : w1.frozen? ⟨w.heap.size + 1, 3, none⟩ = false := blk_frozen hp1 3
            have kq4 : w1.cell? ⟨w.heap.size + 1, 4, none⟩ = some (.int .i64 (0)) := (blk_cell hp1 4).trans rfl
            have kf4 : w1.frozen? ⟨w.heap.size + 1, 4, none⟩ = false := blk_frozen hp1 4
            have kq5 : w1.cell? ⟨w.heap.size + 1, 5, none⟩ = some (.int .i64 (0)) := (blk_cell hp1 5).trans rfl
            have kf5 : w1.frozen? ⟨w.heap.size + 1, 5, none⟩ = false := blk_frozen hp1 5
            have kq6 : w1.cell? ⟨w.heap.size + 1, 6, none⟩ = some (.int .i64 (b3 / 2)) := (blk_cell hp1 6).trans rfl
            have kf6 : w1.frozen? ⟨w.heap.size + 1, 6, none⟩ = false := blk_frozen hp1 6
            have kq7 : w1.cell? ⟨w.heap.size + 1, 7, none⟩ = some (.bool (Go.bits .and .u8 b3 1 == 1)) := (blk_cell hp1 7).trans rfl
            have kf7 : w1.frozen? ⟨w.heap.size + 1, 7, none⟩ = false := blk_frozen hp1 7
            have kq8 : w1.cell? ⟨w.heap.size + 1, 8, none⟩ = some (.slice none 0 0) := (blk_cell hp1 8).trans rfl
            have kf8 : w1.frozen? ⟨w.heap.size + 1, 8, none⟩ = false := blk_frozen hp1 8
            have zq0 : w1.cell? ⟨w.heap.size, 0, none⟩ = some (.int .i64 0) := (blk_cell hz1 0).trans rfl
            have zf0 : w1.frozen? ⟨w.heap.size, 0, none⟩ = false := blk_frozen hz1 0
            have zq1 : w1.cell? ⟨w.heap.size, 1, none⟩ = some (.int .i64 0) := (blk_cell hz1 1).trans rfl
            have zf1 : w1.frozen? ⟨w.heap.size, 1, none⟩ = false := blk_frozen hz1 1
            have zq2 : w1.cell? ⟨w.heap.size, 2, none⟩ = some (.bool false) := (blk_cell hz1 2).trans rfl
            have zf2 : w1.frozen? ⟨w.heap.size, 2, none⟩ = false := blk_frozen hz1 2
            have zq3 : w1.cell? ⟨w.heap.size, 3, none⟩ = some (.int .i64 0) := (blk_cell hz1 3).trans rfl
            have zf3 : w1.frozen? ⟨w.heap.size, 3, none⟩ = false := blk_frozen hz1 3
            have zq4 : w1.cell? ⟨w.heap.size, 4, none⟩ = some (.int .i64 0) := (blk_cell hz1 4).trans rfl
            have zf4 : w1.frozen? ⟨w.heap.size, 4, none⟩ = false := blk_frozen hz1 4
            have zq5 : w1.cell? ⟨w.heap.size, 5, none⟩ = some (.int .i64 0) := (blk_cell hz1 5).trans rfl
            have zf5 : w1.frozen? ⟨w.heap.size, 5, none⟩ = false := blk_frozen hz1 5
            have zq6 : w1.cell? ⟨w.heap.size, 6, none⟩ = some (.int .i64 0) := (blk_cell hz1 6).trans rfl
            have zf6 : w1.frozen? ⟨w.heap.size, 6, none⟩ = false := blk_frozen hz1 6
            have zq7 : w1.cell? ⟨w.heap.size, 7, none⟩ = some (.bool false) := (blk_cell hz1 7).trans rfl
            have zf7 : w1.frozen? ⟨w.heap.size, 7, none⟩ = false := blk_frozen hz1 7
            have zq8 : w1.cell? ⟨w.heap.size, 8, none⟩ = some (.slice none 0 0) := (blk_cell hz1 8).trans rfl
            have zf8 : w1.frozen? ⟨w.heap.size, 8, none⟩ = false := blk_frozen hz1 8
            clear hB hR hc8 hC8 hs1 hp1 hz1 hbw hSz
            go_wp2_with fail
            refine bodyPost_ret (v := .tuple #[.agg #[.int .i64 0, .int .i64 0, .bool false, .int .i64 0, .int .i64 0, .int .i64 0, .int .i64 0, .bool false, .slice none 0 0], .int .i64 4]) (by simp [results, Try.results33, go_sem, hu, zq0, zf0, zq1, zf1, zq2, zf2, zq3, zf3, zq4, zf4, zq5, zf5, zq6, zf6, zq7, zf7, zq8, zf8]) rfl ⟨_, rfl, Kd.R_nil _ _ _ _ _, ?_⟩
            repeat (with_reducible refine below_set ?_ (by omega))
            exact HBW.out
          · rw [if_neg c9] at h
            have H := Aside0.mk h
            have c9' : decide (9 < b2) = false := decide_eq_false c9
            have c9'' : decide (b2 > 9) = false := decide_eq_false c9
            clear h c9 c2
            go_enter Try.func33, Try.ntmps33
            go_wp2_with fail
            go_region_held3 (fun w' => w'.cell? ad = some (.int .u8 b0) ∧ w'.cell? { block := ad.block, off := ad.off + 1 } = some (.int .u8 b1)) (refine ⟨?_, ?_⟩ <;> repeat (first | exact HA0.out | exact HA1.out | refine Go.Lib.cell?_alloc_some _ ?_)) (fail)
            go_wp2_with fail
            refine (HCP.out _ (by repeat (first | (with_reducible first | exact HB00.out | apply below_alloc | apply pw_below_drewN | apply below_drew1) | exact HB00.out))).mono ?_
            rintro e w1 ⟨v1, rfl, hR, hB⟩
            have hSz : w.heap.size + 2 ≤ w1.heap.size := Nat.le_trans (Nat.le_of_eq (H2.out (.cells #[.int .i64 0, .int .i64 0, .bool false, .int .i64 0, .int .i64 0, .int .i64 0, .int .i64 0, .bool false, .slice none 0 0] 25) (.cells #[.int .i64 b0, .int .i64 (Go.bits .andNot .i64 b1 1), .bool (Go.bits .and .u8 b1 1 == 1), .int .i64 (0), .int .i64 (0), .int .i64 (0), .int .i64 (b3 / 2), .bool (Go.bits .and .u8 b3 1 == 1), .slice none 0 0] 25)).symm) hB.size
            obtain ⟨A8, c8, rfl, hc8, hC8⟩ := Kd.R_reads hR
            have hs1 := H2.out (.cells #[.int .i64 0, .int .i64 0, .bool false, .int .i64 0, .int .i64 0, .int .i64 0, .int .i64 0, .bool false, .slice none 0 0] 25) (.cells #[.int .i64 b0, .int .i64 (Go.bits .andNot .i64 b1 1), .bool (Go.bits .and .u8 b1 1 == 1), .int .i64 (0), .int .i64 (0), .int .i64 (0), .int .i64 (b3 / 2), .bool (Go.bits .and .u8 b3 1 == 1), .slice none 0 0] 25)
            have hp1 : w1.heap[w.heap.size + 1]? = some (.cells #[.int .i64 b0, .int .i64 (Go.bits .andNot .i64 b1 1), .bool (Go.bits .and .u8 b1 1 == 1), .int .i64 (0), .int .i64 (0), .int .i64 (0), .int .i64 (b3 / 2), .bool (Go.bits .and .u8 b3 1 == 1), .slice none 0 0] 25 (0, 0)) := (hB.block _ (Nat.lt_of_lt_of_eq (by omega) hs1.symm)).trans (HNEW.out (.cells #[.int .i64 0, .int .i64 0, .bool false, .int .i64 0, .int .i64 0, .int .i64 0, .int .i64 0, .bool false, .slice none 0 0] 25) (.cells #[.int .i64 b0, .int .i64 (Go.bits .andNot .i64 b1 1), .bool (Go.bits .and .u8 b1 1 == 1), .int .i64 (0), .int .i64 (0), .int .i64 (0), .int .i64 (b3 / 2), .bool (Go.bits .and .u8 b3 1 == 1), .slice none 0 0] 25))
            have hz1 : w1.heap[w.heap.size]? = some (.cells #[.int .i64 0, .int .i64 0, .bool false, .int .i64 0, .int .i64 0, .int .i64 0, .int .i64 0, .bool false, .slice none 0 0] 25 (0, 0)) := (hB.block _ (Nat.lt_of_lt_of_eq (by omega) hs1.symm)).trans (blk_alloc (blk_new w (.cells #[.int .i64 0, .int .i64 0, .bool false, .int .i64 0, .int .i64 0, .int .i64 0, .int .i64 0, .bool false, .slice none 0 0] 25)) (.cells #[.int .i64 b0, .int .i64 (Go.bits .andNot .i64 b1 1), .bool (Go.bits .and .u8 b1 1 == 1), .int .i64 (0), .int .i64 (0), .int .i64 (0), .int .i64 (b3 / 2), .bool (Go.bits .and .u8 b3 1 == 1), .slice none 0 0] 25))
            have hbw : Below w.heap.size w w1 := below_step (by repeat (first | (with_reducible first | exact HB00.out | apply below_alloc | apply pw_below_drewN | apply below_drew1) | exact HB00.out)) hB
            have HR1 := Aside0.mk (Kd.R_lower (base' := w.heap.size) (Kd.R_mono (Kd.R_bound hR) (ok' := fun k => k ≠ w.heap.size + 1 ∧ k ≠ w.heap.size) (fun k hk => by have h9 := hk.2.1; have h8 := Nat.lt_of_lt_of_eq (show w.heap.size + 1 < w.heap.size + 2 by omega) hs1.symm; exact ⟨fun e => absurd (Nat.lt_of_lt_of_le h8 h9) (by omega), fun e => absurd (Nat.lt_of_lt_of_le h8 h9) (by omega)⟩)) (Nat.le_trans (by omega) (Nat.le_of_eq hs1.symm)))
            have HP1 := Aside0.mk hp1
            have HZ1 := Aside0.mk hz1
            have HBW := Aside0.mk hbw
            have HSZ := Aside0.mk (show w.heap.size + 1 < w1.heap.size by omega)
            have HCL8 := Aside0.mk hc8
            have kq0 : w1.cell? ⟨w.heap.size + 1, 0, none⟩ = some (.int .i64 b0) := (blk_cell hp1 0).trans rfl
            have kf0 : w1.frozen? ⟨w.heap.size + 1, 0, none⟩ = false := blk_frozen hp1 0
            have kq1 : w1.cell? ⟨w.heap.size + 1, 1, none⟩ = some (.int .i64 (Go.bits .andNot .i64 b1 1)) := (blk_cell hp1 1).trans rfl
            have kf1 : w1.frozen? ⟨w.heap.size + 1, 1, none⟩ = false := blk_frozen hp1 1
            have kq2 : w1.cell? ⟨w.heap.size + 1, 2, none⟩ = some (.bool (Go.bits .and .u8 b1 1 == 1)) := (blk_cell hp1 2).trans rfl
            have kf2 : w1.frozen? ⟨w.heap.size + 1, 2, none⟩ = false := blk_frozen hp1 2
            have kq3 : w1.cell? ⟨w.heap.size + 1, 3, none⟩ = some (.int .i64 (0)) := (blk_cell hp1 3).trans rfl
            have kf3 : w1.frozen? ⟨w.heap.size + 1, 3, none⟩ = false := blk_frozen hp1 3
            have kq4 : w1.cell? ⟨w.heap.size + 1, 4, none⟩ = some (.int .i64 (0)) := (blk_cell hp1 4).trans rfl
            have kf4 : w1.frozen? ⟨w.heap.size + 1, 4, none⟩ = false := blk_frozen hp1 4
            have kq5 : w1.cell? ⟨w.heap.size + 1, 5, none⟩ = some (.int .i64 (0)) := (blk_cell hp1 5).trans rfl
            have kf5 : w1.frozen? ⟨w.heap.size + 1, 5, none⟩ = false := blk_frozen hp1 5
            have kq6 : w1.cell? ⟨w.heap.size + 1, 6, none⟩ = some (.int .i64 (b3 / 2)) := (blk_cell hp1 6).trans rfl
            have kf6 : w1.frozen? ⟨w.heap.size + 1, 6, none⟩ = false := blk_frozen hp1 6
            have kq7 : w1.cell? ⟨w.heap.size + 1, 7, none⟩ = some (.bool (Go.bits .and .u8 b3 1 == 1)) := (blk_cell hp1 7).trans rfl
            have kf7 : w1.frozen? ⟨w.heap.size + 1, 7, none⟩ = false := blk_frozen hp1 7
            have kq8 : w1.cell? ⟨w.heap.size + 1, 8, none⟩ = some (.slice none 0 0) := (blk_cell hp1 8).trans rfl
            have kf8 : w1.frozen? ⟨w.heap.size + 1, 8, none⟩ = false := blk_frozen hp1 8
            clear hB hR hc8 hC8 hs1 hp1 hz1 hbw hSz
            have HP8 := Aside0.mk (blk_put (blk_put (blk_put (HP1.out) 8 (.slice A8 inf.length c8) rfl) 3 (.int .i64 1) rfl) 4 (.int .i64 (b2 / 4)) rfl)
            have HR8 := Aside0.mk (Kd.R_far (Kd.R_far (Kd.R_far (HR1.out) (p := ⟨w.heap.size + 1, 8, none⟩) (fun k hk => hk.1) (.slice A8 inf.length c8)) (p := ⟨w.heap.size + 1, 3, none⟩) (fun k hk => hk.1) (.int .i64 1)) (p := ⟨w.heap.size + 1, 4, none⟩) (fun k hk => hk.1) (.int .i64 (b2 / 4)))
            have HB8 := Aside0.mk (below_set (g := w.heap.size + 1) (j := 4) (v := .int .i64 (b2 / 4)) (below_set (g := w.heap.size + 1) (j := 3) (v := .int .i64 1) (below_set (g := w.heap.size + 1) (j := 8) (v := .slice A8 inf.length c8) (HBW.out) (by omega)) (by omega)) (by omega))
            have HRES8 := Aside0.mk (blk_far (blk_far (blk_far (HZ1.out) (p := ⟨w.heap.size + 1, 8, none⟩) (by simp) (.slice A8 inf.length c8)) (p := ⟨w.heap.size + 1, 3, none⟩) (by simp) (.int .i64 1)) (p := ⟨w.heap.size + 1, 4, none⟩) (by simp) (.int .i64 (b2 / 4)))
            have HC8 := Aside0.mk (Kd.R_reads' HR8.out).2.2
            rcases fin_cases6 H.out with ⟨hm, hr⟩ | ⟨hm, hr⟩
            · simp only [Prod.mk.injEq] at hr
              obtain ⟨rfl, rfl, rfl, rfl, rfl, rfl, rfl, rfl, rfl, rfl⟩ := hr
              have HM := Aside0.mk hm
              clear hm
              go_wp2_with fail
              refine (antiphonref6_May.calls k _ _ _ _ _ _ _ _ A8 c8 inf true _ HC8.out HCL8.out HM.out).mono ?_
              rintro e w9 ⟨rfl, hB9⟩
              have HB9 := Aside0.mk hB9
              have hp9 := blk_below HP8.out hB9
              have hz9 := blk_below HRES8.out hB9
              clear hB9
              have pq0 : w9.cell? ⟨w.heap.size + 1, 0, none⟩ = some (.int .i64 b0) := (blk_cell hp9 0).trans rfl
              have pf0 : w9.frozen? ⟨w.heap.size + 1, 0, none⟩ = false := blk_frozen hp9 0
              have pq1 : w9.cell? ⟨w.heap.size + 1, 1, none⟩ = some (.int .i64 (Go.bits .andNot .i64 b1 1)) := (blk_cell hp9 1).trans rfl
              have pf1 : w9.frozen? ⟨w.heap.size + 1, 1, none⟩ = false := blk_frozen hp9 1
              have pq2 : w9.cell? ⟨w.heap.size + 1, 2, none⟩ = some (.bool (Go.bits .and .u8 b1 1 == 1)) := (blk_cell hp9 2).trans rfl
              have pf2 : w9.frozen? ⟨w.heap.size + 1, 2, none⟩ = false := blk_frozen hp9 2
              have pq3 : w9.cell? ⟨w.heap.size + 1, 3, none⟩ = some (.int .i64 (1)) := (blk_cell hp9 3).trans rfl
              have pf3 : w9.frozen? ⟨w.heap.size + 1, 3, none⟩ = false := blk_frozen hp9 3
              have pq4 : w9.cell? ⟨w.heap.size + 1, 4, none⟩ = some (.int .i64 (b2 / 4)) := (blk_cell hp9 4).trans rfl
              have pf4 : w9.frozen? ⟨w.heap.size + 1, 4, none⟩ = false := blk_frozen hp9 4
              have pq5 : w9.cell? ⟨w.heap.size + 1, 5, none⟩ = some (.int .i64 (0)) := (blk_cell hp9 5).trans rfl
              have pf5 : w9.frozen? ⟨w.heap.size + 1, 5, none⟩ = false := blk_frozen hp9 5
              have pq6 : w9.cell? ⟨w.heap.size + 1, 6, none⟩ = some (.int .i64 (b3 / 2)) := (blk_cell hp9 6).trans rfl
              have pf6 : w9.frozen? ⟨w.heap.size + 1, 6, none⟩ = false := blk_frozen hp9 6
              have pq7 : w9.cell? ⟨w.heap.size + 1, 7, none⟩ = some (.bool (Go.bits .and .u8 b3 1 == 1)) := (blk_cell hp9 7).trans rfl
              have pf7 : w9.frozen? ⟨w.heap.size + 1, 7, none⟩ = false := blk_frozen hp9 7
              have pq8 : w9.cell? ⟨w.heap.size + 1, 8, none⟩ = some (.slice A8 inf.length c8) := (blk_cell hp9 8).trans rfl
              have pf8 : w9.frozen? ⟨w.heap.size + 1, 8, none⟩ = false := blk_frozen hp9 8
              have zq0 : w9.cell? ⟨w.heap.size, 0, none⟩ = some (.int .i64 0) := (blk_cell hz9 0).trans rfl
              have zf0 : w9.frozen? ⟨w.heap.size, 0, none⟩ = false := blk_frozen hz9 0
              have zq1 : w9.cell? ⟨w.heap.size, 1, none⟩ = some (.int .i64 0) := (blk_cell hz9 1).trans rfl
              have zf1 : w9.frozen? ⟨w.heap.size, 1, none⟩ = false := blk_frozen hz9 1
              have zq2 : w9.cell? ⟨w.heap.size, 2, none⟩ = some (.bool false) := (blk_cell hz9 2).trans rfl
              have zf2 : w9.frozen? ⟨w.heap.size, 2, none⟩ = false := blk_frozen hz9 2
              have zq3 : w9.cell? ⟨w.heap.size, 3, none⟩ = some (.int .i64 0) := (blk_cell hz9 3).trans rfl
              have zf3 : w9.frozen? ⟨w.heap.size, 3, none⟩ = false := blk_frozen hz9 3
              have zq4 : w9.cell? ⟨w.heap.size, 4, none⟩ = some (.int .i64 0) := (blk_cell hz9 4).trans rfl
              have zf4 : w9.frozen? ⟨w.heap.size, 4, none⟩ = false := blk_frozen hz9 4
              have zq5 : w9.cell? ⟨w.heap.size, 5, none⟩ = some (.int .i64 0) := (blk_cell hz9 5).trans rfl
              have zf5 : w9.frozen? ⟨w.heap.size, 5, none⟩ = false := blk_frozen hz9 5
              have zq6 : w9.cell? ⟨w.heap.size, 6, none⟩ = some (.int .i64 0) := (blk_cell hz9 6).trans rfl
              have zf6 : w9.frozen? ⟨w.heap.size, 6, none⟩ = false := blk_frozen hz9 6
              have zq7 : w9.cell? ⟨w.heap.size, 7, none⟩ = some (.bool false) := (blk_cell hz9 7).trans rfl
              have zf7 : w9.frozen? ⟨w.heap.size, 7, none⟩ = false := blk_frozen hz9 7
              have zq8 : w9.cell? ⟨w.heap.size, 8, none⟩ = some (.slice none 0 0) := (blk_cell hz9 8).trans rfl
              have zf8 : w9.frozen? ⟨w.heap.size, 8, none⟩ = false := blk_frozen hz9 8
              clear hp9 hz9
              go_wp2
              refine bodyPost_ret (v := .tuple #[.agg #[.int .i64 b0, .int .i64 (Go.bits .andNot .i64 b1 1), .bool (Go.bits .and .u8 b1 1 == 1), .int .i64 (1), .int .i64 (b2 / 4), .int .i64 (0), .int .i64 (b3 / 2), .bool (Go.bits .and .u8 b3 1 == 1), .slice A8 inf.length c8], .int .i64 0]) (by simp [results, Try.results33, go_sem, hu, zq0, zf0, zq1, zf1, zq2, zf2, zq3, zf3, zq4, zf4, zq5, zf5, zq6, zf6, zq7, zf7, zq8, zf8]) rfl ⟨_, rfl, ?_, ?_⟩
              · refine Kd.R_mono (ok := fun k => k ≠ w.heap.size + 1 ∧ k ≠ w.heap.size) ?_ (fun _ _ => trivial)
                repeat (with_reducible refine Kd.R_far ?_ (fun k hk => hk.2) _)
                exact Kd.R_below HR8.out HB9.out
              · repeat (with_reducible refine below_set ?_ (Nat.le_refl _))
                exact below_step HB8.out HB9.out
            · simp only [pduBad, Prod.mk.injEq] at hr
              obtain ⟨rfl, rfl, rfl, rfl, rfl, rfl, rfl, rfl, rfl, rfl⟩ := hr
              have HM := Aside0.mk hm
              clear hm
              go_wp2_with fail
              refine (antiphonref6_May.calls k _ _ _ _ _ _ _ _ A8 c8 inf false _ HC8.out HCL8.out HM.out).mono ?_
              rintro e w9 ⟨rfl, hB9⟩
              have HB9 := Aside0.mk hB9
              have hp9 := blk_below HP8.out hB9
              have hz9 := blk_below HRES8.out hB9
              clear hB9
              have zq0 : w9.cell? ⟨w.heap.size, 0, none⟩ = some (.int .i64 0) := (blk_cell hz9 0).trans rfl
              have zf0 : w9.frozen? ⟨w.heap.size, 0, none⟩ = false := blk_frozen hz9 0
              have zq1 : w9.cell? ⟨w.heap.size, 1, none⟩ = some (.int .i64 0) := (blk_cell hz9 1).trans rfl
              have zf1 : w9.frozen? ⟨w.heap.size, 1, none⟩ = false := blk_frozen hz9 1
              have zq2 : w9.cell? ⟨w.heap.size, 2, none⟩ = some (.bool false) := (blk_cell hz9 2).trans rfl
              have zf2 : w9.frozen? ⟨w.heap.size, 2, none⟩ = false := blk_frozen hz9 2
              have zq3 : w9.cell? ⟨w.heap.size, 3, none⟩ = some (.int .i64 0) := (blk_cell hz9 3).trans rfl
              have zf3 : w9.frozen? ⟨w.heap.size, 3, none⟩ = false := blk_frozen hz9 3
              have zq4 : w9.cell? ⟨w.heap.size, 4, none⟩ = some (.int .i64 0) := (blk_cell hz9 4).trans rfl
              have zf4 : w9.frozen? ⟨w.heap.size, 4, none⟩ = false := blk_frozen hz9 4
              have zq5 : w9.cell? ⟨w.heap.size, 5, none⟩ = some (.int .i64 0) := (blk_cell hz9 5).trans rfl
              have zf5 : w9.frozen? ⟨w.heap.size, 5, none⟩ = false := blk_frozen hz9 5
              have zq6 : w9.cell? ⟨w.heap.size, 6, none⟩ = some (.int .i64 0) := (blk_cell hz9 6).trans rfl
              have zf6 : w9.frozen? ⟨w.heap.size, 6, none⟩ = false := blk_frozen hz9 6
              have zq7 : w9.cell? ⟨w.heap.size, 7, none⟩ = some (.bool false) := (blk_cell hz9 7).trans rfl
              have zf7 : w9.frozen? ⟨w.heap.size, 7, none⟩ = false := blk_frozen hz9 7
              have zq8 : w9.cell? ⟨w.heap.size, 8, none⟩ = some (.slice none 0 0) := (blk_cell hz9 8).trans rfl
              have zf8 : w9.frozen? ⟨w.heap.size, 8, none⟩ = false := blk_frozen hz9 8
              clear hp9 hz9
              go_wp2
              refine bodyPost_ret (v := .tuple #[.agg #[.int .i64 0, .int .i64 0, .bool false, .int .i64 0, .int .i64 0, .int .i64 0, .int .i64 0, .bool false, .slice none 0 0], .int .i64 4]) (by simp [results, Try.results33, go_sem, hu, zq0, zf0, zq1, zf1, zq2, zf2, zq3, zf3, zq4, zf4, zq5, zf5, zq6, zf6, zq7, zf7, zq8, zf8]) rfl ⟨_, rfl, Kd.R_nil _ _ _ _ _, ?_⟩
              repeat (with_reducible refine below_set ?_ (Nat.le_refl _))
              exact below_step HB8.out HB9.out
end Go.Proofs.Ytnmcoebjkfpmjaa.P
