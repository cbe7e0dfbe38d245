/- Of all controls of one byte, behind any two SAPs, just those are known that are said; of two bytes likewise. -/
-- Put together by wip/print2/mergelaw.py: printed words (what this claim does not use is left out), printed functions, texts of this session.
import Derived.Test.YtnmcoebjkfpmjaaMPduAll4
/-! Px39 -/
namespace Go.Proofs.Ytnmcoebjkfpmjaa.P
open Go.RowKit Go.Proofs.YtnmcoebjkfpmjaaW.PrintWords Go.Proofs.YtnmcoebjkfpmjaaW.PrintLast Go.Proofs.YtnmcoebjkfpmjaaW.PrintMore
attribute [local go_sem] max2_int min2_int max_two min_two max_three min_three max_four min_four   -- for this text's walks alone
set_option linter.unusedVariables false
set_option linter.unusedSimpArgs false
def antiphonref6_Code.f (a0 : Int) : Option (Int) := (some (([3, 175, 227, 111, 67, 99, 15, 135, 103, 231] : List Int) : List Int)).bind fun y101 => (if a0 < 0 then (some 0) else (if a0 ≥ (y101.length : Int) then (some 0) else (if 0 ≤ a0 then (if a0 < (y101.length : Int) then (some (rd y101 a0)) else (none)) else (none))))
set_option maxHeartbeats 8000000 in
set_option maxRecDepth 100000 in
theorem antiphonref6_Code.calls (a0 : Int) (r : Int) (w : World) (h : antiphonref6_Code.f a0 = some r) :
    Calls Try.prog 38 #[.int .i64 a0] w fun e w' => e = .returned (.int .i64 r) ∧ Below w.heap.size w w' := by
  have HB := Aside0.mk (Below.refl w.heap.size w)
  have H : ((some (([3, 175, 227, 111, 67, 99, 15, 135, 103, 231] : List Int) : List Int)).bind fun y101 => (if a0 < 0 then (some 0) else (if a0 ≥ (y101.length : Int) then (some 0) else (if 0 ≤ a0 then (if a0 < (y101.length : Int) then (some (rd y101 a0)) else (none)) else (none))))) = some r := h
  clear h
  obtain ⟨y101, hy101⟩ : ∃ y_ : List Int, y_ = (([3, 175, 227, 111, 67, 99, 15, 135, 103, 231] : List Int)) := ⟨_, rfl⟩
  replace H : (if a0 < 0 then (some 0) else (if a0 ≥ (y101.length : Int) then (some 0) else (if 0 ≤ a0 then (if a0 < (y101.length : Int) then (some (rd y101 a0)) else (none)) else (none)))) = some r := by first | (rw [hy101]; with_reducible exact H) | (have H2_ := (Option.bind_some _ _).symm.trans H; rw [hy101]; with_reducible exact H2_) | (have H2_ := (Option.bind_some _ _).symm.trans H; with_reducible exact H2_) | with_reducible exact H | (rw [hy101]; exact H) | exact H
  have Ny101 := Aside0.mk hy101
  clear hy101
  by_cases c2 : a0 < 0
  · rw [if_pos c2] at H
    have c2b0 : decide (a0 < 0) = true := decide_eq_true c2
    clear c2
    obtain rfl := Option.some.inj H
    go_enter Try.func38, Try.ntmps38
    go_wp2_with (first | ((with_reducible refine gate_dst (N := 4) rfl ?_); (try (refine gate_guard (by rfl) ?_; dsimp only)); refine Kd.R_lit (Kd.int .i64) _ 3 ?hg (N := 4) ?hd (xs := ([3, 175, 227, 111, 67, 99, 15, 135, 103, 231] : List Int)) (inner := [.int .i64 3, .int .i64 175, .int .i64 227, .int .i64 111, .int .i64 67, .int .i64 99, .int .i64 15, .int .i64 135, .int .i64 103, .int .i64 231]) (ok := fun _ => True) (okp := fun _ => True) ?hr ?hp (fun _ hk => hk) trivial (Below.refl _ _) (Nat.le_refl _) (by simp) ?_; (case hd => rfl); (case hg => rfl); (case hr => first | (go_simp; done) | (go_simp; rfl)); (case hp => exact (Reps.one (show Kd.M (Kd.int .i64) _ _ _ 3 [.int .i64 3] from rfl) (Reps.one (show Kd.M (Kd.int .i64) _ _ _ 175 [.int .i64 175] from rfl) (Reps.one (show Kd.M (Kd.int .i64) _ _ _ 227 [.int .i64 227] from rfl) (Reps.one (show Kd.M (Kd.int .i64) _ _ _ 111 [.int .i64 111] from rfl) (Reps.one (show Kd.M (Kd.int .i64) _ _ _ 67 [.int .i64 67] from rfl) (Reps.one (show Kd.M (Kd.int .i64) _ _ _ 99 [.int .i64 99] from rfl) (Reps.one (show Kd.M (Kd.int .i64) _ _ _ 15 [.int .i64 15] from rfl) (Reps.one (show Kd.M (Kd.int .i64) _ _ _ 135 [.int .i64 135] from rfl) (Reps.one (show Kd.M (Kd.int .i64) _ _ _ 103 [.int .i64 103] from rfl) (Reps.one (show Kd.M (Kd.int .i64) _ _ _ 231 [.int .i64 231] from rfl) (Reps.none _ _)))))))))))); intro v102 w3 ho4 hb hg_ hnew_; clear hg_ hnew_; (first | rw [← Ny101.out] at ho4 | (simp only [Int.reduceToNat] at ho4; rw [← Ny101.out] at ho4)); have n0_ := Aside0.mk (Kd.R_lower ho4 (below_size (by repeat (first | (with_reducible first | exact HB.out | apply below_alloc | apply pw_below_drewN | apply below_drew1) | exact HB.out)))); have n1_ := Aside0.mk (below_step (by repeat (first | (with_reducible first | exact HB.out | apply below_alloc | apply pw_below_drewN | apply below_drew1) | exact HB.out)) hb); clear HB; have HO103 := n0_; have HB := n1_; clear n0_ n1_; clear hb ho4))
    go_ret
    exact ⟨by first | rfl | (simp [errW_none, errW_some] <;> rfl) | (simp [*, errW_none, errW_some] <;> rfl), by repeat (first | (with_reducible first | exact HB.out | apply below_alloc | apply pw_below_drewN | apply below_drew1) | exact HB.out)⟩
  · rw [if_neg c2] at H
    have c2b0 : decide (a0 < 0) = false := decide_eq_false c2
    clear c2
    by_cases c5 : a0 ≥ (y101.length : Int)
    · rw [if_pos c5] at H
      have c5b0 : decide ((y101.length : Int) ≤ a0) = true := decide_eq_true c5
      clear c5
      obtain rfl := Option.some.inj H
      go_enter Try.func38, Try.ntmps38
      go_wp2_with (first | ((with_reducible refine gate_dst (N := 4) rfl ?_); (try (refine gate_guard (by rfl) ?_; dsimp only)); refine Kd.R_lit (Kd.int .i64) _ 3 ?hg (N := 4) ?hd (xs := ([3, 175, 227, 111, 67, 99, 15, 135, 103, 231] : List Int)) (inner := [.int .i64 3, .int .i64 175, .int .i64 227, .int .i64 111, .int .i64 67, .int .i64 99, .int .i64 15, .int .i64 135, .int .i64 103, .int .i64 231]) (ok := fun _ => True) (okp := fun _ => True) ?hr ?hp (fun _ hk => hk) trivial (Below.refl _ _) (Nat.le_refl _) (by simp) ?_; (case hd => rfl); (case hg => rfl); (case hr => first | (go_simp; done) | (go_simp; rfl)); (case hp => exact (Reps.one (show Kd.M (Kd.int .i64) _ _ _ 3 [.int .i64 3] from rfl) (Reps.one (show Kd.M (Kd.int .i64) _ _ _ 175 [.int .i64 175] from rfl) (Reps.one (show Kd.M (Kd.int .i64) _ _ _ 227 [.int .i64 227] from rfl) (Reps.one (show Kd.M (Kd.int .i64) _ _ _ 111 [.int .i64 111] from rfl) (Reps.one (show Kd.M (Kd.int .i64) _ _ _ 67 [.int .i64 67] from rfl) (Reps.one (show Kd.M (Kd.int .i64) _ _ _ 99 [.int .i64 99] from rfl) (Reps.one (show Kd.M (Kd.int .i64) _ _ _ 15 [.int .i64 15] from rfl) (Reps.one (show Kd.M (Kd.int .i64) _ _ _ 135 [.int .i64 135] from rfl) (Reps.one (show Kd.M (Kd.int .i64) _ _ _ 103 [.int .i64 103] from rfl) (Reps.one (show Kd.M (Kd.int .i64) _ _ _ 231 [.int .i64 231] from rfl) (Reps.none _ _)))))))))))); intro v102 w6 ho7 hb hg_ hnew_; clear hg_ hnew_; (first | rw [← Ny101.out] at ho7 | (simp only [Int.reduceToNat] at ho7; rw [← Ny101.out] at ho7)); have n0_ := Aside0.mk (Kd.R_lower ho7 (below_size (by repeat (first | (with_reducible first | exact HB.out | apply below_alloc | apply pw_below_drewN | apply below_drew1) | exact HB.out)))); have n1_ := Aside0.mk (below_step (by repeat (first | (with_reducible first | exact HB.out | apply below_alloc | apply pw_below_drewN | apply below_drew1) | exact HB.out)) hb); clear HB; have HO103 := n0_; have HB := n1_; clear n0_ n1_; clear hb ho7; obtain ⟨Ao8, co8, eo8⟩ := Kd.R_slice HO103.out; subst eo8))
      go_ret
      exact ⟨by first | rfl | (simp [errW_none, errW_some] <;> rfl) | (simp [*, errW_none, errW_some] <;> rfl), by repeat (first | (with_reducible first | exact HB.out | apply below_alloc | apply pw_below_drewN | apply below_drew1) | exact HB.out)⟩
    · rw [if_neg c5] at H
      have c5b0 : decide ((y101.length : Int) ≤ a0) = false := decide_eq_false c5
      clear c5
      by_cases c9 : 0 ≤ a0
      · rw [if_pos c9] at H
        have c9b0 : decide (0 ≤ a0) = true := decide_eq_true c9
        clear c9
        by_cases c10 : a0 < (y101.length : Int)
        · rw [if_pos c10] at H
          have c10b0 : decide (a0 < (y101.length : Int)) = true := decide_eq_true c10
          clear c10
          obtain rfl := Option.some.inj H
          go_enter Try.func38, Try.ntmps38
          go_wp2_with (first | ((with_reducible refine gate_dst (N := 4) rfl ?_); (try (refine gate_guard (by rfl) ?_; dsimp only)); refine Kd.R_lit (Kd.int .i64) _ 3 ?hg (N := 4) ?hd (xs := ([3, 175, 227, 111, 67, 99, 15, 135, 103, 231] : List Int)) (inner := [.int .i64 3, .int .i64 175, .int .i64 227, .int .i64 111, .int .i64 67, .int .i64 99, .int .i64 15, .int .i64 135, .int .i64 103, .int .i64 231]) (ok := fun _ => True) (okp := fun _ => True) ?hr ?hp (fun _ hk => hk) trivial (Below.refl _ _) (Nat.le_refl _) (by simp) ?_; (case hd => rfl); (case hg => rfl); (case hr => first | (go_simp; done) | (go_simp; rfl)); (case hp => exact (Reps.one (show Kd.M (Kd.int .i64) _ _ _ 3 [.int .i64 3] from rfl) (Reps.one (show Kd.M (Kd.int .i64) _ _ _ 175 [.int .i64 175] from rfl) (Reps.one (show Kd.M (Kd.int .i64) _ _ _ 227 [.int .i64 227] from rfl) (Reps.one (show Kd.M (Kd.int .i64) _ _ _ 111 [.int .i64 111] from rfl) (Reps.one (show Kd.M (Kd.int .i64) _ _ _ 67 [.int .i64 67] from rfl) (Reps.one (show Kd.M (Kd.int .i64) _ _ _ 99 [.int .i64 99] from rfl) (Reps.one (show Kd.M (Kd.int .i64) _ _ _ 15 [.int .i64 15] from rfl) (Reps.one (show Kd.M (Kd.int .i64) _ _ _ 135 [.int .i64 135] from rfl) (Reps.one (show Kd.M (Kd.int .i64) _ _ _ 103 [.int .i64 103] from rfl) (Reps.one (show Kd.M (Kd.int .i64) _ _ _ 231 [.int .i64 231] from rfl) (Reps.none _ _)))))))))))); intro v102 w11 ho12 hb hg_ hnew_; clear hg_ hnew_; (first | rw [← Ny101.out] at ho12 | (simp only [Int.reduceToNat] at ho12; rw [← Ny101.out] at ho12)); have n0_ := Aside0.mk (Kd.R_lower ho12 (below_size (by repeat (first | (with_reducible first | exact HB.out | apply below_alloc | apply pw_below_drewN | apply below_drew1) | exact HB.out)))); have n1_ := Aside0.mk (below_step (by repeat (first | (with_reducible first | exact HB.out | apply below_alloc | apply pw_below_drewN | apply below_drew1) | exact HB.out)) hb); clear HB; have HO103 := n0_; have HB := n1_; clear n0_ n1_; clear hb ho12; obtain ⟨Ao13, co13, eo13⟩ := Kd.R_slice HO103.out; subst eo13; have p104 : 0 ≤ (a0 : Int) := of_decide_eq_true (by first | (with_reducible assumption) | assumption); have q104 : a0 < (y101.length : Int) := of_decide_eq_true (by first | (with_reducible assumption) | assumption); obtain ⟨ad104, e104, hx104_0⟩ := Kd.at_int (Kd.R_reads' HO103.out).2.2 a0 p104 q104; cases e104; replace p104 := eq_true p104; replace q104 := eq_true q104))
          go_ret
          exact ⟨by first | rfl | (simp [errW_none, errW_some] <;> rfl) | (simp [*, errW_none, errW_some] <;> rfl), by repeat (first | (with_reducible first | exact HB.out | apply below_alloc | apply pw_below_drewN | apply below_drew1) | exact HB.out)⟩
        · rw [if_neg c10] at H
          exact absurd H (by simp)
      · rw [if_neg c9] at H
        exact absurd H (by simp)
end Go.Proofs.Ytnmcoebjkfpmjaa.P
/-! Px55 -/
namespace Go.Proofs.Ytnmcoebjkfpmjaa.P
open Go.RowKit Go.Proofs.YtnmcoebjkfpmjaaW.PrintWords Go.Proofs.YtnmcoebjkfpmjaaW.PrintLast Go.Proofs.YtnmcoebjkfpmjaaW.PrintMore
attribute [local go_sem] max2_int min2_int max_two min_two max_three min_three max_four min_four   -- for this text's walks alone
set_option linter.unusedVariables false
set_option linter.unusedSimpArgs false
def antiphonref1_Copy.l0 : Nat → List Int → List Int → Int → Option (List Int)
  | 0, _, _, _ => none
  | k + 1, x0, x3, x4 => if x4 < (x0.length : Int) then (if 0 ≤ x4 then (if x3.length < 140737488355328 then (antiphonref1_Copy.l0 k x0 (x3 ++ [rd x0 x4]) (wrap64 (x4 + 1))) else (none)) else (none)) else (some x3)
def antiphonref1_Copy.f (k : Nat) (l0 : List Int) : Option (List Int) := antiphonref1_Copy.l0 k l0 ([] : List Int) 0
set_option maxHeartbeats 8000000 in
set_option maxRecDepth 100000 in
theorem antiphonref1_Copy.calls (k : Nat) (A0 : Option Addr) (c0 : Nat) (l0 : List Int) (r : List Int) (w : World) (hr0 : Kd.C (Kd.int .u8) w A0 l0.length l0) (hc0 : l0.length ≤ c0) (h : antiphonref1_Copy.f k l0 = some r) :
    Calls Try.prog 54 #[.slice A0 l0.length c0] w fun e w' => ∃ v0_ : Value, e = .returned (v0_) ∧ Kd.R (Kd.int .u8) 5 w' w.heap.size (fun _ => True) v0_ r ∧ Below w.heap.size w w' := by
  have HR0 := Aside0.mk hr0
  have HC0 := Aside0.mk hc0
  clear hr0 hc0
  have HB := Aside0.mk (Below.refl w.heap.size w)
  have H : (antiphonref1_Copy.l0 k l0 ([] : List Int) 0) = some r := h
  clear h
  have H' := Aside0.mk H
  clear H
  go_enter Try.func54, Try.ntmps54
  go_wp2
  go_loopg [3, 4] k (fun kq v3 v4 w' => ∃ (x3_1 : List Int) (x4_1 : Int), v4 = .int .i64 x4_1 ∧ Aside0 (antiphonref1_Copy.l0 kq l0 x3_1 x4_1 = some r) ∧ Aside0 (kq ≤ k) ∧ Aside0 (Kd.R (Kd.int .u8) 5 w' w.heap.size (fun _ => True) v3 x3_1) ∧ Aside0 (Below w.heap.size w w'))
  case atStart => exact ⟨(([] : List Int)), (0), (by first | rfl | (simp; done) | (simp [*]; done)), H', ⟨Nat.le_refl _⟩, ⟨by first | exact Kd.R_nil _ _ _ _ _ | exact Kd.N_nil _ _ _ _ _ | exact Kd.V_nil _ _ _ _ _ | exact Kd.Q_nil _ _ _ _ _ | exact Kd.S_nil _ _ _ _ _⟩, ⟨by repeat (first | (with_reducible first | exact HB.out | apply below_alloc | apply pw_below_drewN | apply below_drew1) | exact HB.out)⟩⟩
  case round =>
    clear H'
    obtain ⟨x3_1, x4_1, rfl, HA, HK1, HO_3, HB⟩ := hrel
    cases gk with
    | zero => exact absurd HA.out (by simp [antiphonref1_Copy.l0])
    | succ k1 =>
      have H := HA.out
      clear HA
      simp only [antiphonref1_Copy.l0] at H
      by_cases c2 : x4_1 < (l0.length : Int)
      · rw [if_pos c2] at H
        have c2b0 : decide (x4_1 < (l0.length : Int)) = true := decide_eq_true c2
        clear c2
        by_cases c3 : 0 ≤ x4_1
        · rw [if_pos c3] at H
          have c3b0 : decide (0 ≤ x4_1) = true := decide_eq_true c3
          clear c3
          by_cases c4 : x3_1.length < 140737488355328
          · rw [if_pos c4] at H
            have LMc4 := Aside0.mk c4
            clear c4
            obtain ⟨y102, hy102⟩ : ∃ y_ : List Int, y_ = (x3_1 ++ [rd l0 x4_1]) := ⟨_, rfl⟩
            replace H : (antiphonref1_Copy.l0 k1 l0 y102 (wrap64 (x4_1 + 1))) = some r := by first | (rw [hy102]; with_reducible exact H) | (have H2_ := (Option.bind_some _ _).symm.trans H; rw [hy102]; with_reducible exact H2_) | (have H2_ := (Option.bind_some _ _).symm.trans H; with_reducible exact H2_) | with_reducible exact H | (rw [hy102]; exact H) | exact H
            have Ny102 := Aside0.mk hy102
            clear hy102
            have H' := Aside0.mk H
            clear H
            have p101 : 0 ≤ (x4_1 : Int) := of_decide_eq_true (by first | (with_reducible assumption) | assumption)
            have q101 : x4_1 < (l0.length : Int) := of_decide_eq_true (by first | (with_reducible assumption) | assumption)
            obtain ⟨ad101, e101, hx101_0⟩ := Kd.at_int HR0.out x4_1 p101 q101
            cases e101
            replace hx101_0 := (HB.out.cell (World.block_lt_of_cell? w _ hx101_0)).trans hx101_0
            replace p101 := eq_true p101
            replace q101 := eq_true q101
            go_wp2_with (first | ((with_reducible refine gate_builtin (b := .append) (xs := #[.tmp 11, .tmp 16]) rfl ?_); at_builtin; refine Kd.R_append (Kd.int .u8) (w0 := w) w.heap.size rfl (.tmp 11) (.tmp 16) 23 5 (.int .u8 0) 1 rfl Try.underlying23 info5 rfl (by decide) (by omega) u3 x3_1 (rd l0 x4_1) [.int .u8 (rd l0 x4_1)] (fun _ => True) (fun _ => False) rfl rfl ?aP (fun _ hk => hk.elim) ?aF ?aO ?aB ?aS ?aL ?_; (case aP => exact rfl); (case aB => exact (by repeat (first | (with_reducible first | exact HB.out | apply below_alloc | apply pw_below_drewN | apply below_drew1) | exact HB.out))); (case aF => exact (fun _ _ => trivial)); (case aO => exact (by (with_reducible repeat (first | apply Kd.R_alloc | apply Kd.R_drewN | apply Kd.R_drew)); exact HO_3.out)); (case aS => exact (below_size (by repeat (first | (with_reducible first | exact HB.out | apply below_alloc | apply pw_below_drewN | apply below_drew1) | exact HB.out)))); (case aL => have := LMc4.out; omega); intro v103 w5 ho hb hg hat; rw [← Ny102.out] at ho; have n0_ := Aside0.mk (hb); have n1_ := Aside0.mk (ho); clear HB; clear HO_3; have HB := n0_; have HO104 := n1_; clear n0_ n1_; clear ho hb hg hat))
            go_roundg k1
            case measure => have := HK1.out; omega
            case rel => exact ⟨(y102), (wrap64 (x4_1 + 1)), (by first | rfl | (simp; done) | (simp [*]; done)), H', ⟨by have := HK1.out; omega⟩, ⟨by (with_reducible repeat (first | apply Kd.R_alloc | apply Kd.R_drewN | apply Kd.R_drew)); exact HO104.out⟩, ⟨by repeat (first | (with_reducible first | exact HB.out | apply below_alloc | apply pw_below_drewN | apply below_drew1) | exact HB.out)⟩⟩
          · rw [if_neg c4] at H
            exact absurd H (by simp)
        · rw [if_neg c3] at H
          exact absurd H (by simp)
      · rw [if_neg c2] at H
        have c2b0 : decide (x4_1 < (l0.length : Int)) = false := decide_eq_false c2
        clear c2
        obtain rfl := Option.some.inj H
        go_wp2
        go_ret
        exact ⟨_, by first | rfl | (simp [errW_none, errW_some] <;> rfl) | (simp [*, errW_none, errW_some] <;> rfl), by (with_reducible repeat (first | apply Kd.R_alloc | apply Kd.R_drewN | apply Kd.R_drew)); exact HO_3.out, by repeat (first | (with_reducible first | exact HB.out | apply below_alloc | apply pw_below_drewN | apply below_drew1) | exact HB.out)⟩
end Go.Proofs.Ytnmcoebjkfpmjaa.P
/-! Px34 -/
namespace Go.Proofs.Ytnmcoebjkfpmjaa.P
open Go.RowKit Go.Proofs.YtnmcoebjkfpmjaaW.PrintWords Go.Proofs.YtnmcoebjkfpmjaaW.PrintLast Go.Proofs.YtnmcoebjkfpmjaaW.PrintMore
attribute [local go_sem] max2_int min2_int max_two min_two max_three min_three max_four min_four   -- for this text's walks alone
set_option linter.unusedVariables false
set_option linter.unusedSimpArgs false
def allBytes (l : List Int) : Bool := l.all fun x => decide (0 ≤ x) && decide (x ≤ 255)
theorem allBytes_rd {l : List Int} (h : allBytes l = true) (i : Int) : 0 ≤ rd l i ∧ rd l i ≤ 255 := by
  unfold rd
  rw [List.getD_eq_getElem?_getD]
  cases hx : l[i.toNat]? with
  | none => simp
  | some x =>
    have hm := List.mem_of_getElem? hx
    have := List.all_eq_true.1 h x hm
    simp only [Bool.and_eq_true, decide_eq_true_eq] at this
    exact this
def ref6Codes : List Int := [3, 175, 227, 111, 67, 99, 15, 135, 103, 231]
def antiphonref6_Decode.fin (k : Nat) (t_ f_ : Int) (resp : Bool) (form kind ns nr : Int) (poll : Bool) (info : List Int) : Option PduR :=
  (antiphonref6_May.f k t_ f_ resp form kind ns nr poll info).bind fun m => if m = true then some (t_, f_, resp, form, kind, ns, nr, poll, info, 0) else some (pduBad 4)
def antiphonref6_Decode.f (k : Nat) (l0 : List Int) : Option (Int × Int × Bool × Int × Int × Int × Int × Bool × List Int × Int) :=
  if l0.length < 3 then some (pduBad 2) else if allBytes l0 = true then
    if Go.bits .and .i64 (rd l0 2) 3 = 3 then (antiphonref1_Copy.f k (l0.drop 3)).bind fun inf =>
      antiphonref6_Decode.fin k (rd l0 0) (Go.bits .andNot .i64 (rd l0 1) 1) (Go.bits .and .u8 (rd l0 1) 1 == 1) 2 (kindTo ref6Codes (Go.bits .andNot .i64 (rd l0 2) 16) 10) 0 0 (Go.bits .and .i64 (rd l0 2) 16 != 0) inf
    else if l0.length < 4 then some (pduBad 2) else (antiphonref1_Copy.f k (l0.drop 4)).bind fun inf =>
      if Go.bits .and .i64 (rd l0 2) 1 = 0 then antiphonref6_Decode.fin k (rd l0 0) (Go.bits .andNot .i64 (rd l0 1) 1) (Go.bits .and .u8 (rd l0 1) 1 == 1) 0 0 (rd l0 2 / 2) (rd l0 3 / 2) (Go.bits .and .u8 (rd l0 3) 1 == 1) inf
      else if rd l0 2 > 9 then some (pduBad 4) else antiphonref6_Decode.fin k (rd l0 0) (Go.bits .andNot .i64 (rd l0 1) 1) (Go.bits .and .u8 (rd l0 1) 1 == 1) 1 (rd l0 2 / 4) 0 (rd l0 3 / 2) (Go.bits .and .u8 (rd l0 3) 1 == 1) inf
  else none
theorem fin_cases6 {k : Nat} {t f : Int} {resp : Bool} {form kind ns nr : Int} {poll : Bool} {info : List Int} {r : PduR} (h : antiphonref6_Decode.fin k t f resp form kind ns nr poll info = some r) :
    (antiphonref6_May.f k t f resp form kind ns nr poll info = some true ∧ (t, f, resp, form, kind, ns, nr, poll, info, 0) = r) ∨ (antiphonref6_May.f k t f resp form kind ns nr poll info = some false ∧ pduBad 4 = r) := by
  unfold antiphonref6_Decode.fin at h
  obtain ⟨m, hm, h⟩ := Option.bind_eq_some_iff.mp h
  cases m with
  | true => exact .inl ⟨hm, by simpa using h⟩
  | false => exact .inr ⟨hm, by simpa using h⟩
theorem code_at (j : Nat) (hj : j < 10) : antiphonref6_Code.f (j : Int) = some (rd ref6Codes j) := by
  have : ∀ j : Fin 10, antiphonref6_Code.f (j.val : Int) = some (rd ref6Codes j.val) := by decide +kernel
  exact this ⟨j, hj⟩
set_option maxHeartbeats 4000000 in
set_option maxRecDepth 100000 in
theorem antiphonref6_Decode.calls (k : Nat) (A0 : Option Addr) (c0 : Nat) (l0 : List Int) (r1 r2 : Int) (r3 : Bool) (r4 r5 r6 r7 : Int) (r8 : Bool) (r9 : List Int) (r10 : Int) (w : World) (hr0 : Kd.C (Kd.int .u8) w A0 l0.length l0) (hc0 : l0.length ≤ c0) (h : antiphonref6_Decode.f k l0 = some (r1, r2, r3, r4, r5, r6, r7, r8, r9, r10)) :
    Calls Try.prog 33 #[.slice A0 l0.length c0] w fun e w' => ∃ v8_ : Value, e = .returned (.tuple #[.agg #[.int .i64 r1, .int .i64 r2, .bool r3, .int .i64 r4, .int .i64 r5, .int .i64 r6, .int .i64 r7, .bool r8, v8_], .int .i64 r10]) ∧ Kd.R (Kd.int .u8) 5 w' w.heap.size (fun _ => True) v8_ r9 ∧ Below w.heap.size w w' := by
  have hu := Try.underlying25
  unfold antiphonref6_Decode.f at h
  by_cases h3 : l0.length < 3
  · rw [if_pos h3] at h
    simp only [pduBad, Option.some.injEq, Prod.mk.injEq] at h
    obtain ⟨rfl, rfl, rfl, rfl, rfl, rfl, rfl, rfl, rfl, rfl⟩ := h
    have h3' : decide ((l0.length : Int) < 3) = true := decide_eq_true (by omega)
    clear h3
    go_enter Try.func33, Try.ntmps33
    go_wp2
    refine bodyPost_ret (v := .tuple #[.agg #[.int .i64 0, .int .i64 0, .bool false, .int .i64 0, .int .i64 0, .int .i64 0, .int .i64 0, .bool false, .slice none 0 0], .int .i64 2]) (by simp [results, Try.results33, go_sem, hu]) rfl ⟨_, rfl, Kd.R_nil _ _ _ _ _, ?_⟩
    exact below_alloc (Below.refl _ _) _
  · rw [if_neg h3] at h
    have hok : allBytes l0 = true := by
      by_cases hok : allBytes l0 = true
      · exact hok
      · rw [if_neg hok] at h; cases h
    rw [if_pos hok] at h
    obtain ⟨i0, hi, hz0, hz1, hz2⟩ := info_parts info5
    obtain ⟨b0, hb0⟩ : ∃ x, rd l0 0 = x := ⟨_, rfl⟩
    obtain ⟨b1, hb1⟩ : ∃ x, rd l0 1 = x := ⟨_, rfl⟩
    obtain ⟨b2, hb2⟩ : ∃ x, rd l0 2 = x := ⟨_, rfl⟩
    have w0 := allBytes_rd hok 0
    have w1 := allBytes_rd hok 1
    have w2 := allBytes_rd hok 2
    have w3 := allBytes_rd hok 3
    obtain ⟨ad, rfl, hcell0⟩ := Kd.at_int hr0 0 (by omega) (by omega)
    have hall : ∀ i : Nat, i < l0.length → w.cell? (ad.add i) = some (.int .u8 (rd l0 i)) := by
      intro i hi
      obtain ⟨ad', e, hc⟩ := Kd.at_int hr0 i (by omega) (by omega)
      injection e with e
      subst e
      exact hc
    have hcell1 : w.cell? (ad.add 1) = some (.int .u8 b1) := (hall 1 (by omega)).trans (congrArg (fun x => some (Value.int .u8 x)) hb1)
    have hcell2 : w.cell? (ad.add 2) = some (.int .u8 b2) := (hall 2 (by omega)).trans (congrArg (fun x => some (Value.int .u8 x)) hb2)
    simp only [Int.toNat_zero] at hcell0
    rw [hb0] at hcell0 w0
    rw [hb1] at w1
    rw [hb2] at w2
    rw [hb0, hb1, hb2] at h
    obtain ⟨w0a, w0b⟩ := w0
    obtain ⟨w1a, w1b⟩ := w1
    obtain ⟨w2a, w2b⟩ := w2
    have hlt := World.block_lt_of_cell? w _ hcell0
    have h3' : decide ((l0.length : Int) < 3) = false := decide_eq_false (by omega)
    obtain ⟨n0, hn0⟩ : ∃ x, l0.length = x := ⟨_, rfl⟩
    have h0n : (0 : Int) < (n0 : Int) := by omega
    have h1n : (1 : Int) < (n0 : Int) := by omega
    have h2n : (2 : Int) < (n0 : Int) := by omega
    have h0m : 0 < n0 := by omega
    have h1m : 1 < n0 := by omega
    have h2m : 2 < n0 := by omega
    rw [hn0] at h3'
    have q3 := cut_from 23 5 .i64 (P := Try.prog) Try.underlying23 hi 1 hz1 (some ad) n0 c0 3 (by omega) (by omega)
    have hD3 := Kd.C_drop hr0 (m := 3) (by omega) hc0
    rw [show (3 : Int).toNat = 3 from rfl] at q3
    rw [show 3 * (Kd.int .u8).sz = 3 * 1 from rfl] at hD3
    obtain ⟨A3, hA3⟩ : ∃ x, (if c0 = 3 then (some ad) else (some ad).map (·.add (3 * 1))) = x := ⟨_, rfl⟩
    rw [hA3] at q3 hD3
    have HCopy : Aside0 (∀ W inf, Below w.heap.size w W → antiphonref1_Copy.f k (l0.drop 3) = some inf → Calls Try.prog 54 #[.slice A3 (n0 - 3) (c0 - 3)] W fun e w' => ∃ v0_ : Value, e = .returned (v0_) ∧ Kd.R (Kd.int .u8) 5 w' W.heap.size (fun _ => True) v0_ inf ∧ Below W.heap.size W w') := by
      refine ⟨fun W inf hB hf => ?_⟩
      have := antiphonref1_Copy.calls k A3 (c0 - 3) (l0.drop 3) inf W (Kd.C_below hD3 hB) (by rw [List.length_drop]; omega) hf
      rwa [List.length_drop, hn0] at this
    have HCopy4 : Aside0 (3 < n0 → ∃ A4 : Option Addr, (∀ W, (Instr.slice 23 (.slice (some ad) n0 c0) (some (.int .i64 4)) none none).run Try.prog W = .ok (.slice A4 (n0 - 4) (c0 - 4)) W) ∧ ∀ W inf, Below w.heap.size w W → antiphonref1_Copy.f k (l0.drop 4) = some inf → Calls Try.prog 54 #[.slice A4 (n0 - 4) (c0 - 4)] W fun e w' => ∃ v0_ : Value, e = .returned (v0_) ∧ Kd.R (Kd.int .u8) 5 w' W.heap.size (fun _ => True) v0_ inf ∧ Below W.heap.size W w') := by
      refine ⟨fun h4 => ?_⟩
      have q4 := cut_from 23 5 .i64 (P := Try.prog) Try.underlying23 hi 1 hz1 (some ad) n0 c0 4 (by omega) (by omega)
      have hD4 := Kd.C_drop hr0 (m := 4) (by omega) hc0
      rw [show (4 : Int).toNat = 4 from rfl] at q4
      rw [show 4 * (Kd.int .u8).sz = 4 * 1 from rfl] at hD4
      refine ⟨_, q4, fun W inf hB hf => ?_⟩
      have := antiphonref1_Copy.calls k _ (c0 - 4) (l0.drop 4) inf W (Kd.C_below hD4 hB) (by rw [List.length_drop]; omega) hf
      rwa [List.length_drop, hn0] at this
    have hA0 : w.cell? ad = some (.int .u8 b0) := hcell0
    have hA1 : w.cell? { block := ad.block, off := ad.off + 1 } = some (.int .u8 b1) := hcell1
    have hA2' : w.cell? { block := ad.block, off := ad.off + 2 } = some (.int .u8 b2) := hcell2
    have hA2 : ∀ o1 o2, ((w.alloc o1).alloc o2).cell? { block := ad.block, off := ad.off + 2 } = some (.int .u8 b2) := fun o1 o2 => Go.Lib.cell?_alloc_some _ (Go.Lib.cell?_alloc_some _ hA2')
    have hA3' : 3 < n0 → w.cell? { block := ad.block, off := ad.off + 3 } = some (.int .u8 (rd l0 3)) := fun h => hall 3 (by omega)
    have hblk : ad.block < w.heap.size := hlt
    have hw0 : IntKind.i64.wrap b0 = b0 := by rw [i64_w]; unfold wrap64; omega
    have hw1 : IntKind.i64.wrap b1 = b1 := by rw [i64_w]; unfold wrap64; omega
    have hw2 : IntKind.i64.wrap b2 = b2 := by rw [i64_w]; unfold wrap64; omega
    have HA0 := Aside0.mk hA0
    have HA1 := Aside0.mk hA1
    have HA3 := Aside0.mk hA3'
    have HNEW : Aside0 (∀ Z P, ((w.alloc Z).alloc P).heap[w.heap.size + 1]? = some P) := ⟨fun Z P => by
      have h1 := blk_new (w.alloc Z) P
      have h2 : (w.alloc Z).heap.size = w.heap.size + 1 := Array.size_push _
      rwa [h2] at h1⟩
    have HC := Aside0.mk hc0
    have HB00 := Aside0.mk (Below.refl w.heap.size w)
    have H2 : Aside0 (∀ Z P, ((w.alloc Z).alloc P).heap.size = w.heap.size + 2) := ⟨fun Z P => by rw [show ((w.alloc Z).alloc P).heap = (w.heap.push Z).push P from rfl]; simp⟩
    have HN0 := Aside0.mk hn0
    have HBLK := Aside0.mk hblk
    rw [hn0] at h
    rw [hn0]
    clear hcell0 hcell1 hcell2 hlt hA2' hA3' hblk hA3 hD3
    clear hr0 hc0 hb0 hb1 hb2 hok hall h3 hi hz0 hz1 hz2 hn0
    by_cases c1 : Go.bits .and .i64 b2 3 = 3
    · rw [if_pos c1] at h
      obtain ⟨inf, eC, h⟩ := Option.bind_eq_some_iff.mp h
      have HCP := Aside0.mk (fun W hB => HCopy.out W inf hB eC)
      have H := Aside0.mk h
      have c1' : (Go.bits .and .i64 b2 3 != 3) = false := bne_eq_false_iff_eq.mpr c1
      clear h eC c1 HCopy HCopy4
      go_enter Try.func33, Try.ntmps33
      go_wp2_with fail
      go_region_held3 (fun w' => w'.cell? ad = some (.int .u8 b0) ∧ w'.cell? { block := ad.block, off := ad.off + 1 } = some (.int .u8 b1)) (refine ⟨?_, ?_⟩ <;> repeat (first | exact HA0.out | exact HA1.out | refine Go.Lib.cell?_alloc_some _ ?_)) (fail)
      go_wp2_with fail
      refine (HCP.out _ (by repeat (first | (with_reducible first | exact HB00.out | apply below_alloc | apply pw_below_drewN | apply below_drew1) | exact HB00.out))).mono ?_
      rintro e w1 ⟨v1, rfl, hR, hB⟩
      have hSz : w.heap.size + 2 ≤ w1.heap.size := Nat.le_trans (Nat.le_of_eq (H2.out (.cells #[.int .i64 0, .int .i64 0, .bool false, .int .i64 0, .int .i64 0, .int .i64 0, .int .i64 0, .bool false, .slice none 0 0] 25) (.cells #[.int .i64 b0, .int .i64 (Go.bits .andNot .i64 b1 1), .bool (Go.bits .and .u8 b1 1 == 1), .int .i64 (2), .int .i64 (0), .int .i64 (0), .int .i64 (0), .bool (Go.bits .and .i64 b2 16 != 0), .slice none 0 0] 25)).symm) hB.size
      obtain ⟨A8, c8, rfl, hc8, hC8⟩ := Kd.R_reads hR
      have hs1 := H2.out (.cells #[.int .i64 0, .int .i64 0, .bool false, .int .i64 0, .int .i64 0, .int .i64 0, .int .i64 0, .bool false, .slice none 0 0] 25) (.cells #[.int .i64 b0, .int .i64 (Go.bits .andNot .i64 b1 1), .bool (Go.bits .and .u8 b1 1 == 1), .int .i64 (2), .int .i64 (0), .int .i64 (0), .int .i64 (0), .bool (Go.bits .and .i64 b2 16 != 0), .slice none 0 0] 25)
      have hp1 : w1.heap[w.heap.size + 1]? = some (.cells #[.int .i64 b0, .int .i64 (Go.bits .andNot .i64 b1 1), .bool (Go.bits .and .u8 b1 1 == 1), .int .i64 (2), .int .i64 (0), .int .i64 (0), .int .i64 (0), .bool (Go.bits .and .i64 b2 16 != 0), .slice none 0 0] 25 (0, 0)) := (hB.block _ (Nat.lt_of_lt_of_eq (by omega) hs1.symm)).trans (HNEW.out (.cells #[.int .i64 0, .int .i64 0, .bool false, .int .i64 0, .int .i64 0, .int .i64 0, .int .i64 0, .bool false, .slice none 0 0] 25) (.cells #[.int .i64 b0, .int .i64 (Go.bits .andNot .i64 b1 1), .bool (Go.bits .and .u8 b1 1 == 1), .int .i64 (2), .int .i64 (0), .int .i64 (0), .int .i64 (0), .bool (Go.bits .and .i64 b2 16 != 0), .slice none 0 0] 25))
      have hz1 : w1.heap[w.heap.size]? = some (.cells #[.int .i64 0, .int .i64 0, .bool false, .int .i64 0, .int .i64 0, .int .i64 0, .int .i64 0, .bool false, .slice none 0 0] 25 (0, 0)) := (hB.block _ (Nat.lt_of_lt_of_eq (by omega) hs1.symm)).trans (blk_alloc (blk_new w (.cells #[.int .i64 0, .int .i64 0, .bool false, .int .i64 0, .int .i64 0, .int .i64 0, .int .i64 0, .bool false, .slice none 0 0] 25)) (.cells #[.int .i64 b0, .int .i64 (Go.bits .andNot .i64 b1 1), .bool (Go.bits .and .u8 b1 1 == 1), .int .i64 (2), .int .i64 (0), .int .i64 (0), .int .i64 (0), .bool (Go.bits .and .i64 b2 16 != 0), .slice none 0 0] 25))
      have hbw : Below w.heap.size w w1 := below_step (by repeat (first | (with_reducible first | exact HB00.out | apply below_alloc | apply pw_below_drewN | apply below_drew1) | exact HB00.out)) hB
      have HR1 := Aside0.mk (Kd.R_lower (base' := w.heap.size) (Kd.R_mono (Kd.R_bound hR) (ok' := fun k => k ≠ w.heap.size + 1 ∧ k ≠ w.heap.size) (fun k hk => by have h9 := hk.2.1; have h8 := Nat.lt_of_lt_of_eq (show w.heap.size + 1 < w.heap.size + 2 by omega) hs1.symm; exact ⟨fun e => absurd (Nat.lt_of_lt_of_le h8 h9) (by omega), fun e => absurd (Nat.lt_of_lt_of_le h8 h9) (by omega)⟩)) (Nat.le_trans (by omega) (Nat.le_of_eq hs1.symm)))
      have HP1 := Aside0.mk hp1
      have HZ1 := Aside0.mk hz1
      have HBW := Aside0.mk hbw
      have HSZ := Aside0.mk (show w.heap.size + 1 < w1.heap.size by omega)
      have HCL8 := Aside0.mk hc8
      have kq0 : w1.cell? ⟨w.heap.size + 1, 0, none⟩ = some (.int .i64 b0) := (blk_cell hp1 0).trans rfl
      have kf0 : w1.frozen? ⟨w.heap.size + 1, 0, none⟩ = false := blk_frozen hp1 0
      have kq1 : w1.cell? ⟨w.heap.size + 1, 1, none⟩ = some (.int .i64 (Go.bits .andNot .i64 b1 1)) := (blk_cell hp1 1).trans rfl
      have kf1 : w1.frozen? ⟨w.heap.size + 1, 1, none⟩ = false := blk_frozen hp1 1
      have kq2 : w1.cell? ⟨w.heap.size + 1, 2, none⟩ = some (.bool (Go.bits .and .u8 b1 1 == 1)) := (blk_cell hp1 2).trans rfl
      have kf2 : w1.frozen? ⟨w.heap.size + 1, 2, none⟩ = false := blk_frozen hp1 2
      have kq3 : w1.cell? ⟨w.heap.size + 1, 3, none⟩ = some (.int .i64 (2)) := (blk_cell hp1 3).trans rfl
      have kf3 : w1.frozen? ⟨w.heap.size + 1, 3, none⟩ = false := blk_frozen hp1 3
      have kq4 : w1.cell? ⟨w.heap.size + 1, 4, none⟩ = some (.int .i64 (0)) := (blk_cell hp1 4).trans rfl
      have kf4 : w1.frozen? ⟨w.heap.size + 1, 4, none⟩ = false := blk_frozen hp1 4
      have kq5 : w1.cell? ⟨w.heap.size + 1, 5, none⟩ = some (.int .i64 (0)) := (blk_cell hp1 5).trans rfl
      have kf5 : w1.frozen? ⟨w.heap.size + 1, 5, none⟩ = false := blk_frozen hp1 5
      have kq6 : w1.cell? ⟨w.heap.size + 1, 6, none⟩ = some (.int .i64 (0)) := (blk_cell hp1 6).trans rfl
      have kf6 : w1.frozen? ⟨w.heap.size + 1, 6, none⟩ = false := blk_frozen hp1 6
      have kq7 : w1.cell? ⟨w.heap.size + 1, 7, none⟩ = some (.bool (Go.bits .and .i64 b2 16 != 0)) := (blk_cell hp1 7).trans rfl
      have kf7 : w1.frozen? ⟨w.heap.size + 1, 7, none⟩ = false := blk_frozen hp1 7
      have kq8 : w1.cell? ⟨w.heap.size + 1, 8, none⟩ = some (.slice none 0 0) := (blk_cell hp1 8).trans rfl
      have kf8 : w1.frozen? ⟨w.heap.size + 1, 8, none⟩ = false := blk_frozen hp1 8
      clear hB hR hc8 hC8 hs1 hp1 hz1 hbw hSz
      go_wp2_with fail
      go_loopw [6] (fun v6 wr => ∃ j : Nat, j ≤ 10 ∧ v6 = .int .i64 j ∧ Aside0 (wr.heap[w.heap.size + 1]? = some (.cells #[.int .i64 b0, .int .i64 (Go.bits .andNot .i64 b1 1), .bool (Go.bits .and .u8 b1 1 == 1), .int .i64 (2), .int .i64 (kindTo ref6Codes (Go.bits .andNot .i64 b2 16) j), .int .i64 (0), .int .i64 (0), .bool (Go.bits .and .i64 b2 16 != 0), .slice A8 inf.length c8] 25 (0, 0))) ∧ Aside0 (w1.grownBy wr (some (w.heap.size + 1)))) (fun v6 _ => 10 - (intOf v6).toNat)
      case atStart => exact ⟨0, Nat.zero_le _, rfl, ⟨blk_put (blk_put HP1.out 8 (.slice A8 inf.length c8) rfl) 4 (.int .i64 (-1)) rfl⟩, ⟨World.grownBy.trans (only_set 8 _) (only_set 4 _)⟩⟩
      case round =>
        obtain ⟨j, hj, rfl, HPr, HGr⟩ := hrel
        by_cases hlt : j < 10
        · have hcode := Aside0.mk (code_at j hlt)
          have hj1 : decide ((j : Int) ≤ 9) = true := decide_eq_true (by omega)
          by_cases hc : rd ref6Codes j = Go.bits .andNot .i64 b2 16
          · have hc' : (rd ref6Codes j == Go.bits .andNot .i64 b2 16) = true := beq_iff_eq.mpr hc
            have HK := Aside0.mk (show kindTo ref6Codes (Go.bits .andNot .i64 b2 16) (j + 1) = (j : Int) by rw [kindTo, if_pos hc])
            clear hc
            go_wp2_with fail
            refine (antiphonref6_Code.calls j _ _ hcode.out).mono ?_
            rintro e w2 ⟨rfl, hB2⟩
            have HP2 := Aside0.mk (blk_below HPr.out hB2)
            have HG2 := Aside0.mk (World.grownBy.trans HGr.out (only_below hB2 _))
            have hk4 : w2.cell? ⟨w.heap.size + 1, 4, none⟩ = some (.int .i64 (kindTo ref6Codes (Go.bits .andNot .i64 b2 16) j)) := (blk_cell HP2.out 4).trans rfl
            have hf4 : w2.frozen? ⟨w.heap.size + 1, 4, none⟩ = false := blk_frozen HP2.out 4
            clear hB2
            go_wp2
            refine ⟨⟨j + 1, by omega, by go_num, ⟨?_⟩, ⟨World.grownBy.trans HG2.out (only_set 4 _)⟩⟩, by simp [intOf]; omega⟩
            rw [HK.out]
            exact blk_put HP2.out 4 _ rfl
          · have hc' : (rd ref6Codes j == Go.bits .andNot .i64 b2 16) = false := beq_eq_false_iff_ne.mpr hc
            have HK := Aside0.mk (show kindTo ref6Codes (Go.bits .andNot .i64 b2 16) (j + 1) = kindTo ref6Codes (Go.bits .andNot .i64 b2 16) j by rw [kindTo, if_neg hc])
            clear hc
            go_wp2_with fail
            refine (antiphonref6_Code.calls j _ _ hcode.out).mono ?_
            rintro e w2 ⟨rfl, hB2⟩
            have HP2 := Aside0.mk (blk_below HPr.out hB2)
            have HG2 := Aside0.mk (World.grownBy.trans HGr.out (only_below hB2 _))
            clear hB2
            go_wp2
            refine ⟨⟨j + 1, by omega, by go_num, ⟨?_⟩, HG2⟩, by simp [intOf]; omega⟩
            rw [HK.out]
            exact HP2.out
        · obtain rfl : j = 10 := by omega
          have HP8 := HPr
          have HRES8 := Aside0.mk (blk_grown HZ1.out HGr.out (fun e => by injection e with e; omega))
          have HB8 := Aside0.mk (Below.grown HBW.out HGr.out HBW.out.size (fun k hk => by cases hk; omega))
          have HR8 := Aside0.mk (Kd.R_grown HR1.out HGr.out (fun k hk e => hk.1 (by injection e)))
          have HC8 := Aside0.mk (Kd.R_reads' HR8.out).2.2
          have hj1 : decide ((10 : Int) ≤ 9) = false := by decide
          have pq0 : wr.cell? ⟨w.heap.size + 1, 0, none⟩ = some (.int .i64 b0) := (blk_cell HPr.out 0).trans rfl
          have pf0 : wr.frozen? ⟨w.heap.size + 1, 0, none⟩ = false := blk_frozen HPr.out 0
          have pq1 : wr.cell? ⟨w.heap.size + 1, 1, none⟩ = some (.int .i64 (Go.bits .andNot .i64 b1 1)) := (blk_cell HPr.out 1).trans rfl
          have pf1 : wr.frozen? ⟨w.heap.size + 1, 1, none⟩ = false := blk_frozen HPr.out 1
          have pq2 : wr.cell? ⟨w.heap.size + 1, 2, none⟩ = some (.bool (Go.bits .and .u8 b1 1 == 1)) := (blk_cell HPr.out 2).trans rfl
          have pf2 : wr.frozen? ⟨w.heap.size + 1, 2, none⟩ = false := blk_frozen HPr.out 2
          have pq3 : wr.cell? ⟨w.heap.size + 1, 3, none⟩ = some (.int .i64 (2)) := (blk_cell HPr.out 3).trans rfl
          have pf3 : wr.frozen? ⟨w.heap.size + 1, 3, none⟩ = false := blk_frozen HPr.out 3
          have pq4 : wr.cell? ⟨w.heap.size + 1, 4, none⟩ = some (.int .i64 (kindTo ref6Codes (Go.bits .andNot .i64 b2 16) 10)) := (blk_cell HPr.out 4).trans rfl
          have pf4 : wr.frozen? ⟨w.heap.size + 1, 4, none⟩ = false := blk_frozen HPr.out 4
          have pq5 : wr.cell? ⟨w.heap.size + 1, 5, none⟩ = some (.int .i64 (0)) := (blk_cell HPr.out 5).trans rfl
          have pf5 : wr.frozen? ⟨w.heap.size + 1, 5, none⟩ = false := blk_frozen HPr.out 5
          have pq6 : wr.cell? ⟨w.heap.size + 1, 6, none⟩ = some (.int .i64 (0)) := (blk_cell HPr.out 6).trans rfl
          have pf6 : wr.frozen? ⟨w.heap.size + 1, 6, none⟩ = false := blk_frozen HPr.out 6
          have pq7 : wr.cell? ⟨w.heap.size + 1, 7, none⟩ = some (.bool (Go.bits .and .i64 b2 16 != 0)) := (blk_cell HPr.out 7).trans rfl
          have pf7 : wr.frozen? ⟨w.heap.size + 1, 7, none⟩ = false := blk_frozen HPr.out 7
          have pq8 : wr.cell? ⟨w.heap.size + 1, 8, none⟩ = some (.slice A8 inf.length c8) := (blk_cell HPr.out 8).trans rfl
          have pf8 : wr.frozen? ⟨w.heap.size + 1, 8, none⟩ = false := blk_frozen HPr.out 8
          clear HPr HGr
          rcases fin_cases6 H.out with ⟨hm, hr⟩ | ⟨hm, hr⟩
          · simp only [Prod.mk.injEq] at hr
            obtain ⟨rfl, rfl, rfl, rfl, rfl, rfl, rfl, rfl, rfl, rfl⟩ := hr
            have HM := Aside0.mk hm
            clear hm
            go_wp2_with fail
            refine (antiphonref6_May.calls k _ _ _ _ _ _ _ _ A8 c8 inf true _ HC8.out HCL8.out HM.out).mono ?_
            rintro e w9 ⟨rfl, hB9⟩
            have HB9 := Aside0.mk hB9
            have hp9 := blk_below HP8.out hB9
            have hz9 := blk_below HRES8.out hB9
            clear hB9
            have pq0 : w9.cell? ⟨w.heap.size + 1, 0, none⟩ = some (.int .i64 b0) := (blk_cell hp9 0).trans rfl
            have pf0 : w9.frozen? ⟨w.heap.size + 1, 0, none⟩ = false := blk_frozen hp9 0
            have pq1 : w9.cell? ⟨w.heap.size + 1, 1, none⟩ = some (.int .i64 (Go.bits .andNot .i64 b1 1)) := (blk_cell hp9 1).trans rfl
            have pf1 : w9.frozen? ⟨w.heap.size + 1, 1, none⟩ = false := blk_frozen hp9 1
            have pq2 : w9.cell? ⟨w.heap.size + 1, 2, none⟩ = some (.bool (Go.bits .and .u8 b1 1 == 1)) := (blk_cell hp9 2).trans rfl
            have pf2 : w9.frozen? ⟨w.heap.size + 1, 2, none⟩ = false := blk_frozen hp9 2
            have pq3 : w9.cell? ⟨w.heap.size + 1, 3, none⟩ = some (.int .i64 (2)) := (blk_cell hp9 3).trans rfl
            have pf3 : w9.frozen? ⟨w.heap.size + 1, 3, none⟩ = false := blk_frozen hp9 3
            have pq4 : w9.cell? ⟨w.heap.size + 1, 4, none⟩ = some (.int .i64 (kindTo ref6Codes (Go.bits .andNot .i64 b2 16) 10)) := (blk_cell hp9 4).trans rfl
            have pf4 : w9.frozen? ⟨w.heap.size + 1, 4, none⟩ = false := blk_frozen hp9 4
            have pq5 : w9.cell? ⟨w.heap.size + 1, 5, none⟩ = some (.int .i64 (0)) := (blk_cell hp9 5).trans rfl
            have pf5 : w9.frozen? ⟨w.heap.size + 1, 5, none⟩ = false := blk_frozen hp9 5
            have pq6 : w9.cell? ⟨w.heap.size + 1, 6, none⟩ = some (.int .i64 (0)) := (blk_cell hp9 6).trans rfl
            have pf6 : w9.frozen? ⟨w.heap.size + 1, 6, none⟩ = false := blk_frozen hp9 6
            have pq7 : w9.cell? ⟨w.heap.size + 1, 7, none⟩ = some (.bool (Go.bits .and .i64 b2 16 != 0)) := (blk_cell hp9 7).trans rfl
            have pf7 : w9.frozen? ⟨w.heap.size + 1, 7, none⟩ = false := blk_frozen hp9 7
            have pq8 : w9.cell? ⟨w.heap.size + 1, 8, none⟩ = some (.slice A8 inf.length c8) := (blk_cell hp9 8).trans rfl
            have pf8 : w9.frozen? ⟨w.heap.size + 1, 8, none⟩ = false := blk_frozen hp9 8
            have zq0 : w9.cell? ⟨w.heap.size, 0, none⟩ = some (.int .i64 0) := (blk_cell hz9 0).trans rfl
            have zf0 : w9.frozen? ⟨w.heap.size, 0, none⟩ = false := blk_frozen hz9 0
            have zq1 : w9.cell? ⟨w.heap.size, 1, none⟩ = some (.int .i64 0) := (blk_cell hz9 1).trans rfl
            have zf1 : w9.frozen? ⟨w.heap.size, 1, none⟩ = false := blk_frozen hz9 1
            have zq2 : w9.cell? ⟨w.heap.size, 2, none⟩ = some (.bool false) := (blk_cell hz9 2).trans rfl
            have zf2 : w9.frozen? ⟨w.heap.size, 2, none⟩ = false := blk_frozen hz9 2
            have zq3 : w9.cell? ⟨w.heap.size, 3, none⟩ = some (.int .i64 0) := (blk_cell hz9 3).trans rfl
            have zf3 : w9.frozen? ⟨w.heap.size, 3, none⟩ = false := blk_frozen hz9 3
            have zq4 : w9.cell? ⟨w.heap.size, 4, none⟩ = some (.int .i64 0) := (blk_cell hz9 4).trans rfl
            have zf4 : w9.frozen? ⟨w.heap.size, 4, none⟩ = false := blk_frozen hz9 4
            have zq5 : w9.cell? ⟨w.heap.size, 5, none⟩ = some (.int .i64 0) := (blk_cell hz9 5).trans rfl
            have zf5 : w9.frozen? ⟨w.heap.size, 5, none⟩ = false := blk_frozen hz9 5
            have zq6 : w9.cell? ⟨w.heap.size, 6, none⟩ = some (.int .i64 0) := (blk_cell hz9 6).trans rfl
            have zf6 : w9.frozen? ⟨w.heap.size, 6, none⟩ = false := blk_frozen hz9 6
            have zq7 : w9.cell? ⟨w.heap.size, 7, none⟩ = some (.bool false) := (blk_cell hz9 7).trans rfl
            have zf7 : w9.frozen? ⟨w.heap.size, 7, none⟩ = false := blk_frozen hz9 7
            have zq8 : w9.cell? ⟨w.heap.size, 8, none⟩ = some (.slice none 0 0) := (blk_cell hz9 8).trans rfl
            have zf8 : w9.frozen? ⟨w.heap.size, 8, none⟩ = false := blk_frozen hz9 8
            clear hp9 hz9
            go_wp2
            refine bodyPost_ret (v := .tuple #[.agg #[.int .i64 b0, .int .i64 (Go.bits .andNot .i64 b1 1), .bool (Go.bits .and .u8 b1 1 == 1), .int .i64 (2), .int .i64 (kindTo ref6Codes (Go.bits .andNot .i64 b2 16) 10), .int .i64 (0), .int .i64 (0), .bool (Go.bits .and .i64 b2 16 != 0), .slice A8 inf.length c8], .int .i64 0]) (by simp [results, Try.results33, go_sem, hu, zq0, zf0, zq1, zf1, zq2, zf2, zq3, zf3, zq4, zf4, zq5, zf5, zq6, zf6, zq7, zf7, zq8, zf8]) rfl ⟨_, rfl, ?_, ?_⟩
            · refine Kd.R_mono (ok := fun k => k ≠ w.heap.size + 1 ∧ k ≠ w.heap.size) ?_ (fun _ _ => trivial)
              repeat (with_reducible refine Kd.R_far ?_ (fun k hk => hk.2) _)
              exact Kd.R_below HR8.out HB9.out
            · repeat (with_reducible refine below_set ?_ (Nat.le_refl _))
              exact below_step HB8.out HB9.out
          · simp only [pduBad, Prod.mk.injEq] at hr
            obtain ⟨rfl, rfl, rfl, rfl, rfl, rfl, rfl, rfl, rfl, rfl⟩ := hr
            have HM := Aside0.mk hm
            clear hm
            go_wp2_with fail
            refine (antiphonref6_May.calls k _ _ _ _ _ _ _ _ A8 c8 inf false _ HC8.out HCL8.out HM.out).mono ?_
            rintro e w9 ⟨rfl, hB9⟩
            have HB9 := Aside0.mk hB9
            have hp9 := blk_below HP8.out hB9
            have hz9 := blk_below HRES8.out hB9
            clear hB9
            have zq0 : w9.cell? ⟨w.heap.size, 0, none⟩ = some (.int .i64 0) := (blk_cell hz9 0).trans rfl
            have zf0 : w9.frozen? ⟨w.heap.size, 0, none⟩ = false := blk_frozen hz9 0
            have zq1 : w9.cell? ⟨w.heap.size, 1, none⟩ = some (.int .i64 0) := (blk_cell hz9 1).trans rfl
            have zf1 : w9.frozen? ⟨w.heap.size, 1, none⟩ = false := blk_frozen hz9 1
            have zq2 : w9.cell? ⟨w.heap.size, 2, none⟩ = some (.bool false) := (blk_cell hz9 2).trans rfl
            have zf2 : w9.frozen? ⟨w.heap.size, 2, none⟩ = false := blk_frozen hz9 2
            have zq3 : w9.cell? ⟨w.heap.size, 3, none⟩ = some (.int .i64 0) := (blk_cell hz9 3).trans rfl
            have zf3 : w9.frozen? ⟨w.heap.size, 3, none⟩ = false := blk_frozen hz9 3
            have zq4 : w9.cell? ⟨w.heap.size, 4, none⟩ = some (.int .i64 0) := (blk_cell hz9 4).trans rfl
            have zf4 : w9.frozen? ⟨w.heap.size, 4, none⟩ = false := blk_frozen hz9 4
            have zq5 : w9.cell? ⟨w.heap.size, 5, none⟩ = some (.int .i64 0) := (blk_cell hz9 5).trans rfl
            have zf5 : w9.frozen? ⟨w.heap.size, 5, none⟩ = false := blk_frozen hz9 5
            have zq6 : w9.cell? ⟨w.heap.size, 6, none⟩ = some (.int .i64 0) := (blk_cell hz9 6).trans rfl
            have zf6 : w9.frozen? ⟨w.heap.size, 6, none⟩ = false := blk_frozen hz9 6
            have zq7 : w9.cell? ⟨w.heap.size, 7, none⟩ = some (.bool false) := (blk_cell hz9 7).trans rfl
            have zf7 : w9.frozen? ⟨w.heap.size, 7, none⟩ = false := blk_frozen hz9 7
            have zq8 : w9.cell? ⟨w.heap.size, 8, none⟩ = some (.slice none 0 0) := (blk_cell hz9 8).trans rfl
            have zf8 : w9.frozen? ⟨w.heap.size, 8, none⟩ = false := blk_frozen hz9 8
            clear hp9 hz9
            go_wp2
            refine bodyPost_ret (v := .tuple #[.agg #[.int .i64 0, .int .i64 0, .bool false, .int .i64 0, .int .i64 0, .int .i64 0, .int .i64 0, .bool false, .slice none 0 0], .int .i64 4]) (by simp [results, Try.results33, go_sem, hu, zq0, zf0, zq1, zf1, zq2, zf2, zq3, zf3, zq4, zf4, zq5, zf5, zq6, zf6, zq7, zf7, zq8, zf8]) rfl ⟨_, rfl, Kd.R_nil _ _ _ _ _, ?_⟩
            repeat (with_reducible refine below_set ?_ (Nat.le_refl _))
            exact below_step HB8.out HB9.out
    · rw [if_neg c1] at h
      have c1' : (Go.bits .and .i64 b2 3 != 3) = true := bne_iff_ne.mpr c1
      by_cases hl : n0 < 4
      · rw [if_pos hl] at h
        simp only [pduBad, Option.some.injEq, Prod.mk.injEq] at h
        obtain ⟨rfl, rfl, rfl, rfl, rfl, rfl, rfl, rfl, rfl, rfl⟩ := h
        have hl' : decide ((n0 : Int) < 4) = true := decide_eq_true (by omega)
        clear hl c1 HCopy HCopy4
        go_enter Try.func33, Try.ntmps33
        go_wp2_with fail
        go_region_held3 (fun w' => w'.cell? ad = some (.int .u8 b0) ∧ w'.cell? { block := ad.block, off := ad.off + 1 } = some (.int .u8 b1)) (refine ⟨?_, ?_⟩ <;> repeat (first | exact HA0.out | exact HA1.out | refine Go.Lib.cell?_alloc_some _ ?_)) (fail)
        go_wp2_with fail
        refine bodyPost_ret (v := .tuple #[.agg #[.int .i64 0, .int .i64 0, .bool false, .int .i64 0, .int .i64 0, .int .i64 0, .int .i64 0, .bool false, .slice none 0 0], .int .i64 2]) (by simp [results, Try.results33, go_sem, hu]) rfl ⟨_, rfl, Kd.R_nil _ _ _ _ _, ?_⟩
        repeat (first | (with_reducible first | exact HB00.out | apply below_alloc | apply pw_below_drewN | apply below_drew1) | exact HB00.out)
      · rw [if_neg hl] at h
        obtain ⟨inf, eC, h⟩ := Option.bind_eq_some_iff.mp h
        obtain ⟨A4, q4, hcp⟩ := HCopy4.out (by omega)
        have HCP := Aside0.mk (fun W hB => hcp W inf hB eC)
        obtain ⟨b3, hb3⟩ : ∃ x, rd l0 3 = x := ⟨_, rfl⟩
        have hA3q : ∀ o1 o2, ((w.alloc o1).alloc o2).cell? { block := ad.block, off := ad.off + 3 } = some (.int .u8 b3) := fun o1 o2 => Go.Lib.cell?_alloc_some _ (Go.Lib.cell?_alloc_some _ (hb3 ▸ HA3.out (by omega)))
        rw [hb3] at h w3
        obtain ⟨w3a, w3b⟩ := w3
        have hw3 : IntKind.i64.wrap b3 = b3 := by rw [i64_w]; unfold wrap64; omega
        have h3n : (3 : Int) < (n0 : Int) := by omega
        have h3m : 3 < n0 := by omega
        have hl' : decide ((n0 : Int) < 4) = false := decide_eq_false (by omega)
        clear hl c1 HCopy HCopy4 q3 HA3 hb3 hcp eC
        by_cases c2 : Go.bits .and .i64 b2 1 = 0
        · rw [if_pos c2] at h
          have H := Aside0.mk h
          have c2' : (Go.bits .and .i64 b2 1 == 0) = true := beq_iff_eq.mpr c2
          clear h c2
          go_enter Try.func33, Try.ntmps33
          go_wp2_with fail
          go_region_held3 (fun w' => w'.cell? ad = some (.int .u8 b0) ∧ w'.cell? { block := ad.block, off := ad.off + 1 } = some (.int .u8 b1)) (refine ⟨?_, ?_⟩ <;> repeat (first | exact HA0.out | exact HA1.out | refine Go.Lib.cell?_alloc_some _ ?_)) (fail)
          go_wp2_with fail
          refine (HCP.out _ (by repeat (first | (with_reducible first | exact HB00.out | apply below_alloc | apply pw_below_drewN | apply below_drew1) | exact HB00.out))).mono ?_
          rintro e w1 ⟨v1, rfl, hR, hB⟩
          have hSz : w.heap.size + 2 ≤ w1.heap.size := Nat.le_trans (Nat.le_of_eq (H2.out (.cells #[.int .i64 0, .int .i64 0, .bool false, .int .i64 0, .int .i64 0, .int .i64 0, .int .i64 0, .bool false, .slice none 0 0] 25) (.cells #[.int .i64 b0, .int .i64 (Go.bits .andNot .i64 b1 1), .bool (Go.bits .and .u8 b1 1 == 1), .int .i64 (0), .int .i64 (0), .int .i64 (0), .int .i64 (b3 / 2), .bool (Go.bits .and .u8 b3 1 == 1), .slice none 0 0] 25)).symm) hB.size
          obtain ⟨A8, c8, rfl, hc8, hC8⟩ := Kd.R_reads hR
          have hs1 := H2.out (.cells #[.int .i64 0, .int .i64 0, .bool false, .int .i64 0, .int .i64 0, .int .i64 0, .int .i64 0, .bool false, .slice none 0 0] 25) (.cells #[.int .i64 b0, .int .i64 (Go.bits .andNot .i64 b1 1), .bool (Go.bits .and .u8 b1 1 == 1), .int .i64 (0), .int .i64 (0), .int .i64 (0), .int .i64 (b3 / 2), .bool (Go.bits .and .u8 b3 1 == 1), .slice none 0 0] 25)
          have hp1 : w1.heap[w.heap.size + 1]? = some (.cells #[.int .i64 b0, .int .i64 (Go.bits .andNot .i64 b1 1), .bool (Go.bits .and .u8 b1 1 == 1), .int .i64 (0), .int .i64 (0), .int .i64 (0), .int .i64 (b3 / 2), .bool (Go.bits .and .u8 b3 1 == 1), .slice none 0 0] 25 (0, 0)) := (hB.block _ (Nat.lt_of_lt_of_eq (by omega) hs1.symm)).trans (HNEW.out (.cells #[.int .i64 0, .int .i64 0, .bool false, .int .i64 0, .int .i64 0, .int .i64 0, .int .i64 0, .bool false, .slice none 0 0] 25) (.cells #[.int .i64 b0, .int .i64 (Go.bits .andNot .i64 b1 1), .bool (Go.bits .and .u8 b1 1 == 1), .int .i64 (0), .int .i64 (0), .int .i64 (0), .int .i64 (b3 / 2), .bool (Go.bits .and .u8 b3 1 == 1), .slice none 0 0] 25))
          have hz1 : w1.heap[w.heap.size]? = some (.cells #[.int .i64 0, .int .i64 0, .bool false, .int .i64 0, .int .i64 0, .int .i64 0, .int .i64 0, .bool false, .slice none 0 0] 25 (0, 0)) := (hB.block _ (Nat.lt_of_lt_of_eq (by omega) hs1.symm)).trans (blk_alloc (blk_new w (.cells #[.int .i64 0, .int .i64 0, .bool false, .int .i64 0, .int .i64 0, .int .i64 0, .int .i64 0, .bool false, .slice none 0 0] 25)) (.cells #[.int .i64 b0, .int .i64 (Go.bits .andNot .i64 b1 1), .bool (Go.bits .and .u8 b1 1 == 1), .int .i64 (0), .int .i64 (0), .int .i64 (0), .int .i64 (b3 / 2), .bool (Go.bits .and .u8 b3 1 == 1), .slice none 0 0] 25))
          have hbw : Below w.heap.size w w1 := below_step (by repeat (first | (with_reducible first | exact HB00.out | apply below_alloc | apply pw_below_drewN | apply below_drew1) | exact HB00.out)) hB
          have HR1 := Aside0.mk (Kd.R_lower (base' := w.heap.size) (Kd.R_mono (Kd.R_bound hR) (ok' := fun k => k ≠ w.heap.size + 1 ∧ k ≠ w.heap.size) (fun k hk => by have h9 := hk.2.1; have h8 := Nat.lt_of_lt_of_eq (show w.heap.size + 1 < w.heap.size + 2 by omega) hs1.symm; exact ⟨fun e => absurd (Nat.lt_of_lt_of_le h8 h9) (by omega), fun e => absurd (Nat.lt_of_lt_of_le h8 h9) (by omega)⟩)) (Nat.le_trans (by omega) (Nat.le_of_eq hs1.symm)))
          have HP1 := Aside0.mk hp1
          have HZ1 := Aside0.mk hz1
          have HBW := Aside0.mk hbw
          have HSZ := Aside0.mk (show w.heap.size + 1 < w1.heap.size by omega)
          have HCL8 := Aside0.mk hc8
          have kq0 : w1.cell? ⟨w.heap.size + 1, 0, none⟩ = some (.int .i64 b0) := (blk_cell hp1 0).trans rfl
          have kf0 : w1.frozen? ⟨w.heap.size + 1, 0, none⟩ = false := blk_frozen hp1 0
          have kq1 : w1.cell? ⟨w.heap.size + 1, 1, none⟩ = some (.int .i64 (Go.bits .andNot .i64 b1 1)) := (blk_cell hp1 1).trans rfl
          have kf1 : w1.frozen? ⟨w.heap.size + 1, 1, none⟩ = false := blk_frozen hp1 1
          have kq2 : w1.cell? ⟨w.heap.size + 1, 2, none⟩ = some (.bool (Go.bits .and .u8 b1 1 == 1)) := (blk_cell hp1 2).trans rfl
          have kf2 : w1.frozen? ⟨w.heap.size + 1, 2, none⟩ = false := blk_frozen hp1 2
          have kq3 : w1.cell? ⟨w.heap.size + 1, 3, none⟩ = some (.int .i64 (0)) := (blk_cell hp1 3).trans rfl
          have kf3 : w1.frozen? ⟨w.heap.size + 1, 3, none⟩ = false := blk_frozen hp1 3
          have kq4 : w1.cell? ⟨w.heap.size + 1, 4, none⟩ = some (.int .i64 (0)) := (blk_cell hp1 4).trans rfl
          have kf4 : w1.frozen? ⟨w.heap.size + 1, 4, none⟩ = false := blk_frozen hp1 4
          have kq5 : w1.cell? ⟨w.heap.size + 1, 5, none⟩ = some (.int .i64 (0)) := (blk_cell hp1 5).trans rfl
          have kf5 : w1.frozen? ⟨w.heap.size + 1, 5, none⟩ = false := blk_frozen hp1 5
          have kq6 : w1.cell? ⟨w.heap.size + 1, 6, none⟩ = some (.int .i64 (b3 / 2)) := (blk_cell hp1 6).trans rfl
          have kf6 : w1.frozen? ⟨w.heap.size + 1, 6, none⟩ = false := blk_frozen hp1 6
          have kq7 : w1.cell? ⟨w.heap.size + 1, 7, none⟩ = some (.bool (Go.bits .and .u8 b3 1 == 1)) := (blk_cell hp1 7).trans rfl
          have kf7 : w1.frozen? ⟨w.heap.size + 1, 7, none⟩ = false := blk_frozen hp1 7
          have kq8 : w1.cell? ⟨w.heap.size + 1, 8, none⟩ = some (.slice none 0 0) := (blk_cell hp1 8).trans rfl
          have kf8 : w1.frozen? ⟨w.heap.size + 1, 8, none⟩ = false := blk_frozen hp1 8
          clear hB hR hc8 hC8 hs1 hp1 hz1 hbw hSz
          have HP8 := Aside0.mk (blk_put (blk_put (blk_put (HP1.out) 8 (.slice A8 inf.length c8) rfl) 3 (.int .i64 0) rfl) 5 (.int .i64 (b2 / 2)) rfl)
          have HR8 := Aside0.mk (Kd.R_far (Kd.R_far (Kd.R_far (HR1.out) (p := ⟨w.heap.size + 1, 8, none⟩) (fun k hk => hk.1) (.slice A8 inf.length c8)) (p := ⟨w.heap.size + 1, 3, none⟩) (fun k hk => hk.1) (.int .i64 0)) (p := ⟨w.heap.size + 1, 5, none⟩) (fun k hk => hk.1) (.int .i64 (b2 / 2)))
          have HB8 := Aside0.mk (below_set (g := w.heap.size + 1) (j := 5) (v := .int .i64 (b2 / 2)) (below_set (g := w.heap.size + 1) (j := 3) (v := .int .i64 0) (below_set (g := w.heap.size + 1) (j := 8) (v := .slice A8 inf.length c8) (HBW.out) (by omega)) (by omega)) (by omega))
          have HRES8 := Aside0.mk (blk_far (blk_far (blk_far (HZ1.out) (p := ⟨w.heap.size + 1, 8, none⟩) (by simp) (.slice A8 inf.length c8)) (p := ⟨w.heap.size + 1, 3, none⟩) (by simp) (.int .i64 0)) (p := ⟨w.heap.size + 1, 5, none⟩) (by simp) (.int .i64 (b2 / 2)))
          have HC8 := Aside0.mk (Kd.R_reads' HR8.out).2.2
          rcases fin_cases6 H.out with ⟨hm, hr⟩ | ⟨hm, hr⟩
          · simp only [Prod.mk.injEq] at hr
            obtain ⟨rfl, rfl, rfl, rfl, rfl, rfl, rfl, rfl, rfl, rfl⟩ := hr
            have HM := Aside0.mk hm
            clear hm
            go_wp2_with fail
            refine (antiphonref6_May.calls k _ _ _ _ _ _ _ _ A8 c8 inf true _ HC8.out HCL8.out HM.out).mono ?_
            rintro e w9 ⟨rfl, hB9⟩
            have HB9 := Aside0.mk hB9
            have hp9 := blk_below HP8.out hB9
            have hz9 := blk_below HRES8.out hB9
            clear hB9
            have pq0 : w9.cell? ⟨w.heap.size + 1, 0, none⟩ = some (.int .i64 b0) := (blk_cell hp9 0).trans rfl
            have pf0 : w9.frozen? ⟨w.heap.size + 1, 0, none⟩ = false := blk_frozen hp9 0
            have pq1 : w9.cell? ⟨w.heap.size + 1, 1, none⟩ = some (.int .i64 (Go.bits .andNot .i64 b1 1)) := (blk_cell hp9 1).trans rfl
            have pf1 : w9.frozen? ⟨w.heap.size + 1, 1, none⟩ = false := blk_frozen hp9 1
            have pq2 : w9.cell? ⟨w.heap.size + 1, 2, none⟩ = some (.bool (Go.bits .and .u8 b1 1 == 1)) := (blk_cell hp9 2).trans rfl
            have pf2 : w9.frozen? ⟨w.heap.size + 1, 2, none⟩ = false := blk_frozen hp9 2
            have pq3 : w9.cell? ⟨w.heap.size + 1, 3, none⟩ = some (.int .i64 (0)) := (blk_cell hp9 3).trans rfl
            have pf3 : w9.frozen? ⟨w.heap.size + 1, 3, none⟩ = false := blk_frozen hp9 3
            have pq4 : w9.cell? ⟨w.heap.size + 1, 4, none⟩ = some (.int .i64 (0)) := (blk_cell hp9 4).trans rfl
            have pf4 : w9.frozen? ⟨w.heap.size + 1, 4, none⟩ = false := blk_frozen hp9 4
            have pq5 : w9.cell? ⟨w.heap.size + 1, 5, none⟩ = some (.int .i64 (b2 / 2)) := (blk_cell hp9 5).trans rfl
            have pf5 : w9.frozen? ⟨w.heap.size + 1, 5, none⟩ = false := blk_frozen hp9 5
            have pq6 : w9.cell? ⟨w.heap.size + 1, 6, none⟩ = some (.int .i64 (b3 / 2)) := (blk_cell hp9 6).trans rfl
            have pf6 : w9.frozen? ⟨w.heap.size + 1, 6, none⟩ = false := blk_frozen hp9 6
            have pq7 : w9.cell? ⟨w.heap.size + 1, 7, none⟩ = some (.bool (Go.bits .and .u8 b3 1 == 1)) := (blk_cell hp9 7).trans rfl
            have pf7 : w9.frozen? ⟨w.heap.size + 1, 7, none⟩ = false := blk_frozen hp9 7
            have pq8 : w9.cell? ⟨w.heap.size + 1, 8, none⟩ = some (.slice A8 inf.length c8) := (blk_cell hp9 8).trans rfl
            have pf8 : w9.frozen? ⟨w.heap.size + 1, 8, none⟩ = false := blk_frozen hp9 8
            have zq0 : w9.cell? ⟨w.heap.size, 0, none⟩ = some (.int .i64 0) := (blk_cell hz9 0).trans rfl
            have zf0 : w9.frozen? ⟨w.heap.size, 0, none⟩ = false := blk_frozen hz9 0
            have zq1 : w9.cell? ⟨w.heap.size, 1, none⟩ = some (.int .i64 0) := (blk_cell hz9 1).trans rfl
            have zf1 : w9.frozen? ⟨w.heap.size, 1, none⟩ = false := blk_frozen hz9 1
            have zq2 : w9.cell? ⟨w.heap.size, 2, none⟩ = some (.bool false) := (blk_cell hz9 2).trans rfl
            have zf2 : w9.frozen? ⟨w.heap.size, 2, none⟩ = false := blk_frozen hz9 2
            have zq3 : w9.cell? ⟨w.heap.size, 3, none⟩ = some (.int .i64 0) := (blk_cell hz9 3).trans rfl
            have zf3 : w9.frozen? ⟨w.heap.size, 3, none⟩ = false := blk_frozen hz9 3
            have zq4 : w9.cell? ⟨w.heap.size, 4, none⟩ = some (.int .i64 0) := (blk_cell hz9 4).trans rfl
            have zf4 : w9.frozen? ⟨w.heap.size, 4, none⟩ = false := blk_frozen hz9 4
            have zq5 : w9.cell? ⟨w.heap.size, 5, none⟩ = some (.int .i64 0) := (blk_cell hz9 5).trans rfl
            have zf5 : w9.frozen? ⟨w.heap.size, 5, none⟩ = false := blk_frozen hz9 5
            have zq6 : w9.cell? ⟨w.heap.size, 6, none⟩ = some (.int .i64 0) := (blk_cell hz9 6).trans rfl
            have zf6 : w9.frozen? ⟨w.heap.size, 6, none⟩ = false := blk_frozen hz9 6
            have zq7 : w9.cell? ⟨w.heap.size, 7, none⟩ = some (.bool false) := (blk_cell hz9 7).trans rfl
            have zf7 : w9.frozen? ⟨w.heap.size, 7, none⟩ = false := blk_frozen hz9 7
            have zq8 : w9.cell? ⟨w.heap.size, 8, none⟩ = some (.slice none 0 0) := (blk_cell hz9 8).trans rfl
            have zf8 : w9.frozen? ⟨w.heap.size, 8, none⟩ = false := blk_frozen hz9 8
            clear hp9 hz9
            go_wp2
            refine bodyPost_ret (v := .tuple #[.agg #[.int .i64 b0, .int .i64 (Go.bits .andNot .i64 b1 1), .bool (Go.bits .and .u8 b1 1 == 1), .int .i64 (0), .int .i64 (0), .int .i64 (b2 / 2), .int .i64 (b3 / 2), .bool (Go.bits .and .u8 b3 1 == 1), .slice A8 inf.length c8], .int .i64 0]) (by simp [results, Try.results33, go_sem, hu, zq0, zf0, zq1, zf1, zq2, zf2, zq3, zf3, zq4, zf4, zq5, zf5, zq6, zf6, zq7, zf7, zq8, zf8]) rfl ⟨_, rfl, ?_, ?_⟩
            · refine Kd.R_mono (ok := fun k => k ≠ w.heap.size + 1 ∧ k ≠ w.heap.size) ?_ (fun _ _ => trivial)
              repeat (with_reducible refine Kd.R_far ?_ (fun k hk => hk.2) _)
              exact Kd.R_below HR8.out HB9.out
            · repeat (with_reducible refine below_set ?_ (Nat.le_refl _))
              exact below_step HB8.out HB9.out
          · simp only [pduBad, Prod.mk.injEq] at hr
            obtain ⟨rfl, rfl, rfl, rfl, rfl, rfl, rfl, rfl, rfl, rfl⟩ := hr
            have HM := Aside0.mk hm
            clear hm
            go_wp2_with fail
            refine (antiphonref6_May.calls k _ _ _ _ _ _ _ _ A8 c8 inf false _ HC8.out HCL8.out HM.out).mono ?_
            rintro e w9 ⟨rfl, hB9⟩
            have HB9 := Aside0.mk hB9
            have hp9 := blk_below HP8.out hB9
            have hz9 := blk_below HRES8.out hB9
            clear hB9
            have zq0 : w9.cell? ⟨w.heap.size, 0, none⟩ = some (.int .i64 0) := (blk_cell hz9 0).trans rfl
            have zf0 : w9.frozen? ⟨w.heap.size, 0, none⟩ = false := blk_frozen hz9 0
            have zq1 : w9.cell? ⟨w.heap.size, 1, none⟩ = some (.int .i64 0) := (blk_cell hz9 1).trans rfl
            have zf1 : w9.frozen? ⟨w.heap.size, 1, none⟩ = false := blk_frozen hz9 1
            have zq2 : w9.cell? ⟨w.heap.size, 2, none⟩ = some (.bool false) := (blk_cell hz9 2).trans rfl
            have zf2 : w9.frozen? ⟨w.heap.size, 2, none⟩ = false := blk_frozen hz9 2
            have zq3 : w9.cell? ⟨w.heap.size, 3, none⟩ = some (.int .i64 0) := (blk_cell hz9 3).trans rfl
            have zf3 : w9.frozen? ⟨w.heap.size, 3, none⟩ = false := blk_frozen hz9 3
            have zq4 : w9.cell? ⟨w.heap.size, 4, none⟩ = some (.int .i64 0) := (blk_cell hz9 4).trans rfl
            have zf4 : w9.frozen? ⟨w.heap.size, 4, none⟩ = false := blk_frozen hz9 4
            have zq5 : w9.cell? ⟨w.heap.size, 5, none⟩ = some (.int .i64 0) := (blk_cell hz9 5).trans rfl
            have zf5 : w9.frozen? ⟨w.heap.size, 5, none⟩ = false := blk_frozen hz9 5
            have zq6 : w9.cell? ⟨w.heap.size, 6, none⟩ = some (.int .i64 0) := (blk_cell hz9 6).trans rfl
            have zf6 : w9.frozen? ⟨w.heap.size, 6, none⟩ = false := blk_frozen hz9 6
            have zq7 : w9.cell? ⟨w.heap.size, 7, none⟩ = some (.bool false) := (blk_cell hz9 7).trans rfl
            have zf7 : w9.frozen? ⟨w.heap.size, 7, none⟩ = false := blk_frozen hz9 7
            have zq8 : w9.cell? ⟨w.heap.size, 8, none⟩ = some (.slice none 0 0) := (blk_cell hz9 8).trans rfl
            have zf8 : w9.frozen? ⟨w.heap.size, 8, none⟩ = false := blk_frozen hz9 8
            clear hp9 hz9
            go_wp2
            refine bodyPost_ret (v := .tuple #[.agg #[.int .i64 0, .int .i64 0, .bool false, .int .i64 0, .int .i64 0, .int .i64 0, .int .i64 0, .bool false, .slice none 0 0], .int .i64 4]) (by simp [results, Try.results33, go_sem, hu, zq0, zf0, zq1, zf1, zq2, zf2, zq3, zf3, zq4, zf4, zq5, zf5, zq6, zf6, zq7, zf7, zq8, zf8]) rfl ⟨_, rfl, Kd.R_nil _ _ _ _ _, ?_⟩
            repeat (with_reducible refine below_set ?_ (Nat.le_refl _))
            exact below_step HB8.out HB9.out
        · rw [if_neg c2] at h
          have c2' : (Go.bits .and .i64 b2 1 == 0) = false := beq_eq_false_iff_ne.mpr c2
          by_cases c9 : b2 > 9
          · rw [if_pos c9] at h
            simp only [pduBad, Option.some.injEq, Prod.mk.injEq] at h
            obtain ⟨rfl, rfl, rfl, rfl, rfl, rfl, rfl, rfl, rfl, rfl⟩ := h
            have c9' : decide (9 < b2) = true := decide_eq_true c9
            have c9'' : decide (b2 > 9) = true := decide_eq_true c9
            clear c9 c2
            go_enter Try.func33, Try.ntmps33
            go_wp2_with fail
            go_region_held3 (fun w' => w'.cell? ad = some (.int .u8 b0) ∧ w'.cell? { block := ad.block, off := ad.off + 1 } = some (.int .u8 b1)) (refine ⟨?_, ?_⟩ <;> repeat (first | exact HA0.out | exact HA1.out | refine Go.Lib.cell?_alloc_some _ ?_)) (fail)
            go_wp2_with fail
            refine (HCP.out _ (by repeat (first | (with_reducible first | exact HB00.out | apply below_alloc | apply pw_below_drewN | apply below_drew1) | exact HB00.out))).mono ?_
            rintro e w1 ⟨v1, rfl, hR, hB⟩
            have hSz : w.heap.size + 2 ≤ w1.heap.size := Nat.le_trans (Nat.le_of_eq (H2.out (.cells #[.int .i64 0, .int .i64 0, .bool false, .int .i64 0, .int .i64 0, .int .i64 0, .int .i64 0, .bool false, .slice none 0 0] 25) (.cells #[.int .i64 b0, .int .i64 (Go.bits .andNot .i64 b1 1), .bool (Go.bits .and .u8 b1 1 == 1), .int .i64 (0), .int .i64 (0), .int .i64 (0), .int .i64 (b3 / 2), .bool (Go.bits .and .u8 b3 1 == 1), .slice none 0 0] 25)).symm) hB.size
            obtain ⟨A8, c8, rfl, hc8, hC8⟩ := Kd.R_reads hR
            have hs1 := H2.out (.cells #[.int .i64 0, .int .i64 0, .bool false, .int .i64 0, .int .i64 0, .int .i64 0, .int .i64 0, .bool false, .slice none 0 0] 25) (.cells #[.int .i64 b0, .int .i64 (Go.bits .andNot .i64 b1 1), .bool (Go.bits .and .u8 b1 1 == 1), .int .i64 (0), .int .i64 (0), .int .i64 (0), .int .i64 (b3 / 2), .bool (Go.bits .and .u8 b3 1 == 1), .slice none 0 0] 25)
            have hp1 : w1.heap[w.heap.size + 1]? = some (.cells #[.int .i64 b0, .int .i64 (Go.bits .andNot .i64 b1 1), .bool (Go.bits .and .u8 b1 1 == 1), .int .i64 (0), .int .i64 (0), .int .i64 (0), .int .i64 (b3 / 2), .bool (Go.bits .and .u8 b3 1 == 1), .slice none 0 0] 25 (0, 0)) := (hB.block _ (Nat.lt_of_lt_of_eq (by omega) hs1.symm)).trans (HNEW.out (.cells #[.int .i64 0, .int .i64 0, .bool false, .int .i64 0, .int .i64 0, .int .i64 0, .int .i64 0, .bool false, .slice none 0 0] 25) (.cells #[.int .i64 b0, .int .i64 (Go.bits .andNot .i64 b1 1), .bool (Go.bits .and .u8 b1 1 == 1), .int .i64 (0), .int .i64 (0), .int .i64 (0), .int .i64 (b3 / 2), .bool (Go.bits .and .u8 b3 1 == 1), .slice none 0 0] 25))
            have hz1 : w1.heap[w.heap.size]? = some (.cells #[.int .i64 0, .int .i64 0, .bool false, .int .i64 0, .int .i64 0, .int .i64 0, .int .i64 0, .bool false, .slice none 0 0] 25 (0, 0)) := (hB.block _ (Nat.lt_of_lt_of_eq (by omega) hs1.symm)).trans (blk_alloc (blk_new w (.cells #[.int .i64 0, .int .i64 0, .bool false, .int .i64 0, .int .i64 0, .int .i64 0, .int .i64 0, .bool false, .slice none 0 0] 25)) (.cells #[.int .i64 b0, .int .i64 (Go.bits .andNot .i64 b1 1), .bool (Go.bits .and .u8 b1 1 == 1), .int .i64 (0), .int .i64 (0), .int .i64 (0), .int .i64 (b3 / 2), .bool (Go.bits .and .u8 b3 1 == 1), .slice none 0 0] 25))
            have hbw : Below w.heap.size w w1 := below_step (by repeat (first | (with_reducible first | exact HB00.out | apply below_alloc | apply pw_below_drewN | apply below_drew1) | exact HB00.out)) hB
            have HR1 := Aside0.mk (Kd.R_lower (base' := w.heap.size) (Kd.R_mono (Kd.R_bound hR) (ok' := fun k => k ≠ w.heap.size + 1 ∧ k ≠ w.heap.size) (fun k hk => by have h9 := hk.2.1; have h8 := Nat.lt_of_lt_of_eq (show w.heap.size + 1 < w.heap.size + 2 by omega) hs1.symm; exact ⟨fun e => absurd (Nat.lt_of_lt_of_le h8 h9) (by omega), fun e => absurd (Nat.lt_of_lt_of_le h8 h9) (by omega)⟩)) (Nat.le_trans (by omega) (Nat.le_of_eq hs1.symm)))
            have HP1 := Aside0.mk hp1
            have HZ1 := Aside0.mk hz1
            have HBW := Aside0.mk hbw
            have HSZ := Aside0.mk (show w.heap.size + 1 < w1.heap.size by omega)
            have HCL8 := Aside0.mk hc8
            have kq0 : w1.cell? ⟨w.heap.size + 1, 0, none⟩ = some (.int .i64 b0) := (blk_cell hp1 0).trans rfl
            have kf0 : w1.frozen? ⟨w.heap.size + 1, 0, none⟩ = false := blk_frozen hp1 0
            have kq1 : w1.cell? ⟨w.heap.size + 1, 1, none⟩ = some (.int .i64 (Go.bits .andNot .i64 b1 1)) := (blk_cell hp1 1).trans rfl
            have kf1 : w1.frozen? ⟨w.heap.size + 1, 1, none⟩ = false := blk_frozen hp1 1
            have kq2 : w1.cell? ⟨w.heap.size + 1, 2, none⟩ = some (.bool (Go.bits .and .u8 b1 1 == 1)) := (blk_cell hp1 2).trans rfl
            have kf2 : w1.frozen? ⟨w.heap.size + 1, 2, none⟩ = false := blk_frozen hp1 2
            have kq3 : w1.cell? ⟨w.heap.size + 1, 3, none⟩ = some (.int .i64 (0)) := (blk_cell hp1 3).trans rfl
            have kf3 : w1.frozen? ⟨w.heap.size + 1, 3, none⟩ = false := blk_frozen hp1 3
            have kq4 : w1.cell? ⟨w.heap.size + 1, 4, none⟩ = some (.int .i64 (0)) := (blk_cell hp1 4).trans rfl
            have kf4 : w1.frozen? ⟨w.heap.size + 1, 4, none⟩ = false := blk_frozen hp1 4
            have kq5 : w1.cell? ⟨w.heap.size + 1, 5, none⟩ = some (.int .i64 (0)) := (blk_cell hp1 5).trans rfl
            have kf5 : w1.frozen? ⟨w.heap.size + 1, 5, none⟩ = false := blk_frozen hp1 5
            have kq6 : w1.cell? ⟨w.heap.size + 1, 6, none⟩ = some (.int .i64 (b3 / 2)) := (blk_cell hp1 6).trans rfl
            have kf6 : w1.frozen? ⟨w.heap.size + 1, 6, none⟩ = false := blk_frozen hp1 6
            have kq7 : w1.cell? ⟨w.heap.size + 1, 7, none⟩ = some (.bool (Go.bits .and .u8 b3 1 == 1)) := (blk_cell hp1 7).trans rfl
            have kf7 : w1.frozen? ⟨w.heap.size + 1, 7, none⟩ = false := blk_frozen hp1 7
            have kq8 : w1.cell? ⟨w.heap.size + 1, 8, none⟩ = some (.slice none 0 0) := (blk_cell hp1 8).trans rfl
            have kf8 : w1.frozen? ⟨w.heap.size + 1, 8, none⟩ = false := blk_frozen hp1 8
            have zq0 : w1.cell? ⟨w.heap.size, 0, none⟩ = some (.int .i64 0) := (blk_cell hz1 0).trans rfl
            have zf0 : w1.frozen? ⟨w.heap.size, 0, none⟩ = false := blk_frozen hz1 0
            have zq1 : w1.cell? ⟨w.heap.size, 1, none⟩ = some (.int .i64 0) := (blk_cell hz1 1).trans rfl
            have zf1 : w1.frozen? ⟨w.heap.size, 1, none⟩ = false := blk_frozen hz1 1
            have zq2 : w1.cell? ⟨w.heap.size, 2, none⟩ = some (.bool false) := (blk_cell hz1 2).trans rfl
            have zf2 : w1.frozen? ⟨w.heap.size, 2, none⟩ = false := blk_frozen hz1 2
            have zq3 : w1.cell? ⟨w.heap.size, 3, none⟩ = some (.int .i64 0) := (blk_cell hz1 3).trans rfl
            have zf3 : w1.frozen? ⟨w.heap.size, 3, none⟩ = false := blk_frozen hz1 3
            have zq4 : w1.cell? ⟨w.heap.size, 4, none⟩ = some (.int .i64 0) := (blk_cell hz1 4).trans rfl
            have zf4 : w1.frozen? ⟨w.heap.size, 4, none⟩ = false := blk_frozen hz1 4
            have zq5 : w1.cell? ⟨w.heap.size, 5, none⟩ = some (.int .i64 0) := (blk_cell hz1 5).trans rfl
            have zf5 : w1.frozen? ⟨w.heap.size, 5, none⟩ = false := blk_frozen hz1 5
            have zq6 : w1.cell? ⟨w.heap.size, 6, none⟩ = some (.int .i64 0) := (blk_cell hz1 6).trans rfl
            have zf6 : w1.frozen? ⟨w.heap.size, 6, none⟩ = false := blk_frozen hz1 6
            have zq7 : w1.cell? ⟨w.heap.size, 7, none⟩ = some (.bool false) := (blk_cell hz1 7).trans rfl
            have zf7 : w1.frozen? ⟨w.heap.size, 7, none⟩ = false := blk_frozen hz1 7
            have zq8 : w1.cell? ⟨w.heap.size, 8, none⟩ = some (.slice none 0 0) := (blk_cell hz1 8).trans rfl
            have zf8 : w1.frozen? ⟨w.heap.size, 8, none⟩ = false := blk_frozen hz1 8
            clear hB hR hc8 hC8 hs1 hp1 hz1 hbw hSz
            go_wp2_with fail
            refine bodyPost_ret (v := .tuple #[.agg #[.int .i64 0, .int .i64 0, .bool false, .int .i64 0, .int .i64 0, .int .i64 0, .int .i64 0, .bool false, .slice none 0 0], .int .i64 4]) (by simp [results, Try.results33, go_sem, hu, zq0, zf0, zq1, zf1, zq2, zf2, zq3, zf3, zq4, zf4, zq5, zf5, zq6, zf6, zq7, zf7, zq8, zf8]) rfl ⟨_, rfl, Kd.R_nil _ _ _ _ _, ?_⟩
            repeat (with_reducible refine below_set ?_ (by omega))
            exact HBW.out
          · rw [if_neg c9] at h
            have H := Aside0.mk h
            have c9' : decide (9 < b2) = false := decide_eq_false c9
            have c9'' : decide (b2 > 9) = false := decide_eq_false c9
            clear h c9 c2
            go_enter Try.func33, Try.ntmps33
            go_wp2_with fail
            go_region_held3 (fun w' => w'.cell? ad = some (.int .u8 b0) ∧ w'.cell? { block := ad.block, off := ad.off + 1 } = some (.int .u8 b1)) (refine ⟨?_, ?_⟩ <;> repeat (first | exact HA0.out | exact HA1.out | refine Go.Lib.cell?_alloc_some _ ?_)) (fail)
            go_wp2_with fail
            refine (HCP.out _ (by repeat (first | (with_reducible first | exact HB00.out | apply below_alloc | apply pw_below_drewN | apply below_drew1) | exact HB00.out))).mono ?_
            rintro e w1 ⟨v1, rfl, hR, hB⟩
            have hSz : w.heap.size + 2 ≤ w1.heap.size := Nat.le_trans (Nat.le_of_eq (H2.out (.cells #[.int .i64 0, .int .i64 0, .bool false, .int .i64 0, .int .i64 0, .int .i64 0, .int .i64 0, .bool false, .slice none 0 0] 25) (.cells #[.int .i64 b0, .int .i64 (Go.bits .andNot .i64 b1 1), .bool (Go.bits .and .u8 b1 1 == 1), .int .i64 (0), .int .i64 (0), .int .i64 (0), .int .i64 (b3 / 2), .bool (Go.bits .and .u8 b3 1 == 1), .slice none 0 0] 25)).symm) hB.size
            obtain ⟨A8, c8, rfl, hc8, hC8⟩ := Kd.R_reads hR
            have hs1 := H2.out (.cells #[.int .i64 0, .int .i64 0, .bool false, .int .i64 0, .int .i64 0, .int .i64 0, .int .i64 0, .bool false, .slice none 0 0] 25) (.cells #[.int .i64 b0, .int .i64 (Go.bits .andNot .i64 b1 1), .bool (Go.bits .and .u8 b1 1 == 1), .int .i64 (0), .int .i64 (0), .int .i64 (0), .int .i64 (b3 / 2), .bool (Go.bits .and .u8 b3 1 == 1), .slice none 0 0] 25)
            have hp1 : w1.heap[w.heap.size + 1]? = some (.cells #[.int .i64 b0, .int .i64 (Go.bits .andNot .i64 b1 1), .bool (Go.bits .and .u8 b1 1 == 1), .int .i64 (0), .int .i64 (0), .int .i64 (0), .int .i64 (b3 / 2), .bool (Go.bits .and .u8 b3 1 == 1), .slice none 0 0] 25 (0, 0)) := (hB.block _ (Nat.lt_of_lt_of_eq (by omega) hs1.symm)).trans (HNEW.out (.cells #[.int .i64 0, .int .i64 0, .bool false, .int .i64 0, .int .i64 0, .int .i64 0, .int .i64 0, .bool false, .slice none 0 0] 25) (.cells #[.int .i64 b0, .int .i64 (Go.bits .andNot .i64 b1 1), .bool (Go.bits .and .u8 b1 1 == 1), .int .i64 (0), .int .i64 (0), .int .i64 (0), .int .i64 (b3 / 2), .bool (Go.bits .and .u8 b3 1 == 1), .slice none 0 0] 25))
            have hz1 : w1.heap[w.heap.size]? = some (.cells #[.int .i64 0, .int .i64 0, .bool false, .int .i64 0, .int .i64 0, .int .i64 0, .int .i64 0, .bool false, .slice none 0 0] 25 (0, 0)) := (hB.block _ (Nat.lt_of_lt_of_eq (by omega) hs1.symm)).trans (blk_alloc (blk_new w (.cells #[.int .i64 0, .int .i64 0, .bool false, .int .i64 0, .int .i64 0, .int .i64 0, .int .i64 0, .bool false, .slice none 0 0] 25)) (.cells #[.int .i64 b0, .int .i64 (Go.bits .andNot .i64 b1 1), .bool (Go.bits .and .u8 b1 1 == 1), .int .i64 (0), .int .i64 (0), .int .i64 (0), .int .i64 (b3 / 2), .bool (Go.bits .and .u8 b3 1 == 1), .slice none 0 0] 25))
            have hbw : Below w.heap.size w w1 := below_step (by repeat (first | (with_reducible first | exact HB00.out | apply below_alloc | apply pw_below_drewN | apply below_drew1) | exact HB00.out)) hB
            have HR1 := Aside0.mk (Kd.R_lower (base' := w.heap.size) (Kd.R_mono (Kd.R_bound hR) (ok' := fun k => k ≠ w.heap.size + 1 ∧ k ≠ w.heap.size) (fun k hk => by have h9 := hk.2.1; have h8 := Nat.lt_of_lt_of_eq (show w.heap.size + 1 < w.heap.size + 2 by omega) hs1.symm; exact ⟨fun e => absurd (Nat.lt_of_lt_of_le h8 h9) (by omega), fun e => absurd (Nat.lt_of_lt_of_le h8 h9) (by omega)⟩)) (Nat.le_trans (by omega) (Nat.le_of_eq hs1.symm)))
            have HP1 := Aside0.mk hp1
            have HZ1 := Aside0.mk hz1
            have HBW := Aside0.mk hbw
            have HSZ := Aside0.mk (show w.heap.size + 1 < w1.heap.size by omega)
            have HCL8 := Aside0.mk hc8
            have kq0 : w1.cell? ⟨w.heap.size + 1, 0, none⟩ = some (.int .i64 b0) := (blk_cell hp1 0).trans rfl
            have kf0 : w1.frozen? ⟨w.heap.size + 1, 0, none⟩ = false := blk_frozen hp1 0
            have kq1 : w1.cell? ⟨w.heap.size + 1, 1, none⟩ = some (.int .i64 (Go.bits .andNot .i64 b1 1)) := (blk_cell hp1 1).trans rfl
            have kf1 : w1.frozen? ⟨w.heap.size + 1, 1, none⟩ = false := blk_frozen hp1 1
            have kq2 : w1.cell? ⟨w.heap.size + 1, 2, none⟩ = some (.bool (Go.bits .and .u8 b1 1 == 1)) := (blk_cell hp1 2).trans rfl
            have kf2 : w1.frozen? ⟨w.heap.size + 1, 2, none⟩ = false := blk_frozen hp1 2
            have kq3 : w1.cell? ⟨w.heap.size + 1, 3, none⟩ = some (.int .i64 (0)) := (blk_cell hp1 3).trans rfl
            have kf3 : w1.frozen? ⟨w.heap.size + 1, 3, none⟩ = false := blk_frozen hp1 3
            have kq4 : w1.cell? ⟨w.heap.size + 1, 4, none⟩ = some (.int .i64 (0)) := (blk_cell hp1 4).trans rfl
            have kf4 : w1.frozen? ⟨w.heap.size + 1, 4, none⟩ = false := blk_frozen hp1 4
            have kq5 : w1.cell? ⟨w.heap.size + 1, 5, none⟩ = some (.int .i64 (0)) := (blk_cell hp1 5).trans rfl
            have kf5 : w1.frozen? ⟨w.heap.size + 1, 5, none⟩ = false := blk_frozen hp1 5
            have kq6 : w1.cell? ⟨w.heap.size + 1, 6, none⟩ = some (.int .i64 (b3 / 2)) := (blk_cell hp1 6).trans rfl
            have kf6 : w1.frozen? ⟨w.heap.size + 1, 6, none⟩ = false := blk_frozen hp1 6
            have kq7 : w1.cell? ⟨w.heap.size + 1, 7, none⟩ = some (.bool (Go.bits .and .u8 b3 1 == 1)) := (blk_cell hp1 7).trans rfl
            have kf7 : w1.frozen? ⟨w.heap.size + 1, 7, none⟩ = false := blk_frozen hp1 7
            have kq8 : w1.cell? ⟨w.heap.size + 1, 8, none⟩ = some (.slice none 0 0) := (blk_cell hp1 8).trans rfl
            have kf8 : w1.frozen? ⟨w.heap.size + 1, 8, none⟩ = false := blk_frozen hp1 8
            clear hB hR hc8 hC8 hs1 hp1 hz1 hbw hSz
            have HP8 := Aside0.mk (blk_put (blk_put (blk_put (HP1.out) 8 (.slice A8 inf.length c8) rfl) 3 (.int .i64 1) rfl) 4 (.int .i64 (b2 / 4)) rfl)
            have HR8 := Aside0.mk (Kd.R_far (Kd.R_far (Kd.R_far (HR1.out) (p := ⟨w.heap.size + 1, 8, none⟩) (fun k hk => hk.1) (.slice A8 inf.length c8)) (p := ⟨w.heap.size + 1, 3, none⟩) (fun k hk => hk.1) (.int .i64 1)) (p := ⟨w.heap.size + 1, 4, none⟩) (fun k hk => hk.1) (.int .i64 (b2 / 4)))
            have HB8 := Aside0.mk (below_set (g := w.heap.size + 1) (j := 4) (v := .int .i64 (b2 / 4)) (below_set (g := w.heap.size + 1) (j := 3) (v := .int .i64 1) (below_set (g := w.heap.size + 1) (j := 8) (v := .slice A8 inf.length c8) (HBW.out) (by omega)) (by omega)) (by omega))
            have HRES8 := Aside0.mk (blk_far (blk_far (blk_far (HZ1.out) (p := ⟨w.heap.size + 1, 8, none⟩) (by simp) (.slice A8 inf.length c8)) (p := ⟨w.heap.size + 1, 3, none⟩) (by simp) (.int .i64 1)) (p := ⟨w.heap.size + 1, 4, none⟩) (by simp) (.int .i64 (b2 / 4)))
            have HC8 := Aside0.mk (Kd.R_reads' HR8.out).2.2
            rcases fin_cases6 H.out with ⟨hm, hr⟩ | ⟨hm, hr⟩
            · simp only [Prod.mk.injEq] at hr
              obtain ⟨rfl, rfl, rfl, rfl, rfl, rfl, rfl, rfl, rfl, rfl⟩ := hr
              have HM := Aside0.mk hm
              clear hm
              go_wp2_with fail
              refine (antiphonref6_May.calls k _ _ _ _ _ _ _ _ A8 c8 inf true _ HC8.out HCL8.out HM.out).mono ?_
              rintro e w9 ⟨rfl, hB9⟩
              have HB9 := Aside0.mk hB9
              have hp9 := blk_below HP8.out hB9
              have hz9 := blk_below HRES8.out hB9
              clear hB9
              have pq0 : w9.cell? ⟨w.heap.size + 1, 0, none⟩ = some (.int .i64 b0) := (blk_cell hp9 0).trans rfl
              have pf0 : w9.frozen? ⟨w.heap.size + 1, 0, none⟩ = false := blk_frozen hp9 0
              have pq1 : w9.cell? ⟨w.heap.size + 1, 1, none⟩ = some (.int .i64 (Go.bits .andNot .i64 b1 1)) := (blk_cell hp9 1).trans rfl
              have pf1 : w9.frozen? ⟨w.heap.size + 1, 1, none⟩ = false := blk_frozen hp9 1
              have pq2 : w9.cell? ⟨w.heap.size + 1, 2, none⟩ = some (.bool (Go.bits .and .u8 b1 1 == 1)) := (blk_cell hp9 2).trans rfl
              have pf2 : w9.frozen? ⟨w.heap.size + 1, 2, none⟩ = false := blk_frozen hp9 2
              have pq3 : w9.cell? ⟨w.heap.size + 1, 3, none⟩ = some (.int .i64 (1)) := (blk_cell hp9 3).trans rfl
              have pf3 : w9.frozen? ⟨w.heap.size + 1, 3, none⟩ = false := blk_frozen hp9 3
              have pq4 : w9.cell? ⟨w.heap.size + 1, 4, none⟩ = some (.int .i64 (b2 / 4)) := (blk_cell hp9 4).trans rfl
              have pf4 : w9.frozen? ⟨w.heap.size + 1, 4, none⟩ = false := blk_frozen hp9 4
              have pq5 : w9.cell? ⟨w.heap.size + 1, 5, none⟩ = some (.int .i64 (0)) := (blk_cell hp9 5).trans rfl
              have pf5 : w9.frozen? ⟨w.heap.size + 1, 5, none⟩ = false := blk_frozen hp9 5
              have pq6 : w9.cell? ⟨w.heap.size + 1, 6, none⟩ = some (.int .i64 (b3 / 2)) := (blk_cell hp9 6).trans rfl
              have pf6 : w9.frozen? ⟨w.heap.size + 1, 6, none⟩ = false := blk_frozen hp9 6
              have pq7 : w9.cell? ⟨w.heap.size + 1, 7, none⟩ = some (.bool (Go.bits .and .u8 b3 1 == 1)) := (blk_cell hp9 7).trans rfl
              have pf7 : w9.frozen? ⟨w.heap.size + 1, 7, none⟩ = false := blk_frozen hp9 7
              have pq8 : w9.cell? ⟨w.heap.size + 1, 8, none⟩ = some (.slice A8 inf.length c8) := (blk_cell hp9 8).trans rfl
              have pf8 : w9.frozen? ⟨w.heap.size + 1, 8, none⟩ = false := blk_frozen hp9 8
              have zq0 : w9.cell? ⟨w.heap.size, 0, none⟩ = some (.int .i64 0) := (blk_cell hz9 0).trans rfl
              have zf0 : w9.frozen? ⟨w.heap.size, 0, none⟩ = false := blk_frozen hz9 0
              have zq1 : w9.cell? ⟨w.heap.size, 1, none⟩ = some (.int .i64 0) := (blk_cell hz9 1).trans rfl
              have zf1 : w9.frozen? ⟨w.heap.size, 1, none⟩ = false := blk_frozen hz9 1
              have zq2 : w9.cell? ⟨w.heap.size, 2, none⟩ = some (.bool false) := (blk_cell hz9 2).trans rfl
              have zf2 : w9.frozen? ⟨w.heap.size, 2, none⟩ = false := blk_frozen hz9 2
              have zq3 : w9.cell? ⟨w.heap.size, 3, none⟩ = some (.int .i64 0) := (blk_cell hz9 3).trans rfl
              have zf3 : w9.frozen? ⟨w.heap.size, 3, none⟩ = false := blk_frozen hz9 3
              have zq4 : w9.cell? ⟨w.heap.size, 4, none⟩ = some (.int .i64 0) := (blk_cell hz9 4).trans rfl
              have zf4 : w9.frozen? ⟨w.heap.size, 4, none⟩ = false := blk_frozen hz9 4
              have zq5 : w9.cell? ⟨w.heap.size, 5, none⟩ = some (.int .i64 0) := (blk_cell hz9 5).trans rfl
              have zf5 : w9.frozen? ⟨w.heap.size, 5, none⟩ = false := blk_frozen hz9 5
              have zq6 : w9.cell? ⟨w.heap.size, 6, none⟩ = some (.int .i64 0) := (blk_cell hz9 6).trans rfl
              have zf6 : w9.frozen? ⟨w.heap.size, 6, none⟩ = false := blk_frozen hz9 6
              have zq7 : w9.cell? ⟨w.heap.size, 7, none⟩ = some (.bool false) := (blk_cell hz9 7).trans rfl
              have zf7 : w9.frozen? ⟨w.heap.size, 7, none⟩ = false := blk_frozen hz9 7
              have zq8 : w9.cell? ⟨w.heap.size, 8, none⟩ = some (.slice none 0 0) := (blk_cell hz9 8).trans rfl
              have zf8 : w9.frozen? ⟨w.heap.size, 8, none⟩ = false := blk_frozen hz9 8
              clear hp9 hz9
              go_wp2
              refine bodyPost_ret (v := .tuple #[.agg #[.int .i64 b0, .int .i64 (Go.bits .andNot .i64 b1 1), .bool (Go.bits .and .u8 b1 1 == 1), .int .i64 (1), .int .i64 (b2 / 4), .int .i64 (0), .int .i64 (b3 / 2), .bool (Go.bits .and .u8 b3 1 == 1), .slice A8 inf.length c8], .int .i64 0]) (by simp [results, Try.results33, go_sem, hu, zq0, zf0, zq1, zf1, zq2, zf2, zq3, zf3, zq4, zf4, zq5, zf5, zq6, zf6, zq7, zf7, zq8, zf8]) rfl ⟨_, rfl, ?_, ?_⟩
              · refine Kd.R_mono (ok := fun k => k ≠ w.heap.size + 1 ∧ k ≠ w.heap.size) ?_ (fun _ _ => trivial)
                repeat (with_reducible refine Kd.R_far ?_ (fun k hk => hk.2) _)
                exact Kd.R_below HR8.out HB9.out
              · repeat (with_reducible refine below_set ?_ (Nat.le_refl _))
                exact below_step HB8.out HB9.out
            · simp only [pduBad, Prod.mk.injEq] at hr
              obtain ⟨rfl, rfl, rfl, rfl, rfl, rfl, rfl, rfl, rfl, rfl⟩ := hr
              have HM := Aside0.mk hm
              clear hm
              go_wp2_with fail
              refine (antiphonref6_May.calls k _ _ _ _ _ _ _ _ A8 c8 inf false _ HC8.out HCL8.out HM.out).mono ?_
              rintro e w9 ⟨rfl, hB9⟩
              have HB9 := Aside0.mk hB9
              have hp9 := blk_below HP8.out hB9
              have hz9 := blk_below HRES8.out hB9
              clear hB9
              have zq0 : w9.cell? ⟨w.heap.size, 0, none⟩ = some (.int .i64 0) := (blk_cell hz9 0).trans rfl
              have zf0 : w9.frozen? ⟨w.heap.size, 0, none⟩ = false := blk_frozen hz9 0
              have zq1 : w9.cell? ⟨w.heap.size, 1, none⟩ = some (.int .i64 0) := (blk_cell hz9 1).trans rfl
              have zf1 : w9.frozen? ⟨w.heap.size, 1, none⟩ = false := blk_frozen hz9 1
              have zq2 : w9.cell? ⟨w.heap.size, 2, none⟩ = some (.bool false) := (blk_cell hz9 2).trans rfl
              have zf2 : w9.frozen? ⟨w.heap.size, 2, none⟩ = false := blk_frozen hz9 2
              have zq3 : w9.cell? ⟨w.heap.size, 3, none⟩ = some (.int .i64 0) := (blk_cell hz9 3).trans rfl
              have zf3 : w9.frozen? ⟨w.heap.size, 3, none⟩ = false := blk_frozen hz9 3
              have zq4 : w9.cell? ⟨w.heap.size, 4, none⟩ = some (.int .i64 0) := (blk_cell hz9 4).trans rfl
              have zf4 : w9.frozen? ⟨w.heap.size, 4, none⟩ = false := blk_frozen hz9 4
              have zq5 : w9.cell? ⟨w.heap.size, 5, none⟩ = some (.int .i64 0) := (blk_cell hz9 5).trans rfl
              have zf5 : w9.frozen? ⟨w.heap.size, 5, none⟩ = false := blk_frozen hz9 5
              have zq6 : w9.cell? ⟨w.heap.size, 6, none⟩ = some (.int .i64 0) := (blk_cell hz9 6).trans rfl
              have zf6 : w9.frozen? ⟨w.heap.size, 6, none⟩ = false := blk_frozen hz9 6
              have zq7 : w9.cell? ⟨w.heap.size, 7, none⟩ = some (.bool false) := (blk_cell hz9 7).trans rfl
              have zf7 : w9.frozen? ⟨w.heap.size, 7, none⟩ = false := blk_frozen hz9 7
              have zq8 : w9.cell? ⟨w.heap.size, 8, none⟩ = some (.slice none 0 0) := (blk_cell hz9 8).trans rfl
              have zf8 : w9.frozen? ⟨w.heap.size, 8, none⟩ = false := blk_frozen hz9 8
              clear hp9 hz9
              go_wp2
              refine bodyPost_ret (v := .tuple #[.agg #[.int .i64 0, .int .i64 0, .bool false, .int .i64 0, .int .i64 0, .int .i64 0, .int .i64 0, .bool false, .slice none 0 0], .int .i64 4]) (by simp [results, Try.results33, go_sem, hu, zq0, zf0, zq1, zf1, zq2, zf2, zq3, zf3, zq4, zf4, zq5, zf5, zq6, zf6, zq7, zf7, zq8, zf8]) rfl ⟨_, rfl, Kd.R_nil _ _ _ _ _, ?_⟩
              repeat (with_reducible refine below_set ?_ (Nat.le_refl _))
              exact below_step HB8.out HB9.out
end Go.Proofs.Ytnmcoebjkfpmjaa.P
/-! Px6 -/
namespace Go.Proofs.Ytnmcoebjkfpmjaa.P
open Go.RowKit Go.Proofs.YtnmcoebjkfpmjaaW.PrintWords Go.Proofs.YtnmcoebjkfpmjaaW.PrintLast Go.Proofs.YtnmcoebjkfpmjaaW.PrintMore
attribute [local go_sem] max2_int min2_int max_two min_two max_three min_three max_four min_four   -- for this text's walks alone
set_option linter.unusedVariables false
set_option linter.unusedSimpArgs false
def antiphonlaw6_PduAll.l0 : Nat → Int → Int → List Int → Int → Option (Bool)
  | 0, _, _, _, _ => none
  | k + 1, x0, x1, x2, x7 => if x7 < 256 then ((some (([x0, x1, (x7) % 256] : List Int) : List Int)).bind fun y102 => (if y102.length + x2.length < 140737488355328 then ((some (y102 ++ x2 : List Int)).bind fun y105 => ((pdu_Decode.f k y105).bind fun bt108 => ((antiphonref6_Decode.f k y105).bind fun bt121 => (if bt108.2.2.2.2.2.2.2.2.2 = bt121.2.2.2.2.2.2.2.2.2 then ((antiphonref6_Same.f k bt108.1 bt108.2.1 bt108.2.2.1 bt108.2.2.2.1 bt108.2.2.2.2.1 bt108.2.2.2.2.2.1 bt108.2.2.2.2.2.2.1 bt108.2.2.2.2.2.2.2.1 bt108.2.2.2.2.2.2.2.2.1 bt121.1 bt121.2.1 bt121.2.2.1 bt121.2.2.2.1 bt121.2.2.2.2.1 bt121.2.2.2.2.2.1 bt121.2.2.2.2.2.2.1 bt121.2.2.2.2.2.2.2.1 bt121.2.2.2.2.2.2.2.2.1).bind fun t134 => (if t134 = true then (antiphonlaw6_PduAll.l0 k x0 x1 x2 (wrap64 (x7 + 1))) else (none))) else (none))))) else (none))) else (some true)
def antiphonlaw6_PduAll.f (k : Nat) (a0 : Int) (a1 : Int) (l2 : List Int) : Option (Bool) := (antiphonlaw6_awake.f k).bind fun t101 => (if t101 = true then (if (l2.length : Int) > 30 then (some true) else (antiphonlaw6_PduAll.l0 k a0 a1 l2 0)) else (none))
set_option maxHeartbeats 8000000 in
set_option maxRecDepth 100000 in
theorem antiphonlaw6_PduAll.calls (k : Nat) (a0 : Int) (a1 : Int) (A2 : Option Addr) (c2 : Nat) (l2 : List Int) (r : Bool) (w : World) (hr2 : Kd.C (Kd.int .u8) w A2 l2.length l2) (hc2 : l2.length ≤ c2) (h : antiphonlaw6_PduAll.f k a0 a1 l2 = some r) :
    Calls Try.prog 5 #[.int .u8 a0, .int .u8 a1, .slice A2 l2.length c2] w fun e w' => e = .returned (.bool r) ∧ Below w.heap.size w w' := by
  have hu25 := Try.underlying25
  have HR2 := Aside0.mk hr2
  have HC2 := Aside0.mk hc2
  clear hr2 hc2
  have HB := Aside0.mk (Below.refl w.heap.size w)
  have H : ((antiphonlaw6_awake.f k).bind fun t101 => (if t101 = true then (if (l2.length : Int) > 30 then (some true) else (antiphonlaw6_PduAll.l0 k a0 a1 l2 0)) else (none))) = some r := h
  clear h
  replace H := Option.bind_eq_some_iff.mp H
  obtain ⟨t101, A40, H⟩ := H
  replace H : (if t101 = true then (if (l2.length : Int) > 30 then (some true) else (antiphonlaw6_PduAll.l0 k a0 a1 l2 0)) else (none)) = some r := H
  have A4 := Aside0.mk A40
  clear A40
  by_cases c5 : t101 = true
  · subst c5
    have H1 : (if (l2.length : Int) > 30 then (some true) else (antiphonlaw6_PduAll.l0 k a0 a1 l2 0)) = some r := by rw [if_pos rfl] at H; exact H
    clear H
    have H := H1
    clear H1
    by_cases c6 : (l2.length : Int) > 30
    · rw [if_pos c6] at H
      have c6b0 : decide (30 < (l2.length : Int)) = true := decide_eq_true c6
      have c6b1 : decide (30 < l2.length) = true := decide_eq_true (by omega)
      clear c6
      obtain rfl := Option.some.inj H
      go_enter Try.func5, Try.ntmps5
      go_wp2_with (first | ((with_reducible refine gate_callee (f := 28) rfl ?_); refine goesL_ (some 13) rfl rfl Try.func28 (by kernel_rfl) rfl #[] rfl (by (try simp only [List.map_toArray, List.map_cons, List.map_nil]); first | done | rfl | (simp only [List.length_drop, List.length_take]; rfl)) ?_; (with_reducible refine (antiphonlaw6_awake.calls k  true _ A4.out).mono ?_); rintro e w7 ⟨rfl, hb⟩; refine ⟨_, rfl, ?_⟩; have n0_ := Aside0.mk (below_step (by repeat (first | (with_reducible first | exact HB.out | apply below_alloc | apply pw_below_drewN | apply below_drew1) | exact HB.out)) hb); clear HB; have HB := n0_; clear n0_; (try clear hb); (try clear hb2); (try clear hk); (try clear hi)))
      go_ret
      exact ⟨by first | rfl | (simp [errW_none, errW_some] <;> rfl) | (simp [*, errW_none, errW_some] <;> rfl), by repeat (first | (with_reducible first | exact HB.out | apply below_alloc | apply pw_below_drewN | apply below_drew1) | exact HB.out)⟩
    · rw [if_neg c6] at H
      have c6b0 : decide (30 < (l2.length : Int)) = false := decide_eq_false c6
      have c6b1 : decide (30 < l2.length) = false := decide_eq_false (by omega)
      clear c6
      have H' := Aside0.mk H
      clear H
      go_enter Try.func5, Try.ntmps5
      go_wp2_with (first | ((with_reducible refine gate_callee (f := 28) rfl ?_); refine goesL_ (some 13) rfl rfl Try.func28 (by kernel_rfl) rfl #[] rfl (by (try simp only [List.map_toArray, List.map_cons, List.map_nil]); first | done | rfl | (simp only [List.length_drop, List.length_take]; rfl)) ?_; (with_reducible refine (antiphonlaw6_awake.calls k  true _ A4.out).mono ?_); rintro e w8 ⟨rfl, hb⟩; refine ⟨_, rfl, ?_⟩; have n0_ := Aside0.mk (below_step (by repeat (first | (with_reducible first | exact HB.out | apply below_alloc | apply pw_below_drewN | apply below_drew1) | exact HB.out)) hb); clear HB; have HB := n0_; clear n0_; (try clear hb); (try clear hb2); (try clear hk); (try clear hi)))
      go_loopg [7] k (fun kq v7 w' => ∃ (x7_1 : Int), v7 = .int .i64 x7_1 ∧ Aside0 (antiphonlaw6_PduAll.l0 kq a0 a1 l2 x7_1 = some r) ∧ Aside0 (kq ≤ k) ∧ Aside0 (Below w.heap.size w w'))
      case atStart => exact ⟨(0), (by first | rfl | (simp; done) | (simp [*]; done)), H', ⟨Nat.le_refl _⟩, ⟨by repeat (first | (with_reducible first | exact HB.out | apply below_alloc | apply pw_below_drewN | apply below_drew1) | exact HB.out)⟩⟩
      case round =>
        clear H'
        try clear c2
        try clear p2
        try clear c5
        try clear c6
        try clear c6b0
        try clear c6b1
        obtain ⟨x7_1, rfl, HA, HK1, HB⟩ := hrel
        cases gk with
        | zero => exact absurd HA.out (by simp [antiphonlaw6_PduAll.l0])
        | succ k1 =>
          have H := HA.out
          clear HA
          simp only [antiphonlaw6_PduAll.l0] at H
          by_cases c9 : x7_1 < 256
          · rw [if_pos c9] at H
            have c9b0 : decide (x7_1 < 256) = true := decide_eq_true c9
            clear c9
            obtain ⟨y102, hy102⟩ : ∃ y_ : List Int, y_ = (([a0, a1, (x7_1) % 256] : List Int)) := ⟨_, rfl⟩
            replace H : (if y102.length + l2.length < 140737488355328 then ((some (y102 ++ l2 : List Int)).bind fun y105 => ((pdu_Decode.f k1 y105).bind fun bt108 => ((antiphonref6_Decode.f k1 y105).bind fun bt121 => (if bt108.2.2.2.2.2.2.2.2.2 = bt121.2.2.2.2.2.2.2.2.2 then ((antiphonref6_Same.f k1 bt108.1 bt108.2.1 bt108.2.2.1 bt108.2.2.2.1 bt108.2.2.2.2.1 bt108.2.2.2.2.2.1 bt108.2.2.2.2.2.2.1 bt108.2.2.2.2.2.2.2.1 bt108.2.2.2.2.2.2.2.2.1 bt121.1 bt121.2.1 bt121.2.2.1 bt121.2.2.2.1 bt121.2.2.2.2.1 bt121.2.2.2.2.2.1 bt121.2.2.2.2.2.2.1 bt121.2.2.2.2.2.2.2.1 bt121.2.2.2.2.2.2.2.2.1).bind fun t134 => (if t134 = true then (antiphonlaw6_PduAll.l0 k1 a0 a1 l2 (wrap64 (x7_1 + 1))) else (none))) else (none))))) else (none)) = some r := by first | (rw [hy102]; with_reducible exact H) | (have H2_ := (Option.bind_some _ _).symm.trans H; rw [hy102]; with_reducible exact H2_) | (have H2_ := (Option.bind_some _ _).symm.trans H; with_reducible exact H2_) | with_reducible exact H | (rw [hy102]; exact H) | exact H
            have Ny102 := Aside0.mk hy102
            clear hy102
            by_cases c10 : y102.length + l2.length < 140737488355328
            · rw [if_pos c10] at H
              have LMc10 := Aside0.mk c10
              clear c10
              obtain ⟨y105, hy105⟩ : ∃ y_ : List Int, y_ = (y102 ++ l2) := ⟨_, rfl⟩
              replace H : ((pdu_Decode.f k1 y105).bind fun bt108 => ((antiphonref6_Decode.f k1 y105).bind fun bt121 => (if bt108.2.2.2.2.2.2.2.2.2 = bt121.2.2.2.2.2.2.2.2.2 then ((antiphonref6_Same.f k1 bt108.1 bt108.2.1 bt108.2.2.1 bt108.2.2.2.1 bt108.2.2.2.2.1 bt108.2.2.2.2.2.1 bt108.2.2.2.2.2.2.1 bt108.2.2.2.2.2.2.2.1 bt108.2.2.2.2.2.2.2.2.1 bt121.1 bt121.2.1 bt121.2.2.1 bt121.2.2.2.1 bt121.2.2.2.2.1 bt121.2.2.2.2.2.1 bt121.2.2.2.2.2.2.1 bt121.2.2.2.2.2.2.2.1 bt121.2.2.2.2.2.2.2.2.1).bind fun t134 => (if t134 = true then (antiphonlaw6_PduAll.l0 k1 a0 a1 l2 (wrap64 (x7_1 + 1))) else (none))) else (none)))) = some r := by first | (rw [hy105]; with_reducible exact H) | (have H2_ := (Option.bind_some _ _).symm.trans H; rw [hy105]; with_reducible exact H2_) | (have H2_ := (Option.bind_some _ _).symm.trans H; with_reducible exact H2_) | with_reducible exact H | (rw [hy105]; exact H) | exact H
              have Ny105 := Aside0.mk hy105
              clear hy105
              replace H := Option.bind_eq_some_iff.mp H
              obtain ⟨⟨t108, t109, t110, t111, t112, t113, t114, t115, t116, t119⟩, A110, H⟩ := H
              replace H : ((antiphonref6_Decode.f k1 y105).bind fun bt121 => (if t119 = bt121.2.2.2.2.2.2.2.2.2 then ((antiphonref6_Same.f k1 t108 t109 t110 t111 t112 t113 t114 t115 t116 bt121.1 bt121.2.1 bt121.2.2.1 bt121.2.2.2.1 bt121.2.2.2.2.1 bt121.2.2.2.2.2.1 bt121.2.2.2.2.2.2.1 bt121.2.2.2.2.2.2.2.1 bt121.2.2.2.2.2.2.2.2.1).bind fun t134 => (if t134 = true then (antiphonlaw6_PduAll.l0 k1 a0 a1 l2 (wrap64 (x7_1 + 1))) else (none))) else (none))) = some r := H
              have A11 := Aside0.mk A110
              clear A110
              replace H := Option.bind_eq_some_iff.mp H
              obtain ⟨⟨t121, t122, t123, t124, t125, t126, t127, t128, t129, t132⟩, A120, H⟩ := H
              replace H : (if t119 = t132 then ((antiphonref6_Same.f k1 t108 t109 t110 t111 t112 t113 t114 t115 t116 t121 t122 t123 t124 t125 t126 t127 t128 t129).bind fun t134 => (if t134 = true then (antiphonlaw6_PduAll.l0 k1 a0 a1 l2 (wrap64 (x7_1 + 1))) else (none))) else (none)) = some r := H
              have A12 := Aside0.mk A120
              clear A120
              by_cases c13 : t119 = t132
              · rw [if_pos c13] at H
                have c13b0 : (t119 == t132) = true := beq_iff_eq.mpr c13
                have c13b1 : (t119 != t132) = false := bne_eq_false_iff_eq.mpr c13
                clear c13
                replace H := Option.bind_eq_some_iff.mp H
                obtain ⟨t134, A140, H⟩ := H
                replace H : (if t134 = true then (antiphonlaw6_PduAll.l0 k1 a0 a1 l2 (wrap64 (x7_1 + 1))) else (none)) = some r := H
                have A14 := Aside0.mk A140
                clear A140
                by_cases c15 : t134 = true
                · subst c15
                  have H1 : (antiphonlaw6_PduAll.l0 k1 a0 a1 l2 (wrap64 (x7_1 + 1))) = some r := by rw [if_pos rfl] at H; exact H
                  clear H
                  have H := H1
                  clear H1
                  have H' := Aside0.mk H
                  clear H
                  go_wp2_with (first | ((with_reducible refine gate_dst (N := 26) rfl ?_); refine Kd.R_lit (Kd.int .u8) _ 5 ?hg (N := 26) ?hd (xs := ([a0, a1, (x7_1) % 256] : List Int)) (inner := [.int .u8 a0, .int .u8 a1, .int .u8 ((x7_1) % 256)]) (ok := fun _ => True) (okp := fun _ => True) ?hr ?hp (fun _ hk => hk) trivial (Below.refl _ _) (Nat.le_refl _) (by simp) ?_; (case hd => rfl); (case hg => rfl); (case hr => first | (go_simp; done) | (go_simp; rfl)); (case hp => exact (Reps.one (show Kd.M (Kd.int .u8) _ _ _ a0 [.int .u8 a0] from rfl) (Reps.one (show Kd.M (Kd.int .u8) _ _ _ a1 [.int .u8 a1] from rfl) (Reps.one (show Kd.M (Kd.int .u8) _ _ _ ((x7_1) % 256) [.int .u8 ((x7_1) % 256)] from rfl) (Reps.none _ _))))); intro v103 w16 ho17 hb hg_ hnew_; clear hg_ hnew_; (first | rw [← Ny102.out] at ho17 | (simp only [Int.reduceToNat] at ho17; rw [← Ny102.out] at ho17)); have n0_ := Aside0.mk (Kd.R_lower ho17 (below_size (by repeat (first | (with_reducible first | exact HB.out | apply below_alloc | apply pw_below_drewN | apply below_drew1) | exact HB.out)))); have n1_ := Aside0.mk (below_step (by repeat (first | (with_reducible first | exact HB.out | apply below_alloc | apply pw_below_drewN | apply below_drew1) | exact HB.out)) hb); clear HB; have HO104 := n0_; have HB := n1_; clear n0_ n1_; clear hb ho17) | ((with_reducible refine gate_builtin (b := .append) (xs := #[.tmp 26, .tmp 27]) rfl ?_); at_builtin; refine Kd.R_append_rows (Kd.int .u8) (w0 := w) w.heap.size rfl (.tmp 26) (.tmp 27) 23 5 (.int .u8 0) 1 rfl Try.underlying23 info5 rfl (by decide) (by omega) v103 y102 l2 _ _ _ (fun _ => True) (fun _ => False) rfl rfl ?aO ?aR (fun _ _ h => h) (fun _ h => h.elim) ?aF ?aB ?aS ?aL ?_; (case aR => repeat (first | exact (Kd.C_below HR2.out HB.out) | (with_reducible refine Kd.C_alloc ?_ _) | (with_reducible refine Kd.C_drewN ?_ _) | (with_reducible refine Kd.C_drew ?_))); (case aB => exact (by repeat (first | (with_reducible first | exact HB.out | apply below_alloc | apply pw_below_drewN | apply below_drew1) | exact HB.out))); (case aF => exact (fun _ _ => trivial)); (case aO => exact (by (with_reducible repeat (first | apply Kd.R_alloc | apply Kd.R_drewN | apply Kd.R_drew)); exact HO104.out)); (case aS => exact (below_size (by repeat (first | (with_reducible first | exact HB.out | apply below_alloc | apply pw_below_drewN | apply below_drew1) | exact HB.out)))); (case aL => have := LMc10.out; omega); intro v106 w18 ho hb hg hat; rw [← Ny105.out] at ho; have n0_ := Aside0.mk (hb); have n1_ := Aside0.mk (ho); clear HB; clear HO104; have HB := n0_; have HO107 := n1_; clear n0_ n1_; clear ho hb hg hat; obtain ⟨Ao19, co19, eo19⟩ := Kd.R_slice HO107.out; subst eo19) | ((with_reducible refine gate_callee (f := 29) rfl ?_); refine goesL_ (some 31) rfl rfl Try.func29 (by kernel_rfl) rfl #[.slice Ao19 y105.length co19] rfl (by (try simp only [List.map_toArray, List.map_cons, List.map_nil]); first | done | rfl | (simp only [List.length_drop, List.length_take]; rfl)) ?_; (with_reducible refine (pdu_Decode.calls k1 _ _ y105 t108 t109 t110 t111 t112 t113 t114 t115 t116 t119 _ ?side1 ?side2 A11.out).mono ?_); (case side1 => repeat (first | exact (Kd.R_reads' HO107.out).2.2 | (with_reducible refine Kd.C_alloc ?_ _) | (with_reducible refine Kd.C_drewN ?_ _) | (with_reducible refine Kd.C_drew ?_))); (case side2 => exact (Kd.R_reads' HO107.out).2.1); rintro e w20 ⟨v117, rfl, ho0, hb⟩; refine ⟨_, rfl, ?_⟩; have n0_ := Aside0.mk (Kd.R_elder' (by (with_reducible repeat (first | apply Kd.R_alloc | apply Kd.R_drewN | apply Kd.R_drew)); exact HO107.out) (Kd.R_base ho0) hb); have n1_ := Aside0.mk (Kd.R_lower (Kd.R_new' ho0 (Kd.R_lt (by (with_reducible repeat (first | apply Kd.R_alloc | apply Kd.R_drewN | apply Kd.R_drew)); exact HO107.out))) (below_size (by repeat (first | (with_reducible first | exact HB.out | apply below_alloc | apply pw_below_drewN | apply below_drew1) | exact HB.out)))); have n2_ := Aside0.mk (below_step (by repeat (first | (with_reducible first | exact HB.out | apply below_alloc | apply pw_below_drewN | apply below_drew1) | exact HB.out)) hb); clear HO107; clear HB; have HO107 := n0_; have HO118 := n1_; have HB := n2_; clear n0_ n1_ n2_; (try clear hb); (try clear hb2); (try clear hk); (try clear hi); (try clear ho0)) | ((with_reducible refine gate_dst (N := 9) rfl ?_); refine box_event ?hg (N := 9) ?hd (cs := #[.int .i64 0, .int .i64 0, .bool false, .int .i64 0, .int .i64 0, .int .i64 0, .int .i64 0, .bool false, .slice none 0 0]) (t := 25) ?hr ?_; (case hd => rfl); (case hg => rfl); (case hr => first | (go_simp; done) | (go_simp; rfl)); intro gb120 hg w21 hbox hb; have n0_ := Aside0.mk (Kd.R_below (by (with_reducible repeat (first | apply Kd.R_alloc | apply Kd.R_drewN | apply Kd.R_drew)); exact HO107.out) hb); have n1_ := Aside0.mk (Kd.R_below (by (with_reducible repeat (first | apply Kd.R_alloc | apply Kd.R_drewN | apply Kd.R_drew)); exact HO118.out) hb); have n2_ := Aside0.mk (below_step (by repeat (first | (with_reducible first | exact HB.out | apply below_alloc | apply pw_below_drewN | apply below_drew1) | exact HB.out)) hb); have n3_ := Aside0.mk (hbox); have n4_ := Aside0.mk ((by rw [hg]; exact (below_size (by repeat (first | (with_reducible first | exact HB.out | apply below_alloc | apply pw_below_drewN | apply below_drew1) | exact HB.out))) : w.heap.size ≤ gb120)); have n5_ := Aside0.mk ((by rw [hg]; exact (below_size (by repeat (first | (with_reducible first | exact HB.out | apply below_alloc | apply pw_below_drewN | apply below_drew1) | exact HB.out))) : w.heap.size ≤ gb120)); clear HO107; clear HO118; clear HB; have HO107 := n0_; have HO118 := n1_; have HB := n2_; have BK120 := n3_; have GW120 := n4_; have GE120 := n5_; clear n0_ n1_ n2_ n3_ n4_ n5_; clear hb hbox hg; have hcz22_0 : w21.cell? ⟨gb120, 0, none⟩ = some (.int .i64 0) := (blk_cell BK120.out 0).trans rfl; have hcz22_1 : w21.cell? ⟨gb120, 1, none⟩ = some (.int .i64 0) := (blk_cell BK120.out 1).trans rfl; have hcz22_2 : w21.cell? ⟨gb120, 2, none⟩ = some (.bool false) := (blk_cell BK120.out 2).trans rfl; have hcz22_3 : w21.cell? ⟨gb120, 3, none⟩ = some (.int .i64 0) := (blk_cell BK120.out 3).trans rfl; have hcz22_4 : w21.cell? ⟨gb120, 4, none⟩ = some (.int .i64 0) := (blk_cell BK120.out 4).trans rfl; have hcz22_5 : w21.cell? ⟨gb120, 5, none⟩ = some (.int .i64 0) := (blk_cell BK120.out 5).trans rfl; have hcz22_6 : w21.cell? ⟨gb120, 6, none⟩ = some (.int .i64 0) := (blk_cell BK120.out 6).trans rfl; have hcz22_7 : w21.cell? ⟨gb120, 7, none⟩ = some (.bool false) := (blk_cell BK120.out 7).trans rfl; have hcz22_8 : w21.cell? ⟨gb120, 8, none⟩ = some (.slice none 0 0) := (blk_cell BK120.out 8).trans rfl; have hfz22_0 := blk_frozen BK120.out 0; have hfz22_1 := blk_frozen BK120.out 1; have hfz22_2 := blk_frozen BK120.out 2; have hfz22_3 := blk_frozen BK120.out 3; have hfz22_4 := blk_frozen BK120.out 4; have hfz22_5 := blk_frozen BK120.out 5; have hfz22_6 := blk_frozen BK120.out 6; have hfz22_7 := blk_frozen BK120.out 7; have hfz22_8 := blk_frozen BK120.out 8; obtain ⟨Ao23, co23, eo23⟩ := Kd.R_slice HO118.out; subst eo23) | ((with_reducible refine gate_callee (f := 33) rfl ?_); refine goesL_ (some 36) rfl rfl Try.func33 (by kernel_rfl) rfl #[.slice Ao19 y105.length co19] rfl (by (try simp only [List.map_toArray, List.map_cons, List.map_nil]); first | done | rfl | (simp only [List.length_drop, List.length_take]; rfl)) ?_; (with_reducible refine (antiphonref6_Decode.calls k1 _ _ y105 t121 t122 t123 t124 t125 t126 t127 t128 t129 t132 _ ?side1 ?side2 A12.out).mono ?_); (case side1 => refine (Kd.R_reads' (e := 5) (base := w.heap.size) (ok := fun k_ => (True ∧ some k_ ≠ (.slice Ao23 t116.length co23 : Value).ownBlock)) (n := y105.length) (c := co19) ?_).2.2; exact (by (with_reducible repeat (first | apply Kd.R_alloc | apply Kd.R_drewN | apply Kd.R_drew)); exact (Kd.R_mono (Kd.R_far (p := ⟨gb120, 8, none⟩) (Kd.R_far (p := ⟨gb120, 7, none⟩) (Kd.R_far (p := ⟨gb120, 6, none⟩) (Kd.R_far (p := ⟨gb120, 5, none⟩) (Kd.R_far (p := ⟨gb120, 4, none⟩) (Kd.R_far (p := ⟨gb120, 3, none⟩) (Kd.R_far (p := ⟨gb120, 2, none⟩) (Kd.R_far (p := ⟨gb120, 1, none⟩) (Kd.R_far (p := ⟨gb120, 0, none⟩) (Kd.R_types HO107.out BK120.out (by decide)) (fun _ hk => hk.2) (.int .i64 t108)) (fun _ hk => hk.2) (.int .i64 t109)) (fun _ hk => hk.2) (.bool t110)) (fun _ hk => hk.2) (.int .i64 t111)) (fun _ hk => hk.2) (.int .i64 t112)) (fun _ hk => hk.2) (.int .i64 t113)) (fun _ hk => hk.2) (.int .i64 t114)) (fun _ hk => hk.2) (.bool t115)) (fun _ hk => hk.2) (.slice Ao23 t116.length co23)) (fun _ h_ => h_.1)))); (case side2 => exact (Kd.R_reads' HO107.out).2.1); rintro e w24 ⟨v130, rfl, ho0, hb⟩; refine ⟨_, rfl, ?_⟩; have n0_ := Aside0.mk (Kd.R_elder' (by (with_reducible repeat (first | apply Kd.R_alloc | apply Kd.R_drewN | apply Kd.R_drew)); exact (Kd.R_mono (Kd.R_far (p := ⟨gb120, 8, none⟩) (Kd.R_far (p := ⟨gb120, 7, none⟩) (Kd.R_far (p := ⟨gb120, 6, none⟩) (Kd.R_far (p := ⟨gb120, 5, none⟩) (Kd.R_far (p := ⟨gb120, 4, none⟩) (Kd.R_far (p := ⟨gb120, 3, none⟩) (Kd.R_far (p := ⟨gb120, 2, none⟩) (Kd.R_far (p := ⟨gb120, 1, none⟩) (Kd.R_far (p := ⟨gb120, 0, none⟩) (Kd.R_types HO107.out BK120.out (by decide)) (fun _ hk => hk.2) (.int .i64 t108)) (fun _ hk => hk.2) (.int .i64 t109)) (fun _ hk => hk.2) (.bool t110)) (fun _ hk => hk.2) (.int .i64 t111)) (fun _ hk => hk.2) (.int .i64 t112)) (fun _ hk => hk.2) (.int .i64 t113)) (fun _ hk => hk.2) (.int .i64 t114)) (fun _ hk => hk.2) (.bool t115)) (fun _ hk => hk.2) (.slice Ao23 t116.length co23)) (fun _ h_ => h_.1))) (Kd.R_base ho0) hb); have n1_ := Aside0.mk (Kd.R_elder' (by (with_reducible repeat (first | apply Kd.R_alloc | apply Kd.R_drewN | apply Kd.R_drew)); exact (Kd.R_mono (Kd.R_far (p := ⟨gb120, 8, none⟩) (Kd.R_far (p := ⟨gb120, 7, none⟩) (Kd.R_far (p := ⟨gb120, 6, none⟩) (Kd.R_far (p := ⟨gb120, 5, none⟩) (Kd.R_far (p := ⟨gb120, 4, none⟩) (Kd.R_far (p := ⟨gb120, 3, none⟩) (Kd.R_far (p := ⟨gb120, 2, none⟩) (Kd.R_far (p := ⟨gb120, 1, none⟩) (Kd.R_far (p := ⟨gb120, 0, none⟩) (Kd.R_types HO118.out BK120.out (by decide)) (fun _ hk => hk.2) (.int .i64 t108)) (fun _ hk => hk.2) (.int .i64 t109)) (fun _ hk => hk.2) (.bool t110)) (fun _ hk => hk.2) (.int .i64 t111)) (fun _ hk => hk.2) (.int .i64 t112)) (fun _ hk => hk.2) (.int .i64 t113)) (fun _ hk => hk.2) (.int .i64 t114)) (fun _ hk => hk.2) (.bool t115)) (fun _ hk => hk.2) (.slice Ao23 t116.length co23)) (fun _ h_ => h_.1))) (Kd.R_base ho0) hb); have n2_ := Aside0.mk (Kd.R_lower (Kd.R_new' (Kd.R_new' ho0 (Kd.R_lt (by (with_reducible repeat (first | apply Kd.R_alloc | apply Kd.R_drewN | apply Kd.R_drew)); exact (Kd.R_mono (Kd.R_far (p := ⟨gb120, 8, none⟩) (Kd.R_far (p := ⟨gb120, 7, none⟩) (Kd.R_far (p := ⟨gb120, 6, none⟩) (Kd.R_far (p := ⟨gb120, 5, none⟩) (Kd.R_far (p := ⟨gb120, 4, none⟩) (Kd.R_far (p := ⟨gb120, 3, none⟩) (Kd.R_far (p := ⟨gb120, 2, none⟩) (Kd.R_far (p := ⟨gb120, 1, none⟩) (Kd.R_far (p := ⟨gb120, 0, none⟩) (Kd.R_types HO107.out BK120.out (by decide)) (fun _ hk => hk.2) (.int .i64 t108)) (fun _ hk => hk.2) (.int .i64 t109)) (fun _ hk => hk.2) (.bool t110)) (fun _ hk => hk.2) (.int .i64 t111)) (fun _ hk => hk.2) (.int .i64 t112)) (fun _ hk => hk.2) (.int .i64 t113)) (fun _ hk => hk.2) (.int .i64 t114)) (fun _ hk => hk.2) (.bool t115)) (fun _ hk => hk.2) (.slice Ao23 t116.length co23)) (fun _ h_ => h_.1))))) (Kd.R_lt (by (with_reducible repeat (first | apply Kd.R_alloc | apply Kd.R_drewN | apply Kd.R_drew)); exact (Kd.R_mono (Kd.R_far (p := ⟨gb120, 8, none⟩) (Kd.R_far (p := ⟨gb120, 7, none⟩) (Kd.R_far (p := ⟨gb120, 6, none⟩) (Kd.R_far (p := ⟨gb120, 5, none⟩) (Kd.R_far (p := ⟨gb120, 4, none⟩) (Kd.R_far (p := ⟨gb120, 3, none⟩) (Kd.R_far (p := ⟨gb120, 2, none⟩) (Kd.R_far (p := ⟨gb120, 1, none⟩) (Kd.R_far (p := ⟨gb120, 0, none⟩) (Kd.R_types HO118.out BK120.out (by decide)) (fun _ hk => hk.2) (.int .i64 t108)) (fun _ hk => hk.2) (.int .i64 t109)) (fun _ hk => hk.2) (.bool t110)) (fun _ hk => hk.2) (.int .i64 t111)) (fun _ hk => hk.2) (.int .i64 t112)) (fun _ hk => hk.2) (.int .i64 t113)) (fun _ hk => hk.2) (.int .i64 t114)) (fun _ hk => hk.2) (.bool t115)) (fun _ hk => hk.2) (.slice Ao23 t116.length co23)) (fun _ h_ => h_.1))))) (below_size (by repeat (first | (with_reducible first | exact HB.out | apply below_alloc | apply pw_below_drewN | apply below_drew1 | refine below_set ?_ GE120.out) | exact HB.out)))); have n3_ := Aside0.mk (blk_below (g := gb120) (o := .cells #[.int .i64 t108, .int .i64 t109, .bool t110, .int .i64 t111, .int .i64 t112, .int .i64 t113, .int .i64 t114, .bool t115, .slice Ao23 t116.length co23] 25 (0, 0)) (by (with_reducible repeat (first | refine blk_drewN ?_ _ | refine blk_drew ?_ | refine blk_alloc ?_ _)); refine blk_put (cs := #[.int .i64 t108, .int .i64 t109, .bool t110, .int .i64 t111, .int .i64 t112, .int .i64 t113, .int .i64 t114, .bool t115, .slice none 0 0]) ?_ 8 _ rfl; (with_reducible repeat (first | refine blk_drewN ?_ _ | refine blk_drew ?_ | refine blk_alloc ?_ _)); refine blk_put (cs := #[.int .i64 t108, .int .i64 t109, .bool t110, .int .i64 t111, .int .i64 t112, .int .i64 t113, .int .i64 t114, .bool false, .slice none 0 0]) ?_ 7 _ rfl; (with_reducible repeat (first | refine blk_drewN ?_ _ | refine blk_drew ?_ | refine blk_alloc ?_ _)); refine blk_put (cs := #[.int .i64 t108, .int .i64 t109, .bool t110, .int .i64 t111, .int .i64 t112, .int .i64 t113, .int .i64 0, .bool false, .slice none 0 0]) ?_ 6 _ rfl; (with_reducible repeat (first | refine blk_drewN ?_ _ | refine blk_drew ?_ | refine blk_alloc ?_ _)); refine blk_put (cs := #[.int .i64 t108, .int .i64 t109, .bool t110, .int .i64 t111, .int .i64 t112, .int .i64 0, .int .i64 0, .bool false, .slice none 0 0]) ?_ 5 _ rfl; (with_reducible repeat (first | refine blk_drewN ?_ _ | refine blk_drew ?_ | refine blk_alloc ?_ _)); refine blk_put (cs := #[.int .i64 t108, .int .i64 t109, .bool t110, .int .i64 t111, .int .i64 0, .int .i64 0, .int .i64 0, .bool false, .slice none 0 0]) ?_ 4 _ rfl; (with_reducible repeat (first | refine blk_drewN ?_ _ | refine blk_drew ?_ | refine blk_alloc ?_ _)); refine blk_put (cs := #[.int .i64 t108, .int .i64 t109, .bool t110, .int .i64 0, .int .i64 0, .int .i64 0, .int .i64 0, .bool false, .slice none 0 0]) ?_ 3 _ rfl; (with_reducible repeat (first | refine blk_drewN ?_ _ | refine blk_drew ?_ | refine blk_alloc ?_ _)); refine blk_put (cs := #[.int .i64 t108, .int .i64 t109, .bool false, .int .i64 0, .int .i64 0, .int .i64 0, .int .i64 0, .bool false, .slice none 0 0]) ?_ 2 _ rfl; (with_reducible repeat (first | refine blk_drewN ?_ _ | refine blk_drew ?_ | refine blk_alloc ?_ _)); refine blk_put (cs := #[.int .i64 t108, .int .i64 0, .bool false, .int .i64 0, .int .i64 0, .int .i64 0, .int .i64 0, .bool false, .slice none 0 0]) ?_ 1 _ rfl; (with_reducible repeat (first | refine blk_drewN ?_ _ | refine blk_drew ?_ | refine blk_alloc ?_ _)); refine blk_put (cs := #[.int .i64 0, .int .i64 0, .bool false, .int .i64 0, .int .i64 0, .int .i64 0, .int .i64 0, .bool false, .slice none 0 0]) ?_ 0 _ rfl; (with_reducible repeat (first | refine blk_drewN ?_ _ | refine blk_drew ?_ | refine blk_alloc ?_ _)); exact BK120.out) hb); have n4_ := Aside0.mk (below_step (by repeat (first | (with_reducible first | exact HB.out | apply below_alloc | apply pw_below_drewN | apply below_drew1 | refine below_set ?_ GE120.out) | exact HB.out)) hb); clear HO107; clear HO118; clear BK120; clear HB; have HO107 := n0_; have HO118 := n1_; have HO131 := n2_; have BK120 := n3_; have HB := n4_; clear n0_ n1_ n2_ n3_ n4_; (try clear hb); (try clear hb2); (try clear hk); (try clear hi); (try clear ho0)) | ((with_reducible refine gate_dst (N := 11) rfl ?_); refine box_event ?hg (N := 11) ?hd (cs := #[.int .i64 0, .int .i64 0, .bool false, .int .i64 0, .int .i64 0, .int .i64 0, .int .i64 0, .bool false, .slice none 0 0]) (t := 25) ?hr ?_; (case hd => rfl); (case hg => rfl); (case hr => first | (go_simp; done) | (go_simp; rfl)); intro gb133 hg w25 hbox hb; have n0_ := Aside0.mk (Kd.R_below (by (with_reducible repeat (first | apply Kd.R_alloc | apply Kd.R_drewN | apply Kd.R_drew)); exact HO107.out) hb); have n1_ := Aside0.mk (Kd.R_below (by (with_reducible repeat (first | apply Kd.R_alloc | apply Kd.R_drewN | apply Kd.R_drew)); exact HO118.out) hb); have n2_ := Aside0.mk (Kd.R_below (by (with_reducible repeat (first | apply Kd.R_alloc | apply Kd.R_drewN | apply Kd.R_drew)); exact HO131.out) hb); have n3_ := Aside0.mk (blk_below (g := gb120) (o := .cells #[.int .i64 t108, .int .i64 t109, .bool t110, .int .i64 t111, .int .i64 t112, .int .i64 t113, .int .i64 t114, .bool t115, .slice Ao23 t116.length co23] 25 (0, 0)) (by (with_reducible repeat (first | refine blk_drewN ?_ _ | refine blk_drew ?_ | refine blk_alloc ?_ _)); exact BK120.out) hb); have n4_ := Aside0.mk (below_step (by repeat (first | (with_reducible first | exact HB.out | apply below_alloc | apply pw_below_drewN | apply below_drew1 | refine below_set ?_ GE120.out) | exact HB.out)) hb); have n5_ := Aside0.mk (hbox); have n6_ := Aside0.mk ((by rw [hg]; exact (below_size (by repeat (first | (with_reducible first | exact HB.out | apply below_alloc | apply pw_below_drewN | apply below_drew1 | refine below_set ?_ GE120.out) | exact HB.out))) : w.heap.size ≤ gb133)); have n7_ := Aside0.mk ((by rw [hg]; exact (below_size (by repeat (first | (with_reducible first | exact HB.out | apply below_alloc | apply pw_below_drewN | apply below_drew1 | refine below_set ?_ GE120.out) | exact HB.out))) : w.heap.size ≤ gb133)); have n8_ := Aside0.mk ((by rw [hg]; exact Nat.ne_of_lt (blk_lt (g := gb120) (o := .cells #[.int .i64 t108, .int .i64 t109, .bool t110, .int .i64 t111, .int .i64 t112, .int .i64 t113, .int .i64 t114, .bool t115, .slice Ao23 t116.length co23] 25 (0, 0)) (by (with_reducible repeat (first | refine blk_drewN ?_ _ | refine blk_drew ?_ | refine blk_alloc ?_ _)); exact BK120.out)) : gb120 ≠ gb133)); have n9_ := Aside0.mk ((by rw [hg]; exact Nat.ne_of_gt (blk_lt (g := gb120) (o := .cells #[.int .i64 t108, .int .i64 t109, .bool t110, .int .i64 t111, .int .i64 t112, .int .i64 t113, .int .i64 t114, .bool t115, .slice Ao23 t116.length co23] 25 (0, 0)) (by (with_reducible repeat (first | refine blk_drewN ?_ _ | refine blk_drew ?_ | refine blk_alloc ?_ _)); exact BK120.out)) : gb133 ≠ gb120)); clear HO107; clear HO118; clear HO131; clear BK120; clear HB; have HO107 := n0_; have HO118 := n1_; have HO131 := n2_; have BK120 := n3_; have HB := n4_; have BK133 := n5_; have GW133 := n6_; have GE133 := n7_; have NB120_133 := n8_; have NB133_120 := n9_; clear n0_ n1_ n2_ n3_ n4_ n5_ n6_ n7_ n8_ n9_; clear hb hbox hg; have hnb26 := NB133_120.out; have hnc26 := NB120_133.out; have hcz27_0 : w25.cell? ⟨gb133, 0, none⟩ = some (.int .i64 0) := (blk_cell BK133.out 0).trans rfl; have hcz27_1 : w25.cell? ⟨gb133, 1, none⟩ = some (.int .i64 0) := (blk_cell BK133.out 1).trans rfl; have hcz27_2 : w25.cell? ⟨gb133, 2, none⟩ = some (.bool false) := (blk_cell BK133.out 2).trans rfl; have hcz27_3 : w25.cell? ⟨gb133, 3, none⟩ = some (.int .i64 0) := (blk_cell BK133.out 3).trans rfl; have hcz27_4 : w25.cell? ⟨gb133, 4, none⟩ = some (.int .i64 0) := (blk_cell BK133.out 4).trans rfl; have hcz27_5 : w25.cell? ⟨gb133, 5, none⟩ = some (.int .i64 0) := (blk_cell BK133.out 5).trans rfl; have hcz27_6 : w25.cell? ⟨gb133, 6, none⟩ = some (.int .i64 0) := (blk_cell BK133.out 6).trans rfl; have hcz27_7 : w25.cell? ⟨gb133, 7, none⟩ = some (.bool false) := (blk_cell BK133.out 7).trans rfl; have hcz27_8 : w25.cell? ⟨gb133, 8, none⟩ = some (.slice none 0 0) := (blk_cell BK133.out 8).trans rfl; have hfz27_0 := blk_frozen BK133.out 0; have hfz27_1 := blk_frozen BK133.out 1; have hfz27_2 := blk_frozen BK133.out 2; have hfz27_3 := blk_frozen BK133.out 3; have hfz27_4 := blk_frozen BK133.out 4; have hfz27_5 := blk_frozen BK133.out 5; have hfz27_6 := blk_frozen BK133.out 6; have hfz27_7 := blk_frozen BK133.out 7; have hfz27_8 := blk_frozen BK133.out 8; obtain ⟨Ao28, co28, eo28⟩ := Kd.R_slice HO131.out; subst eo28; have hcz29_0 : w25.cell? ⟨gb120, 0, none⟩ = some (.int .i64 t108) := (blk_cell BK120.out 0).trans rfl; have hcz29_1 : w25.cell? ⟨gb120, 1, none⟩ = some (.int .i64 t109) := (blk_cell BK120.out 1).trans rfl; have hcz29_2 : w25.cell? ⟨gb120, 2, none⟩ = some (.bool t110) := (blk_cell BK120.out 2).trans rfl; have hcz29_3 : w25.cell? ⟨gb120, 3, none⟩ = some (.int .i64 t111) := (blk_cell BK120.out 3).trans rfl; have hcz29_4 : w25.cell? ⟨gb120, 4, none⟩ = some (.int .i64 t112) := (blk_cell BK120.out 4).trans rfl; have hcz29_5 : w25.cell? ⟨gb120, 5, none⟩ = some (.int .i64 t113) := (blk_cell BK120.out 5).trans rfl; have hcz29_6 : w25.cell? ⟨gb120, 6, none⟩ = some (.int .i64 t114) := (blk_cell BK120.out 6).trans rfl; have hcz29_7 : w25.cell? ⟨gb120, 7, none⟩ = some (.bool t115) := (blk_cell BK120.out 7).trans rfl; have hcz29_8 : w25.cell? ⟨gb120, 8, none⟩ = some (.slice Ao23 t116.length co23) := (blk_cell BK120.out 8).trans rfl; have hfz29_0 := blk_frozen BK120.out 0; have hfz29_1 := blk_frozen BK120.out 1; have hfz29_2 := blk_frozen BK120.out 2; have hfz29_3 := blk_frozen BK120.out 3; have hfz29_4 := blk_frozen BK120.out 4; have hfz29_5 := blk_frozen BK120.out 5; have hfz29_6 := blk_frozen BK120.out 6; have hfz29_7 := blk_frozen BK120.out 7; have hfz29_8 := blk_frozen BK120.out 8) | (go_at_call 37; (with_reducible refine (antiphonref6_Same.calls k1 t108 t109 t110 t111 t112 t113 t114 t115 _ _ t116 t121 t122 t123 t124 t125 t126 t127 t128 _ _ t129 true _ ?side1 ?side2 ?side3 ?side4 A14.out).mono ?_); (case side1 => refine (Kd.R_reads' (e := 5) (base := w.heap.size) (ok := fun k_ => ((True ∧ some k_ ≠ (.slice Ao19 y105.length co19 : Value).ownBlock) ∧ some k_ ≠ (.slice Ao28 t129.length co28 : Value).ownBlock)) (n := t116.length) (c := co23) ?_).2.2; exact (by (with_reducible repeat (first | apply Kd.R_alloc | apply Kd.R_drewN | apply Kd.R_drew)); exact (Kd.R_mono (Kd.R_far (p := ⟨gb133, 8, none⟩) (Kd.R_far (p := ⟨gb133, 7, none⟩) (Kd.R_far (p := ⟨gb133, 6, none⟩) (Kd.R_far (p := ⟨gb133, 5, none⟩) (Kd.R_far (p := ⟨gb133, 4, none⟩) (Kd.R_far (p := ⟨gb133, 3, none⟩) (Kd.R_far (p := ⟨gb133, 2, none⟩) (Kd.R_far (p := ⟨gb133, 1, none⟩) (Kd.R_far (p := ⟨gb133, 0, none⟩) (Kd.R_types HO118.out BK133.out (by decide)) (fun _ hk => hk.2) (.int .i64 t121)) (fun _ hk => hk.2) (.int .i64 t122)) (fun _ hk => hk.2) (.bool t123)) (fun _ hk => hk.2) (.int .i64 t124)) (fun _ hk => hk.2) (.int .i64 t125)) (fun _ hk => hk.2) (.int .i64 t126)) (fun _ hk => hk.2) (.int .i64 t127)) (fun _ hk => hk.2) (.bool t128)) (fun _ hk => hk.2) (.slice Ao28 t129.length co28)) (fun _ h_ => h_.1)))); (case side2 => exact (Kd.R_reads' HO118.out).2.1); (case side3 => refine (Kd.R_reads' (e := 5) (base := w.heap.size) (ok := fun k_ => ((True ∧ some k_ ≠ (.slice Ao19 y105.length co19 : Value).ownBlock) ∧ some k_ ≠ (.slice Ao23 t116.length co23 : Value).ownBlock)) (n := t129.length) (c := co28) ?_).2.2; exact (by (with_reducible repeat (first | apply Kd.R_alloc | apply Kd.R_drewN | apply Kd.R_drew)); exact (Kd.R_mono (Kd.R_far (p := ⟨gb133, 8, none⟩) (Kd.R_far (p := ⟨gb133, 7, none⟩) (Kd.R_far (p := ⟨gb133, 6, none⟩) (Kd.R_far (p := ⟨gb133, 5, none⟩) (Kd.R_far (p := ⟨gb133, 4, none⟩) (Kd.R_far (p := ⟨gb133, 3, none⟩) (Kd.R_far (p := ⟨gb133, 2, none⟩) (Kd.R_far (p := ⟨gb133, 1, none⟩) (Kd.R_far (p := ⟨gb133, 0, none⟩) (Kd.R_types HO131.out BK133.out (by decide)) (fun _ hk => hk.2) (.int .i64 t121)) (fun _ hk => hk.2) (.int .i64 t122)) (fun _ hk => hk.2) (.bool t123)) (fun _ hk => hk.2) (.int .i64 t124)) (fun _ hk => hk.2) (.int .i64 t125)) (fun _ hk => hk.2) (.int .i64 t126)) (fun _ hk => hk.2) (.int .i64 t127)) (fun _ hk => hk.2) (.bool t128)) (fun _ hk => hk.2) (.slice Ao28 t129.length co28)) (fun _ h_ => h_.1)))); (case side4 => exact (Kd.R_reads' HO131.out).2.1); rintro e w30 ⟨rfl, hb⟩; have n0_ := Aside0.mk (Kd.R_below (by (with_reducible repeat (first | apply Kd.R_alloc | apply Kd.R_drewN | apply Kd.R_drew)); exact (Kd.R_mono (Kd.R_far (p := ⟨gb133, 8, none⟩) (Kd.R_far (p := ⟨gb133, 7, none⟩) (Kd.R_far (p := ⟨gb133, 6, none⟩) (Kd.R_far (p := ⟨gb133, 5, none⟩) (Kd.R_far (p := ⟨gb133, 4, none⟩) (Kd.R_far (p := ⟨gb133, 3, none⟩) (Kd.R_far (p := ⟨gb133, 2, none⟩) (Kd.R_far (p := ⟨gb133, 1, none⟩) (Kd.R_far (p := ⟨gb133, 0, none⟩) (Kd.R_types HO107.out BK133.out (by decide)) (fun _ hk => hk.2) (.int .i64 t121)) (fun _ hk => hk.2) (.int .i64 t122)) (fun _ hk => hk.2) (.bool t123)) (fun _ hk => hk.2) (.int .i64 t124)) (fun _ hk => hk.2) (.int .i64 t125)) (fun _ hk => hk.2) (.int .i64 t126)) (fun _ hk => hk.2) (.int .i64 t127)) (fun _ hk => hk.2) (.bool t128)) (fun _ hk => hk.2) (.slice Ao28 t129.length co28)) (fun _ h_ => h_.1))) hb); have n1_ := Aside0.mk (Kd.R_below (by (with_reducible repeat (first | apply Kd.R_alloc | apply Kd.R_drewN | apply Kd.R_drew)); exact (Kd.R_mono (Kd.R_far (p := ⟨gb133, 8, none⟩) (Kd.R_far (p := ⟨gb133, 7, none⟩) (Kd.R_far (p := ⟨gb133, 6, none⟩) (Kd.R_far (p := ⟨gb133, 5, none⟩) (Kd.R_far (p := ⟨gb133, 4, none⟩) (Kd.R_far (p := ⟨gb133, 3, none⟩) (Kd.R_far (p := ⟨gb133, 2, none⟩) (Kd.R_far (p := ⟨gb133, 1, none⟩) (Kd.R_far (p := ⟨gb133, 0, none⟩) (Kd.R_types HO118.out BK133.out (by decide)) (fun _ hk => hk.2) (.int .i64 t121)) (fun _ hk => hk.2) (.int .i64 t122)) (fun _ hk => hk.2) (.bool t123)) (fun _ hk => hk.2) (.int .i64 t124)) (fun _ hk => hk.2) (.int .i64 t125)) (fun _ hk => hk.2) (.int .i64 t126)) (fun _ hk => hk.2) (.int .i64 t127)) (fun _ hk => hk.2) (.bool t128)) (fun _ hk => hk.2) (.slice Ao28 t129.length co28)) (fun _ h_ => h_.1))) hb); have n2_ := Aside0.mk (Kd.R_below (by (with_reducible repeat (first | apply Kd.R_alloc | apply Kd.R_drewN | apply Kd.R_drew)); exact (Kd.R_mono (Kd.R_far (p := ⟨gb133, 8, none⟩) (Kd.R_far (p := ⟨gb133, 7, none⟩) (Kd.R_far (p := ⟨gb133, 6, none⟩) (Kd.R_far (p := ⟨gb133, 5, none⟩) (Kd.R_far (p := ⟨gb133, 4, none⟩) (Kd.R_far (p := ⟨gb133, 3, none⟩) (Kd.R_far (p := ⟨gb133, 2, none⟩) (Kd.R_far (p := ⟨gb133, 1, none⟩) (Kd.R_far (p := ⟨gb133, 0, none⟩) (Kd.R_types HO131.out BK133.out (by decide)) (fun _ hk => hk.2) (.int .i64 t121)) (fun _ hk => hk.2) (.int .i64 t122)) (fun _ hk => hk.2) (.bool t123)) (fun _ hk => hk.2) (.int .i64 t124)) (fun _ hk => hk.2) (.int .i64 t125)) (fun _ hk => hk.2) (.int .i64 t126)) (fun _ hk => hk.2) (.int .i64 t127)) (fun _ hk => hk.2) (.bool t128)) (fun _ hk => hk.2) (.slice Ao28 t129.length co28)) (fun _ h_ => h_.1))) hb); have n3_ := Aside0.mk (blk_below (g := gb120) (o := .cells #[.int .i64 t108, .int .i64 t109, .bool t110, .int .i64 t111, .int .i64 t112, .int .i64 t113, .int .i64 t114, .bool t115, .slice Ao23 t116.length co23] 25 (0, 0)) (by (with_reducible repeat (first | refine blk_drewN ?_ _ | refine blk_drew ?_ | refine blk_alloc ?_ _)); refine blk_far ?_ NB120_133.out _; (with_reducible repeat (first | refine blk_drewN ?_ _ | refine blk_drew ?_ | refine blk_alloc ?_ _)); refine blk_far ?_ NB120_133.out _; (with_reducible repeat (first | refine blk_drewN ?_ _ | refine blk_drew ?_ | refine blk_alloc ?_ _)); refine blk_far ?_ NB120_133.out _; (with_reducible repeat (first | refine blk_drewN ?_ _ | refine blk_drew ?_ | refine blk_alloc ?_ _)); refine blk_far ?_ NB120_133.out _; (with_reducible repeat (first | refine blk_drewN ?_ _ | refine blk_drew ?_ | refine blk_alloc ?_ _)); refine blk_far ?_ NB120_133.out _; (with_reducible repeat (first | refine blk_drewN ?_ _ | refine blk_drew ?_ | refine blk_alloc ?_ _)); refine blk_far ?_ NB120_133.out _; (with_reducible repeat (first | refine blk_drewN ?_ _ | refine blk_drew ?_ | refine blk_alloc ?_ _)); refine blk_far ?_ NB120_133.out _; (with_reducible repeat (first | refine blk_drewN ?_ _ | refine blk_drew ?_ | refine blk_alloc ?_ _)); refine blk_far ?_ NB120_133.out _; (with_reducible repeat (first | refine blk_drewN ?_ _ | refine blk_drew ?_ | refine blk_alloc ?_ _)); refine blk_far ?_ NB120_133.out _; (with_reducible repeat (first | refine blk_drewN ?_ _ | refine blk_drew ?_ | refine blk_alloc ?_ _)); exact BK120.out) hb); have n4_ := Aside0.mk (blk_below (g := gb133) (o := .cells #[.int .i64 t121, .int .i64 t122, .bool t123, .int .i64 t124, .int .i64 t125, .int .i64 t126, .int .i64 t127, .bool t128, .slice Ao28 t129.length co28] 25 (0, 0)) (by (with_reducible repeat (first | refine blk_drewN ?_ _ | refine blk_drew ?_ | refine blk_alloc ?_ _)); refine blk_put (cs := #[.int .i64 t121, .int .i64 t122, .bool t123, .int .i64 t124, .int .i64 t125, .int .i64 t126, .int .i64 t127, .bool t128, .slice none 0 0]) ?_ 8 _ rfl; (with_reducible repeat (first | refine blk_drewN ?_ _ | refine blk_drew ?_ | refine blk_alloc ?_ _)); refine blk_put (cs := #[.int .i64 t121, .int .i64 t122, .bool t123, .int .i64 t124, .int .i64 t125, .int .i64 t126, .int .i64 t127, .bool false, .slice none 0 0]) ?_ 7 _ rfl; (with_reducible repeat (first | refine blk_drewN ?_ _ | refine blk_drew ?_ | refine blk_alloc ?_ _)); refine blk_put (cs := #[.int .i64 t121, .int .i64 t122, .bool t123, .int .i64 t124, .int .i64 t125, .int .i64 t126, .int .i64 0, .bool false, .slice none 0 0]) ?_ 6 _ rfl; (with_reducible repeat (first | refine blk_drewN ?_ _ | refine blk_drew ?_ | refine blk_alloc ?_ _)); refine blk_put (cs := #[.int .i64 t121, .int .i64 t122, .bool t123, .int .i64 t124, .int .i64 t125, .int .i64 0, .int .i64 0, .bool false, .slice none 0 0]) ?_ 5 _ rfl; (with_reducible repeat (first | refine blk_drewN ?_ _ | refine blk_drew ?_ | refine blk_alloc ?_ _)); refine blk_put (cs := #[.int .i64 t121, .int .i64 t122, .bool t123, .int .i64 t124, .int .i64 0, .int .i64 0, .int .i64 0, .bool false, .slice none 0 0]) ?_ 4 _ rfl; (with_reducible repeat (first | refine blk_drewN ?_ _ | refine blk_drew ?_ | refine blk_alloc ?_ _)); refine blk_put (cs := #[.int .i64 t121, .int .i64 t122, .bool t123, .int .i64 0, .int .i64 0, .int .i64 0, .int .i64 0, .bool false, .slice none 0 0]) ?_ 3 _ rfl; (with_reducible repeat (first | refine blk_drewN ?_ _ | refine blk_drew ?_ | refine blk_alloc ?_ _)); refine blk_put (cs := #[.int .i64 t121, .int .i64 t122, .bool false, .int .i64 0, .int .i64 0, .int .i64 0, .int .i64 0, .bool false, .slice none 0 0]) ?_ 2 _ rfl; (with_reducible repeat (first | refine blk_drewN ?_ _ | refine blk_drew ?_ | refine blk_alloc ?_ _)); refine blk_put (cs := #[.int .i64 t121, .int .i64 0, .bool false, .int .i64 0, .int .i64 0, .int .i64 0, .int .i64 0, .bool false, .slice none 0 0]) ?_ 1 _ rfl; (with_reducible repeat (first | refine blk_drewN ?_ _ | refine blk_drew ?_ | refine blk_alloc ?_ _)); refine blk_put (cs := #[.int .i64 0, .int .i64 0, .bool false, .int .i64 0, .int .i64 0, .int .i64 0, .int .i64 0, .bool false, .slice none 0 0]) ?_ 0 _ rfl; (with_reducible repeat (first | refine blk_drewN ?_ _ | refine blk_drew ?_ | refine blk_alloc ?_ _)); exact BK133.out) hb); have n5_ := Aside0.mk (below_step (by repeat (first | (with_reducible first | exact HB.out | apply below_alloc | apply pw_below_drewN | apply below_drew1 | refine below_set ?_ GE120.out | refine below_set ?_ GE133.out) | exact HB.out)) hb); clear HO107; clear HO118; clear HO131; clear BK120; clear BK133; clear HB; have HO107 := n0_; have HO118 := n1_; have HO131 := n2_; have BK120 := n3_; have BK133 := n4_; have HB := n5_; clear n0_ n1_ n2_ n3_ n4_ n5_; (try clear hb); (try clear hb2); (try clear hk); (try clear hi)))
                  go_roundg k1
                  case measure => have := HK1.out; omega
                  case rel => exact ⟨(wrap64 (x7_1 + 1)), (by first | rfl | (simp; done) | (simp [*]; done)), H', ⟨by have := HK1.out; omega⟩, ⟨by repeat (first | (with_reducible first | exact HB.out | apply below_alloc | apply pw_below_drewN | apply below_drew1 | refine below_set ?_ GE120.out | refine below_set ?_ GE133.out) | exact HB.out)⟩⟩
                · replace c15 := Bool.eq_false_iff.mpr c15
                  subst c15
                  have H1 : (none) = some r := by rw [if_neg (show ¬ (false = true) by decide)] at H; exact H
                  clear H
                  have H := H1
                  clear H1
                  exact absurd H (by simp)
              · rw [if_neg c13] at H
                exact absurd H (by simp)
            · rw [if_neg c10] at H
              exact absurd H (by simp)
          · rw [if_neg c9] at H
            have c9b0 : decide (x7_1 < 256) = false := decide_eq_false c9
            clear c9
            obtain rfl := Option.some.inj H
            go_wp2
            go_ret
            exact ⟨by first | rfl | (simp [errW_none, errW_some] <;> rfl) | (simp [*, errW_none, errW_some] <;> rfl), by repeat (first | (with_reducible first | exact HB.out | apply below_alloc | apply pw_below_drewN | apply below_drew1) | exact HB.out)⟩
  · replace c5 := Bool.eq_false_iff.mpr c5
    subst c5
    have H1 : (none) = some r := by rw [if_neg (show ¬ (false = true) by decide)] at H; exact H
    clear H
    have H := H1
    clear H1
    exact absurd H (by simp)
def antiphonlaw6_PduAll.Pure : Prop := ∀ (a0 : Int) (a1 : Int) (l2 : List Int), (Lit.int .u8 a0).wf = true → (Lit.int .u8 a1).wf = true → l2.length ≤ maxLen → l2.length * 1 ≤ 140737488351232 → (∀ x ∈ l2, (Lit.int .u8 x).wf = true) → ∃ k, antiphonlaw6_PduAll.f k a0 a1 l2 = some true
theorem antiphonlaw6_PduAll.walk (P : antiphonlaw6_PduAll.Pure) (a0 : Int) (a1 : Int) (a2 : Option Addr) (len2 cap2 : Nat) (z2 : List Int) (w : World) (w0 : (Lit.int .u8 a0).wf = true) (w1 : (Lit.int .u8 a1).wf = true) (w2 : (a2 = none ∧ len2 = 0 ∧ cap2 = 0 ∧ z2 = []) ∨ ∃ x, a2 = some x ∧ len2 ≤ cap2 ∧ cap2 ≤ maxLen ∧ z2.length = cap2 ∧ (∀ i, i < z2.length → w.cell? (x.add i) = some (.int .u8 (z2.getD i 0))) ∧ ∀ n ∈ z2, (Lit.int .u8 n).wf = true) (y2 : len2 * 1 ≤ 140737488351232) :
    Calls Try.prog 5 #[.int .u8 a0, .int .u8 a1, .slice a2 len2 cap2] w fun e w' => e = .returned (.bool true) ∧ Below w.heap.size w w' := by
  obtain ⟨l2, rfl, hr2, hm2, hw2, hc2⟩ := ReadsInt.ofRowC w2
  obtain ⟨k, h⟩ := P a0 a1 l2 w0 w1 hm2 y2 hw2
  refine (antiphonlaw6_PduAll.calls k a0 a1 _ _ l2 true w (Kd.C_of_reads (d := (0 : Int)) (h1 := fun _ => rfl) hr2) hc2 h).mono ?_
  rintro e w' ⟨rfl, hd⟩
  exact ⟨rfl, hd⟩
end Go.Proofs.Ytnmcoebjkfpmjaa.P
/-! Lib -/
namespace Go.Proofs.Ytnmcoebjkfpmjaa.Lib
set_option linter.unusedSimpArgs false
set_option linter.unusedVariables false
open Go.RowKit Go.Proofs.Ytnmcoebjkfpmjaa.P Go.Proofs.YtnmcoebjkfpmjaaW.PrintWords Go.Proofs.YtnmcoebjkfpmjaaW.PrintLast
theorem and1 {x : Int} (h0 : 0 ≤ x) (h1 : x ≤ 255) : Go.bits .and .i64 x 1 = x % 2 := by
  have : ∀ j : Fin 256, Go.bits .and .i64 (j.val : Int) 1 = (j.val : Int) % 2 := by decide +kernel
  have h := this ⟨x.toNat, by omega⟩
  rwa [show ((x.toNat : Nat) : Int) = x by omega] at h
theorem tm2 {x : Int} (h0 : 0 ≤ x) : Int.tmod x 2 = x % 2 := Int.tmod_eq_emod_of_nonneg h0
def kindB (t : Int) (resp : Bool) (kind : Int) (n : Nat) : Bool :=
  if kind = 0 then !resp else if kind = 1 ∨ kind = 2 then true else if kind = 3 ∨ kind = 4 then (!resp && (t % 2 == 0) && (n == 4)) else if kind = 5 ∨ kind = 6 then (resp && (t % 2 == 0) && (n == 4))
  else if kind = 7 then (resp && (t % 2 == 0) && (n == 5)) else if kind = 8 ∨ kind = 9 then (t % 2 == 0) else false
def inB (t f ns nr : Int) (n : Nat) : Prop := 0 ≤ t ∧ t ≤ 255 ∧ 0 ≤ f ∧ f ≤ 254 ∧ f % 2 = 0 ∧ 0 ≤ ns ∧ ns ≤ 127 ∧ 0 ≤ nr ∧ nr ≤ 127 ∧ n ≤ 1040
instance (t f ns nr : Int) (n : Nat) : Decidable (inB t f ns nr n) := by unfold inB; infer_instance
def formB (t : Int) (resp : Bool) (form kind ns nr : Int) (n : Nat) : Bool :=
  if form = 0 then decide (kind = 0) && (t % 2 == 0) else if form = 1 then decide (0 ≤ kind ∧ kind ≤ 2 ∧ ns = 0 ∧ n = 0) && (t % 2 == 0) else if form = 2 then decide (ns = 0 ∧ nr = 0) && kindB t resp kind n else false
def mayB (t f : Int) (resp : Bool) (form kind ns nr : Int) (n : Nat) : Bool :=
  if inB t f ns nr n then formB t resp form kind ns nr n else false
section
variable (k : Nat) (t f : Int) (resp : Bool) (form kind ns nr : Int) (poll : Bool) (info : List Int)
theorem ten (x : Int) : x = 0 ∨ x = 1 ∨ x = 2 ∨ x = 3 ∨ x = 4 ∨ x = 5 ∨ x = 6 ∨ x = 7 ∨ x = 8 ∨ x = 9 ∨ (x ≠ 0 ∧ x ≠ 1 ∧ x ≠ 2 ∧ x ≠ 3 ∧ x ≠ 4 ∧ x ≠ 5 ∧ x ≠ 6 ∧ x ≠ 7 ∧ x ≠ 8 ∧ x ≠ 9) := by omega
theorem len_eq (n : Nat) (m : Nat) : ((n : Int) == (m : Int)) = (n == m) := by
  by_cases h : n = m
  · subst h; simp
  · rw [beq_eq_false_iff_ne.mpr h, beq_eq_false_iff_ne.mpr (by omega)]
theorem kind_pdu (h0 : 0 ≤ t) (h1 : t ≤ 255) : pdu_kind.f (k + 3) t f resp form kind ns nr poll info = some (kindB t resp kind info.length) := by
  unfold pdu_kind.f kindB
  rw [and1 h0 h1]
  have l4 := len_eq info.length 4
  have l5 := len_eq info.length 5
  have h2 : t % 2 = 0 ∨ t % 2 = 1 := by omega
  rcases ten kind with h | h | h | h | h | h | h | h | h | h | ⟨a0, a1, a2, a3, a4, a5, a6, a7, a8, a9⟩
  all_goals first | subst h | skip
  all_goals rcases h2 with h2 | h2 <;> rw [h2] <;> cases resp
  all_goals first | rfl | (simp only [pdu_kind.j0, pdu_kind.j1, pdu_kind.j2, l4, l5]; rfl) | (simp [pdu_kind.j0, pdu_kind.j1, pdu_kind.j2, *]; done) | (simp [pdu_kind.j0, pdu_kind.j1, pdu_kind.j2]; exact l4) | (simp [pdu_kind.j0, pdu_kind.j1, pdu_kind.j2]; exact l5)
theorem may_pdu_j (h0 : 0 ≤ t) (h1 : t ≤ 255) : pdu_May.j0 (k + 4) false t f resp form kind ns nr poll info = some (formB t resp form kind ns nr info.length) := by
  simp only [pdu_May.j0, formB, pdu_within.f, and1 h0 h1, kind_pdu k t f resp form kind ns nr poll info h0 h1]
  rw [if_neg (by decide)]
  by_cases f0 : form = 0
  · rw [if_pos f0, if_pos f0]; by_cases c : kind = 0 <;> simp [c]
  rw [if_neg f0, if_neg f0]
  by_cases f1 : form = 1
  · rw [if_pos f1, if_pos f1]
    by_cases c : kind ≥ 0
    · by_cases c2 : kind ≤ 2
      · by_cases c3 : ns = 0
        · by_cases c4 : info.length = 0
          · simp [c, c2, c3, c4]
          · simp [c, c2, c3]
            split <;> simp [*]
        · simp [c, c2, c3]
      · simp [c, c2]
    · simp [c]
  rw [if_neg f1, if_neg f1]
  by_cases f2 : form = 2
  · rw [if_pos f2, if_pos f2]
    by_cases c3 : ns = 0 <;> by_cases c4 : nr = 0 <;> simp [c3, c4]
  · rw [if_neg f2, if_neg f2]
theorem may_pdu : pdu_May.f (k + 4) t f resp form kind ns nr poll info = some (mayB t f resp form kind ns nr info.length) := by
  have hj : pdu_May.j0 (k + 4) true t f resp form kind ns nr poll info = some false := rfl
  unfold pdu_May.f mayB
  by_cases h : inB t f ns nr info.length
  · rw [if_pos h]
    obtain ⟨a, b, c, d, e, g, i, j, l, m⟩ := h
    have e1 : pdu_within.f t 255 = some true := by unfold pdu_within.f; rw [if_pos a, decide_eq_true b]
    have e2 : pdu_within.f f 254 = some true := by unfold pdu_within.f; rw [if_pos c, decide_eq_true d]
    have e3 : pdu_within.f ns 127 = some true := by unfold pdu_within.f; rw [if_pos g, decide_eq_true i]
    have e4 : pdu_within.f nr 127 = some true := by unfold pdu_within.f; rw [if_pos j, decide_eq_true l]
    have e5 : decide ((info.length : Int) > 1040) = false := decide_eq_false (by omega)
    rw [e1, e2, e3, e4, e5, and1 c (by omega)]
    simp only [Option.bind_some, if_true, may_pdu_j k t f resp form kind ns nr poll info a b]
    rw [if_neg (by omega)]
  · rw [if_neg h, hj]
    unfold pdu_within.f
    unfold inB at h
    by_cases c1 : t ≥ 0 ∧ t ≤ 255
    · by_cases c2 : f ≥ 0 ∧ f ≤ 254
      · rw [and1 c2.1 (by omega)]
        by_cases c3 : f % 2 = 1
        · simp [c1, c2, c3]
        · by_cases c4 : ns ≥ 0 ∧ ns ≤ 127
          · by_cases c5 : nr ≥ 0 ∧ nr ≤ 127
            · have e5 : decide ((info.length : Int) > 1040) = true := decide_eq_true (by omega)
              simp [c1, c2, c3, c4, c5]
              rw [decide_eq_true (by omega)]; exact hj
            · by_cases c6 : nr ≥ 0
              · simp [c1, c2, c3, c4, c6]; intro; omega
              · simp [c1, c2, c3, c4, c6]
          · by_cases c6 : ns ≥ 0
            · simp [c1, c2, c3, c6]; intro; omega
            · simp [c1, c2, c3, c6]
      · by_cases c6 : f ≥ 0
        · simp [c1, c6]; intro; omega
        · simp [c1, c6]
    · by_cases c6 : t ≥ 0
      · simp [c6]; intro; omega
      · simp [c6]
theorem mayU_ref (h0 : 0 ≤ t) : antiphonref6_mayU.f (k + 4) t f resp form kind ns nr poll info = some (decide (ns = 0 ∧ nr = 0) && kindB t resp kind info.length) := by
  unfold antiphonref6_mayU.f
  have hj : antiphonref6_mayU.j0 (k + 4) true t f resp form kind ns nr poll info = some false := rfl
  have hf : antiphonref6_mayU.j0 (k + 4) false t f resp form kind ns nr poll info = some (kindB t resp kind info.length) := by
    unfold kindB
    have l4 := len_eq info.length 4
    have l5 := len_eq info.length 5
    have h2 : t % 2 = 0 ∨ t % 2 = 1 := by omega
    have l4' : ((info.length : Int) = 4) = (info.length = 4) := by apply propext; omega
    have l5' : ((info.length : Int) = 5) = (info.length = 5) := by apply propext; omega
    rcases ten kind with h | h | h | h | h | h | h | h | h | h | ⟨a0, a1, a2, a3, a4, a5, a6, a7, a8, a9⟩
    all_goals first | subst h | skip
    all_goals rcases h2 with h2 | h2 <;> cases resp
    all_goals first | rfl | (simp [antiphonref6_mayU.j0, antiphonref6_mayU.j1, antiphonref6_mayU.j2, antiphonref6_mayU.j3, tm2 h0, l4', l5', h2, *]; done) | (simp [antiphonref6_mayU.j0, antiphonref6_mayU.j1, antiphonref6_mayU.j2, antiphonref6_mayU.j3, tm2 h0, l4', l5', h2]; split <;> simp [*])
  by_cases c3 : ns = 0
  · by_cases c4 : nr = 0
    · subst c3; subst c4
      rw [if_pos rfl]
      exact hf
    · rw [if_pos c3, bne_iff_ne.mpr c4, hj]; simp [c4]
  · rw [if_neg c3, hj]; simp [c3]
theorem may_ref : antiphonref6_May.f (k + 5) t f resp form kind ns nr poll info = some (mayB t f resp form kind ns nr info.length) := by
  have hj : antiphonref6_May.j0 (k + 5) true t f resp form kind ns nr poll info = some false := rfl
  have hf : 0 ≤ t → antiphonref6_May.j0 (k + 5) false t f resp form kind ns nr poll info = some (formB t resp form kind ns nr info.length) := by
    intro h0
    simp only [antiphonref6_May.j0, formB, tm2 h0, mayU_ref k t f resp form kind ns nr poll info h0]
    rw [if_neg (by decide)]
    by_cases f0 : form = 0
    · rw [if_pos f0, if_pos f0]; by_cases c : kind = 0 <;> simp [c]
    rw [if_neg f0, if_neg f0]
    by_cases f1 : form = 1
    · rw [if_pos f1, if_pos f1]
      by_cases c : kind ≥ 0
      · by_cases c2 : kind ≤ 2
        · by_cases c3 : ns = 0
          · by_cases c4 : info.length = 0
            · simp [c, c2, c3, c4]
            · simp [c, c2, c3]
              split <;> simp [*]
          · simp [c, c2, c3]
        · simp [c, c2]
      · simp [c]
    rw [if_neg f1, if_neg f1]
    by_cases f2 : form = 2
    · rw [if_pos f2, if_pos f2]; rfl
    · rw [if_neg f2, if_neg f2]
  unfold antiphonref6_May.f mayB
  by_cases h : inB t f ns nr info.length
  · rw [if_pos h]
    obtain ⟨a, b, c, d, e, g, i, j, l, m⟩ := h
    rw [if_neg (by omega), if_neg (by omega), if_neg (by omega), if_neg (by omega), tm2 c, if_neg (by omega), if_neg (by omega), if_neg (by omega), if_neg (by omega), if_neg (by omega), decide_eq_false (by omega)]
    exact hf a
  · rw [if_neg h, hj]
    unfold inB at h
    repeat' split
    all_goals first | rfl | skip
    rename_i h1 h2 h3 h4 h5 h6 h7 h8 h9
    rw [tm2 (by omega)] at h5
    rw [decide_eq_true (by omega)]
    exact hj
end
end Go.Proofs.Ytnmcoebjkfpmjaa.Lib
/-! Px103 -/
namespace Go.Proofs.Ytnmcoebjkfpmjaa.P
open Go.RowKit Go.Proofs.YtnmcoebjkfpmjaaW.PrintWords Go.Proofs.YtnmcoebjkfpmjaaW.PrintLast Go.Proofs.YtnmcoebjkfpmjaaW.PrintMore
attribute [local go_sem] max2_int min2_int max_two min_two max_three min_three max_four min_four   -- for this text's walks alone
set_option linter.unusedVariables false
set_option linter.unusedSimpArgs false
end Go.Proofs.Ytnmcoebjkfpmjaa.P
/-! Px104 -/
namespace Go.Proofs.Ytnmcoebjkfpmjaa.P
open Go.RowKit Go.Proofs.YtnmcoebjkfpmjaaW.PrintWords Go.Proofs.YtnmcoebjkfpmjaaW.PrintLast Go.Proofs.YtnmcoebjkfpmjaaW.PrintMore
attribute [local go_sem] max2_int min2_int max_two min_two max_three min_three max_four min_four   -- for this text's walks alone
set_option linter.unusedVariables false
set_option linter.unusedSimpArgs false
end Go.Proofs.Ytnmcoebjkfpmjaa.P
/-! Px105 -/
namespace Go.Proofs.Ytnmcoebjkfpmjaa.P
open Go.RowKit Go.Proofs.YtnmcoebjkfpmjaaW.PrintWords Go.Proofs.YtnmcoebjkfpmjaaW.PrintLast Go.Proofs.YtnmcoebjkfpmjaaW.PrintMore
attribute [local go_sem] max2_int min2_int max_two min_two max_three min_three max_four min_four   -- for this text's walks alone
set_option linter.unusedVariables false
set_option linter.unusedSimpArgs false
end Go.Proofs.Ytnmcoebjkfpmjaa.P
/-! OLib -/
namespace Go.Proofs.Ytnmcoebjkfpmjaa.Lib
set_option linter.unusedSimpArgs false
set_option linter.unusedVariables false
open Go.RowKit Go.Proofs.Ytnmcoebjkfpmjaa.P Go.Proofs.YtnmcoebjkfpmjaaW.PrintWords Go.Proofs.YtnmcoebjkfpmjaaW.PrintLast Go.Proofs.YtnmcoebjkfpmjaaW.PrintMore
theorem w64 (a : Int) (h : -9223372036854775808 ≤ a) (h' : a ≤ 9223372036854775807) : wrap64 a = a := by unfold wrap64; omega
theorem wraps_i64 (n : Int) (h₀ : 0 ≤ n) (h₁ : n < 2 ^ 62) : IntKind.i64.wrap n = n := by rw [i64_w]; exact w64 n (by omega) (by omega)
theorem or_join (i : Nat) (x y : Int) (hx₀ : 0 ≤ x) (hx : x % 2 ^ i = 0) (hx₁ : x < 2 ^ 62) (hy₀ : 0 ≤ y) (hy : y < 2 ^ i) (hy₁ : y < 2 ^ 62) : Go.bits .or .i64 x y = x + y :=
  bits_join .i64 62 (by decide) wraps_i64 i x y hx₀ hx hx₁ hy₀ hy hy₁
theorem or256 (a x : Int) (ha : 0 ≤ a) (ha' : a * 256 < 2 ^ 62) (hx : 0 ≤ x) (hx' : x < 256) : Go.bits .or .i64 (a * 256) x = a * 256 + x :=
  or_join 8 (a * 256) x (by omega) (by omega) ha' hx hx' (by omega)
theorem rd_at {l : List Int} {i : Nat} (h : i < l.length) : rd l (i : Int) = l[i] := by
  unfold rd; rw [Int.toNat_natCast, List.getD_eq_getElem?_getD, List.getElem?_eq_getElem h]; rfl
theorem drop_at {l : List Int} {i : Nat} (h : i < l.length) : l.drop i = rd l (i : Int) :: l.drop (i + 1) := by
  rw [rd_at h]; exact List.drop_eq_getElem_cons h
theorem same_l0 (a b : List Int) (h : a.length = b.length) (hl : a.length < 9223372036854775807) (k : Nat) : ∀ (m i : Nat), i + m = a.length → antiphonref1_Same.l0 (m + 1 + k) a b (i : Int) = some (decide (a.drop i = b.drop i))
  | 0, i, hi => by
    rw [show 0 + 1 + k = k + 1 by omega, antiphonref1_Same.l0, if_neg (by omega), List.drop_eq_nil_of_le (by omega), List.drop_eq_nil_of_le (by omega)]
    rfl
  | m + 1, i, hi => by
    rw [show m + 1 + 1 + k = (m + 1 + k) + 1 by omega, antiphonref1_Same.l0, if_pos (by omega), if_pos (by omega), if_pos (by omega), w64 _ (by omega) (by omega)]
    rw [drop_at (show i < a.length by omega), drop_at (show i < b.length by omega)]
    by_cases hc : rd a i = rd b i
    · rw [if_pos hc, show ((i : Int) + 1) = ((i + 1 : Nat) : Int) by omega, same_l0 a b h hl k m (i + 1) (by omega)]
      simp [hc]
    · rw [if_neg hc]
      simp [hc]
theorem same_ref (a b : List Int) (hl : a.length < 9223372036854775807) (k : Nat) : antiphonref1_Same.f (a.length + 1 + k) a b = some (decide (a = b)) := by
  unfold antiphonref1_Same.f
  by_cases h : a.length = b.length
  · rw [if_pos (by omega)]
    have := same_l0 a b h hl k a.length 0 (by omega)
    simpa using this
  · rw [if_neg (by omega), decide_eq_false (fun e => h (by rw [e]))]
theorem copy_l0 (a : List Int) (hl : a.length ≤ 140737488355328) (k : Nat) : ∀ (m i : Nat) (acc : List Int), i + m = a.length → acc.length = i → antiphonref1_Copy.l0 (m + 1 + k) a acc (i : Int) = some (acc ++ a.drop i)
  | 0, i, acc, hi, ha => by
    rw [show 0 + 1 + k = k + 1 by omega, antiphonref1_Copy.l0, if_neg (by omega), List.drop_eq_nil_of_le (by omega), List.append_nil]
  | m + 1, i, acc, hi, ha => by
    rw [show m + 1 + 1 + k = (m + 1 + k) + 1 by omega, antiphonref1_Copy.l0, if_pos (by omega), if_pos (by omega), if_pos (by omega), w64 _ (by omega) (by omega)]
    rw [drop_at (show i < a.length by omega), show ((i : Int) + 1) = ((i + 1 : Nat) : Int) by omega, copy_l0 a hl k m (i + 1) _ (by omega) (by simp [ha])]
    simp
theorem copy_ref (a : List Int) (hl : a.length ≤ 140737488355328) (k : Nat) : antiphonref1_Copy.f (a.length + 1 + k) a = some a := by
  have := copy_l0 a hl k a.length 0 [] (by omega) rfl
  simpa [antiphonref1_Copy.f] using this
def numL (l : List Int) : Int := l.foldl (fun a x => a * 256 + x) 0
def getL (l : List Int) : Int := if 1 ≤ l.length ∧ l.length ≤ 7 then numL l else 0
def Bytes (l : List Int) : Prop := ∀ x ∈ l, 0 ≤ x ∧ x < 256
theorem bytes_rd {l : List Int} (h : Bytes l) {i : Nat} (hi : i < l.length) : 0 ≤ rd l (i : Int) ∧ rd l (i : Int) < 256 := by
  rw [rd_at hi]; exact h _ (List.getElem_mem hi)
theorem get_step (acc x : Int) (i : Nat) (hi : i ≤ 6) (h0 : 0 ≤ acc) (h1 : acc < 256 ^ i) (hx : 0 ≤ x ∧ x < 256) :
    Go.bits .or .i64 (wrap64 (acc * 256)) (wrap64 x) = acc * 256 + x ∧ 0 ≤ acc * 256 + x ∧ acc * 256 + x < 256 ^ (i + 1) := by
  have hp : (256 : Int) ^ i ≤ 256 ^ 6 := by
    have : i = 0 ∨ i = 1 ∨ i = 2 ∨ i = 3 ∨ i = 4 ∨ i = 5 ∨ i = 6 := by omega
    rcases this with h | h | h | h | h | h | h <;> subst h <;> decide
  have hq : acc < 281474976710656 := by omega
  rw [w64 _ (by omega) (by omega), w64 _ (by omega) (by omega)]
  refine ⟨or256 acc x h0 (by omega) hx.1 hx.2, by omega, ?_⟩
  rw [Int.pow_succ]; omega
theorem get_l0 (l : List Int) (hb : Bytes l) (hl : l.length ≤ 7) (k : Nat) : ∀ (m i : Nat) (acc : Int), i + m = l.length → 0 ≤ acc → acc < 256 ^ i →
    octet_Get.l0 (m + 1 + k) acc l (l.length : Int) (i : Int) = some ((l.drop i).foldl (fun a x => a * 256 + x) acc)
  | 0, i, acc, hi, _, _ => by rw [show 0 + 1 + k = k + 1 by omega, octet_Get.l0, if_neg (by omega), List.drop_eq_nil_of_le (by omega)]; rfl
  | m + 1, i, acc, hi, h0, h1 => by
    obtain ⟨e, s0, s1⟩ := get_step acc (rd l (i : Int)) i (by omega) h0 h1 (bytes_rd hb (by omega))
    rw [show m + 1 + 1 + k = (m + 1 + k) + 1 by omega, octet_Get.l0, if_pos (by omega), if_pos (by omega), if_pos (by omega), e, w64 _ (by omega) (by omega), show ((i : Int) + 1) = ((i + 1 : Nat) : Int) by omega,
      get_l0 l hb hl k m (i + 1) _ (by omega) s0 s1, drop_at (show i < l.length by omega)]
    rfl
theorem get_seat (l : List Int) (hb : Bytes l) (k : Nat) : octet_Get.f (k + 10) l = some (getL l) := by
  unfold octet_Get.f octet_may.f getL
  by_cases h1 : 1 ≤ l.length
  · rw [if_pos (by omega)]
    by_cases h7 : l.length ≤ 7
    · rw [decide_eq_true (by omega), Option.bind_some, if_pos rfl, if_pos ⟨h1, h7⟩]
      have := get_l0 l hb h7 (k + 10 - (l.length + 1)) l.length 0 0 (by omega) (by omega) (by decide)
      rw [show l.length + 1 + (k + 10 - (l.length + 1)) = k + 10 by omega] at this
      simpa [numL] using this
    · rw [decide_eq_false (by omega), Option.bind_some, if_neg (by decide), if_neg (fun h => h7 h.2)]
  · rw [if_neg (by omega), Option.bind_some, if_neg (by decide), if_neg (fun h => h1 h.1)]
theorem same_le (a b : List Int) (n k : Nat) (hk : n + 1 ≤ k) (ha : a.length ≤ n) (hn : n < 9223372036854775807) : antiphonref1_Same.f k a b = some (decide (a = b)) := by
  have := same_ref a b (by omega) (k - (a.length + 1))
  rwa [show a.length + 1 + (k - (a.length + 1)) = k by omega] at this
theorem copy_le (a : List Int) (n k : Nat) (hk : n + 1 ≤ k) (ha : a.length ≤ n) (hn : n ≤ 140737488355328) : antiphonref1_Copy.f k a = some a := by
  have := copy_ref a (by omega) (k - (a.length + 1))
  rwa [show a.length + 1 + (k - (a.length + 1)) = k by omega] at this
theorem u8_wf {x : Int} (h : (Lit.int .u8 x).wf = true) : 0 ≤ x ∧ x < 256 := by
  simp [Lit.wf, IntKind.min, IntKind.max, IntKind.signed, IntKind.bits] at h; omega
theorem wf_bytes {l : List Int} (h : ∀ x ∈ l, (Lit.int .u8 x).wf = true) : Bytes l := fun x hx => u8_wf (h x hx)
end Go.Proofs.Ytnmcoebjkfpmjaa.Lib
/-! LibD -/
namespace Go.Proofs.Ytnmcoebjkfpmjaa.Lib
set_option linter.unusedSimpArgs false
set_option linter.unusedVariables false
open Go.RowKit Go.Proofs.Ytnmcoebjkfpmjaa.P Go.Proofs.YtnmcoebjkfpmjaaW.PrintWords Go.Proofs.YtnmcoebjkfpmjaaW.PrintLast
theorem byteAll {P : Int → Prop} (H : ∀ j : Fin 256, P (j.val : Int)) {x : Int} (h : 0 ≤ x ∧ x < 256) : P x := by
  have := H ⟨x.toNat, by omega⟩
  rwa [show ((x.toNat : Nat) : Int) = x by omega] at this
theorem b_and3 {x : Int} (h : 0 ≤ x ∧ x < 256) : Go.bits .and .i64 x 3 = x % 4 := byteAll (P := fun x => Go.bits .and .i64 x 3 = x % 4) (by decide +kernel) h
theorem b_and1 {x : Int} (h : 0 ≤ x ∧ x < 256) : Go.bits .and .i64 x 1 = x % 2 := byteAll (P := fun x => Go.bits .and .i64 x 1 = x % 2) (by decide +kernel) h
theorem b_and1u {x : Int} (h : 0 ≤ x ∧ x < 256) : Go.bits .and .u8 x 1 = x % 2 := byteAll (P := fun x => Go.bits .and .u8 x 1 = x % 2) (by decide +kernel) h
theorem b_not1 {x : Int} (h : 0 ≤ x ∧ x < 256) : Go.bits .andNot .i64 x 1 = x / 2 * 2 := byteAll (P := fun x => Go.bits .andNot .i64 x 1 = x / 2 * 2) (by decide +kernel) h
theorem b_and16 {x : Int} (h : 0 ≤ x ∧ x < 256) : (Go.bits .and .i64 x 16 != 0) = (x / 16 % 2 == 1) := byteAll (P := fun x => (Go.bits .and .i64 x 16 != 0) = (x / 16 % 2 == 1)) (by decide +kernel) h
theorem b_not16 {x : Int} (h : 0 ≤ x ∧ x < 256) : Go.bits .andNot .i64 x 16 = x - x / 16 % 2 * 16 := byteAll (P := fun x => Go.bits .andNot .i64 x 16 = x - x / 16 % 2 * 16) (by decide +kernel) h
def finR (t f : Int) (resp : Bool) (form kind ns nr : Int) (poll : Bool) (info : List Int) : PduR :=
  if mayB t f resp form kind ns nr info.length = true then (t, f, resp, form, kind, ns, nr, poll, info, 0) else pduBad 4
def kindOf (c : Int) : Int := kindTo ref6Codes (c - c / 16 % 2 * 16) 10
def decR (l : List Int) : PduR :=
  if l.length < 3 then pduBad 2 else
  if rd l 2 % 4 = 3 then finR (rd l 0) (rd l 1 / 2 * 2) (rd l 1 % 2 == 1) 2 (kindOf (rd l 2)) 0 0 (rd l 2 / 16 % 2 == 1) (l.drop 3)
  else if l.length < 4 then pduBad 2 else
  if rd l 2 % 2 = 0 then finR (rd l 0) (rd l 1 / 2 * 2) (rd l 1 % 2 == 1) 0 0 (rd l 2 / 2) (rd l 3 / 2) (rd l 3 % 2 == 1) (l.drop 4)
  else finR (rd l 0) (rd l 1 / 2 * 2) (rd l 1 % 2 == 1) 1 (rd l 2 / 4) 0 (rd l 3 / 2) (rd l 3 % 2 == 1) (l.drop 4)
theorem get_byte (l : List Int) (hb : Bytes l) (i : Nat) (hi : i < l.length) (k : Nat) : octet_Get.f (k + 10) ((l.drop i).take 1) = some (rd l (i : Int)) := by
  have h := bytes_rd hb hi
  rw [drop_at hi, List.take_succ_cons, List.take_zero, get_seat _ (by intro x hx; simp at hx; rw [hx]; exact h)]
  simp [getL, numL]
theorem fin_pdu (k : Nat) (t f : Int) (resp : Bool) (form kind ns nr : Int) (poll : Bool) (info : List Int) : pdu_Decode.fin (k + 4) t f resp form kind ns nr poll info = some (finR t f resp form kind ns nr poll info) := by
  unfold pdu_Decode.fin finR
  rw [may_pdu, Option.bind_some]
  split <;> rfl
theorem fin_ref (k : Nat) (t f : Int) (resp : Bool) (form kind ns nr : Int) (poll : Bool) (info : List Int) : antiphonref6_Decode.fin (k + 5) t f resp form kind ns nr poll info = some (finR t f resp form kind ns nr poll info) := by
  unfold antiphonref6_Decode.fin finR
  rw [may_ref, Option.bind_some]
  split <;> rfl
theorem dec_pdu (l : List Int) (hb : Bytes l) (hl : l.length < 140737488355328) (k : Nat) : pdu_Decode.f (k + 20) l = some (decR l) := by
  unfold pdu_Decode.f decR
  by_cases h3 : l.length < 3
  · rw [if_pos h3, if_pos h3]
  have r0 := bytes_rd hb (i := 0) (by omega)
  have r1 := bytes_rd hb (i := 1) (by omega)
  have r2 := bytes_rd hb (i := 2) (by omega)
  have g0 : octet_Get.f (k + 20) (l.take 1) = some (rd l 0) := get_byte l hb 0 (by omega) (k + 10)
  have g1 : octet_Get.f (k + 20) ((l.drop 1).take 1) = some (rd l 1) := get_byte l hb 1 (by omega) (k + 10)
  have g2 : octet_Get.f (k + 20) ((l.drop 2).take 1) = some (rd l 2) := get_byte l hb 2 (by omega) (k + 10)
  have r1' : 0 ≤ rd l 1 ∧ rd l 1 < 256 := r1
  have r2' : 0 ≤ rd l 2 ∧ rd l 2 < 256 := r2
  have hcs : pdu_codes.f = some ref6Codes := by decide +kernel
  rw [if_neg h3, if_neg h3, if_pos hl, g0, Option.bind_some, g1, Option.bind_some, g2, Option.bind_some, b_and3 r2', b_and1 r1', b_not1 r1', b_and1 r2', b_and16 r2', b_not16 r2', hcs, Option.bind_some]
  by_cases hc : rd l 2 % 4 = 3
  · rw [if_pos hc, if_pos hc]
    exact fin_pdu (k + 16) _ _ _ _ _ _ _ _ _
  · rw [if_neg hc, if_neg hc]
    by_cases h4 : l.length < 4
    · rw [if_pos h4, if_pos h4]
    have g3 : octet_Get.f (k + 20) ((l.drop 3).take 1) = some (rd l 3) := get_byte l hb 3 (by omega) (k + 10)
    have r3' : 0 ≤ rd l 3 ∧ rd l 3 < 256 := bytes_rd hb (i := 3) (by omega)
    rw [if_neg h4, if_neg h4, g3, Option.bind_some, b_and1 r3']
    by_cases h2 : rd l 2 % 2 = 0
    · rw [if_pos h2, if_pos h2]; exact fin_pdu (k + 16) _ _ _ _ _ _ _ _ _
    · rw [if_neg h2, if_neg h2]; exact fin_pdu (k + 16) _ _ _ _ _ _ _ _ _
theorem bytes_all {l : List Int} (hb : Bytes l) : allBytes l = true := by
  unfold allBytes
  rw [List.all_eq_true]
  intro x hx
  have := hb x hx
  simp; omega
theorem dec_ref (l : List Int) (hb : Bytes l) (n k : Nat) (hn : l.length ≤ n) (hn' : n ≤ 140737488355328) (hk : n + 10 ≤ k) : antiphonref6_Decode.f k l = some (decR l) := by
  unfold antiphonref6_Decode.f decR
  by_cases h3 : l.length < 3
  · rw [if_pos h3, if_pos h3]
  have r1' : 0 ≤ rd l 1 ∧ rd l 1 < 256 := bytes_rd hb (i := 1) (by omega)
  have r2' : 0 ≤ rd l 2 ∧ rd l 2 < 256 := bytes_rd hb (i := 2) (by omega)
  have hf : ∀ (t f : Int) (resp : Bool) (form kind ns nr : Int) (poll : Bool) (info : List Int), antiphonref6_Decode.fin k t f resp form kind ns nr poll info = some (finR t f resp form kind ns nr poll info) := by
    intro t f resp form kind ns nr poll info
    have := fin_ref (k - 5) t f resp form kind ns nr poll info
    rwa [show k - 5 + 5 = k by omega] at this
  rw [if_neg h3, if_neg h3, if_pos (bytes_all hb), b_and3 r2', b_and1u r1', b_not1 r1', b_and1 r2', b_and16 r2', b_not16 r2',
    copy_le (l.drop 3) n k (by omega) (by rw [List.length_drop]; omega) hn', copy_le (l.drop 4) n k (by omega) (by rw [List.length_drop]; omega) hn', Option.bind_some, Option.bind_some]
  by_cases hc : rd l 2 % 4 = 3
  · rw [if_pos hc, if_pos hc, hf]; rfl
  · rw [if_neg hc, if_neg hc]
    by_cases h4 : l.length < 4
    · rw [if_pos h4, if_pos h4]
    have r3' : 0 ≤ rd l 3 ∧ rd l 3 < 256 := bytes_rd hb (i := 3) (by omega)
    rw [if_neg h4, if_neg h4, b_and1u r3']
    by_cases h2 : rd l 2 % 2 = 0
    · rw [if_pos h2, if_pos h2, hf]
    · rw [if_neg h2, if_neg h2]
      by_cases h9 : rd l 2 > 9
      · rw [if_pos h9]
        unfold finR
        rw [if_neg]
        unfold mayB
        split
        · unfold formB
          rw [if_neg (by decide), if_pos rfl, decide_eq_false (by omega)]; simp
        · decide
      · rw [if_neg h9, hf]
theorem fin_len (t f : Int) (resp : Bool) (form kind ns nr : Int) (poll : Bool) (info : List Int) (n : Nat) (h : info.length ≤ n) : (finR t f resp form kind ns nr poll info).2.2.2.2.2.2.2.2.1.length ≤ n := by
  unfold finR
  split
  · exact h
  · exact Nat.zero_le _
theorem dec_len (l : List Int) (n : Nat) (h : l.length ≤ n) : (decR l).2.2.2.2.2.2.2.2.1.length ≤ n := by
  unfold decR
  have h3 : (l.drop 3).length ≤ n := by rw [List.length_drop]; omega
  have h4 : (l.drop 4).length ≤ n := by rw [List.length_drop]; omega
  repeat' split
  all_goals first | exact Nat.zero_le _ | exact fin_len _ _ _ _ _ _ _ _ _ _ h3 | exact fin_len _ _ _ _ _ _ _ _ _ _ h4
end Go.Proofs.Ytnmcoebjkfpmjaa.Lib
/-! Px93 -/
namespace Go.Proofs.Ytnmcoebjkfpmjaa.P
open Go.RowKit Go.Proofs.YtnmcoebjkfpmjaaW.PrintWords Go.Proofs.YtnmcoebjkfpmjaaW.PrintLast Go.Proofs.YtnmcoebjkfpmjaaW.PrintMore
attribute [local go_sem] max2_int min2_int max_two min_two max_three min_three max_four min_four   -- for this text's walks alone
set_option linter.unusedVariables false
set_option linter.unusedSimpArgs false
end Go.Proofs.Ytnmcoebjkfpmjaa.P
/-! Px94 -/
namespace Go.Proofs.Ytnmcoebjkfpmjaa.P
open Go.RowKit Go.Proofs.YtnmcoebjkfpmjaaW.PrintWords Go.Proofs.YtnmcoebjkfpmjaaW.PrintLast Go.Proofs.YtnmcoebjkfpmjaaW.PrintMore
attribute [local go_sem] max2_int min2_int max_two min_two max_three min_three max_four min_four   -- for this text's walks alone
set_option linter.unusedVariables false
set_option linter.unusedSimpArgs false
def antiphonref6_Control.T3 : Bool × List (List Nat × List Nat) := (true, [([], []), ([0], [0]), ([1], [1]), ([2], [2]), ([], []), ([4], [4]), ([5], [5]), ([], []), ([7], [7]), ([8], [8]), ([6, 9], [6, 9]), ([10], [10]), ([3, 11], [3, 11]), ([12, 9, 0, 1, 2, 3, 4, 5, 6, 7, 8, 9, 10, 11, 12], [12])])
def antiphonref6_Control.B3 : List Nat := [0, 1, 3, 7, 0, 16, 48, 0, 128, 384, 1008, 2032, 4095, 8191]
theorem antiphonref6_Control.tab3 : rtab .any (opsOf Try.f93 3) = antiphonref6_Control.T3 := by kernel_rfl
theorem antiphonref6_Control.bits3 : waitsOk antiphonref6_Control.T3.2 antiphonref6_Control.B3 = true := by kernel_rfl
def antiphonref6_Control.T5 : Bool × List (List Nat × List Nat) := (true, [([], []), ([0], [0]), ([1], [1]), ([2], [2]), ([3], [3]), ([], []), ([5], [5]), ([6], [6]), ([], []), ([8], [8]), ([9], [9]), ([7, 10], [7, 10]), ([11], [11]), ([4, 12], [4, 12]), ([13, 10, 0, 1, 2, 3, 4, 5, 6, 7, 8, 9, 10, 11, 12, 13], [13])])
def antiphonref6_Control.B5 : List Nat := [0, 1, 3, 7, 15, 0, 32, 96, 0, 256, 768, 2016, 4064, 8191, 16383]
theorem antiphonref6_Control.tab5 : rtab .any (opsOf Try.f93 5) = antiphonref6_Control.T5 := by kernel_rfl
theorem antiphonref6_Control.bits5 : waitsOk antiphonref6_Control.T5.2 antiphonref6_Control.B5 = true := by kernel_rfl
end Go.Proofs.Ytnmcoebjkfpmjaa.P
/-! Px33 -/
namespace Go.Proofs.Ytnmcoebjkfpmjaa.P
open Go.RowKit Go.Proofs.YtnmcoebjkfpmjaaW.PrintWords Go.Proofs.YtnmcoebjkfpmjaaW.PrintLast Go.Proofs.YtnmcoebjkfpmjaaW.PrintMore
attribute [local go_sem] max2_int min2_int max_two min_two max_three min_three max_four min_four   -- for this text's walks alone
set_option linter.unusedVariables false
set_option linter.unusedSimpArgs false
def antiphonref6_Encode.T3 : Bool × List (List Nat × List Nat) := (true, [([], []), ([0], [0]), ([1], [1]), ([], []), ([3], [3]), ([], []), ([5], [5]), ([6], [6]), ([4, 7], [4, 7]), ([8], [8]), ([2, 9], [2, 9]), ([10, 7, 0, 1, 2, 3, 4, 5, 6, 7, 8, 9, 10], [10])])
def antiphonref6_Encode.B3 : List Nat := [0, 1, 3, 0, 8, 0, 32, 96, 248, 504, 1023, 2047]
theorem antiphonref6_Encode.tab3 : rtab .any (opsOf Try.f32 3) = antiphonref6_Encode.T3 := by kernel_rfl
theorem antiphonref6_Encode.bits3 : waitsOk antiphonref6_Encode.T3.2 antiphonref6_Encode.B3 = true := by kernel_rfl
end Go.Proofs.Ytnmcoebjkfpmjaa.P
/-! Px98 -/
namespace Go.Proofs.Ytnmcoebjkfpmjaa.P
open Go.RowKit Go.Proofs.YtnmcoebjkfpmjaaW.PrintWords Go.Proofs.YtnmcoebjkfpmjaaW.PrintLast Go.Proofs.YtnmcoebjkfpmjaaW.PrintMore
attribute [local go_sem] max2_int min2_int max_two min_two max_three min_three max_four min_four   -- for this text's walks alone
set_option linter.unusedVariables false
set_option linter.unusedSimpArgs false
end Go.Proofs.Ytnmcoebjkfpmjaa.P
/-! Px40 -/
namespace Go.Proofs.Ytnmcoebjkfpmjaa.P
open Go.RowKit Go.Proofs.YtnmcoebjkfpmjaaW.PrintWords Go.Proofs.YtnmcoebjkfpmjaaW.PrintLast Go.Proofs.YtnmcoebjkfpmjaaW.PrintMore
attribute [local go_sem] max2_int min2_int max_two min_two max_three min_three max_four min_four   -- for this text's walks alone
set_option linter.unusedVariables false
set_option linter.unusedSimpArgs false
end Go.Proofs.Ytnmcoebjkfpmjaa.P
/-! LibF -/
namespace Go.Proofs.Ytnmcoebjkfpmjaa.Lib
set_option linter.unusedSimpArgs false
set_option linter.unusedVariables false
open Go.RowKit Go.Proofs.Ytnmcoebjkfpmjaa.P Go.Proofs.YtnmcoebjkfpmjaaW.PrintWords Go.Proofs.YtnmcoebjkfpmjaaW.PrintLast
section
variable (k : Nat) (t f : Int) (resp : Bool) (form kind ns nr : Int) (poll : Bool) (info : List Int)
end
section
variable (a0 a1 : Int) (a2 : Bool) (a3 a4 a5 a6 : Int) (a7 : Bool) (a8 : List Int) (b0 b1 : Int) (b2 : Bool) (b3 b4 b5 b6 : Int) (b7 : Bool) (b8 : List Int)
def pduEq : Bool := decide (a0 = b0 ∧ a1 = b1 ∧ a2 = b2 ∧ a3 = b3 ∧ a4 = b4 ∧ a5 = b5 ∧ a6 = b6 ∧ a7 = b7 ∧ a8 = b8)
theorem same_by {o : Option Bool} (h : o = some (decide (a8 = b8))) :
    (if a0 = b0 then (if a1 = b1 then (if (a2 == b2) = true then (if a3 = b3 then (if a4 = b4 then (if a5 = b5 then (if a6 = b6 then (if (a7 == b7) = true then (o.bind fun t103 => (some t103)) else (some false)) else (some false)) else (some false)) else (some false)) else (some false)) else (some false)) else (some false)) else (some false)) = some (pduEq a0 a1 a2 a3 a4 a5 a6 a7 a8 b0 b1 b2 b3 b4 b5 b6 b7 b8) := by
  rw [h]
  unfold pduEq
  by_cases h0 : a0 = b0
  · by_cases h1 : a1 = b1
    · by_cases h2 : a2 = b2
      · by_cases h3 : a3 = b3
        · by_cases h4 : a4 = b4
          · by_cases h5 : a5 = b5
            · by_cases h6 : a6 = b6
              · by_cases h7 : a7 = b7
                · simp [h0, h1, h2, h3, h4, h5, h6, h7]
                · simp [h0, h1, h2, h3, h4, h5, h6, h7]
              · simp [h0, h1, h2, h3, h4, h5, h6]
            · simp [h0, h1, h2, h3, h4, h5]
          · simp [h0, h1, h2, h3, h4]
        · simp [h0, h1, h2, h3]
      · simp [h0, h1, h2]
    · simp [h0, h1]
  · simp [h0]
theorem same_ref6 (k n : Nat) (hk : n + 1 ≤ k) (ha : a8.length ≤ n) (hn : n < 9223372036854775807) : antiphonref6_Same.f k a0 a1 a2 a3 a4 a5 a6 a7 a8 b0 b1 b2 b3 b4 b5 b6 b7 b8 = some (pduEq a0 a1 a2 a3 a4 a5 a6 a7 a8 b0 b1 b2 b3 b4 b5 b6 b7 b8) := by
  unfold antiphonref6_Same.f
  exact same_by _ _ _ _ _ _ _ _ _ _ _ _ _ _ _ _ _ _ (same_le a8 b8 n k hk ha hn)
end
theorem pduEq_self (a0 a1 : Int) (a2 : Bool) (a3 a4 a5 a6 : Int) (a7 : Bool) (a8 : List Int) : pduEq a0 a1 a2 a3 a4 a5 a6 a7 a8 a0 a1 a2 a3 a4 a5 a6 a7 a8 = true := by unfold pduEq; simp
end Go.Proofs.Ytnmcoebjkfpmjaa.Lib
/-! PurePduAll -/
namespace Go.Proofs.Ytnmcoebjkfpmjaa.Pure
open Go.RowKit Go.Proofs.Ytnmcoebjkfpmjaa.P Go.Proofs.Ytnmcoebjkfpmjaa.Lib Go.Proofs.YtnmcoebjkfpmjaaW.PrintWords Go.Proofs.YtnmcoebjkfpmjaaW.PrintLast
theorem all_from (t f : Int) (info : List Int) (ht : 0 ≤ t ∧ t < 256) (hf : 0 ≤ f ∧ f < 256) (hb : Bytes info) (hl : info.length ≤ 30) : ∀ (d c : Nat), c + d = 256 → antiphonlaw6_PduAll.l0 (d + 101) t f info (c : Int) = some true
  | 0, c, h => by
    rw [show (0 + 101 : Nat) = 100 + 1 from rfl, antiphonlaw6_PduAll.l0, if_neg (by omega)]
  | d + 1, c, h => by
    rw [show d + 1 + 101 = (d + 101) + 1 by omega, antiphonlaw6_PduAll.l0, if_pos (by omega), Option.bind_some, if_pos (by simp; omega), Option.bind_some, Int.emod_eq_of_lt (by omega) (by omega)]
    have hB : Bytes ([t, f, (c : Int)] ++ info) := by
      intro x hx
      rcases List.mem_append.1 hx with h | h
      · simp at h; omega
      · exact hb x h
    have hL : ([t, f, (c : Int)] ++ info).length ≤ 33 := by simp; omega
    rw [show d + 101 = (d + 81) + 20 by omega, dec_pdu _ hB (by omega), Option.bind_some, dec_ref _ hB 33 _ hL (by omega) (by omega), Option.bind_some, if_pos rfl, same_ref6 _ _ _ _ _ _ _ _ _ _ _ _ _ _ _ _ _ _ _ 33 (by omega) (dec_len _ 33 hL) (by omega), Option.bind_some, pduEq_self, if_pos rfl,
      w64 _ (by omega) (by omega), show ((c : Int) + 1) = ((c + 1 : Nat) : Int) by omega, show d + 81 + 20 = d + 101 by omega]
    exact all_from t f info ht hf hb hl d (c + 1) (by omega)
theorem PduAll : antiphonlaw6_PduAll.Pure := by
  intro t f info ht hf _ _ hw
  refine ⟨357, ?_⟩
  have hA : antiphonlaw6_awake.f 357 = some true := by decide +kernel
  unfold antiphonlaw6_PduAll.f
  rw [hA, Option.bind_some, if_pos rfl]
  by_cases hl : (info.length : Int) > 30
  · rw [if_pos hl]
  rw [if_neg hl]
  exact all_from t f info (u8_wf ht) (u8_wf hf) (wf_bytes hw) (by omega) 256 0 (by omega)
end Go.Proofs.Ytnmcoebjkfpmjaa.Pure
/-! WSized -/
namespace Go.Proofs.YtnmcoebjkfpmjaaW.PrintWords
open Go.ChangeShapes Go.WideShapes
theorem sized_ints {H : Type} {enc : TypeId × Value → H} {P : Program} {W : World} {base : Nat} {spare : Nat → Bool} {held : Bool} {t e : TypeId} {k : IntKind} {a : Option Addr} {len cap : Nat} {d : DataW H} {ps : List MemPlace} {ts : List TypeId} {ds : List (DataW H)} {j : Nat}
    (hsz : (DataW.weightsEach P ts ds).all (· ≤ reachBytes) = true) (ht : ts[j]? = some t) (hd : ds[j]? = some d) (hu : P.underlying t = some (.slice e)) (he : P.underlying e = some (.int k)) (hc : P.cellsOf e = 1) {B : Nat} (hB : P.bytesOf e = B)
    (h : DataW.Trod enc P W base spare held t (.slice a len cap) d ps) : len * B ≤ 140737488351232 := by
  obtain ⟨fuel, hf⟩ := h
  rcases open_ints hu he hc hf with ⟨hcs, _⟩ | ⟨x, l, c, zs, hcs, _, hl, _, hz, hx, _, _⟩
  · simp [Value.cells] at hcs
    obtain ⟨rfl, rfl, rfl⟩ := hcs
    simp
  · simp [Value.cells] at hcs
    obtain ⟨rfl, rfl, rfl⟩ := hcs
    obtain ⟨hx, _⟩ := Prod.mk.inj hx
    subst hx
    have z := sized_slice hsz ht hd hu
    rw [hB] at z
    have hl2 : len ≤ zs.length := by
      rw [hz]
      split
      · exact hl
      · exact Nat.le_refl _
    have h1 : (lits (H := H) k (zs.take len)).length + (lits (H := H) k (zs.drop len)).length = zs.length := by
      simp [lits]
      omega
    rw [h1] at z
    exact Nat.le_trans (Nat.mul_le_mul_right _ hl2) z
end Go.Proofs.YtnmcoebjkfpmjaaW.PrintWords
/-! LawPduAll -/
namespace Go.Proofs.Ytnmcoebjkfpmjaa.pduAll
open Go.ChangeShapes Go.WideShapes Go.ChangeAt Go.RowKit
open Go.ChangeMaps (open_string shut_string)
set_option linter.unusedVariables false
theorem own : ownKnob Try.prog.godebug = none := by kernel_rfl
theorem laidOut : laidOutB Try.prog = true := by kernel_rfl
def IsRow (k : IntKind) (w : World) (a : Option Addr) (len cap : Nat) (zs : List Int) : Prop :=
  (a = none ∧ len = 0 ∧ cap = 0 ∧ zs = []) ∨
  ∃ x, a = some x ∧ len ≤ cap ∧ cap ≤ maxLen ∧ zs.length = cap ∧ (∀ i, i < zs.length → w.cell? (x.add i) = some (.int k (zs.getD i 0))) ∧ ∀ n ∈ zs, (Lit.int k n).wf = true
set_option maxRecDepth 100000 in
theorem lifted (os : Os) (started : os.Started) (H : Type) (enc : TypeId × Value → H) :
    ReturnsInHanded {} Try.checked os 5 .any (Rows.pduAllSpec.pre6 enc Try.prog Try.f5 Rows.pduAllRow.domain false) (Rows.pduAllSpec.post enc Try.prog Try.f5 false true false false) := by
  refine returnsInHanded_of_change_sized (C := Try.checked) own started (by kernel_rfl) Try.func5
    (ChangeSpec.witness6 (enc := enc) (C := Try.checked) false ⟨#[], #[.int .u8 0, .int .u8 0, .slice none 0 0], []⟩ 8 (by kernel_rfl) (by kernel_rfl) (by kernel_rfl) (by kernel_rfl)) ?_
  intro W base args ds gs before hval0 hW hcnd hsz0 _
  have hsz : (DataW.weightsEach Try.prog (Try.f5.params.toList ++ Rows.pduAllSpec.plain.varTypes Try.prog) (ds ++ gs)).all (· ≤ reachBytes) = true := hsz0
  have hval : ∀ (j : Nat) t v, Try.f5.params[j]? = some t → args[j]? = some v → Value.okWide Try.prog W .any base t v := hval0
  have hW' := hW
  obtain ⟨p, q, hA0, hV, rfl, hfz, hnd⟩ := hW
  have hA : DataW.TrodAll enc Try.prog W 0 (fun _ => true) true Try.f5.params.toList args.toList ds p := hA0
  rw [Try.params5] at hA hval hsz
  obtain ⟨v0, vs0, d0, ds0, p0, q0, hargs, rfl, rfl, h0, r0⟩ := trodAll_cons hA
  obtain ⟨v1, vs1, d1, ds1, p1, q1, rfl, rfl, rfl, h1, r1⟩ := trodAll_cons r0
  obtain ⟨v2, vs2, d2, ds2, p2, q2, rfl, rfl, rfl, h2, r2⟩ := trodAll_cons r1
  obtain ⟨rfl, rfl, rfl⟩ := trodAll_nil r2
  obtain rfl : args = #[v0, v1, v2] := by cases args; simp_all
  obtain ⟨rfl, rfl⟩ := trodVars_none hV
  obtain ⟨a0, rfl, rfl, rfl, w0⟩ := open_int Try.underlying5 (hval 0 5 v0 rfl rfl) h0
  obtain ⟨a1, rfl, rfl, rfl, w1⟩ := open_int Try.underlying5 (hval 1 5 v1 rfl rfl) h1
  obtain ⟨a2, len2, cap2, rfl⟩ := okWide_slice Try.underlying23 (hval 2 23 v2 rfl rfl)
  have k2 := h2
  have lt2 : ∀ x ∈ p2, x.block < W.heap.size := by obtain ⟨m, hm⟩ := k2; exact DataW.trod_lt m _ _ _ hm
  obtain ⟨z2, w2⟩ : ∃ zs, IsRow .u8 W a2 len2 cap2 zs := by
    obtain ⟨fuel, hf⟩ := h2
    rcases open_ints Try.underlying23 Try.underlying5 (by kernel_rfl) hf with ⟨hcs, _⟩ | ⟨x, l, c, zs, hcs, _, hl, hm, hz, _, hcell, hwz⟩
    · simp [Value.cells] at hcs
      obtain ⟨rfl, rfl, rfl⟩ := hcs
      exact ⟨[], .inl ⟨rfl, rfl, rfl, rfl⟩⟩
    · simp [Value.cells] at hcs
      obtain ⟨rfl, rfl, rfl⟩ := hcs
      exact ⟨zs, .inr ⟨_, rfl, hl, hm, by simpa using hz, hcell, hwz⟩⟩
  have y2 : len2 * 1 ≤ 140737488351232 := Go.Proofs.YtnmcoebjkfpmjaaW.PrintWords.sized_ints hsz (j := 2) (t := 23) rfl rfl Try.underlying23 Try.underlying5 (by kernel_rfl) (by kernel_rfl) h2
  clear hA0 hval0 hsz0 hsz
  refine (P.antiphonlaw6_PduAll.walk Pure.PduAll a0 a1 a2 len2 cap2 z2 W w0 w1 w2 y2).mono fun e W' ⟨he, bel⟩ => ?_
  subst he
  exact ⟨_, rfl, _, _, _, [], _, [], hW', trodAll_mk1 (shut_bool Try.underlying4 _), (trodAll_cons_mk (shut_int Try.underlying5 w0) (trodAll_cons_mk (shut_int Try.underlying5 w1) (trodAll_cons_mk (Below.trod laidOut (by kernel_rfl) (of_decide_eq_true (by kernel_rfl)) k2 bel lt2) trodAll_mk0))), rfl, bel.frame _, fun h => by cases h⟩
theorem fact0 : (Rows.pduAllRow.wf (OpenSpec.ofChange Rows.pduAllSpec)) = true := by kernel_rfl
theorem fact1 : (laidOutB Try.prog) = true := Kit.laidOut
theorem fact2 : (mapsRowed Try.prog) = true := Kit.mapsRowed
theorem fact3 : (Try.f5.params.all (Try.prog.readableRec ·)) = true := by kernel_rfl
theorem fact4 : (namedTie Try.prog Rows.pduAllRow.named Rows.pduAllSpec.vars) = true := by kernel_rfl
theorem fact5 : ((Rows.pduAllRow.stops == [])) = true := by kernel_rfl
theorem fact6 : ((Try.prog.stops == [])) = true := Kit.stops
theorem fact7 : ((Rows.pduAllRow.knobs == [])) = true := by kernel_rfl
theorem fact8 : ((Try.prog.stopKnobs == [])) = true := Kit.stopKnobs
theorem fact9 : ((Rows.pduAllRow.inPlace == Try.prog.inPlace 5)) = true := by kernel_rfl
theorem fact10 : ((Rows.pduAllRow.unfollowed == Try.prog.unfollowed 5)) = true := by kernel_rfl
theorem fact11 : ((Rows.pduAllRow.recurses == Try.prog.recurses 5)) = true := by kernel_rfl
theorem fact12 : ((Rows.pduAllRow.named == Try.prog.varsNamed 5)) = true := by kernel_rfl
theorem fact13 : ((Rows.pduAllRow.maps == (Try.f5.params.toList ++ Rows.pduAllSpec.plain.varTypes Try.prog).any (Try.prog.mapsRec ·))) = true := by kernel_rfl
theorem fact14 : ((Rows.pduAllRow.ifaces == (Try.f5.params.toList ++ Rows.pduAllSpec.plain.varTypes Try.prog).any (Try.prog.ifacesRec ·))) = true := by kernel_rfl
theorem fact15 : ((Rows.pduAllRow.mapsOut == Try.prog.mapsAmong Try.f5.resultTypes.toList)) = true := by kernel_rfl
theorem fact16 : ((Rows.pduAllRow.loops == (Try.f5.params.toList ++ Rows.pduAllSpec.plain.varTypes Try.prog).any (Try.prog.loopsFrom ·))) = true := by kernel_rfl
theorem fact17 : ((Rows.pduAllRow.wideKeys == (Try.f5.params.toList ++ Rows.pduAllSpec.plain.varTypes Try.prog ++ Try.f5.resultTypes.toList).any (Try.prog.wideKeysFrom ·))) = true := by kernel_rfl
theorem fact18 : (Rows.pduAllSpec.vars.all (Try.prog.varReadable ·)) = true := by kernel_rfl
theorem fact19 : (Try.f5.resultTypes.all (fun t => Try.prog.readableRec t && decide (t < Try.prog.types.size))) = true := by kernel_rfl
theorem fact20 : ((Rows.pduAllRow.ifacesOut == Try.f5.resultTypes.toList.any (Try.prog.ifacesRec ·))) = true := by kernel_rfl
theorem fact21 : ((Rows.pduAllRow.loopsOut == Try.f5.resultTypes.toList.any (Try.prog.loopsFrom ·))) = true := by kernel_rfl
theorem fact22 : ((Rows.pduAllRow.plainKeys == Try.prog.plainKeys)) = true := (by rw [Kit.plainKeys]; rfl)
theorem fact23 : (Rows.pduAllRow.shortTexts.isNone) = true := by kernel_rfl
theorem fact24 : (Try.prog.stopsHeard) = true := Kit.stopsHeard
theorem fact25 : (Try.prog.mayEnter) = true := Kit.mayEnter
theorem fact26 : ((Rows.pduAllRow.lifted == Try.prog.liftsFinal)) = true := (by rw [Kit.liftsFinal]; rfl)
theorem fact27 : ((Try.prog.make == some Rows.pduAllRow.make)) = true := (by rw [Kit.make]; rfl)
theorem fact28 : ((Rows.pduAllRow.kinds == (if Rows.pduAllRow.domain.isEmpty then [] else Try.f5.params.toList.map fun t => match Try.prog.underlying t with | some (.int k) => some k | _ => none))) = true := by kernel_rfl
theorem fact29 : ((Rows.pduAllRow.pinned == Rows.pduAllRow.pinnedBy)) = true := by kernel_rfl
theorem fact30 : ((Rows.pduAllRow.veiled == (Try.f5.params.toList ++ Rows.pduAllSpec.plain.varTypes Try.prog ++ Try.f5.resultTypes.toList).any (Try.prog.veiledRec ·))) = true := by kernel_rfl
theorem fact31 : (Rows.pduAllRow.veiledFits Try.prog Try.f5.params.toList (Try.f5.params.toList ++ Rows.pduAllSpec.plain.varTypes Try.prog ++ Try.f5.resultTypes.toList)) = true := by kernel_rfl
set_option maxRecDepth 100000 in
theorem closed : joinedFacts Try.prog 5 Try.f5 Rows.pduAllSpec Rows.pduAllRow = true := by
  unfold joinedFacts
  exact (Kit.and2 (Kit.and2 (Kit.and2 (Kit.and2 (Kit.and2 (Kit.and2 (Kit.and2 (Kit.and2 (Kit.and2 (Kit.and2 (Kit.and2 (Kit.and2 (Kit.and2 (Kit.and2 (Kit.and2 (Kit.and2 (Kit.and2 (Kit.and2 (Kit.and2 (Kit.and2 (Kit.and2 (Kit.and2 (Kit.and2 (Kit.and2 (Kit.and2 (Kit.and2 (Kit.and2 (Kit.and2 (Kit.and2 (Kit.and2 (Kit.and2 fact0 fact1) fact2) fact3) fact4) fact5) fact6) fact7) fact8) fact9) fact10) fact11) fact12) fact13) fact14) fact15) fact16) fact17) fact18) fact19) fact20) fact21) fact22) fact23) fact24) fact25) fact26) fact27) fact28) fact29) fact30) fact31)
theorem named : Try.prog.funcNamed Rows.pduAllRow.func = some 5 := by kernel_rfl
theorem inst : Try.f5.isInstance Try.prog Rows.pduAllRow.origin Rows.pduAllRow.targs := of_decide_eq_true (by kernel_rfl)
theorem wrap_ : Try.f5.isWrapper Try.prog Rows.pduAllRow.wrapper Rows.pduAllRow.mainSum := by unfold Func.isWrapper; first | (rw [if_pos (by decide +kernel)]; kernel_rfl) | (rw [if_neg (by decide +kernel)]; exact ⟨rfl, rfl⟩)
theorem over : Rows.pduAllRow.holds Try.pinned (OpenSpec.ofChange Rows.pduAllSpec) :=
  OpenClaim.holds_of_wide 5 Try.f5 rfl rfl rfl rfl rfl rfl rfl ⟨rfl, rfl, rfl, rfl, rfl⟩ rfl rfl rfl rfl rfl named Try.func5 closed
    inst wrap_
    (fun os started H enc _ => lifted os started H enc)
theorem proved : Rows.PduAllSaid := over
#print axioms proved
end Go.Proofs.Ytnmcoebjkfpmjaa.pduAll
namespace Go.Proofs.Ytnmcoebjkfpmjaa
theorem pduAll_holds : Rows.PduAllSaid := pduAll.proved
end Go.Proofs.Ytnmcoebjkfpmjaa
