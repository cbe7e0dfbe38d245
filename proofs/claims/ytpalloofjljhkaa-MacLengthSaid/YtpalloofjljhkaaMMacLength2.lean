/- A frame whose length lies, or behind whose data something else stands than noughts, is none. -/
-- Put together by wip/print2/mergelaw.py: printed words (what this claim does not use is left out), printed functions, texts of this session.
import Derived.Test.YtpalloofjljhkaaMMacLength1
/-! Px26 -/
namespace Go.Proofs.Ytpalloofjljhkaa.P
open Go.RowKit Go.Proofs.YtpalloofjljhkaaW.PrintWords Go.Proofs.YtpalloofjljhkaaW.PrintLast Go.Proofs.YtpalloofjljhkaaW.PrintMore
attribute [local go_sem] max2_int min2_int max_two min_two max_three min_three max_four min_four   -- for this text's walks alone
set_option linter.unusedVariables false
set_option linter.unusedSimpArgs false
def antiphonref1_Same.l0 : Nat → List Int → List Int → Int → Option (Bool)
  | 0, _, _, _ => none
  | k + 1, x0, x1, x5 => if x5 < (x0.length : Int) then (if 0 ≤ x5 then (if x5 < (x1.length : Int) then (if (rd x0 x5) = (rd x1 x5) then (antiphonref1_Same.l0 k x0 x1 (wrap64 (x5 + 1))) else (some false)) else (none)) else (none)) else (some true)
def antiphonref1_Same.f (k : Nat) (l0 : List Int) (l1 : List Int) : Option (Bool) := if (l0.length : Int) = (l1.length : Int) then (antiphonref1_Same.l0 k l0 l1 0) else (some false)
set_option maxHeartbeats 8000000 in
set_option maxRecDepth 100000 in
theorem antiphonref1_Same.calls (k : Nat) (A0 : Option Addr) (c0 : Nat) (l0 : List Int) (A1 : Option Addr) (c1 : Nat) (l1 : List Int) (r : Bool) (w : World) (hr0 : Kd.C (Kd.int .u8) w A0 l0.length l0) (hc0 : l0.length ≤ c0) (hr1 : Kd.C (Kd.int .u8) w A1 l1.length l1) (hc1 : l1.length ≤ c1) (h : antiphonref1_Same.f k l0 l1 = some r) :
    Calls Try.prog 25 #[.slice A0 l0.length c0, .slice A1 l1.length c1] w fun e w' => e = .returned (.bool r) ∧ Drawn0 w w' := by
  have HR0 := Aside0.mk hr0
  have HC0 := Aside0.mk hc0
  clear hr0 hc0
  have HR1 := Aside0.mk hr1
  have HC1 := Aside0.mk hc1
  clear hr1 hc1
  have H : (if (l0.length : Int) = (l1.length : Int) then (antiphonref1_Same.l0 k l0 l1 0) else (some false)) = some r := h
  clear h
  by_cases c3 : (l0.length : Int) = (l1.length : Int)
  · rw [if_pos c3] at H
    have c3b0 : ((l0.length : Int) == (l1.length : Int)) = true := beq_iff_eq.mpr c3
    have c3b1 : ((l0.length : Int) != (l1.length : Int)) = false := bne_eq_false_iff_eq.mpr c3
    have c3b2 : (l0.length == l1.length) = true := by first | simpa using c3 | (simp at c3 ⊢; omega)
    clear c3
    have H' := Aside0.mk H
    clear H
    go_enter Try.func25, Try.ntmps25
    go_wp2
    repeat (go_quiet (fail); try go_wp2)
    go_loopg [5] k (fun kq v5 w' => ∃ (x5_1 : Int), v5 = .int .i64 x5_1 ∧ Aside0 (antiphonref1_Same.l0 kq l0 l1 x5_1 = some r) ∧ Aside0 (kq ≤ k) ∧ Drawn0 w w')
    case atStart => exact ⟨(0), (by first | rfl | (simp; done) | (simp [*]; done)), H', ⟨Nat.le_refl _⟩, by repeat (first | exact Drawn0.refl _ | apply Drawn0.step)⟩
    case round =>
      clear H'
      try clear c1
      try clear c2
      try clear p2
      try clear c3
      try clear c3b0
      try clear c3b1
      try clear c3b2
      obtain ⟨x5_1, rfl, HA, HK1, ⟨m1, rfl⟩⟩ := hrel
      cases gk with
      | zero => exact absurd HA.out (by simp [antiphonref1_Same.l0])
      | succ k1 =>
        have H := HA.out
        clear HA
        simp only [antiphonref1_Same.l0] at H
        by_cases c4 : x5_1 < (l0.length : Int)
        · rw [if_pos c4] at H
          have c4b0 : decide (x5_1 < (l0.length : Int)) = true := decide_eq_true c4
          clear c4
          by_cases c5 : 0 ≤ x5_1
          · rw [if_pos c5] at H
            have c5b0 : decide (0 ≤ x5_1) = true := decide_eq_true c5
            clear c5
            by_cases c6 : x5_1 < (l1.length : Int)
            · rw [if_pos c6] at H
              have c6b0 : decide (x5_1 < (l1.length : Int)) = true := decide_eq_true c6
              clear c6
              by_cases c7 : (rd l0 x5_1) = (rd l1 x5_1)
              · rw [if_pos c7] at H
                have c7b0 : ((rd l0 x5_1) == (rd l1 x5_1)) = true := beq_iff_eq.mpr c7
                have c7b1 : ((rd l0 x5_1) != (rd l1 x5_1)) = false := bne_eq_false_iff_eq.mpr c7
                clear c7
                have H' := Aside0.mk H
                clear H
                have p101 : 0 ≤ (x5_1 : Int) := of_decide_eq_true (by first | (with_reducible assumption) | assumption)
                have q101 : x5_1 < (l0.length : Int) := of_decide_eq_true (by first | (with_reducible assumption) | assumption)
                obtain ⟨ad101, e101, hx101_0⟩ := Kd.at_int HR0.out x5_1 p101 q101
                cases e101
                replace p101 := eq_true p101
                replace q101 := eq_true q101
                have p102 : 0 ≤ (x5_1 : Int) := of_decide_eq_true (by first | (with_reducible assumption) | assumption)
                have q102 : x5_1 < (l1.length : Int) := of_decide_eq_true (by first | (with_reducible assumption) | assumption)
                obtain ⟨ad102, e102, hx102_0⟩ := Kd.at_int HR1.out x5_1 p102 q102
                cases e102
                replace p102 := eq_true p102
                replace q102 := eq_true q102
                go_wp2
                repeat (go_quiet (fail); try go_wp2)
                go_roundg k1
                case measure => have := HK1.out; omega
                case rel => exact ⟨(wrap64 (x5_1 + 1)), (by first | rfl | (simp; done) | (simp [*]; done)), H', ⟨by have := HK1.out; omega⟩, by repeat (first | exact Drawn0.refl _ | apply Drawn0.step)⟩
              · rw [if_neg c7] at H
                have c7b0 : ((rd l0 x5_1) == (rd l1 x5_1)) = false := beq_eq_false_iff_ne.mpr c7
                have c7b1 : ((rd l0 x5_1) != (rd l1 x5_1)) = true := bne_iff_ne.mpr c7
                obtain rfl := Option.some.inj H
                have p101 : 0 ≤ (x5_1 : Int) := of_decide_eq_true (by first | (with_reducible assumption) | assumption)
                have q101 : x5_1 < (l0.length : Int) := of_decide_eq_true (by first | (with_reducible assumption) | assumption)
                obtain ⟨ad101, e101, hx101_0⟩ := Kd.at_int HR0.out x5_1 p101 q101
                cases e101
                replace p101 := eq_true p101
                replace q101 := eq_true q101
                have p102 : 0 ≤ (x5_1 : Int) := of_decide_eq_true (by first | (with_reducible assumption) | assumption)
                have q102 : x5_1 < (l1.length : Int) := of_decide_eq_true (by first | (with_reducible assumption) | assumption)
                obtain ⟨ad102, e102, hx102_0⟩ := Kd.at_int HR1.out x5_1 p102 q102
                cases e102
                replace p102 := eq_true p102
                replace q102 := eq_true q102
                go_wp2
                repeat (go_quiet (fail); try go_wp2)
                go_ret
                exact ⟨by first | rfl | (simp; done) | (simp [*]; done), by repeat (first | exact Drawn0.refl _ | apply Drawn0.step)⟩
            · rw [if_neg c6] at H
              exact absurd H (by simp)
          · rw [if_neg c5] at H
            exact absurd H (by simp)
        · rw [if_neg c4] at H
          have c4b0 : decide (x5_1 < (l0.length : Int)) = false := decide_eq_false c4
          clear c4
          obtain rfl := Option.some.inj H
          go_wp2
          repeat (go_quiet (fail); try go_wp2)
          go_ret
          exact ⟨by first | rfl | (simp; done) | (simp [*]; done), by repeat (first | exact Drawn0.refl _ | apply Drawn0.step)⟩
  · rw [if_neg c3] at H
    have c3b0 : ((l0.length : Int) == (l1.length : Int)) = false := beq_eq_false_iff_ne.mpr c3
    have c3b1 : ((l0.length : Int) != (l1.length : Int)) = true := bne_iff_ne.mpr c3
    have c3b2 : (l0.length == l1.length) = false := by first | simpa using c3 | (simp at c3 ⊢; omega)
    obtain rfl := Option.some.inj H
    go_enter Try.func25, Try.ntmps25
    go_wp2
    repeat (go_quiet (fail); try go_wp2)
    go_ret
    exact ⟨by first | rfl | (simp; done) | (simp [*]; done), by repeat (first | exact Drawn0.refl _ | apply Drawn0.step)⟩
end Go.Proofs.Ytpalloofjljhkaa.P
/-! Px56 -/
namespace Go.Proofs.Ytpalloofjljhkaa.P
open Go.RowKit Go.Proofs.YtpalloofjljhkaaW.PrintWords Go.Proofs.YtpalloofjljhkaaW.PrintLast Go.Proofs.YtpalloofjljhkaaW.PrintMore
attribute [local go_sem] max2_int min2_int max_two min_two max_three min_three max_four min_four   -- for this text's walks alone
set_option linter.unusedVariables false
set_option linter.unusedSimpArgs false
mutual
def antiphonref1_Put.j0 : Nat → Int → Int → Bool → Option (List Int)
  | 0, _, _, _ => none
  | k + 1, x0, x1, x24 => if x24 = true then (some ([] : List Int)) else (antiphonref1_Put.l0 k x0 ([] : List Int) (wrap64 (x1 - 1)))
def antiphonref1_Put.l0 : Nat → Int → List Int → Int → Option (List Int)
  | 0, _, _, _ => none
  | k + 1, x0, x5, x6 => if x6 ≥ 0 then (if 0 ≤ (IntKind.u64.wrap (wrap64 (8 * x6))) then (if x5.length < 140737488355328 then (antiphonref1_Put.l0 k x0 (x5 ++ [(shr .i64 x0 (IntKind.u64.wrap (wrap64 (8 * x6)))) % 256]) (wrap64 (x6 - 1))) else (none)) else (none)) else (some x5)
end
def antiphonref1_Put.f (k : Nat) (a0 : Int) (a1 : Int) : Option (List Int) := if a1 < 1 then (antiphonref1_Put.j0 k a0 a1 true) else (if a1 > 7 then (antiphonref1_Put.j0 k a0 a1 true) else (if a0 < 0 then (antiphonref1_Put.j0 k a0 a1 true) else (if 0 ≤ (IntKind.u64.wrap (wrap64 (8 * a1))) then (antiphonref1_Put.j0 k a0 a1 (decide (a0 ≥ (shl .i64 1 (IntKind.u64.wrap (wrap64 (8 * a1))))))) else (none))))
set_option maxHeartbeats 8000000 in
set_option maxRecDepth 100000 in
theorem antiphonref1_Put.calls (k : Nat) (a0 : Int) (a1 : Int) (r : List Int) (w : World) (h : antiphonref1_Put.f k a0 a1 = some r) :
    Calls Try.prog 55 #[.int .i64 a0, .int .i64 a1] w fun e w' => ∃ v0_ : Value, e = .returned (v0_) ∧ Kd.R (Kd.int .u8) 5 w' w.heap.size (fun _ => True) v0_ r ∧ Below w.heap.size w w' := by
  have HB := Aside0.mk (Below.refl w.heap.size w)
  have H : (if a1 < 1 then (antiphonref1_Put.j0 k a0 a1 true) else (if a1 > 7 then (antiphonref1_Put.j0 k a0 a1 true) else (if a0 < 0 then (antiphonref1_Put.j0 k a0 a1 true) else (if 0 ≤ (IntKind.u64.wrap (wrap64 (8 * a1))) then (antiphonref1_Put.j0 k a0 a1 (decide (a0 ≥ (shl .i64 1 (IntKind.u64.wrap (wrap64 (8 * a1))))))) else (none))))) = some r := h
  clear h
  have HC3 := Aside0.mk H
  clear H
  go_enter Try.func55, Try.ntmps55
  go_upto_region 1 with (fail)
  go_cut [24] (fun v24 wc => ∃ (kq : Nat) (x24_2 : Bool), v24 = .bool x24_2 ∧ Aside0 (antiphonref1_Put.j0 kq a0 a1 x24_2 = some r) ∧ Aside0 (kq ≤ k) ∧ Aside0 (Below w.heap.size w wc))
  case first =>
    have H := HC3.out
    clear HC3
    by_cases c4 : a1 < 1
    · rw [if_pos c4] at H
      have c4b0 : decide (a1 < 1) = true := decide_eq_true c4
      clear c4
      (first | rw [c4b0] | (simp only [i64_w, i32_w]; rw [c4b0]) | skip)
      have H' := Aside0.mk H
      clear H
      go_wp2
      go_meet
      case rel => exact ⟨_, (true), (by first | rfl | (simp; done) | (simp [*]; done)), H', ⟨by first | omega | exact Nat.le_refl _⟩, ⟨by repeat (first | (with_reducible first | exact HB.out | apply below_alloc | apply pw_below_drewN | apply below_drew1) | exact HB.out)⟩⟩
    · rw [if_neg c4] at H
      have c4b0 : decide (a1 < 1) = false := decide_eq_false c4
      clear c4
      (first | rw [c4b0] | (simp only [i64_w, i32_w]; rw [c4b0]) | skip)
      by_cases c5 : a1 > 7
      · rw [if_pos c5] at H
        have c5b0 : decide (7 < a1) = true := decide_eq_true c5
        clear c5
        have H' := Aside0.mk H
        clear H
        go_wp2
        go_meet
        case rel => exact ⟨_, (true), (by first | rfl | (simp; done) | (simp [*]; done)), H', ⟨by first | omega | exact Nat.le_refl _⟩, ⟨by repeat (first | (with_reducible first | exact HB.out | apply below_alloc | apply pw_below_drewN | apply below_drew1) | exact HB.out)⟩⟩
      · rw [if_neg c5] at H
        have c5b0 : decide (7 < a1) = false := decide_eq_false c5
        clear c5
        by_cases c6 : a0 < 0
        · rw [if_pos c6] at H
          have c6b0 : decide (a0 < 0) = true := decide_eq_true c6
          clear c6
          have H' := Aside0.mk H
          clear H
          go_wp2
          go_meet
          case rel => exact ⟨_, (true), (by first | rfl | (simp; done) | (simp [*]; done)), H', ⟨by first | omega | exact Nat.le_refl _⟩, ⟨by repeat (first | (with_reducible first | exact HB.out | apply below_alloc | apply pw_below_drewN | apply below_drew1) | exact HB.out)⟩⟩
        · rw [if_neg c6] at H
          have c6b0 : decide (a0 < 0) = false := decide_eq_false c6
          clear c6
          obtain ⟨ji7, hji7⟩ : ∃ j_ : Int, (IntKind.u64.wrap (wrap64 (8 * a1))) = j_ := ⟨_, rfl⟩
          replace H : (if 0 ≤ (ji7) then (antiphonref1_Put.j0 k a0 a1 (decide (a0 ≥ (shl .i64 1 (ji7))))) else (none)) = some r := by first | (rw [hji7] at H; exact H) | (simp only [hji7] at H ⊢; exact H)
          by_cases c8 : 0 ≤ (ji7)
          · rw [if_pos c8] at H
            have c8b0 := eq_true c8
            have c8b1 : decide (0 ≤ (ji7)) = true := decide_eq_true c8
            clear c8
            obtain ⟨ji9, hji9⟩ : ∃ j_ : Int, (shl .i64 1 (ji7)) = j_ := ⟨_, rfl⟩
            replace H : (antiphonref1_Put.j0 k a0 a1 (decide (a0 ≥ (ji9)))) = some r := by first | (rw [hji9] at H; exact H) | (simp only [hji9] at H ⊢; exact H)
            have hji9_ : (IntKind.i64.wrap (1 * 2 ^ min (ji7).toNat 64)) = ji9 := hji9
            have hji9z : (ji7) ≤ 64 → (IntKind.i64.wrap (1 * 2 ^ (ji7).toNat)) = ji9 := shl_small hji9
            have hji9u : (IntKind.i64.wrap (2 ^ min (ji7).toNat 64)) = ji9 := by have h_ := hji9_; rw [Int.one_mul] at h_; exact h_
            have hji9v : (ji7) ≤ 64 → (IntKind.i64.wrap (2 ^ (ji7).toNat)) = ji9 := fun hle_ => by have h_ := hji9z hle_; rw [Int.one_mul] at h_; exact h_
            have hji9y : (wrap64 (1 * 2 ^ min (ji7).toNat 64)) = ji9 := (i64_w _).symm.trans hji9_
            have hji9x : (ji7) ≤ 64 → (wrap64 (1 * 2 ^ (ji7).toNat)) = ji9 := fun h_ => (i64_w _).symm.trans (hji9z h_)
            have H' := Aside0.mk H
            clear H
            go_wp2
            go_meet
            case rel => exact ⟨_, (decide (a0 ≥ (ji9))), (by first | rfl | (simp; done) | (simp only [← hji9] <;> (first | rfl | simp)) | (simp [*]; done)), H', ⟨by first | omega | exact Nat.le_refl _⟩, ⟨by repeat (first | (with_reducible first | exact HB.out | apply below_alloc | apply pw_below_drewN | apply below_drew1) | exact HB.out)⟩⟩
          · rw [if_neg c8] at H
            exact absurd H (by simp)
  case rest =>
    clear HC3
    try clear p2
    try clear c4
    try clear c4b0
    try clear c5
    try clear c5b0
    try clear c6
    try clear c6b0
    try clear p6
    try clear c8
    try clear c8b0
    try clear c8b1
    obtain ⟨kq, x24_2, rfl, HA, HJ2, HB⟩ := hcut
    cases kq with
    | zero => exact absurd HA.out (by simp [antiphonref1_Put.j0])
    | succ kj2 =>
      have H := HA.out
      clear HA
      simp only [antiphonref1_Put.j0] at H
      by_cases c10 : x24_2 = true
      · subst c10
        have H1 : (some ([] : List Int)) = some r := by rw [if_pos rfl] at H; exact H
        clear H
        have H := H1
        clear H1
        obtain rfl := Option.some.inj H
        go_wp2
        go_ret
        exact ⟨_, by first | rfl | (simp [errW_none, errW_some] <;> rfl) | (simp [*, errW_none, errW_some] <;> rfl), by first | exact Kd.R_nil _ _ _ _ _ | exact Kd.N_nil _ _ _ _ _ | exact Kd.V_nil _ _ _ _ _ | exact Kd.Q_nil _ _ _ _ _ | exact Kd.S_nil _ _ _ _ _, by repeat (first | (with_reducible first | exact HB.out | apply below_alloc | apply pw_below_drewN | apply below_drew1) | exact HB.out)⟩
      · replace c10 := Bool.eq_false_iff.mpr c10
        subst c10
        have H1 : (antiphonref1_Put.l0 kj2 a0 ([] : List Int) (wrap64 (a1 - 1))) = some r := by rw [if_neg (show ¬ (false = true) by decide)] at H; exact H
        clear H
        have H := H1
        clear H1
        have H' := Aside0.mk H
        clear H
        go_wp2
        go_loopg [5, 6] kj2 (fun kq v5 v6 w' => ∃ (x5_2 : List Int) (x6_2 : Int), v6 = .int .i64 x6_2 ∧ Aside0 (antiphonref1_Put.l0 kq a0 x5_2 x6_2 = some r) ∧ Aside0 (kq ≤ kj2) ∧ Aside0 (Kd.R (Kd.int .u8) 5 w' w.heap.size (fun _ => True) v5 x5_2) ∧ Aside0 (Below w.heap.size w w'))
        case atStart => exact ⟨(([] : List Int)), (wrap64 (a1 - 1)), (by first | rfl | (simp; done) | (simp [*]; done)), H', ⟨Nat.le_refl _⟩, ⟨by first | exact Kd.R_nil _ _ _ _ _ | exact Kd.N_nil _ _ _ _ _ | exact Kd.V_nil _ _ _ _ _ | exact Kd.Q_nil _ _ _ _ _ | exact Kd.S_nil _ _ _ _ _⟩, ⟨by repeat (first | (with_reducible first | exact HB.out | apply below_alloc | apply pw_below_drewN | apply below_drew1) | exact HB.out)⟩⟩
        case round =>
          clear H'
          try clear c1
          try clear p2
          try clear c4
          try clear c4b0
          try clear c5
          try clear c5b0
          try clear c6
          try clear c6b0
          try clear p6
          try clear c8
          try clear c8b0
          try clear c8b1
          try clear c10
          try clear p2
          try clear p6
          obtain ⟨x5_2, x6_2, rfl, HA, HK2, HO_5, HB⟩ := hrel
          cases gk with
          | zero => exact absurd HA.out (by simp [antiphonref1_Put.l0])
          | succ k2 =>
            have H := HA.out
            clear HA
            simp only [antiphonref1_Put.l0] at H
            by_cases c11 : x6_2 ≥ 0
            · rw [if_pos c11] at H
              have c11b0 : decide (0 ≤ x6_2) = true := decide_eq_true c11
              clear c11
              obtain ⟨ji12, hji12⟩ : ∃ j_ : Int, (IntKind.u64.wrap (wrap64 (8 * x6_2))) = j_ := ⟨_, rfl⟩
              replace H : (if 0 ≤ (ji12) then (if x5_2.length < 140737488355328 then (antiphonref1_Put.l0 k2 a0 (x5_2 ++ [(shr .i64 a0 (ji12)) % 256]) (wrap64 (x6_2 - 1))) else (none)) else (none)) = some r := by first | (rw [hji12] at H; exact H) | (simp only [hji12] at H ⊢; exact H)
              by_cases c13 : 0 ≤ (ji12)
              · rw [if_pos c13] at H
                have c13b0 := eq_true c13
                have c13b1 : decide (0 ≤ (ji12)) = true := decide_eq_true c13
                clear c13
                obtain ⟨ji14, hji14⟩ : ∃ j_ : Int, (shr .i64 a0 (ji12)) = j_ := ⟨_, rfl⟩
                replace H : (if x5_2.length < 140737488355328 then (antiphonref1_Put.l0 k2 a0 (x5_2 ++ [(ji14) % 256]) (wrap64 (x6_2 - 1))) else (none)) = some r := by first | (rw [hji14] at H; exact H) | (simp only [hji14] at H ⊢; exact H)
                have hji14_ : (a0 / 2 ^ min (ji12).toNat 64) = ji14 := hji14
                have hji14z : (ji12) ≤ 64 → (a0 / 2 ^ (ji12).toNat) = ji14 := shr_small hji14
                by_cases c15 : x5_2.length < 140737488355328
                · rw [if_pos c15] at H
                  have LMc15 := Aside0.mk c15
                  clear c15
                  obtain ⟨y101, hy101⟩ : ∃ y_ : List Int, y_ = (x5_2 ++ [(ji14) % 256]) := ⟨_, rfl⟩
                  replace H : (antiphonref1_Put.l0 k2 a0 y101 (wrap64 (x6_2 - 1))) = some r := by first | (rw [hy101]; with_reducible exact H) | (have H2_ := (Option.bind_some _ _).symm.trans H; rw [hy101]; with_reducible exact H2_) | (have H2_ := (Option.bind_some _ _).symm.trans H; with_reducible exact H2_) | with_reducible exact H | (rw [hy101]; exact H) | exact H
                  have Ny101 := Aside0.mk hy101
                  clear hy101
                  have H' := Aside0.mk H
                  clear H
                  go_wp2_with (first | ((with_reducible refine gate_builtin (b := .append) (xs := #[.tmp 31, .tmp 38]) rfl ?_); at_builtin; refine Kd.R_append (Kd.int .u8) (w0 := w) w.heap.size rfl (.tmp 31) (.tmp 38) 22 5 (.int .u8 0) 1 rfl Try.underlying22 info5 rfl (by decide) (by omega) u5 x5_2 ((ji14) % 256) [.int .u8 ((ji14) % 256)] (fun _ => True) (fun _ => False) rfl rfl ?aP (fun _ hk => hk.elim) ?aF ?aO ?aB ?aS ?aL ?_; (case aP => exact rfl); (case aB => exact (by repeat (first | (with_reducible first | exact HB.out | apply below_alloc | apply pw_below_drewN | apply below_drew1) | exact HB.out))); (case aF => exact (fun _ _ => trivial)); (case aO => exact (by (with_reducible repeat (first | apply Kd.R_alloc | apply Kd.R_drewN | apply Kd.R_drew)); exact HO_5.out)); (case aS => exact (below_size (by repeat (first | (with_reducible first | exact HB.out | apply below_alloc | apply pw_below_drewN | apply below_drew1) | exact HB.out)))); (case aL => have := LMc15.out; omega); intro v102 w16 ho hb hg hat; rw [← Ny101.out] at ho; have n0_ := Aside0.mk (hb); have n1_ := Aside0.mk (ho); clear HB; clear HO_5; have HB := n0_; have HO103 := n1_; clear n0_ n1_; clear ho hb hg hat))
                  go_roundg k2
                  case measure => have := HJ2.out; have := HK2.out; omega
                  case rel => exact ⟨(y101), (wrap64 (x6_2 - 1)), (by first | rfl | (simp; done) | (simp [*]; done)), H', ⟨by have := HJ2.out; have := HK2.out; omega⟩, ⟨by (with_reducible repeat (first | apply Kd.R_alloc | apply Kd.R_drewN | apply Kd.R_drew)); exact HO103.out⟩, ⟨by repeat (first | (with_reducible first | exact HB.out | apply below_alloc | apply pw_below_drewN | apply below_drew1) | exact HB.out)⟩⟩
                · rw [if_neg c15] at H
                  exact absurd H (by simp)
              · rw [if_neg c13] at H
                exact absurd H (by simp)
            · rw [if_neg c11] at H
              have c11b0 : decide (0 ≤ x6_2) = false := decide_eq_false c11
              clear c11
              obtain rfl := Option.some.inj H
              go_wp2
              go_ret
              exact ⟨_, by first | rfl | (simp [errW_none, errW_some] <;> rfl) | (simp [*, errW_none, errW_some] <;> rfl), by (with_reducible repeat (first | apply Kd.R_alloc | apply Kd.R_drewN | apply Kd.R_drew)); exact HO_5.out, by repeat (first | (with_reducible first | exact HB.out | apply below_alloc | apply pw_below_drewN | apply below_drew1) | exact HB.out)⟩
end Go.Proofs.Ytpalloofjljhkaa.P
/-! Px62 -/
namespace Go.Proofs.Ytpalloofjljhkaa.P
open Go.RowKit Go.Proofs.YtpalloofjljhkaaW.PrintWords Go.Proofs.YtpalloofjljhkaaW.PrintLast Go.Proofs.YtpalloofjljhkaaW.PrintMore
attribute [local go_sem] max2_int min2_int max_two min_two max_three min_three max_four min_four   -- for this text's walks alone
set_option linter.unusedVariables false
set_option linter.unusedSimpArgs false
mutual
def antiphonref1_Get.j0 : Nat → List Int → Bool → Option (Int)
  | 0, _, _ => none
  | k + 1, x0, x12 => if x12 = true then (some 0) else (antiphonref1_Get.l0 k x0 0 0)
def antiphonref1_Get.l0 : Nat → List Int → Int → Int → Option (Int)
  | 0, _, _, _ => none
  | k + 1, x0, x3, x4 => if x4 < (x0.length : Int) then (if 0 ≤ x4 then (antiphonref1_Get.l0 k x0 (Go.bits .or .i64 (wrap64 (x3 * 256)) (wrap64 (rd x0 x4))) (wrap64 (x4 + 1))) else (none)) else (some x3)
end
def antiphonref1_Get.f (k : Nat) (l0 : List Int) : Option (Int) := if (l0.length : Int) = 0 then (antiphonref1_Get.j0 k l0 true) else (antiphonref1_Get.j0 k l0 (decide ((l0.length : Int) > 7)))
set_option maxHeartbeats 8000000 in
set_option maxRecDepth 100000 in
theorem antiphonref1_Get.calls (k : Nat) (A0 : Option Addr) (c0 : Nat) (l0 : List Int) (r : Int) (w : World) (hr0 : Kd.C (Kd.int .u8) w A0 l0.length l0) (hc0 : l0.length ≤ c0) (h : antiphonref1_Get.f k l0 = some r) :
    Calls Try.prog 61 #[.slice A0 l0.length c0] w fun e w' => e = .returned (.int .i64 r) ∧ Drawn0 w w' := by
  have HR0 := Aside0.mk hr0
  have HC0 := Aside0.mk hc0
  clear hr0 hc0
  have H : (if (l0.length : Int) = 0 then (antiphonref1_Get.j0 k l0 true) else (antiphonref1_Get.j0 k l0 (decide ((l0.length : Int) > 7)))) = some r := h
  clear h
  have HC2 := Aside0.mk H
  clear H
  go_enter Try.func61, Try.ntmps61
  go_upto_region 1 with (fail)
  go_cut [12] (fun v12 wc => ∃ (kq : Nat) (x12_1 : Bool), v12 = .bool x12_1 ∧ Aside0 (antiphonref1_Get.j0 kq l0 x12_1 = some r) ∧ Aside0 (kq ≤ k) ∧ Drawn0 w wc)
  case first =>
    have H := HC2.out
    clear HC2
    by_cases c3 : (l0.length : Int) = 0
    · rw [if_pos c3] at H
      have c3b0 : ((l0.length : Int) == 0) = true := beq_iff_eq.mpr c3
      have c3b1 : ((l0.length : Int) != 0) = false := bne_eq_false_iff_eq.mpr c3
      clear c3
      (first | rw [c3b0] | (simp only [i64_w, i32_w]; rw [c3b0]) | skip)
      have H' := Aside0.mk H
      clear H
      go_wp2
      go_meet
      case rel => exact ⟨_, (true), (by first | rfl | (simp; done) | (simp [*]; done)), H', ⟨by first | omega | exact Nat.le_refl _⟩, by repeat (first | exact Drawn0.refl _ | apply Drawn0.step)⟩
    · rw [if_neg c3] at H
      have c3b0 : ((l0.length : Int) == 0) = false := beq_eq_false_iff_ne.mpr c3
      have c3b1 : ((l0.length : Int) != 0) = true := bne_iff_ne.mpr c3
      have c3b2 : ¬ (l0 = []) := fun h_ => c3 (by rw [h_]; rfl)
      (first | rw [c3b0] | (simp only [i64_w, i32_w]; rw [c3b0]) | skip)
      have H' := Aside0.mk H
      clear H
      go_wp2
      go_meet
      case rel => exact ⟨_, (decide ((l0.length : Int) > 7)), (by first | rfl | (simp; done) | (simp [*]; done)), H', ⟨by first | omega | exact Nat.le_refl _⟩, by repeat (first | exact Drawn0.refl _ | apply Drawn0.step)⟩
  case rest =>
    clear HC2
    try clear p2
    try clear c3
    try clear c3b0
    try clear c3b1
    try clear c3b2
    obtain ⟨kq, x12_1, rfl, HA, HJ1, ⟨mc1, rfl⟩⟩ := hcut
    cases kq with
    | zero => exact absurd HA.out (by simp [antiphonref1_Get.j0])
    | succ kj1 =>
      have H := HA.out
      clear HA
      simp only [antiphonref1_Get.j0] at H
      by_cases c4 : x12_1 = true
      · subst c4
        have H1 : (some 0) = some r := by rw [if_pos rfl] at H; exact H
        clear H
        have H := H1
        clear H1
        obtain rfl := Option.some.inj H
        go_wp2
        go_ret
        exact ⟨by first | rfl | (simp; done) | (simp [*]; done), by repeat (first | exact Drawn0.refl _ | apply Drawn0.step)⟩
      · replace c4 := Bool.eq_false_iff.mpr c4
        subst c4
        have H1 : (antiphonref1_Get.l0 kj1 l0 0 0) = some r := by rw [if_neg (show ¬ (false = true) by decide)] at H; exact H
        clear H
        have H := H1
        clear H1
        have H' := Aside0.mk H
        clear H
        go_wp2
        go_loopg [3, 4] kj1 (fun kq v3 v4 w' => ∃ (x3_2 : Int) (x4_2 : Int), v3 = .int .i64 x3_2 ∧ v4 = .int .i64 x4_2 ∧ Aside0 (antiphonref1_Get.l0 kq l0 x3_2 x4_2 = some r) ∧ Aside0 (kq ≤ kj1) ∧ Drawn0 w w')
        case atStart => exact ⟨(0), (0), (by first | rfl | (simp; done) | (simp [*]; done)), (by first | rfl | (simp; done) | (simp [*]; done)), H', ⟨Nat.le_refl _⟩, by repeat (first | exact Drawn0.refl _ | apply Drawn0.step)⟩
        case round =>
          clear H'
          try clear c1
          try clear p2
          try clear c3
          try clear c3b0
          try clear c3b1
          try clear c3b2
          try clear c4
          try clear p2
          obtain ⟨x3_2, x4_2, rfl, rfl, HA, HK2, ⟨m2, rfl⟩⟩ := hrel
          cases gk with
          | zero => exact absurd HA.out (by simp [antiphonref1_Get.l0])
          | succ k2 =>
            have H := HA.out
            clear HA
            simp only [antiphonref1_Get.l0] at H
            by_cases c5 : x4_2 < (l0.length : Int)
            · rw [if_pos c5] at H
              have c5b0 : decide (x4_2 < (l0.length : Int)) = true := decide_eq_true c5
              clear c5
              by_cases c6 : 0 ≤ x4_2
              · rw [if_pos c6] at H
                have c6b0 : decide (0 ≤ x4_2) = true := decide_eq_true c6
                clear c6
                have H' := Aside0.mk H
                clear H
                have p101 : 0 ≤ (x4_2 : Int) := of_decide_eq_true (by first | (with_reducible assumption) | assumption)
                have q101 : x4_2 < (l0.length : Int) := of_decide_eq_true (by first | (with_reducible assumption) | assumption)
                obtain ⟨ad101, e101, hx101_0⟩ := Kd.at_int HR0.out x4_2 p101 q101
                cases e101
                replace p101 := eq_true p101
                replace q101 := eq_true q101
                go_wp2
                go_roundg k2
                case measure => have := HJ1.out; have := HK2.out; omega
                case rel => exact ⟨(Go.bits .or .i64 (wrap64 (x3_2 * 256)) (wrap64 (rd l0 x4_2))), (wrap64 (x4_2 + 1)), (by first | rfl | (simp; done) | (simp [*]; done)), (by first | rfl | (simp; done) | (simp [*]; done)), H', ⟨by have := HJ1.out; have := HK2.out; omega⟩, by repeat (first | exact Drawn0.refl _ | apply Drawn0.step)⟩
              · rw [if_neg c6] at H
                exact absurd H (by simp)
            · rw [if_neg c5] at H
              have c5b0 : decide (x4_2 < (l0.length : Int)) = false := decide_eq_false c5
              clear c5
              obtain rfl := Option.some.inj H
              go_wp2
              go_ret
              exact ⟨by first | rfl | (simp; done) | (simp [*]; done), by repeat (first | exact Drawn0.refl _ | apply Drawn0.step)⟩
end Go.Proofs.Ytpalloofjljhkaa.P
/-! Px65 -/
namespace Go.Proofs.Ytpalloofjljhkaa.P
open Go.RowKit Go.Proofs.YtpalloofjljhkaaW.PrintWords Go.Proofs.YtpalloofjljhkaaW.PrintLast Go.Proofs.YtpalloofjljhkaaW.PrintMore
attribute [local go_sem] max2_int min2_int max_two min_two max_three min_three max_four min_four   -- for this text's walks alone
set_option linter.unusedVariables false
set_option linter.unusedSimpArgs false
def octet_Get.l0 : Nat → Int → List Int → Int → Int → Option (Int)
  | 0, _, _, _, _ => none
  | k + 1, x3, x10, x11, x12 => if x12 < x11 then (if 0 ≤ x12 then (if x12 < (x10.length : Int) then (octet_Get.l0 k (Go.bits .or .i64 (wrap64 (x3 * 256)) (wrap64 (rd x10 x12))) x10 x11 (wrap64 (x12 + 1))) else (none)) else (none)) else (some x3)
def octet_Get.f (k : Nat) (l0 : List Int) : Option (Int) := (octet_may.f (l0.length : Int)).bind fun t101 => (if t101 = true then (octet_Get.l0 k 0 l0 (l0.length : Int) 0) else (some 0))
set_option maxHeartbeats 8000000 in
set_option maxRecDepth 100000 in
theorem octet_Get.calls (k : Nat) (A0 : Option Addr) (c0 : Nat) (l0 : List Int) (r : Int) (w : World) (hr0 : Kd.C (Kd.int .u8) w A0 l0.length l0) (hc0 : l0.length ≤ c0) (h : octet_Get.f k l0 = some r) :
    Calls Try.prog 64 #[.slice A0 l0.length c0] w fun e w' => e = .returned (.int .i64 r) ∧ Drawn0 w w' := by
  have HR0 := Aside0.mk hr0
  have HC0 := Aside0.mk hc0
  clear hr0 hc0
  have H : ((octet_may.f (l0.length : Int)).bind fun t101 => (if t101 = true then (octet_Get.l0 k 0 l0 (l0.length : Int) 0) else (some 0))) = some r := h
  clear h
  replace H := Option.bind_eq_some_iff.mp H
  obtain ⟨t101, A20, H⟩ := H
  replace H : (if t101 = true then (octet_Get.l0 k 0 l0 (l0.length : Int) 0) else (some 0)) = some r := H
  have A2 := Aside0.mk A20
  clear A20
  by_cases c3 : t101 = true
  · subst c3
    have H1 : (octet_Get.l0 k 0 l0 (l0.length : Int) 0) = some r := by rw [if_pos rfl] at H; exact H
    clear H
    have H := H1
    clear H1
    have H' := Aside0.mk H
    clear H
    go_enter Try.func64, Try.ntmps64
    go_wp2_with (first | ((with_reducible refine gate_callee (f := 63) rfl ?_); refine goesL_ (some 8) rfl rfl Try.func63 (by kernel_rfl) rfl #[.int .i64 (l0.length : Int)] rfl (by (try simp only [List.map_toArray, List.map_cons, List.map_nil]); first | done | rfl | (simp only [List.length_drop, List.length_take]; rfl)) ?_; (with_reducible refine (octet_may.calls (l0.length : Int) true _ A2.out).mono ?_); rintro e w' ⟨rfl, ⟨nd, rfl⟩⟩; refine ⟨_, rfl, ?_⟩))
    go_loopg [3, 12] k (fun kq v3 v12 w' => ∃ (x3_1 : Int) (x12_1 : Int), v3 = .int .i64 x3_1 ∧ v12 = .int .i64 x12_1 ∧ Aside0 (octet_Get.l0 kq x3_1 l0 (l0.length : Int) x12_1 = some r) ∧ Aside0 (kq ≤ k) ∧ Drawn0 w w')
    case atStart => exact ⟨(0), (0), (by first | rfl | (simp; done) | (simp [*]; done)), (by first | rfl | (simp; done) | (simp [*]; done)), H', ⟨Nat.le_refl _⟩, by repeat (first | exact Drawn0.refl _ | apply Drawn0.step)⟩
    case round =>
      clear H'
      try clear p2
      try clear c3
      obtain ⟨x3_1, x12_1, rfl, rfl, HA, HK1, ⟨m1, rfl⟩⟩ := hrel
      cases gk with
      | zero => exact absurd HA.out (by simp [octet_Get.l0])
      | succ k1 =>
        have H := HA.out
        clear HA
        simp only [octet_Get.l0] at H
        by_cases c4 : x12_1 < (l0.length : Int)
        · rw [if_pos c4] at H
          have c4b0 : decide (x12_1 < (l0.length : Int)) = true := decide_eq_true c4
          clear c4
          by_cases c5 : 0 ≤ x12_1
          · rw [if_pos c5] at H
            have c5b0 : decide (0 ≤ x12_1) = true := decide_eq_true c5
            clear c5
            by_cases c6 : x12_1 < (l0.length : Int)
            · rw [if_pos c6] at H
              have c6b0 : decide (x12_1 < (l0.length : Int)) = true := decide_eq_true c6
              clear c6
              have H' := Aside0.mk H
              clear H
              have p102 : 0 ≤ (x12_1 : Int) := of_decide_eq_true (by first | (with_reducible assumption) | assumption)
              have q102 : x12_1 < (l0.length : Int) := of_decide_eq_true (by first | (with_reducible assumption) | assumption)
              obtain ⟨ad102, e102, hx102_0⟩ := Kd.at_int HR0.out x12_1 p102 q102
              cases e102
              replace p102 := eq_true p102
              replace q102 := eq_true q102
              go_wp2
              go_roundg k1
              case measure => have := HK1.out; omega
              case rel => exact ⟨(Go.bits .or .i64 (wrap64 (x3_1 * 256)) (wrap64 (rd l0 x12_1))), (wrap64 (x12_1 + 1)), (by first | rfl | (simp; done) | (simp [*]; done)), (by first | rfl | (simp; done) | (simp [*]; done)), H', ⟨by have := HK1.out; omega⟩, by repeat (first | exact Drawn0.refl _ | apply Drawn0.step)⟩
            · rw [if_neg c6] at H
              exact absurd H (by simp)
          · rw [if_neg c5] at H
            exact absurd H (by simp)
        · rw [if_neg c4] at H
          have c4b0 : decide (x12_1 < (l0.length : Int)) = false := decide_eq_false c4
          clear c4
          obtain rfl := Option.some.inj H
          go_wp2
          go_ret
          exact ⟨by first | rfl | (simp; done) | (simp [*]; done), by repeat (first | exact Drawn0.refl _ | apply Drawn0.step)⟩
  · replace c3 := Bool.eq_false_iff.mpr c3
    subst c3
    have H1 : (some 0) = some r := by rw [if_neg (show ¬ (false = true) by decide)] at H; exact H
    clear H
    have H := H1
    clear H1
    obtain rfl := Option.some.inj H
    go_enter Try.func64, Try.ntmps64
    go_wp2_with (first | ((with_reducible refine gate_callee (f := 63) rfl ?_); refine goesL_ (some 8) rfl rfl Try.func63 (by kernel_rfl) rfl #[.int .i64 (l0.length : Int)] rfl (by (try simp only [List.map_toArray, List.map_cons, List.map_nil]); first | done | rfl | (simp only [List.length_drop, List.length_take]; rfl)) ?_; (with_reducible refine (octet_may.calls (l0.length : Int) false _ A2.out).mono ?_); rintro e w' ⟨rfl, ⟨nd, rfl⟩⟩; refine ⟨_, rfl, ?_⟩))
    go_ret
    exact ⟨by first | rfl | (simp; done) | (simp [*]; done), by repeat (first | exact Drawn0.refl _ | apply Drawn0.step)⟩
end Go.Proofs.Ytpalloofjljhkaa.P
/-! OLib -/
namespace Go.Proofs.Ytpalloofjljhkaa.Lib
set_option linter.unusedSimpArgs false
set_option linter.unusedVariables false
open Go.RowKit Go.Proofs.Ytpalloofjljhkaa.P Go.Proofs.YtpalloofjljhkaaW.PrintWords Go.Proofs.YtpalloofjljhkaaW.PrintLast Go.Proofs.YtpalloofjljhkaaW.PrintMore
theorem w64 (a : Int) (h : -9223372036854775808 ≤ a) (h' : a ≤ 9223372036854775807) : wrap64 a = a := by unfold wrap64; omega
theorem wraps_i64 (n : Int) (h₀ : 0 ≤ n) (h₁ : n < 2 ^ 62) : IntKind.i64.wrap n = n := by rw [i64_w]; exact w64 n (by omega) (by omega)
theorem or_join (i : Nat) (x y : Int) (hx₀ : 0 ≤ x) (hx : x % 2 ^ i = 0) (hx₁ : x < 2 ^ 62) (hy₀ : 0 ≤ y) (hy : y < 2 ^ i) (hy₁ : y < 2 ^ 62) : Go.bits .or .i64 x y = x + y :=
  bits_join .i64 62 (by decide) wraps_i64 i x y hx₀ hx hx₁ hy₀ hy hy₁
theorem or256 (a x : Int) (ha : 0 ≤ a) (ha' : a * 256 < 2 ^ 62) (hx : 0 ≤ x) (hx' : x < 256) : Go.bits .or .i64 (a * 256) x = a * 256 + x :=
  or_join 8 (a * 256) x (by omega) (by omega) ha' hx hx' (by omega)
theorem rd_at {l : List Int} {i : Nat} (h : i < l.length) : rd l (i : Int) = l[i] := by
  unfold rd; rw [Int.toNat_natCast, List.getD_eq_getElem?_getD, List.getElem?_eq_getElem h]; rfl
theorem drop_at {l : List Int} {i : Nat} (h : i < l.length) : l.drop i = rd l (i : Int) :: l.drop (i + 1) := by
  rw [rd_at h]; exact List.drop_eq_getElem_cons h
theorem same_l0 (a b : List Int) (h : a.length = b.length) (hl : a.length < 9223372036854775807) (k : Nat) : ∀ (m i : Nat), i + m = a.length → antiphonref1_Same.l0 (m + 1 + k) a b (i : Int) = some (decide (a.drop i = b.drop i))
  | 0, i, hi => by
    rw [show 0 + 1 + k = k + 1 by omega, antiphonref1_Same.l0, if_neg (by omega), List.drop_eq_nil_of_le (by omega), List.drop_eq_nil_of_le (by omega)]
    rfl
  | m + 1, i, hi => by
    rw [show m + 1 + 1 + k = (m + 1 + k) + 1 by omega, antiphonref1_Same.l0, if_pos (by omega), if_pos (by omega), if_pos (by omega), w64 _ (by omega) (by omega)]
    rw [drop_at (show i < a.length by omega), drop_at (show i < b.length by omega)]
    by_cases hc : rd a i = rd b i
    · rw [if_pos hc, show ((i : Int) + 1) = ((i + 1 : Nat) : Int) by omega, same_l0 a b h hl k m (i + 1) (by omega)]
      simp [hc]
    · rw [if_neg hc]
      simp [hc]
theorem same_ref (a b : List Int) (hl : a.length < 9223372036854775807) (k : Nat) : antiphonref1_Same.f (a.length + 1 + k) a b = some (decide (a = b)) := by
  unfold antiphonref1_Same.f
  by_cases h : a.length = b.length
  · rw [if_pos (by omega)]
    have := same_l0 a b h hl k a.length 0 (by omega)
    simpa using this
  · rw [if_neg (by omega), decide_eq_false (fun e => h (by rw [e]))]
theorem copy_l0 (a : List Int) (hl : a.length ≤ 140737488355328) (k : Nat) : ∀ (m i : Nat) (acc : List Int), i + m = a.length → acc.length = i → antiphonref1_Copy.l0 (m + 1 + k) a acc (i : Int) = some (acc ++ a.drop i)
  | 0, i, acc, hi, ha => by
    rw [show 0 + 1 + k = k + 1 by omega, antiphonref1_Copy.l0, if_neg (by omega), List.drop_eq_nil_of_le (by omega), List.append_nil]
  | m + 1, i, acc, hi, ha => by
    rw [show m + 1 + 1 + k = (m + 1 + k) + 1 by omega, antiphonref1_Copy.l0, if_pos (by omega), if_pos (by omega), if_pos (by omega), w64 _ (by omega) (by omega)]
    rw [drop_at (show i < a.length by omega), show ((i : Int) + 1) = ((i + 1 : Nat) : Int) by omega, copy_l0 a hl k m (i + 1) _ (by omega) (by simp [ha])]
    simp
theorem copy_ref (a : List Int) (hl : a.length ≤ 140737488355328) (k : Nat) : antiphonref1_Copy.f (a.length + 1 + k) a = some a := by
  have := copy_l0 a hl k a.length 0 [] (by omega) rfl
  simpa [antiphonref1_Copy.f] using this
def beN : Nat → Int → List Int
  | 0, _ => []
  | w + 1, n => n / 2 ^ (8 * w) % 256 :: beN w n
theorem beN_length : ∀ (w : Nat) (n : Int), (beN w n).length = w
  | 0, _ => rfl
  | w + 1, n => by rw [beN, List.length_cons, beN_length w n]
theorem beN_bytes : ∀ (w : Nat) (n : Int), ∀ x ∈ beN w n, 0 ≤ x ∧ x < 256
  | 0, _, x, h => by cases h
  | w + 1, n, x, h => by
    rcases List.mem_cons.1 h with rfl | h
    · omega
    · exact beN_bytes w n x h
theorem shr_i64 (n : Int) (j : Nat) (h : j ≤ 64) : shr .i64 n (j : Int) = n / 2 ^ j := by
  unfold shr; rw [Int.toNat_natCast, Nat.min_eq_left (by simpa [IntKind.bits] using h)]
theorem put_l0 (n : Int) (k : Nat) : ∀ (m : Nat) (acc : List Int), m ≤ 7 → acc.length + m ≤ 100 → octet_Put.l0 (m + 1 + k) n acc ((m : Int) - 1) = some (acc ++ beN m n)
  | 0, acc, _, _ => by rw [show 0 + 1 + k = k + 1 by omega, octet_Put.l0, if_neg (by omega), beN, List.append_nil]
  | m + 1, acc, hm, ha => by
    have e : ((m + 1 : Nat) : Int) - 1 = (m : Int) := by omega
    rw [e, show m + 1 + 1 + k = (m + 1 + k) + 1 by omega, octet_Put.l0, if_pos (by omega), w64 (8 * (m : Int)) (by omega) (by omega), if_pos (by omega), if_pos (by omega), w64 _ (by omega) (by omega)]
    rw [show (8 * (m : Int)) = ((8 * m : Nat) : Int) by omega, shr_i64 _ _ (by omega), put_l0 n k m _ (by omega) (by rw [List.length_append, List.length_singleton]; omega), beN]
    simp
def putL (n width : Int) : List Int := if 1 ≤ width ∧ width ≤ 7 ∧ 0 ≤ n ∧ n < 2 ^ (8 * width.toNat) then beN width.toNat n else []
theorem div_ne (n : Int) (p : Nat) (h0 : 0 ≤ n) : (n / 2 ^ p != 0) = decide (¬ n < 2 ^ p) := by
  have hp : (0 : Int) < 2 ^ p := Int.pow_pos (by omega)
  by_cases h : n < 2 ^ p
  · rw [Int.ediv_eq_zero_of_lt h0 h]; simp [h]
  · have h1 : 1 ≤ n / 2 ^ p := by
      rw [Int.le_ediv_iff_mul_le hp]; omega
    rw [bne_iff_ne.mpr (by omega)]; simp [h]
theorem put_seat (n width : Int) (k : Nat) : octet_Put.f (k + 10) n width = some (putL n width) := by
  have hj : octet_Put.j0 (k + 10) n width true = some [] := rfl
  unfold octet_Put.f octet_may.f putL
  by_cases hw : 1 ≤ width ∧ width ≤ 7
  · rw [if_pos (show width ≥ 1 from hw.1), decide_eq_true hw.2, Option.bind_some, if_pos rfl]
    by_cases h0 : 0 ≤ n
    · rw [if_neg (by omega), w64 (8 * width) (by omega) (by omega), if_pos (by omega)]
      obtain ⟨m, hm⟩ : ∃ m : Nat, width = (m : Int) := ⟨width.toNat, by omega⟩
      subst hm
      rw [show (8 * (m : Int)) = ((8 * m : Nat) : Int) by omega, shr_i64 _ _ (by omega), Int.toNat_natCast, div_ne _ _ h0]
      by_cases hn : n < 2 ^ (8 * m)
      · rw [if_pos ⟨hw.1, hw.2, h0, hn⟩, decide_eq_false (by simpa using hn), octet_Put.j0, if_neg (by decide), w64 _ (by omega) (by omega)]
        have := put_l0 n (k + 9 - (m + 1)) m [] (by omega) (by simp; omega)
        rw [show m + 1 + (k + 9 - (m + 1)) = k + 9 by omega] at this
        simpa using this
      · rw [if_neg (fun h => hn h.2.2.2), decide_eq_true hn, hj]
    · rw [if_pos (by omega), if_neg (fun h => h0 h.2.2.1), hj]
  · by_cases h1 : width ≥ 1
    · rw [if_pos h1, decide_eq_false (fun h => hw ⟨h1, h⟩), Option.bind_some, if_neg (by decide), if_neg (fun h => hw ⟨h.1, h.2.1⟩), hj]
    · rw [if_neg h1, Option.bind_some, if_neg (by decide), if_neg (fun h => hw ⟨h.1, h.2.1⟩), hj]
theorem u64_small (n : Int) (h : 0 ≤ n) (h' : n < 1000) : IntKind.u64.wrap n = n := by
  have : ∀ j : Fin 1000, IntKind.u64.wrap (j.val : Int) = (j.val : Int) := by decide +kernel
  have := this ⟨n.toNat, by omega⟩
  rwa [show ((n.toNat : Nat) : Int) = n by omega] at this
theorem rput_l0 (n : Int) (k : Nat) : ∀ (m : Nat) (acc : List Int), m ≤ 7 → acc.length + m ≤ 100 → antiphonref1_Put.l0 (m + 1 + k) n acc ((m : Int) - 1) = some (acc ++ beN m n)
  | 0, acc, _, _ => by rw [show 0 + 1 + k = k + 1 by omega, antiphonref1_Put.l0, if_neg (by omega), beN, List.append_nil]
  | m + 1, acc, hm, ha => by
    have e : ((m + 1 : Nat) : Int) - 1 = (m : Int) := by omega
    rw [e, show m + 1 + 1 + k = (m + 1 + k) + 1 by omega, antiphonref1_Put.l0, if_pos (by omega), w64 (8 * (m : Int)) (by omega) (by omega), u64_small _ (by omega) (by omega), if_pos (by omega), if_pos (by omega), w64 _ (by omega) (by omega)]
    rw [show (8 * (m : Int)) = ((8 * m : Nat) : Int) by omega, shr_i64 _ _ (by omega), rput_l0 n k m _ (by omega) (by rw [List.length_append, List.length_singleton]; omega), beN]
    simp
theorem shl_one (m : Nat) (h : m ≤ 7) : shl .i64 1 ((8 * m : Nat) : Int) = 2 ^ (8 * m) := by
  have : ∀ j : Fin 8, shl .i64 1 ((8 * j.val : Nat) : Int) = 2 ^ (8 * j.val) := by decide +kernel
  exact this ⟨m, by omega⟩
theorem put_ref (n width : Int) (k : Nat) : antiphonref1_Put.f (k + 10) n width = some (putL n width) := by
  have hj : antiphonref1_Put.j0 (k + 10) n width true = some [] := rfl
  unfold antiphonref1_Put.f putL
  by_cases h1 : width < 1
  · rw [if_pos h1, if_neg (fun h => by omega), hj]
  by_cases h7 : width > 7
  · rw [if_neg h1, if_pos h7, if_neg (fun h => by omega), hj]
  by_cases h0 : n < 0
  · rw [if_neg h1, if_neg h7, if_pos h0, if_neg (fun h => by omega), hj]
  rw [if_neg h1, if_neg h7, if_neg h0, w64 (8 * width) (by omega) (by omega), u64_small _ (by omega) (by omega), if_pos (by omega)]
  obtain ⟨m, hm⟩ : ∃ m : Nat, width = (m : Int) := ⟨width.toNat, by omega⟩
  subst hm
  rw [show (8 * (m : Int)) = ((8 * m : Nat) : Int) by omega, shl_one m (by omega), Int.toNat_natCast]
  by_cases hn : n < 2 ^ (8 * m)
  · rw [if_pos ⟨by omega, by omega, by omega, hn⟩, decide_eq_false (by simpa using hn), antiphonref1_Put.j0, if_neg (by decide), w64 _ (by omega) (by omega)]
    have := rput_l0 n (k + 9 - (m + 1)) m [] (by omega) (by simp; omega)
    rw [show m + 1 + (k + 9 - (m + 1)) = k + 9 by omega] at this
    simpa using this
  · rw [if_neg (fun h => hn h.2.2.2), decide_eq_true (by simpa using hn), hj]
def numL (l : List Int) : Int := l.foldl (fun a x => a * 256 + x) 0
def getL (l : List Int) : Int := if 1 ≤ l.length ∧ l.length ≤ 7 then numL l else 0
def Bytes (l : List Int) : Prop := ∀ x ∈ l, 0 ≤ x ∧ x < 256
theorem bytes_rd {l : List Int} (h : Bytes l) {i : Nat} (hi : i < l.length) : 0 ≤ rd l (i : Int) ∧ rd l (i : Int) < 256 := by
  rw [rd_at hi]; exact h _ (List.getElem_mem hi)
theorem get_step (acc x : Int) (i : Nat) (hi : i ≤ 6) (h0 : 0 ≤ acc) (h1 : acc < 256 ^ i) (hx : 0 ≤ x ∧ x < 256) :
    Go.bits .or .i64 (wrap64 (acc * 256)) (wrap64 x) = acc * 256 + x ∧ 0 ≤ acc * 256 + x ∧ acc * 256 + x < 256 ^ (i + 1) := by
  have hp : (256 : Int) ^ i ≤ 256 ^ 6 := by
    have : i = 0 ∨ i = 1 ∨ i = 2 ∨ i = 3 ∨ i = 4 ∨ i = 5 ∨ i = 6 := by omega
    rcases this with h | h | h | h | h | h | h <;> subst h <;> decide
  have hq : acc < 281474976710656 := by omega
  rw [w64 _ (by omega) (by omega), w64 _ (by omega) (by omega)]
  refine ⟨or256 acc x h0 (by omega) hx.1 hx.2, by omega, ?_⟩
  rw [Int.pow_succ]; omega
theorem get_l0 (l : List Int) (hb : Bytes l) (hl : l.length ≤ 7) (k : Nat) : ∀ (m i : Nat) (acc : Int), i + m = l.length → 0 ≤ acc → acc < 256 ^ i →
    octet_Get.l0 (m + 1 + k) acc l (l.length : Int) (i : Int) = some ((l.drop i).foldl (fun a x => a * 256 + x) acc)
  | 0, i, acc, hi, _, _ => by rw [show 0 + 1 + k = k + 1 by omega, octet_Get.l0, if_neg (by omega), List.drop_eq_nil_of_le (by omega)]; rfl
  | m + 1, i, acc, hi, h0, h1 => by
    obtain ⟨e, s0, s1⟩ := get_step acc (rd l (i : Int)) i (by omega) h0 h1 (bytes_rd hb (by omega))
    rw [show m + 1 + 1 + k = (m + 1 + k) + 1 by omega, octet_Get.l0, if_pos (by omega), if_pos (by omega), if_pos (by omega), e, w64 _ (by omega) (by omega), show ((i : Int) + 1) = ((i + 1 : Nat) : Int) by omega,
      get_l0 l hb hl k m (i + 1) _ (by omega) s0 s1, drop_at (show i < l.length by omega)]
    rfl
theorem get_seat (l : List Int) (hb : Bytes l) (k : Nat) : octet_Get.f (k + 10) l = some (getL l) := by
  unfold octet_Get.f octet_may.f getL
  by_cases h1 : 1 ≤ l.length
  · rw [if_pos (by omega)]
    by_cases h7 : l.length ≤ 7
    · rw [decide_eq_true (by omega), Option.bind_some, if_pos rfl, if_pos ⟨h1, h7⟩]
      have := get_l0 l hb h7 (k + 10 - (l.length + 1)) l.length 0 0 (by omega) (by omega) (by decide)
      rw [show l.length + 1 + (k + 10 - (l.length + 1)) = k + 10 by omega] at this
      simpa [numL] using this
    · rw [decide_eq_false (by omega), Option.bind_some, if_neg (by decide), if_neg (fun h => h7 h.2)]
  · rw [if_neg (by omega), Option.bind_some, if_neg (by decide), if_neg (fun h => h1 h.1)]
theorem rget_l0 (l : List Int) (hb : Bytes l) (hl : l.length ≤ 7) (k : Nat) : ∀ (m i : Nat) (acc : Int), i + m = l.length → 0 ≤ acc → acc < 256 ^ i →
    antiphonref1_Get.l0 (m + 1 + k) l acc (i : Int) = some ((l.drop i).foldl (fun a x => a * 256 + x) acc)
  | 0, i, acc, hi, _, _ => by rw [show 0 + 1 + k = k + 1 by omega, antiphonref1_Get.l0, if_neg (by omega), List.drop_eq_nil_of_le (by omega)]; rfl
  | m + 1, i, acc, hi, h0, h1 => by
    obtain ⟨e, s0, s1⟩ := get_step acc (rd l (i : Int)) i (by omega) h0 h1 (bytes_rd hb (by omega))
    rw [show m + 1 + 1 + k = (m + 1 + k) + 1 by omega, antiphonref1_Get.l0, if_pos (by omega), if_pos (by omega), e, w64 _ (by omega) (by omega), show ((i : Int) + 1) = ((i + 1 : Nat) : Int) by omega,
      rget_l0 l hb hl k m (i + 1) _ (by omega) s0 s1, drop_at (show i < l.length by omega)]
    rfl
theorem get_ref (l : List Int) (hb : Bytes l) (k : Nat) : antiphonref1_Get.f (k + 11) l = some (getL l) := by
  have hj : antiphonref1_Get.j0 (k + 11) l true = some 0 := rfl
  unfold antiphonref1_Get.f getL
  by_cases h1 : l.length = 0
  · rw [if_pos (by omega), hj, if_neg (fun h => by omega)]
  rw [if_neg (by omega)]
  by_cases h7 : l.length ≤ 7
  · rw [decide_eq_false (by omega), antiphonref1_Get.j0, if_neg (by decide), if_pos ⟨by omega, h7⟩]
    have := rget_l0 l hb h7 (k + 10 - (l.length + 1)) l.length 0 0 (by omega) (by omega) (by decide)
    rw [show l.length + 1 + (k + 10 - (l.length + 1)) = k + 10 by omega] at this
    simpa [numL] using this
  · rw [decide_eq_true (by omega), if_neg (fun h => h7 h.2), hj]
theorem u8_wf {x : Int} (h : (Lit.int .u8 x).wf = true) : 0 ≤ x ∧ x < 256 := by
  simp [Lit.wf, IntKind.min, IntKind.max, IntKind.signed, IntKind.bits] at h; omega
end Go.Proofs.Ytpalloofjljhkaa.Lib
/-! Seal -/
namespace Go.Proofs.Ytpalloofjljhkaa.P
open Go.RowKit Go.Proofs.Ytpalloofjljhkaa.Lib Go.Proofs.YtpalloofjljhkaaW.PrintWords Go.Proofs.YtpalloofjljhkaaW.PrintLast Go.Proofs.YtpalloofjljhkaaW.PrintMore
set_option linter.unusedVariables false
set_option linter.unusedSimpArgs false
theorem yields_tab {ops : Array Oper} {S : World → Prop} {op : Oper} {a : Act} (hw : Region.wanted op (yielded ops a.tmps) = true) (x : Operand) (ho : op.op = .load 27 x)
    (g : Nat) (hx : a.eval x = .pointer (some ⟨g, 0, none⟩)) (t : Bool) (hS : ∀ w, S w → IsTab t w g) : YieldsIf Try.prog ops S op (tabV t) a :=
  .inl ⟨hw, fun w hw' => by
    unfold execOp
    simp only [ho, hx, Instr.loadAt, Instr.sureAddr, Sem.run_bind, Sem.run_pure, Result.andThen_ok, run_loadVar_row w g 27 27 (tabRow t) (0, 0) _ (hS w hw') Try.underlying27 rfl (tabInf t)]⟩
theorem IsTab.grown {t : Bool} {W W1 : World} {g : Nat} {row : Option Nat} (h : IsTab t W g) (hg : W.grownBy W1 row) (hne : some g ≠ row) : IsTab t W1 g := (hg.block g (blk_lt h) hne).trans h
theorem IsTab.drew1 {t : Bool} {W : World} {g : Nat} (h : IsTab t W g) : IsTab t W.drew g := h
def laidI (s : Nat) : List Int := (M.laid s).map fun (n : Nat) => (n : Int)
theorem laidI_byte (s : Nat) : byteRow (laidI s) := by
  intro c hc
  obtain ⟨n, hn, rfl⟩ := List.mem_map.1 hc
  have := M.laid_byte s n hn
  omega
theorem laidI_len (s : Nat) : (laidI s).length = 4 := rfl
theorem put4 (s : Nat) (h : s < 4294967296) : octet_Put.f 10 (s : Int) 4 = some [((s / 16777216 % 256 : Nat) : Int), ((s / 65536 % 256 : Nat) : Int), ((s / 256 % 256 : Nat) : Int), ((s % 256 : Nat) : Int)] := by
  have h1 := put_seat (s : Int) 4 0
  rw [h1]
  unfold putL
  rw [if_pos ⟨by decide, by decide, by omega, by show (s : Int) < 2 ^ 32; omega⟩]
  show some [(s : Int) / 2 ^ 24 % 256, (s : Int) / 2 ^ 16 % 256, (s : Int) / 2 ^ 8 % 256, (s : Int) / 2 ^ 0 % 256] = _
  simp
theorem laid_f (s : Nat) (h : s < 4294967296) : crc_laid.f 10 (s : Int) = some (laidI s) := by
  unfold crc_laid.f
  rw [show wrap64 (s : Int) = (s : Int) by unfold wrap64; omega, put4 s h, Option.bind_some]
  rfl
def sealI (l : List Int) : List Int := l ++ laidI (M.sum (nats l))
set_option maxHeartbeats 4000000 in
set_option maxRecDepth 100000 in
theorem crc_Seal.calls (A0 : Option Addr) (c0 : Nat) (l0 : List Int) (w : World) (hr0 : Kd.C (Kd.int .u8) w A0 l0.length l0) (hc0 : l0.length ≤ c0) (hb : byteRow l0) (hl : l0.length < 140737488355000) :
    Calls Try.prog 26 #[tabV true, .slice A0 l0.length c0] w fun e w' => ∃ v0_ : Value, e = .returned (v0_) ∧ Kd.R (Kd.int .u8) 5 w' w.heap.size (fun _ => True) v0_ (sealI l0) ∧ Below w.heap.size w w' := by
  have HR := Aside0.mk hr0
  have HC := Aside0.mk hc0
  have HBY := Aside0.mk hb
  have HT := Aside0.mk (IsTab.new true w)
  have HB := Aside0.mk (below_drew1 (below_alloc (Below.refl w.heap.size w) (.cells (tabRow true) 27 (0, 0))))
  have H0 := Aside0.mk (show bytes_Clone.f l0 = some l0 by unfold bytes_Clone.f; rw [if_pos (by omega)])
  have HLD := Aside0.mk (show crc_laid.f 10 ((moreN true 0 (nats l0) : Nat) : Int) = some (laidI (M.sum (nats l0))) by rw [moreN_true]; exact laid_f _ (M.sum_lt (nats_lt hb)))
  have HLL := Aside0.mk hl
  clear hr0 hc0 hb hl
  go_enter Try.func26, Try.ntmps26
  go_wp2_with fail
  refine start_ (n := 8) (S := fun w' => IsTab true w' w.heap.size) (ds := []) #[false, false, false, false, false, false, false, false] (by kernel_rfl) rfl rfl (HT.out.drew1) (fun hHeld => ?_)
  refine pure_ (i := 0) (N := some 5) (v := ?_) (a' := ?_) #[true, false, false, false, false, false, false, false] rfl rfl (by kernel_rfl) (fun _ _ _ h => h) (Or.inl ⟨by rfl, ?_⟩) ?_ ?_
  rotate_left
  · intro w'
    go_simp
    with_reducible rfl
  rotate_left
  · simp only [Act.put, List.setIfInBounds_toArray, List.set_cons_zero, List.set_cons_succ, i64_w, i32_w]
    rfl
  refine pure_ (i := 3) (N := some 8) (v := ?_) (a' := ?_) #[true, false, false, true, false, false, false, false] rfl rfl (by kernel_rfl) (fun _ _ _ h => h) (Or.inl ⟨by rfl, ?_⟩) ?_ ?_
  rotate_left
  · intro w'
    go_simp
    with_reducible rfl
  rotate_left
  · simp only [Act.put, List.setIfInBounds_toArray, List.set_cons_zero, List.set_cons_succ, i64_w, i32_w]
    rfl
  refine take_ (i := 2) (N := some 7) (v := tabV true) #[true, false, true, true, false, false, false, false] rfl rfl (by kernel_rfl) (fun _ _ _ h => h) ?_ hHeld rfl ?_
  · exact yields_tab (by rfl) _ rfl _ rfl true (by intro w' s0; exact s0)
  refine norm_ (a' := ?_) ?_ ?_
  rotate_left
  · show Act.put _ (some 7) _ = _
    simp only [Act.put, List.setIfInBounds_toArray, List.set_cons_zero, List.set_cons_succ, i64_w, i32_w]
    rfl
  refine one_ (i := 1) (N := some 6) #[true, true, true, true, false, false, false, false] rfl rfl (by kernel_rfl) (by decide) (fun K hK => ?_)
  refine goes_ Try.func50 (by kernel_rfl) rfl #[.slice A0 l0.length c0] (by rfl) rfl rfl (by simp only [List.map_toArray, List.map_cons, List.map_nil]; rfl) ?_
  with_reducible refine (bytes_Clone.calls _ _ _ _ _ (Kd.C_below HR.out HB.out) HC.out H0.out).mono ?_
  rintro e w1 ⟨v1, rfl, hR1, hB1⟩
  refine ⟨_, rfl, ?_⟩
  have HT1 := Aside0.mk (HT.out.drew1.below hB1)
  have HB1 := Aside0.mk (below_step HB.out hB1)
  have HO1 := Aside0.mk (Kd.R_lower hR1 HB.out.size)
  clear hR1 hB1
  refine hK.out _ _ (HT1.out) (fun hHeld => ?_)
  clear hK K
  refine norm_ (a' := ?_) ?_ ?_
  rotate_left
  · show Act.put _ (some 6) _ = _
    simp only [Act.put, List.setIfInBounds_toArray, List.set_cons_zero, List.set_cons_succ, i64_w, i32_w]
    rfl
  refine one_ (i := 4) (N := some 9) #[true, true, true, true, true, false, false, false] rfl rfl (by kernel_rfl) (by decide) (fun K hK => ?_)
  refine goes_ Try.func21 (by kernel_rfl) rfl #[tabV true, .slice A0 l0.length c0] (by rfl) rfl rfl (by simp only [List.map_toArray, List.map_cons, List.map_nil]; rfl) ?_
  with_reducible refine (crc_Sum.calls true _ _ _ _ (Kd.C_below HR.out HB1.out) HC.out HBY.out).mono ?_
  rintro e w2 ⟨rfl, hB2⟩
  refine ⟨_, rfl, ?_⟩
  have HT2 := Aside0.mk (HT1.out.below hB2)
  have HB2 := Aside0.mk (below_step HB1.out hB2)
  have HO2 := Aside0.mk (Kd.R_below HO1.out hB2)
  clear hB2
  refine hK.out _ _ (HT2.out) (fun hHeld => ?_)
  clear hK K
  refine norm_ (a' := ?_) ?_ ?_
  rotate_left
  · show Act.put _ (some 9) _ = _
    simp only [Act.put, List.setIfInBounds_toArray, List.set_cons_zero, List.set_cons_succ, i64_w, i32_w]
    rfl
  refine one_ (i := 5) (N := some 10) #[true, true, true, true, true, true, false, false] rfl rfl (by kernel_rfl) (by decide) (fun K hK => ?_)
  refine goes_ Try.func51 (by kernel_rfl) rfl #[.int .u32 ((moreN true 0 (nats l0) : Nat) : Int)] (by rfl) rfl rfl (by simp only [List.map_toArray, List.map_cons, List.map_nil]; rfl) ?_
  with_reducible refine (crc_laid.calls 10 _ _ _ HLD.out).mono ?_
  rintro e w3 ⟨v3, rfl, hR3, hB3⟩
  refine ⟨_, rfl, ?_⟩
  obtain ⟨A3, c3, rfl, hc3, hC3⟩ := Kd.R_reads hR3
  have HT3 := Aside0.mk (HT2.out.below hB3)
  have HB3 := Aside0.mk (below_step HB2.out hB3)
  have HO3 := Aside0.mk (Kd.R_below HO2.out hB3)
  have HC3 := Aside0.mk hC3
  clear hB3 hR3 hC3 hc3
  refine hK.out _ _ (HT3.out) (fun hHeld => ?_)
  clear hK K
  refine norm_ (a' := ?_) ?_ ?_
  rotate_left
  · show Act.put _ (some 10) _ = _
    simp only [Act.put, List.setIfInBounds_toArray, List.set_cons_zero, List.set_cons_succ, i64_w, i32_w]
    rfl
  refine one_ (i := 6) (N := some 11) #[true, true, true, true, true, true, true, false] rfl rfl (by kernel_rfl) (by decide) (fun K hK => ?_)
  refine Kd.R_append_rows_step (Kd.int .u8) (w0 := w) w.heap.size (by rfl) (.tmp 6) (.tmp 10) 22 5 (.int .u8 0) 1 rfl Try.underlying22 info5 rfl (by decide) (by omega) v1 l0 (laidI (M.sum (nats l0))) _ _ _ (fun _ => True) (fun _ => False) rfl rfl HO3.out HC3.out (fun _ _ h => h) (fun _ h => h.elim) (fun _ _ => trivial) HB3.out HB3.out.size (by have := HLL.out; rw [laidI_len]; omega) ?_
  intro v4 w4 ho hb hg hat
  have HT4 := Aside0.mk (IsTab.grown HT3.out hg (Kd.R_ne HO3.out HT3.out (by decide)))
  have HO4 := Aside0.mk ho
  have HB4 := Aside0.mk hb
  clear ho hb hg hat
  refine hK.out _ _ (HT4.out) (fun hHeld => ?_)
  clear hK K
  refine norm_ (a' := ?_) ?_ ?_
  rotate_left
  · show Act.put _ (some 11) _ = _
    simp only [Act.put, List.setIfInBounds_toArray, List.set_cons_zero, List.set_cons_succ, i64_w, i32_w]
    rfl
  refine pure_ (i := 7) (N := some 4) (v := ?_) (a' := ?_) #[true, true, true, true, true, true, true, true] rfl rfl (by kernel_rfl) (fun _ _ _ h => h) (Or.inl ⟨by rfl, ?_⟩) ?_ ?_
  rotate_left
  · intro w'
    go_simp
    with_reducible rfl
  rotate_left
  · simp only [Act.put, List.setIfInBounds_toArray, List.set_cons_zero, List.set_cons_succ, i64_w, i32_w]
    rfl
  refine done_ (by kernel_rfl) ?_
  go_wp2_with fail
  go_ret
  exact ⟨_, rfl, HO4.out, HB4.out⟩
theorem bytesOf_inj : ∀ {l m : List Int}, byteRow l → byteRow m → Go.Lib.bytesOf l = Go.Lib.bytesOf m → l = m := by
  intro l
  induction l with
  | nil =>
    intro m _ _ h
    cases m with
    | nil => rfl
    | cons b m => cases h
  | cons a l ih =>
    intro m hl hm h
    cases m with
    | nil => cases h
    | cons b m =>
      have ha := hl a (List.mem_cons_self ..)
      have hb := hm b (List.mem_cons_self ..)
      simp only [Go.Lib.bytesOf, List.map_cons, List.cons.injEq] at h
      have e : a.toNat = b.toNat := by
        have h1 := congrArg UInt8.toNat h.1
        rw [UInt8.toNat_ofNat', UInt8.toNat_ofNat'] at h1
        omega
      rw [show a = b by omega, ih (fun x hx => hl x (List.mem_cons_of_mem _ hx)) (fun x hx => hm x (List.mem_cons_of_mem _ hx)) h.2]
theorem equal_f {l m : List Int} (hl : byteRow l) (hm : byteRow m) : bytes_Equal.f l m = some (decide (l = m)) := by
  unfold bytes_Equal.f
  rw [Go.Lib.strOfNums_toList, Go.Lib.strOfNums_toList]
  congr 1
  by_cases h : l = m
  · subst h; simp
  · rw [decide_eq_false h]
    exact beq_eq_false_iff_ne.mpr fun e => h (bytesOf_inj hl hm e)
def openB (l : List Int) : Bool := if l.length < 4 then false else decide (l.drop (l.length - 4) = laidI (M.sum (nats (l.take (l.length - 4)))))
def openL (l : List Int) : List Int := if openB l then l.take (l.length - 4) else []
set_option maxHeartbeats 4000000 in
set_option maxRecDepth 100000 in
theorem crc_Open.calls (A0 : Option Addr) (c0 : Nat) (l0 : List Int) (w : World) (hr0 : Kd.C (Kd.int .u8) w A0 l0.length l0) (hc0 : l0.length ≤ c0) (hb : byteRow l0) (hl : l0.length < 140737488355000) :
    Calls Try.prog 27 #[tabV true, .slice A0 l0.length c0] w fun e w' => ∃ v0_ : Value, e = .returned (.tuple #[v0_, .bool (openB l0)]) ∧ Kd.R (Kd.int .u8) 5 w' w.heap.size (fun _ => True) v0_ (openL l0) ∧ Below w.heap.size w w' := by
  have HT := Aside0.mk (IsTab.new true w)
  have HB := Aside0.mk (below_drew1 (below_alloc (Below.refl w.heap.size w) (.cells (tabRow true) 27 (0, 0))))
  by_cases h4 : l0.length < 4
  · have d4 : decide ((l0.length : Int) - 4 < 0) = true := decide_eq_true (by omega)
    have hob : openB l0 = false := by unfold openB; rw [if_pos h4]
    have hol : openL l0 = [] := by unfold openL; rw [hob]; rfl
    rw [hob, hol]
    clear hob hol
    go_enter Try.func27, Try.ntmps27
    go_wp2_with fail
    refine start_ (n := 15) (S := fun w' => IsTab true w' w.heap.size) (ds := []) #[false, false, false, false, false, false, false, false, false, false, false, false, false, false, false] (by kernel_rfl) rfl rfl (HT.out.drew1) (fun hHeld => ?_)
    refine pure_ (i := 0) (N := some 10) (v := ?_) (a' := ?_) #[true, false, false, false, false, false, false, false, false, false, false, false, false, false, false] rfl rfl (by kernel_rfl) (fun _ _ _ h => h) (Or.inl ⟨by rfl, ?_⟩) ?_ ?_
    rotate_left
    · intro w'
      go_simp
      with_reducible rfl
    rotate_left
    · simp only [Act.put, List.setIfInBounds_toArray, List.set_cons_zero, List.set_cons_succ, i64_w, i32_w]
      rfl
    refine pure_ (i := 1) (N := some 11) (v := ?_) (a' := ?_) #[true, true, false, false, false, false, false, false, false, false, false, false, false, false, false] rfl rfl (by kernel_rfl) (fun _ _ _ h => h) (Or.inl ⟨by rfl, ?_⟩) ?_ ?_
    rotate_left
    · intro w'
      go_simp
      with_reducible rfl
    rotate_left
    · simp only [Act.put, List.setIfInBounds_toArray, List.set_cons_zero, List.set_cons_succ, i64_w, i32_w]
      rfl
    refine pure_ (i := 2) (N := some 12) (v := ?_) (a' := ?_) #[true, true, true, false, false, false, false, false, false, false, false, false, false, false, false] rfl rfl (by kernel_rfl) (fun _ _ _ h => h) (Or.inl ⟨by rfl, ?_⟩) ?_ ?_
    rotate_left
    · intro w'
      go_simp
      with_reducible rfl
    rotate_left
    · simp only [Act.put, List.setIfInBounds_toArray, List.set_cons_zero, List.set_cons_succ, i64_w, i32_w]
      rfl
    refine pure_ (i := 3) (N := some 13) (v := undef) (a' := ?_) #[true, true, true, true, false, false, false, false, false, false, false, false, false, false, false] rfl rfl (by kernel_rfl) (fun _ _ _ h => h) (Or.inr ⟨by rfl, rfl⟩) ?_ ?_
    rotate_left
    · simp only [Act.put, List.setIfInBounds_toArray, List.set_cons_zero, List.set_cons_succ, i64_w, i32_w]
      rfl
    refine pure_ (i := 4) (N := some 14) (v := undef) (a' := ?_) #[true, true, true, true, true, false, false, false, false, false, false, false, false, false, false] rfl rfl (by kernel_rfl) (fun _ _ _ h => h) (Or.inr ⟨by rfl, rfl⟩) ?_ ?_
    rotate_left
    · simp only [Act.put, List.setIfInBounds_toArray, List.set_cons_zero, List.set_cons_succ, i64_w, i32_w]
      rfl
    refine pure_ (i := 5) (N := some 15) (v := undef) (a' := ?_) #[true, true, true, true, true, true, false, false, false, false, false, false, false, false, false] rfl rfl (by kernel_rfl) (fun _ _ _ h => h) (Or.inr ⟨by rfl, rfl⟩) ?_ ?_
    rotate_left
    · simp only [Act.put, List.setIfInBounds_toArray, List.set_cons_zero, List.set_cons_succ, i64_w, i32_w]
      rfl
    refine pure_ (i := 6) (N := some 16) (v := undef) (a' := ?_) #[true, true, true, true, true, true, true, false, false, false, false, false, false, false, false] rfl rfl (by kernel_rfl) (fun _ _ _ h => h) (Or.inr ⟨by rfl, rfl⟩) ?_ ?_
    rotate_left
    · simp only [Act.put, List.setIfInBounds_toArray, List.set_cons_zero, List.set_cons_succ, i64_w, i32_w]
      rfl
    refine pure_ (i := 7) (N := some 17) (v := undef) (a' := ?_) #[true, true, true, true, true, true, true, true, false, false, false, false, false, false, false] rfl rfl (by kernel_rfl) (fun _ _ _ h => h) (Or.inr ⟨by rfl, rfl⟩) ?_ ?_
    rotate_left
    · simp only [Act.put, List.setIfInBounds_toArray, List.set_cons_zero, List.set_cons_succ, i64_w, i32_w]
      rfl
    refine pure_ (i := 8) (N := some 18) (v := undef) (a' := ?_) #[true, true, true, true, true, true, true, true, true, false, false, false, false, false, false] rfl rfl (by kernel_rfl) (fun _ _ _ h => h) (Or.inr ⟨by rfl, rfl⟩) ?_ ?_
    rotate_left
    · simp only [Act.put, List.setIfInBounds_toArray, List.set_cons_zero, List.set_cons_succ, i64_w, i32_w]
      rfl
    refine pure_ (i := 9) (N := some 19) (v := undef) (a' := ?_) #[true, true, true, true, true, true, true, true, true, true, false, false, false, false, false] rfl rfl (by kernel_rfl) (fun _ _ _ h => h) (Or.inr ⟨by rfl, rfl⟩) ?_ ?_
    rotate_left
    · simp only [Act.put, List.setIfInBounds_toArray, List.set_cons_zero, List.set_cons_succ, i64_w, i32_w]
      rfl
    refine pure_ (i := 10) (N := some 20) (v := undef) (a' := ?_) #[true, true, true, true, true, true, true, true, true, true, true, false, false, false, false] rfl rfl (by kernel_rfl) (fun _ _ _ h => h) (Or.inr ⟨by rfl, rfl⟩) ?_ ?_
    rotate_left
    · simp only [Act.put, List.setIfInBounds_toArray, List.set_cons_zero, List.set_cons_succ, i64_w, i32_w]
      rfl
    refine pure_ (i := 11) (N := some 21) (v := undef) (a' := ?_) #[true, true, true, true, true, true, true, true, true, true, true, true, false, false, false] rfl rfl (by kernel_rfl) (fun _ _ _ h => h) (Or.inr ⟨by rfl, rfl⟩) ?_ ?_
    rotate_left
    · simp only [Act.put, List.setIfInBounds_toArray, List.set_cons_zero, List.set_cons_succ, i64_w, i32_w]
      rfl
    refine pure_ (i := 12) (N := some 22) (v := undef) (a' := ?_) #[true, true, true, true, true, true, true, true, true, true, true, true, true, false, false] rfl rfl (by kernel_rfl) (fun _ _ _ h => h) (Or.inr ⟨by rfl, rfl⟩) ?_ ?_
    rotate_left
    · simp only [Act.put, List.setIfInBounds_toArray, List.set_cons_zero, List.set_cons_succ, i64_w, i32_w]
      rfl
    refine pure_ (i := 13) (N := some 23) (v := undef) (a' := ?_) #[true, true, true, true, true, true, true, true, true, true, true, true, true, true, false] rfl rfl (by kernel_rfl) (fun _ _ _ h => h) (Or.inr ⟨by rfl, rfl⟩) ?_ ?_
    rotate_left
    · simp only [Act.put, List.setIfInBounds_toArray, List.set_cons_zero, List.set_cons_succ, i64_w, i32_w]
      rfl
    refine pure_ (i := 14) (N := some 24) (v := ?_) (a' := ?_) #[true, true, true, true, true, true, true, true, true, true, true, true, true, true, true] rfl rfl (by kernel_rfl) (fun _ _ _ h => h) (Or.inl ⟨by rfl, ?_⟩) ?_ ?_
    rotate_left
    · intro w'
      go_simp
      with_reducible rfl
    rotate_left
    · simp only [Act.put, List.setIfInBounds_toArray, List.set_cons_zero, List.set_cons_succ, i64_w, i32_w]
      rfl
    refine done_ (by kernel_rfl) ?_
    go_wp2_with fail
    go_ret2
    exact ⟨_, rfl, Kd.R_nil _ _ _ _ _, HB.out⟩
  obtain ⟨m, hm⟩ : ∃ m, l0.length = m + 4 := ⟨l0.length - 4, by omega⟩
  have ht : (l0.take m).length = m := by rw [List.length_take]; omega
  have hdl : (l0.drop m).length = 4 := by rw [List.length_drop]; omega
  have hbt : byteRow (l0.take m) := fun c hc => hb c (List.mem_of_mem_take hc)
  have hbd : byteRow (l0.drop m) := fun c hc => hb c (List.mem_of_mem_drop hc)
  have HOB := Aside0.mk (show openB l0 = decide (l0.drop m = laidI (M.sum (nats (l0.take m)))) by unfold openB; rw [if_neg h4, show l0.length - 4 = m by omega])
  have HOL := Aside0.mk (show openL l0 = if decide (l0.drop m = laidI (M.sum (nats (l0.take m)))) then l0.take m else [] by unfold openL; rw [HOB.out, show l0.length - 4 = m by omega])
  have hl0 := l0.length
  obtain ⟨i0, hi, hz0, hz1, hz2⟩ := info_parts info5
  have q1 := cut_to 22 5 .i64 (P := Try.prog) Try.underlying22 hi A0 l0.length c0 (m : Int) (by omega) (by omega) hc0
  have q2 := cut_from 22 5 .i64 (P := Try.prog) Try.underlying22 hi 1 hz1 A0 l0.length c0 (m : Int) (by omega) (by omega)
  rw [Int.toNat_natCast] at q1 q2
  have hD := Kd.C_drop hr0 (show m ≤ l0.length by omega) hc0
  have hT := Kd.C_take hr0 (show m ≤ l0.length by omega)
  rw [show m * (Kd.int .u8).sz = m * 1 from rfl] at hD
  generalize (if c0 = m then A0 else A0.map (·.add (m * 1))) = A1 at q2 hD
  rw [show l0.length - m = 4 by omega] at q2
  rw [hdl] at hD
  rw [ht] at hT
  have HD := Aside0.mk hD
  have HTK := Aside0.mk hT
  have HC0 := Aside0.mk (show m ≤ c0 by omega)
  have HC1 := Aside0.mk (show 4 ≤ c0 - m by omega)
  have HSM := Aside0.mk (crc_Sum.calls true A0 c0 (l0.take m))
  rw [ht] at HSM
  have HCL := Aside0.mk (bytes_Clone.calls A0 c0 (l0.take m) (l0.take m))
  rw [ht] at HCL
  have HEQ := Aside0.mk (bytes_Equal.calls A1 (c0 - m) (l0.drop m))
  rw [hdl] at HEQ
  have hmi : (l0.length : Int) - 4 = (m : Int) := by omega
  have d4 : decide ((m : Int) < 0) = false := decide_eq_false (by omega)
  have HBT := Aside0.mk hbt
  have HE := Aside0.mk (equal_f hbd (laidI_byte (M.sum (nats (l0.take m)))))
  have HLD := Aside0.mk (show crc_laid.f 10 ((moreN true 0 (nats (l0.take m)) : Nat) : Int) = some (laidI (M.sum (nats (l0.take m)))) by rw [moreN_true]; exact laid_f _ (M.sum_lt (nats_lt hbt)))
  have HF := Aside0.mk (show bytes_Clone.f (l0.take m) = some (l0.take m) by unfold bytes_Clone.f; rw [if_pos (by omega)])
  have hml : m ≤ 140737488355000 := by omega
  rw [HOB.out, HOL.out]
  generalize hbb : decide (l0.drop m = laidI (M.sum (nats (l0.take m)))) = b at HE
  clear hr0 hc0 hb hl h4 ht hdl hbt hbd hD hT hi hz0 hz1 hz2 hl0 HOB HOL hbb hm
  go_enter Try.func27, Try.ntmps27
  go_wp2_with fail
  refine start_ (n := 15) (S := fun w' => IsTab true w' w.heap.size) (ds := []) #[false, false, false, false, false, false, false, false, false, false, false, false, false, false, false] (by kernel_rfl) rfl rfl (HT.out.drew1) (fun hHeld => ?_)
  refine pure_ (i := 0) (N := some 10) (v := ?_) (a' := ?_) #[true, false, false, false, false, false, false, false, false, false, false, false, false, false, false] rfl rfl (by kernel_rfl) (fun _ _ _ h => h) (Or.inl ⟨by rfl, ?_⟩) ?_ ?_
  rotate_left
  · intro w'
    go_simp
    with_reducible rfl
  rotate_left
  · simp only [Act.put, List.setIfInBounds_toArray, List.set_cons_zero, List.set_cons_succ, i64_w, i32_w]
    rfl
  refine pure_ (i := 1) (N := some 11) (v := ?_) (a' := ?_) #[true, true, false, false, false, false, false, false, false, false, false, false, false, false, false] rfl rfl (by kernel_rfl) (fun _ _ _ h => h) (Or.inl ⟨by rfl, ?_⟩) ?_ ?_
  rotate_left
  · intro w'
    go_simp
    with_reducible rfl
  rotate_left
  · simp only [Act.put, List.setIfInBounds_toArray, List.set_cons_zero, List.set_cons_succ, i64_w, i32_w]
    rfl
  refine pure_ (i := 2) (N := some 12) (v := ?_) (a' := ?_) #[true, true, true, false, false, false, false, false, false, false, false, false, false, false, false] rfl rfl (by kernel_rfl) (fun _ _ _ h => h) (Or.inl ⟨by rfl, ?_⟩) ?_ ?_
  rotate_left
  · intro w'
    go_simp
    with_reducible rfl
  rotate_left
  · simp only [Act.put, List.setIfInBounds_toArray, List.set_cons_zero, List.set_cons_succ, i64_w, i32_w]
    rfl
  refine pure_ (i := 3) (N := some 13) (v := ?_) (a' := ?_) #[true, true, true, true, false, false, false, false, false, false, false, false, false, false, false] rfl rfl (by kernel_rfl) (fun _ _ _ h => h) (Or.inl ⟨by rfl, ?_⟩) ?_ ?_
  rotate_left
  · intro w'
    go_simp
    with_reducible rfl
  rotate_left
  · simp only [Act.put, List.setIfInBounds_toArray, List.set_cons_zero, List.set_cons_succ, i64_w, i32_w]
    rfl
  refine pure_ (i := 4) (N := some 14) (v := ?_) (a' := ?_) #[true, true, true, true, true, false, false, false, false, false, false, false, false, false, false] rfl rfl (by kernel_rfl) (fun _ _ _ h => h) (Or.inl ⟨by rfl, ?_⟩) ?_ ?_
  rotate_left
  · intro w'
    go_simp
    with_reducible rfl
  rotate_left
  · simp only [Act.put, List.setIfInBounds_toArray, List.set_cons_zero, List.set_cons_succ, i64_w, i32_w]
    rfl
  refine pure_ (i := 5) (N := some 15) (v := ?_) (a' := ?_) #[true, true, true, true, true, true, false, false, false, false, false, false, false, false, false] rfl rfl (by kernel_rfl) (fun _ _ _ h => h) (Or.inl ⟨by rfl, ?_⟩) ?_ ?_
  rotate_left
  · intro w'
    go_simp
    with_reducible rfl
  rotate_left
  · simp only [Act.put, List.setIfInBounds_toArray, List.set_cons_zero, List.set_cons_succ, i64_w, i32_w]
    rfl
  refine pure_ (i := 7) (N := some 17) (v := ?_) (a' := ?_) #[true, true, true, true, true, true, false, true, false, false, false, false, false, false, false] rfl rfl (by kernel_rfl) (fun _ _ _ h => h) (Or.inl ⟨by rfl, ?_⟩) ?_ ?_
  rotate_left
  · intro w'
    go_simp
    with_reducible rfl
  rotate_left
  · simp only [Act.put, List.setIfInBounds_toArray, List.set_cons_zero, List.set_cons_succ, i64_w, i32_w]
    rfl
  refine pure_ (i := 8) (N := some 18) (v := ?_) (a' := ?_) #[true, true, true, true, true, true, false, true, true, false, false, false, false, false, false] rfl rfl (by kernel_rfl) (fun _ _ _ h => h) (Or.inl ⟨by rfl, ?_⟩) ?_ ?_
  rotate_left
  · intro w'
    go_simp
    with_reducible rfl
  rotate_left
  · simp only [Act.put, List.setIfInBounds_toArray, List.set_cons_zero, List.set_cons_succ, i64_w, i32_w]
    rfl
  refine pure_ (i := 9) (N := some 19) (v := ?_) (a' := ?_) #[true, true, true, true, true, true, false, true, true, true, false, false, false, false, false] rfl rfl (by kernel_rfl) (fun _ _ _ h => h) (Or.inl ⟨by rfl, ?_⟩) ?_ ?_
  rotate_left
  · intro w'
    go_simp
    with_reducible rfl
  rotate_left
  · simp only [Act.put, List.setIfInBounds_toArray, List.set_cons_zero, List.set_cons_succ, i64_w, i32_w]
    rfl
  refine take_ (i := 6) (N := some 16) (v := tabV true) #[true, true, true, true, true, true, true, true, true, true, false, false, false, false, false] rfl rfl (by kernel_rfl) (fun _ _ _ h => h) ?_ hHeld rfl ?_
  · exact yields_tab (by rfl) _ rfl _ rfl true (by intro w' s0; exact s0)
  refine norm_ (a' := ?_) ?_ ?_
  rotate_left
  · show Act.put _ (some 16) _ = _
    simp only [Act.put, List.setIfInBounds_toArray, List.set_cons_zero, List.set_cons_succ, i64_w, i32_w]
    rfl
  refine one_ (i := 10) (N := some 20) #[true, true, true, true, true, true, true, true, true, true, true, false, false, false, false] rfl rfl (by kernel_rfl) (by decide) (fun K hK => ?_)
  refine goes_ Try.func21 (by kernel_rfl) rfl #[tabV true, .slice A0 m c0] (by rfl) rfl rfl (by simp only [List.map_toArray, List.map_cons, List.map_nil]; rfl) ?_
  with_reducible refine (HSM.out _ (Kd.C_below HTK.out HB.out) HC0.out HBT.out).mono ?_
  rintro e w2 ⟨rfl, hB2⟩
  refine ⟨_, rfl, ?_⟩
  have HT2 := Aside0.mk (HT.out.drew1.below hB2)
  have HB2 := Aside0.mk (below_step HB.out hB2)
  clear hB2
  refine hK.out _ _ (HT2.out) (fun hHeld => ?_)
  clear hK K
  refine norm_ (a' := ?_) ?_ ?_
  rotate_left
  · show Act.put _ (some 20) _ = _
    simp only [Act.put, List.setIfInBounds_toArray, List.set_cons_zero, List.set_cons_succ, i64_w, i32_w]
    rfl
  refine one_ (i := 11) (N := some 21) #[true, true, true, true, true, true, true, true, true, true, true, true, false, false, false] rfl rfl (by kernel_rfl) (by decide) (fun K hK => ?_)
  refine goes_ Try.func51 (by kernel_rfl) rfl #[.int .u32 ((moreN true 0 (nats (l0.take m)) : Nat) : Int)] (by rfl) rfl rfl (by simp only [List.map_toArray, List.map_cons, List.map_nil]; rfl) ?_
  with_reducible refine (crc_laid.calls 10 _ _ _ HLD.out).mono ?_
  rintro e w3 ⟨v3, rfl, hR3, hB3⟩
  refine ⟨_, rfl, ?_⟩
  obtain ⟨A3, c3, rfl, hc3, hC3⟩ := Kd.R_reads hR3
  have HT3 := Aside0.mk (HT2.out.below hB3)
  have HB3 := Aside0.mk (below_step HB2.out hB3)
  have HC3 := Aside0.mk hC3
  have Hc3 := Aside0.mk hc3
  clear hB3 hR3 hC3 hc3
  refine hK.out _ _ (HT3.out) (fun hHeld => ?_)
  clear hK K
  refine norm_ (a' := ?_) ?_ ?_
  rotate_left
  · show Act.put _ (some 21) _ = _
    simp only [Act.put, List.setIfInBounds_toArray, List.set_cons_zero, List.set_cons_succ, i64_w, i32_w]
    rfl
  refine one_ (i := 12) (N := some 22) #[true, true, true, true, true, true, true, true, true, true, true, true, true, false, false] rfl rfl (by kernel_rfl) (by decide) (fun K hK => ?_)
  refine goes_ Try.func52 (by kernel_rfl) rfl #[.slice A1 4 (c0 - m), .slice A3 (laidI (M.sum (nats (l0.take m)))).length c3] (by rfl) rfl rfl (by simp only [List.map_toArray, List.map_cons, List.map_nil]; rfl) ?_
  with_reducible refine (HEQ.out _ _ _ _ _ (Kd.C_below HD.out HB3.out) HC1.out HC3.out Hc3.out HE.out).mono ?_
  rintro e w4 ⟨rfl, hd4⟩
  refine ⟨_, rfl, ?_⟩
  have HT4 := Aside0.mk (HT3.out.below (Drawn0.below hd4))
  have HB4 := Aside0.mk (below_step HB3.out (Drawn0.below hd4))
  clear hd4
  refine hK.out _ _ (HT4.out) (fun hHeld => ?_)
  clear hK K
  refine norm_ (a' := ?_) ?_ ?_
  rotate_left
  · show Act.put _ (some 22) _ = _
    simp only [Act.put, List.setIfInBounds_toArray, List.set_cons_zero, List.set_cons_succ, i64_w, i32_w]
    rfl
  refine pure_ (i := 13) (N := some 23) (v := ?_) (a' := ?_) #[true, true, true, true, true, true, true, true, true, true, true, true, true, true, false] rfl rfl (by kernel_rfl) (fun _ _ _ h => h) (Or.inl ⟨by rfl, ?_⟩) ?_ ?_
  rotate_left
  · intro w'
    go_simp
    with_reducible rfl
  rotate_left
  · simp only [Act.put, List.setIfInBounds_toArray, List.set_cons_zero, List.set_cons_succ, i64_w, i32_w]
    rfl
  refine pure_ (i := 14) (N := some 24) (v := ?_) (a' := ?_) #[true, true, true, true, true, true, true, true, true, true, true, true, true, true, true] rfl rfl (by kernel_rfl) (fun _ _ _ h => h) (Or.inl ⟨by rfl, ?_⟩) ?_ ?_
  rotate_left
  · intro w'
    go_simp
    with_reducible rfl
  rotate_left
  · simp only [Act.put, List.setIfInBounds_toArray, List.set_cons_zero, List.set_cons_succ, i64_w, i32_w]
    rfl
  refine done_ (by kernel_rfl) ?_
  cases b with
  | false =>
    go_wp2_with fail
    go_ret2
    exact ⟨_, rfl, Kd.R_nil _ _ _ _ _, HB4.out⟩
  | true =>
    go_wp2_with (go_at_call 50; refine (HCL.out _ (Kd.C_below HTK.out HB4.out) HC0.out HF.out).mono ?_; rintro e w5 ⟨v5, rfl, hR5, hB5⟩; have HR5 := Aside0.mk (Kd.R_lower hR5 HB4.out.size); have HB5 := Aside0.mk (below_step HB4.out hB5); clear hR5 hB5)
    go_ret2
    exact ⟨_, rfl, HR5.out, HB5.out⟩
end Go.Proofs.Ytpalloofjljhkaa.P
/-! Ref -/
namespace Go.Proofs.Ytpalloofjljhkaa.P
open Go.RowKit Go.Proofs.Ytpalloofjljhkaa.Lib Go.Proofs.YtpalloofjljhkaaW.PrintWords Go.Proofs.YtpalloofjljhkaaW.PrintLast Go.Proofs.YtpalloofjljhkaaW.PrintMore
set_option linter.unusedVariables false
set_option linter.unusedSimpArgs false
theorem lit_C {W : World} {g : Nat} {e : TypeId} {fr : Nat × Nat} {xs : List Int} {cs : Array Value} (h : W.heap[g]? = some (.cells cs e fr)) (hcs : cs = (xs.map (Value.int .u8)).toArray) (hl : xs.length ≤ 9223372036854775807) : Kd.C (Kd.int .u8) W (some ⟨g, 0, none⟩) xs.length xs := by
  subst hcs
  refine Kd.C_of_reads (d := (0 : Int)) (h1 := fun _ => rfl) ⟨rfl, hl, fun _ => ⟨⟨g, 0, none⟩, rfl, fun j hj => ?_⟩⟩
  have ha : (Addr.add ⟨g, 0, none⟩ j) = ⟨g, j, none⟩ := by unfold Addr.add; split <;> simp_all
  rw [ha]
  refine (cell_of_row W g j _ e fr h).trans ?_
  rw [List.getD_eq_getElem?_getD, List.getElem?_eq_getElem hj]
  simp [hj]
theorem same_any {a b : List Int} (hl : a.length < 9223372036854775807) : antiphonref1_Same.f (a.length + 1) a b = some (decide (a = b)) := same_ref a b hl 0
theorem copy_any {a : List Int} (hl : a.length ≤ 140737488355328) : antiphonref1_Copy.f (a.length + 1) a = some a := copy_ref a hl 0
set_option maxHeartbeats 4000000 in
set_option maxRecDepth 100000 in
theorem ref_Sum.calls (A0 : Option Addr) (c0 : Nat) (l0 : List Int) (w : World) (hr0 : Kd.C (Kd.int .u8) w A0 l0.length l0) (hc0 : l0.length ≤ c0) (hb : byteRow l0) :
    Calls Try.prog 28 #[.slice A0 l0.length c0] w fun e w' => e = .returned (.int .u32 ((M.sum (nats l0) : Nat) : Int)) ∧ w = w' := by
  have HC := Aside0.mk (ref_More.calls 0 (by decide) A0 c0 l0 w hr0 hc0 hb)
  clear hr0 hc0 hb
  go_enter Try.func28, Try.ntmps28
  go_wp2_with (go_at_call 53; refine HC.out.mono ?_; rintro e w2 ⟨rfl, rfl⟩)
  go_ret
  exact ⟨rfl, rfl⟩
theorem laidI_cells (s : Nat) (hs : s < 4294967296) : (#[.int .u8 ((s : Int) % 256), .int .u8 ((s : Int) / 256 % 256), .int .u8 ((s : Int) / 65536 % 256), .int .u8 ((s : Int) / 16777216)] : Array Value) = ((laidI s).map (Value.int .u8)).toArray := by
  have h : (s : Int) / 16777216 = (s : Int) / 16777216 % 256 := by omega
  rw [h]
  simp [laidI, M.laid]
set_option maxHeartbeats 4000000 in
set_option maxRecDepth 100000 in
theorem ref_Seal.calls (A0 : Option Addr) (c0 : Nat) (l0 : List Int) (w : World) (hr0 : Kd.C (Kd.int .u8) w A0 l0.length l0) (hc0 : l0.length ≤ c0) (hb : byteRow l0) (hl : l0.length < 140737488355000) :
    Calls Try.prog 30 #[.slice A0 l0.length c0] w fun e w' => ∃ v0_ : Value, e = .returned (v0_) ∧ Kd.R (Kd.int .u8) 5 w' w.heap.size (fun _ => True) v0_ (sealI l0) ∧ Below w.heap.size w w' := by
  have HR := Aside0.mk hr0
  have HC := Aside0.mk hc0
  have HBY := Aside0.mk hb
  have HL := Aside0.mk hl
  have hs : M.sum (nats l0) < 4294967296 := M.sum_lt (nats_lt hb)
  have HCP := Aside0.mk (copy_any (a := l0) (by omega))
  have HSL := Aside0.mk (show sealI l0 = l0 ++ laidI (M.sum (nats l0)) from rfl)
  have HS := Aside0.mk (ref_Sum.calls A0 c0 l0 w hr0 hc0 hb)
  generalize M.sum (nats l0) = s at hs HSL HS
  clear hr0 hc0 hb hl
  go_enter Try.func30, Try.ntmps30
  go_wp2_with (first
    | (go_at_call 28; refine HS.out.mono ?_; rintro e w2 ⟨rfl, rfl⟩)
    | (go_at_call 22; refine (antiphonref1_Copy.calls _ _ _ _ _ _ HR.out HC.out HCP.out).mono ?_; rintro e w2 ⟨v2, rfl, hR2, hB2⟩; have HR2 := Aside0.mk hR2; have HB2 := Aside0.mk hB2; clear hR2 hB2)
    | (at_builtin; refine Kd.R_append_rows (Kd.int .u8) (w0 := w) w.heap.size rfl (.tmp 7) (.tmp 19) 22 5 (.int .u8 0) 1 rfl Try.underlying22 info5 rfl (by decide) (by omega) v2 l0 (laidI s) (some ⟨w2.heap.size, 0, none⟩) 4 4 (fun _ => True) (fun _ => False) rfl rfl (Kd.R_alloc HR2.out _) (lit_C (blk_new w2 _) (laidI_cells s hs) (by rw [laidI_len]; decide)) (fun _ _ h => h) (fun _ h => h.elim) (fun _ _ => trivial) (below_alloc HB2.out _) (below_alloc HB2.out _).size (by have := HL.out; omega) ?_; intro v4 w4 ho hb hg hat; have HO4 := Aside0.mk ho; have HB4 := Aside0.mk hb; clear ho hb hg hat))
  go_ret
  exact ⟨_, rfl, by rw [HSL.out]; exact HO4.out, HB4.out⟩
theorem seal_take (l : List Int) (m : Nat) (hm : l.length = m + 4) : (decide (sealI (l.take m) = l)) = openB l := by
  have h4 : ¬ l.length < 4 := by omega
  unfold openB
  rw [if_neg h4, show l.length - 4 = m by omega]
  unfold sealI
  congr 1
  conv => lhs; rhs; rw [← List.take_append_drop m l]
  rw [List.append_cancel_left_eq]
  exact propext ⟨fun h => h.symm, fun h => h.symm⟩
set_option maxHeartbeats 4000000 in
set_option maxRecDepth 100000 in
theorem ref_Open.calls (A0 : Option Addr) (c0 : Nat) (l0 : List Int) (w : World) (hr0 : Kd.C (Kd.int .u8) w A0 l0.length l0) (hc0 : l0.length ≤ c0) (hb : byteRow l0) (hl : l0.length < 140737488355000) :
    Calls Try.prog 29 #[.slice A0 l0.length c0] w fun e w' => ∃ v0_ : Value, e = .returned (.tuple #[v0_, .bool (openB l0)]) ∧ Kd.R (Kd.int .u8) 5 w' w.heap.size (fun _ => True) v0_ (openL l0) ∧ Below w.heap.size w w' := by
  have HB := Aside0.mk (Below.refl w.heap.size w)
  by_cases h4 : l0.length < 4
  · have d4 : decide ((l0.length : Int) < 4) = true := decide_eq_true (by omega)
    have d5 : decide (l0.length < 4) = true := decide_eq_true h4
    have hob : openB l0 = false := by unfold openB; rw [if_pos h4]
    have hol : openL l0 = [] := by unfold openL; rw [hob]; rfl
    rw [hob, hol]
    clear hob hol
    go_enter Try.func29, Try.ntmps29
    go_wp2_with fail
    go_ret2
    exact ⟨_, rfl, Kd.R_nil _ _ _ _ _, HB.out⟩
  obtain ⟨m, hm⟩ : ∃ m, l0.length = m + 4 := ⟨l0.length - 4, by omega⟩
  have ht : (l0.take m).length = m := by rw [List.length_take]; omega
  have hbt : byteRow (l0.take m) := fun c hc => hb c (List.mem_of_mem_take hc)
  have HOL := Aside0.mk (show openL l0 = if openB l0 then l0.take m else [] by unfold openL; rw [show l0.length - 4 = m by omega])
  obtain ⟨i0, hi, hz0, hz1, hz2⟩ := info_parts info5
  have q1 := cut_to 22 5 .i64 (P := Try.prog) Try.underlying22 hi A0 l0.length c0 (m : Int) (by omega) (by omega) hc0
  rw [Int.toNat_natCast] at q1
  have hT := Kd.C_take hr0 (show m ≤ l0.length by omega)
  rw [ht] at hT
  have HTK := Aside0.mk hT
  have HR := Aside0.mk hr0
  have HC := Aside0.mk hc0
  have HC0 := Aside0.mk (show m ≤ c0 by omega)
  have HSE := Aside0.mk (ref_Seal.calls A0 c0 (l0.take m))
  rw [ht] at HSE
  have HCP := Aside0.mk (antiphonref1_Copy.calls (m + 1) A0 c0 (l0.take m) (l0.take m))
  rw [ht] at HCP
  have HCF := Aside0.mk (show antiphonref1_Copy.f (m + 1) (l0.take m) = some (l0.take m) by have := copy_any (a := l0.take m) (by omega); rw [ht] at this; exact this)
  have HSF := Aside0.mk (show antiphonref1_Same.f (m + 4 + 1) (sealI (l0.take m)) l0 = some (openB l0) by
    have := same_any (a := sealI (l0.take m)) (b := l0) (by unfold sealI; rw [List.length_append, laidI_len]; omega)
    rw [seal_take l0 m hm] at this
    rw [show m + 4 + 1 = (sealI (l0.take m)).length + 1 by unfold sealI; rw [List.length_append, laidI_len]; omega]
    exact this)
  have hmi : (l0.length : Int) - 4 = (m : Int) := by omega
  have d4 : decide ((l0.length : Int) < 4) = false := decide_eq_false (by omega)
  have d5 : decide (l0.length < 4) = false := decide_eq_false h4
  have HBT := Aside0.mk hbt
  have hml : m < 140737488355000 := by omega
  rw [HOL.out]
  generalize openB l0 = b at HSF
  clear hr0 hc0 hb hl h4 ht hbt hT hi hz0 hz1 hz2 HOL hm
  cases b with
  | false =>
    go_enter Try.func29, Try.ntmps29
    go_wp2_with (first
      | (go_at_call 30; refine (HSE.out _ HTK.out HC0.out HBT.out hml).mono ?_; rintro e w2 ⟨v2, rfl, hR2, hB2⟩; obtain ⟨A2, c2, rfl, hc2, hC2⟩ := Kd.R_reads hR2; have HC2 := Aside0.mk hC2; have Hc2 := Aside0.mk hc2; have HB2 := Aside0.mk hB2; clear hR2 hB2 hC2 hc2)
      | (go_at_call 25; refine (antiphonref1_Same.calls _ _ _ _ _ _ _ _ _ HC2.out Hc2.out (Kd.C_below HR.out HB2.out) HC.out HSF.out).mono ?_; rintro e w3 ⟨rfl, hd3⟩; have HB3 := Aside0.mk (below_step HB2.out (Drawn0.below hd3)); clear hd3)
      | (go_at_call 22; refine (HCP.out _ (Kd.C_below HTK.out HB3.out) HC0.out HCF.out).mono ?_; rintro e w5 ⟨v5, rfl, hR5, hB5⟩; have HR5 := Aside0.mk (Kd.R_lower hR5 HB3.out.size); have HB5 := Aside0.mk (below_step HB3.out hB5); clear hR5 hB5))
    go_ret2
    exact ⟨_, rfl, Kd.R_nil _ _ _ _ _, HB3.out⟩
  | true =>
    go_enter Try.func29, Try.ntmps29
    go_wp2_with (first
      | (go_at_call 30; refine (HSE.out _ HTK.out HC0.out HBT.out hml).mono ?_; rintro e w2 ⟨v2, rfl, hR2, hB2⟩; obtain ⟨A2, c2, rfl, hc2, hC2⟩ := Kd.R_reads hR2; have HC2 := Aside0.mk hC2; have Hc2 := Aside0.mk hc2; have HB2 := Aside0.mk hB2; clear hR2 hB2 hC2 hc2)
      | (go_at_call 25; refine (antiphonref1_Same.calls _ _ _ _ _ _ _ _ _ HC2.out Hc2.out (Kd.C_below HR.out HB2.out) HC.out HSF.out).mono ?_; rintro e w3 ⟨rfl, hd3⟩; have HB3 := Aside0.mk (below_step HB2.out (Drawn0.below hd3)); clear hd3)
      | (go_at_call 22; refine (HCP.out _ (Kd.C_below HTK.out HB3.out) HC0.out HCF.out).mono ?_; rintro e w5 ⟨v5, rfl, hR5, hB5⟩; have HR5 := Aside0.mk (Kd.R_lower hR5 HB3.out.size); have HB5 := Aside0.mk (below_step HB3.out hB5); clear hR5 hB5))
    go_ret2
    exact ⟨_, rfl, HR5.out, HB5.out⟩
theorem zsz27 : Try.zeroCells27.size = 256 := by rw [zero27]; exact mkRow_size 0
end Go.Proofs.Ytpalloofjljhkaa.P
/-! Burst -/
namespace Go.Proofs.Ytpalloofjljhkaa.P
open Go.RowKit
set_option linter.unusedVariables false
theorem nats_set' (X : List Int) (k : Nat) (v : Int) : nats (X.set k v) = (nats X).set k v.toNat := by unfold nats; rw [List.map_set]
theorem nats_len' (l : List Int) : (nats l).length = l.length := by unfold nats; rw [List.length_map]
theorem nats_getD (X : List Int) (k : Nat) : (nats X).getD k 0 = (X.getD k 0).toNat := by
  unfold nats
  rw [List.getD_eq_getElem?_getD, List.getD_eq_getElem?_getD, List.getElem?_map]
  cases X[k]? <;> rfl
theorem nats_inj {a b : List Int} (ha : byteRow a) (hb : byteRow b) (h : nats a = nats b) : a = b := by
  induction a generalizing b with
  | nil => cases b with
    | nil => rfl
    | cons => cases h
  | cons x a ih =>
    cases b with
    | nil => cases h
    | cons y b =>
      simp only [nats, List.map_cons, List.cons.injEq] at h
      have h1 := ha x (List.mem_cons_self ..)
      have h2 := hb y (List.mem_cons_self ..)
      rw [show x = y by omega, ih (fun c hc => ha c (List.mem_cons_of_mem _ hc)) (fun c hc => hb c (List.mem_cons_of_mem _ hc)) h.2]
def Turned (C : List Int) (k row i : Nat) (X : List Int) : Prop := X.length = C.length ∧ byteRow X ∧ M.val (nats X) = M.val (nats C) ^^^ ((row % 2 ^ i) <<< k)
theorem mod_pow_succ (row i : Nat) : row % 2 ^ (i + 1) = (row % 2 ^ i) ^^^ ((row / 2 ^ i % 2) <<< i) := by
  apply Nat.eq_of_testBit_eq
  intro q
  rw [Nat.testBit_xor, Nat.testBit_mod_two_pow, Nat.testBit_mod_two_pow, Nat.testBit_shiftLeft]
  have hb : ∀ j, (row / 2 ^ i % 2).testBit j = (decide (j = 0) && row.testBit i) := by
    intro j
    cases j with
    | zero => rw [Nat.testBit_zero, Nat.mod_mod]; simp [Nat.testBit_eq_decide_div_mod_eq]
    | succ j => rw [Nat.testBit_succ, Nat.div_eq_of_lt (by omega)]; simp
  rw [hb]
  by_cases h1 : q < i
  · have h2 : q < i + 1 := by omega
    have h3 : ¬ q ≥ i := by omega
    simp [h1, h2, h3]
  · by_cases h2 : q = i
    · subst h2; simp
    · have h3 : ¬ q < i + 1 := by omega
      have h4 : ¬ q - i = 0 := by omega
      simp [h1, h3, h4]
theorem Turned.off {C X : List Int} {k row i : Nat} (h : Turned C k row i X) (hb : row / 2 ^ i % 2 ≠ 1) : Turned C k row (i + 1) X := by
  refine ⟨h.1, h.2.1, ?_⟩
  rw [h.2.2, mod_pow_succ, show row / 2 ^ i % 2 = 0 by omega, Nat.zero_shiftLeft, Nat.xor_zero]
theorem Turned.on {C X : List Int} {k row i j m : Nat} {v : Int} (h : Turned C k row i X) (hb : row / 2 ^ i % 2 = 1) (hj : (k + i) / 8 = j) (hm : (k + i) % 8 = m) (hl : k + i < 8 * C.length)
    (hv : v = (((X.getD j 0).toNat ^^^ 2 ^ m : Nat) : Int)) : Turned C k row (i + 1) (X.set j v) := by
  have hjl : j < X.length := by rw [h.1]; omega
  have hx := getD_byte h.2.1 j
  have hp : 2 ^ m < 256 := by
    have : m < 8 := by omega
    calc 2 ^ m ≤ 2 ^ 7 := Nat.pow_le_pow_right (by decide) (by omega)
      _ < 256 := by decide
  have hlt : (X.getD j 0).toNat ^^^ 2 ^ m < 256 := Nat.xor_lt_two_pow (n := 8) (by omega) hp
  refine ⟨by rw [List.length_set]; exact h.1, ?_, ?_⟩
  · intro c hc
    rcases List.mem_or_eq_of_mem_set hc with hc | rfl
    · exact h.2.1 c hc
    · rw [hv]; omega
  · rw [nats_set', hv, Int.toNat_natCast, ← nats_getD, M.val_set _ _ _ (by rw [nats_len']; exact hjl), h.2.2, mod_pow_succ, hb, Nat.shiftLeft_xor_distrib, Nat.xor_assoc]
    congr 2
    rw [Nat.shiftLeft_eq, Nat.shiftLeft_eq, Nat.shiftLeft_eq, Nat.one_mul, ← Nat.pow_add, ← Nat.pow_add, show m + 8 * j = i + k by omega]
theorem shl_zero_iff {r k : Nat} : r <<< k = 0 ↔ r = 0 := by
  rw [Nat.shiftLeft_eq]
  constructor
  · intro h
    rcases Nat.mul_eq_zero.mp h with h | h
    · exact h
    · have := Nat.two_pow_pos k; omega
  · rintro rfl; rw [Nat.zero_mul]
theorem Turned.same {C X : List Int} {k row i : Nat} (h : Turned C k row i X) (hb : byteRow C) : C = X ↔ row % 2 ^ i = 0 := by
  constructor
  · intro e
    have h2 := h.2.2
    rw [← e] at h2
    have h3 : M.val (nats C) ^^^ 0 = M.val (nats C) ^^^ ((row % 2 ^ i) <<< k) := by rw [Nat.xor_zero]; exact h2
    exact shl_zero_iff.mp (M.xor_inj h3).symm
  · intro e
    have h2 := h.2.2
    rw [e, Nat.zero_shiftLeft, Nat.xor_zero] at h2
    exact nats_inj hb h.2.1 (M.val_inj (by rw [nats_len', nats_len', h.1]) (nats_lt hb) (nats_lt h.2.1) h2.symm)
theorem low_lt (row i : Nat) (hi : i ≤ 32) : row % 2 ^ i < 4294967296 :=
  Nat.lt_of_lt_of_le (Nat.mod_lt _ (Nat.two_pow_pos i)) (Nat.pow_le_pow_right (n := 2) (by decide) hi)
theorem Turned.sum {C X : List Int} {k row i : Nat} (h : Turned C k row i X) (hb : byteRow C) (hi : i ≤ 32) (hk : k ≤ 8 * C.length) : M.sum (nats C) = M.sum (nats X) ↔ C = X := by
  rw [h.same hb]
  exact M.sum_burst (by rw [nats_len', nats_len', h.1]) (by rw [nats_len']; exact hk) (low_lt row i hi) h.2.2
theorem sealI_byte {l : List Int} (hb : byteRow l) : byteRow (sealI l) := by
  intro c hc
  rcases List.mem_append.mp hc with hc | hc
  · exact hb c hc
  · exact laidI_byte _ c hc
theorem sealI_len (l : List Int) : (sealI l).length = l.length + 4 := by unfold sealI; rw [List.length_append, laidI_len]
theorem open_seal {l : List Int} : openB (sealI l) = true ∧ openL (sealI l) = l := by
  have h1 : openB (sealI l) = true := by
    unfold openB
    rw [sealI_len, if_neg (by omega), show l.length + 4 - 4 = l.length by omega]
    unfold sealI
    rw [List.drop_left, List.take_left, decide_eq_true rfl]
  refine ⟨h1, ?_⟩
  unfold openL
  rw [h1, if_pos rfl, sealI_len, show l.length + 4 - 4 = l.length by omega]
  unfold sealI
  rw [List.take_left]
end Go.Proofs.Ytpalloofjljhkaa.P
/-! Px38 -/
namespace Go.Proofs.Ytpalloofjljhkaa.P
open Go.RowKit Go.Proofs.YtpalloofjljhkaaW.PrintWords Go.Proofs.YtpalloofjljhkaaW.PrintLast Go.Proofs.YtpalloofjljhkaaW.PrintMore
attribute [local go_sem] max2_int min2_int max_two min_two max_three min_three max_four min_four   -- for this text's walks alone
set_option linter.unusedVariables false
set_option linter.unusedSimpArgs false
def mac_Group.f (a0_0 : Int) (a0_1 : Int) (a0_2 : Int) (a0_3 : Int) (a0_4 : Int) (a0_5 : Int) : Option (Bool) := some ((Go.bits .and .u8 a0_0 1) == 1)
set_option maxHeartbeats 8000000 in
set_option maxRecDepth 100000 in
theorem mac_Group.calls (a0_0 : Int) (a0_1 : Int) (a0_2 : Int) (a0_3 : Int) (a0_4 : Int) (a0_5 : Int) (r : Bool) (w : World) (h : mac_Group.f a0_0 a0_1 a0_2 a0_3 a0_4 a0_5 = some r) :
    Calls Try.prog 37 #[.agg #[.int .u8 a0_0, .int .u8 a0_1, .int .u8 a0_2, .int .u8 a0_3, .int .u8 a0_4, .int .u8 a0_5]] w fun e w' => e = .returned (.bool r) ∧ Below w.heap.size w w' := by
  have hu43 := Try.underlying43
  have HB := Aside0.mk (Below.refl w.heap.size w)
  have H : (some ((Go.bits .and .u8 a0_0 1) == 1)) = some r := h
  clear h
  obtain rfl := Option.some.inj H
  go_enter Try.func37, Try.ntmps37
  go_wp2_with (first | ((with_reducible refine gate_dst (N := 1) rfl ?_); refine box_event ?hg (N := 1) ?hd (cs := #[.int .u8 a0_0, .int .u8 a0_1, .int .u8 a0_2, .int .u8 a0_3, .int .u8 a0_4, .int .u8 a0_5]) (t := 43) ?hr ?_; (case hd => rfl); (case hg => rfl); (case hr => first | (go_simp; done) | (go_simp; rfl)); intro gb101 hg w2 hbox hb; have n0_ := Aside0.mk (below_step (by repeat (first | (with_reducible first | exact HB.out | apply below_alloc | apply pw_below_drewN | apply below_drew1) | exact HB.out)) hb); have n1_ := Aside0.mk (hbox); have n2_ := Aside0.mk ((by rw [hg]; exact (below_size (by repeat (first | (with_reducible first | exact HB.out | apply below_alloc | apply pw_below_drewN | apply below_drew1) | exact HB.out))) : w.heap.size ≤ gb101)); have n3_ := Aside0.mk ((by rw [hg]; exact (below_size (by repeat (first | (with_reducible first | exact HB.out | apply below_alloc | apply pw_below_drewN | apply below_drew1) | exact HB.out))) : w.heap.size ≤ gb101)); clear HB; have HB := n0_; have BK101 := n1_; have GW101 := n2_; have GE101 := n3_; clear n0_ n1_ n2_ n3_; clear hb hbox hg; have hcz3_0 : w2.cell? ⟨gb101, 0, none⟩ = some (.int .u8 a0_0) := (blk_cell BK101.out 0).trans rfl; have hcz3_1 : w2.cell? ⟨gb101, 1, none⟩ = some (.int .u8 a0_1) := (blk_cell BK101.out 1).trans rfl; have hcz3_2 : w2.cell? ⟨gb101, 2, none⟩ = some (.int .u8 a0_2) := (blk_cell BK101.out 2).trans rfl; have hcz3_3 : w2.cell? ⟨gb101, 3, none⟩ = some (.int .u8 a0_3) := (blk_cell BK101.out 3).trans rfl; have hcz3_4 : w2.cell? ⟨gb101, 4, none⟩ = some (.int .u8 a0_4) := (blk_cell BK101.out 4).trans rfl; have hcz3_5 : w2.cell? ⟨gb101, 5, none⟩ = some (.int .u8 a0_5) := (blk_cell BK101.out 5).trans rfl; have hfz3_0 := blk_frozen BK101.out 0; have hfz3_1 := blk_frozen BK101.out 1; have hfz3_2 := blk_frozen BK101.out 2; have hfz3_3 := blk_frozen BK101.out 3; have hfz3_4 := blk_frozen BK101.out 4; have hfz3_5 := blk_frozen BK101.out 5))
  go_ret
  exact ⟨by first | rfl | (simp [errW_none, errW_some] <;> rfl) | (simp [*, errW_none, errW_some] <;> rfl), by repeat (first | (with_reducible first | exact HB.out | apply below_alloc | apply pw_below_drewN | apply below_drew1 | refine below_set ?_ GE101.out) | exact HB.out)⟩
end Go.Proofs.Ytpalloofjljhkaa.P
/-! Enc -/
namespace Go.Proofs.Ytpalloofjljhkaa.P
open Go.RowKit Go.Proofs.Ytpalloofjljhkaa.Lib Go.Proofs.YtpalloofjljhkaaW.PrintWords Go.Proofs.YtpalloofjljhkaaW.PrintLast Go.Proofs.YtpalloofjljhkaaW.PrintMore
set_option linter.unusedVariables false
set_option linter.unusedSimpArgs false
attribute [local go_sem] max2_int min2_int max_two min_two max_three min_three max_four min_four   -- for this text's walks alone
def encB (tt fr data : List Int) : List Int := tt ++ fr ++ beN 2 (data.length : Int) ++ data ++ List.replicate (46 - data.length) 0
def isGrp (x : Int) : Bool := Go.bits .and .u8 x 1 == 1
theorem part_C {W : World} {g off n : Nat} {t : TypeId} {frz : Nat × Nat} {cs : Array Value} {xs : List Int} (h : W.heap[g]? = some (.cells cs t frz)) (hn : xs.length = n) (hl : n ≤ 9223372036854775807) (hx : ∀ j, j < n → cs[off + j]? = some (.int .u8 (xs.getD j 0))) : Kd.C (Kd.int .u8) W (some ⟨g, off, none⟩) n xs := by
  subst hn
  refine Kd.C_of_reads (d := (0 : Int)) (h1 := fun _ => rfl) ⟨rfl, hl, fun _ => ⟨⟨g, off, none⟩, rfl, fun j hj => ?_⟩⟩
  have ha : (Addr.add ⟨g, off, none⟩ j) = ⟨g, off + j, none⟩ := by unfold Addr.add; split <;> simp_all
  rw [ha, cell_of_row W g (off + j) cs t frz h, hx j hj]
theorem six {p : Nat → Prop} (h0 : p 0) (h1 : p 1) (h2 : p 2) (h3 : p 3) (h4 : p 4) (h5 : p 5) : ∀ j, j < 6 → p j := by
  intro j hj
  rcases (show j = 0 ∨ j = 1 ∨ j = 2 ∨ j = 3 ∨ j = 4 ∨ j = 5 by omega) with rfl | rfl | rfl | rfl | rfl | rfl <;> assumption
theorem grp_f (x : Int) (a b c d e : Int) : mac_Group.f x a b c d e = some (isGrp x) := rfl
set_option maxHeartbeats 8000000 in
set_option maxRecDepth 100000 in
theorem mac_Encode.ok (t0 t1 t2 t3 t4 t5 f0 f1 f2 f3 f4 f5 : Int) (A0 : Option Addr) (c0 : Nat) (l0 : List Int) (w : World) (hr0 : Kd.C (Kd.int .u8) w A0 l0.length l0) (hc0 : l0.length ≤ c0) (hg : isGrp f0 = false) (hl : l0.length ≤ 1500) (hb : byteRow l0) (hbt : byteRow [t0, t1, t2, t3, t4, t5]) (hbf : byteRow [f0, f1, f2, f3, f4, f5]) :
    Calls Try.prog 32 #[tabV true, .agg #[.int .u8 t0, .int .u8 t1, .int .u8 t2, .int .u8 t3, .int .u8 t4, .int .u8 t5, .int .u8 f0, .int .u8 f1, .int .u8 f2, .int .u8 f3, .int .u8 f4, .int .u8 f5, .slice A0 l0.length c0]] w fun e w' => ∃ v, e = .returned (.tuple #[v, .int .i64 0]) ∧ Kd.R (Kd.int .u8) 5 w' w.heap.size (fun _ => True) v (sealI (encB [t0, t1, t2, t3, t4, t5] [f0, f1, f2, f3, f4, f5] l0)) ∧ Below w.heap.size w w' := by
  have d1 : decide ((1500 : Int) < (l0.length : Int)) = false := decide_eq_false (by omega)
  have HC := Aside0.mk hc0
  have HL := Aside0.mk hl
  have HPU := Aside0.mk (show octet_Put.f 10 (l0.length : Int) 2 = some (beN 2 (l0.length : Int)) by
    have h := put_seat (l0.length : Int) 2 0
    rw [h]
    unfold putL
    rw [if_pos ⟨by decide, by decide, by omega, by show (l0.length : Int) < 2 ^ 16; omega⟩]
    rfl)
  have HBE := Aside0.mk (beN_length 2 (l0.length : Int))
  obtain ⟨p, hp⟩ : ∃ p : Nat, 46 - l0.length = p := ⟨_, rfl⟩
  have hmx : (if (l0.length : Int) < 46 then 46 - (l0.length : Int) else 0) = (p : Int) := by split <;> omega
  have HBYT := Aside0.mk (show byteRow ([t0, t1, t2, t3, t4, t5] ++ [f0, f1, f2, f3, f4, f5] ++ beN 2 (l0.length : Int) ++ l0 ++ List.replicate p 0) by
    intro c hc
    rcases List.mem_append.mp hc with hc | hc
    · rcases List.mem_append.mp hc with hc | hc
      · rcases List.mem_append.mp hc with hc | hc
        · rcases List.mem_append.mp hc with hc | hc
          · exact hbt c hc
          · exact hbf c hc
        · exact beN_bytes 2 _ c hc
      · exact hb c hc
    · rw [List.eq_of_mem_replicate hc]; exact ⟨by decide, by decide⟩)
  have HLEN := Aside0.mk (show ([t0, t1, t2, t3, t4, t5] ++ [f0, f1, f2, f3, f4, f5] ++ beN 2 (l0.length : Int) ++ l0 ++ List.replicate p 0).length < 140737488355000 by
    simp only [List.length_append, List.length_cons, List.length_nil, List.length_replicate, beN_length]
    omega)
  have HEN := Aside0.mk (show encB [t0, t1, t2, t3, t4, t5] [f0, f1, f2, f3, f4, f5] l0 = [t0, t1, t2, t3, t4, t5] ++ [f0, f1, f2, f3, f4, f5] ++ beN 2 (l0.length : Int) ++ l0 ++ List.replicate p 0 by unfold encB; rw [hp])
  have HP := Aside0.mk (show p ≤ 46 by omega)
  generalize hbe : beN 2 (l0.length : Int) = be at HPU HBE HBYT HLEN HEN
  rw [← HEN.out] at HBYT HLEN
  generalize encB [t0, t1, t2, t3, t4, t5] [f0, f1, f2, f3, f4, f5] l0 = G at HBYT HLEN HEN ⊢
  clear hc0 hb hbt hbf hl hp hbe
  have HR := Aside0.mk hr0
  have hm0 : l0.length ≤ 9223372036854775807 := hr0.2.1
  clear hr0
  go_enter Try.func32, Try.ntmps32
  go_wp2_with fail
  have hb0 : ((w.alloc (.cells (tabRow true) 27)).alloc (.cells #[.int .u8 t0, .int .u8 t1, .int .u8 t2, .int .u8 t3, .int .u8 t4, .int .u8 t5, .int .u8 f0, .int .u8 f1, .int .u8 f2, .int .u8 f3, .int .u8 f4, .int .u8 f5, .slice A0 l0.length c0] 45)).heap[w.heap.size]? = some (.cells (tabRow true) 27 (0, 0)) := heap_alloc2_old w _ _
  have hb1 : ((w.alloc (.cells (tabRow true) 27)).alloc (.cells #[.int .u8 t0, .int .u8 t1, .int .u8 t2, .int .u8 t3, .int .u8 t4, .int .u8 t5, .int .u8 f0, .int .u8 f1, .int .u8 f2, .int .u8 f3, .int .u8 f4, .int .u8 f5, .slice A0 l0.length c0] 45)).heap[w.heap.size + 1]? = some (.cells #[.int .u8 t0, .int .u8 t1, .int .u8 t2, .int .u8 t3, .int .u8 t4, .int .u8 t5, .int .u8 f0, .int .u8 f1, .int .u8 f2, .int .u8 f3, .int .u8 f4, .int .u8 f5, .slice A0 l0.length c0] 45 (0, 0)) := heap_alloc2_new w _ _
  have hbw : Below w.heap.size w ((w.alloc (.cells (tabRow true) 27)).alloc (.cells #[.int .u8 t0, .int .u8 t1, .int .u8 t2, .int .u8 t3, .int .u8 t4, .int .u8 t5, .int .u8 f0, .int .u8 f1, .int .u8 f2, .int .u8 f3, .int .u8 f4, .int .u8 f5, .slice A0 l0.length c0] 45)) := below_alloc (below_alloc (Below.refl _ _) _) _
  generalize (w.alloc (.cells (tabRow true) 27)).alloc (.cells #[.int .u8 t0, .int .u8 t1, .int .u8 t2, .int .u8 t3, .int .u8 t4, .int .u8 t5, .int .u8 f0, .int .u8 f1, .int .u8 f2, .int .u8 f3, .int .u8 f4, .int .u8 f5, .slice A0 l0.length c0] 45) = w1 at hb0 hb1 hbw ⊢
  have HB := Aside0.mk hbw
  have HI := Aside0.mk (show IsTab true w1 w.heap.size from hb0)
  have HF := Aside0.mk hb1
  clear hb0 hb1 hbw
  refine (mac_Group.calls f0 f1 f2 f3 f4 f5 _ _ (grp_f _ _ _ _ _ _)).mono ?_
  rintro e w2 ⟨rfl, hB⟩
  replace HF := Aside0.mk (blk_below HF.out hB)
  replace HI := Aside0.mk (HI.out.below hB)
  replace HB := Aside0.mk (below_step HB.out hB)
  have hk12 := (show w2.cell? ⟨w.heap.size + 1, 12, none⟩ = some (.slice A0 l0.length c0) from (blk_cell HF.out 12).trans rfl)
  clear hB
  rw [hg]
  have HX := Aside0.mk (Kd.R_nil (Kd.int .u8) 5 w2 w.heap.size (fun _ => True))
  go_wp2_with (first
    | (at_builtin; refine Kd.R_append_rows (Kd.int .u8) (w0 := w) w.heap.size rfl (.tmp 16) (.tmp 18) 22 5 (.int .u8 0) 1 rfl Try.underlying22 info5 rfl (by decide) (by omega) (.slice none 0 0) [] [t0, t1, t2, t3, t4, t5] (some ⟨w.heap.size + 1, 0, none⟩) 6 6 (fun _ => True) (fun _ => False) rfl rfl HX.out (part_C (off := 0) (xs := [t0, t1, t2, t3, t4, t5]) HF.out rfl (by decide) (six rfl rfl rfl rfl rfl rfl)) (fun _ _ h => h) (fun _ h => h.elim) (fun _ _ => trivial) HB.out HB.out.size (by simp) ?_; intro v3 w3 ho hb hg hat; replace HF := Aside0.mk ((hg.block _ (blk_lt HF.out) (Kd.R_ne HX.out HF.out (by decide))).trans HF.out); replace HI := Aside0.mk (HI.out.grown hg (Kd.R_ne HX.out HI.out (by decide))); have hk12 := (show w3.cell? ⟨w.heap.size + 1, 12, none⟩ = some (.slice A0 l0.length c0) from (blk_cell HF.out 12).trans rfl); replace HX := Aside0.mk ho; replace HB := Aside0.mk hb; clear ho hb hg hat)
    | (at_builtin; refine Kd.R_append_rows (Kd.int .u8) (w0 := w) w.heap.size rfl (.tmp 20) (.tmp 22) 22 5 (.int .u8 0) 1 rfl Try.underlying22 info5 rfl (by decide) (by omega) v3 ([] ++ [t0, t1, t2, t3, t4, t5]) [f0, f1, f2, f3, f4, f5] (some ⟨w.heap.size + 1, 6, none⟩) 6 6 (fun _ => True) (fun _ => False) rfl rfl HX.out (part_C (off := 6) (xs := [f0, f1, f2, f3, f4, f5]) HF.out rfl (by decide) (six rfl rfl rfl rfl rfl rfl)) (fun _ _ h => h) (fun _ h => h.elim) (fun _ _ => trivial) HB.out HB.out.size (by simp) ?_; intro v4 w4 ho hb hg hat; replace HF := Aside0.mk ((hg.block _ (blk_lt HF.out) (Kd.R_ne HX.out HF.out (by decide))).trans HF.out); replace HI := Aside0.mk (HI.out.grown hg (Kd.R_ne HX.out HI.out (by decide))); have hk12 := (show w4.cell? ⟨w.heap.size + 1, 12, none⟩ = some (.slice A0 l0.length c0) from (blk_cell HF.out 12).trans rfl); replace HX := Aside0.mk ho; replace HB := Aside0.mk hb; clear ho hb hg hat))
  refine (octet_Put.calls 10 _ _ _ _ HPU.out).mono ?_
  rintro e w5 ⟨v5, rfl, hR5, hB⟩
  obtain ⟨A5, c5, rfl, hc5, hC5⟩ := Kd.R_reads hR5
  have HC5 := Aside0.mk hC5
  replace HF := Aside0.mk (blk_below HF.out hB)
  replace HI := Aside0.mk (HI.out.below hB)
  replace HX := Aside0.mk (Kd.R_below HX.out hB)
  replace HB := Aside0.mk (below_step HB.out hB)
  have hk12 := (show w5.cell? ⟨w.heap.size + 1, 12, none⟩ = some (.slice A0 l0.length c0) from (blk_cell HF.out 12).trans rfl)
  clear hB hR5 hC5 hc5
  go_wp2_with (first
    | (at_builtin; refine Kd.R_append_rows (Kd.int .u8) (w0 := w) w.heap.size rfl (.tmp 24) (.tmp 28) 22 5 (.int .u8 0) 1 rfl Try.underlying22 info5 rfl (by decide) (by omega) v4 ([] ++ [t0, t1, t2, t3, t4, t5] ++ [f0, f1, f2, f3, f4, f5]) be A5 be.length c5 (fun _ => True) (fun _ => False) rfl rfl HX.out HC5.out (fun _ _ h => h) (fun _ h => h.elim) (fun _ _ => trivial) HB.out HB.out.size (by have := HBE.out; simp only [List.length_append, List.length_cons, List.length_nil]; omega) ?_; intro v6 w6 ho hb hg hat; replace HF := Aside0.mk ((hg.block _ (blk_lt HF.out) (Kd.R_ne HX.out HF.out (by decide))).trans HF.out); replace HI := Aside0.mk (HI.out.grown hg (Kd.R_ne HX.out HI.out (by decide))); have hk12 := (show w6.cell? ⟨w.heap.size + 1, 12, none⟩ = some (.slice A0 l0.length c0) from (blk_cell HF.out 12).trans rfl); replace HX := Aside0.mk ho; replace HB := Aside0.mk hb; clear ho hb hg hat)
    | (at_builtin; refine Kd.R_append_rows (Kd.int .u8) (w0 := w) w.heap.size rfl (.tmp 30) (.tmp 32) 22 5 (.int .u8 0) 1 rfl Try.underlying22 info5 rfl (by decide) (by omega) v6 ([] ++ [t0, t1, t2, t3, t4, t5] ++ [f0, f1, f2, f3, f4, f5] ++ be) l0 A0 l0.length c0 (fun _ => True) (fun _ => False) rfl rfl HX.out (Kd.C_below HR.out HB.out) (fun _ _ h => h) (fun _ h => h.elim) (fun _ _ => trivial) HB.out HB.out.size (by have := HBE.out; have := HL.out; simp only [List.length_append, List.length_cons, List.length_nil]; omega) ?_; intro v7 w7 ho hb hg hat; replace HF := Aside0.mk ((hg.block _ (blk_lt HF.out) (Kd.R_ne HX.out HF.out (by decide))).trans HF.out); replace HI := Aside0.mk (HI.out.grown hg (Kd.R_ne HX.out HI.out (by decide))); have hk12 := (show w7.cell? ⟨w.heap.size + 1, 12, none⟩ = some (.slice A0 l0.length c0) from (blk_cell HF.out 12).trans rfl); replace HX := Aside0.mk ho; replace HB := Aside0.mk hb; clear ho hb hg hat)
    | (at_builtin; refine Kd.R_append_zeros (Kd.int .u8) (w0 := w) w.heap.size rfl (.tmp 34) (.tmp 39) 22 3 5 (.int .u8 0) 1 rfl Try.underlying22 Try.underlying3 info5 rfl (by decide) (by omega) v7 ([] ++ [t0, t1, t2, t3, t4, t5] ++ [f0, f1, f2, f3, f4, f5] ++ be ++ l0) 0 (p : Int) (fun _ => True) rfl rfl rfl (fun _ _ => trivial) HX.out (Int.natCast_nonneg _) HB.out HB.out.size (by have := HBE.out; have := HL.out; have := HP.out; simp only [List.length_append, List.length_cons, List.length_nil, Int.toNat_natCast]; omega) ?_; intro v8 w8 ho hb hg hat; rw [Int.toNat_natCast, show ([] ++ [t0, t1, t2, t3, t4, t5] ++ [f0, f1, f2, f3, f4, f5] ++ be ++ l0 ++ List.replicate p 0) = G from HEN.out.symm] at ho; replace HI := Aside0.mk (HI.out.grown hg (Kd.R_ne HX.out HI.out (by decide))); replace HX := Aside0.mk ho; replace HB := Aside0.mk hb; obtain ⟨A8, c8, rfl, hc8, hC8⟩ := Kd.R_reads ho; have HC8 := Aside0.mk hC8; have Hc8 := Aside0.mk hc8; clear ho hb hg hat hC8 hc8))
  refine wp_load_row 27 (.tmp 2) rfl w.heap.size rfl 27 (tabRow true) (0, 0) _ HI.out Try.underlying27 rfl (tabInf true) ?_
  go_wp2_with fail
  refine (crc_Seal.calls A8 c8 G _ HC8.out Hc8.out HBYT.out HLEN.out).mono ?_
  rintro e w9 ⟨v9, rfl, hR9, hB⟩
  have HR9 := Aside0.mk (Kd.R_lower hR9 HB.out.size)
  replace HB := Aside0.mk (below_step HB.out hB)
  clear hB hR9
  go_wp2_with fail
  go_ret2
  exact ⟨_, rfl, HR9.out, HB.out⟩
end Go.Proofs.Ytpalloofjljhkaa.P
/-! Px57 -/
namespace Go.Proofs.Ytpalloofjljhkaa.P
open Go.RowKit Go.Proofs.YtpalloofjljhkaaW.PrintWords Go.Proofs.YtpalloofjljhkaaW.PrintLast Go.Proofs.YtpalloofjljhkaaW.PrintMore
attribute [local go_sem] max2_int min2_int max_two min_two max_three min_three max_four min_four   -- for this text's walks alone
set_option linter.unusedVariables false
set_option linter.unusedSimpArgs false
def IsRd (w0 W : World) (g : Nat) (l : List Int) (b : Bool) : Prop :=
  ∃ A0 c0, W.heap[g]? = some (.cells #[.slice A0 l.length c0, .bool b] 85 (0, 0)) ∧ w0.heap.size ≤ g ∧ Kd.C (Kd.int .u8) w0 A0 l.length l ∧ l.length ≤ c0
theorem IsRd.below {w0 W W1 : World} {g : Nat} {l : List Int} {b : Bool} (h : IsRd w0 W g l b) (hw : Below W.heap.size W W1) : IsRd w0 W1 g l b := by
  obtain ⟨A0, c0, hb, h2⟩ := h
  exact ⟨A0, c0, (hw.block g (blk_lt hb)).trans hb, h2⟩
theorem IsRd.drewN {w0 W : World} {g : Nat} {l : List Int} {b : Bool} (h : IsRd w0 W g l b) (m : Nat) : IsRd w0 (W.drewN m) g l b := h
theorem IsRd.drew {w0 W : World} {g : Nat} {l : List Int} {b : Bool} (h : IsRd w0 W g l b) : IsRd w0 W.drew g l b := h
theorem octet_New.calls (A0 : Option Addr) (c0 : Nat) (l0 : List Int) (w : World) (hr0 : Kd.C (Kd.int .u8) w A0 l0.length l0) (hc0 : l0.length ≤ c0) (hl : l0.length < 140737488355328) :
    Calls Try.prog 56 #[.slice A0 l0.length c0] w fun e w' => ∃ (g : Nat) (w1 : World), e = .returned (.pointer (some ⟨g, 0, none⟩)) ∧ Below w.heap.size w w1 ∧ Below w1.heap.size w1 w' ∧ IsRd w1 w' g l0 false := by
  have HR := Aside0.mk hr0
  have HC := Aside0.mk hc0
  clear hr0 hc0
  have h0 : bytes_Clone.f l0 = some l0 := by unfold bytes_Clone.f; rw [if_pos hl]
  have H0 := Aside0.mk h0
  clear h0
  go_enter Try.func56, Try.ntmps56
  go_wp2_with (go_at_call 50; refine (bytes_Clone.calls _ _ _ _ _ HR.out HC.out H0.out).mono ?_; rintro e w1 ⟨v0, rfl, hR, hB⟩; obtain ⟨A1, c1, rfl, hc1, hC1⟩ := Kd.R_reads hR; have HC1 := Aside0.mk hC1; have Hc1 := Aside0.mk hc1; have HB1 := Aside0.mk hB; clear hR hB hC1 hc1)
  go_ret
  exact ⟨_, w1, rfl, HB1.out, below_alloc (Below.refl _ _) _, A1, c1, heap_alloc_new _ _, Nat.le_refl _, HC1.out, Hc1.out⟩
end Go.Proofs.Ytpalloofjljhkaa.P
/-! Px58 -/
namespace Go.Proofs.Ytpalloofjljhkaa.P
open Go.RowKit Go.Proofs.YtpalloofjljhkaaW.PrintWords Go.Proofs.YtpalloofjljhkaaW.PrintLast Go.Proofs.YtpalloofjljhkaaW.PrintMore
attribute [local go_sem] max2_int min2_int max_two min_two max_three min_three max_four min_four   -- for this text's walks alone
set_option linter.unusedVariables false
set_option linter.unusedSimpArgs false
theorem only_set {w : World} {g : Nat} (j : Nat) (u : Value) : w.grownBy (w.setCell ⟨g, j, none⟩ u) (some g) :=
  ⟨rfl, rfl, rfl, by simp [World.setCell], fun i _ hne => Below.heap_setCell w _ u i (by rintro rfl; exact hne rfl)⟩
theorem only_drewN {a w : World} {row : Option Nat} (h : a.grownBy w row) (n : Nat) : a.grownBy (w.drewN n) row := ⟨h.os, h.tape, h.output, h.size, h.block⟩
theorem only_below {a w : World} (h : Below a.heap.size a w) (row : Option Nat) : a.grownBy w row := ⟨h.os, h.tape, h.output, h.size, fun i hi _ => h.block i hi⟩
theorem octet_Reader_Raw.yes (w0 w : World) (g : Nat) (l : List Int) (n : Int) (h : IsRd w0 w g l false) (hB : Below w0.heap.size w0 w) (h0 : 0 ≤ n) (hn : n ≤ l.length) (hl : l.length < 140737488355328) :
    Calls Try.prog 57 #[.pointer (some ⟨g, 0, none⟩), .int .i64 n] w fun e w' => ∃ v, e = .returned v ∧ Kd.R (Kd.int .u8) 5 w' w.heap.size (fun _ => True) v (l.take n.toNat) ∧ IsRd w0 w' g (l.drop n.toNat) false ∧ w.grownBy w' (some g) := by
  obtain ⟨i0, hi, hz0, hz1, hz2⟩ := info_parts info5
  obtain ⟨A0, c0, hb, hg, hC, hc⟩ := h
  have hm : n.toNat ≤ l.length := by omega
  have ht : (l.take n.toNat).length = n.toNat := by rw [List.length_take]; omega
  have hcl : Calls Try.prog 50 #[.slice A0 n.toNat c0] w fun e w' => ∃ v0_ : Value, e = .returned (v0_) ∧ Kd.R (Kd.int .u8) 5 w' w.heap.size (fun _ => True) v0_ (l.take n.toNat) ∧ Below w.heap.size w w' := by
    have := bytes_Clone.calls A0 c0 (l.take n.toNat) (l.take n.toNat) w (Kd.C_take (Kd.C_below hC hB) hm) (by omega) (by unfold bytes_Clone.f; rw [if_pos (by omega)])
    rw [ht] at this
    exact this
  have HCL := Aside0.mk hcl
  have q1 := cut_to 22 5 .i64 (P := Try.prog) Try.underlying22 hi A0 l.length c0 n h0 hn hc
  have q2 := cut_from 22 5 .i64 (P := Try.prog) Try.underlying22 hi 1 hz1 A0 l.length c0 n h0 hn
  have hD := Kd.C_drop hC hm hc
  rw [show n.toNat * (Kd.int .u8).sz = n.toNat * 1 from rfl] at hD
  generalize (if c0 = n.toNat then A0 else A0.map (·.add (n.toNat * 1))) = A1 at q2 hD
  rw [List.length_drop] at hD
  have HD := Aside0.mk hD
  have hc0 : w.cell? ⟨g, 0, none⟩ = some (.slice A0 l.length c0) := (blk_cell hb 0).trans rfl
  have hc1 : w.cell? ⟨g, 1, none⟩ = some (.bool false) := (blk_cell hb 1).trans rfl
  have Hb := Aside0.mk hb
  have Hg := Aside0.mk hg
  have Hc := Aside0.mk hc
  have Hm := Aside0.mk hm
  have h2' : decide (n < 0) = false := decide_eq_false (by omega)
  have h3 : decide ((l.length : Int) < n) = false := decide_eq_false (by omega)
  clear hcl hC hD ht hb hg hi hz0 hz1 hz2 hc hm
  go_enter Try.func57, Try.ntmps57
  go_wp2_with (go_at_call 50; refine HCL.out.mono ?_; rintro e w1 ⟨v0, rfl, hR, hB1⟩; have HR1 := Aside0.mk hR; have HB1 := Aside0.mk hB1; have hb1 := blk_below Hb.out hB1; have hd0 : w1.cell? ⟨g, 0, none⟩ = some (.slice A0 l.length c0) := (blk_cell hb1 0).trans rfl; have hf0 : w1.frozen? ⟨g, 0, none⟩ = false := blk_frozen hb1 0; have Hb1 := Aside0.mk hb1; clear hR hB1 hb1)
  go_ret
  have hb1 := Hb1.out
  have hlt := blk_lt Hb.out
  refine ⟨v0, rfl, Kd.R_mono (Kd.R_far (Kd.R_mono (Kd.R_bound HR1.out) (ok' := fun k => k ≠ g) (fun k hk => by have := hk.2.1; omega)) (p := ⟨g, 0, none⟩) (fun k hk => hk) _) (fun _ _ => trivial), ⟨A1, c0 - n.toNat, ?_, Hg.out, by rw [List.length_drop]; exact HD.out, by have := Hc.out; rw [List.length_drop]; omega⟩, World.grownBy.trans (only_below HB1.out _) (only_set 0 _)⟩
  rw [List.length_drop]
  exact blk_put hb1 0 _ rfl
end Go.Proofs.Ytpalloofjljhkaa.P
/-! Px59 -/
namespace Go.Proofs.Ytpalloofjljhkaa.P
open Go.RowKit Go.Proofs.YtpalloofjljhkaaW.PrintWords Go.Proofs.YtpalloofjljhkaaW.PrintLast Go.Proofs.YtpalloofjljhkaaW.PrintMore
attribute [local go_sem] max2_int min2_int max_two min_two max_three min_three max_four min_four   -- for this text's walks alone
set_option linter.unusedVariables false
set_option linter.unusedSimpArgs false
theorem octet_Reader_Num.yes (k : Nat) (w0 w : World) (g : Nat) (l : List Int) (n r : Int) (h : IsRd w0 w g l false) (hB : Below w0.heap.size w0 w) (h1 : 1 ≤ n) (h7 : n ≤ 7) (hn : n ≤ l.length) (hl : l.length < 140737488355328) (hG : octet_Get.f k (l.take n.toNat) = some r) :
    Calls Try.prog 58 #[.pointer (some ⟨g, 0, none⟩), .int .i64 n] w fun e w' => e = .returned (.int .i64 r) ∧ IsRd w0 w' g (l.drop n.toNat) false ∧ w.grownBy w' (some g) := by
  have H := Aside0.mk h
  have HB := Aside0.mk hB
  have HG := Aside0.mk hG
  have hmay : octet_may.f n = some true := by
    unfold octet_may.f
    rw [if_pos (by omega), decide_eq_true (by omega)]
  have HM := Aside0.mk hmay
  have HN := Aside0.mk (And.intro (show 0 ≤ n by omega) (And.intro hn hl))
  have ht : (l.take n.toNat).length = n.toNat := by rw [List.length_take]; omega
  have hget : ∀ (W : World) (A : Option Addr) (c : Nat), (Kd.int .u8).C W A n.toNat (l.take n.toNat) → n.toNat ≤ c → Calls Try.prog 64 #[.slice A n.toNat c] W fun e w' => e = .returned (.int .i64 r) ∧ Drawn0 W w' := by
    intro W A c hC hc
    have := octet_Get.calls k A c (l.take n.toNat) r W (by rw [ht]; exact hC) (by omega) hG
    rwa [ht] at this
  have HGet := Aside0.mk hget
  have HT := Aside0.mk ht
  clear hmay h hB hG h1 h7 hn hl hget ht
  go_enter Try.func58, Try.ntmps58
  go_wp2_with (first
    | (go_at_call 63; refine (octet_may.calls n true _ HM.out).mono ?_; rintro e w1 ⟨rfl, ⟨nd, rfl⟩⟩)
    | (go_at_call 57; refine (octet_Reader_Raw.yes w0 _ g l n (H.out.drewN _) (pw_below_drewN HB.out _) HN.out.1 HN.out.2.1 HN.out.2.2).mono ?_; rintro e w2 ⟨v, rfl, hR, hI2, hg2⟩; obtain ⟨A1, c1, rfl, hc1, hC1⟩ := Kd.R_reads hR; rw [HT.out] at hc1 hC1; rw [HT.out]; have HC1 := Aside0.mk hC1; have Hc1 := Aside0.mk hc1; have HI2 := Aside0.mk hI2; have Hg2 := Aside0.mk hg2; clear hR hI2 hg2 hc1 hC1)
    | (go_at_call 64; refine (HGet.out _ _ _ HC1.out Hc1.out).mono ?_; rintro e w3 ⟨rfl, ⟨nd3, rfl⟩⟩))
  go_ret
  exact ⟨rfl, HI2.out.drewN _, World.grownBy.trans (only_below (Drawn0.below ⟨⟨nd, rfl⟩⟩) _) (only_drewN Hg2.out _)⟩
end Go.Proofs.Ytpalloofjljhkaa.P
/-! Px60 -/
namespace Go.Proofs.Ytpalloofjljhkaa.P
open Go.RowKit Go.Proofs.YtpalloofjljhkaaW.PrintWords Go.Proofs.YtpalloofjljhkaaW.PrintLast Go.Proofs.YtpalloofjljhkaaW.PrintMore
attribute [local go_sem] max2_int min2_int max_two min_two max_three min_three max_four min_four   -- for this text's walks alone
set_option linter.unusedVariables false
set_option linter.unusedSimpArgs false
theorem octet_Reader_Left.rd (w0 w : World) (g : Nat) (l : List Int) (b : Bool) (h : IsRd w0 w g l b) :
    Calls Try.prog 59 #[.pointer (some ⟨g, 0, none⟩)] w fun e w' => e = .returned (.int .i64 l.length) ∧ w = w' := by
  obtain ⟨A0, c0, hb, hg, hC, hc⟩ := h
  have hc0 : w.cell? ⟨g, 0, none⟩ = some (.slice A0 l.length c0) := (blk_cell hb 0).trans rfl
  clear hb hC hg
  go_enter Try.func59, Try.ntmps59
  go_wp2
  go_ret
  exact ⟨rfl, rfl⟩
end Go.Proofs.Ytpalloofjljhkaa.P
/-! Px61 -/
namespace Go.Proofs.Ytpalloofjljhkaa.P
open Go.RowKit Go.Proofs.YtpalloofjljhkaaW.PrintWords Go.Proofs.YtpalloofjljhkaaW.PrintLast Go.Proofs.YtpalloofjljhkaaW.PrintMore
attribute [local go_sem] max2_int min2_int max_two min_two max_three min_three max_four min_four   -- for this text's walks alone
set_option linter.unusedVariables false
set_option linter.unusedSimpArgs false
theorem octet_Reader_Rest.yes (w0 w : World) (g : Nat) (l : List Int) (h : IsRd w0 w g l false) (hB : Below w0.heap.size w0 w) (hl : l.length < 140737488355328) :
    Calls Try.prog 60 #[.pointer (some ⟨g, 0, none⟩)] w fun e w' => ∃ v, e = .returned v ∧ Kd.R (Kd.int .u8) 5 w' w.heap.size (fun _ => True) v l ∧ IsRd w0 w' g [] false ∧ w.grownBy w' (some g) := by
  have H := Aside0.mk h
  have HB := Aside0.mk hB
  have HL := Aside0.mk hl
  clear h hB
  go_enter Try.func60, Try.ntmps60
  go_wp2_with (first
    | (go_at_call 59; refine (octet_Reader_Left.rd w0 _ g l false H.out).mono ?_; rintro e w1 ⟨rfl, rfl⟩)
    | (go_at_call 57; refine (octet_Reader_Raw.yes w0 _ g l l.length H.out HB.out (by omega) (Int.le_refl _) HL.out).mono ?_; rintro e w2 ⟨v, rfl, hR, hI2, hg2⟩; obtain ⟨A1, c1, rfl, hc1, hC1⟩ := Kd.R_reads hR; have HR := Aside0.mk hR; have HI2 := Aside0.mk hI2; have Hg2 := Aside0.mk hg2; clear hR hI2 hg2 hc1 hC1))
  go_ret
  have hR := HR.out
  have hI := HI2.out
  rw [Int.toNat_natCast, List.take_length] at hR
  rw [Int.toNat_natCast, List.drop_length] at hI
  exact ⟨_, rfl, by simpa using hR, hI, Hg2.out⟩
end Go.Proofs.Ytpalloofjljhkaa.P
/-! Dec0 -/
namespace Go.Proofs.Ytpalloofjljhkaa.P
open Go.RowKit Go.Proofs.Ytpalloofjljhkaa.Lib Go.Proofs.YtpalloofjljhkaaW.PrintWords Go.Proofs.YtpalloofjljhkaaW.PrintLast Go.Proofs.YtpalloofjljhkaaW.PrintMore
set_option linter.unusedVariables false
set_option linter.unusedSimpArgs false
def hdv (x : List Int) (i : Nat) : Int := x.getD i 0
def be16 (x : List Int) : Int := hdv x 12 * 256 + hdv x 13
def headOk (x : List Int) : Bool := !isGrp (hdv x 6) && decide (be16 x ≤ 1500) && decide ((x.length : Int) - 14 = if be16 x < 46 then 46 else be16 x)
def padOk (x : List Int) : Bool := (x.drop (14 + (be16 x).toNat)).all (· == 0)
def decE (l : List Int) : Int := if l.length < 64 then 2 else if openB l then (if headOk (openL l) && padOk (openL l) then 0 else 4) else 5
def decH (l : List Int) (i : Nat) : Int := if decE l = 0 then hdv (openL l) i else 0
def decD (l : List Int) : List Int := if decE l = 0 then ((openL l).drop 14).take (be16 (openL l)).toNat else []
abbrev frame (h : Nat → Int) (A : Option Addr) (n c : Nat) : Array Value := #[.int .u8 (h 0), .int .u8 (h 1), .int .u8 (h 2), .int .u8 (h 3), .int .u8 (h 4), .int .u8 (h 5), .int .u8 (h 6), .int .u8 (h 7), .int .u8 (h 8), .int .u8 (h 9), .int .u8 (h 10), .int .u8 (h 11), .slice A n c]
section
variable {P : Program}
theorem wpList_store_part {ops : Array Oper} {rest : List Oper} {op : Oper} {a : Act} {w : World} {Q : Exit → Act → World → Prop} (hgd : op.guard = none) (ty : TypeId) (x y : Operand) (ho : op.op = .store ty x y)
    (g o : Nat) (cs Z Z' : Array Value) (t : TypeId) (hx : a.eval x = .pointer (some ⟨g, o, none⟩)) (hy : a.eval y = .agg cs) (hZ : w.heap[g]? = some (.cells Z t (0, 0))) (hfit : o + cs.size ≤ Z.size) (hov : overRow Z o cs.toList = Z')
    (hi : (P.info? ty).map (·.size) = some cs.size) (h1 : cs.toList.all (·.oneCell') = true)
    (h : ∀ W', W'.heap[g]? = some (.cells Z' t (0, 0)) → w.grownBy W' (some g) → wpList P ops Q rest (a.put op.dst undef) W') : wpList P ops Q (op :: rest) a w := by
  have ht : w.there g o cs.size := fun j hj => ⟨by rw [blk_cell hZ (o + j), Array.getElem?_eq_getElem (by omega)]; rfl, blk_frozen hZ _⟩
  refine wpList_store_mid hgd ty x y ho g o cs hx hy ht hi (Array.all_eq_true_iff_forall_mem.2 (fun v hv => List.all_eq_true.1 h1 v (by simpa using hv))) (h _ ?_ (grown_setCells _ _ _ _))
  rw [← hov]
  exact heap_setCells g t cs.toList o w Z hZ
end
theorem results_frame {fn : Func} {p q : Tmp} (h : fn.results = #[.cell p 45, .tmp q]) (tmps : Array Value) (w : World) (g : Nat) (cs : Array Value) (hs : cs.size = 13)
    (hp : tmps.getD p undef = .pointer (some ⟨g, 0, none⟩)) (hg : w.heap[g]? = some (.cells cs 45 (0, 0))) : (results fn tmps).run Try.prog w = .ok (.tuple #[.agg cs, tmps.getD q undef]) w := by
  have hp' : tmps[p]?.getD undef = .pointer (some ⟨g, 0, none⟩) := by simpa using hp
  have hi : (Try.prog.info? 45).map (·.size) = some cs.size := by rw [hs]; kernel_rfl
  have hl := run_loadVar_row w g 45 45 cs (0, 0) _ hg Try.underlying45 rfl hi
  simp [results, h, hp', asAddr, hl]
theorem R_some_ {e base : Nat} {ok : Nat → Prop} {W : World} {A : Option Addr} {n c : Nat} {xs : List Int} (h : Kd.R (Kd.int .u8) e W base ok (.slice A n c) xs) (hn : 0 < xs.length) : ∃ g, A = some ⟨g, 0, none⟩ := by
  obtain ⟨_, inner, ho, _⟩ := h
  rcases ho.2 with ⟨_, h0⟩ | ⟨g, cap, cur, he, _⟩
  · omega
  · injection he with h1
    exact ⟨g, h1⟩
theorem get2 {X : List Int} (hb : byteRow X) (h : 14 ≤ X.length) : octet_Get.f 10 ((X.drop 12).take 2) = some (be16 X) := by
  have h1 : X.drop 12 = hdv X 12 :: X.drop 13 := by
    unfold hdv
    rw [List.getD_eq_getElem?_getD, List.getElem?_eq_getElem (show 12 < X.length by omega)]
    exact List.drop_eq_getElem_cons (by omega)
  have h2 : X.drop 13 = hdv X 13 :: X.drop 14 := by
    unfold hdv
    rw [List.getD_eq_getElem?_getD, List.getElem?_eq_getElem (show 13 < X.length by omega)]
    exact List.drop_eq_getElem_cons (by omega)
  have b1 : 0 ≤ hdv X 12 ∧ hdv X 12 < 256 := getD_byte hb 12
  have b2 : 0 ≤ hdv X 13 ∧ hdv X 13 < 256 := getD_byte hb 13
  have e : (X.drop 12).take 2 = [hdv X 12, hdv X 13] := by rw [h1, h2]; rfl
  have hbb : Bytes [hdv X 12, hdv X 13] := by
    intro c hc
    simp only [List.mem_cons, List.not_mem_nil, or_false] at hc
    rcases hc with rfl | rfl
    · exact b1
    · exact b2
  rw [e, get_seat [hdv X 12, hdv X 13] hbb 0]
  unfold getL be16 numL
  simp
theorem be16_nat {X : List Int} (hb : byteRow X) : ∃ n : Nat, be16 X = (n : Int) ∧ n ≤ 65535 := by
  have b1 := getD_byte hb 12
  have b2 := getD_byte hb 13
  refine ⟨(be16 X).toNat, ?_, ?_⟩ <;> unfold be16 hdv <;> omega
theorem R_pastG {e base : Nat} {ok : Nat → Prop} {W W1 : World} {v : Value} {xs : List Int} {q : Nat} (h : Kd.R (Kd.int .u8) e W base ok v xs) (hg : W.grownBy W1 (some q)) (hq : q < base) : Kd.R (Kd.int .u8) e W1 base ok v xs :=
  Kd.R_mono (Kd.R_grown (Kd.R_mono (Kd.R_bound h) (ok' := fun k => ok k ∧ base ≤ k) (fun k hk => ⟨hk.1, hk.2.1⟩)) hg (fun k hk e => by have := Option.some.inj e; have := hk.2; omega)) (fun k hk => hk.1)
theorem frame_no {l : List Int} (h : decE l = 4) : frame (decH l) none (decD l).length 0 = #[.int .u8 0, .int .u8 0, .int .u8 0, .int .u8 0, .int .u8 0, .int .u8 0, .int .u8 0, .int .u8 0, .int .u8 0, .int .u8 0, .int .u8 0, .int .u8 0, .slice none 0 0] ∧ decD l = [] := by
  have h1 : decD l = [] := by unfold decD; rw [h, if_neg (by decide)]
  have h2 : ∀ i, decH l i = 0 := fun i => by unfold decH; rw [h, if_neg (by decide)]
  refine ⟨?_, h1⟩
  unfold frame
  rw [h1, h2, h2, h2, h2, h2, h2, h2, h2, h2, h2, h2, h2]
  rfl
theorem frame_yes {l X : List Int} (h : decE l = 0) (hX : openL l = X) (A : Option Addr) (n c : Nat) : frame (decH l) A n c = #[.int .u8 (hdv X 0), .int .u8 (hdv X 1), .int .u8 (hdv X 2), .int .u8 (hdv X 3), .int .u8 (hdv X 4), .int .u8 (hdv X 5), .int .u8 (hdv X 6), .int .u8 (hdv X 7), .int .u8 (hdv X 8), .int .u8 (hdv X 9), .int .u8 (hdv X 10), .int .u8 (hdv X 11), .slice A n c] := by
  have h2 : ∀ i, decH l i = hdv X i := fun i => by unfold decH; rw [h, if_pos rfl, hX]
  unfold frame
  rw [h2, h2, h2, h2, h2, h2, h2, h2, h2, h2, h2, h2]
theorem C_nil (w : World) : Kd.C (Kd.int .u8) w none 0 [] := ⟨rfl, Nat.zero_le _, fun h => absurd h (Nat.lt_irrefl 0)⟩
theorem info43_ : (Try.prog.info? 43).map (·.size) = some 6 := by kernel_rfl
theorem info45_ : (Try.prog.info? 45).map (·.size) = some 13 := by kernel_rfl
theorem blk_grown_ {w w1 : World} {g q : Nat} {o : Obj} (h : w.heap[g]? = some o) (hg : w.grownBy w1 (some q)) (hne : g ≠ q) : w1.heap[g]? = some o := (hg.block g (blk_lt h) (fun e => hne (Option.some.inj e))).trans h
theorem below_own {w w1 w2 : World} {g : Nat} (h : Below w.heap.size w w1) (hg : w1.grownBy w2 (some g)) (hle : w.heap.size ≤ g) : Below w.heap.size w w2 := h.grown hg h.size (fun k hk => by cases hk; exact hle)
theorem IsRd.own {w0 W W1 : World} {g q : Nat} {l : List Int} {b : Bool} (h : IsRd w0 W g l b) (hg : W.grownBy W1 (some q)) (hne : g ≠ q) : IsRd w0 W1 g l b := by
  obtain ⟨A0, c0, hb, h2⟩ := h
  exact ⟨A0, c0, (hg.block g (blk_lt hb) (fun e => hne (Option.some.inj e))).trans hb, h2⟩
theorem IsRd.lt {w0 W : World} {g : Nat} {l : List Int} {b : Bool} (h : IsRd w0 W g l b) : g < W.heap.size ∧ w0.heap.size ≤ g := by
  obtain ⟨A0, c0, hb, h2, _⟩ := h
  exact ⟨blk_lt hb, h2⟩
end Go.Proofs.Ytpalloofjljhkaa.P
/-! Dec -/
namespace Go.Proofs.Ytpalloofjljhkaa.P
open Go.RowKit Go.Proofs.Ytpalloofjljhkaa.Lib Go.Proofs.YtpalloofjljhkaaW.PrintWords Go.Proofs.YtpalloofjljhkaaW.PrintLast Go.Proofs.YtpalloofjljhkaaW.PrintMore
set_option linter.unusedVariables false
set_option linter.unusedSimpArgs false
attribute [local go_sem] max2_int min2_int max_two min_two max_three min_three max_four min_four   -- for this text's walks alone
set_option maxHeartbeats 8000000 in
set_option maxRecDepth 100000 in
theorem mac_Decode.short (A0 : Option Addr) (c0 : Nat) (l0 : List Int) (w : World) (hr0 : Kd.C (Kd.int .u8) w A0 l0.length l0) (hc0 : l0.length ≤ c0) (hl : l0.length < 64) :
    Calls Try.prog 34 #[tabV true, .slice A0 l0.length c0] w fun e w' => e = .returned (.tuple #[.agg #[.int .u8 0, .int .u8 0, .int .u8 0, .int .u8 0, .int .u8 0, .int .u8 0, .int .u8 0, .int .u8 0, .int .u8 0, .int .u8 0, .int .u8 0, .int .u8 0, .slice none 0 0], .int .i64 2]) ∧ Below w.heap.size w w' := by
  have d1 : decide ((l0.length : Int) < 64) = true := decide_eq_true (by omega)
  have HR := Aside0.mk hr0
  have HC := Aside0.mk hc0
  have hm0 : l0.length ≤ 9223372036854775807 := hr0.2.1
  have hu45 := Try.underlying45
  have harr : ∀ (W : World) (a : Option Addr) (c : Nat), (Instr.arrayAt 43 (.slice a 6 c)).run Try.prog W = .ok (.pointer a) W := fun W a c => run_arrayAt (w := W) 43 5 6 a 6 c Try.underlying43 (Nat.le_refl _)
  clear hr0 hc0
  go_enter Try.func34, Try.ntmps34
  go_upto_region 1 with fail
  have hb0 : ((w.alloc (.cells (tabRow true) 27)).alloc (.cells #[.int .u8 0, .int .u8 0, .int .u8 0, .int .u8 0, .int .u8 0, .int .u8 0, .int .u8 0, .int .u8 0, .int .u8 0, .int .u8 0, .int .u8 0, .int .u8 0, .slice none 0 0] 45)).heap[w.heap.size]? = some (.cells (tabRow true) 27 (0, 0)) := heap_alloc2_old w _ _
  have hb1 : ((w.alloc (.cells (tabRow true) 27)).alloc (.cells #[.int .u8 0, .int .u8 0, .int .u8 0, .int .u8 0, .int .u8 0, .int .u8 0, .int .u8 0, .int .u8 0, .int .u8 0, .int .u8 0, .int .u8 0, .int .u8 0, .slice none 0 0] 45)).heap[w.heap.size + 1]? = some (.cells #[.int .u8 0, .int .u8 0, .int .u8 0, .int .u8 0, .int .u8 0, .int .u8 0, .int .u8 0, .int .u8 0, .int .u8 0, .int .u8 0, .int .u8 0, .int .u8 0, .slice none 0 0] 45 (0, 0)) := heap_alloc2_new w _ _
  have hbw : Below w.heap.size w ((w.alloc (.cells (tabRow true) 27)).alloc (.cells #[.int .u8 0, .int .u8 0, .int .u8 0, .int .u8 0, .int .u8 0, .int .u8 0, .int .u8 0, .int .u8 0, .int .u8 0, .int .u8 0, .int .u8 0, .int .u8 0, .slice none 0 0] 45)) := below_alloc (below_alloc (Below.refl _ _) _) _
  generalize (w.alloc (.cells (tabRow true) 27)).alloc (.cells #[.int .u8 0, .int .u8 0, .int .u8 0, .int .u8 0, .int .u8 0, .int .u8 0, .int .u8 0, .int .u8 0, .int .u8 0, .int .u8 0, .int .u8 0, .int .u8 0, .slice none 0 0] 45) = w1 at hb0 hb1 hbw ⊢
  have HB := Aside0.mk hbw
  have HI := Aside0.mk (show IsTab true w1 w.heap.size from hb0)
  have H2 := Aside0.mk hb1
  clear hb0 hb1 hbw
  go_wp2_with (first
    | (refine wpList_store_part rfl 45 (.tmp 4) (.tmp 16) rfl (w.heap.size + 1) 0 #[.int .u8 0, .int .u8 0, .int .u8 0, .int .u8 0, .int .u8 0, .int .u8 0, .int .u8 0, .int .u8 0, .int .u8 0, .int .u8 0, .int .u8 0, .int .u8 0, .slice none 0 0] #[.int .u8 0, .int .u8 0, .int .u8 0, .int .u8 0, .int .u8 0, .int .u8 0, .int .u8 0, .int .u8 0, .int .u8 0, .int .u8 0, .int .u8 0, .int .u8 0, .slice none 0 0] #[.int .u8 0, .int .u8 0, .int .u8 0, .int .u8 0, .int .u8 0, .int .u8 0, .int .u8 0, .int .u8 0, .int .u8 0, .int .u8 0, .int .u8 0, .int .u8 0, .slice none 0 0] 45 rfl rfl H2.out (by decide) (by rfl) info45_ (by rfl) ?_; intro wz hZ hG; replace H2 := Aside0.mk hZ; replace HB := Aside0.mk (below_own HB.out hG (Nat.le_succ _)); clear hZ hG))
  exact bodyPost_ret (results_frame rfl _ _ (w.heap.size + 1) _ rfl rfl H2.out) rfl ⟨rfl, HB.out⟩
set_option maxHeartbeats 8000000 in
set_option maxRecDepth 100000 in
theorem mac_Decode.sum (A0 : Option Addr) (c0 : Nat) (l0 : List Int) (w : World) (hr0 : Kd.C (Kd.int .u8) w A0 l0.length l0) (hc0 : l0.length ≤ c0) (hl : 64 ≤ l0.length) (hb : byteRow l0) (hmx : l0.length < 140737488355000) (hop : openB l0 = false) :
    Calls Try.prog 34 #[tabV true, .slice A0 l0.length c0] w fun e w' => e = .returned (.tuple #[.agg #[.int .u8 0, .int .u8 0, .int .u8 0, .int .u8 0, .int .u8 0, .int .u8 0, .int .u8 0, .int .u8 0, .int .u8 0, .int .u8 0, .int .u8 0, .int .u8 0, .slice none 0 0], .int .i64 5]) ∧ Below w.heap.size w w' := by
  have d1 : decide ((l0.length : Int) < 64) = false := decide_eq_false (by omega)
  have HOP := Aside0.mk hop
  have HBY := Aside0.mk hb
  have HMX := Aside0.mk hmx
  clear hop hb hmx
  have HR := Aside0.mk hr0
  have HC := Aside0.mk hc0
  have hm0 : l0.length ≤ 9223372036854775807 := hr0.2.1
  have hu45 := Try.underlying45
  have harr : ∀ (W : World) (a : Option Addr) (c : Nat), (Instr.arrayAt 43 (.slice a 6 c)).run Try.prog W = .ok (.pointer a) W := fun W a c => run_arrayAt (w := W) 43 5 6 a 6 c Try.underlying43 (Nat.le_refl _)
  clear hr0 hc0
  go_enter Try.func34, Try.ntmps34
  go_upto_region 1 with fail
  have hb0 : ((w.alloc (.cells (tabRow true) 27)).alloc (.cells #[.int .u8 0, .int .u8 0, .int .u8 0, .int .u8 0, .int .u8 0, .int .u8 0, .int .u8 0, .int .u8 0, .int .u8 0, .int .u8 0, .int .u8 0, .int .u8 0, .slice none 0 0] 45)).heap[w.heap.size]? = some (.cells (tabRow true) 27 (0, 0)) := heap_alloc2_old w _ _
  have hb1 : ((w.alloc (.cells (tabRow true) 27)).alloc (.cells #[.int .u8 0, .int .u8 0, .int .u8 0, .int .u8 0, .int .u8 0, .int .u8 0, .int .u8 0, .int .u8 0, .int .u8 0, .int .u8 0, .int .u8 0, .int .u8 0, .slice none 0 0] 45)).heap[w.heap.size + 1]? = some (.cells #[.int .u8 0, .int .u8 0, .int .u8 0, .int .u8 0, .int .u8 0, .int .u8 0, .int .u8 0, .int .u8 0, .int .u8 0, .int .u8 0, .int .u8 0, .int .u8 0, .slice none 0 0] 45 (0, 0)) := heap_alloc2_new w _ _
  have hbw : Below w.heap.size w ((w.alloc (.cells (tabRow true) 27)).alloc (.cells #[.int .u8 0, .int .u8 0, .int .u8 0, .int .u8 0, .int .u8 0, .int .u8 0, .int .u8 0, .int .u8 0, .int .u8 0, .int .u8 0, .int .u8 0, .int .u8 0, .slice none 0 0] 45)) := below_alloc (below_alloc (Below.refl _ _) _) _
  generalize (w.alloc (.cells (tabRow true) 27)).alloc (.cells #[.int .u8 0, .int .u8 0, .int .u8 0, .int .u8 0, .int .u8 0, .int .u8 0, .int .u8 0, .int .u8 0, .int .u8 0, .int .u8 0, .int .u8 0, .int .u8 0, .slice none 0 0] 45) = w1 at hb0 hb1 hbw ⊢
  have HB := Aside0.mk hbw
  have HI := Aside0.mk (show IsTab true w1 w.heap.size from hb0)
  have H2 := Aside0.mk hb1
  clear hb0 hb1 hbw
  go_wp2_with fail
  refine wp_load_row 27 (.tmp 2) rfl w.heap.size rfl 27 (tabRow true) (0, 0) _ HI.out Try.underlying27 rfl (tabInf true) ?_
  go_wp2_with fail
  refine (crc_Open.calls _ _ _ _ (Kd.C_below HR.out HB.out) HC.out HBY.out HMX.out).mono ?_
  rintro e w4 ⟨v4, rfl, hR, hB⟩
  rw [HOP.out]
  replace H2 := Aside0.mk (blk_below H2.out hB)
  replace HB := Aside0.mk (below_step HB.out hB)
  clear hB hR
  go_wp2_with (first
    | (refine wpList_store_part rfl 45 (.tmp 4) (.tmp 25) rfl (w.heap.size + 1) 0 #[.int .u8 0, .int .u8 0, .int .u8 0, .int .u8 0, .int .u8 0, .int .u8 0, .int .u8 0, .int .u8 0, .int .u8 0, .int .u8 0, .int .u8 0, .int .u8 0, .slice none 0 0] #[.int .u8 0, .int .u8 0, .int .u8 0, .int .u8 0, .int .u8 0, .int .u8 0, .int .u8 0, .int .u8 0, .int .u8 0, .int .u8 0, .int .u8 0, .int .u8 0, .slice none 0 0] #[.int .u8 0, .int .u8 0, .int .u8 0, .int .u8 0, .int .u8 0, .int .u8 0, .int .u8 0, .int .u8 0, .int .u8 0, .int .u8 0, .int .u8 0, .int .u8 0, .slice none 0 0] 45 rfl rfl H2.out (by decide) (by rfl) info45_ (by rfl) ?_; intro wz hZ hG; replace H2 := Aside0.mk hZ; replace HB := Aside0.mk (below_own HB.out hG (Nat.le_succ _)); clear hZ hG))
  exact bodyPost_ret (results_frame rfl _ _ (w.heap.size + 1) _ rfl rfl H2.out) rfl ⟨rfl, HB.out⟩
set_option maxHeartbeats 8000000 in
set_option maxRecDepth 100000 in
theorem mac_Decode.body (A0 : Option Addr) (c0 : Nat) (l0 : List Int) (w : World) (hr0 : Kd.C (Kd.int .u8) w A0 l0.length l0) (hc0 : l0.length ≤ c0) (hl : 64 ≤ l0.length) (hb : byteRow l0) (hmx : l0.length < 140737488355000) (hop : openB l0 = true) :
    Calls Try.prog 34 #[tabV true, .slice A0 l0.length c0] w fun e w' => ∃ A c, e = .returned (.tuple #[.agg (frame (decH l0) A (decD l0).length c), .int .i64 (decE l0)]) ∧ (decD l0).length ≤ c ∧ Kd.C (Kd.int .u8) w' A (decD l0).length (decD l0) ∧ Below w.heap.size w w' := by
  have d1 : decide ((l0.length : Int) < 64) = false := decide_eq_false (by omega)
  have HOP := Aside0.mk hop
  have HBY := Aside0.mk hb
  have HMX := Aside0.mk hmx
  obtain ⟨X, hX⟩ : ∃ X, openL l0 = X := ⟨_, rfl⟩
  have hXe : X = l0.take (l0.length - 4) := by rw [← hX]; unfold openL; rw [hop, if_pos rfl]
  have HXL := Aside0.mk (show 60 ≤ X.length ∧ X.length < 140737488355000 by rw [hXe, List.length_take]; omega)
  have HXB := Aside0.mk (show byteRow X by rw [hXe]; exact fun c hc => hb c (List.mem_of_mem_take hc))
  have HX := Aside0.mk hX
  have HDE := Aside0.mk (show decE l0 = if headOk X && padOk X then 0 else 4 by unfold decE; rw [if_neg (by omega), hop, if_pos rfl, hX])
  have HDH := Aside0.mk (show decH l0 = fun i => if decE l0 = 0 then hdv X i else 0 by unfold decH; rw [hX])
  have HDD := Aside0.mk (show decD l0 = if decE l0 = 0 then (X.drop 14).take (be16 X).toNat else [] by unfold decD; rw [hX])
  clear hop hb hmx hX hXe
  have HR := Aside0.mk hr0
  have HC := Aside0.mk hc0
  have hm0 : l0.length ≤ 9223372036854775807 := hr0.2.1
  have hu45 := Try.underlying45
  have harr : ∀ (W : World) (a : Option Addr) (c : Nat), (Instr.arrayAt 43 (.slice a 6 c)).run Try.prog W = .ok (.pointer a) W := fun W a c => run_arrayAt (w := W) 43 5 6 a 6 c Try.underlying43 (Nat.le_refl _)
  clear hr0 hc0
  go_enter Try.func34, Try.ntmps34
  go_upto_region 1 with fail
  have hb0 : ((w.alloc (.cells (tabRow true) 27)).alloc (.cells #[.int .u8 0, .int .u8 0, .int .u8 0, .int .u8 0, .int .u8 0, .int .u8 0, .int .u8 0, .int .u8 0, .int .u8 0, .int .u8 0, .int .u8 0, .int .u8 0, .slice none 0 0] 45)).heap[w.heap.size]? = some (.cells (tabRow true) 27 (0, 0)) := heap_alloc2_old w _ _
  have hb1 : ((w.alloc (.cells (tabRow true) 27)).alloc (.cells #[.int .u8 0, .int .u8 0, .int .u8 0, .int .u8 0, .int .u8 0, .int .u8 0, .int .u8 0, .int .u8 0, .int .u8 0, .int .u8 0, .int .u8 0, .int .u8 0, .slice none 0 0] 45)).heap[w.heap.size + 1]? = some (.cells #[.int .u8 0, .int .u8 0, .int .u8 0, .int .u8 0, .int .u8 0, .int .u8 0, .int .u8 0, .int .u8 0, .int .u8 0, .int .u8 0, .int .u8 0, .int .u8 0, .slice none 0 0] 45 (0, 0)) := heap_alloc2_new w _ _
  have hbw : Below w.heap.size w ((w.alloc (.cells (tabRow true) 27)).alloc (.cells #[.int .u8 0, .int .u8 0, .int .u8 0, .int .u8 0, .int .u8 0, .int .u8 0, .int .u8 0, .int .u8 0, .int .u8 0, .int .u8 0, .int .u8 0, .int .u8 0, .slice none 0 0] 45)) := below_alloc (below_alloc (Below.refl _ _) _) _
  generalize (w.alloc (.cells (tabRow true) 27)).alloc (.cells #[.int .u8 0, .int .u8 0, .int .u8 0, .int .u8 0, .int .u8 0, .int .u8 0, .int .u8 0, .int .u8 0, .int .u8 0, .int .u8 0, .int .u8 0, .int .u8 0, .slice none 0 0] 45) = w1 at hb0 hb1 hbw ⊢
  have HB := Aside0.mk hbw
  have HI := Aside0.mk (show IsTab true w1 w.heap.size from hb0)
  have H2 := Aside0.mk hb1
  clear hb0 hb1 hbw
  go_wp2_with fail
  refine wp_load_row 27 (.tmp 2) rfl w.heap.size rfl 27 (tabRow true) (0, 0) _ HI.out Try.underlying27 rfl (tabInf true) ?_
  go_wp2_with fail
  refine (crc_Open.calls _ _ _ _ (Kd.C_below HR.out HB.out) HC.out HBY.out HMX.out).mono ?_
  rintro e w4 ⟨v4, rfl, hR, hB⟩
  rw [HOP.out]
  rw [HX.out] at hR
  obtain ⟨A4, c4, rfl, hc4, hC4⟩ := Kd.R_reads hR
  have HC4 := Aside0.mk hC4
  have Hc4 := Aside0.mk hc4
  replace H2 := Aside0.mk (blk_below H2.out hB)
  replace HB := Aside0.mk (below_step HB.out hB)
  clear hB hR hC4 hc4 HI
  go_wp2_with fail
  refine (octet_New.calls A4 c4 X _ HC4.out Hc4.out (by have := HXL.out; omega)).mono ?_
  rintro e w6 ⟨gr, w5, rfl, hB1, hB2, hI⟩
  have hlt := hI.lt
  have h2lt := blk_lt H2.out
  have hle := hB1.size
  replace H2 := Aside0.mk (blk_below (blk_below H2.out hB1) hB2)
  replace HB := Aside0.mk (below_step (below_step HB.out hB1) hB2)
  have HRD6 := Aside0.mk hI
  have HB56 := Aside0.mk hB2
  have HN6 := Aside0.mk (And.intro (show w.heap.size + 1 < gr by omega) (And.intro hlt.1 hlt.2))
  clear hI hB1 hB2 hlt h2lt hle
  go_upto_region 8 with fail
  have hbf := blk_new w6 (.cells #[.int .u8 0, .int .u8 0, .int .u8 0, .int .u8 0, .int .u8 0, .int .u8 0, .int .u8 0, .int .u8 0, .int .u8 0, .int .u8 0, .int .u8 0, .int .u8 0, .slice none 0 0] 45 (0, 0))
  have hbw := below_alloc (Below.refl w6.heap.size w6) (.cells #[.int .u8 0, .int .u8 0, .int .u8 0, .int .u8 0, .int .u8 0, .int .u8 0, .int .u8 0, .int .u8 0, .int .u8 0, .int .u8 0, .int .u8 0, .int .u8 0, .slice none 0 0] 45 (0, 0))
  generalize hw7 : w6.alloc (.cells #[.int .u8 0, .int .u8 0, .int .u8 0, .int .u8 0, .int .u8 0, .int .u8 0, .int .u8 0, .int .u8 0, .int .u8 0, .int .u8 0, .int .u8 0, .int .u8 0, .slice none 0 0] 45) = w7 at hbf hbw ⊢
  obtain ⟨gf, hgf⟩ : ∃ gf, w6.heap.size = gf := ⟨_, rfl⟩
  have HRD := Aside0.mk (HRD6.out.below hbw)
  have HB5 := Aside0.mk (below_step HB56.out hbw)
  replace H2 := Aside0.mk (blk_below H2.out hbw)
  replace HB := Aside0.mk (below_step HB.out hbw)
  rw [hgf] at hbf ⊢
  have HF := Aside0.mk hbf
  have HN := Aside0.mk (show w.heap.size + 1 < gr ∧ gr < gf ∧ w5.heap.size ≤ gr by have := HN6.out; omega)
  clear hbf hbw hw7 hgf HRD6 HB56 HN6
  go_wp2_with fail
  refine (octet_Reader_Raw.yes w5 _ gr X 6 HRD.out HB5.out (by decide) (by have := HXL.out; first | omega | (simp only [List.length_drop]; omega)) (by have := HXL.out; first | omega | (simp only [List.length_drop]; omega))).mono ?_
  rintro e w8 ⟨v_, rfl, hR, hI, hG⟩
  obtain ⟨A_, c_, rfl⟩ := Kd.R_slice hR
  have hl6 : (X.take (6 : Int).toNat).length = 6 := by have := HXL.out; rw [List.length_take]; first | (simp only [List.length_drop]; show min 6 _ = 6; omega) | (show min 6 _ = 6; omega)
  obtain ⟨g_, rfl⟩ := R_some_ hR (by omega)
  rw [hl6]
  have hc0 : w8.cell? ⟨g_, 0, none⟩ = some (.int .u8 (hdv X 0)) := by
    have h := (Kd.R_celln (0 : Int) hR 0 (by decide) (by omega)).1
    rw [show rdOf (0 : Int) (X.take (6 : Int).toNat) 0 = hdv X 0 by simp [hdv, rdOf, List.getD_eq_getElem?_getD, List.getElem?_take, List.getElem?_drop]] at h
    exact h
  have hc1 : w8.cell? ⟨g_, 1, none⟩ = some (.int .u8 (hdv X 1)) := by
    have h := (Kd.R_celln (0 : Int) hR 1 (by decide) (by omega)).1
    rw [show rdOf (0 : Int) (X.take (6 : Int).toNat) 1 = hdv X 1 by simp [hdv, rdOf, List.getD_eq_getElem?_getD, List.getElem?_take, List.getElem?_drop]] at h
    exact h
  have hc2 : w8.cell? ⟨g_, 2, none⟩ = some (.int .u8 (hdv X 2)) := by
    have h := (Kd.R_celln (0 : Int) hR 2 (by decide) (by omega)).1
    rw [show rdOf (0 : Int) (X.take (6 : Int).toNat) 2 = hdv X 2 by simp [hdv, rdOf, List.getD_eq_getElem?_getD, List.getElem?_take, List.getElem?_drop]] at h
    exact h
  have hc3 : w8.cell? ⟨g_, 3, none⟩ = some (.int .u8 (hdv X 3)) := by
    have h := (Kd.R_celln (0 : Int) hR 3 (by decide) (by omega)).1
    rw [show rdOf (0 : Int) (X.take (6 : Int).toNat) 3 = hdv X 3 by simp [hdv, rdOf, List.getD_eq_getElem?_getD, List.getElem?_take, List.getElem?_drop]] at h
    exact h
  have hc4 : w8.cell? ⟨g_, 4, none⟩ = some (.int .u8 (hdv X 4)) := by
    have h := (Kd.R_celln (0 : Int) hR 4 (by decide) (by omega)).1
    rw [show rdOf (0 : Int) (X.take (6 : Int).toNat) 4 = hdv X 4 by simp [hdv, rdOf, List.getD_eq_getElem?_getD, List.getElem?_take, List.getElem?_drop]] at h
    exact h
  have hc5 : w8.cell? ⟨g_, 5, none⟩ = some (.int .u8 (hdv X 5)) := by
    have h := (Kd.R_celln (0 : Int) hR 5 (by decide) (by omega)).1
    rw [show rdOf (0 : Int) (X.take (6 : Int).toNat) 5 = hdv X 5 by simp [hdv, rdOf, List.getD_eq_getElem?_getD, List.getElem?_take, List.getElem?_drop]] at h
    exact h
  replace HF := Aside0.mk (blk_grown_ HF.out hG (by have := HN.out; omega))
  replace H2 := Aside0.mk (blk_grown_ H2.out hG (by have := HN.out; omega))
  replace HB := Aside0.mk (below_own HB.out hG (by have := HN.out; omega))
  replace HB5 := Aside0.mk (below_own HB5.out hG (by have := HN.out; omega))
  replace HRD := Aside0.mk (show IsRd w5 w8 gr (X.drop 6) false from hI)
  clear hR hI hG hl6
  go_wp2_with (first
    | (refine wpList_store_part rfl 43 (.tmp 32) (.tmp 31) rfl gf 0 #[.int .u8 (hdv X 0), .int .u8 (hdv X 1), .int .u8 (hdv X 2), .int .u8 (hdv X 3), .int .u8 (hdv X 4), .int .u8 (hdv X 5)] #[.int .u8 0, .int .u8 0, .int .u8 0, .int .u8 0, .int .u8 0, .int .u8 0, .int .u8 0, .int .u8 0, .int .u8 0, .int .u8 0, .int .u8 0, .int .u8 0, .slice none 0 0] #[.int .u8 (hdv X 0), .int .u8 (hdv X 1), .int .u8 (hdv X 2), .int .u8 (hdv X 3), .int .u8 (hdv X 4), .int .u8 (hdv X 5), .int .u8 0, .int .u8 0, .int .u8 0, .int .u8 0, .int .u8 0, .int .u8 0, .slice none 0 0] 45 rfl rfl HF.out (show 0 + 6 ≤ 13 from by decide) (by rfl) info43_ (by rfl) ?_; intro w9 hZ hG; replace HF := Aside0.mk hZ; replace H2 := Aside0.mk (blk_grown_ H2.out hG (by have := HN.out; omega)); replace HB := Aside0.mk (below_own HB.out hG (by have := HN.out; omega)); replace HB5 := Aside0.mk (below_own HB5.out hG (by have := HN.out; omega)); replace HRD := Aside0.mk (HRD.out.own hG (by have := HN.out; omega)); clear hZ hG))
  refine (octet_Reader_Raw.yes w5 _ gr (X.drop 6) 6 HRD.out HB5.out (by decide) (by have := HXL.out; first | omega | (simp only [List.length_drop]; omega)) (by have := HXL.out; first | omega | (simp only [List.length_drop]; omega))).mono ?_
  rintro e w10 ⟨v_, rfl, hR, hI, hG⟩
  obtain ⟨A_, c_, rfl⟩ := Kd.R_slice hR
  have hl6 : ((X.drop 6).take (6 : Int).toNat).length = 6 := by have := HXL.out; rw [List.length_take]; first | (simp only [List.length_drop]; show min 6 _ = 6; omega) | (show min 6 _ = 6; omega)
  obtain ⟨g_, rfl⟩ := R_some_ hR (by omega)
  rw [hl6]
  have hc0 : w10.cell? ⟨g_, 0, none⟩ = some (.int .u8 (hdv X 6)) := by
    have h := (Kd.R_celln (0 : Int) hR 0 (by decide) (by omega)).1
    rw [show rdOf (0 : Int) ((X.drop 6).take (6 : Int).toNat) 0 = hdv X 6 by simp [hdv, rdOf, List.getD_eq_getElem?_getD, List.getElem?_take, List.getElem?_drop]] at h
    exact h
  have hc1 : w10.cell? ⟨g_, 1, none⟩ = some (.int .u8 (hdv X 7)) := by
    have h := (Kd.R_celln (0 : Int) hR 1 (by decide) (by omega)).1
    rw [show rdOf (0 : Int) ((X.drop 6).take (6 : Int).toNat) 1 = hdv X 7 by simp [hdv, rdOf, List.getD_eq_getElem?_getD, List.getElem?_take, List.getElem?_drop]] at h
    exact h
  have hc2 : w10.cell? ⟨g_, 2, none⟩ = some (.int .u8 (hdv X 8)) := by
    have h := (Kd.R_celln (0 : Int) hR 2 (by decide) (by omega)).1
    rw [show rdOf (0 : Int) ((X.drop 6).take (6 : Int).toNat) 2 = hdv X 8 by simp [hdv, rdOf, List.getD_eq_getElem?_getD, List.getElem?_take, List.getElem?_drop]] at h
    exact h
  have hc3 : w10.cell? ⟨g_, 3, none⟩ = some (.int .u8 (hdv X 9)) := by
    have h := (Kd.R_celln (0 : Int) hR 3 (by decide) (by omega)).1
    rw [show rdOf (0 : Int) ((X.drop 6).take (6 : Int).toNat) 3 = hdv X 9 by simp [hdv, rdOf, List.getD_eq_getElem?_getD, List.getElem?_take, List.getElem?_drop]] at h
    exact h
  have hc4 : w10.cell? ⟨g_, 4, none⟩ = some (.int .u8 (hdv X 10)) := by
    have h := (Kd.R_celln (0 : Int) hR 4 (by decide) (by omega)).1
    rw [show rdOf (0 : Int) ((X.drop 6).take (6 : Int).toNat) 4 = hdv X 10 by simp [hdv, rdOf, List.getD_eq_getElem?_getD, List.getElem?_take, List.getElem?_drop]] at h
    exact h
  have hc5 : w10.cell? ⟨g_, 5, none⟩ = some (.int .u8 (hdv X 11)) := by
    have h := (Kd.R_celln (0 : Int) hR 5 (by decide) (by omega)).1
    rw [show rdOf (0 : Int) ((X.drop 6).take (6 : Int).toNat) 5 = hdv X 11 by simp [hdv, rdOf, List.getD_eq_getElem?_getD, List.getElem?_take, List.getElem?_drop]] at h
    exact h
  replace HF := Aside0.mk (blk_grown_ HF.out hG (by have := HN.out; omega))
  replace H2 := Aside0.mk (blk_grown_ H2.out hG (by have := HN.out; omega))
  replace HB := Aside0.mk (below_own HB.out hG (by have := HN.out; omega))
  replace HB5 := Aside0.mk (below_own HB5.out hG (by have := HN.out; omega))
  replace HRD := Aside0.mk (show IsRd w5 w10 gr (X.drop 12) false by have h := hI; rw [List.drop_drop] at h; exact h)
  clear hR hI hG hl6
  go_wp2_with (first
    | (refine wpList_store_part rfl 43 (.tmp 37) (.tmp 36) rfl gf 6 #[.int .u8 (hdv X 6), .int .u8 (hdv X 7), .int .u8 (hdv X 8), .int .u8 (hdv X 9), .int .u8 (hdv X 10), .int .u8 (hdv X 11)] #[.int .u8 (hdv X 0), .int .u8 (hdv X 1), .int .u8 (hdv X 2), .int .u8 (hdv X 3), .int .u8 (hdv X 4), .int .u8 (hdv X 5), .int .u8 0, .int .u8 0, .int .u8 0, .int .u8 0, .int .u8 0, .int .u8 0, .slice none 0 0] #[.int .u8 (hdv X 0), .int .u8 (hdv X 1), .int .u8 (hdv X 2), .int .u8 (hdv X 3), .int .u8 (hdv X 4), .int .u8 (hdv X 5), .int .u8 (hdv X 6), .int .u8 (hdv X 7), .int .u8 (hdv X 8), .int .u8 (hdv X 9), .int .u8 (hdv X 10), .int .u8 (hdv X 11), .slice none 0 0] 45 rfl rfl HF.out (show 6 + 6 ≤ 13 from by decide) (by rfl) info43_ (by rfl) ?_; intro w11 hZ hG; replace HF := Aside0.mk hZ; replace H2 := Aside0.mk (blk_grown_ H2.out hG (by have := HN.out; omega)); replace HB := Aside0.mk (below_own HB.out hG (by have := HN.out; omega)); replace HB5 := Aside0.mk (below_own HB5.out hG (by have := HN.out; omega)); replace HRD := Aside0.mk (HRD.out.own hG (by have := HN.out; omega)); clear hZ hG))
  refine (octet_Reader_Num.yes 10 w5 _ gr (X.drop 12) 2 (be16 X) HRD.out HB5.out (by decide) (by decide) (by have := HXL.out; simp only [List.length_drop]; omega) (by have := HXL.out; simp only [List.length_drop]; omega) (get2 HXB.out (by have := HXL.out; omega))).mono ?_
  rintro e w12 ⟨rfl, hI, hG⟩
  replace HF := Aside0.mk (blk_grown_ HF.out hG (by have := HN.out; omega))
  replace H2 := Aside0.mk (blk_grown_ H2.out hG (by have := HN.out; omega))
  replace HB := Aside0.mk (below_own HB.out hG (by have := HN.out; omega))
  replace HB5 := Aside0.mk (below_own HB5.out hG (by have := HN.out; omega))
  obtain ⟨Y, hY⟩ : ∃ Y, X.drop 14 = Y := ⟨_, rfl⟩
  replace HRD := Aside0.mk (show IsRd w5 w12 gr Y false by have h := hI; rw [List.drop_drop] at h; rw [← hY]; exact h)
  have HYL := Aside0.mk (show Y.length = X.length - 14 by rw [← hY, List.length_drop])
  have HYB := Aside0.mk (show byteRow Y by rw [← hY]; exact fun c hc => HXB.out c (List.mem_of_mem_drop hc))
  obtain ⟨nn, hnn, hn6⟩ := be16_nat HXB.out
  have HPD := Aside0.mk (show padOk X = (Y.drop nn).all (· == 0) by unfold padOk; rw [hnn, Int.toNat_natCast, ← hY, List.drop_drop])
  have HDY := Aside0.mk (show decD l0 = if decE l0 = 0 then Y.take nn else [] by rw [HDD.out, hnn, Int.toNat_natCast, hY])
  obtain ⟨mm, hM⟩ : ∃ mm : Nat, (if (nn : Int) < 46 then 46 else (nn : Int)) = (mm : Int) := ⟨if nn < 46 then 46 else nn, by split <;> split <;> omega⟩
  have HMM := Aside0.mk (show nn ≤ mm by split at hM <;> omega)
  have HHD := Aside0.mk (show headOk X = (!isGrp (hdv X 6) && decide ((nn : Int) ≤ 1500) && decide ((Y.length : Int) = (mm : Int))) by
    unfold headOk
    rw [hnn, hM, HYL.out, show ((X.length - 14 : Nat) : Int) = (X.length : Int) - 14 by have := HXL.out; omega])
  rw [hnn]
  have hyl : Y.length ≤ 9223372036854775807 := by have := HYL.out; have := HXL.out; omega
  have HN65 := Aside0.mk hn6
  clear hI hG hY hnn HDH HDD HXB
  have hk6 := (show w12.cell? ⟨gf, 6, none⟩ = some (.int .u8 (hdv X 6)) from (blk_cell HF.out 6).trans rfl)
  have hk7 := (show w12.cell? ⟨gf, 7, none⟩ = some (.int .u8 (hdv X 7)) from (blk_cell HF.out 7).trans rfl)
  have hk8 := (show w12.cell? ⟨gf, 8, none⟩ = some (.int .u8 (hdv X 8)) from (blk_cell HF.out 8).trans rfl)
  have hk9 := (show w12.cell? ⟨gf, 9, none⟩ = some (.int .u8 (hdv X 9)) from (blk_cell HF.out 9).trans rfl)
  have hk10 := (show w12.cell? ⟨gf, 10, none⟩ = some (.int .u8 (hdv X 10)) from (blk_cell HF.out 10).trans rfl)
  have hk11 := (show w12.cell? ⟨gf, 11, none⟩ = some (.int .u8 (hdv X 11)) from (blk_cell HF.out 11).trans rfl)
  go_wp2_with fail
  refine (mac_Group.calls _ _ _ _ _ _ _ _ (grp_f _ _ _ _ _ _)).mono ?_
  rintro e w13 ⟨rfl, hB⟩
  replace HF := Aside0.mk (blk_below HF.out hB)
  replace H2 := Aside0.mk (blk_below H2.out hB)
  replace HB := Aside0.mk (below_step HB.out hB)
  replace HB5 := Aside0.mk (below_step HB5.out hB)
  replace HRD := Aside0.mk (HRD.out.below hB)
  clear hB hk6 hk7 hk8 hk9 hk10 hk11
  cases hgg : isGrp (hdv X 6) with
  | true =>
    rw [hgg] at HHD
    clear hgg
    have hde : decE l0 = 4 := by rw [HDE.out, HHD.out]; rfl
    obtain ⟨hfr, hnil⟩ := frame_no hde
    have HFR := Aside0.mk hfr
    have HNIL := Aside0.mk hnil
    have HDE4 := Aside0.mk hde
    clear hfr hnil hde
    go_wp2_with (first
      | (refine wpList_store_part rfl 45 (.tmp 4) (.tmp 54) rfl (w.heap.size + 1) 0 #[.int .u8 0, .int .u8 0, .int .u8 0, .int .u8 0, .int .u8 0, .int .u8 0, .int .u8 0, .int .u8 0, .int .u8 0, .int .u8 0, .int .u8 0, .int .u8 0, .slice none 0 0] #[.int .u8 0, .int .u8 0, .int .u8 0, .int .u8 0, .int .u8 0, .int .u8 0, .int .u8 0, .int .u8 0, .int .u8 0, .int .u8 0, .int .u8 0, .int .u8 0, .slice none 0 0] #[.int .u8 0, .int .u8 0, .int .u8 0, .int .u8 0, .int .u8 0, .int .u8 0, .int .u8 0, .int .u8 0, .int .u8 0, .int .u8 0, .int .u8 0, .int .u8 0, .slice none 0 0] 45 rfl rfl H2.out (by decide) (by rfl) info45_ (by rfl) ?_; intro wz hZ hG; replace H2 := Aside0.mk hZ; replace HB := Aside0.mk (below_own HB.out hG (Nat.le_succ _)); clear hZ hG))
    refine bodyPost_ret (results_frame rfl _ _ (w.heap.size + 1) _ rfl rfl H2.out) rfl ⟨none, 0, by rw [HFR.out, HDE4.out]; rfl, by rw [HNIL.out]; exact Nat.le_refl _, by rw [HNIL.out]; exact C_nil _, HB.out⟩
  | false =>
    rw [hgg] at HHD
    clear hgg
    by_cases h15 : 1500 < nn
    · have d15 : decide ((1500 : Int) < (nn : Int)) = true := decide_eq_true (by omega)
      have HH0 := Aside0.mk (show headOk X = false by rw [HHD.out, decide_eq_false (show ¬ (nn : Int) ≤ 1500 by omega)]; rfl)
      clear h15
      have hde : decE l0 = 4 := by rw [HDE.out, HH0.out]; rfl
      obtain ⟨hfr, hnil⟩ := frame_no hde
      have HFR := Aside0.mk hfr
      have HNIL := Aside0.mk hnil
      have HDE4 := Aside0.mk hde
      clear hfr hnil hde
      go_wp2_with (first
        | (refine wpList_store_part rfl 45 (.tmp 4) (.tmp 54) rfl (w.heap.size + 1) 0 #[.int .u8 0, .int .u8 0, .int .u8 0, .int .u8 0, .int .u8 0, .int .u8 0, .int .u8 0, .int .u8 0, .int .u8 0, .int .u8 0, .int .u8 0, .int .u8 0, .slice none 0 0] #[.int .u8 0, .int .u8 0, .int .u8 0, .int .u8 0, .int .u8 0, .int .u8 0, .int .u8 0, .int .u8 0, .int .u8 0, .int .u8 0, .int .u8 0, .int .u8 0, .slice none 0 0] #[.int .u8 0, .int .u8 0, .int .u8 0, .int .u8 0, .int .u8 0, .int .u8 0, .int .u8 0, .int .u8 0, .int .u8 0, .int .u8 0, .int .u8 0, .int .u8 0, .slice none 0 0] 45 rfl rfl H2.out (by decide) (by rfl) info45_ (by rfl) ?_; intro wz hZ hG; replace H2 := Aside0.mk hZ; replace HB := Aside0.mk (below_own HB.out hG (Nat.le_succ _)); clear hZ hG))
      refine bodyPost_ret (results_frame rfl _ _ (w.heap.size + 1) _ rfl rfl H2.out) rfl ⟨none, 0, by rw [HFR.out, HDE4.out]; rfl, by rw [HNIL.out]; exact Nat.le_refl _, by rw [HNIL.out]; exact C_nil _, HB.out⟩
    have d15 : decide ((1500 : Int) < (nn : Int)) = false := decide_eq_false (by omega)
    go_wp2_with fail
    refine (octet_Reader_Left.rd w5 _ gr Y false HRD.out).mono ?_
    rintro e w14 ⟨rfl, rfl⟩
    by_cases hyn : Y.length = mm
    case neg =>
      have b1 : ((Y.length : Int) != (mm : Int)) = true := bne_iff_ne.mpr (by omega)
      have b2 : (Y.length != mm) = true := bne_iff_ne.mpr hyn
      have HH0 := Aside0.mk (show headOk X = false by rw [HHD.out, decide_eq_false (show ¬ (Y.length : Int) = (mm : Int) by omega), Bool.and_false])
      clear hyn
      have hde : decE l0 = 4 := by rw [HDE.out, HH0.out]; rfl
      obtain ⟨hfr, hnil⟩ := frame_no hde
      have HFR := Aside0.mk hfr
      have HNIL := Aside0.mk hnil
      have HDE4 := Aside0.mk hde
      clear hfr hnil hde
      go_wp2_with (first
        | (refine wpList_store_part rfl 45 (.tmp 4) (.tmp 54) rfl (w.heap.size + 1) 0 #[.int .u8 0, .int .u8 0, .int .u8 0, .int .u8 0, .int .u8 0, .int .u8 0, .int .u8 0, .int .u8 0, .int .u8 0, .int .u8 0, .int .u8 0, .int .u8 0, .slice none 0 0] #[.int .u8 0, .int .u8 0, .int .u8 0, .int .u8 0, .int .u8 0, .int .u8 0, .int .u8 0, .int .u8 0, .int .u8 0, .int .u8 0, .int .u8 0, .int .u8 0, .slice none 0 0] #[.int .u8 0, .int .u8 0, .int .u8 0, .int .u8 0, .int .u8 0, .int .u8 0, .int .u8 0, .int .u8 0, .int .u8 0, .int .u8 0, .int .u8 0, .int .u8 0, .slice none 0 0] 45 rfl rfl H2.out (by decide) (by rfl) info45_ (by rfl) ?_; intro wz hZ hG; replace H2 := Aside0.mk hZ; replace HB := Aside0.mk (below_own HB.out hG (Nat.le_succ _)); clear hZ hG))
      refine bodyPost_ret (results_frame rfl _ _ (w.heap.size + 1) _ rfl rfl H2.out) rfl ⟨none, 0, by rw [HFR.out, HDE4.out]; rfl, by rw [HNIL.out]; exact Nat.le_refl _, by rw [HNIL.out]; exact C_nil _, HB.out⟩
    have b1 : ((Y.length : Int) != (mm : Int)) = false := bne_eq_false_iff_eq.mpr (by omega)
    have b2 : (Y.length != mm) = false := bne_eq_false_iff_eq.mpr hyn
    have HHT := Aside0.mk (show headOk X = true by rw [HHD.out, decide_eq_true (show (nn : Int) ≤ 1500 by omega), decide_eq_true (show (Y.length : Int) = (mm : Int) by omega)]; rfl)
    have HNY := Aside0.mk (show nn ≤ Y.length by have := HMM.out; omega)
    clear hyn h15
    go_wp2_with fail
    refine (octet_Reader_Raw.yes w5 _ gr Y (nn : Int) HRD.out HB5.out (Int.natCast_nonneg _) (by have := HNY.out; omega) (by have := HYL.out; have := HXL.out; omega)).mono ?_
    rintro e w15 ⟨v15, rfl, hR, hI, hG⟩
    rw [Int.toNat_natCast] at hR hI
    have hlt13 : gr < w13.heap.size := HRD.out.lt.1
    replace HRD := Aside0.mk hI
    have HD := Aside0.mk hR
    replace HF := Aside0.mk (blk_grown_ HF.out hG (by have := HN.out; omega))
    replace H2 := Aside0.mk (blk_grown_ H2.out hG (by have := HN.out; omega))
    replace HB := Aside0.mk (below_own HB.out hG (by have := HN.out; omega))
    replace HB5 := Aside0.mk (below_own HB5.out hG (by have := HN.out; omega))
    have HG13 := Aside0.mk hlt13
    have hc12 := (show w15.cell? ⟨gf, 12, none⟩ = some (.slice none 0 0) from (blk_cell HF.out 12).trans rfl)
    have hf12 := blk_frozen HF.out 12
    clear hR hI hG hlt13
    obtain ⟨AD, cD, rfl⟩ := Kd.R_slice HD.out
    obtain ⟨dl, hdl⟩ : ∃ dl, (Y.take nn).length = dl := ⟨_, rfl⟩
    rw [hdl] at HD ⊢
    go_wp2_with fail
    have hF' := blk_put HF.out 12 (.slice AD dl cD) (cs' := #[.int .u8 (hdv X 0), .int .u8 (hdv X 1), .int .u8 (hdv X 2), .int .u8 (hdv X 3), .int .u8 (hdv X 4), .int .u8 (hdv X 5), .int .u8 (hdv X 6), .int .u8 (hdv X 7), .int .u8 (hdv X 8), .int .u8 (hdv X 9), .int .u8 (hdv X 10), .int .u8 (hdv X 11), .slice AD dl cD]) rfl
    have hD' := Kd.R_set HD.out HF.out (by decide) 12 (.slice AD dl cD)
    have hG := only_set (w := w15) (g := gf) 12 (.slice AD dl cD)
    generalize w15.setCell ⟨gf, 12, none⟩ (.slice AD dl cD) = w16 at hF' hD' hG ⊢
    replace H2 := Aside0.mk (blk_grown_ H2.out hG (by have := HN.out; omega))
    replace HB := Aside0.mk (below_own HB.out hG (by have := HN.out; omega))
    replace HB5 := Aside0.mk (below_own HB5.out hG (by have := HN.out; omega))
    replace HRD := Aside0.mk (HRD.out.own hG (by have := HN.out; omega))
    replace HF := Aside0.mk hF'
    replace HD := Aside0.mk hD'
    obtain ⟨RR, hRR⟩ : ∃ RR, Y.drop nn = RR := ⟨_, rfl⟩
    rw [hRR] at HRD HPD
    have HRL := Aside0.mk (show RR.length ≤ Y.length by rw [← hRR, List.length_drop]; omega)
    have HRB := Aside0.mk (show byteRow RR by rw [← hRR]; exact fun c hc => HYB.out c (List.mem_of_mem_drop hc))
    have HDL := Aside0.mk hdl
    clear hF' hD' hG hRR hc12 hf12 hdl
    refine (octet_Reader_Rest.yes w5 _ gr RR HRD.out HB5.out (by have := HRL.out; have := HYL.out; have := HXL.out; omega)).mono ?_
    rintro e w17 ⟨v17, rfl, hR, hI, hG⟩
    replace HF := Aside0.mk (blk_grown_ HF.out hG (by have := HN.out; omega))
    replace H2 := Aside0.mk (blk_grown_ H2.out hG (by have := HN.out; omega))
    replace HB := Aside0.mk (below_own HB.out hG (by have := HN.out; omega))
    replace HD := Aside0.mk (R_pastG HD.out hG HG13.out)
    obtain ⟨AR, cR, rfl, hcR, hCR⟩ := Kd.R_reads hR
    have HCR := Aside0.mk hCR
    have hrl : RR.length ≤ 9223372036854775807 := hCR.2.1
    clear hR hI hG hcR hCR HRD HB5
    go_wp2_with fail
    go_loop [62] (fun v62 => ∃ k : Nat, k ≤ RR.length ∧ v62 = .int .i64 k ∧ Aside0 (∀ j, j < k → RR.getD j 0 = 0)) (fun v62 => RR.length - (intOf v62).toNat)
    case atStart => exact ⟨0, Nat.zero_le _, rfl, ⟨fun j hj => absurd hj (Nat.not_lt_zero _)⟩⟩
    case round =>
      obtain ⟨k, hk, rfl, HZ⟩ := hrel
      by_cases hlt : k < RR.length
      · obtain ⟨ad, e0, hx0⟩ := Kd.at_int HCR.out (k : Int) (by omega) (by omega)
        cases e0
        rw [rd_nat, Int.toNat_natCast] at hx0
        by_cases hc : RR.getD k 0 = 0
        · rw [hc] at hx0
          have HC0 := Aside0.mk hc
          clear hc
          go_wp2_with fail
          go_round
          case rel => exact ⟨k + 1, by omega, by go_num, ⟨fun j hj => by rcases Nat.lt_succ_iff_lt_or_eq.mp hj with h | rfl; exact HZ.out j h; exact HC0.out⟩⟩
          case measure => simp [intOf]; omega
        · have HPF := Aside0.mk (show padOk X = false by
            rw [HPD.out]
            refine Bool.eq_false_iff.mpr fun h => hc ?_
            have := List.all_eq_true.mp h (RR.getD k 0) (by rw [List.getD_eq_getElem?_getD, List.getElem?_eq_getElem hlt]; exact List.getElem_mem hlt)
            simpa using this)
          have bc : (RR.getD k 0 != 0) = true := bne_iff_ne.mpr hc
          generalize RR.getD k 0 = c at hx0 bc
          clear hc
          have hde : decE l0 = 4 := by rw [HDE.out, HPF.out, Bool.and_false]; rfl
          obtain ⟨hfr, hnil⟩ := frame_no hde
          have HFR := Aside0.mk hfr
          have HNIL := Aside0.mk hnil
          have HDE4 := Aside0.mk hde
          clear hfr hnil hde
          go_wp2_with (first
            | (refine wpList_store_part rfl 45 (.tmp 4) (.tmp 68) rfl (w.heap.size + 1) 0 #[.int .u8 0, .int .u8 0, .int .u8 0, .int .u8 0, .int .u8 0, .int .u8 0, .int .u8 0, .int .u8 0, .int .u8 0, .int .u8 0, .int .u8 0, .int .u8 0, .slice none 0 0] #[.int .u8 0, .int .u8 0, .int .u8 0, .int .u8 0, .int .u8 0, .int .u8 0, .int .u8 0, .int .u8 0, .int .u8 0, .int .u8 0, .int .u8 0, .int .u8 0, .slice none 0 0] #[.int .u8 0, .int .u8 0, .int .u8 0, .int .u8 0, .int .u8 0, .int .u8 0, .int .u8 0, .int .u8 0, .int .u8 0, .int .u8 0, .int .u8 0, .int .u8 0, .slice none 0 0] 45 rfl rfl H2.out (by decide) (by rfl) info45_ (by rfl) ?_; intro wz hZ hG; replace H2 := Aside0.mk hZ; replace HB := Aside0.mk (below_own HB.out hG (Nat.le_succ _)); clear hZ hG))
          refine bodyPost_ret (results_frame rfl _ _ (w.heap.size + 1) _ rfl rfl H2.out) rfl ⟨none, 0, by rw [HFR.out, HDE4.out]; rfl, by rw [HNIL.out]; exact Nat.le_refl _, by rw [HNIL.out]; exact C_nil _, HB.out⟩
      · obtain rfl : k = RR.length := by omega
        have HPT := Aside0.mk (show padOk X = true by
          rw [HPD.out, List.all_eq_true]
          intro c hc
          obtain ⟨j, hj, rfl⟩ := List.getElem_of_mem hc
          have := HZ.out j hj
          rw [List.getD_eq_getElem?_getD, List.getElem?_eq_getElem hj] at this
          simpa using this)
        have HE0 := Aside0.mk (show decE l0 = 0 by rw [HDE.out, HHT.out, HPT.out]; rfl)
        have HDD0 := Aside0.mk (show decD l0 = Y.take nn by rw [HDY.out, HE0.out, if_pos rfl])
        have HFR := Aside0.mk (frame_yes HE0.out HX.out AD dl cD)
        go_wp2_with ((refine wpList_load_row rfl 45 (.tmp 9) rfl gf rfl 45 #[.int .u8 (hdv X 0), .int .u8 (hdv X 1), .int .u8 (hdv X 2), .int .u8 (hdv X 3), .int .u8 (hdv X 4), .int .u8 (hdv X 5), .int .u8 (hdv X 6), .int .u8 (hdv X 7), .int .u8 (hdv X 8), .int .u8 (hdv X 9), .int .u8 (hdv X 10), .int .u8 (hdv X 11), .slice AD dl cD] (0, 0) _ HF.out Try.underlying45 rfl info45_ ?_; refine wpList_store_part rfl 45 (.tmp 4) (.tmp 70) rfl (w.heap.size + 1) 0 #[.int .u8 (hdv X 0), .int .u8 (hdv X 1), .int .u8 (hdv X 2), .int .u8 (hdv X 3), .int .u8 (hdv X 4), .int .u8 (hdv X 5), .int .u8 (hdv X 6), .int .u8 (hdv X 7), .int .u8 (hdv X 8), .int .u8 (hdv X 9), .int .u8 (hdv X 10), .int .u8 (hdv X 11), .slice AD dl cD] #[.int .u8 0, .int .u8 0, .int .u8 0, .int .u8 0, .int .u8 0, .int .u8 0, .int .u8 0, .int .u8 0, .int .u8 0, .int .u8 0, .int .u8 0, .int .u8 0, .slice none 0 0] #[.int .u8 (hdv X 0), .int .u8 (hdv X 1), .int .u8 (hdv X 2), .int .u8 (hdv X 3), .int .u8 (hdv X 4), .int .u8 (hdv X 5), .int .u8 (hdv X 6), .int .u8 (hdv X 7), .int .u8 (hdv X 8), .int .u8 (hdv X 9), .int .u8 (hdv X 10), .int .u8 (hdv X 11), .slice AD dl cD] 45 rfl rfl H2.out (show 0 + 13 ≤ 13 from by decide) (overRow_all _ _ rfl) info45_ (by rfl) ?_; intro wz hZ hG; replace HD := Aside0.mk (R_pastG HD.out hG (by have := HG13.out; have := HN.out; omega)); replace H2 := Aside0.mk hZ; replace HB := Aside0.mk (below_own HB.out hG (Nat.le_succ _)); clear hZ hG))
        refine bodyPost_ret (results_frame rfl _ _ (w.heap.size + 1) _ rfl rfl H2.out) rfl ?_
        obtain ⟨A_, c_, he_, hcl_, hC_⟩ := Kd.R_reads HD.out
        injection he_ with e1_ e2_ e3_
        subst e1_
        subst e3_
        refine ⟨AD, cD, ?_, ?_, ?_, HB.out⟩
        · rw [HE0.out, HDD0.out, HDL.out, HFR.out]
          rfl
        · rw [HDD0.out]
          exact hcl_
        · rw [HDD0.out]
          exact hC_
end Go.Proofs.Ytpalloofjljhkaa.P
/-! Px5001 -/
namespace Go.Proofs.Ytpalloofjljhkaa.P
open Go.RowKit Go.Proofs.YtpalloofjljhkaaW.PrintWords Go.Proofs.YtpalloofjljhkaaW.PrintLast Go.Proofs.YtpalloofjljhkaaW.PrintMore
set_option linter.unusedVariables false
set_option linter.unusedSimpArgs false
section
variable {P : Program} {w : World} {d : Nat} {e : TypeId} {c i : Nat} {xs ys : Array Value} {is : List Nat} {a b : Value} {r s : Bool}
theorem eqi_cons (ha : (part e xs (i * c)).run P w = .ok a w) (hb : (part e ys (i * c)).run P w = .ok b w) (he : (Op.equalIn d e a b).run P w = .ok r w) (hr : (Op.eqItems d e c xs ys is).run P w = .ok s w) : (Op.eqItems d e c xs ys (i :: is)).run P w = .ok (r && s) w := by
  simp only [Op.eqItems, Sem.run_bind, ha, hb, he, Result.andThen_ok]
  cases r
  · simp
  · simpa using hr
theorem eqi_last (ha : (part e xs (i * c)).run P w = .ok a w) (hb : (part e ys (i * c)).run P w = .ok b w) (he : (Op.equalIn d e a b).run P w = .ok r w) : (Op.eqItems d e c xs ys [i]).run P w = .ok r w := by
  simp only [Op.eqItems, Sem.run_bind, ha, hb, he, Result.andThen_ok]
  cases r <;> simp
end
theorem eqA43 (d : Nat) (w : World) (x0 y0 : Int) (x1 y1 : Int) (x2 y2 : Int) (x3 y3 : Int) (x4 y4 : Int) (x5 y5 : Int) :
    (Op.equalIn (d + 2) 43 (.agg #[.int .u8 x0, .int .u8 x1, .int .u8 x2, .int .u8 x3, .int .u8 x4, .int .u8 x5]) (.agg #[.int .u8 y0, .int .u8 y1, .int .u8 y2, .int .u8 y3, .int .u8 y4, .int .u8 y5])).run Try.prog w = .ok (x0 == y0 && (x1 == y1 && (x2 == y2 && (x3 == y3 && (x4 == y4 && (x5 == y5)))))) w := by
  obtain ⟨i0, hi, hz0, hz1, hz2⟩ := info_parts info5
  rw [run_equalIn_array w (d + 1) _ _ Try.underlying43 hi, show Try.prog.cellsOf 5 = 1 by kernel_rfl]
  refine eqi_cons (i := 0) (by go_simp; rfl) (by go_simp; rfl) (by go_simp) ?_
  refine eqi_cons (i := 1) (by go_simp; rfl) (by go_simp; rfl) (by go_simp) ?_
  refine eqi_cons (i := 2) (by go_simp; rfl) (by go_simp; rfl) (by go_simp) ?_
  refine eqi_cons (i := 3) (by go_simp; rfl) (by go_simp; rfl) (by go_simp) ?_
  refine eqi_cons (i := 4) (by go_simp; rfl) (by go_simp; rfl) (by go_simp) ?_
  exact eqi_last (i := 5) (by go_simp; rfl) (by go_simp; rfl) (by go_simp)
end Go.Proofs.Ytpalloofjljhkaa.P
/-! Px37 -/
namespace Go.Proofs.Ytpalloofjljhkaa.P
open Go.RowKit Go.Proofs.YtpalloofjljhkaaW.PrintWords Go.Proofs.YtpalloofjljhkaaW.PrintLast Go.Proofs.YtpalloofjljhkaaW.PrintMore
attribute [local go_sem] max2_int min2_int max_two min_two max_three min_three max_four min_four   -- for this text's walks alone
set_option linter.unusedVariables false
set_option linter.unusedSimpArgs false
attribute [local go_sem high] eqA43
def antiphonref1_SameFrame.f (k : Nat) (a0_0 : Int) (a0_1 : Int) (a0_2 : Int) (a0_3 : Int) (a0_4 : Int) (a0_5 : Int) (a0_6 : Int) (a0_7 : Int) (a0_8 : Int) (a0_9 : Int) (a0_10 : Int) (a0_11 : Int) (l0_12 : List Int) (a1_0 : Int) (a1_1 : Int) (a1_2 : Int) (a1_3 : Int) (a1_4 : Int) (a1_5 : Int) (a1_6 : Int) (a1_7 : Int) (a1_8 : Int) (a1_9 : Int) (a1_10 : Int) (a1_11 : Int) (l1_12 : List Int) : Option (Bool) := if (a0_0 == a1_0 && (a0_1 == a1_1 && (a0_2 == a1_2 && (a0_3 == a1_3 && (a0_4 == a1_4 && (a0_5 == a1_5)))))) = true then (if (a0_6 == a1_6 && (a0_7 == a1_7 && (a0_8 == a1_8 && (a0_9 == a1_9 && (a0_10 == a1_10 && (a0_11 == a1_11)))))) = true then ((antiphonref1_Same.f k l0_12 l1_12).bind fun t103 => (some t103)) else (some false)) else (some false)
set_option maxHeartbeats 8000000 in
set_option maxRecDepth 100000 in
theorem antiphonref1_SameFrame.calls (k : Nat) (a0_0 : Int) (a0_1 : Int) (a0_2 : Int) (a0_3 : Int) (a0_4 : Int) (a0_5 : Int) (a0_6 : Int) (a0_7 : Int) (a0_8 : Int) (a0_9 : Int) (a0_10 : Int) (a0_11 : Int) (A0_12 : Option Addr) (c0_12 : Nat) (l0_12 : List Int) (a1_0 : Int) (a1_1 : Int) (a1_2 : Int) (a1_3 : Int) (a1_4 : Int) (a1_5 : Int) (a1_6 : Int) (a1_7 : Int) (a1_8 : Int) (a1_9 : Int) (a1_10 : Int) (a1_11 : Int) (A1_12 : Option Addr) (c1_12 : Nat) (l1_12 : List Int) (r : Bool) (w : World) (hr0_12 : Kd.C (Kd.int .u8) w A0_12 l0_12.length l0_12) (hc0_12 : l0_12.length ≤ c0_12) (hr1_12 : Kd.C (Kd.int .u8) w A1_12 l1_12.length l1_12) (hc1_12 : l1_12.length ≤ c1_12) (h : antiphonref1_SameFrame.f k a0_0 a0_1 a0_2 a0_3 a0_4 a0_5 a0_6 a0_7 a0_8 a0_9 a0_10 a0_11 l0_12 a1_0 a1_1 a1_2 a1_3 a1_4 a1_5 a1_6 a1_7 a1_8 a1_9 a1_10 a1_11 l1_12 = some r) :
    Calls Try.prog 36 #[.agg #[.int .u8 a0_0, .int .u8 a0_1, .int .u8 a0_2, .int .u8 a0_3, .int .u8 a0_4, .int .u8 a0_5, .int .u8 a0_6, .int .u8 a0_7, .int .u8 a0_8, .int .u8 a0_9, .int .u8 a0_10, .int .u8 a0_11, .slice A0_12 l0_12.length c0_12], .agg #[.int .u8 a1_0, .int .u8 a1_1, .int .u8 a1_2, .int .u8 a1_3, .int .u8 a1_4, .int .u8 a1_5, .int .u8 a1_6, .int .u8 a1_7, .int .u8 a1_8, .int .u8 a1_9, .int .u8 a1_10, .int .u8 a1_11, .slice A1_12 l1_12.length c1_12]] w fun e w' => e = .returned (.bool r) ∧ Below w.heap.size w w' := by
  have hu45 := Try.underlying45
  have hu43 := Try.underlying43
  have HR0_12 := Aside0.mk hr0_12
  have HC0_12 := Aside0.mk hc0_12
  clear hr0_12 hc0_12
  have HR1_12 := Aside0.mk hr1_12
  have HC1_12 := Aside0.mk hc1_12
  clear hr1_12 hc1_12
  have HB := Aside0.mk (Below.refl w.heap.size w)
  have H : (if (a0_0 == a1_0 && (a0_1 == a1_1 && (a0_2 == a1_2 && (a0_3 == a1_3 && (a0_4 == a1_4 && (a0_5 == a1_5)))))) = true then (if (a0_6 == a1_6 && (a0_7 == a1_7 && (a0_8 == a1_8 && (a0_9 == a1_9 && (a0_10 == a1_10 && (a0_11 == a1_11)))))) = true then ((antiphonref1_Same.f k l0_12 l1_12).bind fun t103 => (some t103)) else (some false)) else (some false)) = some r := h
  clear h
  by_cases c3 : (a0_0 == a1_0 && (a0_1 == a1_1 && (a0_2 == a1_2 && (a0_3 == a1_3 && (a0_4 == a1_4 && (a0_5 == a1_5)))))) = true
  · rw [if_pos c3] at H
    have c3b0 : (a0_0 == a1_0 && (a0_1 == a1_1 && (a0_2 == a1_2 && (a0_3 == a1_3 && (a0_4 == a1_4 && (a0_5 == a1_5)))))) = true := c3
    (try (have c3b1 : decide (a0_0 = a1_0 && (a0_1 == a1_1 && (a0_2 == a1_2 && (a0_3 == a1_3 && (a0_4 == a1_4 && (a0_5 == a1_5)))))) = true := by simpa using c3))
    (try (have c3b2 : (a0_0 == a1_0 && (a0_1 == a1_1 && (a0_2 == a1_2 && (a0_3 == a1_3 && (a0_4 == a1_4 && (a0_5 == a1_5)))))) = true := by simpa using c3))
    clear c3
    by_cases c4 : (a0_6 == a1_6 && (a0_7 == a1_7 && (a0_8 == a1_8 && (a0_9 == a1_9 && (a0_10 == a1_10 && (a0_11 == a1_11)))))) = true
    · rw [if_pos c4] at H
      have c4b0 : (a0_6 == a1_6 && (a0_7 == a1_7 && (a0_8 == a1_8 && (a0_9 == a1_9 && (a0_10 == a1_10 && (a0_11 == a1_11)))))) = true := c4
      (try (have c4b1 : decide (a0_6 = a1_6 && (a0_7 == a1_7 && (a0_8 == a1_8 && (a0_9 == a1_9 && (a0_10 == a1_10 && (a0_11 == a1_11)))))) = true := by simpa using c4))
      (try (have c4b2 : (a0_6 == a1_6 && (a0_7 == a1_7 && (a0_8 == a1_8 && (a0_9 == a1_9 && (a0_10 == a1_10 && (a0_11 == a1_11)))))) = true := by simpa using c4))
      clear c4
      replace H := Option.bind_eq_some_iff.mp H
      obtain ⟨t103, A50, H⟩ := H
      replace H : (some t103) = some r := H
      have A5 := Aside0.mk A50
      clear A50
      obtain rfl := Option.some.inj H
      go_enter Try.func36, Try.ntmps36
      go_wp2_with (first | ((with_reducible refine gate_dst (N := 2) rfl ?_); refine box_event ?hg (N := 2) ?hd (cs := #[.int .u8 a0_0, .int .u8 a0_1, .int .u8 a0_2, .int .u8 a0_3, .int .u8 a0_4, .int .u8 a0_5, .int .u8 a0_6, .int .u8 a0_7, .int .u8 a0_8, .int .u8 a0_9, .int .u8 a0_10, .int .u8 a0_11, .slice A0_12 l0_12.length c0_12]) (t := 45) ?hr ?_; (case hd => rfl); (case hg => rfl); (case hr => first | (go_simp; done) | (go_simp; rfl)); intro gb101 hg w6 hbox hb; have n0_ := Aside0.mk (below_step (by repeat (first | (with_reducible first | exact HB.out | apply below_alloc | apply pw_below_drewN | apply below_drew1) | exact HB.out)) hb); have n1_ := Aside0.mk (hbox); have n2_ := Aside0.mk ((by rw [hg]; exact (below_size (by repeat (first | (with_reducible first | exact HB.out | apply below_alloc | apply pw_below_drewN | apply below_drew1) | exact HB.out))) : w.heap.size ≤ gb101)); have n3_ := Aside0.mk ((by rw [hg]; exact (below_size (by repeat (first | (with_reducible first | exact HB.out | apply below_alloc | apply pw_below_drewN | apply below_drew1) | exact HB.out))) : w.heap.size ≤ gb101)); clear HB; have HB := n0_; have BK101 := n1_; have GW101 := n2_; have GE101 := n3_; clear n0_ n1_ n2_ n3_; clear hb hbox hg) | ((with_reducible refine gate_dst (N := 3) rfl ?_); refine box_event ?hg (N := 3) ?hd (cs := #[.int .u8 a1_0, .int .u8 a1_1, .int .u8 a1_2, .int .u8 a1_3, .int .u8 a1_4, .int .u8 a1_5, .int .u8 a1_6, .int .u8 a1_7, .int .u8 a1_8, .int .u8 a1_9, .int .u8 a1_10, .int .u8 a1_11, .slice A1_12 l1_12.length c1_12]) (t := 45) ?hr ?_; (case hd => rfl); (case hg => rfl); (case hr => first | (go_simp; done) | (go_simp; rfl)); intro gb102 hg w7 hbox hb; have n0_ := Aside0.mk (blk_below (g := gb101) (o := .cells #[.int .u8 a0_0, .int .u8 a0_1, .int .u8 a0_2, .int .u8 a0_3, .int .u8 a0_4, .int .u8 a0_5, .int .u8 a0_6, .int .u8 a0_7, .int .u8 a0_8, .int .u8 a0_9, .int .u8 a0_10, .int .u8 a0_11, .slice A0_12 l0_12.length c0_12] 45 (0, 0)) (by (with_reducible repeat (first | refine blk_drewN ?_ _ | refine blk_drew ?_ | refine blk_alloc ?_ _)); exact BK101.out) hb); have n1_ := Aside0.mk (below_step (by repeat (first | (with_reducible first | exact HB.out | apply below_alloc | apply pw_below_drewN | apply below_drew1 | refine below_set ?_ GE101.out) | exact HB.out)) hb); have n2_ := Aside0.mk (hbox); have n3_ := Aside0.mk ((by rw [hg]; exact (below_size (by repeat (first | (with_reducible first | exact HB.out | apply below_alloc | apply pw_below_drewN | apply below_drew1 | refine below_set ?_ GE101.out) | exact HB.out))) : w.heap.size ≤ gb102)); have n4_ := Aside0.mk ((by rw [hg]; exact (below_size (by repeat (first | (with_reducible first | exact HB.out | apply below_alloc | apply pw_below_drewN | apply below_drew1 | refine below_set ?_ GE101.out) | exact HB.out))) : w.heap.size ≤ gb102)); have n5_ := Aside0.mk ((by rw [hg]; exact Nat.ne_of_lt (blk_lt (g := gb101) (o := .cells #[.int .u8 a0_0, .int .u8 a0_1, .int .u8 a0_2, .int .u8 a0_3, .int .u8 a0_4, .int .u8 a0_5, .int .u8 a0_6, .int .u8 a0_7, .int .u8 a0_8, .int .u8 a0_9, .int .u8 a0_10, .int .u8 a0_11, .slice A0_12 l0_12.length c0_12] 45 (0, 0)) (by (with_reducible repeat (first | refine blk_drewN ?_ _ | refine blk_drew ?_ | refine blk_alloc ?_ _)); exact BK101.out)) : gb101 ≠ gb102)); have n6_ := Aside0.mk ((by rw [hg]; exact Nat.ne_of_gt (blk_lt (g := gb101) (o := .cells #[.int .u8 a0_0, .int .u8 a0_1, .int .u8 a0_2, .int .u8 a0_3, .int .u8 a0_4, .int .u8 a0_5, .int .u8 a0_6, .int .u8 a0_7, .int .u8 a0_8, .int .u8 a0_9, .int .u8 a0_10, .int .u8 a0_11, .slice A0_12 l0_12.length c0_12] 45 (0, 0)) (by (with_reducible repeat (first | refine blk_drewN ?_ _ | refine blk_drew ?_ | refine blk_alloc ?_ _)); exact BK101.out)) : gb102 ≠ gb101)); clear BK101; clear HB; have BK101 := n0_; have HB := n1_; have BK102 := n2_; have GW102 := n3_; have GE102 := n4_; have NB101_102 := n5_; have NB102_101 := n6_; clear n0_ n1_ n2_ n3_ n4_ n5_ n6_; clear hb hbox hg; have hnb8 := NB101_102.out; have hnc8 := NB102_101.out; have hcz9_0 : w7.cell? ⟨gb101, 0, none⟩ = some (.int .u8 a0_0) := (blk_cell BK101.out 0).trans rfl; have hcz9_1 : w7.cell? ⟨gb101, 1, none⟩ = some (.int .u8 a0_1) := (blk_cell BK101.out 1).trans rfl; have hcz9_2 : w7.cell? ⟨gb101, 2, none⟩ = some (.int .u8 a0_2) := (blk_cell BK101.out 2).trans rfl; have hcz9_3 : w7.cell? ⟨gb101, 3, none⟩ = some (.int .u8 a0_3) := (blk_cell BK101.out 3).trans rfl; have hcz9_4 : w7.cell? ⟨gb101, 4, none⟩ = some (.int .u8 a0_4) := (blk_cell BK101.out 4).trans rfl; have hcz9_5 : w7.cell? ⟨gb101, 5, none⟩ = some (.int .u8 a0_5) := (blk_cell BK101.out 5).trans rfl; have hcz9_6 : w7.cell? ⟨gb101, 6, none⟩ = some (.int .u8 a0_6) := (blk_cell BK101.out 6).trans rfl; have hcz9_7 : w7.cell? ⟨gb101, 7, none⟩ = some (.int .u8 a0_7) := (blk_cell BK101.out 7).trans rfl; have hcz9_8 : w7.cell? ⟨gb101, 8, none⟩ = some (.int .u8 a0_8) := (blk_cell BK101.out 8).trans rfl; have hcz9_9 : w7.cell? ⟨gb101, 9, none⟩ = some (.int .u8 a0_9) := (blk_cell BK101.out 9).trans rfl; have hcz9_10 : w7.cell? ⟨gb101, 10, none⟩ = some (.int .u8 a0_10) := (blk_cell BK101.out 10).trans rfl; have hcz9_11 : w7.cell? ⟨gb101, 11, none⟩ = some (.int .u8 a0_11) := (blk_cell BK101.out 11).trans rfl; have hcz9_12 : w7.cell? ⟨gb101, 12, none⟩ = some (.slice A0_12 l0_12.length c0_12) := (blk_cell BK101.out 12).trans rfl; have hfz9_0 := blk_frozen BK101.out 0; have hfz9_1 := blk_frozen BK101.out 1; have hfz9_2 := blk_frozen BK101.out 2; have hfz9_3 := blk_frozen BK101.out 3; have hfz9_4 := blk_frozen BK101.out 4; have hfz9_5 := blk_frozen BK101.out 5; have hfz9_6 := blk_frozen BK101.out 6; have hfz9_7 := blk_frozen BK101.out 7; have hfz9_8 := blk_frozen BK101.out 8; have hfz9_9 := blk_frozen BK101.out 9; have hfz9_10 := blk_frozen BK101.out 10; have hfz9_11 := blk_frozen BK101.out 11; have hfz9_12 := blk_frozen BK101.out 12; have hcz10_0 : w7.cell? ⟨gb102, 0, none⟩ = some (.int .u8 a1_0) := (blk_cell BK102.out 0).trans rfl; have hcz10_1 : w7.cell? ⟨gb102, 1, none⟩ = some (.int .u8 a1_1) := (blk_cell BK102.out 1).trans rfl; have hcz10_2 : w7.cell? ⟨gb102, 2, none⟩ = some (.int .u8 a1_2) := (blk_cell BK102.out 2).trans rfl; have hcz10_3 : w7.cell? ⟨gb102, 3, none⟩ = some (.int .u8 a1_3) := (blk_cell BK102.out 3).trans rfl; have hcz10_4 : w7.cell? ⟨gb102, 4, none⟩ = some (.int .u8 a1_4) := (blk_cell BK102.out 4).trans rfl; have hcz10_5 : w7.cell? ⟨gb102, 5, none⟩ = some (.int .u8 a1_5) := (blk_cell BK102.out 5).trans rfl; have hcz10_6 : w7.cell? ⟨gb102, 6, none⟩ = some (.int .u8 a1_6) := (blk_cell BK102.out 6).trans rfl; have hcz10_7 : w7.cell? ⟨gb102, 7, none⟩ = some (.int .u8 a1_7) := (blk_cell BK102.out 7).trans rfl; have hcz10_8 : w7.cell? ⟨gb102, 8, none⟩ = some (.int .u8 a1_8) := (blk_cell BK102.out 8).trans rfl; have hcz10_9 : w7.cell? ⟨gb102, 9, none⟩ = some (.int .u8 a1_9) := (blk_cell BK102.out 9).trans rfl; have hcz10_10 : w7.cell? ⟨gb102, 10, none⟩ = some (.int .u8 a1_10) := (blk_cell BK102.out 10).trans rfl; have hcz10_11 : w7.cell? ⟨gb102, 11, none⟩ = some (.int .u8 a1_11) := (blk_cell BK102.out 11).trans rfl; have hcz10_12 : w7.cell? ⟨gb102, 12, none⟩ = some (.slice A1_12 l1_12.length c1_12) := (blk_cell BK102.out 12).trans rfl; have hfz10_0 := blk_frozen BK102.out 0; have hfz10_1 := blk_frozen BK102.out 1; have hfz10_2 := blk_frozen BK102.out 2; have hfz10_3 := blk_frozen BK102.out 3; have hfz10_4 := blk_frozen BK102.out 4; have hfz10_5 := blk_frozen BK102.out 5; have hfz10_6 := blk_frozen BK102.out 6; have hfz10_7 := blk_frozen BK102.out 7; have hfz10_8 := blk_frozen BK102.out 8; have hfz10_9 := blk_frozen BK102.out 9; have hfz10_10 := blk_frozen BK102.out 10; have hfz10_11 := blk_frozen BK102.out 11; have hfz10_12 := blk_frozen BK102.out 12) | (go_at_call 25; (with_reducible refine (antiphonref1_Same.calls k _ _ l0_12 _ _ l1_12 t103 _ ?side1 ?side2 ?side3 ?side4 A5.out).mono ?_); (case side1 => repeat (first | exact (Kd.C_below HR0_12.out HB.out) | (with_reducible refine Kd.C_alloc ?_ _) | (with_reducible refine Kd.C_drewN ?_ _) | (with_reducible refine Kd.C_drew ?_))); (case side2 => exact HC0_12.out); (case side3 => repeat (first | exact (Kd.C_below HR1_12.out HB.out) | (with_reducible refine Kd.C_alloc ?_ _) | (with_reducible refine Kd.C_drewN ?_ _) | (with_reducible refine Kd.C_drew ?_))); (case side4 => exact HC1_12.out); rintro e w' ⟨rfl, ⟨nd, rfl⟩⟩))
      go_ret
      exact ⟨by first | rfl | (simp [errW_none, errW_some] <;> rfl) | (simp [*, errW_none, errW_some] <;> rfl), by repeat (first | (with_reducible first | exact HB.out | apply below_alloc | apply pw_below_drewN | apply below_drew1 | refine below_set ?_ GE101.out | refine below_set ?_ GE102.out) | exact HB.out)⟩
    · rw [if_neg c4] at H
      have c4b0 : (a0_6 == a1_6 && (a0_7 == a1_7 && (a0_8 == a1_8 && (a0_9 == a1_9 && (a0_10 == a1_10 && (a0_11 == a1_11)))))) = false := by simpa using c4
      (try (have c4b1 : decide (a0_6 = a1_6 && (a0_7 == a1_7 && (a0_8 == a1_8 && (a0_9 == a1_9 && (a0_10 == a1_10 && (a0_11 == a1_11)))))) = false := by simpa using c4))
      (try (have c4b2 : (a0_6 == a1_6 && (a0_7 == a1_7 && (a0_8 == a1_8 && (a0_9 == a1_9 && (a0_10 == a1_10 && (a0_11 == a1_11)))))) = false := by simpa using c4))
      (try (have c4b3 : ¬ (a0_6 = a1_6 && (a0_7 == a1_7 && (a0_8 == a1_8 && (a0_9 == a1_9 && (a0_10 == a1_10 && (a0_11 == a1_11)))))) := by simpa using c4))
      clear c4
      obtain rfl := Option.some.inj H
      go_enter Try.func36, Try.ntmps36
      go_wp2_with (first | ((with_reducible refine gate_dst (N := 2) rfl ?_); refine box_event ?hg (N := 2) ?hd (cs := #[.int .u8 a0_0, .int .u8 a0_1, .int .u8 a0_2, .int .u8 a0_3, .int .u8 a0_4, .int .u8 a0_5, .int .u8 a0_6, .int .u8 a0_7, .int .u8 a0_8, .int .u8 a0_9, .int .u8 a0_10, .int .u8 a0_11, .slice A0_12 l0_12.length c0_12]) (t := 45) ?hr ?_; (case hd => rfl); (case hg => rfl); (case hr => first | (go_simp; done) | (go_simp; rfl)); intro gb101 hg w11 hbox hb; have n0_ := Aside0.mk (below_step (by repeat (first | (with_reducible first | exact HB.out | apply below_alloc | apply pw_below_drewN | apply below_drew1) | exact HB.out)) hb); have n1_ := Aside0.mk (hbox); have n2_ := Aside0.mk ((by rw [hg]; exact (below_size (by repeat (first | (with_reducible first | exact HB.out | apply below_alloc | apply pw_below_drewN | apply below_drew1) | exact HB.out))) : w.heap.size ≤ gb101)); have n3_ := Aside0.mk ((by rw [hg]; exact (below_size (by repeat (first | (with_reducible first | exact HB.out | apply below_alloc | apply pw_below_drewN | apply below_drew1) | exact HB.out))) : w.heap.size ≤ gb101)); clear HB; have HB := n0_; have BK101 := n1_; have GW101 := n2_; have GE101 := n3_; clear n0_ n1_ n2_ n3_; clear hb hbox hg) | ((with_reducible refine gate_dst (N := 3) rfl ?_); refine box_event ?hg (N := 3) ?hd (cs := #[.int .u8 a1_0, .int .u8 a1_1, .int .u8 a1_2, .int .u8 a1_3, .int .u8 a1_4, .int .u8 a1_5, .int .u8 a1_6, .int .u8 a1_7, .int .u8 a1_8, .int .u8 a1_9, .int .u8 a1_10, .int .u8 a1_11, .slice A1_12 l1_12.length c1_12]) (t := 45) ?hr ?_; (case hd => rfl); (case hg => rfl); (case hr => first | (go_simp; done) | (go_simp; rfl)); intro gb102 hg w12 hbox hb; have n0_ := Aside0.mk (blk_below (g := gb101) (o := .cells #[.int .u8 a0_0, .int .u8 a0_1, .int .u8 a0_2, .int .u8 a0_3, .int .u8 a0_4, .int .u8 a0_5, .int .u8 a0_6, .int .u8 a0_7, .int .u8 a0_8, .int .u8 a0_9, .int .u8 a0_10, .int .u8 a0_11, .slice A0_12 l0_12.length c0_12] 45 (0, 0)) (by (with_reducible repeat (first | refine blk_drewN ?_ _ | refine blk_drew ?_ | refine blk_alloc ?_ _)); exact BK101.out) hb); have n1_ := Aside0.mk (below_step (by repeat (first | (with_reducible first | exact HB.out | apply below_alloc | apply pw_below_drewN | apply below_drew1 | refine below_set ?_ GE101.out) | exact HB.out)) hb); have n2_ := Aside0.mk (hbox); have n3_ := Aside0.mk ((by rw [hg]; exact (below_size (by repeat (first | (with_reducible first | exact HB.out | apply below_alloc | apply pw_below_drewN | apply below_drew1 | refine below_set ?_ GE101.out) | exact HB.out))) : w.heap.size ≤ gb102)); have n4_ := Aside0.mk ((by rw [hg]; exact (below_size (by repeat (first | (with_reducible first | exact HB.out | apply below_alloc | apply pw_below_drewN | apply below_drew1 | refine below_set ?_ GE101.out) | exact HB.out))) : w.heap.size ≤ gb102)); have n5_ := Aside0.mk ((by rw [hg]; exact Nat.ne_of_lt (blk_lt (g := gb101) (o := .cells #[.int .u8 a0_0, .int .u8 a0_1, .int .u8 a0_2, .int .u8 a0_3, .int .u8 a0_4, .int .u8 a0_5, .int .u8 a0_6, .int .u8 a0_7, .int .u8 a0_8, .int .u8 a0_9, .int .u8 a0_10, .int .u8 a0_11, .slice A0_12 l0_12.length c0_12] 45 (0, 0)) (by (with_reducible repeat (first | refine blk_drewN ?_ _ | refine blk_drew ?_ | refine blk_alloc ?_ _)); exact BK101.out)) : gb101 ≠ gb102)); have n6_ := Aside0.mk ((by rw [hg]; exact Nat.ne_of_gt (blk_lt (g := gb101) (o := .cells #[.int .u8 a0_0, .int .u8 a0_1, .int .u8 a0_2, .int .u8 a0_3, .int .u8 a0_4, .int .u8 a0_5, .int .u8 a0_6, .int .u8 a0_7, .int .u8 a0_8, .int .u8 a0_9, .int .u8 a0_10, .int .u8 a0_11, .slice A0_12 l0_12.length c0_12] 45 (0, 0)) (by (with_reducible repeat (first | refine blk_drewN ?_ _ | refine blk_drew ?_ | refine blk_alloc ?_ _)); exact BK101.out)) : gb102 ≠ gb101)); clear BK101; clear HB; have BK101 := n0_; have HB := n1_; have BK102 := n2_; have GW102 := n3_; have GE102 := n4_; have NB101_102 := n5_; have NB102_101 := n6_; clear n0_ n1_ n2_ n3_ n4_ n5_ n6_; clear hb hbox hg; have hnb13 := NB101_102.out; have hnc13 := NB102_101.out; have hcz14_0 : w12.cell? ⟨gb101, 0, none⟩ = some (.int .u8 a0_0) := (blk_cell BK101.out 0).trans rfl; have hcz14_1 : w12.cell? ⟨gb101, 1, none⟩ = some (.int .u8 a0_1) := (blk_cell BK101.out 1).trans rfl; have hcz14_2 : w12.cell? ⟨gb101, 2, none⟩ = some (.int .u8 a0_2) := (blk_cell BK101.out 2).trans rfl; have hcz14_3 : w12.cell? ⟨gb101, 3, none⟩ = some (.int .u8 a0_3) := (blk_cell BK101.out 3).trans rfl; have hcz14_4 : w12.cell? ⟨gb101, 4, none⟩ = some (.int .u8 a0_4) := (blk_cell BK101.out 4).trans rfl; have hcz14_5 : w12.cell? ⟨gb101, 5, none⟩ = some (.int .u8 a0_5) := (blk_cell BK101.out 5).trans rfl; have hcz14_6 : w12.cell? ⟨gb101, 6, none⟩ = some (.int .u8 a0_6) := (blk_cell BK101.out 6).trans rfl; have hcz14_7 : w12.cell? ⟨gb101, 7, none⟩ = some (.int .u8 a0_7) := (blk_cell BK101.out 7).trans rfl; have hcz14_8 : w12.cell? ⟨gb101, 8, none⟩ = some (.int .u8 a0_8) := (blk_cell BK101.out 8).trans rfl; have hcz14_9 : w12.cell? ⟨gb101, 9, none⟩ = some (.int .u8 a0_9) := (blk_cell BK101.out 9).trans rfl; have hcz14_10 : w12.cell? ⟨gb101, 10, none⟩ = some (.int .u8 a0_10) := (blk_cell BK101.out 10).trans rfl; have hcz14_11 : w12.cell? ⟨gb101, 11, none⟩ = some (.int .u8 a0_11) := (blk_cell BK101.out 11).trans rfl; have hcz14_12 : w12.cell? ⟨gb101, 12, none⟩ = some (.slice A0_12 l0_12.length c0_12) := (blk_cell BK101.out 12).trans rfl; have hfz14_0 := blk_frozen BK101.out 0; have hfz14_1 := blk_frozen BK101.out 1; have hfz14_2 := blk_frozen BK101.out 2; have hfz14_3 := blk_frozen BK101.out 3; have hfz14_4 := blk_frozen BK101.out 4; have hfz14_5 := blk_frozen BK101.out 5; have hfz14_6 := blk_frozen BK101.out 6; have hfz14_7 := blk_frozen BK101.out 7; have hfz14_8 := blk_frozen BK101.out 8; have hfz14_9 := blk_frozen BK101.out 9; have hfz14_10 := blk_frozen BK101.out 10; have hfz14_11 := blk_frozen BK101.out 11; have hfz14_12 := blk_frozen BK101.out 12; have hcz15_0 : w12.cell? ⟨gb102, 0, none⟩ = some (.int .u8 a1_0) := (blk_cell BK102.out 0).trans rfl; have hcz15_1 : w12.cell? ⟨gb102, 1, none⟩ = some (.int .u8 a1_1) := (blk_cell BK102.out 1).trans rfl; have hcz15_2 : w12.cell? ⟨gb102, 2, none⟩ = some (.int .u8 a1_2) := (blk_cell BK102.out 2).trans rfl; have hcz15_3 : w12.cell? ⟨gb102, 3, none⟩ = some (.int .u8 a1_3) := (blk_cell BK102.out 3).trans rfl; have hcz15_4 : w12.cell? ⟨gb102, 4, none⟩ = some (.int .u8 a1_4) := (blk_cell BK102.out 4).trans rfl; have hcz15_5 : w12.cell? ⟨gb102, 5, none⟩ = some (.int .u8 a1_5) := (blk_cell BK102.out 5).trans rfl; have hcz15_6 : w12.cell? ⟨gb102, 6, none⟩ = some (.int .u8 a1_6) := (blk_cell BK102.out 6).trans rfl; have hcz15_7 : w12.cell? ⟨gb102, 7, none⟩ = some (.int .u8 a1_7) := (blk_cell BK102.out 7).trans rfl; have hcz15_8 : w12.cell? ⟨gb102, 8, none⟩ = some (.int .u8 a1_8) := (blk_cell BK102.out 8).trans rfl; have hcz15_9 : w12.cell? ⟨gb102, 9, none⟩ = some (.int .u8 a1_9) := (blk_cell BK102.out 9).trans rfl; have hcz15_10 : w12.cell? ⟨gb102, 10, none⟩ = some (.int .u8 a1_10) := (blk_cell BK102.out 10).trans rfl; have hcz15_11 : w12.cell? ⟨gb102, 11, none⟩ = some (.int .u8 a1_11) := (blk_cell BK102.out 11).trans rfl; have hcz15_12 : w12.cell? ⟨gb102, 12, none⟩ = some (.slice A1_12 l1_12.length c1_12) := (blk_cell BK102.out 12).trans rfl; have hfz15_0 := blk_frozen BK102.out 0; have hfz15_1 := blk_frozen BK102.out 1; have hfz15_2 := blk_frozen BK102.out 2; have hfz15_3 := blk_frozen BK102.out 3; have hfz15_4 := blk_frozen BK102.out 4; have hfz15_5 := blk_frozen BK102.out 5; have hfz15_6 := blk_frozen BK102.out 6; have hfz15_7 := blk_frozen BK102.out 7; have hfz15_8 := blk_frozen BK102.out 8; have hfz15_9 := blk_frozen BK102.out 9; have hfz15_10 := blk_frozen BK102.out 10; have hfz15_11 := blk_frozen BK102.out 11; have hfz15_12 := blk_frozen BK102.out 12))
      go_ret
      exact ⟨by first | rfl | (simp [errW_none, errW_some] <;> rfl) | (simp [*, errW_none, errW_some] <;> rfl), by repeat (first | (with_reducible first | exact HB.out | apply below_alloc | apply pw_below_drewN | apply below_drew1 | refine below_set ?_ GE101.out | refine below_set ?_ GE102.out) | exact HB.out)⟩
  · rw [if_neg c3] at H
    have c3b0 : (a0_0 == a1_0 && (a0_1 == a1_1 && (a0_2 == a1_2 && (a0_3 == a1_3 && (a0_4 == a1_4 && (a0_5 == a1_5)))))) = false := by simpa using c3
    (try (have c3b1 : decide (a0_0 = a1_0 && (a0_1 == a1_1 && (a0_2 == a1_2 && (a0_3 == a1_3 && (a0_4 == a1_4 && (a0_5 == a1_5)))))) = false := by simpa using c3))
    (try (have c3b2 : (a0_0 == a1_0 && (a0_1 == a1_1 && (a0_2 == a1_2 && (a0_3 == a1_3 && (a0_4 == a1_4 && (a0_5 == a1_5)))))) = false := by simpa using c3))
    (try (have c3b3 : ¬ (a0_0 = a1_0 && (a0_1 == a1_1 && (a0_2 == a1_2 && (a0_3 == a1_3 && (a0_4 == a1_4 && (a0_5 == a1_5)))))) := by simpa using c3))
    clear c3
    obtain rfl := Option.some.inj H
    go_enter Try.func36, Try.ntmps36
    go_wp2_with (first | ((with_reducible refine gate_dst (N := 2) rfl ?_); refine box_event ?hg (N := 2) ?hd (cs := #[.int .u8 a0_0, .int .u8 a0_1, .int .u8 a0_2, .int .u8 a0_3, .int .u8 a0_4, .int .u8 a0_5, .int .u8 a0_6, .int .u8 a0_7, .int .u8 a0_8, .int .u8 a0_9, .int .u8 a0_10, .int .u8 a0_11, .slice A0_12 l0_12.length c0_12]) (t := 45) ?hr ?_; (case hd => rfl); (case hg => rfl); (case hr => first | (go_simp; done) | (go_simp; rfl)); intro gb101 hg w16 hbox hb; have n0_ := Aside0.mk (below_step (by repeat (first | (with_reducible first | exact HB.out | apply below_alloc | apply pw_below_drewN | apply below_drew1) | exact HB.out)) hb); have n1_ := Aside0.mk (hbox); have n2_ := Aside0.mk ((by rw [hg]; exact (below_size (by repeat (first | (with_reducible first | exact HB.out | apply below_alloc | apply pw_below_drewN | apply below_drew1) | exact HB.out))) : w.heap.size ≤ gb101)); have n3_ := Aside0.mk ((by rw [hg]; exact (below_size (by repeat (first | (with_reducible first | exact HB.out | apply below_alloc | apply pw_below_drewN | apply below_drew1) | exact HB.out))) : w.heap.size ≤ gb101)); clear HB; have HB := n0_; have BK101 := n1_; have GW101 := n2_; have GE101 := n3_; clear n0_ n1_ n2_ n3_; clear hb hbox hg) | ((with_reducible refine gate_dst (N := 3) rfl ?_); refine box_event ?hg (N := 3) ?hd (cs := #[.int .u8 a1_0, .int .u8 a1_1, .int .u8 a1_2, .int .u8 a1_3, .int .u8 a1_4, .int .u8 a1_5, .int .u8 a1_6, .int .u8 a1_7, .int .u8 a1_8, .int .u8 a1_9, .int .u8 a1_10, .int .u8 a1_11, .slice A1_12 l1_12.length c1_12]) (t := 45) ?hr ?_; (case hd => rfl); (case hg => rfl); (case hr => first | (go_simp; done) | (go_simp; rfl)); intro gb102 hg w17 hbox hb; have n0_ := Aside0.mk (blk_below (g := gb101) (o := .cells #[.int .u8 a0_0, .int .u8 a0_1, .int .u8 a0_2, .int .u8 a0_3, .int .u8 a0_4, .int .u8 a0_5, .int .u8 a0_6, .int .u8 a0_7, .int .u8 a0_8, .int .u8 a0_9, .int .u8 a0_10, .int .u8 a0_11, .slice A0_12 l0_12.length c0_12] 45 (0, 0)) (by (with_reducible repeat (first | refine blk_drewN ?_ _ | refine blk_drew ?_ | refine blk_alloc ?_ _)); exact BK101.out) hb); have n1_ := Aside0.mk (below_step (by repeat (first | (with_reducible first | exact HB.out | apply below_alloc | apply pw_below_drewN | apply below_drew1 | refine below_set ?_ GE101.out) | exact HB.out)) hb); have n2_ := Aside0.mk (hbox); have n3_ := Aside0.mk ((by rw [hg]; exact (below_size (by repeat (first | (with_reducible first | exact HB.out | apply below_alloc | apply pw_below_drewN | apply below_drew1 | refine below_set ?_ GE101.out) | exact HB.out))) : w.heap.size ≤ gb102)); have n4_ := Aside0.mk ((by rw [hg]; exact (below_size (by repeat (first | (with_reducible first | exact HB.out | apply below_alloc | apply pw_below_drewN | apply below_drew1 | refine below_set ?_ GE101.out) | exact HB.out))) : w.heap.size ≤ gb102)); have n5_ := Aside0.mk ((by rw [hg]; exact Nat.ne_of_lt (blk_lt (g := gb101) (o := .cells #[.int .u8 a0_0, .int .u8 a0_1, .int .u8 a0_2, .int .u8 a0_3, .int .u8 a0_4, .int .u8 a0_5, .int .u8 a0_6, .int .u8 a0_7, .int .u8 a0_8, .int .u8 a0_9, .int .u8 a0_10, .int .u8 a0_11, .slice A0_12 l0_12.length c0_12] 45 (0, 0)) (by (with_reducible repeat (first | refine blk_drewN ?_ _ | refine blk_drew ?_ | refine blk_alloc ?_ _)); exact BK101.out)) : gb101 ≠ gb102)); have n6_ := Aside0.mk ((by rw [hg]; exact Nat.ne_of_gt (blk_lt (g := gb101) (o := .cells #[.int .u8 a0_0, .int .u8 a0_1, .int .u8 a0_2, .int .u8 a0_3, .int .u8 a0_4, .int .u8 a0_5, .int .u8 a0_6, .int .u8 a0_7, .int .u8 a0_8, .int .u8 a0_9, .int .u8 a0_10, .int .u8 a0_11, .slice A0_12 l0_12.length c0_12] 45 (0, 0)) (by (with_reducible repeat (first | refine blk_drewN ?_ _ | refine blk_drew ?_ | refine blk_alloc ?_ _)); exact BK101.out)) : gb102 ≠ gb101)); clear BK101; clear HB; have BK101 := n0_; have HB := n1_; have BK102 := n2_; have GW102 := n3_; have GE102 := n4_; have NB101_102 := n5_; have NB102_101 := n6_; clear n0_ n1_ n2_ n3_ n4_ n5_ n6_; clear hb hbox hg; have hnb18 := NB101_102.out; have hnc18 := NB102_101.out; have hcz19_0 : w17.cell? ⟨gb101, 0, none⟩ = some (.int .u8 a0_0) := (blk_cell BK101.out 0).trans rfl; have hcz19_1 : w17.cell? ⟨gb101, 1, none⟩ = some (.int .u8 a0_1) := (blk_cell BK101.out 1).trans rfl; have hcz19_2 : w17.cell? ⟨gb101, 2, none⟩ = some (.int .u8 a0_2) := (blk_cell BK101.out 2).trans rfl; have hcz19_3 : w17.cell? ⟨gb101, 3, none⟩ = some (.int .u8 a0_3) := (blk_cell BK101.out 3).trans rfl; have hcz19_4 : w17.cell? ⟨gb101, 4, none⟩ = some (.int .u8 a0_4) := (blk_cell BK101.out 4).trans rfl; have hcz19_5 : w17.cell? ⟨gb101, 5, none⟩ = some (.int .u8 a0_5) := (blk_cell BK101.out 5).trans rfl; have hcz19_6 : w17.cell? ⟨gb101, 6, none⟩ = some (.int .u8 a0_6) := (blk_cell BK101.out 6).trans rfl; have hcz19_7 : w17.cell? ⟨gb101, 7, none⟩ = some (.int .u8 a0_7) := (blk_cell BK101.out 7).trans rfl; have hcz19_8 : w17.cell? ⟨gb101, 8, none⟩ = some (.int .u8 a0_8) := (blk_cell BK101.out 8).trans rfl; have hcz19_9 : w17.cell? ⟨gb101, 9, none⟩ = some (.int .u8 a0_9) := (blk_cell BK101.out 9).trans rfl; have hcz19_10 : w17.cell? ⟨gb101, 10, none⟩ = some (.int .u8 a0_10) := (blk_cell BK101.out 10).trans rfl; have hcz19_11 : w17.cell? ⟨gb101, 11, none⟩ = some (.int .u8 a0_11) := (blk_cell BK101.out 11).trans rfl; have hcz19_12 : w17.cell? ⟨gb101, 12, none⟩ = some (.slice A0_12 l0_12.length c0_12) := (blk_cell BK101.out 12).trans rfl; have hfz19_0 := blk_frozen BK101.out 0; have hfz19_1 := blk_frozen BK101.out 1; have hfz19_2 := blk_frozen BK101.out 2; have hfz19_3 := blk_frozen BK101.out 3; have hfz19_4 := blk_frozen BK101.out 4; have hfz19_5 := blk_frozen BK101.out 5; have hfz19_6 := blk_frozen BK101.out 6; have hfz19_7 := blk_frozen BK101.out 7; have hfz19_8 := blk_frozen BK101.out 8; have hfz19_9 := blk_frozen BK101.out 9; have hfz19_10 := blk_frozen BK101.out 10; have hfz19_11 := blk_frozen BK101.out 11; have hfz19_12 := blk_frozen BK101.out 12; have hcz20_0 : w17.cell? ⟨gb102, 0, none⟩ = some (.int .u8 a1_0) := (blk_cell BK102.out 0).trans rfl; have hcz20_1 : w17.cell? ⟨gb102, 1, none⟩ = some (.int .u8 a1_1) := (blk_cell BK102.out 1).trans rfl; have hcz20_2 : w17.cell? ⟨gb102, 2, none⟩ = some (.int .u8 a1_2) := (blk_cell BK102.out 2).trans rfl; have hcz20_3 : w17.cell? ⟨gb102, 3, none⟩ = some (.int .u8 a1_3) := (blk_cell BK102.out 3).trans rfl; have hcz20_4 : w17.cell? ⟨gb102, 4, none⟩ = some (.int .u8 a1_4) := (blk_cell BK102.out 4).trans rfl; have hcz20_5 : w17.cell? ⟨gb102, 5, none⟩ = some (.int .u8 a1_5) := (blk_cell BK102.out 5).trans rfl; have hcz20_6 : w17.cell? ⟨gb102, 6, none⟩ = some (.int .u8 a1_6) := (blk_cell BK102.out 6).trans rfl; have hcz20_7 : w17.cell? ⟨gb102, 7, none⟩ = some (.int .u8 a1_7) := (blk_cell BK102.out 7).trans rfl; have hcz20_8 : w17.cell? ⟨gb102, 8, none⟩ = some (.int .u8 a1_8) := (blk_cell BK102.out 8).trans rfl; have hcz20_9 : w17.cell? ⟨gb102, 9, none⟩ = some (.int .u8 a1_9) := (blk_cell BK102.out 9).trans rfl; have hcz20_10 : w17.cell? ⟨gb102, 10, none⟩ = some (.int .u8 a1_10) := (blk_cell BK102.out 10).trans rfl; have hcz20_11 : w17.cell? ⟨gb102, 11, none⟩ = some (.int .u8 a1_11) := (blk_cell BK102.out 11).trans rfl; have hcz20_12 : w17.cell? ⟨gb102, 12, none⟩ = some (.slice A1_12 l1_12.length c1_12) := (blk_cell BK102.out 12).trans rfl; have hfz20_0 := blk_frozen BK102.out 0; have hfz20_1 := blk_frozen BK102.out 1; have hfz20_2 := blk_frozen BK102.out 2; have hfz20_3 := blk_frozen BK102.out 3; have hfz20_4 := blk_frozen BK102.out 4; have hfz20_5 := blk_frozen BK102.out 5; have hfz20_6 := blk_frozen BK102.out 6; have hfz20_7 := blk_frozen BK102.out 7; have hfz20_8 := blk_frozen BK102.out 8; have hfz20_9 := blk_frozen BK102.out 9; have hfz20_10 := blk_frozen BK102.out 10; have hfz20_11 := blk_frozen BK102.out 11; have hfz20_12 := blk_frozen BK102.out 12))
    go_ret
    exact ⟨by first | rfl | (simp [errW_none, errW_some] <;> rfl) | (simp [*, errW_none, errW_some] <;> rfl), by repeat (first | (with_reducible first | exact HB.out | apply below_alloc | apply pw_below_drewN | apply below_drew1 | refine below_set ?_ GE101.out | refine below_set ?_ GE102.out) | exact HB.out)⟩
end Go.Proofs.Ytpalloofjljhkaa.P
/-! Px41 -/
namespace Go.Proofs.Ytpalloofjljhkaa.P
open Go.RowKit Go.Proofs.YtpalloofjljhkaaW.PrintWords Go.Proofs.YtpalloofjljhkaaW.PrintLast Go.Proofs.YtpalloofjljhkaaW.PrintMore
attribute [local go_sem] max2_int min2_int max_two min_two max_three min_three max_four min_four   -- for this text's walks alone
set_option linter.unusedVariables false
set_option linter.unusedSimpArgs false
def mac_Station.f (a0 : Int) : Option (Int × Int × Int × Int × Int × Int) := if a0 < 0 then (some (0, 0, 0, 0, 0, 0)) else (if a0 > 255 then (some (0, 0, 0, 0, 0, 0)) else (some (2, 0, 0, 0, 0, (a0) % 256)))
set_option maxHeartbeats 8000000 in
set_option maxRecDepth 100000 in
theorem mac_Station.calls (a0 : Int) (r1 : Int) (r2 : Int) (r3 : Int) (r4 : Int) (r5 : Int) (r6 : Int) (w : World) (h : mac_Station.f a0 = some (r1, r2, r3, r4, r5, r6)) :
    Calls Try.prog 40 #[.int .i64 a0] w fun e w' => e = .returned (.agg #[.int .u8 r1, .int .u8 r2, .int .u8 r3, .int .u8 r4, .int .u8 r5, .int .u8 r6]) ∧ Below w.heap.size w w' := by
  have hu43 := Try.underlying43
  have HB := Aside0.mk (Below.refl w.heap.size w)
  have H : (if a0 < 0 then (some (0, 0, 0, 0, 0, 0)) else (if a0 > 255 then (some (0, 0, 0, 0, 0, 0)) else (some (2, 0, 0, 0, 0, (a0) % 256)))) = some (r1, r2, r3, r4, r5, r6) := h
  clear h
  by_cases c2 : a0 < 0
  · rw [if_pos c2] at H
    have c2b0 : decide (a0 < 0) = true := decide_eq_true c2
    clear c2
    simp only [Option.some.injEq, Prod.mk.injEq] at H
    obtain ⟨rfl, rfl, rfl, rfl, rfl, rfl⟩ := H
    go_enter Try.func40, Try.ntmps40
    go_wp2_with (first | ((with_reducible refine gate_dst (N := 2) rfl ?_); refine box_event ?hg (N := 2) ?hd (cs := #[.int .u8 0, .int .u8 0, .int .u8 0, .int .u8 0, .int .u8 0, .int .u8 0]) (t := 43) ?hr ?_; (case hd => rfl); (case hg => rfl); (case hr => first | (go_simp; done) | (go_simp; rfl)); intro gb101 hg w3 hbox hb; have n0_ := Aside0.mk (below_step (by repeat (first | (with_reducible first | exact HB.out | apply below_alloc | apply pw_below_drewN | apply below_drew1) | exact HB.out)) hb); have n1_ := Aside0.mk (hbox); have n2_ := Aside0.mk ((by rw [hg]; exact (below_size (by repeat (first | (with_reducible first | exact HB.out | apply below_alloc | apply pw_below_drewN | apply below_drew1) | exact HB.out))) : w.heap.size ≤ gb101)); have n3_ := Aside0.mk ((by rw [hg]; exact (below_size (by repeat (first | (with_reducible first | exact HB.out | apply below_alloc | apply pw_below_drewN | apply below_drew1) | exact HB.out))) : w.heap.size ≤ gb101)); clear HB; have HB := n0_; have BK101 := n1_; have GW101 := n2_; have GE101 := n3_; clear n0_ n1_ n2_ n3_; clear hb hbox hg; have hcz4_0 : w3.cell? ⟨gb101, 0, none⟩ = some (.int .u8 0) := (blk_cell BK101.out 0).trans rfl; have hcz4_1 : w3.cell? ⟨gb101, 1, none⟩ = some (.int .u8 0) := (blk_cell BK101.out 1).trans rfl; have hcz4_2 : w3.cell? ⟨gb101, 2, none⟩ = some (.int .u8 0) := (blk_cell BK101.out 2).trans rfl; have hcz4_3 : w3.cell? ⟨gb101, 3, none⟩ = some (.int .u8 0) := (blk_cell BK101.out 3).trans rfl; have hcz4_4 : w3.cell? ⟨gb101, 4, none⟩ = some (.int .u8 0) := (blk_cell BK101.out 4).trans rfl; have hcz4_5 : w3.cell? ⟨gb101, 5, none⟩ = some (.int .u8 0) := (blk_cell BK101.out 5).trans rfl; have hfz4_0 := blk_frozen BK101.out 0; have hfz4_1 := blk_frozen BK101.out 1; have hfz4_2 := blk_frozen BK101.out 2; have hfz4_3 := blk_frozen BK101.out 3; have hfz4_4 := blk_frozen BK101.out 4; have hfz4_5 := blk_frozen BK101.out 5))
    refine bodyPost_ret (results_cell_row rfl _ _ gb101 43 #[.int .u8 0, .int .u8 0, .int .u8 0, .int .u8 0, .int .u8 0, .int .u8 0] (0, 0) _ rfl (by (with_reducible repeat (first | refine blk_drewN ?_ _ | refine blk_drew ?_ | refine blk_alloc ?_ _)); refine blk_put (cs := #[.int .u8 0, .int .u8 0, .int .u8 0, .int .u8 0, .int .u8 0, .int .u8 0]) ?_ 5 _ rfl; (with_reducible repeat (first | refine blk_drewN ?_ _ | refine blk_drew ?_ | refine blk_alloc ?_ _)); refine blk_put (cs := #[.int .u8 0, .int .u8 0, .int .u8 0, .int .u8 0, .int .u8 0, .int .u8 0]) ?_ 4 _ rfl; (with_reducible repeat (first | refine blk_drewN ?_ _ | refine blk_drew ?_ | refine blk_alloc ?_ _)); refine blk_put (cs := #[.int .u8 0, .int .u8 0, .int .u8 0, .int .u8 0, .int .u8 0, .int .u8 0]) ?_ 3 _ rfl; (with_reducible repeat (first | refine blk_drewN ?_ _ | refine blk_drew ?_ | refine blk_alloc ?_ _)); refine blk_put (cs := #[.int .u8 0, .int .u8 0, .int .u8 0, .int .u8 0, .int .u8 0, .int .u8 0]) ?_ 2 _ rfl; (with_reducible repeat (first | refine blk_drewN ?_ _ | refine blk_drew ?_ | refine blk_alloc ?_ _)); refine blk_put (cs := #[.int .u8 0, .int .u8 0, .int .u8 0, .int .u8 0, .int .u8 0, .int .u8 0]) ?_ 1 _ rfl; (with_reducible repeat (first | refine blk_drewN ?_ _ | refine blk_drew ?_ | refine blk_alloc ?_ _)); refine blk_put (cs := #[.int .u8 0, .int .u8 0, .int .u8 0, .int .u8 0, .int .u8 0, .int .u8 0]) ?_ 0 _ rfl; (with_reducible repeat (first | refine blk_drewN ?_ _ | refine blk_drew ?_ | refine blk_alloc ?_ _)); exact BK101.out) Try.underlying43 rfl (by kernel_rfl)) rfl ?_
    exact ⟨by first | rfl | (simp [errW_none, errW_some] <;> rfl) | (simp [*, errW_none, errW_some] <;> rfl), by repeat (first | (with_reducible first | exact HB.out | apply below_alloc | apply pw_below_drewN | apply below_drew1 | refine below_set ?_ GE101.out) | exact HB.out)⟩
  · rw [if_neg c2] at H
    have c2b0 : decide (a0 < 0) = false := decide_eq_false c2
    clear c2
    by_cases c5 : a0 > 255
    · rw [if_pos c5] at H
      have c5b0 : decide (255 < a0) = true := decide_eq_true c5
      clear c5
      simp only [Option.some.injEq, Prod.mk.injEq] at H
      obtain ⟨rfl, rfl, rfl, rfl, rfl, rfl⟩ := H
      go_enter Try.func40, Try.ntmps40
      go_wp2_with (first | ((with_reducible refine gate_dst (N := 2) rfl ?_); refine box_event ?hg (N := 2) ?hd (cs := #[.int .u8 0, .int .u8 0, .int .u8 0, .int .u8 0, .int .u8 0, .int .u8 0]) (t := 43) ?hr ?_; (case hd => rfl); (case hg => rfl); (case hr => first | (go_simp; done) | (go_simp; rfl)); intro gb101 hg w6 hbox hb; have n0_ := Aside0.mk (below_step (by repeat (first | (with_reducible first | exact HB.out | apply below_alloc | apply pw_below_drewN | apply below_drew1) | exact HB.out)) hb); have n1_ := Aside0.mk (hbox); have n2_ := Aside0.mk ((by rw [hg]; exact (below_size (by repeat (first | (with_reducible first | exact HB.out | apply below_alloc | apply pw_below_drewN | apply below_drew1) | exact HB.out))) : w.heap.size ≤ gb101)); have n3_ := Aside0.mk ((by rw [hg]; exact (below_size (by repeat (first | (with_reducible first | exact HB.out | apply below_alloc | apply pw_below_drewN | apply below_drew1) | exact HB.out))) : w.heap.size ≤ gb101)); clear HB; have HB := n0_; have BK101 := n1_; have GW101 := n2_; have GE101 := n3_; clear n0_ n1_ n2_ n3_; clear hb hbox hg; have hcz7_0 : w6.cell? ⟨gb101, 0, none⟩ = some (.int .u8 0) := (blk_cell BK101.out 0).trans rfl; have hcz7_1 : w6.cell? ⟨gb101, 1, none⟩ = some (.int .u8 0) := (blk_cell BK101.out 1).trans rfl; have hcz7_2 : w6.cell? ⟨gb101, 2, none⟩ = some (.int .u8 0) := (blk_cell BK101.out 2).trans rfl; have hcz7_3 : w6.cell? ⟨gb101, 3, none⟩ = some (.int .u8 0) := (blk_cell BK101.out 3).trans rfl; have hcz7_4 : w6.cell? ⟨gb101, 4, none⟩ = some (.int .u8 0) := (blk_cell BK101.out 4).trans rfl; have hcz7_5 : w6.cell? ⟨gb101, 5, none⟩ = some (.int .u8 0) := (blk_cell BK101.out 5).trans rfl; have hfz7_0 := blk_frozen BK101.out 0; have hfz7_1 := blk_frozen BK101.out 1; have hfz7_2 := blk_frozen BK101.out 2; have hfz7_3 := blk_frozen BK101.out 3; have hfz7_4 := blk_frozen BK101.out 4; have hfz7_5 := blk_frozen BK101.out 5))
      refine bodyPost_ret (results_cell_row rfl _ _ gb101 43 #[.int .u8 0, .int .u8 0, .int .u8 0, .int .u8 0, .int .u8 0, .int .u8 0] (0, 0) _ rfl (by (with_reducible repeat (first | refine blk_drewN ?_ _ | refine blk_drew ?_ | refine blk_alloc ?_ _)); refine blk_put (cs := #[.int .u8 0, .int .u8 0, .int .u8 0, .int .u8 0, .int .u8 0, .int .u8 0]) ?_ 5 _ rfl; (with_reducible repeat (first | refine blk_drewN ?_ _ | refine blk_drew ?_ | refine blk_alloc ?_ _)); refine blk_put (cs := #[.int .u8 0, .int .u8 0, .int .u8 0, .int .u8 0, .int .u8 0, .int .u8 0]) ?_ 4 _ rfl; (with_reducible repeat (first | refine blk_drewN ?_ _ | refine blk_drew ?_ | refine blk_alloc ?_ _)); refine blk_put (cs := #[.int .u8 0, .int .u8 0, .int .u8 0, .int .u8 0, .int .u8 0, .int .u8 0]) ?_ 3 _ rfl; (with_reducible repeat (first | refine blk_drewN ?_ _ | refine blk_drew ?_ | refine blk_alloc ?_ _)); refine blk_put (cs := #[.int .u8 0, .int .u8 0, .int .u8 0, .int .u8 0, .int .u8 0, .int .u8 0]) ?_ 2 _ rfl; (with_reducible repeat (first | refine blk_drewN ?_ _ | refine blk_drew ?_ | refine blk_alloc ?_ _)); refine blk_put (cs := #[.int .u8 0, .int .u8 0, .int .u8 0, .int .u8 0, .int .u8 0, .int .u8 0]) ?_ 1 _ rfl; (with_reducible repeat (first | refine blk_drewN ?_ _ | refine blk_drew ?_ | refine blk_alloc ?_ _)); refine blk_put (cs := #[.int .u8 0, .int .u8 0, .int .u8 0, .int .u8 0, .int .u8 0, .int .u8 0]) ?_ 0 _ rfl; (with_reducible repeat (first | refine blk_drewN ?_ _ | refine blk_drew ?_ | refine blk_alloc ?_ _)); exact BK101.out) Try.underlying43 rfl (by kernel_rfl)) rfl ?_
      exact ⟨by first | rfl | (simp [errW_none, errW_some] <;> rfl) | (simp [*, errW_none, errW_some] <;> rfl), by repeat (first | (with_reducible first | exact HB.out | apply below_alloc | apply pw_below_drewN | apply below_drew1 | refine below_set ?_ GE101.out) | exact HB.out)⟩
    · rw [if_neg c5] at H
      have c5b0 : decide (255 < a0) = false := decide_eq_false c5
      clear c5
      simp only [Option.some.injEq, Prod.mk.injEq] at H
      obtain ⟨rfl, rfl, rfl, rfl, rfl, rfl⟩ := H
      go_enter Try.func40, Try.ntmps40
      go_wp2_with (first | ((with_reducible refine gate_dst (N := 2) rfl ?_); refine box_event ?hg (N := 2) ?hd (cs := #[.int .u8 0, .int .u8 0, .int .u8 0, .int .u8 0, .int .u8 0, .int .u8 0]) (t := 43) ?hr ?_; (case hd => rfl); (case hg => rfl); (case hr => first | (go_simp; done) | (go_simp; rfl)); intro gb101 hg w8 hbox hb; have n0_ := Aside0.mk (below_step (by repeat (first | (with_reducible first | exact HB.out | apply below_alloc | apply pw_below_drewN | apply below_drew1) | exact HB.out)) hb); have n1_ := Aside0.mk (hbox); have n2_ := Aside0.mk ((by rw [hg]; exact (below_size (by repeat (first | (with_reducible first | exact HB.out | apply below_alloc | apply pw_below_drewN | apply below_drew1) | exact HB.out))) : w.heap.size ≤ gb101)); have n3_ := Aside0.mk ((by rw [hg]; exact (below_size (by repeat (first | (with_reducible first | exact HB.out | apply below_alloc | apply pw_below_drewN | apply below_drew1) | exact HB.out))) : w.heap.size ≤ gb101)); clear HB; have HB := n0_; have BK101 := n1_; have GW101 := n2_; have GE101 := n3_; clear n0_ n1_ n2_ n3_; clear hb hbox hg; have hcz9_0 : w8.cell? ⟨gb101, 0, none⟩ = some (.int .u8 0) := (blk_cell BK101.out 0).trans rfl; have hcz9_1 : w8.cell? ⟨gb101, 1, none⟩ = some (.int .u8 0) := (blk_cell BK101.out 1).trans rfl; have hcz9_2 : w8.cell? ⟨gb101, 2, none⟩ = some (.int .u8 0) := (blk_cell BK101.out 2).trans rfl; have hcz9_3 : w8.cell? ⟨gb101, 3, none⟩ = some (.int .u8 0) := (blk_cell BK101.out 3).trans rfl; have hcz9_4 : w8.cell? ⟨gb101, 4, none⟩ = some (.int .u8 0) := (blk_cell BK101.out 4).trans rfl; have hcz9_5 : w8.cell? ⟨gb101, 5, none⟩ = some (.int .u8 0) := (blk_cell BK101.out 5).trans rfl; have hfz9_0 := blk_frozen BK101.out 0; have hfz9_1 := blk_frozen BK101.out 1; have hfz9_2 := blk_frozen BK101.out 2; have hfz9_3 := blk_frozen BK101.out 3; have hfz9_4 := blk_frozen BK101.out 4; have hfz9_5 := blk_frozen BK101.out 5))
      refine bodyPost_ret (results_cell_row rfl _ _ gb101 43 #[.int .u8 2, .int .u8 0, .int .u8 0, .int .u8 0, .int .u8 0, .int .u8 ((a0) % 256)] (0, 0) _ rfl (by (with_reducible repeat (first | refine blk_drewN ?_ _ | refine blk_drew ?_ | refine blk_alloc ?_ _)); refine blk_put (cs := #[.int .u8 2, .int .u8 0, .int .u8 0, .int .u8 0, .int .u8 0, .int .u8 0]) ?_ 5 _ rfl; (with_reducible repeat (first | refine blk_drewN ?_ _ | refine blk_drew ?_ | refine blk_alloc ?_ _)); refine blk_put (cs := #[.int .u8 2, .int .u8 0, .int .u8 0, .int .u8 0, .int .u8 0, .int .u8 0]) ?_ 4 _ rfl; (with_reducible repeat (first | refine blk_drewN ?_ _ | refine blk_drew ?_ | refine blk_alloc ?_ _)); refine blk_put (cs := #[.int .u8 2, .int .u8 0, .int .u8 0, .int .u8 0, .int .u8 0, .int .u8 0]) ?_ 3 _ rfl; (with_reducible repeat (first | refine blk_drewN ?_ _ | refine blk_drew ?_ | refine blk_alloc ?_ _)); refine blk_put (cs := #[.int .u8 2, .int .u8 0, .int .u8 0, .int .u8 0, .int .u8 0, .int .u8 0]) ?_ 2 _ rfl; (with_reducible repeat (first | refine blk_drewN ?_ _ | refine blk_drew ?_ | refine blk_alloc ?_ _)); refine blk_put (cs := #[.int .u8 2, .int .u8 0, .int .u8 0, .int .u8 0, .int .u8 0, .int .u8 0]) ?_ 1 _ rfl; (with_reducible repeat (first | refine blk_drewN ?_ _ | refine blk_drew ?_ | refine blk_alloc ?_ _)); refine blk_put (cs := #[.int .u8 0, .int .u8 0, .int .u8 0, .int .u8 0, .int .u8 0, .int .u8 0]) ?_ 0 _ rfl; (with_reducible repeat (first | refine blk_drewN ?_ _ | refine blk_drew ?_ | refine blk_alloc ?_ _)); exact BK101.out) Try.underlying43 rfl (by kernel_rfl)) rfl ?_
      exact ⟨by first | rfl | (simp [errW_none, errW_some] <;> rfl) | (simp [*, errW_none, errW_some] <;> rfl), by repeat (first | (with_reducible first | exact HB.out | apply below_alloc | apply pw_below_drewN | apply below_drew1 | refine below_set ?_ GE101.out) | exact HB.out)⟩
end Go.Proofs.Ytpalloofjljhkaa.P
/-! Awk -/
namespace Go.Proofs.Ytpalloofjljhkaa.P
open Go.RowKit Go.Proofs.Ytpalloofjljhkaa.Lib Go.Proofs.YtpalloofjljhkaaW.PrintWords Go.Proofs.YtpalloofjljhkaaW.PrintLast Go.Proofs.YtpalloofjljhkaaW.PrintMore
set_option linter.unusedVariables false
set_option linter.unusedSimpArgs false
theorem frame_none {l : List Int} (h : decE l ≠ 0) : frame (decH l) none (decD l).length 0 = #[.int .u8 0, .int .u8 0, .int .u8 0, .int .u8 0, .int .u8 0, .int .u8 0, .int .u8 0, .int .u8 0, .int .u8 0, .int .u8 0, .int .u8 0, .int .u8 0, .slice none 0 0] ∧ decD l = [] := by
  have h1 : decD l = [] := by unfold decD; rw [if_neg h]
  have h2 : ∀ i, decH l i = 0 := fun i => by unfold decH; rw [if_neg h]
  refine ⟨?_, h1⟩
  unfold frame
  rw [h1, h2, h2, h2, h2, h2, h2, h2, h2, h2, h2, h2, h2]
  rfl
theorem mac_Decode.calls (A0 : Option Addr) (c0 : Nat) (l0 : List Int) (w : World) (hr0 : Kd.C (Kd.int .u8) w A0 l0.length l0) (hc0 : l0.length ≤ c0) (hb : byteRow l0) (hmx : l0.length < 140737488355000) :
    Calls Try.prog 34 #[tabV true, .slice A0 l0.length c0] w fun e w' => ∃ A c, e = .returned (.tuple #[.agg (frame (decH l0) A (decD l0).length c), .int .i64 (decE l0)]) ∧ (decD l0).length ≤ c ∧ Kd.C (Kd.int .u8) w' A (decD l0).length (decD l0) ∧ Below w.heap.size w w' := by
  by_cases hl : l0.length < 64
  · have he : decE l0 = 2 := by unfold decE; rw [if_pos hl]
    obtain ⟨h1, h2⟩ := frame_none (l := l0) (by rw [he]; decide)
    refine (mac_Decode.short A0 c0 l0 w hr0 hc0 hl).mono ?_
    rintro e w' ⟨rfl, hB⟩
    exact ⟨none, 0, by rw [h1, he], by rw [h2]; exact Nat.le_refl _, by rw [h2]; exact C_nil _, hB⟩
  · cases ho : openB l0 with
    | false =>
      have he : decE l0 = 5 := by unfold decE; rw [if_neg hl, ho]; rfl
      obtain ⟨h1, h2⟩ := frame_none (l := l0) (by rw [he]; decide)
      refine (mac_Decode.sum A0 c0 l0 w hr0 hc0 (by omega) hb hmx ho).mono ?_
      rintro e w' ⟨rfl, hB⟩
      exact ⟨none, 0, by rw [h1, he], by rw [h2]; exact Nat.le_refl _, by rw [h2]; exact C_nil _, hB⟩
    | true => exact mac_Decode.body A0 c0 l0 w hr0 hc0 (by omega) hb hmx ho
def fr1 : List Int := sealI (encB [2, 0, 0, 0, 0, 1] [2, 0, 0, 0, 0, 2] [7])
theorem fr1_len : fr1.length = 64 := by decide +kernel
theorem fr1_byte : byteRow fr1 := by unfold byteRow; decide +kernel
theorem fr1_dec : decE fr1 = 0 ∧ decD fr1 = [7] := by decide +kernel
theorem fr1_head : decH fr1 0 = 2 ∧ decH fr1 1 = 0 ∧ decH fr1 2 = 0 ∧ decH fr1 3 = 0 ∧ decH fr1 4 = 0 ∧ decH fr1 5 = 1 ∧ decH fr1 6 = 2 ∧ decH fr1 7 = 0 ∧ decH fr1 8 = 0 ∧ decH fr1 9 = 0 ∧ decH fr1 10 = 0 ∧ decH fr1 11 = 2 := by decide +kernel
theorem st_f (n : Int) (h0 : 0 ≤ n) (h1 : n ≤ 255) : mac_Station.f n = some (2, 0, 0, 0, 0, n) := by
  unfold mac_Station.f
  rw [if_neg (by omega), if_neg (by omega), Int.emod_eq_of_lt h0 (by omega)]
theorem dec_fr1 (A0 : Option Addr) (c0 : Nat) (w : World) (hr0 : Kd.C (Kd.int .u8) w A0 64 fr1) (hc0 : 64 ≤ c0) :
    Calls Try.prog 34 #[tabV true, .slice A0 64 c0] w fun e w' => ∃ A c, e = .returned (.tuple #[.agg #[.int .u8 2, .int .u8 0, .int .u8 0, .int .u8 0, .int .u8 0, .int .u8 1, .int .u8 2, .int .u8 0, .int .u8 0, .int .u8 0, .int .u8 0, .int .u8 2, .slice A 1 c], .int .i64 0]) ∧ 1 ≤ c ∧ Kd.C (Kd.int .u8) w' A 1 [7] ∧ Below w.heap.size w w' := by
  have h := mac_Decode.calls A0 c0 fr1 w (by rw [fr1_len]; exact hr0) (by rw [fr1_len]; exact hc0) fr1_byte (by rw [fr1_len]; decide)
  rw [fr1_len] at h
  refine h.mono ?_
  rintro e w' ⟨A, c, rfl, h1, h2, h3⟩
  obtain ⟨e0, e1⟩ := fr1_dec
  obtain ⟨f0, f1, f2, f3, f4, f5, f6, f7, f8, f9, f10, f11⟩ := fr1_head
  rw [e1] at h1 h2
  refine ⟨A, c, ?_, h1, h2, h3⟩
  rw [e0, e1]
  unfold frame
  rw [f0, f1, f2, f3, f4, f5, f6, f7, f8, f9, f10, f11]
  rfl
set_option maxHeartbeats 8000000 in
set_option maxRecDepth 100000 in
theorem awake3_calls (w : World) :
    Calls Try.prog 31 #[] w fun e w' => e = .returned (.bool true) ∧ Below w.heap.size w w' := by
  have HB := Aside0.mk (Below.refl w.heap.size w)
  have hu45 := Try.underlying45
  have S1 := Aside0.mk (st_f 1 (by decide) (by decide))
  have S2 := Aside0.mk (st_f 2 (by decide) (by decide))
  have HSF := Aside0.mk (show antiphonref1_SameFrame.f 2 2 0 0 0 0 1 2 0 0 0 0 2 [7] 2 0 0 0 0 1 2 0 0 0 0 2 [7] = some true by decide +kernel)
  go_enter Try.func31, Try.ntmps31
  go_wp2_with fail
  refine (crc_Make.calls _).mono ?_
  rintro e w1 ⟨rfl, hB⟩
  have hS := (show Below w.heap.size w w1 from below_step (by repeat (first | with_reducible exact Below.refl _ _ | with_reducible apply below_drew1 | with_reducible apply pw_below_drewN | with_reducible apply below_alloc)) hB)
  replace HB := Aside0.mk (below_step HB.out hS)
  clear hS hB
  go_wp2_with (first
    | (refine wpList_store_tab rfl (.tmp 1) (.tmp 7) rfl w1.heap.size rfl true rfl Try.zeroCells27 (blk_new w1 _) zsz27 ?_; intro w2 hI hG; have hS := (show Below w1.heap.size w1 w2 from (below_alloc (Below.refl _ _) _).grown hG (below_alloc (Below.refl _ _) _).size (fun k hk => by cases hk; exact Nat.le_refl _)); have HG := Aside0.mk (HB.out.size); replace HB := Aside0.mk (below_step HB.out hS); generalize w1.heap.size = g at hI HG ⊢; have HI := Aside0.mk hI; clear hI hG hS))
  refine (mac_Station.calls 1 _ _ _ _ _ _ _ S1.out).mono ?_
  rintro e w3 ⟨rfl, hB⟩
  have hS := (show Below w2.heap.size w2 w3 from below_step (by repeat (first | with_reducible exact Below.refl _ _ | with_reducible apply below_drew1 | with_reducible apply pw_below_drewN | with_reducible apply below_alloc)) hB)
  replace HI := Aside0.mk (HI.out.below hS)
  replace HB := Aside0.mk (below_step HB.out hS)
  clear hS hB
  go_wp2_with fail
  refine (mac_Station.calls 2 _ _ _ _ _ _ _ S2.out).mono ?_
  rintro e w4 ⟨rfl, hB⟩
  have hS := (show Below w3.heap.size w3 w4 from below_step (by repeat (first | with_reducible exact Below.refl _ _ | with_reducible apply below_drew1 | with_reducible apply pw_below_drewN | with_reducible apply below_alloc)) hB)
  replace HI := Aside0.mk (HI.out.below hS)
  replace HB := Aside0.mk (below_step HB.out hS)
  clear hS hB
  go_wp2_with fail
  have hbc := heap_alloc2_old w4 (.cells #[.int .u8 7] 5 (0, 0)) (.cells #[.int .u8 2, .int .u8 0, .int .u8 0, .int .u8 0, .int .u8 0, .int .u8 1, .int .u8 2, .int .u8 0, .int .u8 0, .int .u8 0, .int .u8 0, .int .u8 2, .slice (some ⟨w4.heap.size, 0, none⟩) 1 1] 45 (0, 0))
  have hbf := heap_alloc2_new w4 (.cells #[.int .u8 7] 5 (0, 0)) (.cells #[.int .u8 2, .int .u8 0, .int .u8 0, .int .u8 0, .int .u8 0, .int .u8 1, .int .u8 2, .int .u8 0, .int .u8 0, .int .u8 0, .int .u8 0, .int .u8 2, .slice (some ⟨w4.heap.size, 0, none⟩) 1 1] 45 (0, 0))
  have hbw := below_alloc (below_alloc (Below.refl w4.heap.size w4) (.cells #[.int .u8 7] 5 (0, 0))) (.cells #[.int .u8 2, .int .u8 0, .int .u8 0, .int .u8 0, .int .u8 0, .int .u8 1, .int .u8 2, .int .u8 0, .int .u8 0, .int .u8 0, .int .u8 0, .int .u8 2, .slice (some ⟨w4.heap.size, 0, none⟩) 1 1] 45 (0, 0))
  generalize (w4.alloc (.cells #[.int .u8 7] 5 (0, 0))).alloc (.cells #[.int .u8 2, .int .u8 0, .int .u8 0, .int .u8 0, .int .u8 0, .int .u8 1, .int .u8 2, .int .u8 0, .int .u8 0, .int .u8 0, .int .u8 0, .int .u8 2, .slice (some ⟨w4.heap.size, 0, none⟩) 1 1] 45 (0, 0)) = w5 at hbc hbf hbw ⊢
  replace HI := Aside0.mk (HI.out.below hbw)
  replace HB := Aside0.mk (below_step HB.out hbw)
  have HF := Aside0.mk hbf
  have HC7 := Aside0.mk (lit_C (xs := [7]) hbc rfl (by decide))
  clear hbc hbf hbw
  refine wp_load_row 27 (.tmp 1) rfl g rfl 27 (tabRow true) (0, 0) _ HI.out Try.underlying27 rfl (tabInf true) ?_
  go_wp2_with (refine wpList_load_row rfl 45 (.tmp 2) rfl (w4.heap.size + 1) rfl 45 #[.int .u8 2, .int .u8 0, .int .u8 0, .int .u8 0, .int .u8 0, .int .u8 1, .int .u8 2, .int .u8 0, .int .u8 0, .int .u8 0, .int .u8 0, .int .u8 2, .slice (some ⟨w4.heap.size, 0, none⟩) 1 1] (0, 0) _ HF.out Try.underlying45 rfl info45_ ?_)
  refine (mac_Encode.ok 2 0 0 0 0 1 2 0 0 0 0 2 (some ⟨w4.heap.size, 0, none⟩) 1 [7] _ HC7.out (by decide) (by decide) (by decide) (by unfold byteRow; decide) (by unfold byteRow; decide) (by unfold byteRow; decide)).mono ?_
  rintro e w6 ⟨v6, rfl, hR0, hB⟩
  have hR : Kd.R (Kd.int .u8) 5 w6 w5.heap.size (fun _ => True) v6 fr1 := hR0
  obtain ⟨A6, c6, rfl, hc6, hC6⟩ := Kd.R_reads hR
  have HC6 := Aside0.mk hC6
  have Hc6 := Aside0.mk hc6
  replace HI := Aside0.mk (HI.out.below hB)
  replace HF := Aside0.mk (blk_below HF.out hB)
  replace HC7 := Aside0.mk (Kd.C_below HC7.out hB)
  replace HB := Aside0.mk (below_step HB.out hB)
  clear hR0 hR hB hC6 hc6
  rw [fr1_len] at *
  go_wp2_with fail
  refine wp_load_row 27 (.tmp 1) rfl g rfl 27 (tabRow true) (0, 0) _ HI.out Try.underlying27 rfl (tabInf true) ?_
  go_wp2_with fail
  refine (dec_fr1 A6 c6 _ HC6.out Hc6.out).mono ?_
  rintro e w7 ⟨AD, cD, rfl, hcD, hCD, hB⟩
  have HCD := Aside0.mk hCD
  have HcD := Aside0.mk hcD
  replace HF := Aside0.mk (blk_below HF.out hB)
  replace HC7 := Aside0.mk (Kd.C_below HC7.out hB)
  replace HB := Aside0.mk (below_step HB.out hB)
  clear hCD hcD hB HI HC6 Hc6
  have hk0 := (show ∀ o, (w7.alloc o).cell? ⟨w4.heap.size + 1, 0, none⟩ = some (.int .u8 2) from fun o => (blk_cell (blk_below HF.out (below_alloc (Below.refl _ _) o)) 0).trans rfl)
  have hk1 := (show ∀ o, (w7.alloc o).cell? ⟨w4.heap.size + 1, 1, none⟩ = some (.int .u8 0) from fun o => (blk_cell (blk_below HF.out (below_alloc (Below.refl _ _) o)) 1).trans rfl)
  have hk2 := (show ∀ o, (w7.alloc o).cell? ⟨w4.heap.size + 1, 2, none⟩ = some (.int .u8 0) from fun o => (blk_cell (blk_below HF.out (below_alloc (Below.refl _ _) o)) 2).trans rfl)
  have hk3 := (show ∀ o, (w7.alloc o).cell? ⟨w4.heap.size + 1, 3, none⟩ = some (.int .u8 0) from fun o => (blk_cell (blk_below HF.out (below_alloc (Below.refl _ _) o)) 3).trans rfl)
  have hk4 := (show ∀ o, (w7.alloc o).cell? ⟨w4.heap.size + 1, 4, none⟩ = some (.int .u8 0) from fun o => (blk_cell (blk_below HF.out (below_alloc (Below.refl _ _) o)) 4).trans rfl)
  have hk5 := (show ∀ o, (w7.alloc o).cell? ⟨w4.heap.size + 1, 5, none⟩ = some (.int .u8 1) from fun o => (blk_cell (blk_below HF.out (below_alloc (Below.refl _ _) o)) 5).trans rfl)
  have hk6 := (show ∀ o, (w7.alloc o).cell? ⟨w4.heap.size + 1, 6, none⟩ = some (.int .u8 2) from fun o => (blk_cell (blk_below HF.out (below_alloc (Below.refl _ _) o)) 6).trans rfl)
  have hk7 := (show ∀ o, (w7.alloc o).cell? ⟨w4.heap.size + 1, 7, none⟩ = some (.int .u8 0) from fun o => (blk_cell (blk_below HF.out (below_alloc (Below.refl _ _) o)) 7).trans rfl)
  have hk8 := (show ∀ o, (w7.alloc o).cell? ⟨w4.heap.size + 1, 8, none⟩ = some (.int .u8 0) from fun o => (blk_cell (blk_below HF.out (below_alloc (Below.refl _ _) o)) 8).trans rfl)
  have hk9 := (show ∀ o, (w7.alloc o).cell? ⟨w4.heap.size + 1, 9, none⟩ = some (.int .u8 0) from fun o => (blk_cell (blk_below HF.out (below_alloc (Below.refl _ _) o)) 9).trans rfl)
  have hk10 := (show ∀ o, (w7.alloc o).cell? ⟨w4.heap.size + 1, 10, none⟩ = some (.int .u8 0) from fun o => (blk_cell (blk_below HF.out (below_alloc (Below.refl _ _) o)) 10).trans rfl)
  have hk11 := (show ∀ o, (w7.alloc o).cell? ⟨w4.heap.size + 1, 11, none⟩ = some (.int .u8 2) from fun o => (blk_cell (blk_below HF.out (below_alloc (Below.refl _ _) o)) 11).trans rfl)
  have hk12 := (show ∀ o, (w7.alloc o).cell? ⟨w4.heap.size + 1, 12, none⟩ = some (.slice (some ⟨w4.heap.size, 0, none⟩) 1 1) from fun o => (blk_cell (blk_below HF.out (below_alloc (Below.refl _ _) o)) 12).trans rfl)
  go_wp2_with fail
  refine (antiphonref1_SameFrame.calls 2 2 0 0 0 0 1 2 0 0 0 0 2 (some ⟨w4.heap.size, 0, none⟩) 1 [7] 2 0 0 0 0 1 2 0 0 0 0 2 AD cD [7] true _ (Kd.C_below HC7.out (below_alloc (Below.refl _ _) _)) (by decide) (Kd.C_below HCD.out (below_alloc (Below.refl _ _) _)) HcD.out HSF.out).mono ?_
  rintro e w8 ⟨rfl, hB⟩
  replace HB := Aside0.mk (below_step (below_alloc HB.out _) hB)
  clear hB hk0 hk1 hk2 hk3 hk4 hk5 hk6 hk7 hk8 hk9 hk10 hk11 hk12
  go_wp2_with fail
  go_ret
  exact ⟨rfl, HB.out⟩
end Go.Proofs.Ytpalloofjljhkaa.P
/-! MDec -/
namespace Go.Proofs.Ytpalloofjljhkaa.P
open Go.RowKit Go.Proofs.Ytpalloofjljhkaa.Lib Go.Proofs.YtpalloofjljhkaaW.PrintWords Go.Proofs.YtpalloofjljhkaaW.PrintLast Go.Proofs.YtpalloofjljhkaaW.PrintMore
set_option linter.unusedVariables false
section
variable {t0 t1 t2 t3 t4 t5 f0 f1 f2 f3 f4 f5 : Int} {l : List Int}
theorem encB_len : (encB [t0, t1, t2, t3, t4, t5] [f0, f1, f2, f3, f4, f5] l).length = 14 + l.length + (46 - l.length) := by
  unfold encB
  simp only [List.length_append, List.length_cons, List.length_nil, List.length_replicate, beN_length]
theorem be16_enc (hl : l.length ≤ 1500) : be16 (encB [t0, t1, t2, t3, t4, t5] [f0, f1, f2, f3, f4, f5] l) = (l.length : Int) := by
  show ((l.length : Int) / 2 ^ (8 * 1) % 256) * 256 + (l.length : Int) / 2 ^ (8 * 0) % 256 = (l.length : Int)
  rw [show (2 : Int) ^ (8 * 1) = 256 by decide, show (2 : Int) ^ (8 * 0) = 1 by decide]
  omega
theorem enc_drop : (encB [t0, t1, t2, t3, t4, t5] [f0, f1, f2, f3, f4, f5] l).drop 14 = l ++ List.replicate (46 - l.length) 0 := rfl
theorem enc_head (hg : isGrp f0 = false) (hl : l.length ≤ 1500) : headOk (encB [t0, t1, t2, t3, t4, t5] [f0, f1, f2, f3, f4, f5] l) = true := by
  have h6 : hdv (encB [t0, t1, t2, t3, t4, t5] [f0, f1, f2, f3, f4, f5] l) 6 = f0 := rfl
  unfold headOk
  rw [h6, hg, be16_enc hl, encB_len, decide_eq_true (show (l.length : Int) ≤ 1500 by omega), decide_eq_true (by split <;> omega)]
  rfl
theorem enc_pad (hl : l.length ≤ 1500) : padOk (encB [t0, t1, t2, t3, t4, t5] [f0, f1, f2, f3, f4, f5] l) = true := by
  unfold padOk
  rw [be16_enc hl, Int.toNat_natCast, ← List.drop_drop, enc_drop, List.drop_left, List.all_eq_true]
  intro c hc
  rw [List.eq_of_mem_replicate hc]
  rfl
theorem decE_enc (hg : isGrp f0 = false) (hl : l.length ≤ 1500) : decE (sealI (encB [t0, t1, t2, t3, t4, t5] [f0, f1, f2, f3, f4, f5] l)) = 0 := by
  unfold decE
  rw [sealI_len, encB_len, if_neg (by omega), open_seal.1, if_pos rfl, open_seal.2, enc_head hg hl, enc_pad hl]
  rfl
end
end Go.Proofs.Ytpalloofjljhkaa.P
/-! MPads -/
namespace Go.Proofs.Ytpalloofjljhkaa.P
open Go.RowKit Go.Proofs.Ytpalloofjljhkaa.Lib Go.Proofs.YtpalloofjljhkaaW.PrintWords Go.Proofs.YtpalloofjljhkaaW.PrintLast Go.Proofs.YtpalloofjljhkaaW.PrintMore
set_option linter.unusedVariables false
theorem hdv_right {a b : List Int} {n j : Nat} (h : a.length = n) : hdv (a ++ b) (n + j) = hdv b j := by
  unfold hdv
  rw [List.getD_eq_getElem?_getD, List.getD_eq_getElem?_getD, List.getElem?_append_right (by omega), show n + j - a.length = j by omega]
end Go.Proofs.Ytpalloofjljhkaa.P
/-! MLen -/
namespace Go.Proofs.Ytpalloofjljhkaa.P
open Go.RowKit Go.Proofs.Ytpalloofjljhkaa.Lib Go.Proofs.YtpalloofjljhkaaW.PrintWords Go.Proofs.YtpalloofjljhkaaW.PrintLast Go.Proofs.YtpalloofjljhkaaW.PrintMore
set_option linter.unusedVariables false
def encF (P : List Int) (L n : Nat) : Prop := P.length = n ∧ isGrp (hdv P 6) = false ∧ be16 P = (L : Int) ∧ (∀ j, 14 + L ≤ j → j < n → hdv P j = 0)
theorem encF_ok {t0 t1 t2 t3 t4 t5 f0 f1 f2 f3 f4 f5 : Int} {l : List Int} (hg : isGrp f0 = false) (hl : l.length ≤ 1500) : encF (encB [t0, t1, t2, t3, t4, t5] [f0, f1, f2, f3, f4, f5] l) l.length (14 + l.length + (46 - l.length)) := by
  refine ⟨encB_len, hg, be16_enc hl, ?_⟩
  intro k h1 h2
  have h3 : hdv (encB [t0, t1, t2, t3, t4, t5] [f0, f1, f2, f3, f4, f5] l) k = hdv ((encB [t0, t1, t2, t3, t4, t5] [f0, f1, f2, f3, f4, f5] l).drop 14) (k - 14) := by
    unfold hdv
    rw [List.getD_eq_getElem?_getD, List.getD_eq_getElem?_getD, List.getElem?_drop, show 14 + (k - 14) = k by omega]
  rw [h3, enc_drop, show k - 14 = l.length + (k - 14 - l.length) by omega, hdv_right rfl]
  unfold hdv
  rw [List.getD_eq_getElem?_getD, List.getElem?_replicate, if_pos (by omega)]
  rfl
theorem hdv_set {X : List Int} {i k : Nat} {v : Int} (h : i ≠ k) : hdv (X.set i v) k = hdv X k := by
  unfold hdv
  rw [List.getD_eq_getElem?_getD, List.getD_eq_getElem?_getD, List.getElem?_set_ne h]
theorem hdv_same {X : List Int} {i : Nat} {v : Int} (h : i < X.length) : hdv (X.set i v) i = v := by
  unfold hdv
  rw [List.getD_eq_getElem?_getD, List.getElem?_set_self h]
  rfl
theorem byteRow_set {X : List Int} {i : Nat} {v : Int} (h : byteRow X) (h0 : 0 ≤ v ∧ v < 256) : byteRow (X.set i v) := by
  intro c hc
  rcases List.mem_or_eq_of_mem_set hc with hc | rfl
  · exact h c hc
  · exact h0
theorem pad_iff {X : List Int} {m n : Nat} (hl : X.length = n) : (X.drop m).all (· == 0) = true ↔ ∀ j, m ≤ j → j < n → hdv X j = 0 := by
  rw [List.all_eq_true]
  constructor
  · intro h j h1 h2
    have hm : hdv X j ∈ X.drop m := by
      unfold hdv
      rw [List.getD_eq_getElem?_getD, List.getElem?_eq_getElem (by omega), Option.getD_some]
      refine List.mem_iff_getElem?.2 ⟨j - m, ?_⟩
      rw [List.getElem?_drop, show m + (j - m) = j by omega, List.getElem?_eq_getElem (by omega)]
    simpa using h _ hm
  · intro h c hc
    obtain ⟨j, hj, rfl⟩ := List.getElem_of_mem hc
    have hj2 : m + j < X.length := by rw [List.length_drop] at hj; omega
    have := h (m + j) (by omega) (by omega)
    unfold hdv at this
    rw [List.getD_eq_getElem?_getD, List.getElem?_eq_getElem hj2] at this
    rw [List.getElem_drop]
    simpa using this
def lied (C : List Int) (u n : Nat) : Prop := C.length = n ∧ byteRow C ∧ isGrp (hdv C 6) = false ∧ be16 C = (u : Int)
theorem lied_ok {P : List Int} {L n u : Nat} (h : encF P L n) (hb : byteRow P) (hn : 60 ≤ n) (hu : u < 65536) {e1 e2 : Int} (h1 : e1 = ((u / 256 : Nat) : Int)) (h2 : e2 = ((u % 256 : Nat) : Int)) : lied ((P.set 12 e1).set 13 e2) u n := by
  obtain ⟨hl, hg, _, _⟩ := h
  subst h1 h2
  refine ⟨by rw [List.length_set, List.length_set, hl], byteRow_set (byteRow_set hb (by omega)) (by omega), ?_, ?_⟩
  · rw [hdv_set (by decide), hdv_set (by decide)]; exact hg
  · unfold be16
    rw [hdv_set (by decide), hdv_same (by omega), hdv_same (by rw [List.length_set]; omega)]
    omega
def rightB (C : List Int) (u n : Nat) : Prop := (u ≤ 1500 ∧ 14 + (if u < 46 then 46 else u) = n) ∧ ∀ j, 14 + u ≤ j → j < n → hdv C j = 0
theorem lied_dec {C : List Int} {u n : Nat} (h : lied C u n) (hn : 60 ≤ n) (b : Bool) (hb : b = true ↔ rightB C u n) : decE (sealI C) = if b then 0 else 4 := by
  obtain ⟨hl, hbC, hg, h16⟩ := h
  have hh : (headOk C && padOk C) = b := by
    rw [Bool.eq_iff_iff, hb, Bool.and_eq_true]
    unfold rightB
    refine and_congr ?_ ?_
    · unfold headOk
      rw [hg, h16, hl, Bool.and_eq_true, Bool.and_eq_true]
      simp only [Bool.not_false, true_and, decide_eq_true_eq]
      constructor
      · rintro ⟨h1, h2⟩
        refine ⟨by omega, ?_⟩
        split at h2 <;> split <;> omega
      · rintro ⟨h1, h2⟩
        refine ⟨by omega, ?_⟩
        split at h2 <;> split <;> omega
    · unfold padOk
      rw [h16, Int.toNat_natCast]
      exact pad_iff hl
  unfold decE
  rw [sealI_len, hl, if_neg (by omega), open_seal.1, if_pos rfl, open_seal.2, hh]
theorem pad_dec {P : List Int} {L n r : Nat} (h : encF P L n) (hn : n = 14 + L + (46 - L)) (hr : r < 46 - L) {x : Int} (hx : x ≠ 0) : decE (sealI (P.set (14 + L + r) x)) = 4 := by
  obtain ⟨hl, hg, h16, hz⟩ := h
  have h16' : be16 (P.set (14 + L + r) x) = (L : Int) := by
    unfold be16 at h16 ⊢
    rw [hdv_set (by omega), hdv_set (by omega)]
    exact h16
  have hp : padOk (P.set (14 + L + r) x) = false := by
    refine Bool.eq_false_iff.mpr fun h => hx ?_
    unfold padOk at h
    rw [h16', Int.toNat_natCast] at h
    have := (pad_iff (n := n) (by rw [List.length_set, hl])).mp h (14 + L + r) (by omega) (by omega)
    rwa [hdv_same (by omega)] at this
  unfold decE
  rw [sealI_len, List.length_set, hl, if_neg (by omega), open_seal.1, if_pos rfl, open_seal.2, hp, Bool.and_false]
  rfl
end Go.Proofs.Ytpalloofjljhkaa.P
/-! Px46 -/
namespace Go.Proofs.Ytpalloofjljhkaa.P
open Go.RowKit Go.Proofs.YtpalloofjljhkaaW.PrintWords Go.Proofs.YtpalloofjljhkaaW.PrintLast Go.Proofs.YtpalloofjljhkaaW.PrintMore
attribute [local go_sem] max2_int min2_int max_two min_two max_three min_three max_four min_four   -- for this text's walks alone
set_option linter.unusedVariables false
set_option linter.unusedSimpArgs false
def antiphonref1_Group.f (a0_0 : Int) (a0_1 : Int) (a0_2 : Int) (a0_3 : Int) (a0_4 : Int) (a0_5 : Int) : Option (Bool) := some ((Go.bits .and .u8 a0_0 1) == 1)
set_option maxHeartbeats 8000000 in
set_option maxRecDepth 100000 in
theorem antiphonref1_Group.calls (a0_0 : Int) (a0_1 : Int) (a0_2 : Int) (a0_3 : Int) (a0_4 : Int) (a0_5 : Int) (r : Bool) (w : World) (h : antiphonref1_Group.f a0_0 a0_1 a0_2 a0_3 a0_4 a0_5 = some r) :
    Calls Try.prog 45 #[.agg #[.int .u8 a0_0, .int .u8 a0_1, .int .u8 a0_2, .int .u8 a0_3, .int .u8 a0_4, .int .u8 a0_5]] w fun e w' => e = .returned (.bool r) ∧ Below w.heap.size w w' := by
  have hu43 := Try.underlying43
  have HB := Aside0.mk (Below.refl w.heap.size w)
  have H : (some ((Go.bits .and .u8 a0_0 1) == 1)) = some r := h
  clear h
  obtain rfl := Option.some.inj H
  go_enter Try.func45, Try.ntmps45
  go_wp2_with (first | ((with_reducible refine gate_dst (N := 1) rfl ?_); refine box_event ?hg (N := 1) ?hd (cs := #[.int .u8 a0_0, .int .u8 a0_1, .int .u8 a0_2, .int .u8 a0_3, .int .u8 a0_4, .int .u8 a0_5]) (t := 43) ?hr ?_; (case hd => rfl); (case hg => rfl); (case hr => first | (go_simp; done) | (go_simp; rfl)); intro gb101 hg w2 hbox hb; have n0_ := Aside0.mk (below_step (by repeat (first | (with_reducible first | exact HB.out | apply below_alloc | apply pw_below_drewN | apply below_drew1) | exact HB.out)) hb); have n1_ := Aside0.mk (hbox); have n2_ := Aside0.mk ((by rw [hg]; exact (below_size (by repeat (first | (with_reducible first | exact HB.out | apply below_alloc | apply pw_below_drewN | apply below_drew1) | exact HB.out))) : w.heap.size ≤ gb101)); have n3_ := Aside0.mk ((by rw [hg]; exact (below_size (by repeat (first | (with_reducible first | exact HB.out | apply below_alloc | apply pw_below_drewN | apply below_drew1) | exact HB.out))) : w.heap.size ≤ gb101)); clear HB; have HB := n0_; have BK101 := n1_; have GW101 := n2_; have GE101 := n3_; clear n0_ n1_ n2_ n3_; clear hb hbox hg; have hcz3_0 : w2.cell? ⟨gb101, 0, none⟩ = some (.int .u8 a0_0) := (blk_cell BK101.out 0).trans rfl; have hcz3_1 : w2.cell? ⟨gb101, 1, none⟩ = some (.int .u8 a0_1) := (blk_cell BK101.out 1).trans rfl; have hcz3_2 : w2.cell? ⟨gb101, 2, none⟩ = some (.int .u8 a0_2) := (blk_cell BK101.out 2).trans rfl; have hcz3_3 : w2.cell? ⟨gb101, 3, none⟩ = some (.int .u8 a0_3) := (blk_cell BK101.out 3).trans rfl; have hcz3_4 : w2.cell? ⟨gb101, 4, none⟩ = some (.int .u8 a0_4) := (blk_cell BK101.out 4).trans rfl; have hcz3_5 : w2.cell? ⟨gb101, 5, none⟩ = some (.int .u8 a0_5) := (blk_cell BK101.out 5).trans rfl; have hfz3_0 := blk_frozen BK101.out 0; have hfz3_1 := blk_frozen BK101.out 1; have hfz3_2 := blk_frozen BK101.out 2; have hfz3_3 := blk_frozen BK101.out 3; have hfz3_4 := blk_frozen BK101.out 4; have hfz3_5 := blk_frozen BK101.out 5))
  go_ret
  exact ⟨by first | rfl | (simp [errW_none, errW_some] <;> rfl) | (simp [*, errW_none, errW_some] <;> rfl), by repeat (first | (with_reducible first | exact HB.out | apply below_alloc | apply pw_below_drewN | apply below_drew1 | refine below_set ?_ GE101.out) | exact HB.out)⟩
end Go.Proofs.Ytpalloofjljhkaa.P
