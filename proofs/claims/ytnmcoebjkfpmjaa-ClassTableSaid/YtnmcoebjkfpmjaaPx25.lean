-- Laid by a program of this session (wip/print2).
import Derived.Test.YtnmcoebjkfpmjaaPx0
import Derived.Test.YtnmcoebjkfpmjaaPx80
import Derived.Test.YtnmcoebjkfpmjaaPx81
import Derived.Test.YtnmcoebjkfpmjaaPx82
import Derived.Test.YtnmcoebjkfpmjaaPx83
namespace Go.Proofs.Ytnmcoebjkfpmjaa.P
open Go.RowKit Go.Proofs.YtnmcoebjkfpmjaaW.PrintWords Go.Proofs.YtnmcoebjkfpmjaaW.PrintLast Go.Proofs.YtnmcoebjkfpmjaaW.PrintMore
attribute [local go_sem] max2_int min2_int max_two min_two max_three min_three max_four min_four   -- for this text's walks alone
set_option linter.unusedVariables false
set_option linter.unusedSimpArgs false

/-! ### antiphonlaw23_ClassTable: function 24 -/
def antiphonlaw23_ClassTable.l0 : Nat → Int → Int → Int → Option (Bool)
  | 0, _, _, _ => none
  | k + 1, x0, x3, x4 => if x4 ≤ 3 then ((class_Takes.f x0 x4).bind fun t103 => (if 0 ≤ (IntKind.u64.wrap (wrap64 (x4 - 1))) then (if (t103 != ((Go.bits .and .i64 (shr .i64 x3 (IntKind.u64.wrap (wrap64 (x4 - 1)))) 1) == 1)) = true then (some false) else (antiphonlaw23_ClassTable.l0 k x0 x3 (wrap64 (x4 + 1)))) else (none))) else (if x0 ≥ 1 then (if (((Go.bits .and .i64 x3 1) == 1) == (decide (x0 ≤ 4))) = true then ((class_Takes.f x0 0).bind fun t104 => (if t104 = true then (some false) else ((class_Takes.f x0 4).bind fun t105 => (if t105 = true then (some false) else ((antiphonref6_Types.f x0).bind fun t106 => (some (x3 == t106))))))) else (some false)) else (if (((Go.bits .and .i64 x3 1) == 1) == false) = true then ((class_Takes.f x0 0).bind fun t107 => (if t107 = true then (some false) else ((class_Takes.f x0 4).bind fun t108 => (if t108 = true then (some false) else ((antiphonref6_Types.f x0).bind fun t109 => (some (x3 == t109))))))) else (some false)))
def antiphonlaw23_ClassTable.f (k : Nat) (a0 : Int) : Option (Bool) := (antiphonlaw23_awake.f).bind fun t101 => (if t101 = true then ((class_Types.f a0).bind fun t102 => (antiphonlaw23_ClassTable.l0 k a0 t102 1)) else (some false))
theorem antiphonlaw23_ClassTable.mono_l : ∀ k, (∀ y0 y1 y2, LeO (antiphonlaw23_ClassTable.l0 k y0 y1 y2) (antiphonlaw23_ClassTable.l0 (k + 1) y0 y1 y2))
  | 0 => fun _ _ _ r h => by simp [antiphonlaw23_ClassTable.l0] at h
  | k + 1 => by
    have ih0 := antiphonlaw23_ClassTable.mono_l k
    · intro y0 y1 y2
      unfold antiphonlaw23_ClassTable.l0
      repeat' first
      | (with_reducible exact ih0 _ _ _)
      | (with_reducible exact LeO.refl _)
      | (with_reducible exact LeO.none _)
      | (with_reducible refine LeO.ite ?_ ?_)
      | (with_reducible refine LeO.bind ?_ (fun _ => ?_))
      | exact ih0 _ _ _
      | exact LeO.none _
      | refine LeO.ite ?_ ?_
      | refine LeO.bind ?_ (fun _ => ?_)
theorem antiphonlaw23_ClassTable.mono : ∀ a0 k, LeO (antiphonlaw23_ClassTable.f k a0) (antiphonlaw23_ClassTable.f (k + 1) a0) := by
  intro a0 k
  have ih0 := antiphonlaw23_ClassTable.mono_l k
  unfold antiphonlaw23_ClassTable.f
  repeat' first
      | (with_reducible exact ih0 _ _ _)
      | (with_reducible exact LeO.refl _)
      | (with_reducible exact LeO.none _)
      | (with_reducible refine LeO.ite ?_ ?_)
      | (with_reducible refine LeO.bind ?_ (fun _ => ?_))
      | exact ih0 _ _ _
      | exact LeO.none _
      | refine LeO.ite ?_ ?_
      | refine LeO.bind ?_ (fun _ => ?_)
set_option maxHeartbeats 8000000 in
set_option maxRecDepth 100000 in
theorem antiphonlaw23_ClassTable.calls (k : Nat) (a0 : Int) (r : Bool) (w : World) (h : antiphonlaw23_ClassTable.f k a0 = some r) :
    Calls Try.prog 24 #[.int .i64 a0] w fun e w' => e = .returned (.bool r) ∧ Below w.heap.size w w' := by
  have HB := Aside0.mk (Below.refl w.heap.size w)
  have H : ((antiphonlaw23_awake.f).bind fun t101 => (if t101 = true then ((class_Types.f a0).bind fun t102 => (antiphonlaw23_ClassTable.l0 k a0 t102 1)) else (some false))) = some r := h
  clear h
  replace H := Option.bind_eq_some_iff.mp H
  obtain ⟨t101, A20, H⟩ := H
  replace H : (if t101 = true then ((class_Types.f a0).bind fun t102 => (antiphonlaw23_ClassTable.l0 k a0 t102 1)) else (some false)) = some r := H
  have A2 := Aside0.mk A20
  clear A20
  by_cases c3 : t101 = true
  · subst c3
    have H1 : ((class_Types.f a0).bind fun t102 => (antiphonlaw23_ClassTable.l0 k a0 t102 1)) = some r := by rw [if_pos rfl] at H; exact H
    clear H
    have H := H1
    clear H1
    replace H := Option.bind_eq_some_iff.mp H
    obtain ⟨t102, A40, H⟩ := H
    replace H : (antiphonlaw23_ClassTable.l0 k a0 t102 1) = some r := H
    have A4 := Aside0.mk A40
    clear A40
    have H' := Aside0.mk H
    clear H
    go_enter Try.func24, Try.ntmps24
    go_wp2_with (first | ((with_reducible refine gate_callee (f := 79) rfl ?_); refine goesL_ (some 5) rfl rfl Try.func79 (by kernel_rfl) rfl #[] rfl (by (try simp only [List.map_toArray, List.map_cons, List.map_nil]); first | done | rfl | (simp only [List.length_drop, List.length_take]; rfl)) ?_; (with_reducible refine (antiphonlaw23_awake.calls  true _ A2.out).mono ?_); rintro e w5 ⟨rfl, hb⟩; refine ⟨_, rfl, ?_⟩; have n0_ := Aside0.mk (below_step (by repeat (first | (with_reducible first | exact HB.out | apply below_alloc | apply pw_below_drewN | apply below_drew1) | exact HB.out)) hb); clear HB; have HB := n0_; clear n0_; (try clear hb); (try clear hb2); (try clear hk); (try clear hi)) | ((with_reducible refine gate_callee (f := 80) rfl ?_); refine goesL_ (some 8) rfl rfl Try.func80 (by kernel_rfl) rfl #[.int .i64 a0] rfl (by (try simp only [List.map_toArray, List.map_cons, List.map_nil]); first | done | rfl | (simp only [List.length_drop, List.length_take]; rfl)) ?_; (with_reducible refine (class_Types.calls a0 t102 _ A4.out).mono ?_); rintro e w6 ⟨rfl, hb⟩; refine ⟨_, rfl, ?_⟩; have n0_ := Aside0.mk (below_step (by repeat (first | (with_reducible first | exact HB.out | apply below_alloc | apply pw_below_drewN | apply below_drew1) | exact HB.out)) hb); clear HB; have HB := n0_; clear n0_; (try clear hb); (try clear hb2); (try clear hk); (try clear hi)))
    go_loopg [4] k (fun kq v4 w' => ∃ (x4_1 : Int), v4 = .int .i64 x4_1 ∧ Aside0 (antiphonlaw23_ClassTable.l0 kq a0 t102 x4_1 = some r) ∧ Aside0 (kq ≤ k) ∧ Aside0 (Below w.heap.size w w'))
    case atStart => exact ⟨(1), (by first | rfl | (simp; done) | (simp [*]; done)), H', ⟨Nat.le_refl _⟩, ⟨by repeat (first | (with_reducible first | exact HB.out | apply below_alloc | apply pw_below_drewN | apply below_drew1) | exact HB.out)⟩⟩
    case round =>
      clear H'
      try clear c2
      try clear p2
      try clear c3
      obtain ⟨x4_1, rfl, HA, HK1, HB⟩ := hrel
      cases gk with
      | zero => exact absurd HA.out (by simp [antiphonlaw23_ClassTable.l0])
      | succ k1 =>
        have H := HA.out
        clear HA
        simp only [antiphonlaw23_ClassTable.l0] at H
        by_cases c7 : x4_1 ≤ 3
        · rw [if_pos c7] at H
          have c7b0 : decide (x4_1 ≤ 3) = true := decide_eq_true c7
          clear c7
          replace H := Option.bind_eq_some_iff.mp H
          obtain ⟨t103, A80, H⟩ := H
          replace H : (if 0 ≤ (IntKind.u64.wrap (wrap64 (x4_1 - 1))) then (if (t103 != ((Go.bits .and .i64 (shr .i64 t102 (IntKind.u64.wrap (wrap64 (x4_1 - 1)))) 1) == 1)) = true then (some false) else (antiphonlaw23_ClassTable.l0 k1 a0 t102 (wrap64 (x4_1 + 1)))) else (none)) = some r := H
          have A8 := Aside0.mk A80
          clear A80
          obtain ⟨ji9, hji9⟩ : ∃ j_ : Int, (IntKind.u64.wrap (wrap64 (x4_1 - 1))) = j_ := ⟨_, rfl⟩
          replace H : (if 0 ≤ (ji9) then (if (t103 != ((Go.bits .and .i64 (shr .i64 t102 (ji9)) 1) == 1)) = true then (some false) else (antiphonlaw23_ClassTable.l0 k1 a0 t102 (wrap64 (x4_1 + 1)))) else (none)) = some r := by first | (rw [hji9] at H; exact H) | (simp only [hji9] at H ⊢; exact H)
          (try rw [hji9] at A8)
          by_cases c10 : 0 ≤ (ji9)
          · rw [if_pos c10] at H
            have c10b0 := eq_true c10
            have c10b1 : decide (0 ≤ (ji9)) = true := decide_eq_true c10
            clear c10
            obtain ⟨ji11, hji11⟩ : ∃ j_ : Int, (shr .i64 t102 (ji9)) = j_ := ⟨_, rfl⟩
            replace H : (if (t103 != ((Go.bits .and .i64 (ji11) 1) == 1)) = true then (some false) else (antiphonlaw23_ClassTable.l0 k1 a0 t102 (wrap64 (x4_1 + 1)))) = some r := by first | (rw [hji11] at H; exact H) | (simp only [hji11] at H ⊢; exact H)
            (try rw [hji11] at A8)
            have hji11_ : (t102 / 2 ^ min (ji9).toNat 64) = ji11 := hji11
            have hji11z : (ji9) ≤ 64 → (t102 / 2 ^ (ji9).toNat) = ji11 := shr_small hji11
            by_cases c12 : (t103 != ((Go.bits .and .i64 (ji11) 1) == 1)) = true
            · rw [if_pos c12] at H
              have c12b0 : (t103 != ((Go.bits .and .i64 (ji11) 1) == 1)) = true := c12
              (try (have c12b1 : decide (t103 = ((Go.bits .and .i64 (ji11) 1) == 1)) = false := by simpa using c12))
              (try (have c12b2 : (t103 == ((Go.bits .and .i64 (ji11) 1) == 1)) = false := by simpa using c12))
              (try (have c12b3 : ¬ (t103 = ((Go.bits .and .i64 (ji11) 1) == 1)) := by simpa using c12))
              clear c12
              obtain rfl := Option.some.inj H
              go_wp2_with (first | ((with_reducible refine gate_callee (f := 81) rfl ?_); refine goesL_ (some 15) rfl rfl Try.func81 (by kernel_rfl) rfl #[.int .i64 a0, .int .i64 x4_1] rfl (by (try simp only [List.map_toArray, List.map_cons, List.map_nil]); first | done | rfl | (simp only [List.length_drop, List.length_take]; rfl)) ?_; (with_reducible refine (class_Takes.calls a0 x4_1 t103 _ A8.out).mono ?_); rintro e w13 ⟨rfl, hb⟩; refine ⟨_, rfl, ?_⟩; have n0_ := Aside0.mk (below_step (by repeat (first | (with_reducible first | exact HB.out | apply below_alloc | apply pw_below_drewN | apply below_drew1) | exact HB.out)) hb); clear HB; have HB := n0_; clear n0_; (try clear hb); (try clear hb2); (try clear hk); (try clear hi)))
              go_ret
              exact ⟨by first | rfl | (simp [errW_none, errW_some] <;> rfl) | (simp only [← hji9, ← hji11]; first | rfl | (simp [errW_none, errW_some] <;> rfl)) | (simp [*, errW_none, errW_some] <;> rfl), by repeat (first | (with_reducible first | exact HB.out | apply below_alloc | apply pw_below_drewN | apply below_drew1) | exact HB.out)⟩
            · rw [if_neg c12] at H
              have c12b0 : (t103 != ((Go.bits .and .i64 (ji11) 1) == 1)) = false := by simpa using c12
              (try (have c12b1 : decide (t103 = ((Go.bits .and .i64 (ji11) 1) == 1)) = true := by simpa using c12))
              (try (have c12b2 : (t103 == ((Go.bits .and .i64 (ji11) 1) == 1)) = true := by simpa using c12))
              clear c12
              have H' := Aside0.mk H
              clear H
              go_wp2_with (first | ((with_reducible refine gate_callee (f := 81) rfl ?_); refine goesL_ (some 15) rfl rfl Try.func81 (by kernel_rfl) rfl #[.int .i64 a0, .int .i64 x4_1] rfl (by (try simp only [List.map_toArray, List.map_cons, List.map_nil]); first | done | rfl | (simp only [List.length_drop, List.length_take]; rfl)) ?_; (with_reducible refine (class_Takes.calls a0 x4_1 t103 _ A8.out).mono ?_); rintro e w14 ⟨rfl, hb⟩; refine ⟨_, rfl, ?_⟩; have n0_ := Aside0.mk (below_step (by repeat (first | (with_reducible first | exact HB.out | apply below_alloc | apply pw_below_drewN | apply below_drew1) | exact HB.out)) hb); clear HB; have HB := n0_; clear n0_; (try clear hb); (try clear hb2); (try clear hk); (try clear hi)))
              go_roundg k1
              case measure => have := HK1.out; omega
              case rel => exact ⟨(wrap64 (x4_1 + 1)), (by first | rfl | (simp; done) | (simp [*]; done)), H', ⟨by have := HK1.out; omega⟩, ⟨by repeat (first | (with_reducible first | exact HB.out | apply below_alloc | apply pw_below_drewN | apply below_drew1) | exact HB.out)⟩⟩
          · rw [if_neg c10] at H
            exact absurd H (by simp)
        · rw [if_neg c7] at H
          have c7b0 : decide (x4_1 ≤ 3) = false := decide_eq_false c7
          clear c7
          by_cases c15 : a0 ≥ 1
          · rw [if_pos c15] at H
            have c15b0 : decide (1 ≤ a0) = true := decide_eq_true c15
            clear c15
            by_cases c16 : (((Go.bits .and .i64 t102 1) == 1) == (decide (a0 ≤ 4))) = true
            · rw [if_pos c16] at H
              have c16b0 : (((Go.bits .and .i64 t102 1) == 1) == (decide (a0 ≤ 4))) = true := c16
              (try (have c16b1 : decide (((Go.bits .and .i64 t102 1) == 1) = (decide (a0 ≤ 4))) = true := by simpa using c16))
              (try (have c16b2 : (((Go.bits .and .i64 t102 1) == 1) == (decide (a0 ≤ 4))) = true := by simpa using c16))
              clear c16
              replace H := Option.bind_eq_some_iff.mp H
              obtain ⟨t104, A170, H⟩ := H
              replace H : (if t104 = true then (some false) else ((class_Takes.f a0 4).bind fun t105 => (if t105 = true then (some false) else ((antiphonref6_Types.f a0).bind fun t106 => (some (t102 == t106)))))) = some r := H
              have A17 := Aside0.mk A170
              clear A170
              by_cases c18 : t104 = true
              · subst c18
                have H1 : (some false) = some r := by rw [if_pos rfl] at H; exact H
                clear H
                have H := H1
                clear H1
                obtain rfl := Option.some.inj H
                go_wp2_with (first | (go_at_call 81; (with_reducible refine (class_Takes.calls a0 0 true _ A17.out).mono ?_); rintro e w19 ⟨rfl, hb⟩; have n0_ := Aside0.mk (below_step (by repeat (first | (with_reducible first | exact HB.out | apply below_alloc | apply pw_below_drewN | apply below_drew1) | exact HB.out)) hb); clear HB; have HB := n0_; clear n0_; (try clear hb); (try clear hb2); (try clear hk); (try clear hi)))
                go_ret
                exact ⟨by first | rfl | (simp [errW_none, errW_some] <;> rfl) | (simp [*, errW_none, errW_some] <;> rfl), by repeat (first | (with_reducible first | exact HB.out | apply below_alloc | apply pw_below_drewN | apply below_drew1) | exact HB.out)⟩
              · replace c18 := Bool.eq_false_iff.mpr c18
                subst c18
                have H1 : ((class_Takes.f a0 4).bind fun t105 => (if t105 = true then (some false) else ((antiphonref6_Types.f a0).bind fun t106 => (some (t102 == t106))))) = some r := by rw [if_neg (show ¬ (false = true) by decide)] at H; exact H
                clear H
                have H := H1
                clear H1
                replace H := Option.bind_eq_some_iff.mp H
                obtain ⟨t105, A200, H⟩ := H
                replace H : (if t105 = true then (some false) else ((antiphonref6_Types.f a0).bind fun t106 => (some (t102 == t106)))) = some r := H
                have A20 := Aside0.mk A200
                clear A200
                by_cases c21 : t105 = true
                · subst c21
                  have H1 : (some false) = some r := by rw [if_pos rfl] at H; exact H
                  clear H
                  have H := H1
                  clear H1
                  obtain rfl := Option.some.inj H
                  go_wp2_with (first | (go_at_call 81; (with_reducible refine (class_Takes.calls a0 0 false _ A17.out).mono ?_); rintro e w22 ⟨rfl, hb⟩; have n0_ := Aside0.mk (below_step (by repeat (first | (with_reducible first | exact HB.out | apply below_alloc | apply pw_below_drewN | apply below_drew1) | exact HB.out)) hb); clear HB; have HB := n0_; clear n0_; (try clear hb); (try clear hb2); (try clear hk); (try clear hi)) | (go_at_call 81; (with_reducible refine (class_Takes.calls a0 4 true _ A20.out).mono ?_); rintro e w23 ⟨rfl, hb⟩; have n0_ := Aside0.mk (below_step (by repeat (first | (with_reducible first | exact HB.out | apply below_alloc | apply pw_below_drewN | apply below_drew1) | exact HB.out)) hb); clear HB; have HB := n0_; clear n0_; (try clear hb); (try clear hb2); (try clear hk); (try clear hi)))
                  go_ret
                  exact ⟨by first | rfl | (simp [errW_none, errW_some] <;> rfl) | (simp [*, errW_none, errW_some] <;> rfl), by repeat (first | (with_reducible first | exact HB.out | apply below_alloc | apply pw_below_drewN | apply below_drew1) | exact HB.out)⟩
                · replace c21 := Bool.eq_false_iff.mpr c21
                  subst c21
                  have H1 : ((antiphonref6_Types.f a0).bind fun t106 => (some (t102 == t106))) = some r := by rw [if_neg (show ¬ (false = true) by decide)] at H; exact H
                  clear H
                  have H := H1
                  clear H1
                  replace H := Option.bind_eq_some_iff.mp H
                  obtain ⟨t106, A240, H⟩ := H
                  replace H : (some (t102 == t106)) = some r := H
                  have A24 := Aside0.mk A240
                  clear A240
                  obtain rfl := Option.some.inj H
                  go_wp2_with (first | (go_at_call 81; (with_reducible refine (class_Takes.calls a0 0 false _ A17.out).mono ?_); rintro e w25 ⟨rfl, hb⟩; have n0_ := Aside0.mk (below_step (by repeat (first | (with_reducible first | exact HB.out | apply below_alloc | apply pw_below_drewN | apply below_drew1) | exact HB.out)) hb); clear HB; have HB := n0_; clear n0_; (try clear hb); (try clear hb2); (try clear hk); (try clear hi)) | (go_at_call 81; (with_reducible refine (class_Takes.calls a0 4 false _ A20.out).mono ?_); rintro e w26 ⟨rfl, hb⟩; have n0_ := Aside0.mk (below_step (by repeat (first | (with_reducible first | exact HB.out | apply below_alloc | apply pw_below_drewN | apply below_drew1) | exact HB.out)) hb); clear HB; have HB := n0_; clear n0_; (try clear hb); (try clear hb2); (try clear hk); (try clear hi)) | (go_at_call 82; (with_reducible refine (antiphonref6_Types.calls a0 t106 _ A24.out).mono ?_); rintro e w27 ⟨rfl, hb⟩; have n0_ := Aside0.mk (below_step (by repeat (first | (with_reducible first | exact HB.out | apply below_alloc | apply pw_below_drewN | apply below_drew1) | exact HB.out)) hb); clear HB; have HB := n0_; clear n0_; (try clear hb); (try clear hb2); (try clear hk); (try clear hi)))
                  go_ret
                  exact ⟨by first | rfl | (simp [errW_none, errW_some] <;> rfl) | (simp [*, errW_none, errW_some] <;> rfl), by repeat (first | (with_reducible first | exact HB.out | apply below_alloc | apply pw_below_drewN | apply below_drew1) | exact HB.out)⟩
            · rw [if_neg c16] at H
              have c16b0 : (((Go.bits .and .i64 t102 1) == 1) == (decide (a0 ≤ 4))) = false := by simpa using c16
              (try (have c16b1 : decide (((Go.bits .and .i64 t102 1) == 1) = (decide (a0 ≤ 4))) = false := by simpa using c16))
              (try (have c16b2 : (((Go.bits .and .i64 t102 1) == 1) == (decide (a0 ≤ 4))) = false := by simpa using c16))
              (try (have c16b3 : ¬ (((Go.bits .and .i64 t102 1) == 1) = (decide (a0 ≤ 4))) := by simpa using c16))
              clear c16
              obtain rfl := Option.some.inj H
              go_wp2
              go_ret
              exact ⟨by first | rfl | (simp [errW_none, errW_some] <;> rfl) | (simp [*, errW_none, errW_some] <;> rfl), by repeat (first | (with_reducible first | exact HB.out | apply below_alloc | apply pw_below_drewN | apply below_drew1) | exact HB.out)⟩
          · rw [if_neg c15] at H
            have c15b0 : decide (1 ≤ a0) = false := decide_eq_false c15
            clear c15
            by_cases c28 : (((Go.bits .and .i64 t102 1) == 1) == false) = true
            · rw [if_pos c28] at H
              have c28b0 : (((Go.bits .and .i64 t102 1) == 1) == false) = true := c28
              (try (have c28b1 : decide (((Go.bits .and .i64 t102 1) == 1) = false) = true := by simpa using c28))
              (try (have c28b2 : (((Go.bits .and .i64 t102 1) == 1) == false) = true := by simpa using c28))
              clear c28
              replace H := Option.bind_eq_some_iff.mp H
              obtain ⟨t107, A290, H⟩ := H
              replace H : (if t107 = true then (some false) else ((class_Takes.f a0 4).bind fun t108 => (if t108 = true then (some false) else ((antiphonref6_Types.f a0).bind fun t109 => (some (t102 == t109)))))) = some r := H
              have A29 := Aside0.mk A290
              clear A290
              by_cases c30 : t107 = true
              · subst c30
                have H1 : (some false) = some r := by rw [if_pos rfl] at H; exact H
                clear H
                have H := H1
                clear H1
                obtain rfl := Option.some.inj H
                go_wp2_with (first | (go_at_call 81; (with_reducible refine (class_Takes.calls a0 0 true _ A29.out).mono ?_); rintro e w31 ⟨rfl, hb⟩; have n0_ := Aside0.mk (below_step (by repeat (first | (with_reducible first | exact HB.out | apply below_alloc | apply pw_below_drewN | apply below_drew1) | exact HB.out)) hb); clear HB; have HB := n0_; clear n0_; (try clear hb); (try clear hb2); (try clear hk); (try clear hi)))
                go_ret
                exact ⟨by first | rfl | (simp [errW_none, errW_some] <;> rfl) | (simp [*, errW_none, errW_some] <;> rfl), by repeat (first | (with_reducible first | exact HB.out | apply below_alloc | apply pw_below_drewN | apply below_drew1) | exact HB.out)⟩
              · replace c30 := Bool.eq_false_iff.mpr c30
                subst c30
                have H1 : ((class_Takes.f a0 4).bind fun t108 => (if t108 = true then (some false) else ((antiphonref6_Types.f a0).bind fun t109 => (some (t102 == t109))))) = some r := by rw [if_neg (show ¬ (false = true) by decide)] at H; exact H
                clear H
                have H := H1
                clear H1
                replace H := Option.bind_eq_some_iff.mp H
                obtain ⟨t108, A320, H⟩ := H
                replace H : (if t108 = true then (some false) else ((antiphonref6_Types.f a0).bind fun t109 => (some (t102 == t109)))) = some r := H
                have A32 := Aside0.mk A320
                clear A320
                by_cases c33 : t108 = true
                · subst c33
                  have H1 : (some false) = some r := by rw [if_pos rfl] at H; exact H
                  clear H
                  have H := H1
                  clear H1
                  obtain rfl := Option.some.inj H
                  go_wp2_with (first | (go_at_call 81; (with_reducible refine (class_Takes.calls a0 0 false _ A29.out).mono ?_); rintro e w34 ⟨rfl, hb⟩; have n0_ := Aside0.mk (below_step (by repeat (first | (with_reducible first | exact HB.out | apply below_alloc | apply pw_below_drewN | apply below_drew1) | exact HB.out)) hb); clear HB; have HB := n0_; clear n0_; (try clear hb); (try clear hb2); (try clear hk); (try clear hi)) | (go_at_call 81; (with_reducible refine (class_Takes.calls a0 4 true _ A32.out).mono ?_); rintro e w35 ⟨rfl, hb⟩; have n0_ := Aside0.mk (below_step (by repeat (first | (with_reducible first | exact HB.out | apply below_alloc | apply pw_below_drewN | apply below_drew1) | exact HB.out)) hb); clear HB; have HB := n0_; clear n0_; (try clear hb); (try clear hb2); (try clear hk); (try clear hi)))
                  go_ret
                  exact ⟨by first | rfl | (simp [errW_none, errW_some] <;> rfl) | (simp [*, errW_none, errW_some] <;> rfl), by repeat (first | (with_reducible first | exact HB.out | apply below_alloc | apply pw_below_drewN | apply below_drew1) | exact HB.out)⟩
                · replace c33 := Bool.eq_false_iff.mpr c33
                  subst c33
                  have H1 : ((antiphonref6_Types.f a0).bind fun t109 => (some (t102 == t109))) = some r := by rw [if_neg (show ¬ (false = true) by decide)] at H; exact H
                  clear H
                  have H := H1
                  clear H1
                  replace H := Option.bind_eq_some_iff.mp H
                  obtain ⟨t109, A360, H⟩ := H
                  replace H : (some (t102 == t109)) = some r := H
                  have A36 := Aside0.mk A360
                  clear A360
                  obtain rfl := Option.some.inj H
                  go_wp2_with (first | (go_at_call 81; (with_reducible refine (class_Takes.calls a0 0 false _ A29.out).mono ?_); rintro e w37 ⟨rfl, hb⟩; have n0_ := Aside0.mk (below_step (by repeat (first | (with_reducible first | exact HB.out | apply below_alloc | apply pw_below_drewN | apply below_drew1) | exact HB.out)) hb); clear HB; have HB := n0_; clear n0_; (try clear hb); (try clear hb2); (try clear hk); (try clear hi)) | (go_at_call 81; (with_reducible refine (class_Takes.calls a0 4 false _ A32.out).mono ?_); rintro e w38 ⟨rfl, hb⟩; have n0_ := Aside0.mk (below_step (by repeat (first | (with_reducible first | exact HB.out | apply below_alloc | apply pw_below_drewN | apply below_drew1) | exact HB.out)) hb); clear HB; have HB := n0_; clear n0_; (try clear hb); (try clear hb2); (try clear hk); (try clear hi)) | (go_at_call 82; (with_reducible refine (antiphonref6_Types.calls a0 t109 _ A36.out).mono ?_); rintro e w39 ⟨rfl, hb⟩; have n0_ := Aside0.mk (below_step (by repeat (first | (with_reducible first | exact HB.out | apply below_alloc | apply pw_below_drewN | apply below_drew1) | exact HB.out)) hb); clear HB; have HB := n0_; clear n0_; (try clear hb); (try clear hb2); (try clear hk); (try clear hi)))
                  go_ret
                  exact ⟨by first | rfl | (simp [errW_none, errW_some] <;> rfl) | (simp [*, errW_none, errW_some] <;> rfl), by repeat (first | (with_reducible first | exact HB.out | apply below_alloc | apply pw_below_drewN | apply below_drew1) | exact HB.out)⟩
            · rw [if_neg c28] at H
              have c28b0 : (((Go.bits .and .i64 t102 1) == 1) == false) = false := by simpa using c28
              (try (have c28b1 : decide (((Go.bits .and .i64 t102 1) == 1) = false) = false := by simpa using c28))
              (try (have c28b2 : (((Go.bits .and .i64 t102 1) == 1) == false) = false := by simpa using c28))
              (try (have c28b3 : ¬ (((Go.bits .and .i64 t102 1) == 1) = false) := by simpa using c28))
              clear c28
              obtain rfl := Option.some.inj H
              go_wp2
              go_ret
              exact ⟨by first | rfl | (simp [errW_none, errW_some] <;> rfl) | (simp [*, errW_none, errW_some] <;> rfl), by repeat (first | (with_reducible first | exact HB.out | apply below_alloc | apply pw_below_drewN | apply below_drew1) | exact HB.out)⟩
  · replace c3 := Bool.eq_false_iff.mpr c3
    subst c3
    have H1 : (some false) = some r := by rw [if_neg (show ¬ (false = true) by decide)] at H; exact H
    clear H
    have H := H1
    clear H1
    obtain rfl := Option.some.inj H
    go_enter Try.func24, Try.ntmps24
    go_wp2_with (first | ((with_reducible refine gate_callee (f := 79) rfl ?_); refine goesL_ (some 5) rfl rfl Try.func79 (by kernel_rfl) rfl #[] rfl (by (try simp only [List.map_toArray, List.map_cons, List.map_nil]); first | done | rfl | (simp only [List.length_drop, List.length_take]; rfl)) ?_; (with_reducible refine (antiphonlaw23_awake.calls  false _ A2.out).mono ?_); rintro e w40 ⟨rfl, hb⟩; refine ⟨_, rfl, ?_⟩; have n0_ := Aside0.mk (below_step (by repeat (first | (with_reducible first | exact HB.out | apply below_alloc | apply pw_below_drewN | apply below_drew1) | exact HB.out)) hb); clear HB; have HB := n0_; clear n0_; (try clear hb); (try clear hb2); (try clear hk); (try clear hi)))
    go_ret
    exact ⟨by first | rfl | (simp [errW_none, errW_some] <;> rfl) | (simp [*, errW_none, errW_some] <;> rfl), by repeat (first | (with_reducible first | exact HB.out | apply below_alloc | apply pw_below_drewN | apply below_drew1) | exact HB.out)⟩

/-- THE ONE PURE STATEMENT of antiphonlaw23_ClassTable: yours. -/
def antiphonlaw23_ClassTable.Pure : Prop := ∀ (a0 : Int), (Lit.int .i64 a0).wf = true → ∃ k, antiphonlaw23_ClassTable.f k a0 = some true
theorem antiphonlaw23_ClassTable.walk (P : antiphonlaw23_ClassTable.Pure) (a0 : Int) (w : World) (w0 : (Lit.int .i64 a0).wf = true) :
    Calls Try.prog 24 #[.int .i64 a0] w fun e w' => e = .returned (.bool true) ∧ Below w.heap.size w w' := by
  obtain ⟨k, h⟩ := P a0 w0
  refine (antiphonlaw23_ClassTable.calls k a0 true w h).mono ?_
  rintro e w' ⟨rfl, hd⟩
  exact ⟨rfl, hd⟩

end Go.Proofs.Ytnmcoebjkfpmjaa.P
