-- Laid by a program of this session (wip/print2).
import Derived.Test.YtngahjgbeekldaaPx0
import Derived.Test.YtngahjgbeekldaaPx11
import Derived.Test.YtngahjgbeekldaaPx12
import Derived.Test.YtngahjgbeekldaaPx13
import Derived.Test.YtngahjgbeekldaaPx15
namespace Go.Proofs.Ytngahjgbeekldaa.P
open Go.RowKit Go.Proofs.YtngahjgbeekldaaW.PrintWords Go.Proofs.YtngahjgbeekldaaW.PrintLast Go.Proofs.YtngahjgbeekldaaW.PrintMore
attribute [local go_sem] max2_int min2_int max_two min_two max_three min_three max_four min_four   -- for this text's walks alone
set_option linter.unusedVariables false
set_option linter.unusedSimpArgs false

/-! ### antiphonlaw1_OctetWide: function 5 -/
def antiphonlaw1_OctetWide.j0 : Nat → List Int → Int → Bool → Option (Bool)
  | 0, _, _, _ => none
  | k + 1, x0, x1, x17 => if x17 = true then (some true) else ((octet_Get.f k x0).bind fun t102 => (if 0 ≤ (wrap64 ((mn (wrap64 ((x0.length : Int) + (Int.tmod (wrap64 (x1)) 4))) 7) - (x0.length : Int))) then (if (wrap64 ((mn (wrap64 ((x0.length : Int) + (Int.tmod (wrap64 (x1)) 4))) 7) - (x0.length : Int)) : Int).toNat ≤ 281474976710656 then ((some (List.replicate (wrap64 ((mn (wrap64 ((x0.length : Int) + (Int.tmod (wrap64 (x1)) 4))) 7) - (x0.length : Int)) : Int).toNat 0 : List Int)).bind fun y103 => (if y103.length + x0.length < 140737488355328 then ((some (y103 ++ x0 : List Int)).bind fun y106 => ((octet_Get.f k y106).bind fun t109 => (if t109 = t102 then ((octet_Put.f k t102 (mn (wrap64 ((x0.length : Int) + (Int.tmod (wrap64 (x1)) 4))) 7)).bind fun t110 => ((antiphonref1_Same.f k t110 y106).bind fun t113 => (if t113 = true then ((octet_Put.f k t102 (x0.length : Int)).bind fun t114 => ((antiphonref1_Same.f k t114 x0).bind fun t117 => (if t117 = true then (if t102 ≥ 0 then ((octet_Put.f k t102 8).bind fun t118 => (some ((t118.length : Int) == 0))) else (none)) else (none)))) else (none)))) else (none)))) else (none))) else (none)) else (none)))
def antiphonlaw1_OctetWide.f (k : Nat) (l0 : List Int) (a1 : Int) : Option (Bool) := (antiphonlaw1_awake.f).bind fun t101 => (if t101 = true then (if (l0.length : Int) = 0 then (antiphonlaw1_OctetWide.j0 k l0 a1 true) else (antiphonlaw1_OctetWide.j0 k l0 a1 (decide ((l0.length : Int) > 7)))) else (none))
theorem antiphonlaw1_OctetWide.mono_l : ∀ k, (∀ y0 y1 y2, LeO (antiphonlaw1_OctetWide.j0 k y0 y1 y2) (antiphonlaw1_OctetWide.j0 (k + 1) y0 y1 y2))
  | 0 => fun _ _ _ r h => by simp [antiphonlaw1_OctetWide.j0] at h
  | k + 1 => by
    have ih0 := antiphonlaw1_OctetWide.mono_l k
    · intro y0 y1 y2
      unfold antiphonlaw1_OctetWide.j0
      repeat' first
      | (with_reducible exact ih0 _ _ _)
      | (with_reducible exact antiphonref1_Same.mono _ _ _)
      | (with_reducible exact octet_Get.mono _ _)
      | (with_reducible exact octet_Put.mono _ _ _)
      | (with_reducible exact LeO.refl _)
      | (with_reducible exact LeO.none _)
      | (with_reducible refine LeO.ite ?_ ?_)
      | (with_reducible refine LeO.bind ?_ (fun _ => ?_))
      | exact ih0 _ _ _
      | exact antiphonref1_Same.mono _ _ _
      | exact octet_Get.mono _ _
      | exact octet_Put.mono _ _ _
      | exact LeO.none _
      | refine LeO.ite ?_ ?_
      | refine LeO.bind ?_ (fun _ => ?_)
theorem antiphonlaw1_OctetWide.mono : ∀ a0 a1 k, LeO (antiphonlaw1_OctetWide.f k a0 a1) (antiphonlaw1_OctetWide.f (k + 1) a0 a1) := by
  intro a0 a1 k
  have ih0 := antiphonlaw1_OctetWide.mono_l k
  unfold antiphonlaw1_OctetWide.f
  repeat' first
      | (with_reducible exact ih0 _ _ _)
      | (with_reducible exact antiphonref1_Same.mono _ _ _)
      | (with_reducible exact octet_Get.mono _ _)
      | (with_reducible exact octet_Put.mono _ _ _)
      | (with_reducible exact LeO.refl _)
      | (with_reducible exact LeO.none _)
      | (with_reducible refine LeO.ite ?_ ?_)
      | (with_reducible refine LeO.bind ?_ (fun _ => ?_))
      | exact ih0 _ _ _
      | exact antiphonref1_Same.mono _ _ _
      | exact octet_Get.mono _ _
      | exact octet_Put.mono _ _ _
      | exact LeO.none _
      | refine LeO.ite ?_ ?_
      | refine LeO.bind ?_ (fun _ => ?_)
set_option maxHeartbeats 8000000 in
set_option maxRecDepth 100000 in
theorem antiphonlaw1_OctetWide.calls (k : Nat) (A0 : Option Addr) (c0 : Nat) (l0 : List Int) (a1 : Int) (r : Bool) (w : World) (hr0 : Kd.C (Kd.int .u8) w A0 l0.length l0) (hc0 : l0.length ≤ c0) (h : antiphonlaw1_OctetWide.f k l0 a1 = some r) :
    Calls Try.prog 5 #[.slice A0 l0.length c0, .int .u8 a1] w fun e w' => e = .returned (.bool r) ∧ Below w.heap.size w w' := by
  have HR0 := Aside0.mk hr0
  have HC0 := Aside0.mk hc0
  clear hr0 hc0
  have HB := Aside0.mk (Below.refl w.heap.size w)
  have H : ((antiphonlaw1_awake.f).bind fun t101 => (if t101 = true then (if (l0.length : Int) = 0 then (antiphonlaw1_OctetWide.j0 k l0 a1 true) else (antiphonlaw1_OctetWide.j0 k l0 a1 (decide ((l0.length : Int) > 7)))) else (none))) = some r := h
  clear h
  replace H := Option.bind_eq_some_iff.mp H
  obtain ⟨t101, A30, H⟩ := H
  replace H : (if t101 = true then (if (l0.length : Int) = 0 then (antiphonlaw1_OctetWide.j0 k l0 a1 true) else (antiphonlaw1_OctetWide.j0 k l0 a1 (decide ((l0.length : Int) > 7)))) else (none)) = some r := H
  have A3 := Aside0.mk A30
  clear A30
  by_cases c4 : t101 = true
  · subst c4
    have H1 : (if (l0.length : Int) = 0 then (antiphonlaw1_OctetWide.j0 k l0 a1 true) else (antiphonlaw1_OctetWide.j0 k l0 a1 (decide ((l0.length : Int) > 7)))) = some r := by rw [if_pos rfl] at H; exact H
    clear H
    have H := H1
    clear H1
    have HC5 := Aside0.mk H
    clear H
    go_enter Try.func5, Try.ntmps5
    go_upto_region 3 with (first | ((with_reducible refine gate_callee (f := 10) rfl ?_); refine goesL_ (some 8) rfl rfl Try.func10 (by kernel_rfl) rfl #[] rfl (by (try simp only [List.map_toArray, List.map_cons, List.map_nil]); first | done | rfl | (simp only [List.length_drop, List.length_take]; rfl)) ?_; (with_reducible refine (antiphonlaw1_awake.calls  true _ A3.out).mono ?_); rintro e w6 ⟨rfl, hb⟩; refine ⟨_, rfl, ?_⟩; have n0_ := Aside0.mk (below_step (by repeat (first | (with_reducible first | exact HB.out | apply below_alloc | apply pw_below_drewN | apply below_drew1) | exact HB.out)) hb); clear HB; have HB := n0_; clear n0_; (try clear hb); (try clear hb2); (try clear hk); (try clear hi)))
    (try simp only [Act.put, List.setIfInBounds_toArray, List.set_cons_zero, List.set_cons_succ])
    go_cut [17] (fun v17 wc => ∃ (kq : Nat) (x17_4 : Bool), v17 = .bool x17_4 ∧ Aside0 (antiphonlaw1_OctetWide.j0 kq l0 a1 x17_4 = some r) ∧ Aside0 (kq ≤ k) ∧ Aside0 (Below w.heap.size w wc))
    case first =>
      have H := HC5.out
      clear HC5
      by_cases c7 : (l0.length : Int) = 0
      · rw [if_pos c7] at H
        have c7b0 : ((l0.length : Int) == 0) = true := beq_iff_eq.mpr c7
        have c7b1 : ((l0.length : Int) != 0) = false := bne_eq_false_iff_eq.mpr c7
        clear c7
        (first | rw [c7b0] | (simp only [i64_w, i32_w]; rw [c7b0]) | skip)
        have H' := Aside0.mk H
        clear H
        go_wp2
        go_meet
        case rel => exact ⟨_, (true), (by first | rfl | (simp; done) | (simp [*]; done)), H', ⟨by first | omega | exact Nat.le_refl _⟩, ⟨by repeat (first | (with_reducible first | exact HB.out | apply below_alloc | apply pw_below_drewN | apply below_drew1) | exact HB.out)⟩⟩
      · rw [if_neg c7] at H
        have c7b0 : ((l0.length : Int) == 0) = false := beq_eq_false_iff_ne.mpr c7
        have c7b1 : ((l0.length : Int) != 0) = true := bne_iff_ne.mpr c7
        have c7b2 : ¬ (l0 = []) := fun h_ => c7 (by rw [h_]; rfl)
        (first | rw [c7b0] | (simp only [i64_w, i32_w]; rw [c7b0]) | skip)
        have H' := Aside0.mk H
        clear H
        go_wp2
        go_meet
        case rel => exact ⟨_, (decide ((l0.length : Int) > 7)), (by first | rfl | (simp; done) | (simp [*]; done)), H', ⟨by first | omega | exact Nat.le_refl _⟩, ⟨by repeat (first | (with_reducible first | exact HB.out | apply below_alloc | apply pw_below_drewN | apply below_drew1) | exact HB.out)⟩⟩
    case rest =>
      clear HC5
      try clear c1
      try clear p2
      try clear c4
      try clear c5
      try clear c7
      try clear c7b0
      try clear c7b1
      try clear c7b2
      obtain ⟨kq, x17_4, rfl, HA, HJ4, HB⟩ := hcut
      cases kq with
      | zero => exact absurd HA.out (by simp [antiphonlaw1_OctetWide.j0])
      | succ kj4 =>
        have H := HA.out
        clear HA
        simp only [antiphonlaw1_OctetWide.j0] at H
        by_cases c8 : x17_4 = true
        · subst c8
          have H1 : (some true) = some r := by rw [if_pos rfl] at H; exact H
          clear H
          have H := H1
          clear H1
          obtain rfl := Option.some.inj H
          go_wp2
          go_ret
          exact ⟨by first | rfl | (simp [errW_none, errW_some] <;> rfl) | (simp [*, errW_none, errW_some] <;> rfl), by repeat (first | (with_reducible first | exact HB.out | apply below_alloc | apply pw_below_drewN | apply below_drew1) | exact HB.out)⟩
        · replace c8 := Bool.eq_false_iff.mpr c8
          subst c8
          have H1 : ((octet_Get.f kj4 l0).bind fun t102 => (if 0 ≤ (wrap64 ((mn (wrap64 ((l0.length : Int) + (Int.tmod (wrap64 (a1)) 4))) 7) - (l0.length : Int))) then (if (wrap64 ((mn (wrap64 ((l0.length : Int) + (Int.tmod (wrap64 (a1)) 4))) 7) - (l0.length : Int)) : Int).toNat ≤ 281474976710656 then ((some (List.replicate (wrap64 ((mn (wrap64 ((l0.length : Int) + (Int.tmod (wrap64 (a1)) 4))) 7) - (l0.length : Int)) : Int).toNat 0 : List Int)).bind fun y103 => (if y103.length + l0.length < 140737488355328 then ((some (y103 ++ l0 : List Int)).bind fun y106 => ((octet_Get.f kj4 y106).bind fun t109 => (if t109 = t102 then ((octet_Put.f kj4 t102 (mn (wrap64 ((l0.length : Int) + (Int.tmod (wrap64 (a1)) 4))) 7)).bind fun t110 => ((antiphonref1_Same.f kj4 t110 y106).bind fun t113 => (if t113 = true then ((octet_Put.f kj4 t102 (l0.length : Int)).bind fun t114 => ((antiphonref1_Same.f kj4 t114 l0).bind fun t117 => (if t117 = true then (if t102 ≥ 0 then ((octet_Put.f kj4 t102 8).bind fun t118 => (some ((t118.length : Int) == 0))) else (none)) else (none)))) else (none)))) else (none)))) else (none))) else (none)) else (none))) = some r := by rw [if_neg (show ¬ (false = true) by decide)] at H; exact H
          clear H
          have H := H1
          clear H1
          replace H := Option.bind_eq_some_iff.mp H
          obtain ⟨t102, A90, H⟩ := H
          replace H : (if 0 ≤ (wrap64 ((mn (wrap64 ((l0.length : Int) + (Int.tmod (wrap64 (a1)) 4))) 7) - (l0.length : Int))) then (if (wrap64 ((mn (wrap64 ((l0.length : Int) + (Int.tmod (wrap64 (a1)) 4))) 7) - (l0.length : Int)) : Int).toNat ≤ 281474976710656 then ((some (List.replicate (wrap64 ((mn (wrap64 ((l0.length : Int) + (Int.tmod (wrap64 (a1)) 4))) 7) - (l0.length : Int)) : Int).toNat 0 : List Int)).bind fun y103 => (if y103.length + l0.length < 140737488355328 then ((some (y103 ++ l0 : List Int)).bind fun y106 => ((octet_Get.f kj4 y106).bind fun t109 => (if t109 = t102 then ((octet_Put.f kj4 t102 (mn (wrap64 ((l0.length : Int) + (Int.tmod (wrap64 (a1)) 4))) 7)).bind fun t110 => ((antiphonref1_Same.f kj4 t110 y106).bind fun t113 => (if t113 = true then ((octet_Put.f kj4 t102 (l0.length : Int)).bind fun t114 => ((antiphonref1_Same.f kj4 t114 l0).bind fun t117 => (if t117 = true then (if t102 ≥ 0 then ((octet_Put.f kj4 t102 8).bind fun t118 => (some ((t118.length : Int) == 0))) else (none)) else (none)))) else (none)))) else (none)))) else (none))) else (none)) else (none)) = some r := H
          have A9 := Aside0.mk A90
          clear A90
          obtain ⟨ji10, hji10⟩ : ∃ j_ : Int, (mn (wrap64 ((l0.length : Int) + (Int.tmod (wrap64 (a1)) 4))) 7) = j_ := ⟨_, rfl⟩
          replace H : (if 0 ≤ (wrap64 ((ji10) - (l0.length : Int))) then (if (wrap64 ((ji10) - (l0.length : Int)) : Int).toNat ≤ 281474976710656 then ((some (List.replicate (wrap64 ((ji10) - (l0.length : Int)) : Int).toNat 0 : List Int)).bind fun y103 => (if y103.length + l0.length < 140737488355328 then ((some (y103 ++ l0 : List Int)).bind fun y106 => ((octet_Get.f kj4 y106).bind fun t109 => (if t109 = t102 then ((octet_Put.f kj4 t102 (ji10)).bind fun t110 => ((antiphonref1_Same.f kj4 t110 y106).bind fun t113 => (if t113 = true then ((octet_Put.f kj4 t102 (l0.length : Int)).bind fun t114 => ((antiphonref1_Same.f kj4 t114 l0).bind fun t117 => (if t117 = true then (if t102 ≥ 0 then ((octet_Put.f kj4 t102 8).bind fun t118 => (some ((t118.length : Int) == 0))) else (none)) else (none)))) else (none)))) else (none)))) else (none))) else (none)) else (none)) = some r := by first | (rw [hji10] at H; exact H) | (simp only [hji10] at H ⊢; exact H)
          (try rw [hji10] at A9)
          have hji10_ : (if 7 < (wrap64 ((l0.length : Int) + (Int.tmod (wrap64 (a1)) 4))) then 7 else (wrap64 ((l0.length : Int) + (Int.tmod (wrap64 (a1)) 4)))) = ji10 := hji10
          obtain ⟨ji11, hji11⟩ : ∃ j_ : Int, (wrap64 ((ji10) - (l0.length : Int))) = j_ := ⟨_, rfl⟩
          replace H : (if 0 ≤ (ji11) then (if (ji11 : Int).toNat ≤ 281474976710656 then ((some (List.replicate (ji11 : Int).toNat 0 : List Int)).bind fun y103 => (if y103.length + l0.length < 140737488355328 then ((some (y103 ++ l0 : List Int)).bind fun y106 => ((octet_Get.f kj4 y106).bind fun t109 => (if t109 = t102 then ((octet_Put.f kj4 t102 (ji10)).bind fun t110 => ((antiphonref1_Same.f kj4 t110 y106).bind fun t113 => (if t113 = true then ((octet_Put.f kj4 t102 (l0.length : Int)).bind fun t114 => ((antiphonref1_Same.f kj4 t114 l0).bind fun t117 => (if t117 = true then (if t102 ≥ 0 then ((octet_Put.f kj4 t102 8).bind fun t118 => (some ((t118.length : Int) == 0))) else (none)) else (none)))) else (none)))) else (none)))) else (none))) else (none)) else (none)) = some r := by first | (rw [hji11] at H; exact H) | (simp only [hji11] at H ⊢; exact H)
          (try rw [hji11] at A9)
          have hji11w : (IntKind.i64.wrap ((ji10) - (l0.length : Int))) = ji11 := (i64_w _).trans hji11
          by_cases c12 : 0 ≤ (ji11)
          · rw [if_pos c12] at H
            have c12b0 := eq_true c12
            have c12b1 : decide (0 ≤ (ji11)) = true := decide_eq_true c12
            clear c12
            by_cases c13 : (ji11 : Int).toNat ≤ 281474976710656
            · rw [if_pos c13] at H
              have c13b0 := eq_true c13
              have c13b1 : decide ((ji11 : Int).toNat ≤ 281474976710656) = true := decide_eq_true c13
              clear c13
              obtain ⟨y103, hy103⟩ : ∃ y_ : List Int, y_ = (List.replicate (ji11 : Int).toNat 0) := ⟨_, rfl⟩
              replace H : (if y103.length + l0.length < 140737488355328 then ((some (y103 ++ l0 : List Int)).bind fun y106 => ((octet_Get.f kj4 y106).bind fun t109 => (if t109 = t102 then ((octet_Put.f kj4 t102 (ji10)).bind fun t110 => ((antiphonref1_Same.f kj4 t110 y106).bind fun t113 => (if t113 = true then ((octet_Put.f kj4 t102 (l0.length : Int)).bind fun t114 => ((antiphonref1_Same.f kj4 t114 l0).bind fun t117 => (if t117 = true then (if t102 ≥ 0 then ((octet_Put.f kj4 t102 8).bind fun t118 => (some ((t118.length : Int) == 0))) else (none)) else (none)))) else (none)))) else (none)))) else (none)) = some r := by first | (rw [hy103]; with_reducible exact H) | (have H2_ := (Option.bind_some _ _).symm.trans H; rw [hy103]; with_reducible exact H2_) | (have H2_ := (Option.bind_some _ _).symm.trans H; with_reducible exact H2_) | with_reducible exact H | (rw [hy103]; exact H) | exact H
              have Ny103 := Aside0.mk hy103
              clear hy103
              by_cases c14 : y103.length + l0.length < 140737488355328
              · rw [if_pos c14] at H
                have LMc14 := Aside0.mk c14
                clear c14
                obtain ⟨y106, hy106⟩ : ∃ y_ : List Int, y_ = (y103 ++ l0) := ⟨_, rfl⟩
                replace H : ((octet_Get.f kj4 y106).bind fun t109 => (if t109 = t102 then ((octet_Put.f kj4 t102 (ji10)).bind fun t110 => ((antiphonref1_Same.f kj4 t110 y106).bind fun t113 => (if t113 = true then ((octet_Put.f kj4 t102 (l0.length : Int)).bind fun t114 => ((antiphonref1_Same.f kj4 t114 l0).bind fun t117 => (if t117 = true then (if t102 ≥ 0 then ((octet_Put.f kj4 t102 8).bind fun t118 => (some ((t118.length : Int) == 0))) else (none)) else (none)))) else (none)))) else (none))) = some r := by first | (rw [hy106]; with_reducible exact H) | (have H2_ := (Option.bind_some _ _).symm.trans H; rw [hy106]; with_reducible exact H2_) | (have H2_ := (Option.bind_some _ _).symm.trans H; with_reducible exact H2_) | with_reducible exact H | (rw [hy106]; exact H) | exact H
                have Ny106 := Aside0.mk hy106
                clear hy106
                replace H := Option.bind_eq_some_iff.mp H
                obtain ⟨t109, A150, H⟩ := H
                replace H : (if t109 = t102 then ((octet_Put.f kj4 t102 (ji10)).bind fun t110 => ((antiphonref1_Same.f kj4 t110 y106).bind fun t113 => (if t113 = true then ((octet_Put.f kj4 t102 (l0.length : Int)).bind fun t114 => ((antiphonref1_Same.f kj4 t114 l0).bind fun t117 => (if t117 = true then (if t102 ≥ 0 then ((octet_Put.f kj4 t102 8).bind fun t118 => (some ((t118.length : Int) == 0))) else (none)) else (none)))) else (none)))) else (none)) = some r := H
                have A15 := Aside0.mk A150
                clear A150
                by_cases c16 : t109 = t102
                · rw [if_pos c16] at H
                  have c16b0 : (t109 == t102) = true := beq_iff_eq.mpr c16
                  have c16b1 : (t109 != t102) = false := bne_eq_false_iff_eq.mpr c16
                  clear c16
                  replace H := Option.bind_eq_some_iff.mp H
                  obtain ⟨t110, A170, H⟩ := H
                  replace H : ((antiphonref1_Same.f kj4 t110 y106).bind fun t113 => (if t113 = true then ((octet_Put.f kj4 t102 (l0.length : Int)).bind fun t114 => ((antiphonref1_Same.f kj4 t114 l0).bind fun t117 => (if t117 = true then (if t102 ≥ 0 then ((octet_Put.f kj4 t102 8).bind fun t118 => (some ((t118.length : Int) == 0))) else (none)) else (none)))) else (none))) = some r := H
                  have A17 := Aside0.mk A170
                  clear A170
                  replace H := Option.bind_eq_some_iff.mp H
                  obtain ⟨t113, A180, H⟩ := H
                  replace H : (if t113 = true then ((octet_Put.f kj4 t102 (l0.length : Int)).bind fun t114 => ((antiphonref1_Same.f kj4 t114 l0).bind fun t117 => (if t117 = true then (if t102 ≥ 0 then ((octet_Put.f kj4 t102 8).bind fun t118 => (some ((t118.length : Int) == 0))) else (none)) else (none)))) else (none)) = some r := H
                  have A18 := Aside0.mk A180
                  clear A180
                  by_cases c19 : t113 = true
                  · subst c19
                    have H1 : ((octet_Put.f kj4 t102 (l0.length : Int)).bind fun t114 => ((antiphonref1_Same.f kj4 t114 l0).bind fun t117 => (if t117 = true then (if t102 ≥ 0 then ((octet_Put.f kj4 t102 8).bind fun t118 => (some ((t118.length : Int) == 0))) else (none)) else (none)))) = some r := by rw [if_pos rfl] at H; exact H
                    clear H
                    have H := H1
                    clear H1
                    replace H := Option.bind_eq_some_iff.mp H
                    obtain ⟨t114, A200, H⟩ := H
                    replace H : ((antiphonref1_Same.f kj4 t114 l0).bind fun t117 => (if t117 = true then (if t102 ≥ 0 then ((octet_Put.f kj4 t102 8).bind fun t118 => (some ((t118.length : Int) == 0))) else (none)) else (none))) = some r := H
                    have A20 := Aside0.mk A200
                    clear A200
                    replace H := Option.bind_eq_some_iff.mp H
                    obtain ⟨t117, A210, H⟩ := H
                    replace H : (if t117 = true then (if t102 ≥ 0 then ((octet_Put.f kj4 t102 8).bind fun t118 => (some ((t118.length : Int) == 0))) else (none)) else (none)) = some r := H
                    have A21 := Aside0.mk A210
                    clear A210
                    by_cases c22 : t117 = true
                    · subst c22
                      have H1 : (if t102 ≥ 0 then ((octet_Put.f kj4 t102 8).bind fun t118 => (some ((t118.length : Int) == 0))) else (none)) = some r := by rw [if_pos rfl] at H; exact H
                      clear H
                      have H := H1
                      clear H1
                      by_cases c23 : t102 ≥ 0
                      · rw [if_pos c23] at H
                        have c23b0 : decide (0 ≤ t102) = true := decide_eq_true c23
                        clear c23
                        replace H := Option.bind_eq_some_iff.mp H
                        obtain ⟨t118, A240, H⟩ := H
                        replace H : (some ((t118.length : Int) == 0)) = some r := H
                        have A24 := Aside0.mk A240
                        clear A240
                        obtain rfl := Option.some.inj H
                        go_wp2_with (first | ((with_reducible refine gate_callee (f := 14) rfl ?_); refine goesL_ (some 19) rfl rfl Try.func14 (by kernel_rfl) rfl #[.slice A0 l0.length c0] rfl (by (try simp only [List.map_toArray, List.map_cons, List.map_nil]); first | done | rfl | (simp only [List.length_drop, List.length_take]; rfl)) ?_; (with_reducible refine (octet_Get.calls kj4 _ _ l0 t102 _ ?side1 ?side2 A9.out).mono ?_); (case side1 => repeat (first | exact (Kd.C_below HR0.out HB.out) | (with_reducible refine Kd.C_alloc ?_ _) | (with_reducible refine Kd.C_drewN ?_ _) | (with_reducible refine Kd.C_drew ?_))); (case side2 => exact HC0.out); rintro e w' ⟨rfl, ⟨nd, rfl⟩⟩; refine ⟨_, rfl, ?_⟩) | ((with_reducible refine gate_dst (N := 31) rfl ?_); (try (refine gate_guard (by rfl) ?_; dsimp only)); refine Kd.R_make (Kd.int .u8) _ 5 rfl (N := 31) rfl 22 _ _ rfl ji11 rfl rfl Try.underlying22 (.int .u8 0) 1 info5 rfl (by decide) (by omega) 0 (ok := fun _ => True) (okp := fun _ => True) rfl (fun _ hk => hk) trivial (of_decide_eq_true (by first | (with_reducible assumption) | assumption)) (Nat.le_trans (Nat.mul_le_mul_right _ (of_decide_eq_true (by first | (with_reducible assumption) | assumption) : ji11.toNat ≤ 281474976710656)) (by omega)) (Below.refl _ _) (Nat.le_refl _) ?_; intro v104 w25 ho26 hb hg_ hnew_; clear hg_ hnew_; (first | rw [← Ny103.out] at ho26 | (simp only [Int.reduceToNat] at ho26; rw [← Ny103.out] at ho26)); have n0_ := Aside0.mk (Kd.R_lower ho26 (below_size (by repeat (first | (with_reducible first | exact HB.out | apply below_alloc | apply pw_below_drewN | apply below_drew1) | exact HB.out)))); have n1_ := Aside0.mk (below_step (by repeat (first | (with_reducible first | exact HB.out | apply below_alloc | apply pw_below_drewN | apply below_drew1) | exact HB.out)) hb); clear HB; have HO105 := n0_; have HB := n1_; clear n0_ n1_; clear hb ho26) | ((with_reducible refine gate_builtin (b := .append) (xs := #[.tmp 31, .tmp 32]) rfl ?_); (try (refine gate_guard (by rfl) ?_; dsimp only)); at_builtin; refine Kd.R_append_rows (Kd.int .u8) (w0 := w) w.heap.size rfl (.tmp 31) (.tmp 32) 22 5 (.int .u8 0) 1 rfl Try.underlying22 info5 rfl (by decide) (by omega) v104 y103 l0 _ _ _ (fun _ => True) (fun _ => False) rfl rfl ?aO ?aR (fun _ _ h => h) (fun _ h => h.elim) ?aF ?aB ?aS ?aL ?_; (case aR => repeat (first | exact (Kd.C_below HR0.out HB.out) | (with_reducible refine Kd.C_alloc ?_ _) | (with_reducible refine Kd.C_drewN ?_ _) | (with_reducible refine Kd.C_drew ?_))); (case aB => exact (by repeat (first | (with_reducible first | exact HB.out | apply below_alloc | apply pw_below_drewN | apply below_drew1) | exact HB.out))); (case aF => exact (fun _ _ => trivial)); (case aO => exact (by (with_reducible repeat (first | apply Kd.R_alloc | apply Kd.R_drewN | apply Kd.R_drew)); exact HO105.out)); (case aS => exact (below_size (by repeat (first | (with_reducible first | exact HB.out | apply below_alloc | apply pw_below_drewN | apply below_drew1) | exact HB.out)))); (case aL => have := LMc14.out; omega); intro v107 w27 ho hb hg hat; rw [← Ny106.out] at ho; have n0_ := Aside0.mk (hb); have n1_ := Aside0.mk (ho); clear HB; clear HO105; have HB := n0_; have HO108 := n1_; clear n0_ n1_; clear ho hb hg hat; obtain ⟨Ao28, co28, eo28⟩ := Kd.R_slice HO108.out; subst eo28) | ((with_reducible refine gate_callee (f := 14) rfl ?_); refine goesL_ (some 35) rfl rfl Try.func14 (by kernel_rfl) rfl #[.slice Ao28 y106.length co28] rfl (by (try simp only [List.map_toArray, List.map_cons, List.map_nil]); first | done | rfl | (simp only [List.length_drop, List.length_take]; rfl)) ?_; (with_reducible refine (octet_Get.calls kj4 _ _ y106 t109 _ ?side1 ?side2 A15.out).mono ?_); (case side1 => repeat (first | exact (Kd.R_reads' HO108.out).2.2 | (with_reducible refine Kd.C_alloc ?_ _) | (with_reducible refine Kd.C_drewN ?_ _) | (with_reducible refine Kd.C_drew ?_))); (case side2 => exact (Kd.R_reads' HO108.out).2.1); rintro e w' ⟨rfl, ⟨nd, rfl⟩⟩; refine ⟨_, rfl, ?_⟩) | (go_at_call 11; (with_reducible refine (octet_Put.calls kj4 t102 ji10 t110 _ A17.out).mono ?_); rintro e w29 ⟨v111, rfl, ho0, hb⟩; have n0_ := Aside0.mk (Kd.R_elder' (by (with_reducible repeat (first | apply Kd.R_alloc | apply Kd.R_drewN | apply Kd.R_drew)); exact HO108.out) (Kd.R_base ho0) hb); have n1_ := Aside0.mk (Kd.R_lower (Kd.R_new' ho0 (Kd.R_lt (by (with_reducible repeat (first | apply Kd.R_alloc | apply Kd.R_drewN | apply Kd.R_drew)); exact HO108.out))) (below_size (by repeat (first | (with_reducible first | exact HB.out | apply below_alloc | apply pw_below_drewN | apply below_drew1) | exact HB.out)))); have n2_ := Aside0.mk (below_step (by repeat (first | (with_reducible first | exact HB.out | apply below_alloc | apply pw_below_drewN | apply below_drew1) | exact HB.out)) hb); clear HO108; clear HB; have HO108 := n0_; have HO112 := n1_; have HB := n2_; clear n0_ n1_ n2_; (try clear hb); (try clear hb2); (try clear hk); (try clear hi); (try clear ho0); obtain ⟨Ao30, co30, eo30⟩ := Kd.R_slice HO112.out; subst eo30) | (go_at_call 12; (with_reducible refine (antiphonref1_Same.calls kj4 _ _ t110 _ _ y106 true _ ?side1 ?side2 ?side3 ?side4 A18.out).mono ?_); (case side1 => repeat (first | exact (Kd.R_reads' HO112.out).2.2 | (with_reducible refine Kd.C_alloc ?_ _) | (with_reducible refine Kd.C_drewN ?_ _) | (with_reducible refine Kd.C_drew ?_))); (case side2 => exact (Kd.R_reads' HO112.out).2.1); (case side3 => repeat (first | exact (Kd.R_reads' HO108.out).2.2 | (with_reducible refine Kd.C_alloc ?_ _) | (with_reducible refine Kd.C_drewN ?_ _) | (with_reducible refine Kd.C_drew ?_))); (case side4 => exact (Kd.R_reads' HO108.out).2.1); rintro e w' ⟨rfl, ⟨nd, rfl⟩⟩) | (go_at_call 11; (with_reducible refine (octet_Put.calls kj4 t102 (l0.length : Int) t114 _ A20.out).mono ?_); rintro e w31 ⟨v115, rfl, ho0, hb⟩; have n0_ := Aside0.mk (Kd.R_elder' (by (with_reducible repeat (first | apply Kd.R_alloc | apply Kd.R_drewN | apply Kd.R_drew)); exact HO108.out) (Kd.R_base ho0) hb); have n1_ := Aside0.mk (Kd.R_elder' (by (with_reducible repeat (first | apply Kd.R_alloc | apply Kd.R_drewN | apply Kd.R_drew)); exact HO112.out) (Kd.R_base ho0) hb); have n2_ := Aside0.mk (Kd.R_lower (Kd.R_new' (Kd.R_new' ho0 (Kd.R_lt (by (with_reducible repeat (first | apply Kd.R_alloc | apply Kd.R_drewN | apply Kd.R_drew)); exact HO108.out))) (Kd.R_lt (by (with_reducible repeat (first | apply Kd.R_alloc | apply Kd.R_drewN | apply Kd.R_drew)); exact HO112.out))) (below_size (by repeat (first | (with_reducible first | exact HB.out | apply below_alloc | apply pw_below_drewN | apply below_drew1) | exact HB.out)))); have n3_ := Aside0.mk (below_step (by repeat (first | (with_reducible first | exact HB.out | apply below_alloc | apply pw_below_drewN | apply below_drew1) | exact HB.out)) hb); clear HO108; clear HO112; clear HB; have HO108 := n0_; have HO112 := n1_; have HO116 := n2_; have HB := n3_; clear n0_ n1_ n2_ n3_; (try clear hb); (try clear hb2); (try clear hk); (try clear hi); (try clear ho0); obtain ⟨Ao32, co32, eo32⟩ := Kd.R_slice HO116.out; subst eo32) | (go_at_call 12; (with_reducible refine (antiphonref1_Same.calls kj4 _ _ t114 _ _ l0 true _ ?side1 ?side2 ?side3 ?side4 A21.out).mono ?_); (case side1 => repeat (first | exact (Kd.R_reads' HO116.out).2.2 | (with_reducible refine Kd.C_alloc ?_ _) | (with_reducible refine Kd.C_drewN ?_ _) | (with_reducible refine Kd.C_drew ?_))); (case side2 => exact (Kd.R_reads' HO116.out).2.1); (case side3 => repeat (first | exact (Kd.C_below HR0.out HB.out) | (with_reducible refine Kd.C_alloc ?_ _) | (with_reducible refine Kd.C_drewN ?_ _) | (with_reducible refine Kd.C_drew ?_))); (case side4 => exact HC0.out); rintro e w' ⟨rfl, ⟨nd, rfl⟩⟩) | (go_at_call 11; (with_reducible refine (octet_Put.calls kj4 t102 8 t118 _ A24.out).mono ?_); rintro e w33 ⟨v119, rfl, ho0, hb⟩; have n0_ := Aside0.mk (Kd.R_elder' (by (with_reducible repeat (first | apply Kd.R_alloc | apply Kd.R_drewN | apply Kd.R_drew)); exact HO108.out) (Kd.R_base ho0) hb); have n1_ := Aside0.mk (Kd.R_elder' (by (with_reducible repeat (first | apply Kd.R_alloc | apply Kd.R_drewN | apply Kd.R_drew)); exact HO112.out) (Kd.R_base ho0) hb); have n2_ := Aside0.mk (Kd.R_elder' (by (with_reducible repeat (first | apply Kd.R_alloc | apply Kd.R_drewN | apply Kd.R_drew)); exact HO116.out) (Kd.R_base ho0) hb); have n3_ := Aside0.mk (Kd.R_lower (Kd.R_new' (Kd.R_new' (Kd.R_new' ho0 (Kd.R_lt (by (with_reducible repeat (first | apply Kd.R_alloc | apply Kd.R_drewN | apply Kd.R_drew)); exact HO108.out))) (Kd.R_lt (by (with_reducible repeat (first | apply Kd.R_alloc | apply Kd.R_drewN | apply Kd.R_drew)); exact HO112.out))) (Kd.R_lt (by (with_reducible repeat (first | apply Kd.R_alloc | apply Kd.R_drewN | apply Kd.R_drew)); exact HO116.out))) (below_size (by repeat (first | (with_reducible first | exact HB.out | apply below_alloc | apply pw_below_drewN | apply below_drew1) | exact HB.out)))); have n4_ := Aside0.mk (below_step (by repeat (first | (with_reducible first | exact HB.out | apply below_alloc | apply pw_below_drewN | apply below_drew1) | exact HB.out)) hb); clear HO108; clear HO112; clear HO116; clear HB; have HO108 := n0_; have HO112 := n1_; have HO116 := n2_; have HO120 := n3_; have HB := n4_; clear n0_ n1_ n2_ n3_ n4_; (try clear hb); (try clear hb2); (try clear hk); (try clear hi); (try clear ho0); obtain ⟨Ao34, co34, eo34⟩ := Kd.R_slice HO120.out; subst eo34))
                        go_ret
                        exact ⟨by first | rfl | (simp [errW_none, errW_some] <;> rfl) | (simp only [← hji10, ← hji11]; first | rfl | (simp [errW_none, errW_some] <;> rfl)) | (simp [*, errW_none, errW_some] <;> rfl), by repeat (first | (with_reducible first | exact HB.out | apply below_alloc | apply pw_below_drewN | apply below_drew1) | exact HB.out)⟩
                      · rw [if_neg c23] at H
                        exact absurd H (by simp)
                    · replace c22 := Bool.eq_false_iff.mpr c22
                      subst c22
                      have H1 : (none) = some r := by rw [if_neg (show ¬ (false = true) by decide)] at H; exact H
                      clear H
                      have H := H1
                      clear H1
                      exact absurd H (by simp)
                  · replace c19 := Bool.eq_false_iff.mpr c19
                    subst c19
                    have H1 : (none) = some r := by rw [if_neg (show ¬ (false = true) by decide)] at H; exact H
                    clear H
                    have H := H1
                    clear H1
                    exact absurd H (by simp)
                · rw [if_neg c16] at H
                  exact absurd H (by simp)
              · rw [if_neg c14] at H
                exact absurd H (by simp)
            · rw [if_neg c13] at H
              exact absurd H (by simp)
          · rw [if_neg c12] at H
            exact absurd H (by simp)
  · replace c4 := Bool.eq_false_iff.mpr c4
    subst c4
    have H1 : (none) = some r := by rw [if_neg (show ¬ (false = true) by decide)] at H; exact H
    clear H
    have H := H1
    clear H1
    exact absurd H (by simp)

/-- THE ONE PURE STATEMENT of antiphonlaw1_OctetWide: yours. -/
def antiphonlaw1_OctetWide.Pure : Prop := ∀ (l0 : List Int) (a1 : Int), l0.length ≤ maxLen → l0.length * 1 ≤ 140737488351232 → (∀ x ∈ l0, (Lit.int .u8 x).wf = true) → (Lit.int .u8 a1).wf = true → ∃ k, antiphonlaw1_OctetWide.f k l0 a1 = some true
theorem antiphonlaw1_OctetWide.walk (P : antiphonlaw1_OctetWide.Pure) (a0 : Option Addr) (len0 cap0 : Nat) (z0 : List Int) (a1 : Int) (w : World) (w0 : (a0 = none ∧ len0 = 0 ∧ cap0 = 0 ∧ z0 = []) ∨ ∃ x, a0 = some x ∧ len0 ≤ cap0 ∧ cap0 ≤ maxLen ∧ z0.length = cap0 ∧ (∀ i, i < z0.length → w.cell? (x.add i) = some (.int .u8 (z0.getD i 0))) ∧ ∀ n ∈ z0, (Lit.int .u8 n).wf = true) (y0 : len0 * 1 ≤ 140737488351232) (w1 : (Lit.int .u8 a1).wf = true) :
    Calls Try.prog 5 #[.slice a0 len0 cap0, .int .u8 a1] w fun e w' => e = .returned (.bool true) ∧ Below w.heap.size w w' := by
  obtain ⟨l0, rfl, hr0, hm0, hw0, hc0⟩ := ReadsInt.ofRowC w0
  obtain ⟨k, h⟩ := P l0 a1 hm0 y0 hw0 w1
  refine (antiphonlaw1_OctetWide.calls k _ _ l0 a1 true w (Kd.C_of_reads (d := (0 : Int)) (h1 := fun _ => rfl) hr0) hc0 h).mono ?_
  rintro e w' ⟨rfl, hd⟩
  exact ⟨rfl, hd⟩

end Go.Proofs.Ytngahjgbeekldaa.P
