-- Laid by a program of this session (wip/print2).
import Derived.Test.YtngahjgbeekldaaPx0
import Derived.Test.YtngahjgbeekldaaPx11
import Derived.Test.YtngahjgbeekldaaPx12
import Derived.Test.YtngahjgbeekldaaPx13
namespace Go.Proofs.Ytngahjgbeekldaa.P
open Go.RowKit Go.Proofs.YtngahjgbeekldaaW.PrintWords Go.Proofs.YtngahjgbeekldaaW.PrintLast Go.Proofs.YtngahjgbeekldaaW.PrintMore
attribute [local go_sem] max2_int min2_int max_two min_two max_three min_three max_four min_four   -- for this text's walks alone
set_option linter.unusedVariables false
set_option linter.unusedSimpArgs false

/-! ### antiphonlaw1_OctetOrder: function 4 -/
mutual
def antiphonlaw1_OctetOrder.j0 : Nat → Int → Int → Int → List Int → List Int → Bool → Option (Bool)
  | 0, _, _, _, _, _, _ => none
  | k + 1, x0, x1, x7, x8, x9, x34 => if x34 = true then (if (x8.length : Int) = 0 then (some true) else (some ((x8.length : Int) == x7))) else (antiphonlaw1_OctetOrder.l0 k x0 x1 x7 x8 x9 false 0)
def antiphonlaw1_OctetOrder.j2 : Nat → Int → Int → Int → List Int → Bool → Option (Bool)
  | 0, _, _, _, _, _ => none
  | k + 1, x0, x1, x7, x8, x10 => if x7 < 7 then ((octet_Put.f k x0 (wrap64 (x7 + 1))).bind fun t112 => (if (t112.length : Int) = (wrap64 (x7 + 1)) then (if 0 < (t112.length : Int) then (if (rd t112 0) = 0 then (if 1 ≤ (t112.length : Int) then ((antiphonref1_Same.f k (t112.drop 1) x8).bind fun t120 => (if t120 = true then (some (x10 == (decide (x0 < x1)))) else (none))) else (none)) else (none)) else (none)) else (none))) else (some (x10 == (decide (x0 < x1))))
def antiphonlaw1_OctetOrder.l0 : Nat → Int → Int → Int → List Int → List Int → Bool → Int → Option (Bool)
  | 0, _, _, _, _, _, _, _ => none
  | k + 1, x0, x1, x7, x8, x9, x10, x11 => if x11 < x7 then (if 0 ≤ x11 then (if x11 < (x8.length : Int) then (if x11 < (x9.length : Int) then (if (rd x8 x11) = (rd x9 x11) then (antiphonlaw1_OctetOrder.l0 k x0 x1 x7 x8 x9 x10 (wrap64 (x11 + 1))) else (antiphonlaw1_OctetOrder.j2 k x0 x1 x7 x8 (decide ((rd x8 x11) < (rd x9 x11))))) else (none)) else (none)) else (none)) else (antiphonlaw1_OctetOrder.j2 k x0 x1 x7 x8 x10)
end
def antiphonlaw1_OctetOrder.f (k : Nat) (a0 : Int) (a1 : Int) (a2 : Int) : Option (Bool) := (antiphonlaw1_awake.f).bind fun t101 => (if t101 = true then ((octet_Put.f k a0 (wrap64 (1 + (Int.tmod (wrap64 (a2)) 7)))).bind fun t102 => ((octet_Put.f k a1 (wrap64 (1 + (Int.tmod (wrap64 (a2)) 7)))).bind fun t105 => (if (t102.length : Int) = (wrap64 (1 + (Int.tmod (wrap64 (a2)) 7))) then (antiphonlaw1_OctetOrder.j0 k a0 a1 (wrap64 (1 + (Int.tmod (wrap64 (a2)) 7))) t102 t105 ((t105.length : Int) != (wrap64 (1 + (Int.tmod (wrap64 (a2)) 7))))) else (antiphonlaw1_OctetOrder.j0 k a0 a1 (wrap64 (1 + (Int.tmod (wrap64 (a2)) 7))) t102 t105 true)))) else (none))
theorem antiphonlaw1_OctetOrder.mono_l : ∀ k, (∀ y0 y1 y2 y3 y4 y5, LeO (antiphonlaw1_OctetOrder.j0 k y0 y1 y2 y3 y4 y5) (antiphonlaw1_OctetOrder.j0 (k + 1) y0 y1 y2 y3 y4 y5)) ∧ (∀ y0 y1 y2 y3 y4, LeO (antiphonlaw1_OctetOrder.j2 k y0 y1 y2 y3 y4) (antiphonlaw1_OctetOrder.j2 (k + 1) y0 y1 y2 y3 y4)) ∧ (∀ y0 y1 y2 y3 y4 y5 y6, LeO (antiphonlaw1_OctetOrder.l0 k y0 y1 y2 y3 y4 y5 y6) (antiphonlaw1_OctetOrder.l0 (k + 1) y0 y1 y2 y3 y4 y5 y6))
  | 0 => ⟨fun _ _ _ _ _ _ r h => by simp [antiphonlaw1_OctetOrder.j0] at h, fun _ _ _ _ _ r h => by simp [antiphonlaw1_OctetOrder.j2] at h, fun _ _ _ _ _ _ _ r h => by simp [antiphonlaw1_OctetOrder.l0] at h⟩
  | k + 1 => by
    obtain ⟨ih0, ih1, ih2⟩ := antiphonlaw1_OctetOrder.mono_l k
    refine ⟨?_, ?_, ?_⟩
    · intro y0 y1 y2 y3 y4 y5
      unfold antiphonlaw1_OctetOrder.j0
      repeat' first
      | (with_reducible exact ih0 _ _ _ _ _ _)
      | (with_reducible exact ih1 _ _ _ _ _)
      | (with_reducible exact ih2 _ _ _ _ _ _ _)
      | (with_reducible exact antiphonref1_Same.mono _ _ _)
      | (with_reducible exact octet_Put.mono _ _ _)
      | (with_reducible exact LeO.refl _)
      | (with_reducible exact LeO.none _)
      | (with_reducible refine LeO.ite ?_ ?_)
      | (with_reducible refine LeO.bind ?_ (fun _ => ?_))
      | exact ih0 _ _ _ _ _ _
      | exact ih1 _ _ _ _ _
      | exact ih2 _ _ _ _ _ _ _
      | exact antiphonref1_Same.mono _ _ _
      | exact octet_Put.mono _ _ _
      | exact LeO.none _
      | refine LeO.ite ?_ ?_
      | refine LeO.bind ?_ (fun _ => ?_)
    · intro y0 y1 y2 y3 y4
      unfold antiphonlaw1_OctetOrder.j2
      repeat' first
      | (with_reducible exact ih0 _ _ _ _ _ _)
      | (with_reducible exact ih1 _ _ _ _ _)
      | (with_reducible exact ih2 _ _ _ _ _ _ _)
      | (with_reducible exact antiphonref1_Same.mono _ _ _)
      | (with_reducible exact octet_Put.mono _ _ _)
      | (with_reducible exact LeO.refl _)
      | (with_reducible exact LeO.none _)
      | (with_reducible refine LeO.ite ?_ ?_)
      | (with_reducible refine LeO.bind ?_ (fun _ => ?_))
      | exact ih0 _ _ _ _ _ _
      | exact ih1 _ _ _ _ _
      | exact ih2 _ _ _ _ _ _ _
      | exact antiphonref1_Same.mono _ _ _
      | exact octet_Put.mono _ _ _
      | exact LeO.none _
      | refine LeO.ite ?_ ?_
      | refine LeO.bind ?_ (fun _ => ?_)
    · intro y0 y1 y2 y3 y4 y5 y6
      unfold antiphonlaw1_OctetOrder.l0
      repeat' first
      | (with_reducible exact ih0 _ _ _ _ _ _)
      | (with_reducible exact ih1 _ _ _ _ _)
      | (with_reducible exact ih2 _ _ _ _ _ _ _)
      | (with_reducible exact antiphonref1_Same.mono _ _ _)
      | (with_reducible exact octet_Put.mono _ _ _)
      | (with_reducible exact LeO.refl _)
      | (with_reducible exact LeO.none _)
      | (with_reducible refine LeO.ite ?_ ?_)
      | (with_reducible refine LeO.bind ?_ (fun _ => ?_))
      | exact ih0 _ _ _ _ _ _
      | exact ih1 _ _ _ _ _
      | exact ih2 _ _ _ _ _ _ _
      | exact antiphonref1_Same.mono _ _ _
      | exact octet_Put.mono _ _ _
      | exact LeO.none _
      | refine LeO.ite ?_ ?_
      | refine LeO.bind ?_ (fun _ => ?_)
theorem antiphonlaw1_OctetOrder.mono : ∀ a0 a1 a2 k, LeO (antiphonlaw1_OctetOrder.f k a0 a1 a2) (antiphonlaw1_OctetOrder.f (k + 1) a0 a1 a2) := by
  intro a0 a1 a2 k
  obtain ⟨ih0, ih1, ih2⟩ := antiphonlaw1_OctetOrder.mono_l k
  unfold antiphonlaw1_OctetOrder.f
  repeat' first
      | (with_reducible exact ih0 _ _ _ _ _ _)
      | (with_reducible exact ih1 _ _ _ _ _)
      | (with_reducible exact ih2 _ _ _ _ _ _ _)
      | (with_reducible exact antiphonref1_Same.mono _ _ _)
      | (with_reducible exact octet_Put.mono _ _ _)
      | (with_reducible exact LeO.refl _)
      | (with_reducible exact LeO.none _)
      | (with_reducible refine LeO.ite ?_ ?_)
      | (with_reducible refine LeO.bind ?_ (fun _ => ?_))
      | exact ih0 _ _ _ _ _ _
      | exact ih1 _ _ _ _ _
      | exact ih2 _ _ _ _ _ _ _
      | exact antiphonref1_Same.mono _ _ _
      | exact octet_Put.mono _ _ _
      | exact LeO.none _
      | refine LeO.ite ?_ ?_
      | refine LeO.bind ?_ (fun _ => ?_)
set_option maxHeartbeats 8000000 in
set_option maxRecDepth 100000 in
theorem antiphonlaw1_OctetOrder.calls (k : Nat) (a0 : Int) (a1 : Int) (a2 : Int) (r : Bool) (w : World) (h : antiphonlaw1_OctetOrder.f k a0 a1 a2 = some r) :
    Calls Try.prog 4 #[.int .i64 a0, .int .i64 a1, .int .u8 a2] w fun e w' => e = .returned (.bool r) ∧ Below w.heap.size w w' := by
  have HB := Aside0.mk (Below.refl w.heap.size w)
  have H : ((antiphonlaw1_awake.f).bind fun t101 => (if t101 = true then ((octet_Put.f k a0 (wrap64 (1 + (Int.tmod (wrap64 (a2)) 7)))).bind fun t102 => ((octet_Put.f k a1 (wrap64 (1 + (Int.tmod (wrap64 (a2)) 7)))).bind fun t105 => (if (t102.length : Int) = (wrap64 (1 + (Int.tmod (wrap64 (a2)) 7))) then (antiphonlaw1_OctetOrder.j0 k a0 a1 (wrap64 (1 + (Int.tmod (wrap64 (a2)) 7))) t102 t105 ((t105.length : Int) != (wrap64 (1 + (Int.tmod (wrap64 (a2)) 7))))) else (antiphonlaw1_OctetOrder.j0 k a0 a1 (wrap64 (1 + (Int.tmod (wrap64 (a2)) 7))) t102 t105 true)))) else (none))) = some r := h
  clear h
  replace H := Option.bind_eq_some_iff.mp H
  obtain ⟨t101, A40, H⟩ := H
  replace H : (if t101 = true then ((octet_Put.f k a0 (wrap64 (1 + (Int.tmod (wrap64 (a2)) 7)))).bind fun t102 => ((octet_Put.f k a1 (wrap64 (1 + (Int.tmod (wrap64 (a2)) 7)))).bind fun t105 => (if (t102.length : Int) = (wrap64 (1 + (Int.tmod (wrap64 (a2)) 7))) then (antiphonlaw1_OctetOrder.j0 k a0 a1 (wrap64 (1 + (Int.tmod (wrap64 (a2)) 7))) t102 t105 ((t105.length : Int) != (wrap64 (1 + (Int.tmod (wrap64 (a2)) 7))))) else (antiphonlaw1_OctetOrder.j0 k a0 a1 (wrap64 (1 + (Int.tmod (wrap64 (a2)) 7))) t102 t105 true)))) else (none)) = some r := H
  have A4 := Aside0.mk A40
  clear A40
  by_cases c5 : t101 = true
  · subst c5
    have H1 : ((octet_Put.f k a0 (wrap64 (1 + (Int.tmod (wrap64 (a2)) 7)))).bind fun t102 => ((octet_Put.f k a1 (wrap64 (1 + (Int.tmod (wrap64 (a2)) 7)))).bind fun t105 => (if (t102.length : Int) = (wrap64 (1 + (Int.tmod (wrap64 (a2)) 7))) then (antiphonlaw1_OctetOrder.j0 k a0 a1 (wrap64 (1 + (Int.tmod (wrap64 (a2)) 7))) t102 t105 ((t105.length : Int) != (wrap64 (1 + (Int.tmod (wrap64 (a2)) 7))))) else (antiphonlaw1_OctetOrder.j0 k a0 a1 (wrap64 (1 + (Int.tmod (wrap64 (a2)) 7))) t102 t105 true)))) = some r := by rw [if_pos rfl] at H; exact H
    clear H
    have H := H1
    clear H1
    replace H := Option.bind_eq_some_iff.mp H
    obtain ⟨t102, A60, H⟩ := H
    replace H : ((octet_Put.f k a1 (wrap64 (1 + (Int.tmod (wrap64 (a2)) 7)))).bind fun t105 => (if (t102.length : Int) = (wrap64 (1 + (Int.tmod (wrap64 (a2)) 7))) then (antiphonlaw1_OctetOrder.j0 k a0 a1 (wrap64 (1 + (Int.tmod (wrap64 (a2)) 7))) t102 t105 ((t105.length : Int) != (wrap64 (1 + (Int.tmod (wrap64 (a2)) 7))))) else (antiphonlaw1_OctetOrder.j0 k a0 a1 (wrap64 (1 + (Int.tmod (wrap64 (a2)) 7))) t102 t105 true))) = some r := H
    have A6 := Aside0.mk A60
    clear A60
    replace H := Option.bind_eq_some_iff.mp H
    obtain ⟨t105, A70, H⟩ := H
    replace H : (if (t102.length : Int) = (wrap64 (1 + (Int.tmod (wrap64 (a2)) 7))) then (antiphonlaw1_OctetOrder.j0 k a0 a1 (wrap64 (1 + (Int.tmod (wrap64 (a2)) 7))) t102 t105 ((t105.length : Int) != (wrap64 (1 + (Int.tmod (wrap64 (a2)) 7))))) else (antiphonlaw1_OctetOrder.j0 k a0 a1 (wrap64 (1 + (Int.tmod (wrap64 (a2)) 7))) t102 t105 true)) = some r := H
    have A7 := Aside0.mk A70
    clear A70
    have HC8 := Aside0.mk H
    clear H
    go_enter Try.func4, Try.ntmps4
    go_upto_region 5 with (first | (go_at_call 10; (with_reducible refine (antiphonlaw1_awake.calls  true _ A4.out).mono ?_); rintro e w9 ⟨rfl, hb⟩; have n0_ := Aside0.mk (below_step (by repeat (first | (with_reducible first | exact HB.out | apply below_alloc | apply pw_below_drewN | apply below_drew1) | exact HB.out)) hb); clear HB; have HB := n0_; clear n0_; (try clear hb); (try clear hb2); (try clear hk); (try clear hi)) | (go_at_call 11; (with_reducible refine (octet_Put.calls k a0 (wrap64 (1 + (Int.tmod (wrap64 (a2)) 7))) t102 _ A6.out).mono ?_); rintro e w10 ⟨v103, rfl, ho0, hb⟩; have n0_ := Aside0.mk (Kd.R_lower ho0 (below_size (by repeat (first | (with_reducible first | exact HB.out | apply below_alloc | apply pw_below_drewN | apply below_drew1) | exact HB.out)))); have n1_ := Aside0.mk (below_step (by repeat (first | (with_reducible first | exact HB.out | apply below_alloc | apply pw_below_drewN | apply below_drew1) | exact HB.out)) hb); clear HB; have HO104 := n0_; have HB := n1_; clear n0_ n1_; (try clear hb); (try clear hb2); (try clear hk); (try clear hi); (try clear ho0)) | (go_at_call 11; (with_reducible refine (octet_Put.calls k a1 (wrap64 (1 + (Int.tmod (wrap64 (a2)) 7))) t105 _ A7.out).mono ?_); rintro e w11 ⟨v106, rfl, ho0, hb⟩; have n0_ := Aside0.mk (Kd.R_elder' (by (with_reducible repeat (first | apply Kd.R_alloc | apply Kd.R_drewN | apply Kd.R_drew)); exact HO104.out) (Kd.R_base ho0) hb); have n1_ := Aside0.mk (Kd.R_lower (Kd.R_new' ho0 (Kd.R_lt (by (with_reducible repeat (first | apply Kd.R_alloc | apply Kd.R_drewN | apply Kd.R_drew)); exact HO104.out))) (below_size (by repeat (first | (with_reducible first | exact HB.out | apply below_alloc | apply pw_below_drewN | apply below_drew1) | exact HB.out)))); have n2_ := Aside0.mk (below_step (by repeat (first | (with_reducible first | exact HB.out | apply below_alloc | apply pw_below_drewN | apply below_drew1) | exact HB.out)) hb); clear HO104; clear HB; have HO104 := n0_; have HO107 := n1_; have HB := n2_; clear n0_ n1_ n2_; (try clear hb); (try clear hb2); (try clear hk); (try clear hi); (try clear ho0)))
    repeat (go_quiet (first | (go_at_call 10; (with_reducible refine (antiphonlaw1_awake.calls  true _ A4.out).mono ?_); rintro e w9 ⟨rfl, hb⟩; have n0_ := Aside0.mk (below_step (by repeat (first | (with_reducible first | exact HB.out | apply below_alloc | apply pw_below_drewN | apply below_drew1) | exact HB.out)) hb); clear HB; have HB := n0_; clear n0_; (try clear hb); (try clear hb2); (try clear hk); (try clear hi)) | (go_at_call 11; (with_reducible refine (octet_Put.calls k a0 (wrap64 (1 + (Int.tmod (wrap64 (a2)) 7))) t102 _ A6.out).mono ?_); rintro e w10 ⟨v103, rfl, ho0, hb⟩; have n0_ := Aside0.mk (Kd.R_lower ho0 (below_size (by repeat (first | (with_reducible first | exact HB.out | apply below_alloc | apply pw_below_drewN | apply below_drew1) | exact HB.out)))); have n1_ := Aside0.mk (below_step (by repeat (first | (with_reducible first | exact HB.out | apply below_alloc | apply pw_below_drewN | apply below_drew1) | exact HB.out)) hb); clear HB; have HO104 := n0_; have HB := n1_; clear n0_ n1_; (try clear hb); (try clear hb2); (try clear hk); (try clear hi); (try clear ho0)) | (go_at_call 11; (with_reducible refine (octet_Put.calls k a1 (wrap64 (1 + (Int.tmod (wrap64 (a2)) 7))) t105 _ A7.out).mono ?_); rintro e w11 ⟨v106, rfl, ho0, hb⟩; have n0_ := Aside0.mk (Kd.R_elder' (by (with_reducible repeat (first | apply Kd.R_alloc | apply Kd.R_drewN | apply Kd.R_drew)); exact HO104.out) (Kd.R_base ho0) hb); have n1_ := Aside0.mk (Kd.R_lower (Kd.R_new' ho0 (Kd.R_lt (by (with_reducible repeat (first | apply Kd.R_alloc | apply Kd.R_drewN | apply Kd.R_drew)); exact HO104.out))) (below_size (by repeat (first | (with_reducible first | exact HB.out | apply below_alloc | apply pw_below_drewN | apply below_drew1) | exact HB.out)))); have n2_ := Aside0.mk (below_step (by repeat (first | (with_reducible first | exact HB.out | apply below_alloc | apply pw_below_drewN | apply below_drew1) | exact HB.out)) hb); clear HO104; clear HB; have HO104 := n0_; have HO107 := n1_; have HB := n2_; clear n0_ n1_ n2_; (try clear hb); (try clear hb2); (try clear hk); (try clear hi); (try clear ho0))); go_upto_region 5 with (first | (go_at_call 10; (with_reducible refine (antiphonlaw1_awake.calls  true _ A4.out).mono ?_); rintro e w9 ⟨rfl, hb⟩; have n0_ := Aside0.mk (below_step (by repeat (first | (with_reducible first | exact HB.out | apply below_alloc | apply pw_below_drewN | apply below_drew1) | exact HB.out)) hb); clear HB; have HB := n0_; clear n0_; (try clear hb); (try clear hb2); (try clear hk); (try clear hi)) | (go_at_call 11; (with_reducible refine (octet_Put.calls k a0 (wrap64 (1 + (Int.tmod (wrap64 (a2)) 7))) t102 _ A6.out).mono ?_); rintro e w10 ⟨v103, rfl, ho0, hb⟩; have n0_ := Aside0.mk (Kd.R_lower ho0 (below_size (by repeat (first | (with_reducible first | exact HB.out | apply below_alloc | apply pw_below_drewN | apply below_drew1) | exact HB.out)))); have n1_ := Aside0.mk (below_step (by repeat (first | (with_reducible first | exact HB.out | apply below_alloc | apply pw_below_drewN | apply below_drew1) | exact HB.out)) hb); clear HB; have HO104 := n0_; have HB := n1_; clear n0_ n1_; (try clear hb); (try clear hb2); (try clear hk); (try clear hi); (try clear ho0)) | (go_at_call 11; (with_reducible refine (octet_Put.calls k a1 (wrap64 (1 + (Int.tmod (wrap64 (a2)) 7))) t105 _ A7.out).mono ?_); rintro e w11 ⟨v106, rfl, ho0, hb⟩; have n0_ := Aside0.mk (Kd.R_elder' (by (with_reducible repeat (first | apply Kd.R_alloc | apply Kd.R_drewN | apply Kd.R_drew)); exact HO104.out) (Kd.R_base ho0) hb); have n1_ := Aside0.mk (Kd.R_lower (Kd.R_new' ho0 (Kd.R_lt (by (with_reducible repeat (first | apply Kd.R_alloc | apply Kd.R_drewN | apply Kd.R_drew)); exact HO104.out))) (below_size (by repeat (first | (with_reducible first | exact HB.out | apply below_alloc | apply pw_below_drewN | apply below_drew1) | exact HB.out)))); have n2_ := Aside0.mk (below_step (by repeat (first | (with_reducible first | exact HB.out | apply below_alloc | apply pw_below_drewN | apply below_drew1) | exact HB.out)) hb); clear HO104; clear HB; have HO104 := n0_; have HO107 := n1_; have HB := n2_; clear n0_ n1_ n2_; (try clear hb); (try clear hb2); (try clear hk); (try clear hi); (try clear ho0))))
    (try simp only [Act.put, List.setIfInBounds_toArray, List.set_cons_zero, List.set_cons_succ])
    go_cut [34] (fun v34 wc => ∃ (kq : Nat) (x34_7 : Bool), v34 = .bool x34_7 ∧ Aside0 (antiphonlaw1_OctetOrder.j0 kq a0 a1 (wrap64 (1 + (Int.tmod (wrap64 (a2)) 7))) t102 t105 x34_7 = some r) ∧ Aside0 (kq ≤ k) ∧ Aside0 (Kd.R (Kd.int .u8) 5 wc w.heap.size (fun k_ => some k_ ≠ (v106 : Value).ownBlock) v103 t102) ∧ Aside0 (Kd.R (Kd.int .u8) 5 wc w.heap.size (fun k_ => some k_ ≠ (v103 : Value).ownBlock) v106 t105) ∧ Aside0 (Below w.heap.size w wc))
    case first =>
      have H := HC8.out
      clear HC8
      by_cases c12 : (t102.length : Int) = (wrap64 (1 + (Int.tmod (wrap64 (a2)) 7)))
      · rw [if_pos c12] at H
        have c12b0 : ((t102.length : Int) == (wrap64 (1 + (Int.tmod (wrap64 (a2)) 7)))) = true := beq_iff_eq.mpr c12
        have c12b1 : ((t102.length : Int) != (wrap64 (1 + (Int.tmod (wrap64 (a2)) 7)))) = false := bne_eq_false_iff_eq.mpr c12
        clear c12
        (first | rw [c12b0] | (simp only [i64_w, i32_w]; rw [c12b0]) | skip)
        have H' := Aside0.mk H
        clear H
        obtain ⟨Ao13, co13, eo13⟩ := Kd.R_slice HO104.out
        subst eo13
        obtain ⟨Ao14, co14, eo14⟩ := Kd.R_slice HO107.out
        subst eo14
        go_wp2
        repeat (go_quiet (fail); try go_wp2)
        go_meet
        case rel => exact ⟨_, (((t105.length : Int) != (wrap64 (1 + (Int.tmod (wrap64 (a2)) 7))))), (by first | rfl | (simp; done) | (simp [*]; done)), H', ⟨by first | omega | exact Nat.le_refl _⟩, ⟨by (with_reducible repeat (first | apply Kd.R_alloc | apply Kd.R_drewN | apply Kd.R_drew)); exact Kd.R_mono HO104.out (fun _ hk => hk.2)⟩, ⟨by (with_reducible repeat (first | apply Kd.R_alloc | apply Kd.R_drewN | apply Kd.R_drew)); exact Kd.R_mono HO107.out (fun _ hk => hk.2)⟩, ⟨by repeat (first | (with_reducible first | exact HB.out | apply below_alloc | apply pw_below_drewN | apply below_drew1) | exact HB.out)⟩⟩
      · rw [if_neg c12] at H
        have c12b0 : ((t102.length : Int) == (wrap64 (1 + (Int.tmod (wrap64 (a2)) 7)))) = false := beq_eq_false_iff_ne.mpr c12
        have c12b1 : ((t102.length : Int) != (wrap64 (1 + (Int.tmod (wrap64 (a2)) 7)))) = true := bne_iff_ne.mpr c12
        (first | rw [c12b0] | (simp only [i64_w, i32_w]; rw [c12b0]) | skip)
        have H' := Aside0.mk H
        clear H
        obtain ⟨Ao15, co15, eo15⟩ := Kd.R_slice HO104.out
        subst eo15
        go_wp2
        repeat (go_quiet (fail); try go_wp2)
        go_meet
        case rel => exact ⟨_, (true), (by first | rfl | (simp; done) | (simp [*]; done)), H', ⟨by first | omega | exact Nat.le_refl _⟩, ⟨by (with_reducible repeat (first | apply Kd.R_alloc | apply Kd.R_drewN | apply Kd.R_drew)); exact Kd.R_mono HO104.out (fun _ hk => hk.2)⟩, ⟨by (with_reducible repeat (first | apply Kd.R_alloc | apply Kd.R_drewN | apply Kd.R_drew)); exact Kd.R_mono HO107.out (fun _ hk => hk.2)⟩, ⟨by repeat (first | (with_reducible first | exact HB.out | apply below_alloc | apply pw_below_drewN | apply below_drew1) | exact HB.out)⟩⟩
    case rest =>
      clear HC8
      try clear c1
      try clear p2
      try clear c4
      try clear c5
      try clear p6
      try clear c12
      try clear c12b0
      try clear c12b1
      obtain ⟨kq, x34_7, rfl, HA, HJ7, HO_8, HO_9, HB⟩ := hcut
      cases kq with
      | zero => exact absurd HA.out (by simp [antiphonlaw1_OctetOrder.j0])
      | succ kj7 =>
        have H := HA.out
        clear HA
        simp only [antiphonlaw1_OctetOrder.j0] at H
        by_cases c16 : x34_7 = true
        · subst c16
          have H1 : (if (t102.length : Int) = 0 then (some true) else (some ((t102.length : Int) == (wrap64 (1 + (Int.tmod (wrap64 (a2)) 7)))))) = some r := by rw [if_pos rfl] at H; exact H
          clear H
          have H := H1
          clear H1
          by_cases c17 : (t102.length : Int) = 0
          · rw [if_pos c17] at H
            have c17b0 : ((t102.length : Int) == 0) = true := beq_iff_eq.mpr c17
            have c17b1 : ((t102.length : Int) != 0) = false := bne_eq_false_iff_eq.mpr c17
            clear c17
            obtain rfl := Option.some.inj H
            obtain ⟨Ao18, co18, eo18⟩ := Kd.R_slice HO_8.out
            subst eo18
            go_wp2
            repeat (go_quiet (fail); try go_wp2)
            go_ret
            exact ⟨by first | rfl | (simp [errW_none, errW_some] <;> rfl) | (simp [*, errW_none, errW_some] <;> rfl), by repeat (first | (with_reducible first | exact HB.out | apply below_alloc | apply pw_below_drewN | apply below_drew1) | exact HB.out)⟩
          · rw [if_neg c17] at H
            have c17b0 : ((t102.length : Int) == 0) = false := beq_eq_false_iff_ne.mpr c17
            have c17b1 : ((t102.length : Int) != 0) = true := bne_iff_ne.mpr c17
            have c17b2 : ¬ (t102 = []) := fun h_ => c17 (by rw [h_]; rfl)
            obtain rfl := Option.some.inj H
            obtain ⟨Ao19, co19, eo19⟩ := Kd.R_slice HO_8.out
            subst eo19
            go_wp2
            repeat (go_quiet (fail); try go_wp2)
            go_ret
            exact ⟨by first | rfl | (simp [errW_none, errW_some] <;> rfl) | (simp [*, errW_none, errW_some] <;> rfl), by repeat (first | (with_reducible first | exact HB.out | apply below_alloc | apply pw_below_drewN | apply below_drew1) | exact HB.out)⟩
        · replace c16 := Bool.eq_false_iff.mpr c16
          subst c16
          have H1 : (antiphonlaw1_OctetOrder.l0 kj7 a0 a1 (wrap64 (1 + (Int.tmod (wrap64 (a2)) 7))) t102 t105 false 0) = some r := by rw [if_neg (show ¬ (false = true) by decide)] at H; exact H
          clear H
          have H := H1
          clear H1
          have HC20 := Aside0.mk H
          clear H
          go_upto_block 0 with (fail)
          repeat (go_quiet (fail); go_upto_block 0 with (fail))
          go_cut [10] (fun v10 wc => ∃ (kq : Nat) (x10_19 : Bool), v10 = .bool x10_19 ∧ Aside0 (antiphonlaw1_OctetOrder.j2 kq a0 a1 (wrap64 (1 + (Int.tmod (wrap64 (a2)) 7))) t102 x10_19 = some r) ∧ Aside0 (kq ≤ kj7) ∧ Aside0 (Kd.R (Kd.int .u8) 5 wc w.heap.size (fun _ => True) v103 t102) ∧ Aside0 (Below w.heap.size w wc))
          case first =>
            have H := HC20.out
            clear HC20
            have H' := Aside0.mk H
            clear H
            go_wp2
            repeat (go_quiet (fail); try go_wp2)
            go_loopg [10, 11] kj7 (fun kq v10 v11 w' => ∃ (x10_2 : Bool) (x11_2 : Int), v10 = .bool x10_2 ∧ v11 = .int .i64 x11_2 ∧ Aside0 (antiphonlaw1_OctetOrder.l0 kq a0 a1 (wrap64 (1 + (Int.tmod (wrap64 (a2)) 7))) t102 t105 x10_2 x11_2 = some r) ∧ Aside0 (kq ≤ kj7) ∧ Aside0 (Kd.R (Kd.int .u8) 5 w' w.heap.size (fun k_ => some k_ ≠ (v106 : Value).ownBlock) v103 t102) ∧ Aside0 (Kd.R (Kd.int .u8) 5 w' w.heap.size (fun k_ => some k_ ≠ (v103 : Value).ownBlock) v106 t105) ∧ Aside0 (Below w.heap.size w w'))
            case atStart => exact ⟨(false), (0), (by first | rfl | (simp; done) | (simp [*]; done)), (by first | rfl | (simp; done) | (simp [*]; done)), H', ⟨Nat.le_refl _⟩, ⟨by (with_reducible repeat (first | apply Kd.R_alloc | apply Kd.R_drewN | apply Kd.R_drew)); exact HO_8.out⟩, ⟨by (with_reducible repeat (first | apply Kd.R_alloc | apply Kd.R_drewN | apply Kd.R_drew)); exact HO_9.out⟩, ⟨by repeat (first | (with_reducible first | exact HB.out | apply below_alloc | apply pw_below_drewN | apply below_drew1) | exact HB.out)⟩⟩
            case round =>
              clear H'
              try clear c1
              try clear p2
              try clear c4
              try clear c5
              try clear p6
              try clear c12
              try clear c12b0
              try clear c12b1
              try clear c16
              try clear c17
              try clear c17b0
              try clear c17b1
              try clear c17b2
              try clear p2
              try clear p6
              obtain ⟨x10_2, x11_2, rfl, rfl, HA, HK2, HO_8, HO_9, HB⟩ := hrel
              cases gk with
              | zero => exact absurd HA.out (by simp [antiphonlaw1_OctetOrder.l0])
              | succ k2 =>
                have H := HA.out
                clear HA
                simp only [antiphonlaw1_OctetOrder.l0] at H
                by_cases c21 : x11_2 < (wrap64 (1 + (Int.tmod (wrap64 (a2)) 7)))
                · rw [if_pos c21] at H
                  have c21b0 : decide (x11_2 < (wrap64 (1 + (Int.tmod (wrap64 (a2)) 7)))) = true := decide_eq_true c21
                  clear c21
                  (first | rw [c21b0] | (simp only [i64_w, i32_w]; rw [c21b0]) | skip)
                  by_cases c22 : 0 ≤ x11_2
                  · rw [if_pos c22] at H
                    have c22b0 : decide (0 ≤ x11_2) = true := decide_eq_true c22
                    clear c22
                    by_cases c23 : x11_2 < (t102.length : Int)
                    · rw [if_pos c23] at H
                      have c23b0 : decide (x11_2 < (t102.length : Int)) = true := decide_eq_true c23
                      clear c23
                      by_cases c24 : x11_2 < (t105.length : Int)
                      · rw [if_pos c24] at H
                        have c24b0 : decide (x11_2 < (t105.length : Int)) = true := decide_eq_true c24
                        clear c24
                        by_cases c25 : (rd t102 x11_2) = (rd t105 x11_2)
                        · rw [if_pos c25] at H
                          have c25b0 : ((rd t102 x11_2) == (rd t105 x11_2)) = true := beq_iff_eq.mpr c25
                          have c25b1 : ((rd t102 x11_2) != (rd t105 x11_2)) = false := bne_eq_false_iff_eq.mpr c25
                          clear c25
                          have H' := Aside0.mk H
                          clear H
                          obtain ⟨Ao26, co26, eo26⟩ := Kd.R_slice HO_8.out
                          subst eo26
                          have p108 : 0 ≤ (x11_2 : Int) := of_decide_eq_true (by first | (with_reducible assumption) | assumption)
                          have q108 : x11_2 < (t102.length : Int) := of_decide_eq_true (by first | (with_reducible assumption) | assumption)
                          obtain ⟨ad108, e108, hx108_0⟩ := Kd.at_int (Kd.R_reads' HO_8.out).2.2 x11_2 p108 q108
                          cases e108
                          replace p108 := eq_true p108
                          replace q108 := eq_true q108
                          obtain ⟨Ao27, co27, eo27⟩ := Kd.R_slice HO_9.out
                          subst eo27
                          have p109 : 0 ≤ (x11_2 : Int) := of_decide_eq_true (by first | (with_reducible assumption) | assumption)
                          have q109 : x11_2 < (t105.length : Int) := of_decide_eq_true (by first | (with_reducible assumption) | assumption)
                          obtain ⟨ad109, e109, hx109_0⟩ := Kd.at_int (Kd.R_reads' HO_9.out).2.2 x11_2 p109 q109
                          cases e109
                          replace p109 := eq_true p109
                          replace q109 := eq_true q109
                          go_wp2
                          repeat (go_quiet (fail); try go_wp2)
                          go_roundg k2
                          case measure => have := HJ7.out; have := HK2.out; omega
                          case rel => exact ⟨(x10_2), (wrap64 (x11_2 + 1)), (by first | rfl | (simp; done) | (simp [*]; done)), (by first | rfl | (simp; done) | (simp [*]; done)), H', ⟨by have := HJ7.out; have := HK2.out; omega⟩, ⟨by (with_reducible repeat (first | apply Kd.R_alloc | apply Kd.R_drewN | apply Kd.R_drew)); exact HO_8.out⟩, ⟨by (with_reducible repeat (first | apply Kd.R_alloc | apply Kd.R_drewN | apply Kd.R_drew)); exact HO_9.out⟩, ⟨by repeat (first | (with_reducible first | exact HB.out | apply below_alloc | apply pw_below_drewN | apply below_drew1) | exact HB.out)⟩⟩
                        · rw [if_neg c25] at H
                          have c25b0 : ((rd t102 x11_2) == (rd t105 x11_2)) = false := beq_eq_false_iff_ne.mpr c25
                          have c25b1 : ((rd t102 x11_2) != (rd t105 x11_2)) = true := bne_iff_ne.mpr c25
                          have H' := Aside0.mk H
                          clear H
                          obtain ⟨Ao28, co28, eo28⟩ := Kd.R_slice HO_8.out
                          subst eo28
                          have p108 : 0 ≤ (x11_2 : Int) := of_decide_eq_true (by first | (with_reducible assumption) | assumption)
                          have q108 : x11_2 < (t102.length : Int) := of_decide_eq_true (by first | (with_reducible assumption) | assumption)
                          obtain ⟨ad108, e108, hx108_0⟩ := Kd.at_int (Kd.R_reads' HO_8.out).2.2 x11_2 p108 q108
                          cases e108
                          replace p108 := eq_true p108
                          replace q108 := eq_true q108
                          obtain ⟨Ao29, co29, eo29⟩ := Kd.R_slice HO_9.out
                          subst eo29
                          have p109 : 0 ≤ (x11_2 : Int) := of_decide_eq_true (by first | (with_reducible assumption) | assumption)
                          have q109 : x11_2 < (t105.length : Int) := of_decide_eq_true (by first | (with_reducible assumption) | assumption)
                          obtain ⟨ad109, e109, hx109_0⟩ := Kd.at_int (Kd.R_reads' HO_9.out).2.2 x11_2 p109 q109
                          cases e109
                          replace p109 := eq_true p109
                          replace q109 := eq_true q109
                          have p110 : 0 ≤ (x11_2 : Int) := of_decide_eq_true (by first | (with_reducible assumption) | assumption)
                          have q110 : x11_2 < (t102.length : Int) := of_decide_eq_true (by first | (with_reducible assumption) | assumption)
                          obtain ⟨ad110, e110, hx110_0⟩ := Kd.at_int (Kd.R_reads' HO_8.out).2.2 x11_2 p110 q110
                          obtain rfl : ad108 = ad110 := (by injection e110)
                          replace p110 := eq_true p110
                          replace q110 := eq_true q110
                          have p111 : 0 ≤ (x11_2 : Int) := of_decide_eq_true (by first | (with_reducible assumption) | assumption)
                          have q111 : x11_2 < (t105.length : Int) := of_decide_eq_true (by first | (with_reducible assumption) | assumption)
                          obtain ⟨ad111, e111, hx111_0⟩ := Kd.at_int (Kd.R_reads' HO_9.out).2.2 x11_2 p111 q111
                          obtain rfl : ad109 = ad111 := (by injection e111)
                          replace p111 := eq_true p111
                          replace q111 := eq_true q111
                          go_wp2
                          repeat (go_quiet (fail); try go_wp2)
                          go_meet
                          case rel => exact ⟨_, (decide ((rd t102 x11_2) < (rd t105 x11_2))), (by first | rfl | (simp; done) | (simp [*]; done)), H', ⟨by have := HJ7.out; have := HK2.out; first | omega | exact Nat.le_refl _⟩, ⟨by (with_reducible repeat (first | apply Kd.R_alloc | apply Kd.R_drewN | apply Kd.R_drew)); exact Kd.R_mono HO_8.out (fun _ hk => trivial)⟩, ⟨by repeat (first | (with_reducible first | exact HB.out | apply below_alloc | apply pw_below_drewN | apply below_drew1) | exact HB.out)⟩⟩
                      · rw [if_neg c24] at H
                        exact absurd H (by simp)
                    · rw [if_neg c23] at H
                      exact absurd H (by simp)
                  · rw [if_neg c22] at H
                    exact absurd H (by simp)
                · rw [if_neg c21] at H
                  have c21b0 : decide (x11_2 < (wrap64 (1 + (Int.tmod (wrap64 (a2)) 7)))) = false := decide_eq_false c21
                  clear c21
                  (first | rw [c21b0] | (simp only [i64_w, i32_w]; rw [c21b0]) | skip)
                  have H' := Aside0.mk H
                  clear H
                  go_wp2
                  repeat (go_quiet (fail); try go_wp2)
                  go_meet
                  case rel => exact ⟨_, (x10_2), (by first | rfl | (simp; done) | (simp [*]; done)), H', ⟨by have := HJ7.out; have := HK2.out; first | omega | exact Nat.le_refl _⟩, ⟨by (with_reducible repeat (first | apply Kd.R_alloc | apply Kd.R_drewN | apply Kd.R_drew)); exact Kd.R_mono HO_8.out (fun _ hk => trivial)⟩, ⟨by repeat (first | (with_reducible first | exact HB.out | apply below_alloc | apply pw_below_drewN | apply below_drew1) | exact HB.out)⟩⟩
          case rest =>
            clear HC20
            try clear c1
            try clear p1
            try clear q1
            try clear hx1
            try clear c2
            try clear p2
            try clear c4
            try clear c5
            try clear p6
            try clear p10
            try clear q10
            try clear hx10
            try clear p11
            try clear q11
            try clear hx11
            try clear c12
            try clear c12b0
            try clear c12b1
            try clear c16
            try clear c17
            try clear c17b0
            try clear c17b1
            try clear c17b2
            try clear c21
            try clear c21b0
            try clear c22
            try clear c22b0
            try clear c23
            try clear c23b0
            try clear c24
            try clear c24b0
            try clear c25
            try clear c25b0
            try clear c25b1
            try clear hx108_0
            try clear hx109_0
            try clear hx110_0
            try clear hx111_0
            try clear p108
            try clear p109
            try clear p110
            try clear p111
            try clear p2
            try clear p6
            try clear q108
            try clear q109
            try clear q110
            try clear q111
            obtain ⟨kq, x10_19, rfl, HA, HJ19, HO_8, HB⟩ := hcut
            cases kq with
            | zero => exact absurd HA.out (by simp [antiphonlaw1_OctetOrder.j2])
            | succ kj19 =>
              have H := HA.out
              clear HA
              simp only [antiphonlaw1_OctetOrder.j2] at H
              by_cases c30 : (wrap64 (1 + (Int.tmod (wrap64 (a2)) 7))) < 7
              · rw [if_pos c30] at H
                have c30b0 : decide ((wrap64 (1 + (Int.tmod (wrap64 (a2)) 7))) < 7) = true := decide_eq_true c30
                clear c30
                replace H := Option.bind_eq_some_iff.mp H
                obtain ⟨t112, A310, H⟩ := H
                replace H : (if (t112.length : Int) = (wrap64 ((wrap64 (1 + (Int.tmod (wrap64 (a2)) 7))) + 1)) then (if 0 < (t112.length : Int) then (if (rd t112 0) = 0 then (if 1 ≤ (t112.length : Int) then ((antiphonref1_Same.f kj19 (t112.drop 1) t102).bind fun t120 => (if t120 = true then (some (x10_19 == (decide (a0 < a1)))) else (none))) else (none)) else (none)) else (none)) else (none)) = some r := H
                have A31 := Aside0.mk A310
                clear A310
                by_cases c32 : (t112.length : Int) = (wrap64 ((wrap64 (1 + (Int.tmod (wrap64 (a2)) 7))) + 1))
                · rw [if_pos c32] at H
                  have c32b0 : ((t112.length : Int) == (wrap64 ((wrap64 (1 + (Int.tmod (wrap64 (a2)) 7))) + 1))) = true := beq_iff_eq.mpr c32
                  have c32b1 : ((t112.length : Int) != (wrap64 ((wrap64 (1 + (Int.tmod (wrap64 (a2)) 7))) + 1))) = false := bne_eq_false_iff_eq.mpr c32
                  clear c32
                  by_cases c33 : 0 < (t112.length : Int)
                  · rw [if_pos c33] at H
                    have c33b0 : decide (0 < (t112.length : Int)) = true := decide_eq_true c33
                    have c33b1 : decide (0 < t112.length) = true := decide_eq_true (by omega)
                    clear c33
                    by_cases c34 : (rd t112 0) = 0
                    · rw [if_pos c34] at H
                      have c34b0 : ((rd t112 0) == 0) = true := beq_iff_eq.mpr c34
                      have c34b1 : ((rd t112 0) != 0) = false := bne_eq_false_iff_eq.mpr c34
                      clear c34
                      by_cases c35 : 1 ≤ (t112.length : Int)
                      · rw [if_pos c35] at H
                        have c35b0 := eq_true c35
                        have c35b1 : decide (1 ≤ (t112.length : Int)) = true := decide_eq_true c35
                        clear c35
                        obtain ⟨y116, hy116⟩ : ∃ y_ : List Int, y_ = (t112.drop 1) := ⟨_, rfl⟩
                        replace H : ((antiphonref1_Same.f kj19 y116 t102).bind fun t120 => (if t120 = true then (some (x10_19 == (decide (a0 < a1)))) else (none))) = some r := by first | (rw [hy116]; with_reducible exact H) | (have H2_ := (Option.bind_some _ _).symm.trans H; rw [hy116]; with_reducible exact H2_) | (have H2_ := (Option.bind_some _ _).symm.trans H; with_reducible exact H2_) | with_reducible exact H | (rw [hy116]; exact H) | exact H
                        have Ny116 := Aside0.mk hy116
                        clear hy116
                        replace H := Option.bind_eq_some_iff.mp H
                        obtain ⟨t120, A360, H⟩ := H
                        replace H : (if t120 = true then (some (x10_19 == (decide (a0 < a1)))) else (none)) = some r := H
                        have A36 := Aside0.mk A360
                        clear A360
                        by_cases c37 : t120 = true
                        · subst c37
                          have H1 : (some (x10_19 == (decide (a0 < a1)))) = some r := by rw [if_pos rfl] at H; exact H
                          clear H
                          have H := H1
                          clear H1
                          obtain rfl := Option.some.inj H
                          go_wp2_with (first | (go_at_call 11; (with_reducible refine (octet_Put.calls kj19 a0 (wrap64 ((wrap64 (1 + (Int.tmod (wrap64 (a2)) 7))) + 1)) t112 _ A31.out).mono ?_); rintro e w38 ⟨v113, rfl, ho0, hb⟩; have n0_ := Aside0.mk (Kd.R_elder' (by (with_reducible repeat (first | apply Kd.R_alloc | apply Kd.R_drewN | apply Kd.R_drew)); exact HO_8.out) (Kd.R_base ho0) hb); have n1_ := Aside0.mk (Kd.R_lower (Kd.R_new' ho0 (Kd.R_lt (by (with_reducible repeat (first | apply Kd.R_alloc | apply Kd.R_drewN | apply Kd.R_drew)); exact HO_8.out))) (below_size (by repeat (first | (with_reducible first | exact HB.out | apply below_alloc | apply pw_below_drewN | apply below_drew1) | exact HB.out)))); have n2_ := Aside0.mk (below_step (by repeat (first | (with_reducible first | exact HB.out | apply below_alloc | apply pw_below_drewN | apply below_drew1) | exact HB.out)) hb); clear HO_8; clear HB; have HO_8 := n0_; have HO114 := n1_; have HB := n2_; clear n0_ n1_ n2_; (try clear hb); (try clear hb2); (try clear hk); (try clear hi); (try clear ho0); obtain ⟨Ao39, co39, eo39⟩ := Kd.R_slice HO114.out; subst eo39; have p115 : 0 ≤ (0 : Int) := (by omega); have q115 : 0 < (t112.length : Int) := of_decide_eq_true (by first | (with_reducible assumption) | assumption); obtain ⟨ad115, e115, hx115_0⟩ := Kd.at_int (Kd.R_reads' HO114.out).2.2 0 p115 q115; cases e115; have qi115 : (0 < t112.length) = True := eq_true (by omega); (try rw [show ((0 : Int)).toNat = 0 from rfl] at hx115_0); (try rw [Addr.add_zero'] at hx115_0); replace p115 := eq_true p115; replace q115 := eq_true q115; have q40 : (1 : Int) ≤ ((t112.length : Int) : Int) := of_decide_eq_true (by first | (with_reducible assumption) | assumption); obtain ⟨i040, hi040, _, hsz40, _⟩ := info_parts info5; have hroom40 : t112.length ≤ co39 := (Kd.R_reads' HO114.out).2.1; have hC40 : Kd.C (Kd.int .u8) _ (some ad115) t112.length t112 := (Kd.R_reads' HO114.out).2.2; have hcut40 := cut_from (P := Try.prog) 22 5 .i64 Try.underlying22 hi040 1 hsz40 (some ad115) t112.length co39 1 (by omega) q40; have hr40 := Kd.C_drop (m := (1 : Int).toNat) (c := co39) hC40 (by omega) hroom40; obtain ⟨A40, hA40⟩ : ∃ A1, A1 = (if co39 = (1 : Int).toNat then (some ad115) else ((some ad115) : Option Addr).map (·.add ((1 : Int).toNat * 1))) := ⟨_, rfl⟩; obtain ⟨c40, hc40⟩ : ∃ c1, c1 = co39 - (1 : Int).toNat := ⟨_, rfl⟩; have hy40 : y116.length = t112.length - (1 : Int).toNat := (by rw [Ny116.out, List.length_drop] <;> omega); rw [show (t112).drop (1 : Int).toNat = y116 from Ny116.out.symm] at hr40; replace hr40 : Kd.C (Kd.int .u8) _ A40 y116.length y116 := (by rw [hA40]; exact hr40); rw [← hy40, ← hA40, ← hc40] at hcut40; have HR119 := Aside0.mk hr40; have HC119 := Aside0.mk (show y116.length ≤ c40 from by rw [hy40, hc40]; exact Nat.sub_le_sub_right hroom40 _); clear hr40 hC40 hroom40 hi040 hsz40 hc40; have KY40 := Aside0.mk hy40; have KA40 := Aside0.mk hA40; clear hy40 hA40; have KL40 := Aside0.mk (show 1 ≤ t112.length from by omega); replace q40 := eq_true q40; obtain ⟨Ao41, co41, eo41⟩ := Kd.R_slice HO_8.out; subst eo41) | (go_at_call 12; (with_reducible refine (antiphonref1_Same.calls kj19 _ _ y116 _ _ t102 true _ ?side1 ?side2 ?side3 ?side4 A36.out).mono ?_); (case side1 => repeat (first | exact (by repeat (first | (with_reducible exact HR119.out) | (with_reducible refine Kd.C_alloc ?_ _) | (with_reducible refine Kd.C_drewN ?_ _) | (with_reducible refine Kd.C_drew ?_) | exact HR119.out)) | (with_reducible refine Kd.C_alloc ?_ _) | (with_reducible refine Kd.C_drewN ?_ _) | (with_reducible refine Kd.C_drew ?_))); (case side2 => exact HC119.out); (case side3 => repeat (first | exact (Kd.R_reads' HO_8.out).2.2 | (with_reducible refine Kd.C_alloc ?_ _) | (with_reducible refine Kd.C_drewN ?_ _) | (with_reducible refine Kd.C_drew ?_))); (case side4 => exact (Kd.R_reads' HO_8.out).2.1); rintro e w' ⟨rfl, ⟨nd, rfl⟩⟩; (try first | exact ⟨rfl, _, World.drewN_drewN _ _ _⟩ | exact ⟨rfl, _, Eq.trans (World.drewN_drewN _ _ _) (congrArg (World.drewN _) (Nat.add_assoc _ _ _))⟩)))
                          repeat (go_quiet (first | (go_at_call 11; (with_reducible refine (octet_Put.calls kj19 a0 (wrap64 ((wrap64 (1 + (Int.tmod (wrap64 (a2)) 7))) + 1)) t112 _ A31.out).mono ?_); rintro e w38 ⟨v113, rfl, ho0, hb⟩; have n0_ := Aside0.mk (Kd.R_elder' (by (with_reducible repeat (first | apply Kd.R_alloc | apply Kd.R_drewN | apply Kd.R_drew)); exact HO_8.out) (Kd.R_base ho0) hb); have n1_ := Aside0.mk (Kd.R_lower (Kd.R_new' ho0 (Kd.R_lt (by (with_reducible repeat (first | apply Kd.R_alloc | apply Kd.R_drewN | apply Kd.R_drew)); exact HO_8.out))) (below_size (by repeat (first | (with_reducible first | exact HB.out | apply below_alloc | apply pw_below_drewN | apply below_drew1) | exact HB.out)))); have n2_ := Aside0.mk (below_step (by repeat (first | (with_reducible first | exact HB.out | apply below_alloc | apply pw_below_drewN | apply below_drew1) | exact HB.out)) hb); clear HO_8; clear HB; have HO_8 := n0_; have HO114 := n1_; have HB := n2_; clear n0_ n1_ n2_; (try clear hb); (try clear hb2); (try clear hk); (try clear hi); (try clear ho0); obtain ⟨Ao39, co39, eo39⟩ := Kd.R_slice HO114.out; subst eo39; have p115 : 0 ≤ (0 : Int) := (by omega); have q115 : 0 < (t112.length : Int) := of_decide_eq_true (by first | (with_reducible assumption) | assumption); obtain ⟨ad115, e115, hx115_0⟩ := Kd.at_int (Kd.R_reads' HO114.out).2.2 0 p115 q115; cases e115; have qi115 : (0 < t112.length) = True := eq_true (by omega); (try rw [show ((0 : Int)).toNat = 0 from rfl] at hx115_0); (try rw [Addr.add_zero'] at hx115_0); replace p115 := eq_true p115; replace q115 := eq_true q115; have q40 : (1 : Int) ≤ ((t112.length : Int) : Int) := of_decide_eq_true (by first | (with_reducible assumption) | assumption); obtain ⟨i040, hi040, _, hsz40, _⟩ := info_parts info5; have hroom40 : t112.length ≤ co39 := (Kd.R_reads' HO114.out).2.1; have hC40 : Kd.C (Kd.int .u8) _ (some ad115) t112.length t112 := (Kd.R_reads' HO114.out).2.2; have hcut40 := cut_from (P := Try.prog) 22 5 .i64 Try.underlying22 hi040 1 hsz40 (some ad115) t112.length co39 1 (by omega) q40; have hr40 := Kd.C_drop (m := (1 : Int).toNat) (c := co39) hC40 (by omega) hroom40; obtain ⟨A40, hA40⟩ : ∃ A1, A1 = (if co39 = (1 : Int).toNat then (some ad115) else ((some ad115) : Option Addr).map (·.add ((1 : Int).toNat * 1))) := ⟨_, rfl⟩; obtain ⟨c40, hc40⟩ : ∃ c1, c1 = co39 - (1 : Int).toNat := ⟨_, rfl⟩; have hy40 : y116.length = t112.length - (1 : Int).toNat := (by rw [Ny116.out, List.length_drop] <;> omega); rw [show (t112).drop (1 : Int).toNat = y116 from Ny116.out.symm] at hr40; replace hr40 : Kd.C (Kd.int .u8) _ A40 y116.length y116 := (by rw [hA40]; exact hr40); rw [← hy40, ← hA40, ← hc40] at hcut40; have HR119 := Aside0.mk hr40; have HC119 := Aside0.mk (show y116.length ≤ c40 from by rw [hy40, hc40]; exact Nat.sub_le_sub_right hroom40 _); clear hr40 hC40 hroom40 hi040 hsz40 hc40; have KY40 := Aside0.mk hy40; have KA40 := Aside0.mk hA40; clear hy40 hA40; have KL40 := Aside0.mk (show 1 ≤ t112.length from by omega); replace q40 := eq_true q40; obtain ⟨Ao41, co41, eo41⟩ := Kd.R_slice HO_8.out; subst eo41) | (go_at_call 12; (with_reducible refine (antiphonref1_Same.calls kj19 _ _ y116 _ _ t102 true _ ?side1 ?side2 ?side3 ?side4 A36.out).mono ?_); (case side1 => repeat (first | exact (by repeat (first | (with_reducible exact HR119.out) | (with_reducible refine Kd.C_alloc ?_ _) | (with_reducible refine Kd.C_drewN ?_ _) | (with_reducible refine Kd.C_drew ?_) | exact HR119.out)) | (with_reducible refine Kd.C_alloc ?_ _) | (with_reducible refine Kd.C_drewN ?_ _) | (with_reducible refine Kd.C_drew ?_))); (case side2 => exact HC119.out); (case side3 => repeat (first | exact (Kd.R_reads' HO_8.out).2.2 | (with_reducible refine Kd.C_alloc ?_ _) | (with_reducible refine Kd.C_drewN ?_ _) | (with_reducible refine Kd.C_drew ?_))); (case side4 => exact (Kd.R_reads' HO_8.out).2.1); rintro e w' ⟨rfl, ⟨nd, rfl⟩⟩; (try first | exact ⟨rfl, _, World.drewN_drewN _ _ _⟩ | exact ⟨rfl, _, Eq.trans (World.drewN_drewN _ _ _) (congrArg (World.drewN _) (Nat.add_assoc _ _ _))⟩))); try go_wp2_with (first | (go_at_call 11; (with_reducible refine (octet_Put.calls kj19 a0 (wrap64 ((wrap64 (1 + (Int.tmod (wrap64 (a2)) 7))) + 1)) t112 _ A31.out).mono ?_); rintro e w38 ⟨v113, rfl, ho0, hb⟩; have n0_ := Aside0.mk (Kd.R_elder' (by (with_reducible repeat (first | apply Kd.R_alloc | apply Kd.R_drewN | apply Kd.R_drew)); exact HO_8.out) (Kd.R_base ho0) hb); have n1_ := Aside0.mk (Kd.R_lower (Kd.R_new' ho0 (Kd.R_lt (by (with_reducible repeat (first | apply Kd.R_alloc | apply Kd.R_drewN | apply Kd.R_drew)); exact HO_8.out))) (below_size (by repeat (first | (with_reducible first | exact HB.out | apply below_alloc | apply pw_below_drewN | apply below_drew1) | exact HB.out)))); have n2_ := Aside0.mk (below_step (by repeat (first | (with_reducible first | exact HB.out | apply below_alloc | apply pw_below_drewN | apply below_drew1) | exact HB.out)) hb); clear HO_8; clear HB; have HO_8 := n0_; have HO114 := n1_; have HB := n2_; clear n0_ n1_ n2_; (try clear hb); (try clear hb2); (try clear hk); (try clear hi); (try clear ho0); obtain ⟨Ao39, co39, eo39⟩ := Kd.R_slice HO114.out; subst eo39; have p115 : 0 ≤ (0 : Int) := (by omega); have q115 : 0 < (t112.length : Int) := of_decide_eq_true (by first | (with_reducible assumption) | assumption); obtain ⟨ad115, e115, hx115_0⟩ := Kd.at_int (Kd.R_reads' HO114.out).2.2 0 p115 q115; cases e115; have qi115 : (0 < t112.length) = True := eq_true (by omega); (try rw [show ((0 : Int)).toNat = 0 from rfl] at hx115_0); (try rw [Addr.add_zero'] at hx115_0); replace p115 := eq_true p115; replace q115 := eq_true q115; have q40 : (1 : Int) ≤ ((t112.length : Int) : Int) := of_decide_eq_true (by first | (with_reducible assumption) | assumption); obtain ⟨i040, hi040, _, hsz40, _⟩ := info_parts info5; have hroom40 : t112.length ≤ co39 := (Kd.R_reads' HO114.out).2.1; have hC40 : Kd.C (Kd.int .u8) _ (some ad115) t112.length t112 := (Kd.R_reads' HO114.out).2.2; have hcut40 := cut_from (P := Try.prog) 22 5 .i64 Try.underlying22 hi040 1 hsz40 (some ad115) t112.length co39 1 (by omega) q40; have hr40 := Kd.C_drop (m := (1 : Int).toNat) (c := co39) hC40 (by omega) hroom40; obtain ⟨A40, hA40⟩ : ∃ A1, A1 = (if co39 = (1 : Int).toNat then (some ad115) else ((some ad115) : Option Addr).map (·.add ((1 : Int).toNat * 1))) := ⟨_, rfl⟩; obtain ⟨c40, hc40⟩ : ∃ c1, c1 = co39 - (1 : Int).toNat := ⟨_, rfl⟩; have hy40 : y116.length = t112.length - (1 : Int).toNat := (by rw [Ny116.out, List.length_drop] <;> omega); rw [show (t112).drop (1 : Int).toNat = y116 from Ny116.out.symm] at hr40; replace hr40 : Kd.C (Kd.int .u8) _ A40 y116.length y116 := (by rw [hA40]; exact hr40); rw [← hy40, ← hA40, ← hc40] at hcut40; have HR119 := Aside0.mk hr40; have HC119 := Aside0.mk (show y116.length ≤ c40 from by rw [hy40, hc40]; exact Nat.sub_le_sub_right hroom40 _); clear hr40 hC40 hroom40 hi040 hsz40 hc40; have KY40 := Aside0.mk hy40; have KA40 := Aside0.mk hA40; clear hy40 hA40; have KL40 := Aside0.mk (show 1 ≤ t112.length from by omega); replace q40 := eq_true q40; obtain ⟨Ao41, co41, eo41⟩ := Kd.R_slice HO_8.out; subst eo41) | (go_at_call 12; (with_reducible refine (antiphonref1_Same.calls kj19 _ _ y116 _ _ t102 true _ ?side1 ?side2 ?side3 ?side4 A36.out).mono ?_); (case side1 => repeat (first | exact (by repeat (first | (with_reducible exact HR119.out) | (with_reducible refine Kd.C_alloc ?_ _) | (with_reducible refine Kd.C_drewN ?_ _) | (with_reducible refine Kd.C_drew ?_) | exact HR119.out)) | (with_reducible refine Kd.C_alloc ?_ _) | (with_reducible refine Kd.C_drewN ?_ _) | (with_reducible refine Kd.C_drew ?_))); (case side2 => exact HC119.out); (case side3 => repeat (first | exact (Kd.R_reads' HO_8.out).2.2 | (with_reducible refine Kd.C_alloc ?_ _) | (with_reducible refine Kd.C_drewN ?_ _) | (with_reducible refine Kd.C_drew ?_))); (case side4 => exact (Kd.R_reads' HO_8.out).2.1); rintro e w' ⟨rfl, ⟨nd, rfl⟩⟩; (try first | exact ⟨rfl, _, World.drewN_drewN _ _ _⟩ | exact ⟨rfl, _, Eq.trans (World.drewN_drewN _ _ _) (congrArg (World.drewN _) (Nat.add_assoc _ _ _))⟩))))
                          go_ret
                          exact ⟨by first | rfl | (simp [errW_none, errW_some] <;> rfl) | (simp [*, errW_none, errW_some] <;> rfl), by repeat (first | (with_reducible first | exact HB.out | apply below_alloc | apply pw_below_drewN | apply below_drew1) | exact HB.out)⟩
                        · replace c37 := Bool.eq_false_iff.mpr c37
                          subst c37
                          have H1 : (none) = some r := by rw [if_neg (show ¬ (false = true) by decide)] at H; exact H
                          clear H
                          have H := H1
                          clear H1
                          exact absurd H (by simp)
                      · rw [if_neg c35] at H
                        exact absurd H (by simp)
                    · rw [if_neg c34] at H
                      exact absurd H (by simp)
                  · rw [if_neg c33] at H
                    exact absurd H (by simp)
                · rw [if_neg c32] at H
                  exact absurd H (by simp)
              · rw [if_neg c30] at H
                have c30b0 : decide ((wrap64 (1 + (Int.tmod (wrap64 (a2)) 7))) < 7) = false := decide_eq_false c30
                clear c30
                obtain rfl := Option.some.inj H
                go_wp2
                repeat (go_quiet (fail); try go_wp2)
                go_ret
                exact ⟨by first | rfl | (simp [errW_none, errW_some] <;> rfl) | (simp [*, errW_none, errW_some] <;> rfl), by repeat (first | (with_reducible first | exact HB.out | apply below_alloc | apply pw_below_drewN | apply below_drew1) | exact HB.out)⟩
  · replace c5 := Bool.eq_false_iff.mpr c5
    subst c5
    have H1 : (none) = some r := by rw [if_neg (show ¬ (false = true) by decide)] at H; exact H
    clear H
    have H := H1
    clear H1
    exact absurd H (by simp)

/-- THE ONE PURE STATEMENT of antiphonlaw1_OctetOrder: yours. -/
def antiphonlaw1_OctetOrder.Pure : Prop := ∀ (a0 : Int) (a1 : Int) (a2 : Int), (Lit.int .i64 a0).wf = true → (Lit.int .i64 a1).wf = true → (Lit.int .u8 a2).wf = true → ∃ k, antiphonlaw1_OctetOrder.f k a0 a1 a2 = some true
theorem antiphonlaw1_OctetOrder.walk (P : antiphonlaw1_OctetOrder.Pure) (a0 : Int) (a1 : Int) (a2 : Int) (w : World) (w0 : (Lit.int .i64 a0).wf = true) (w1 : (Lit.int .i64 a1).wf = true) (w2 : (Lit.int .u8 a2).wf = true) :
    Calls Try.prog 4 #[.int .i64 a0, .int .i64 a1, .int .u8 a2] w fun e w' => e = .returned (.bool true) ∧ Below w.heap.size w w' := by
  obtain ⟨k, h⟩ := P a0 a1 a2 w0 w1 w2
  refine (antiphonlaw1_OctetOrder.calls k a0 a1 a2 true w h).mono ?_
  rintro e w' ⟨rfl, hd⟩
  exact ⟨rfl, hd⟩

end Go.Proofs.Ytngahjgbeekldaa.P
