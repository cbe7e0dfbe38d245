/- Any class, any status, any number: their bytes, or what may not be, and back; any bytes: what they are, or what is wrong. -/
-- Put together by wip/print2/mergelaw.py: printed words (what this claim does not use is left out), printed functions, texts of this session.
import Derived.Test.YtnmcoebjkfpmjaaMFieldClasses2
/-! Px12 -/
namespace Go.Proofs.Ytnmcoebjkfpmjaa.P
open Go.RowKit Go.Proofs.YtnmcoebjkfpmjaaW.PrintWords Go.Proofs.YtnmcoebjkfpmjaaW.PrintLast Go.Proofs.YtnmcoebjkfpmjaaW.PrintMore
attribute [local go_sem] max2_int min2_int max_two min_two max_three min_three max_four min_four   -- for this text's walks alone
set_option linter.unusedVariables false
set_option linter.unusedSimpArgs false
mutual
def antiphonlaw7_FieldClasses.j0 : Nat → Int → List Int → Bool → Option (Bool)
  | 0, _, _, _ => none
  | k + 1, x1, x2, x94 => if x94 = true then (none) else ((field_PutStatus.f x1 x2).bind fun bt122 => ((antiphonref6_PutStatus.f x1 x2).bind fun bt126 => ((field_GetStatus.f x2).bind fun bt130 => ((antiphonref6_GetStatus.f k x2).bind fun bt135 => (if bt122.2 = bt126.2 then ((antiphonref1_Same.f k bt122.1 bt126.1).bind fun t140 => (if t140 = true then (if bt130.1 = bt135.1 then ((antiphonref1_Same.f k bt130.2.1 bt135.2.1).bind fun t141 => (if t141 = true then (antiphonlaw7_FieldClasses.j1 k x1 x2 (bt130.2.2 != bt135.2.2)) else (antiphonlaw7_FieldClasses.j1 k x1 x2 true))) else (antiphonlaw7_FieldClasses.j1 k x1 x2 true)) else (antiphonlaw7_FieldClasses.j1 k x1 x2 true))) else (antiphonlaw7_FieldClasses.j1 k x1 x2 true))))))
def antiphonlaw7_FieldClasses.j1 : Nat → Int → List Int → Bool → Option (Bool)
  | 0, _, _, _ => none
  | k + 1, x1, x2, x143 => if x143 = true then (none) else ((field_ReadNumber.f k x2).bind fun bt142 => ((antiphonref6_ReadNumber.f k x2).bind fun bt144 => (if bt142.1 = bt144.1 then (if (bt142.2 == bt144.2) = true then ((field_Number.f k x1).bind fun t146 => ((antiphonref6_Number.f k x1).bind fun t149 => ((antiphonref1_Same.f k t146 t149).bind fun t152 => (some t152)))) else (none)) else (none))))
end
def antiphonlaw7_FieldClasses.f (k : Nat) (a0_0 : Int) (a0_1 : Int) (a0_2 : Int) (a1 : Int) (l2 : List Int) : Option (Bool) := (antiphonlaw7_awake.f k).bind fun t102 => (if t102 = true then (if (l2.length : Int) > 100 then (some true) else ((field_PutClass.f a0_0 a0_1 a0_2).bind fun bt103 => ((antiphonref6_PutClass.f a0_0 a0_1 a0_2).bind fun bt107 => ((field_GetClass.f k l2).bind fun bt111 => ((antiphonref6_GetClass.f l2).bind fun bt116 => (if bt103.2 = bt107.2 then ((antiphonref1_Same.f k bt103.1 bt107.1).bind fun t121 => (if t121 = true then (if bt111.2.2.2 = bt116.2.2.2 then (if bt111.1 = bt116.1 then (if bt111.2.1 = bt116.2.1 then (antiphonlaw7_FieldClasses.j0 k a1 l2 (bt111.2.2.1 != bt116.2.2.1)) else (antiphonlaw7_FieldClasses.j0 k a1 l2 true)) else (antiphonlaw7_FieldClasses.j0 k a1 l2 true)) else (antiphonlaw7_FieldClasses.j0 k a1 l2 true)) else (antiphonlaw7_FieldClasses.j0 k a1 l2 true))) else (antiphonlaw7_FieldClasses.j0 k a1 l2 true))))))) else (none))
set_option maxHeartbeats 8000000 in
set_option maxRecDepth 100000 in
theorem antiphonlaw7_FieldClasses.calls (k : Nat) (a0_0 : Int) (a0_1 : Int) (a0_2 : Int) (a1 : Int) (A2 : Option Addr) (c2 : Nat) (l2 : List Int) (r : Bool) (w : World) (hr2 : Kd.C (Kd.int .u8) w A2 l2.length l2) (hc2 : l2.length ≤ c2) (h : antiphonlaw7_FieldClasses.f k a0_0 a0_1 a0_2 a1 l2 = some r) :
    Calls Try.prog 11 #[.agg #[.int .i64 a0_0, .int .i64 a0_1, .int .i64 a0_2], .int .i64 a1, .slice A2 l2.length c2] w fun e w' => e = .returned (.bool r) ∧ Below w.heap.size w w' := by
  have hu56 := Try.underlying56
  have hu46 := Try.underlying46
  have HR2 := Aside0.mk hr2
  have HC2 := Aside0.mk hc2
  clear hr2 hc2
  have HB := Aside0.mk (Below.refl w.heap.size w)
  have H : ((antiphonlaw7_awake.f k).bind fun t102 => (if t102 = true then (if (l2.length : Int) > 100 then (some true) else ((field_PutClass.f a0_0 a0_1 a0_2).bind fun bt103 => ((antiphonref6_PutClass.f a0_0 a0_1 a0_2).bind fun bt107 => ((field_GetClass.f k l2).bind fun bt111 => ((antiphonref6_GetClass.f l2).bind fun bt116 => (if bt103.2 = bt107.2 then ((antiphonref1_Same.f k bt103.1 bt107.1).bind fun t121 => (if t121 = true then (if bt111.2.2.2 = bt116.2.2.2 then (if bt111.1 = bt116.1 then (if bt111.2.1 = bt116.2.1 then (antiphonlaw7_FieldClasses.j0 k a1 l2 (bt111.2.2.1 != bt116.2.2.1)) else (antiphonlaw7_FieldClasses.j0 k a1 l2 true)) else (antiphonlaw7_FieldClasses.j0 k a1 l2 true)) else (antiphonlaw7_FieldClasses.j0 k a1 l2 true)) else (antiphonlaw7_FieldClasses.j0 k a1 l2 true))) else (antiphonlaw7_FieldClasses.j0 k a1 l2 true))))))) else (none))) = some r := h
  clear h
  replace H := Option.bind_eq_some_iff.mp H
  obtain ⟨t102, A40, H⟩ := H
  replace H : (if t102 = true then (if (l2.length : Int) > 100 then (some true) else ((field_PutClass.f a0_0 a0_1 a0_2).bind fun bt103 => ((antiphonref6_PutClass.f a0_0 a0_1 a0_2).bind fun bt107 => ((field_GetClass.f k l2).bind fun bt111 => ((antiphonref6_GetClass.f l2).bind fun bt116 => (if bt103.2 = bt107.2 then ((antiphonref1_Same.f k bt103.1 bt107.1).bind fun t121 => (if t121 = true then (if bt111.2.2.2 = bt116.2.2.2 then (if bt111.1 = bt116.1 then (if bt111.2.1 = bt116.2.1 then (antiphonlaw7_FieldClasses.j0 k a1 l2 (bt111.2.2.1 != bt116.2.2.1)) else (antiphonlaw7_FieldClasses.j0 k a1 l2 true)) else (antiphonlaw7_FieldClasses.j0 k a1 l2 true)) else (antiphonlaw7_FieldClasses.j0 k a1 l2 true)) else (antiphonlaw7_FieldClasses.j0 k a1 l2 true))) else (antiphonlaw7_FieldClasses.j0 k a1 l2 true))))))) else (none)) = some r := H
  have A4 := Aside0.mk A40
  clear A40
  by_cases c5 : t102 = true
  · subst c5
    have H1 : (if (l2.length : Int) > 100 then (some true) else ((field_PutClass.f a0_0 a0_1 a0_2).bind fun bt103 => ((antiphonref6_PutClass.f a0_0 a0_1 a0_2).bind fun bt107 => ((field_GetClass.f k l2).bind fun bt111 => ((antiphonref6_GetClass.f l2).bind fun bt116 => (if bt103.2 = bt107.2 then ((antiphonref1_Same.f k bt103.1 bt107.1).bind fun t121 => (if t121 = true then (if bt111.2.2.2 = bt116.2.2.2 then (if bt111.1 = bt116.1 then (if bt111.2.1 = bt116.2.1 then (antiphonlaw7_FieldClasses.j0 k a1 l2 (bt111.2.2.1 != bt116.2.2.1)) else (antiphonlaw7_FieldClasses.j0 k a1 l2 true)) else (antiphonlaw7_FieldClasses.j0 k a1 l2 true)) else (antiphonlaw7_FieldClasses.j0 k a1 l2 true)) else (antiphonlaw7_FieldClasses.j0 k a1 l2 true))) else (antiphonlaw7_FieldClasses.j0 k a1 l2 true))))))) = some r := by rw [if_pos rfl] at H; exact H
    clear H
    have H := H1
    clear H1
    by_cases c6 : (l2.length : Int) > 100
    · rw [if_pos c6] at H
      have c6b0 : decide (100 < (l2.length : Int)) = true := decide_eq_true c6
      have c6b1 : decide (100 < l2.length) = true := decide_eq_true (by omega)
      clear c6
      obtain rfl := Option.some.inj H
      go_enter Try.func11, Try.ntmps11
      go_wp2_with (first | ((with_reducible refine gate_dst (N := 3) rfl ?_); refine box_event ?hg (N := 3) ?hd (cs := #[.int .i64 a0_0, .int .i64 a0_1, .int .i64 a0_2]) (t := 56) ?hr ?_; (case hd => rfl); (case hg => rfl); (case hr => first | (go_simp; done) | (go_simp; rfl)); intro gb101 hg w7 hbox hb; have n0_ := Aside0.mk (below_step (by repeat (first | (with_reducible first | exact HB.out | apply below_alloc | apply pw_below_drewN | apply below_drew1) | exact HB.out)) hb); have n1_ := Aside0.mk (hbox); have n2_ := Aside0.mk ((by rw [hg]; exact (below_size (by repeat (first | (with_reducible first | exact HB.out | apply below_alloc | apply pw_below_drewN | apply below_drew1) | exact HB.out))) : w.heap.size ≤ gb101)); have n3_ := Aside0.mk ((by rw [hg]; exact (below_size (by repeat (first | (with_reducible first | exact HB.out | apply below_alloc | apply pw_below_drewN | apply below_drew1) | exact HB.out))) : w.heap.size ≤ gb101)); clear HB; have HB := n0_; have BK101 := n1_; have GW101 := n2_; have GE101 := n3_; clear n0_ n1_ n2_ n3_; clear hb hbox hg) | ((with_reducible refine gate_callee (f := 40) rfl ?_); refine goesL_ (some 29) rfl rfl Try.func40 (by kernel_rfl) rfl #[] rfl (by (try simp only [List.map_toArray, List.map_cons, List.map_nil]); first | done | rfl | (simp only [List.length_drop, List.length_take]; rfl)) ?_; (with_reducible refine (antiphonlaw7_awake.calls k  true _ A4.out).mono ?_); rintro e w8 ⟨rfl, hb⟩; refine ⟨_, rfl, ?_⟩; have n0_ := Aside0.mk (blk_below (g := gb101) (o := .cells #[.int .i64 a0_0, .int .i64 a0_1, .int .i64 a0_2] 56 (0, 0)) (by (with_reducible repeat (first | refine blk_drewN ?_ _ | refine blk_drew ?_ | refine blk_alloc ?_ _)); exact BK101.out) hb); have n1_ := Aside0.mk (below_step (by repeat (first | (with_reducible first | exact HB.out | apply below_alloc | apply pw_below_drewN | apply below_drew1 | refine below_set ?_ GE101.out) | exact HB.out)) hb); clear BK101; clear HB; have BK101 := n0_; have HB := n1_; clear n0_ n1_; (try clear hb); (try clear hb2); (try clear hk); (try clear hi)))
      go_ret
      exact ⟨by first | rfl | (simp [errW_none, errW_some] <;> rfl) | (simp [*, errW_none, errW_some] <;> rfl), by repeat (first | (with_reducible first | exact HB.out | apply below_alloc | apply pw_below_drewN | apply below_drew1 | refine below_set ?_ GE101.out) | exact HB.out)⟩
    · rw [if_neg c6] at H
      have c6b0 : decide (100 < (l2.length : Int)) = false := decide_eq_false c6
      have c6b1 : decide (100 < l2.length) = false := decide_eq_false (by omega)
      clear c6
      replace H := Option.bind_eq_some_iff.mp H
      obtain ⟨⟨t103, t106⟩, A90, H⟩ := H
      replace H : ((antiphonref6_PutClass.f a0_0 a0_1 a0_2).bind fun bt107 => ((field_GetClass.f k l2).bind fun bt111 => ((antiphonref6_GetClass.f l2).bind fun bt116 => (if t106 = bt107.2 then ((antiphonref1_Same.f k t103 bt107.1).bind fun t121 => (if t121 = true then (if bt111.2.2.2 = bt116.2.2.2 then (if bt111.1 = bt116.1 then (if bt111.2.1 = bt116.2.1 then (antiphonlaw7_FieldClasses.j0 k a1 l2 (bt111.2.2.1 != bt116.2.2.1)) else (antiphonlaw7_FieldClasses.j0 k a1 l2 true)) else (antiphonlaw7_FieldClasses.j0 k a1 l2 true)) else (antiphonlaw7_FieldClasses.j0 k a1 l2 true)) else (antiphonlaw7_FieldClasses.j0 k a1 l2 true))) else (antiphonlaw7_FieldClasses.j0 k a1 l2 true))))) = some r := H
      have A9 := Aside0.mk A90
      clear A90
      replace H := Option.bind_eq_some_iff.mp H
      obtain ⟨⟨t107, t110⟩, A100, H⟩ := H
      replace H : ((field_GetClass.f k l2).bind fun bt111 => ((antiphonref6_GetClass.f l2).bind fun bt116 => (if t106 = t110 then ((antiphonref1_Same.f k t103 t107).bind fun t121 => (if t121 = true then (if bt111.2.2.2 = bt116.2.2.2 then (if bt111.1 = bt116.1 then (if bt111.2.1 = bt116.2.1 then (antiphonlaw7_FieldClasses.j0 k a1 l2 (bt111.2.2.1 != bt116.2.2.1)) else (antiphonlaw7_FieldClasses.j0 k a1 l2 true)) else (antiphonlaw7_FieldClasses.j0 k a1 l2 true)) else (antiphonlaw7_FieldClasses.j0 k a1 l2 true)) else (antiphonlaw7_FieldClasses.j0 k a1 l2 true))) else (antiphonlaw7_FieldClasses.j0 k a1 l2 true)))) = some r := H
      have A10 := Aside0.mk A100
      clear A100
      replace H := Option.bind_eq_some_iff.mp H
      obtain ⟨⟨t111, t112, t113, t114⟩, A110, H⟩ := H
      replace H : ((antiphonref6_GetClass.f l2).bind fun bt116 => (if t106 = t110 then ((antiphonref1_Same.f k t103 t107).bind fun t121 => (if t121 = true then (if t114 = bt116.2.2.2 then (if t111 = bt116.1 then (if t112 = bt116.2.1 then (antiphonlaw7_FieldClasses.j0 k a1 l2 (t113 != bt116.2.2.1)) else (antiphonlaw7_FieldClasses.j0 k a1 l2 true)) else (antiphonlaw7_FieldClasses.j0 k a1 l2 true)) else (antiphonlaw7_FieldClasses.j0 k a1 l2 true)) else (antiphonlaw7_FieldClasses.j0 k a1 l2 true))) else (antiphonlaw7_FieldClasses.j0 k a1 l2 true))) = some r := H
      have A11 := Aside0.mk A110
      clear A110
      replace H := Option.bind_eq_some_iff.mp H
      obtain ⟨⟨t116, t117, t118, t119⟩, A120, H⟩ := H
      replace H : (if t106 = t110 then ((antiphonref1_Same.f k t103 t107).bind fun t121 => (if t121 = true then (if t114 = t119 then (if t111 = t116 then (if t112 = t117 then (antiphonlaw7_FieldClasses.j0 k a1 l2 (t113 != t118)) else (antiphonlaw7_FieldClasses.j0 k a1 l2 true)) else (antiphonlaw7_FieldClasses.j0 k a1 l2 true)) else (antiphonlaw7_FieldClasses.j0 k a1 l2 true)) else (antiphonlaw7_FieldClasses.j0 k a1 l2 true))) else (antiphonlaw7_FieldClasses.j0 k a1 l2 true)) = some r := H
      have A12 := Aside0.mk A120
      clear A120
      have HC13 := Aside0.mk H
      clear H
      go_enter Try.func11, Try.ntmps11
      go_upto_region 9 with (first | ((with_reducible refine gate_dst (N := 3) rfl ?_); refine box_event ?hg (N := 3) ?hd (cs := #[.int .i64 a0_0, .int .i64 a0_1, .int .i64 a0_2]) (t := 56) ?hr ?_; (case hd => rfl); (case hg => rfl); (case hr => first | (go_simp; done) | (go_simp; rfl)); intro gb101 hg w14 hbox hb; have n0_ := Aside0.mk (below_step (by repeat (first | (with_reducible first | exact HB.out | apply below_alloc | apply pw_below_drewN | apply below_drew1) | exact HB.out)) hb); have n1_ := Aside0.mk (hbox); have n2_ := Aside0.mk ((by rw [hg]; exact (below_size (by repeat (first | (with_reducible first | exact HB.out | apply below_alloc | apply pw_below_drewN | apply below_drew1) | exact HB.out))) : w.heap.size ≤ gb101)); have n3_ := Aside0.mk ((by rw [hg]; exact (below_size (by repeat (first | (with_reducible first | exact HB.out | apply below_alloc | apply pw_below_drewN | apply below_drew1) | exact HB.out))) : w.heap.size ≤ gb101)); clear HB; have HB := n0_; have BK101 := n1_; have GW101 := n2_; have GE101 := n3_; clear n0_ n1_ n2_ n3_; clear hb hbox hg) | ((with_reducible refine gate_callee (f := 40) rfl ?_); refine goesL_ (some 29) rfl rfl Try.func40 (by kernel_rfl) rfl #[] rfl (by (try simp only [List.map_toArray, List.map_cons, List.map_nil]); first | done | rfl | (simp only [List.length_drop, List.length_take]; rfl)) ?_; (with_reducible refine (antiphonlaw7_awake.calls k  true _ A4.out).mono ?_); rintro e w15 ⟨rfl, hb⟩; refine ⟨_, rfl, ?_⟩; have n0_ := Aside0.mk (blk_below (g := gb101) (o := .cells #[.int .i64 a0_0, .int .i64 a0_1, .int .i64 a0_2] 56 (0, 0)) (by (with_reducible repeat (first | refine blk_drewN ?_ _ | refine blk_drew ?_ | refine blk_alloc ?_ _)); exact BK101.out) hb); have n1_ := Aside0.mk (below_step (by repeat (first | (with_reducible first | exact HB.out | apply below_alloc | apply pw_below_drewN | apply below_drew1 | refine below_set ?_ GE101.out) | exact HB.out)) hb); clear BK101; clear HB; have BK101 := n0_; have HB := n1_; clear n0_ n1_; (try clear hb); (try clear hb2); (try clear hk); (try clear hi); have hcz16_0 : w15.cell? ⟨gb101, 0, none⟩ = some (.int .i64 a0_0) := (blk_cell BK101.out 0).trans rfl; have hcz16_1 : w15.cell? ⟨gb101, 1, none⟩ = some (.int .i64 a0_1) := (blk_cell BK101.out 1).trans rfl; have hcz16_2 : w15.cell? ⟨gb101, 2, none⟩ = some (.int .i64 a0_2) := (blk_cell BK101.out 2).trans rfl; have hfz16_0 := blk_frozen BK101.out 0; have hfz16_1 := blk_frozen BK101.out 1; have hfz16_2 := blk_frozen BK101.out 2) | ((with_reducible refine gate_callee (f := 41) rfl ?_); refine goesL_ (some 42) rfl rfl Try.func41 (by kernel_rfl) rfl #[.agg #[.int .i64 a0_0, .int .i64 a0_1, .int .i64 a0_2]] rfl (by (try simp only [List.map_toArray, List.map_cons, List.map_nil]); first | done | rfl | (simp only [List.length_drop, List.length_take]; rfl)) ?_; (with_reducible refine (field_PutClass.calls a0_0 a0_1 a0_2 t103 t106 _ A9.out).mono ?_); rintro e w17 ⟨v104, rfl, ho0, hb⟩; refine ⟨_, rfl, ?_⟩; have n0_ := Aside0.mk (Kd.R_lower ho0 (below_size (by repeat (first | (with_reducible first | exact HB.out | apply below_alloc | apply pw_below_drewN | apply below_drew1 | refine below_set ?_ GE101.out) | exact HB.out)))); have n1_ := Aside0.mk (blk_below (g := gb101) (o := .cells #[.int .i64 a0_0, .int .i64 a0_1, .int .i64 a0_2] 56 (0, 0)) (by (with_reducible repeat (first | refine blk_drewN ?_ _ | refine blk_drew ?_ | refine blk_alloc ?_ _)); exact BK101.out) hb); have n2_ := Aside0.mk (below_step (by repeat (first | (with_reducible first | exact HB.out | apply below_alloc | apply pw_below_drewN | apply below_drew1 | refine below_set ?_ GE101.out) | exact HB.out)) hb); clear BK101; clear HB; have HO105 := n0_; have BK101 := n1_; have HB := n2_; clear n0_ n1_ n2_; (try clear hb); (try clear hb2); (try clear hk); (try clear hi); (try clear ho0); have hcz18_0 : w17.cell? ⟨gb101, 0, none⟩ = some (.int .i64 a0_0) := (blk_cell BK101.out 0).trans rfl; have hcz18_1 : w17.cell? ⟨gb101, 1, none⟩ = some (.int .i64 a0_1) := (blk_cell BK101.out 1).trans rfl; have hcz18_2 : w17.cell? ⟨gb101, 2, none⟩ = some (.int .i64 a0_2) := (blk_cell BK101.out 2).trans rfl; have hfz18_0 := blk_frozen BK101.out 0; have hfz18_1 := blk_frozen BK101.out 1; have hfz18_2 := blk_frozen BK101.out 2) | ((with_reducible refine gate_callee (f := 46) rfl ?_); refine goesL_ (some 47) rfl rfl Try.func46 (by kernel_rfl) rfl #[.agg #[.int .i64 a0_0, .int .i64 a0_1, .int .i64 a0_2]] rfl (by (try simp only [List.map_toArray, List.map_cons, List.map_nil]); first | done | rfl | (simp only [List.length_drop, List.length_take]; rfl)) ?_; (with_reducible refine (antiphonref6_PutClass.calls a0_0 a0_1 a0_2 t107 t110 _ A10.out).mono ?_); rintro e w19 ⟨v108, rfl, ho0, hb⟩; refine ⟨_, rfl, ?_⟩; have n0_ := Aside0.mk (Kd.R_elder' (by (with_reducible repeat (first | apply Kd.R_alloc | apply Kd.R_drewN | apply Kd.R_drew)); exact HO105.out) (Kd.R_base ho0) hb); have n1_ := Aside0.mk (Kd.R_lower (Kd.R_new' ho0 (Kd.R_lt (by (with_reducible repeat (first | apply Kd.R_alloc | apply Kd.R_drewN | apply Kd.R_drew)); exact HO105.out))) (below_size (by repeat (first | (with_reducible first | exact HB.out | apply below_alloc | apply pw_below_drewN | apply below_drew1 | refine below_set ?_ GE101.out) | exact HB.out)))); have n2_ := Aside0.mk (blk_below (g := gb101) (o := .cells #[.int .i64 a0_0, .int .i64 a0_1, .int .i64 a0_2] 56 (0, 0)) (by (with_reducible repeat (first | refine blk_drewN ?_ _ | refine blk_drew ?_ | refine blk_alloc ?_ _)); exact BK101.out) hb); have n3_ := Aside0.mk (below_step (by repeat (first | (with_reducible first | exact HB.out | apply below_alloc | apply pw_below_drewN | apply below_drew1 | refine below_set ?_ GE101.out) | exact HB.out)) hb); clear HO105; clear BK101; clear HB; have HO105 := n0_; have HO109 := n1_; have BK101 := n2_; have HB := n3_; clear n0_ n1_ n2_ n3_; (try clear hb); (try clear hb2); (try clear hk); (try clear hi); (try clear ho0)) | ((with_reducible refine gate_callee (f := 47) rfl ?_); refine goesL_ (some 52) rfl rfl Try.func47 (by kernel_rfl) rfl #[.slice A2 l2.length c2] rfl (by (try simp only [List.map_toArray, List.map_cons, List.map_nil]); first | done | rfl | (simp only [List.length_drop, List.length_take]; rfl)) ?_; (with_reducible refine (field_GetClass.calls k _ _ l2 t111 t112 t113 t114 _ ?side1 ?side2 A11.out).mono ?_); (case side1 => repeat (first | exact (Kd.C_below HR2.out HB.out) | (with_reducible refine Kd.C_alloc ?_ _) | (with_reducible refine Kd.C_drewN ?_ _) | (with_reducible refine Kd.C_drew ?_))); (case side2 => exact HC2.out); rintro e w20 ⟨rfl, hb⟩; refine ⟨_, rfl, ?_⟩; have n0_ := Aside0.mk (Kd.R_below (by (with_reducible repeat (first | apply Kd.R_alloc | apply Kd.R_drewN | apply Kd.R_drew)); exact HO105.out) hb); have n1_ := Aside0.mk (Kd.R_below (by (with_reducible repeat (first | apply Kd.R_alloc | apply Kd.R_drewN | apply Kd.R_drew)); exact HO109.out) hb); have n2_ := Aside0.mk (blk_below (g := gb101) (o := .cells #[.int .i64 a0_0, .int .i64 a0_1, .int .i64 a0_2] 56 (0, 0)) (by (with_reducible repeat (first | refine blk_drewN ?_ _ | refine blk_drew ?_ | refine blk_alloc ?_ _)); exact BK101.out) hb); have n3_ := Aside0.mk (below_step (by repeat (first | (with_reducible first | exact HB.out | apply below_alloc | apply pw_below_drewN | apply below_drew1 | refine below_set ?_ GE101.out) | exact HB.out)) hb); clear HO105; clear HO109; clear BK101; clear HB; have HO105 := n0_; have HO109 := n1_; have BK101 := n2_; have HB := n3_; clear n0_ n1_ n2_ n3_; (try clear hb); (try clear hb2); (try clear hk); (try clear hi)) | ((with_reducible refine gate_dst (N := 11) rfl ?_); refine box_event ?hg (N := 11) ?hd (cs := #[.int .i64 0, .int .i64 0, .int .i64 0]) (t := 46) ?hr ?_; (case hd => rfl); (case hg => rfl); (case hr => first | (go_simp; done) | (go_simp; rfl)); intro gb115 hg w21 hbox hb; have n0_ := Aside0.mk (Kd.R_below (by (with_reducible repeat (first | apply Kd.R_alloc | apply Kd.R_drewN | apply Kd.R_drew)); exact HO105.out) hb); have n1_ := Aside0.mk (Kd.R_below (by (with_reducible repeat (first | apply Kd.R_alloc | apply Kd.R_drewN | apply Kd.R_drew)); exact HO109.out) hb); have n2_ := Aside0.mk (blk_below (g := gb101) (o := .cells #[.int .i64 a0_0, .int .i64 a0_1, .int .i64 a0_2] 56 (0, 0)) (by (with_reducible repeat (first | refine blk_drewN ?_ _ | refine blk_drew ?_ | refine blk_alloc ?_ _)); exact BK101.out) hb); have n3_ := Aside0.mk (below_step (by repeat (first | (with_reducible first | exact HB.out | apply below_alloc | apply pw_below_drewN | apply below_drew1 | refine below_set ?_ GE101.out) | exact HB.out)) hb); have n4_ := Aside0.mk (hbox); have n5_ := Aside0.mk ((by rw [hg]; exact (below_size (by repeat (first | (with_reducible first | exact HB.out | apply below_alloc | apply pw_below_drewN | apply below_drew1 | refine below_set ?_ GE101.out) | exact HB.out))) : w.heap.size ≤ gb115)); have n6_ := Aside0.mk ((by rw [hg]; exact (below_size (by repeat (first | (with_reducible first | exact HB.out | apply below_alloc | apply pw_below_drewN | apply below_drew1 | refine below_set ?_ GE101.out) | exact HB.out))) : w.heap.size ≤ gb115)); have n7_ := Aside0.mk ((by rw [hg]; exact Nat.ne_of_lt (blk_lt (g := gb101) (o := .cells #[.int .i64 a0_0, .int .i64 a0_1, .int .i64 a0_2] 56 (0, 0)) (by (with_reducible repeat (first | refine blk_drewN ?_ _ | refine blk_drew ?_ | refine blk_alloc ?_ _)); exact BK101.out)) : gb101 ≠ gb115)); have n8_ := Aside0.mk ((by rw [hg]; exact Nat.ne_of_gt (blk_lt (g := gb101) (o := .cells #[.int .i64 a0_0, .int .i64 a0_1, .int .i64 a0_2] 56 (0, 0)) (by (with_reducible repeat (first | refine blk_drewN ?_ _ | refine blk_drew ?_ | refine blk_alloc ?_ _)); exact BK101.out)) : gb115 ≠ gb101)); clear HO105; clear HO109; clear BK101; clear HB; have HO105 := n0_; have HO109 := n1_; have BK101 := n2_; have HB := n3_; have BK115 := n4_; have GW115 := n5_; have GE115 := n6_; have NB101_115 := n7_; have NB115_101 := n8_; clear n0_ n1_ n2_ n3_ n4_ n5_ n6_ n7_ n8_; clear hb hbox hg; have hnb22 := NB115_101.out; have hnc22 := NB101_115.out; have hcz23_0 : w21.cell? ⟨gb115, 0, none⟩ = some (.int .i64 0) := (blk_cell BK115.out 0).trans rfl; have hcz23_1 : w21.cell? ⟨gb115, 1, none⟩ = some (.int .i64 0) := (blk_cell BK115.out 1).trans rfl; have hcz23_2 : w21.cell? ⟨gb115, 2, none⟩ = some (.int .i64 0) := (blk_cell BK115.out 2).trans rfl; have hfz23_0 := blk_frozen BK115.out 0; have hfz23_1 := blk_frozen BK115.out 1; have hfz23_2 := blk_frozen BK115.out 2) | ((with_reducible refine gate_callee (f := 48) rfl ?_); refine goesL_ (some 57) rfl rfl Try.func48 (by kernel_rfl) rfl #[.slice A2 l2.length c2] rfl (by (try simp only [List.map_toArray, List.map_cons, List.map_nil]); first | done | rfl | (simp only [List.length_drop, List.length_take]; rfl)) ?_; (with_reducible refine (antiphonref6_GetClass.calls _ _ l2 t116 t117 t118 t119 _ ?side1 ?side2 A12.out).mono ?_); (case side1 => exact Kd.C_below HR2.out (by repeat (first | (with_reducible first | exact HB.out | apply below_alloc | apply pw_below_drewN | apply below_drew1 | refine below_set ?_ GE101.out | refine below_set ?_ GE115.out) | exact HB.out))); (case side2 => exact HC2.out); rintro e w24 ⟨rfl, hb⟩; refine ⟨_, rfl, ?_⟩; have n0_ := Aside0.mk (Kd.R_below (by (with_reducible repeat (first | apply Kd.R_alloc | apply Kd.R_drewN | apply Kd.R_drew)); exact (Kd.R_mono (Kd.R_far (p := ⟨gb115, 2, none⟩) (Kd.R_far (p := ⟨gb115, 1, none⟩) (Kd.R_far (p := ⟨gb115, 0, none⟩) (Kd.R_types HO105.out BK115.out (by decide)) (fun _ hk => hk.2) (.int .i64 t111)) (fun _ hk => hk.2) (.int .i64 t112)) (fun _ hk => hk.2) (.int .i64 t113)) (fun _ h_ => h_.1))) hb); have n1_ := Aside0.mk (Kd.R_below (by (with_reducible repeat (first | apply Kd.R_alloc | apply Kd.R_drewN | apply Kd.R_drew)); exact (Kd.R_mono (Kd.R_far (p := ⟨gb115, 2, none⟩) (Kd.R_far (p := ⟨gb115, 1, none⟩) (Kd.R_far (p := ⟨gb115, 0, none⟩) (Kd.R_types HO109.out BK115.out (by decide)) (fun _ hk => hk.2) (.int .i64 t111)) (fun _ hk => hk.2) (.int .i64 t112)) (fun _ hk => hk.2) (.int .i64 t113)) (fun _ h_ => h_.1))) hb); have n2_ := Aside0.mk (blk_below (g := gb101) (o := .cells #[.int .i64 a0_0, .int .i64 a0_1, .int .i64 a0_2] 56 (0, 0)) (by (with_reducible repeat (first | refine blk_drewN ?_ _ | refine blk_drew ?_ | refine blk_alloc ?_ _)); refine blk_far ?_ NB101_115.out _; (with_reducible repeat (first | refine blk_drewN ?_ _ | refine blk_drew ?_ | refine blk_alloc ?_ _)); refine blk_far ?_ NB101_115.out _; (with_reducible repeat (first | refine blk_drewN ?_ _ | refine blk_drew ?_ | refine blk_alloc ?_ _)); refine blk_far ?_ NB101_115.out _; (with_reducible repeat (first | refine blk_drewN ?_ _ | refine blk_drew ?_ | refine blk_alloc ?_ _)); exact BK101.out) hb); have n3_ := Aside0.mk (blk_below (g := gb115) (o := .cells #[.int .i64 t111, .int .i64 t112, .int .i64 t113] 46 (0, 0)) (by (with_reducible repeat (first | refine blk_drewN ?_ _ | refine blk_drew ?_ | refine blk_alloc ?_ _)); refine blk_put (cs := #[.int .i64 t111, .int .i64 t112, .int .i64 0]) ?_ 2 _ rfl; (with_reducible repeat (first | refine blk_drewN ?_ _ | refine blk_drew ?_ | refine blk_alloc ?_ _)); refine blk_put (cs := #[.int .i64 t111, .int .i64 0, .int .i64 0]) ?_ 1 _ rfl; (with_reducible repeat (first | refine blk_drewN ?_ _ | refine blk_drew ?_ | refine blk_alloc ?_ _)); refine blk_put (cs := #[.int .i64 0, .int .i64 0, .int .i64 0]) ?_ 0 _ rfl; (with_reducible repeat (first | refine blk_drewN ?_ _ | refine blk_drew ?_ | refine blk_alloc ?_ _)); exact BK115.out) hb); have n4_ := Aside0.mk (below_step (by repeat (first | (with_reducible first | exact HB.out | apply below_alloc | apply pw_below_drewN | apply below_drew1 | refine below_set ?_ GE101.out | refine below_set ?_ GE115.out) | exact HB.out)) hb); clear HO105; clear HO109; clear BK101; clear BK115; clear HB; have HO105 := n0_; have HO109 := n1_; have BK101 := n2_; have BK115 := n3_; have HB := n4_; clear n0_ n1_ n2_ n3_ n4_; (try clear hb); (try clear hb2); (try clear hk); (try clear hi)) | ((with_reducible refine gate_dst (N := 13) rfl ?_); refine box_event ?hg (N := 13) ?hd (cs := #[.int .i64 0, .int .i64 0, .int .i64 0]) (t := 56) ?hr ?_; (case hd => rfl); (case hg => rfl); (case hr => first | (go_simp; done) | (go_simp; rfl)); intro gb120 hg w25 hbox hb; have n0_ := Aside0.mk (Kd.R_below (by (with_reducible repeat (first | apply Kd.R_alloc | apply Kd.R_drewN | apply Kd.R_drew)); exact HO105.out) hb); have n1_ := Aside0.mk (Kd.R_below (by (with_reducible repeat (first | apply Kd.R_alloc | apply Kd.R_drewN | apply Kd.R_drew)); exact HO109.out) hb); have n2_ := Aside0.mk (blk_below (g := gb101) (o := .cells #[.int .i64 a0_0, .int .i64 a0_1, .int .i64 a0_2] 56 (0, 0)) (by (with_reducible repeat (first | refine blk_drewN ?_ _ | refine blk_drew ?_ | refine blk_alloc ?_ _)); exact BK101.out) hb); have n3_ := Aside0.mk (blk_below (g := gb115) (o := .cells #[.int .i64 t111, .int .i64 t112, .int .i64 t113] 46 (0, 0)) (by (with_reducible repeat (first | refine blk_drewN ?_ _ | refine blk_drew ?_ | refine blk_alloc ?_ _)); exact BK115.out) hb); have n4_ := Aside0.mk (below_step (by repeat (first | (with_reducible first | exact HB.out | apply below_alloc | apply pw_below_drewN | apply below_drew1 | refine below_set ?_ GE101.out | refine below_set ?_ GE115.out) | exact HB.out)) hb); have n5_ := Aside0.mk (hbox); have n6_ := Aside0.mk ((by rw [hg]; exact (below_size (by repeat (first | (with_reducible first | exact HB.out | apply below_alloc | apply pw_below_drewN | apply below_drew1 | refine below_set ?_ GE101.out | refine below_set ?_ GE115.out) | exact HB.out))) : w.heap.size ≤ gb120)); have n7_ := Aside0.mk ((by rw [hg]; exact (below_size (by repeat (first | (with_reducible first | exact HB.out | apply below_alloc | apply pw_below_drewN | apply below_drew1 | refine below_set ?_ GE101.out | refine below_set ?_ GE115.out) | exact HB.out))) : w.heap.size ≤ gb120)); have n8_ := Aside0.mk ((by rw [hg]; exact Nat.ne_of_lt (blk_lt (g := gb101) (o := .cells #[.int .i64 a0_0, .int .i64 a0_1, .int .i64 a0_2] 56 (0, 0)) (by (with_reducible repeat (first | refine blk_drewN ?_ _ | refine blk_drew ?_ | refine blk_alloc ?_ _)); exact BK101.out)) : gb101 ≠ gb120)); have n9_ := Aside0.mk ((by rw [hg]; exact Nat.ne_of_gt (blk_lt (g := gb101) (o := .cells #[.int .i64 a0_0, .int .i64 a0_1, .int .i64 a0_2] 56 (0, 0)) (by (with_reducible repeat (first | refine blk_drewN ?_ _ | refine blk_drew ?_ | refine blk_alloc ?_ _)); exact BK101.out)) : gb120 ≠ gb101)); have n10_ := Aside0.mk ((by rw [hg]; exact Nat.ne_of_lt (blk_lt (g := gb115) (o := .cells #[.int .i64 t111, .int .i64 t112, .int .i64 t113] 46 (0, 0)) (by (with_reducible repeat (first | refine blk_drewN ?_ _ | refine blk_drew ?_ | refine blk_alloc ?_ _)); exact BK115.out)) : gb115 ≠ gb120)); have n11_ := Aside0.mk ((by rw [hg]; exact Nat.ne_of_gt (blk_lt (g := gb115) (o := .cells #[.int .i64 t111, .int .i64 t112, .int .i64 t113] 46 (0, 0)) (by (with_reducible repeat (first | refine blk_drewN ?_ _ | refine blk_drew ?_ | refine blk_alloc ?_ _)); exact BK115.out)) : gb120 ≠ gb115)); clear HO105; clear HO109; clear BK101; clear BK115; clear HB; have HO105 := n0_; have HO109 := n1_; have BK101 := n2_; have BK115 := n3_; have HB := n4_; have BK120 := n5_; have GW120 := n6_; have GE120 := n7_; have NB101_120 := n8_; have NB120_101 := n9_; have NB115_120 := n10_; have NB120_115 := n11_; clear n0_ n1_ n2_ n3_ n4_ n5_ n6_ n7_ n8_ n9_ n10_ n11_; clear hb hbox hg; have hnb26 := NB120_101.out; have hnc26 := NB101_120.out; have hnb27 := NB120_115.out; have hnc27 := NB115_120.out; have hcz28_0 : w25.cell? ⟨gb120, 0, none⟩ = some (.int .i64 0) := (blk_cell BK120.out 0).trans rfl; have hcz28_1 : w25.cell? ⟨gb120, 1, none⟩ = some (.int .i64 0) := (blk_cell BK120.out 1).trans rfl; have hcz28_2 : w25.cell? ⟨gb120, 2, none⟩ = some (.int .i64 0) := (blk_cell BK120.out 2).trans rfl; have hfz28_0 := blk_frozen BK120.out 0; have hfz28_1 := blk_frozen BK120.out 1; have hfz28_2 := blk_frozen BK120.out 2))
      (try simp only [Act.put, List.setIfInBounds_toArray, List.set_cons_zero, List.set_cons_succ])
      go_cut [94] (fun v94 wc => ∃ (kq : Nat) (x94_12 : Bool), v94 = .bool x94_12 ∧ Aside0 (antiphonlaw7_FieldClasses.j0 kq a1 l2 x94_12 = some r) ∧ Aside0 (kq ≤ k) ∧ Aside0 (wc.heap[gb101]? = some (.cells #[.int .i64 a0_0, .int .i64 a0_1, .int .i64 a0_2] 56 (0, 0))) ∧ Aside0 (wc.heap[gb115]? = some (.cells #[.int .i64 t111, .int .i64 t112, .int .i64 t113] 46 (0, 0))) ∧ Aside0 (wc.heap[gb120]? = some (.cells #[.int .i64 t116, .int .i64 t117, .int .i64 t118] 56 (0, 0))) ∧ Aside0 (Below w.heap.size w wc))
      case first =>
        have H := HC13.out
        clear HC13
        by_cases c29 : t106 = t110
        · rw [if_pos c29] at H
          have c29b0 : (t106 == t110) = true := beq_iff_eq.mpr c29
          have c29b1 : (t106 != t110) = false := bne_eq_false_iff_eq.mpr c29
          clear c29
          (first | rw [c29b0] | (simp only [i64_w, i32_w]; rw [c29b0]) | skip)
          replace H := Option.bind_eq_some_iff.mp H
          obtain ⟨t121, A300, H⟩ := H
          replace H : (if t121 = true then (if t114 = t119 then (if t111 = t116 then (if t112 = t117 then (antiphonlaw7_FieldClasses.j0 k a1 l2 (t113 != t118)) else (antiphonlaw7_FieldClasses.j0 k a1 l2 true)) else (antiphonlaw7_FieldClasses.j0 k a1 l2 true)) else (antiphonlaw7_FieldClasses.j0 k a1 l2 true)) else (antiphonlaw7_FieldClasses.j0 k a1 l2 true)) = some r := H
          have A30 := Aside0.mk A300
          clear A300
          by_cases c31 : t121 = true
          · subst c31
            have H1 : (if t114 = t119 then (if t111 = t116 then (if t112 = t117 then (antiphonlaw7_FieldClasses.j0 k a1 l2 (t113 != t118)) else (antiphonlaw7_FieldClasses.j0 k a1 l2 true)) else (antiphonlaw7_FieldClasses.j0 k a1 l2 true)) else (antiphonlaw7_FieldClasses.j0 k a1 l2 true)) = some r := by rw [if_pos rfl] at H; exact H
            clear H
            have H := H1
            clear H1
            by_cases c32 : t114 = t119
            · rw [if_pos c32] at H
              have c32b0 : (t114 == t119) = true := beq_iff_eq.mpr c32
              have c32b1 : (t114 != t119) = false := bne_eq_false_iff_eq.mpr c32
              clear c32
              by_cases c33 : t111 = t116
              · rw [if_pos c33] at H
                have c33b0 : (t111 == t116) = true := beq_iff_eq.mpr c33
                have c33b1 : (t111 != t116) = false := bne_eq_false_iff_eq.mpr c33
                clear c33
                by_cases c34 : t112 = t117
                · rw [if_pos c34] at H
                  have c34b0 : (t112 == t117) = true := beq_iff_eq.mpr c34
                  have c34b1 : (t112 != t117) = false := bne_eq_false_iff_eq.mpr c34
                  clear c34
                  have H' := Aside0.mk H
                  clear H
                  obtain ⟨Ao35, co35, eo35⟩ := Kd.R_slice HO105.out
                  subst eo35
                  obtain ⟨Ao36, co36, eo36⟩ := Kd.R_slice HO109.out
                  subst eo36
                  go_wp2_with (first | (go_at_call 36; (with_reducible refine (antiphonref1_Same.calls k _ _ t103 _ _ t107 true _ ?side1 ?side2 ?side3 ?side4 A30.out).mono ?_); (case side1 => refine (Kd.R_reads' (e := 5) (base := w.heap.size) (ok := fun k_ => (True ∧ some k_ ≠ (.slice Ao36 t107.length co36 : Value).ownBlock)) (n := t103.length) (c := co35) ?_).2.2; exact (by (with_reducible repeat (first | apply Kd.R_alloc | apply Kd.R_drewN | apply Kd.R_drew)); exact (Kd.R_mono (Kd.R_far (p := ⟨gb120, 2, none⟩) (Kd.R_far (p := ⟨gb120, 1, none⟩) (Kd.R_far (p := ⟨gb120, 0, none⟩) (Kd.R_types HO105.out BK120.out (by decide)) (fun _ hk => hk.2) (.int .i64 t116)) (fun _ hk => hk.2) (.int .i64 t117)) (fun _ hk => hk.2) (.int .i64 t118)) (fun _ h_ => h_.1)))); (case side2 => exact (Kd.R_reads' HO105.out).2.1); (case side3 => refine (Kd.R_reads' (e := 5) (base := w.heap.size) (ok := fun k_ => (True ∧ some k_ ≠ (.slice Ao35 t103.length co35 : Value).ownBlock)) (n := t107.length) (c := co36) ?_).2.2; exact (by (with_reducible repeat (first | apply Kd.R_alloc | apply Kd.R_drewN | apply Kd.R_drew)); exact (Kd.R_mono (Kd.R_far (p := ⟨gb120, 2, none⟩) (Kd.R_far (p := ⟨gb120, 1, none⟩) (Kd.R_far (p := ⟨gb120, 0, none⟩) (Kd.R_types HO109.out BK120.out (by decide)) (fun _ hk => hk.2) (.int .i64 t116)) (fun _ hk => hk.2) (.int .i64 t117)) (fun _ hk => hk.2) (.int .i64 t118)) (fun _ h_ => h_.1)))); (case side4 => exact (Kd.R_reads' HO109.out).2.1); rintro e w' ⟨rfl, ⟨nd, rfl⟩⟩; have hnb37 := NB115_101.out; have hnc37 := NB101_115.out; have hnb38 := NB115_120.out; have hnc38 := NB120_115.out; have hcz39_0 : w25.cell? ⟨gb115, 0, none⟩ = some (.int .i64 t111) := (blk_cell BK115.out 0).trans rfl; have hcz39_1 : w25.cell? ⟨gb115, 1, none⟩ = some (.int .i64 t112) := (blk_cell BK115.out 1).trans rfl; have hcz39_2 : w25.cell? ⟨gb115, 2, none⟩ = some (.int .i64 t113) := (blk_cell BK115.out 2).trans rfl; have hfz39_0 := blk_frozen BK115.out 0; have hfz39_1 := blk_frozen BK115.out 1; have hfz39_2 := blk_frozen BK115.out 2; have hnb40 := NB120_101.out; have hnc40 := NB101_120.out; have hcz41_0 : w25.cell? ⟨gb120, 0, none⟩ = some (.int .i64 0) := (blk_cell BK120.out 0).trans rfl; have hcz41_1 : w25.cell? ⟨gb120, 1, none⟩ = some (.int .i64 0) := (blk_cell BK120.out 1).trans rfl; have hcz41_2 : w25.cell? ⟨gb120, 2, none⟩ = some (.int .i64 0) := (blk_cell BK120.out 2).trans rfl; have hfz41_0 := blk_frozen BK120.out 0; have hfz41_1 := blk_frozen BK120.out 1; have hfz41_2 := blk_frozen BK120.out 2))
                  go_meet
                  case rel => exact ⟨_, ((t113 != t118)), (by first | rfl | (simp; done) | (simp [*]; done)), H', ⟨by first | omega | exact Nat.le_refl _⟩, ⟨by (with_reducible repeat (first | refine blk_drewN ?_ _ | refine blk_drew ?_ | refine blk_alloc ?_ _)); refine blk_far ?_ NB101_120.out _; (with_reducible repeat (first | refine blk_drewN ?_ _ | refine blk_drew ?_ | refine blk_alloc ?_ _)); refine blk_far ?_ NB101_120.out _; (with_reducible repeat (first | refine blk_drewN ?_ _ | refine blk_drew ?_ | refine blk_alloc ?_ _)); refine blk_far ?_ NB101_120.out _; (with_reducible repeat (first | refine blk_drewN ?_ _ | refine blk_drew ?_ | refine blk_alloc ?_ _)); exact BK101.out⟩, ⟨by (with_reducible repeat (first | refine blk_drewN ?_ _ | refine blk_drew ?_ | refine blk_alloc ?_ _)); refine blk_far ?_ NB115_120.out _; (with_reducible repeat (first | refine blk_drewN ?_ _ | refine blk_drew ?_ | refine blk_alloc ?_ _)); refine blk_far ?_ NB115_120.out _; (with_reducible repeat (first | refine blk_drewN ?_ _ | refine blk_drew ?_ | refine blk_alloc ?_ _)); refine blk_far ?_ NB115_120.out _; (with_reducible repeat (first | refine blk_drewN ?_ _ | refine blk_drew ?_ | refine blk_alloc ?_ _)); exact BK115.out⟩, ⟨by (with_reducible repeat (first | refine blk_drewN ?_ _ | refine blk_drew ?_ | refine blk_alloc ?_ _)); refine blk_put (cs := #[.int .i64 t116, .int .i64 t117, .int .i64 0]) ?_ 2 _ rfl; (with_reducible repeat (first | refine blk_drewN ?_ _ | refine blk_drew ?_ | refine blk_alloc ?_ _)); refine blk_put (cs := #[.int .i64 t116, .int .i64 0, .int .i64 0]) ?_ 1 _ rfl; (with_reducible repeat (first | refine blk_drewN ?_ _ | refine blk_drew ?_ | refine blk_alloc ?_ _)); refine blk_put (cs := #[.int .i64 0, .int .i64 0, .int .i64 0]) ?_ 0 _ rfl; (with_reducible repeat (first | refine blk_drewN ?_ _ | refine blk_drew ?_ | refine blk_alloc ?_ _)); exact BK120.out⟩, ⟨by repeat (first | (with_reducible first | exact HB.out | apply below_alloc | apply pw_below_drewN | apply below_drew1 | refine below_set ?_ GE101.out | refine below_set ?_ GE115.out | refine below_set ?_ GE120.out) | exact HB.out)⟩⟩
                · rw [if_neg c34] at H
                  have c34b0 : (t112 == t117) = false := beq_eq_false_iff_ne.mpr c34
                  have c34b1 : (t112 != t117) = true := bne_iff_ne.mpr c34
                  have H' := Aside0.mk H
                  clear H
                  obtain ⟨Ao42, co42, eo42⟩ := Kd.R_slice HO105.out
                  subst eo42
                  obtain ⟨Ao43, co43, eo43⟩ := Kd.R_slice HO109.out
                  subst eo43
                  go_wp2_with (first | (go_at_call 36; (with_reducible refine (antiphonref1_Same.calls k _ _ t103 _ _ t107 true _ ?side1 ?side2 ?side3 ?side4 A30.out).mono ?_); (case side1 => refine (Kd.R_reads' (e := 5) (base := w.heap.size) (ok := fun k_ => (True ∧ some k_ ≠ (.slice Ao43 t107.length co43 : Value).ownBlock)) (n := t103.length) (c := co42) ?_).2.2; exact (by (with_reducible repeat (first | apply Kd.R_alloc | apply Kd.R_drewN | apply Kd.R_drew)); exact (Kd.R_mono (Kd.R_far (p := ⟨gb120, 2, none⟩) (Kd.R_far (p := ⟨gb120, 1, none⟩) (Kd.R_far (p := ⟨gb120, 0, none⟩) (Kd.R_types HO105.out BK120.out (by decide)) (fun _ hk => hk.2) (.int .i64 t116)) (fun _ hk => hk.2) (.int .i64 t117)) (fun _ hk => hk.2) (.int .i64 t118)) (fun _ h_ => h_.1)))); (case side2 => exact (Kd.R_reads' HO105.out).2.1); (case side3 => refine (Kd.R_reads' (e := 5) (base := w.heap.size) (ok := fun k_ => (True ∧ some k_ ≠ (.slice Ao42 t103.length co42 : Value).ownBlock)) (n := t107.length) (c := co43) ?_).2.2; exact (by (with_reducible repeat (first | apply Kd.R_alloc | apply Kd.R_drewN | apply Kd.R_drew)); exact (Kd.R_mono (Kd.R_far (p := ⟨gb120, 2, none⟩) (Kd.R_far (p := ⟨gb120, 1, none⟩) (Kd.R_far (p := ⟨gb120, 0, none⟩) (Kd.R_types HO109.out BK120.out (by decide)) (fun _ hk => hk.2) (.int .i64 t116)) (fun _ hk => hk.2) (.int .i64 t117)) (fun _ hk => hk.2) (.int .i64 t118)) (fun _ h_ => h_.1)))); (case side4 => exact (Kd.R_reads' HO109.out).2.1); rintro e w' ⟨rfl, ⟨nd, rfl⟩⟩; have hnb44 := NB115_101.out; have hnc44 := NB101_115.out; have hnb45 := NB115_120.out; have hnc45 := NB120_115.out; have hcz46_0 : w25.cell? ⟨gb115, 0, none⟩ = some (.int .i64 t111) := (blk_cell BK115.out 0).trans rfl; have hcz46_1 : w25.cell? ⟨gb115, 1, none⟩ = some (.int .i64 t112) := (blk_cell BK115.out 1).trans rfl; have hcz46_2 : w25.cell? ⟨gb115, 2, none⟩ = some (.int .i64 t113) := (blk_cell BK115.out 2).trans rfl; have hfz46_0 := blk_frozen BK115.out 0; have hfz46_1 := blk_frozen BK115.out 1; have hfz46_2 := blk_frozen BK115.out 2; have hnb47 := NB120_101.out; have hnc47 := NB101_120.out; have hcz48_0 : w25.cell? ⟨gb120, 0, none⟩ = some (.int .i64 0) := (blk_cell BK120.out 0).trans rfl; have hcz48_1 : w25.cell? ⟨gb120, 1, none⟩ = some (.int .i64 0) := (blk_cell BK120.out 1).trans rfl; have hcz48_2 : w25.cell? ⟨gb120, 2, none⟩ = some (.int .i64 0) := (blk_cell BK120.out 2).trans rfl; have hfz48_0 := blk_frozen BK120.out 0; have hfz48_1 := blk_frozen BK120.out 1; have hfz48_2 := blk_frozen BK120.out 2))
                  go_meet
                  case rel => exact ⟨_, (true), (by first | rfl | (simp; done) | (simp [*]; done)), H', ⟨by first | omega | exact Nat.le_refl _⟩, ⟨by (with_reducible repeat (first | refine blk_drewN ?_ _ | refine blk_drew ?_ | refine blk_alloc ?_ _)); refine blk_far ?_ NB101_120.out _; (with_reducible repeat (first | refine blk_drewN ?_ _ | refine blk_drew ?_ | refine blk_alloc ?_ _)); refine blk_far ?_ NB101_120.out _; (with_reducible repeat (first | refine blk_drewN ?_ _ | refine blk_drew ?_ | refine blk_alloc ?_ _)); refine blk_far ?_ NB101_120.out _; (with_reducible repeat (first | refine blk_drewN ?_ _ | refine blk_drew ?_ | refine blk_alloc ?_ _)); exact BK101.out⟩, ⟨by (with_reducible repeat (first | refine blk_drewN ?_ _ | refine blk_drew ?_ | refine blk_alloc ?_ _)); refine blk_far ?_ NB115_120.out _; (with_reducible repeat (first | refine blk_drewN ?_ _ | refine blk_drew ?_ | refine blk_alloc ?_ _)); refine blk_far ?_ NB115_120.out _; (with_reducible repeat (first | refine blk_drewN ?_ _ | refine blk_drew ?_ | refine blk_alloc ?_ _)); refine blk_far ?_ NB115_120.out _; (with_reducible repeat (first | refine blk_drewN ?_ _ | refine blk_drew ?_ | refine blk_alloc ?_ _)); exact BK115.out⟩, ⟨by (with_reducible repeat (first | refine blk_drewN ?_ _ | refine blk_drew ?_ | refine blk_alloc ?_ _)); refine blk_put (cs := #[.int .i64 t116, .int .i64 t117, .int .i64 0]) ?_ 2 _ rfl; (with_reducible repeat (first | refine blk_drewN ?_ _ | refine blk_drew ?_ | refine blk_alloc ?_ _)); refine blk_put (cs := #[.int .i64 t116, .int .i64 0, .int .i64 0]) ?_ 1 _ rfl; (with_reducible repeat (first | refine blk_drewN ?_ _ | refine blk_drew ?_ | refine blk_alloc ?_ _)); refine blk_put (cs := #[.int .i64 0, .int .i64 0, .int .i64 0]) ?_ 0 _ rfl; (with_reducible repeat (first | refine blk_drewN ?_ _ | refine blk_drew ?_ | refine blk_alloc ?_ _)); exact BK120.out⟩, ⟨by repeat (first | (with_reducible first | exact HB.out | apply below_alloc | apply pw_below_drewN | apply below_drew1 | refine below_set ?_ GE101.out | refine below_set ?_ GE115.out | refine below_set ?_ GE120.out) | exact HB.out)⟩⟩
              · rw [if_neg c33] at H
                have c33b0 : (t111 == t116) = false := beq_eq_false_iff_ne.mpr c33
                have c33b1 : (t111 != t116) = true := bne_iff_ne.mpr c33
                have H' := Aside0.mk H
                clear H
                obtain ⟨Ao49, co49, eo49⟩ := Kd.R_slice HO105.out
                subst eo49
                obtain ⟨Ao50, co50, eo50⟩ := Kd.R_slice HO109.out
                subst eo50
                go_wp2_with (first | (go_at_call 36; (with_reducible refine (antiphonref1_Same.calls k _ _ t103 _ _ t107 true _ ?side1 ?side2 ?side3 ?side4 A30.out).mono ?_); (case side1 => refine (Kd.R_reads' (e := 5) (base := w.heap.size) (ok := fun k_ => (True ∧ some k_ ≠ (.slice Ao50 t107.length co50 : Value).ownBlock)) (n := t103.length) (c := co49) ?_).2.2; exact (by (with_reducible repeat (first | apply Kd.R_alloc | apply Kd.R_drewN | apply Kd.R_drew)); exact (Kd.R_mono (Kd.R_far (p := ⟨gb120, 2, none⟩) (Kd.R_far (p := ⟨gb120, 1, none⟩) (Kd.R_far (p := ⟨gb120, 0, none⟩) (Kd.R_types HO105.out BK120.out (by decide)) (fun _ hk => hk.2) (.int .i64 t116)) (fun _ hk => hk.2) (.int .i64 t117)) (fun _ hk => hk.2) (.int .i64 t118)) (fun _ h_ => h_.1)))); (case side2 => exact (Kd.R_reads' HO105.out).2.1); (case side3 => refine (Kd.R_reads' (e := 5) (base := w.heap.size) (ok := fun k_ => (True ∧ some k_ ≠ (.slice Ao49 t103.length co49 : Value).ownBlock)) (n := t107.length) (c := co50) ?_).2.2; exact (by (with_reducible repeat (first | apply Kd.R_alloc | apply Kd.R_drewN | apply Kd.R_drew)); exact (Kd.R_mono (Kd.R_far (p := ⟨gb120, 2, none⟩) (Kd.R_far (p := ⟨gb120, 1, none⟩) (Kd.R_far (p := ⟨gb120, 0, none⟩) (Kd.R_types HO109.out BK120.out (by decide)) (fun _ hk => hk.2) (.int .i64 t116)) (fun _ hk => hk.2) (.int .i64 t117)) (fun _ hk => hk.2) (.int .i64 t118)) (fun _ h_ => h_.1)))); (case side4 => exact (Kd.R_reads' HO109.out).2.1); rintro e w' ⟨rfl, ⟨nd, rfl⟩⟩; have hnb51 := NB115_101.out; have hnc51 := NB101_115.out; have hnb52 := NB115_120.out; have hnc52 := NB120_115.out; have hcz53_0 : w25.cell? ⟨gb115, 0, none⟩ = some (.int .i64 t111) := (blk_cell BK115.out 0).trans rfl; have hcz53_1 : w25.cell? ⟨gb115, 1, none⟩ = some (.int .i64 t112) := (blk_cell BK115.out 1).trans rfl; have hcz53_2 : w25.cell? ⟨gb115, 2, none⟩ = some (.int .i64 t113) := (blk_cell BK115.out 2).trans rfl; have hfz53_0 := blk_frozen BK115.out 0; have hfz53_1 := blk_frozen BK115.out 1; have hfz53_2 := blk_frozen BK115.out 2; have hnb54 := NB120_101.out; have hnc54 := NB101_120.out; have hcz55_0 : w25.cell? ⟨gb120, 0, none⟩ = some (.int .i64 0) := (blk_cell BK120.out 0).trans rfl; have hcz55_1 : w25.cell? ⟨gb120, 1, none⟩ = some (.int .i64 0) := (blk_cell BK120.out 1).trans rfl; have hcz55_2 : w25.cell? ⟨gb120, 2, none⟩ = some (.int .i64 0) := (blk_cell BK120.out 2).trans rfl; have hfz55_0 := blk_frozen BK120.out 0; have hfz55_1 := blk_frozen BK120.out 1; have hfz55_2 := blk_frozen BK120.out 2))
                go_meet
                case rel => exact ⟨_, (true), (by first | rfl | (simp; done) | (simp [*]; done)), H', ⟨by first | omega | exact Nat.le_refl _⟩, ⟨by (with_reducible repeat (first | refine blk_drewN ?_ _ | refine blk_drew ?_ | refine blk_alloc ?_ _)); refine blk_far ?_ NB101_120.out _; (with_reducible repeat (first | refine blk_drewN ?_ _ | refine blk_drew ?_ | refine blk_alloc ?_ _)); refine blk_far ?_ NB101_120.out _; (with_reducible repeat (first | refine blk_drewN ?_ _ | refine blk_drew ?_ | refine blk_alloc ?_ _)); refine blk_far ?_ NB101_120.out _; (with_reducible repeat (first | refine blk_drewN ?_ _ | refine blk_drew ?_ | refine blk_alloc ?_ _)); exact BK101.out⟩, ⟨by (with_reducible repeat (first | refine blk_drewN ?_ _ | refine blk_drew ?_ | refine blk_alloc ?_ _)); refine blk_far ?_ NB115_120.out _; (with_reducible repeat (first | refine blk_drewN ?_ _ | refine blk_drew ?_ | refine blk_alloc ?_ _)); refine blk_far ?_ NB115_120.out _; (with_reducible repeat (first | refine blk_drewN ?_ _ | refine blk_drew ?_ | refine blk_alloc ?_ _)); refine blk_far ?_ NB115_120.out _; (with_reducible repeat (first | refine blk_drewN ?_ _ | refine blk_drew ?_ | refine blk_alloc ?_ _)); exact BK115.out⟩, ⟨by (with_reducible repeat (first | refine blk_drewN ?_ _ | refine blk_drew ?_ | refine blk_alloc ?_ _)); refine blk_put (cs := #[.int .i64 t116, .int .i64 t117, .int .i64 0]) ?_ 2 _ rfl; (with_reducible repeat (first | refine blk_drewN ?_ _ | refine blk_drew ?_ | refine blk_alloc ?_ _)); refine blk_put (cs := #[.int .i64 t116, .int .i64 0, .int .i64 0]) ?_ 1 _ rfl; (with_reducible repeat (first | refine blk_drewN ?_ _ | refine blk_drew ?_ | refine blk_alloc ?_ _)); refine blk_put (cs := #[.int .i64 0, .int .i64 0, .int .i64 0]) ?_ 0 _ rfl; (with_reducible repeat (first | refine blk_drewN ?_ _ | refine blk_drew ?_ | refine blk_alloc ?_ _)); exact BK120.out⟩, ⟨by repeat (first | (with_reducible first | exact HB.out | apply below_alloc | apply pw_below_drewN | apply below_drew1 | refine below_set ?_ GE101.out | refine below_set ?_ GE115.out | refine below_set ?_ GE120.out) | exact HB.out)⟩⟩
            · rw [if_neg c32] at H
              have c32b0 : (t114 == t119) = false := beq_eq_false_iff_ne.mpr c32
              have c32b1 : (t114 != t119) = true := bne_iff_ne.mpr c32
              have H' := Aside0.mk H
              clear H
              obtain ⟨Ao56, co56, eo56⟩ := Kd.R_slice HO105.out
              subst eo56
              obtain ⟨Ao57, co57, eo57⟩ := Kd.R_slice HO109.out
              subst eo57
              go_wp2_with (first | (go_at_call 36; (with_reducible refine (antiphonref1_Same.calls k _ _ t103 _ _ t107 true _ ?side1 ?side2 ?side3 ?side4 A30.out).mono ?_); (case side1 => refine (Kd.R_reads' (e := 5) (base := w.heap.size) (ok := fun k_ => (True ∧ some k_ ≠ (.slice Ao57 t107.length co57 : Value).ownBlock)) (n := t103.length) (c := co56) ?_).2.2; exact (by (with_reducible repeat (first | apply Kd.R_alloc | apply Kd.R_drewN | apply Kd.R_drew)); exact (Kd.R_mono (Kd.R_far (p := ⟨gb120, 2, none⟩) (Kd.R_far (p := ⟨gb120, 1, none⟩) (Kd.R_far (p := ⟨gb120, 0, none⟩) (Kd.R_types HO105.out BK120.out (by decide)) (fun _ hk => hk.2) (.int .i64 t116)) (fun _ hk => hk.2) (.int .i64 t117)) (fun _ hk => hk.2) (.int .i64 t118)) (fun _ h_ => h_.1)))); (case side2 => exact (Kd.R_reads' HO105.out).2.1); (case side3 => refine (Kd.R_reads' (e := 5) (base := w.heap.size) (ok := fun k_ => (True ∧ some k_ ≠ (.slice Ao56 t103.length co56 : Value).ownBlock)) (n := t107.length) (c := co57) ?_).2.2; exact (by (with_reducible repeat (first | apply Kd.R_alloc | apply Kd.R_drewN | apply Kd.R_drew)); exact (Kd.R_mono (Kd.R_far (p := ⟨gb120, 2, none⟩) (Kd.R_far (p := ⟨gb120, 1, none⟩) (Kd.R_far (p := ⟨gb120, 0, none⟩) (Kd.R_types HO109.out BK120.out (by decide)) (fun _ hk => hk.2) (.int .i64 t116)) (fun _ hk => hk.2) (.int .i64 t117)) (fun _ hk => hk.2) (.int .i64 t118)) (fun _ h_ => h_.1)))); (case side4 => exact (Kd.R_reads' HO109.out).2.1); rintro e w' ⟨rfl, ⟨nd, rfl⟩⟩))
              go_meet
              case rel => exact ⟨_, (true), (by first | rfl | (simp; done) | (simp [*]; done)), H', ⟨by first | omega | exact Nat.le_refl _⟩, ⟨by (with_reducible repeat (first | refine blk_drewN ?_ _ | refine blk_drew ?_ | refine blk_alloc ?_ _)); refine blk_far ?_ NB101_120.out _; (with_reducible repeat (first | refine blk_drewN ?_ _ | refine blk_drew ?_ | refine blk_alloc ?_ _)); refine blk_far ?_ NB101_120.out _; (with_reducible repeat (first | refine blk_drewN ?_ _ | refine blk_drew ?_ | refine blk_alloc ?_ _)); refine blk_far ?_ NB101_120.out _; (with_reducible repeat (first | refine blk_drewN ?_ _ | refine blk_drew ?_ | refine blk_alloc ?_ _)); exact BK101.out⟩, ⟨by (with_reducible repeat (first | refine blk_drewN ?_ _ | refine blk_drew ?_ | refine blk_alloc ?_ _)); refine blk_far ?_ NB115_120.out _; (with_reducible repeat (first | refine blk_drewN ?_ _ | refine blk_drew ?_ | refine blk_alloc ?_ _)); refine blk_far ?_ NB115_120.out _; (with_reducible repeat (first | refine blk_drewN ?_ _ | refine blk_drew ?_ | refine blk_alloc ?_ _)); refine blk_far ?_ NB115_120.out _; (with_reducible repeat (first | refine blk_drewN ?_ _ | refine blk_drew ?_ | refine blk_alloc ?_ _)); exact BK115.out⟩, ⟨by (with_reducible repeat (first | refine blk_drewN ?_ _ | refine blk_drew ?_ | refine blk_alloc ?_ _)); refine blk_put (cs := #[.int .i64 t116, .int .i64 t117, .int .i64 0]) ?_ 2 _ rfl; (with_reducible repeat (first | refine blk_drewN ?_ _ | refine blk_drew ?_ | refine blk_alloc ?_ _)); refine blk_put (cs := #[.int .i64 t116, .int .i64 0, .int .i64 0]) ?_ 1 _ rfl; (with_reducible repeat (first | refine blk_drewN ?_ _ | refine blk_drew ?_ | refine blk_alloc ?_ _)); refine blk_put (cs := #[.int .i64 0, .int .i64 0, .int .i64 0]) ?_ 0 _ rfl; (with_reducible repeat (first | refine blk_drewN ?_ _ | refine blk_drew ?_ | refine blk_alloc ?_ _)); exact BK120.out⟩, ⟨by repeat (first | (with_reducible first | exact HB.out | apply below_alloc | apply pw_below_drewN | apply below_drew1 | refine below_set ?_ GE101.out | refine below_set ?_ GE115.out | refine below_set ?_ GE120.out) | exact HB.out)⟩⟩
          · replace c31 := Bool.eq_false_iff.mpr c31
            subst c31
            have H1 : (antiphonlaw7_FieldClasses.j0 k a1 l2 true) = some r := by rw [if_neg (show ¬ (false = true) by decide)] at H; exact H
            clear H
            have H := H1
            clear H1
            have H' := Aside0.mk H
            clear H
            obtain ⟨Ao58, co58, eo58⟩ := Kd.R_slice HO105.out
            subst eo58
            obtain ⟨Ao59, co59, eo59⟩ := Kd.R_slice HO109.out
            subst eo59
            go_wp2_with (first | (go_at_call 36; (with_reducible refine (antiphonref1_Same.calls k _ _ t103 _ _ t107 false _ ?side1 ?side2 ?side3 ?side4 A30.out).mono ?_); (case side1 => refine (Kd.R_reads' (e := 5) (base := w.heap.size) (ok := fun k_ => (True ∧ some k_ ≠ (.slice Ao59 t107.length co59 : Value).ownBlock)) (n := t103.length) (c := co58) ?_).2.2; exact (by (with_reducible repeat (first | apply Kd.R_alloc | apply Kd.R_drewN | apply Kd.R_drew)); exact (Kd.R_mono (Kd.R_far (p := ⟨gb120, 2, none⟩) (Kd.R_far (p := ⟨gb120, 1, none⟩) (Kd.R_far (p := ⟨gb120, 0, none⟩) (Kd.R_types HO105.out BK120.out (by decide)) (fun _ hk => hk.2) (.int .i64 t116)) (fun _ hk => hk.2) (.int .i64 t117)) (fun _ hk => hk.2) (.int .i64 t118)) (fun _ h_ => h_.1)))); (case side2 => exact (Kd.R_reads' HO105.out).2.1); (case side3 => refine (Kd.R_reads' (e := 5) (base := w.heap.size) (ok := fun k_ => (True ∧ some k_ ≠ (.slice Ao58 t103.length co58 : Value).ownBlock)) (n := t107.length) (c := co59) ?_).2.2; exact (by (with_reducible repeat (first | apply Kd.R_alloc | apply Kd.R_drewN | apply Kd.R_drew)); exact (Kd.R_mono (Kd.R_far (p := ⟨gb120, 2, none⟩) (Kd.R_far (p := ⟨gb120, 1, none⟩) (Kd.R_far (p := ⟨gb120, 0, none⟩) (Kd.R_types HO109.out BK120.out (by decide)) (fun _ hk => hk.2) (.int .i64 t116)) (fun _ hk => hk.2) (.int .i64 t117)) (fun _ hk => hk.2) (.int .i64 t118)) (fun _ h_ => h_.1)))); (case side4 => exact (Kd.R_reads' HO109.out).2.1); rintro e w' ⟨rfl, ⟨nd, rfl⟩⟩))
            go_meet
            case rel => exact ⟨_, (true), (by first | rfl | (simp; done) | (simp [*]; done)), H', ⟨by first | omega | exact Nat.le_refl _⟩, ⟨by (with_reducible repeat (first | refine blk_drewN ?_ _ | refine blk_drew ?_ | refine blk_alloc ?_ _)); refine blk_far ?_ NB101_120.out _; (with_reducible repeat (first | refine blk_drewN ?_ _ | refine blk_drew ?_ | refine blk_alloc ?_ _)); refine blk_far ?_ NB101_120.out _; (with_reducible repeat (first | refine blk_drewN ?_ _ | refine blk_drew ?_ | refine blk_alloc ?_ _)); refine blk_far ?_ NB101_120.out _; (with_reducible repeat (first | refine blk_drewN ?_ _ | refine blk_drew ?_ | refine blk_alloc ?_ _)); exact BK101.out⟩, ⟨by (with_reducible repeat (first | refine blk_drewN ?_ _ | refine blk_drew ?_ | refine blk_alloc ?_ _)); refine blk_far ?_ NB115_120.out _; (with_reducible repeat (first | refine blk_drewN ?_ _ | refine blk_drew ?_ | refine blk_alloc ?_ _)); refine blk_far ?_ NB115_120.out _; (with_reducible repeat (first | refine blk_drewN ?_ _ | refine blk_drew ?_ | refine blk_alloc ?_ _)); refine blk_far ?_ NB115_120.out _; (with_reducible repeat (first | refine blk_drewN ?_ _ | refine blk_drew ?_ | refine blk_alloc ?_ _)); exact BK115.out⟩, ⟨by (with_reducible repeat (first | refine blk_drewN ?_ _ | refine blk_drew ?_ | refine blk_alloc ?_ _)); refine blk_put (cs := #[.int .i64 t116, .int .i64 t117, .int .i64 0]) ?_ 2 _ rfl; (with_reducible repeat (first | refine blk_drewN ?_ _ | refine blk_drew ?_ | refine blk_alloc ?_ _)); refine blk_put (cs := #[.int .i64 t116, .int .i64 0, .int .i64 0]) ?_ 1 _ rfl; (with_reducible repeat (first | refine blk_drewN ?_ _ | refine blk_drew ?_ | refine blk_alloc ?_ _)); refine blk_put (cs := #[.int .i64 0, .int .i64 0, .int .i64 0]) ?_ 0 _ rfl; (with_reducible repeat (first | refine blk_drewN ?_ _ | refine blk_drew ?_ | refine blk_alloc ?_ _)); exact BK120.out⟩, ⟨by repeat (first | (with_reducible first | exact HB.out | apply below_alloc | apply pw_below_drewN | apply below_drew1 | refine below_set ?_ GE101.out | refine below_set ?_ GE115.out | refine below_set ?_ GE120.out) | exact HB.out)⟩⟩
        · rw [if_neg c29] at H
          have c29b0 : (t106 == t110) = false := beq_eq_false_iff_ne.mpr c29
          have c29b1 : (t106 != t110) = true := bne_iff_ne.mpr c29
          (first | rw [c29b0] | (simp only [i64_w, i32_w]; rw [c29b0]) | skip)
          have H' := Aside0.mk H
          clear H
          go_wp2
          go_meet
          case rel => exact ⟨_, (true), (by first | rfl | (simp; done) | (simp [*]; done)), H', ⟨by first | omega | exact Nat.le_refl _⟩, ⟨by (with_reducible repeat (first | refine blk_drewN ?_ _ | refine blk_drew ?_ | refine blk_alloc ?_ _)); refine blk_far ?_ NB101_120.out _; (with_reducible repeat (first | refine blk_drewN ?_ _ | refine blk_drew ?_ | refine blk_alloc ?_ _)); refine blk_far ?_ NB101_120.out _; (with_reducible repeat (first | refine blk_drewN ?_ _ | refine blk_drew ?_ | refine blk_alloc ?_ _)); refine blk_far ?_ NB101_120.out _; (with_reducible repeat (first | refine blk_drewN ?_ _ | refine blk_drew ?_ | refine blk_alloc ?_ _)); exact BK101.out⟩, ⟨by (with_reducible repeat (first | refine blk_drewN ?_ _ | refine blk_drew ?_ | refine blk_alloc ?_ _)); refine blk_far ?_ NB115_120.out _; (with_reducible repeat (first | refine blk_drewN ?_ _ | refine blk_drew ?_ | refine blk_alloc ?_ _)); refine blk_far ?_ NB115_120.out _; (with_reducible repeat (first | refine blk_drewN ?_ _ | refine blk_drew ?_ | refine blk_alloc ?_ _)); refine blk_far ?_ NB115_120.out _; (with_reducible repeat (first | refine blk_drewN ?_ _ | refine blk_drew ?_ | refine blk_alloc ?_ _)); exact BK115.out⟩, ⟨by (with_reducible repeat (first | refine blk_drewN ?_ _ | refine blk_drew ?_ | refine blk_alloc ?_ _)); refine blk_put (cs := #[.int .i64 t116, .int .i64 t117, .int .i64 0]) ?_ 2 _ rfl; (with_reducible repeat (first | refine blk_drewN ?_ _ | refine blk_drew ?_ | refine blk_alloc ?_ _)); refine blk_put (cs := #[.int .i64 t116, .int .i64 0, .int .i64 0]) ?_ 1 _ rfl; (with_reducible repeat (first | refine blk_drewN ?_ _ | refine blk_drew ?_ | refine blk_alloc ?_ _)); refine blk_put (cs := #[.int .i64 0, .int .i64 0, .int .i64 0]) ?_ 0 _ rfl; (with_reducible repeat (first | refine blk_drewN ?_ _ | refine blk_drew ?_ | refine blk_alloc ?_ _)); exact BK120.out⟩, ⟨by repeat (first | (with_reducible first | exact HB.out | apply below_alloc | apply pw_below_drewN | apply below_drew1 | refine below_set ?_ GE101.out | refine below_set ?_ GE115.out | refine below_set ?_ GE120.out) | exact HB.out)⟩⟩
      case rest =>
        clear HC13
        try clear c1
        try clear c2
        try clear p2
        try clear c3
        try clear c4
        try clear c5
        try clear c6
        try clear c6b0
        try clear c6b1
        try clear c11
        try clear c22
        try clear c26
        try clear c27
        try clear c29
        try clear c29b0
        try clear c29b1
        try clear c31
        try clear c32
        try clear c32b0
        try clear c32b1
        try clear c33
        try clear c33b0
        try clear c33b1
        try clear c34
        try clear c34b0
        try clear c34b1
        try clear c37
        try clear c38
        try clear c40
        try clear c41
        try clear c44
        try clear c45
        try clear c46
        try clear c47
        try clear c48
        try clear c51
        try clear c52
        try clear c54
        try clear hcz16_0
        try clear hcz16_1
        try clear hcz16_2
        try clear hcz18_0
        try clear hcz18_1
        try clear hcz18_2
        try clear hcz23_0
        try clear hcz23_1
        try clear hcz23_2
        try clear hcz28_0
        try clear hcz28_1
        try clear hcz28_2
        try clear hcz39_0
        try clear hcz39_1
        try clear hcz39_2
        try clear hcz41_0
        try clear hcz41_1
        try clear hcz41_2
        try clear hcz46_0
        try clear hcz46_1
        try clear hcz46_2
        try clear hcz48_0
        try clear hcz48_1
        try clear hcz48_2
        try clear hcz53_0
        try clear hcz53_1
        try clear hcz53_2
        try clear hcz55_0
        try clear hcz55_1
        try clear hcz55_2
        try clear hfz16_0
        try clear hfz16_1
        try clear hfz16_2
        try clear hfz18_0
        try clear hfz18_1
        try clear hfz18_2
        try clear hfz23_0
        try clear hfz23_1
        try clear hfz23_2
        try clear hfz28_0
        try clear hfz28_1
        try clear hfz28_2
        try clear hfz39_0
        try clear hfz39_1
        try clear hfz39_2
        try clear hfz41_0
        try clear hfz41_1
        try clear hfz41_2
        try clear hfz46_0
        try clear hfz46_1
        try clear hfz46_2
        try clear hfz48_0
        try clear hfz48_1
        try clear hfz48_2
        try clear hfz53_0
        try clear hfz53_1
        try clear hfz53_2
        try clear hfz55_0
        try clear hfz55_1
        try clear hfz55_2
        obtain ⟨kq, x94_12, rfl, HA, HJ12, BK101, BK115, BK120, HB⟩ := hcut
        cases kq with
        | zero => exact absurd HA.out (by simp [antiphonlaw7_FieldClasses.j0])
        | succ kj12 =>
          have H := HA.out
          clear HA
          simp only [antiphonlaw7_FieldClasses.j0] at H
          by_cases c60 : x94_12 = true
          · subst c60
            have H1 : (none) = some r := by rw [if_pos rfl] at H; exact H
            clear H
            have H := H1
            clear H1
            exact absurd H (by simp)
          · replace c60 := Bool.eq_false_iff.mpr c60
            subst c60
            have H1 : ((field_PutStatus.f a1 l2).bind fun bt122 => ((antiphonref6_PutStatus.f a1 l2).bind fun bt126 => ((field_GetStatus.f l2).bind fun bt130 => ((antiphonref6_GetStatus.f kj12 l2).bind fun bt135 => (if bt122.2 = bt126.2 then ((antiphonref1_Same.f kj12 bt122.1 bt126.1).bind fun t140 => (if t140 = true then (if bt130.1 = bt135.1 then ((antiphonref1_Same.f kj12 bt130.2.1 bt135.2.1).bind fun t141 => (if t141 = true then (antiphonlaw7_FieldClasses.j1 kj12 a1 l2 (bt130.2.2 != bt135.2.2)) else (antiphonlaw7_FieldClasses.j1 kj12 a1 l2 true))) else (antiphonlaw7_FieldClasses.j1 kj12 a1 l2 true)) else (antiphonlaw7_FieldClasses.j1 kj12 a1 l2 true))) else (antiphonlaw7_FieldClasses.j1 kj12 a1 l2 true)))))) = some r := by rw [if_neg (show ¬ (false = true) by decide)] at H; exact H
            clear H
            have H := H1
            clear H1
            replace H := Option.bind_eq_some_iff.mp H
            obtain ⟨⟨t122, t123⟩, A610, H⟩ := H
            replace H : ((antiphonref6_PutStatus.f a1 l2).bind fun bt126 => ((field_GetStatus.f l2).bind fun bt130 => ((antiphonref6_GetStatus.f kj12 l2).bind fun bt135 => (if t123 = bt126.2 then ((antiphonref1_Same.f kj12 t122 bt126.1).bind fun t140 => (if t140 = true then (if bt130.1 = bt135.1 then ((antiphonref1_Same.f kj12 bt130.2.1 bt135.2.1).bind fun t141 => (if t141 = true then (antiphonlaw7_FieldClasses.j1 kj12 a1 l2 (bt130.2.2 != bt135.2.2)) else (antiphonlaw7_FieldClasses.j1 kj12 a1 l2 true))) else (antiphonlaw7_FieldClasses.j1 kj12 a1 l2 true)) else (antiphonlaw7_FieldClasses.j1 kj12 a1 l2 true))) else (antiphonlaw7_FieldClasses.j1 kj12 a1 l2 true))))) = some r := H
            have A61 := Aside0.mk A610
            clear A610
            replace H := Option.bind_eq_some_iff.mp H
            obtain ⟨⟨t126, t127⟩, A620, H⟩ := H
            replace H : ((field_GetStatus.f l2).bind fun bt130 => ((antiphonref6_GetStatus.f kj12 l2).bind fun bt135 => (if t123 = t127 then ((antiphonref1_Same.f kj12 t122 t126).bind fun t140 => (if t140 = true then (if bt130.1 = bt135.1 then ((antiphonref1_Same.f kj12 bt130.2.1 bt135.2.1).bind fun t141 => (if t141 = true then (antiphonlaw7_FieldClasses.j1 kj12 a1 l2 (bt130.2.2 != bt135.2.2)) else (antiphonlaw7_FieldClasses.j1 kj12 a1 l2 true))) else (antiphonlaw7_FieldClasses.j1 kj12 a1 l2 true)) else (antiphonlaw7_FieldClasses.j1 kj12 a1 l2 true))) else (antiphonlaw7_FieldClasses.j1 kj12 a1 l2 true)))) = some r := H
            have A62 := Aside0.mk A620
            clear A620
            replace H := Option.bind_eq_some_iff.mp H
            obtain ⟨⟨t130, t131, t132⟩, A630, H⟩ := H
            replace H : ((antiphonref6_GetStatus.f kj12 l2).bind fun bt135 => (if t123 = t127 then ((antiphonref1_Same.f kj12 t122 t126).bind fun t140 => (if t140 = true then (if t130 = bt135.1 then ((antiphonref1_Same.f kj12 t131 bt135.2.1).bind fun t141 => (if t141 = true then (antiphonlaw7_FieldClasses.j1 kj12 a1 l2 (t132 != bt135.2.2)) else (antiphonlaw7_FieldClasses.j1 kj12 a1 l2 true))) else (antiphonlaw7_FieldClasses.j1 kj12 a1 l2 true)) else (antiphonlaw7_FieldClasses.j1 kj12 a1 l2 true))) else (antiphonlaw7_FieldClasses.j1 kj12 a1 l2 true))) = some r := H
            have A63 := Aside0.mk A630
            clear A630
            replace H := Option.bind_eq_some_iff.mp H
            obtain ⟨⟨t135, t136, t137⟩, A640, H⟩ := H
            replace H : (if t123 = t127 then ((antiphonref1_Same.f kj12 t122 t126).bind fun t140 => (if t140 = true then (if t130 = t135 then ((antiphonref1_Same.f kj12 t131 t136).bind fun t141 => (if t141 = true then (antiphonlaw7_FieldClasses.j1 kj12 a1 l2 (t132 != t137)) else (antiphonlaw7_FieldClasses.j1 kj12 a1 l2 true))) else (antiphonlaw7_FieldClasses.j1 kj12 a1 l2 true)) else (antiphonlaw7_FieldClasses.j1 kj12 a1 l2 true))) else (antiphonlaw7_FieldClasses.j1 kj12 a1 l2 true)) = some r := H
            have A64 := Aside0.mk A640
            clear A640
            have HC65 := Aside0.mk H
            clear H
            go_upto_region 15 with (first | ((with_reducible refine gate_callee (f := 49) rfl ?_); refine goesL_ (some 98) rfl rfl Try.func49 (by kernel_rfl) rfl #[.int .i64 a1, .slice A2 l2.length c2] rfl (by (try simp only [List.map_toArray, List.map_cons, List.map_nil]); first | done | rfl | (simp only [List.length_drop, List.length_take]; rfl)) ?_; (with_reducible refine (field_PutStatus.calls a1 _ _ l2 t122 t123 _ ?side1 ?side2 A61.out).mono ?_); (case side1 => repeat (first | exact (Kd.C_below HR2.out HB.out) | (with_reducible refine Kd.C_alloc ?_ _) | (with_reducible refine Kd.C_drewN ?_ _) | (with_reducible refine Kd.C_drew ?_))); (case side2 => exact HC2.out); rintro e w66 ⟨v124, rfl, ho0, hb⟩; refine ⟨_, rfl, ?_⟩; have n0_ := Aside0.mk (Kd.R_lower ho0 (below_size (by repeat (first | (with_reducible first | exact HB.out | apply below_alloc | apply pw_below_drewN | apply below_drew1 | refine below_set ?_ GE101.out | refine below_set ?_ GE115.out | refine below_set ?_ GE120.out) | exact HB.out)))); have n1_ := Aside0.mk (blk_below (g := gb101) (o := .cells #[.int .i64 a0_0, .int .i64 a0_1, .int .i64 a0_2] 56 (0, 0)) (by (with_reducible repeat (first | refine blk_drewN ?_ _ | refine blk_drew ?_ | refine blk_alloc ?_ _)); exact BK101.out) hb); have n2_ := Aside0.mk (blk_below (g := gb115) (o := .cells #[.int .i64 t111, .int .i64 t112, .int .i64 t113] 46 (0, 0)) (by (with_reducible repeat (first | refine blk_drewN ?_ _ | refine blk_drew ?_ | refine blk_alloc ?_ _)); exact BK115.out) hb); have n3_ := Aside0.mk (blk_below (g := gb120) (o := .cells #[.int .i64 t116, .int .i64 t117, .int .i64 t118] 56 (0, 0)) (by (with_reducible repeat (first | refine blk_drewN ?_ _ | refine blk_drew ?_ | refine blk_alloc ?_ _)); exact BK120.out) hb); have n4_ := Aside0.mk (below_step (by repeat (first | (with_reducible first | exact HB.out | apply below_alloc | apply pw_below_drewN | apply below_drew1 | refine below_set ?_ GE101.out | refine below_set ?_ GE115.out | refine below_set ?_ GE120.out) | exact HB.out)) hb); clear BK101; clear BK115; clear BK120; clear HB; have HO125 := n0_; have BK101 := n1_; have BK115 := n2_; have BK120 := n3_; have HB := n4_; clear n0_ n1_ n2_ n3_ n4_; (try clear hb); (try clear hb2); (try clear hk); (try clear hi); (try clear ho0)) | ((with_reducible refine gate_callee (f := 50) rfl ?_); refine goesL_ (some 104) rfl rfl Try.func50 (by kernel_rfl) rfl #[.int .i64 a1, .slice A2 l2.length c2] rfl (by (try simp only [List.map_toArray, List.map_cons, List.map_nil]); first | done | rfl | (simp only [List.length_drop, List.length_take]; rfl)) ?_; (with_reducible refine (antiphonref6_PutStatus.calls a1 _ _ l2 t126 t127 _ ?side1 ?side2 A62.out).mono ?_); (case side1 => repeat (first | exact (Kd.C_below HR2.out HB.out) | (with_reducible refine Kd.C_alloc ?_ _) | (with_reducible refine Kd.C_drewN ?_ _) | (with_reducible refine Kd.C_drew ?_))); (case side2 => exact HC2.out); rintro e w67 ⟨v128, rfl, ho0, hb⟩; refine ⟨_, rfl, ?_⟩; have n0_ := Aside0.mk (Kd.R_elder' (by (with_reducible repeat (first | apply Kd.R_alloc | apply Kd.R_drewN | apply Kd.R_drew)); exact HO125.out) (Kd.R_base ho0) hb); have n1_ := Aside0.mk (Kd.R_lower (Kd.R_new' ho0 (Kd.R_lt (by (with_reducible repeat (first | apply Kd.R_alloc | apply Kd.R_drewN | apply Kd.R_drew)); exact HO125.out))) (below_size (by repeat (first | (with_reducible first | exact HB.out | apply below_alloc | apply pw_below_drewN | apply below_drew1 | refine below_set ?_ GE101.out | refine below_set ?_ GE115.out | refine below_set ?_ GE120.out) | exact HB.out)))); have n2_ := Aside0.mk (blk_below (g := gb101) (o := .cells #[.int .i64 a0_0, .int .i64 a0_1, .int .i64 a0_2] 56 (0, 0)) (by (with_reducible repeat (first | refine blk_drewN ?_ _ | refine blk_drew ?_ | refine blk_alloc ?_ _)); exact BK101.out) hb); have n3_ := Aside0.mk (blk_below (g := gb115) (o := .cells #[.int .i64 t111, .int .i64 t112, .int .i64 t113] 46 (0, 0)) (by (with_reducible repeat (first | refine blk_drewN ?_ _ | refine blk_drew ?_ | refine blk_alloc ?_ _)); exact BK115.out) hb); have n4_ := Aside0.mk (blk_below (g := gb120) (o := .cells #[.int .i64 t116, .int .i64 t117, .int .i64 t118] 56 (0, 0)) (by (with_reducible repeat (first | refine blk_drewN ?_ _ | refine blk_drew ?_ | refine blk_alloc ?_ _)); exact BK120.out) hb); have n5_ := Aside0.mk (below_step (by repeat (first | (with_reducible first | exact HB.out | apply below_alloc | apply pw_below_drewN | apply below_drew1 | refine below_set ?_ GE101.out | refine below_set ?_ GE115.out | refine below_set ?_ GE120.out) | exact HB.out)) hb); clear HO125; clear BK101; clear BK115; clear BK120; clear HB; have HO125 := n0_; have HO129 := n1_; have BK101 := n2_; have BK115 := n3_; have BK120 := n4_; have HB := n5_; clear n0_ n1_ n2_ n3_ n4_ n5_; (try clear hb); (try clear hb2); (try clear hk); (try clear hi); (try clear ho0)) | ((with_reducible refine gate_callee (f := 43) rfl ?_); refine goesL_ (some 109) rfl rfl Try.func43 (by kernel_rfl) rfl #[.slice A2 l2.length c2] rfl (by (try simp only [List.map_toArray, List.map_cons, List.map_nil]); first | done | rfl | (simp only [List.length_drop, List.length_take]; rfl)) ?_; (with_reducible refine (field_GetStatus.calls _ _ l2 t130 t131 t132 _ ?side1 ?side2 A63.out).mono ?_); (case side1 => repeat (first | exact (Kd.C_below HR2.out HB.out) | (with_reducible refine Kd.C_alloc ?_ _) | (with_reducible refine Kd.C_drewN ?_ _) | (with_reducible refine Kd.C_drew ?_))); (case side2 => exact HC2.out); rintro e w68 ⟨v133, rfl, ho0, hb⟩; refine ⟨_, rfl, ?_⟩; have n0_ := Aside0.mk (Kd.R_elder' (by (with_reducible repeat (first | apply Kd.R_alloc | apply Kd.R_drewN | apply Kd.R_drew)); exact HO125.out) (Kd.R_base ho0) hb); have n1_ := Aside0.mk (Kd.R_elder' (by (with_reducible repeat (first | apply Kd.R_alloc | apply Kd.R_drewN | apply Kd.R_drew)); exact HO129.out) (Kd.R_base ho0) hb); have n2_ := Aside0.mk (Kd.R_lower (Kd.R_new' (Kd.R_new' ho0 (Kd.R_lt (by (with_reducible repeat (first | apply Kd.R_alloc | apply Kd.R_drewN | apply Kd.R_drew)); exact HO125.out))) (Kd.R_lt (by (with_reducible repeat (first | apply Kd.R_alloc | apply Kd.R_drewN | apply Kd.R_drew)); exact HO129.out))) (below_size (by repeat (first | (with_reducible first | exact HB.out | apply below_alloc | apply pw_below_drewN | apply below_drew1 | refine below_set ?_ GE101.out | refine below_set ?_ GE115.out | refine below_set ?_ GE120.out) | exact HB.out)))); have n3_ := Aside0.mk (blk_below (g := gb101) (o := .cells #[.int .i64 a0_0, .int .i64 a0_1, .int .i64 a0_2] 56 (0, 0)) (by (with_reducible repeat (first | refine blk_drewN ?_ _ | refine blk_drew ?_ | refine blk_alloc ?_ _)); exact BK101.out) hb); have n4_ := Aside0.mk (blk_below (g := gb115) (o := .cells #[.int .i64 t111, .int .i64 t112, .int .i64 t113] 46 (0, 0)) (by (with_reducible repeat (first | refine blk_drewN ?_ _ | refine blk_drew ?_ | refine blk_alloc ?_ _)); exact BK115.out) hb); have n5_ := Aside0.mk (blk_below (g := gb120) (o := .cells #[.int .i64 t116, .int .i64 t117, .int .i64 t118] 56 (0, 0)) (by (with_reducible repeat (first | refine blk_drewN ?_ _ | refine blk_drew ?_ | refine blk_alloc ?_ _)); exact BK120.out) hb); have n6_ := Aside0.mk (below_step (by repeat (first | (with_reducible first | exact HB.out | apply below_alloc | apply pw_below_drewN | apply below_drew1 | refine below_set ?_ GE101.out | refine below_set ?_ GE115.out | refine below_set ?_ GE120.out) | exact HB.out)) hb); clear HO125; clear HO129; clear BK101; clear BK115; clear BK120; clear HB; have HO125 := n0_; have HO129 := n1_; have HO134 := n2_; have BK101 := n3_; have BK115 := n4_; have BK120 := n5_; have HB := n6_; clear n0_ n1_ n2_ n3_ n4_ n5_ n6_; (try clear hb); (try clear hb2); (try clear hk); (try clear hi); (try clear ho0)) | ((with_reducible refine gate_callee (f := 51) rfl ?_); refine goesL_ (some 115) rfl rfl Try.func51 (by kernel_rfl) rfl #[.slice A2 l2.length c2] rfl (by (try simp only [List.map_toArray, List.map_cons, List.map_nil]); first | done | rfl | (simp only [List.length_drop, List.length_take]; rfl)) ?_; (with_reducible refine (antiphonref6_GetStatus.calls kj12 _ _ l2 t135 t136 t137 _ ?side1 ?side2 A64.out).mono ?_); (case side1 => repeat (first | exact (Kd.C_below HR2.out HB.out) | (with_reducible refine Kd.C_alloc ?_ _) | (with_reducible refine Kd.C_drewN ?_ _) | (with_reducible refine Kd.C_drew ?_))); (case side2 => exact HC2.out); rintro e w69 ⟨v138, rfl, ho0, hb⟩; refine ⟨_, rfl, ?_⟩; have n0_ := Aside0.mk (Kd.R_elder' (by (with_reducible repeat (first | apply Kd.R_alloc | apply Kd.R_drewN | apply Kd.R_drew)); exact HO125.out) (Kd.R_base ho0) hb); have n1_ := Aside0.mk (Kd.R_elder' (by (with_reducible repeat (first | apply Kd.R_alloc | apply Kd.R_drewN | apply Kd.R_drew)); exact HO129.out) (Kd.R_base ho0) hb); have n2_ := Aside0.mk (Kd.R_elder' (by (with_reducible repeat (first | apply Kd.R_alloc | apply Kd.R_drewN | apply Kd.R_drew)); exact HO134.out) (Kd.R_base ho0) hb); have n3_ := Aside0.mk (Kd.R_lower (Kd.R_new' (Kd.R_new' (Kd.R_new' ho0 (Kd.R_lt (by (with_reducible repeat (first | apply Kd.R_alloc | apply Kd.R_drewN | apply Kd.R_drew)); exact HO125.out))) (Kd.R_lt (by (with_reducible repeat (first | apply Kd.R_alloc | apply Kd.R_drewN | apply Kd.R_drew)); exact HO129.out))) (Kd.R_lt (by (with_reducible repeat (first | apply Kd.R_alloc | apply Kd.R_drewN | apply Kd.R_drew)); exact HO134.out))) (below_size (by repeat (first | (with_reducible first | exact HB.out | apply below_alloc | apply pw_below_drewN | apply below_drew1 | refine below_set ?_ GE101.out | refine below_set ?_ GE115.out | refine below_set ?_ GE120.out) | exact HB.out)))); have n4_ := Aside0.mk (blk_below (g := gb101) (o := .cells #[.int .i64 a0_0, .int .i64 a0_1, .int .i64 a0_2] 56 (0, 0)) (by (with_reducible repeat (first | refine blk_drewN ?_ _ | refine blk_drew ?_ | refine blk_alloc ?_ _)); exact BK101.out) hb); have n5_ := Aside0.mk (blk_below (g := gb115) (o := .cells #[.int .i64 t111, .int .i64 t112, .int .i64 t113] 46 (0, 0)) (by (with_reducible repeat (first | refine blk_drewN ?_ _ | refine blk_drew ?_ | refine blk_alloc ?_ _)); exact BK115.out) hb); have n6_ := Aside0.mk (blk_below (g := gb120) (o := .cells #[.int .i64 t116, .int .i64 t117, .int .i64 t118] 56 (0, 0)) (by (with_reducible repeat (first | refine blk_drewN ?_ _ | refine blk_drew ?_ | refine blk_alloc ?_ _)); exact BK120.out) hb); have n7_ := Aside0.mk (below_step (by repeat (first | (with_reducible first | exact HB.out | apply below_alloc | apply pw_below_drewN | apply below_drew1 | refine below_set ?_ GE101.out | refine below_set ?_ GE115.out | refine below_set ?_ GE120.out) | exact HB.out)) hb); clear HO125; clear HO129; clear HO134; clear BK101; clear BK115; clear BK120; clear HB; have HO125 := n0_; have HO129 := n1_; have HO134 := n2_; have HO139 := n3_; have BK101 := n4_; have BK115 := n5_; have BK120 := n6_; have HB := n7_; clear n0_ n1_ n2_ n3_ n4_ n5_ n6_ n7_; (try clear hb); (try clear hb2); (try clear hk); (try clear hi); (try clear ho0)))
            (try simp only [Act.put, List.setIfInBounds_toArray, List.set_cons_zero, List.set_cons_succ])
            go_cut [143] (fun v143 wc => ∃ (kq : Nat) (x143_64 : Bool), v143 = .bool x143_64 ∧ Aside0 (antiphonlaw7_FieldClasses.j1 kq a1 l2 x143_64 = some r) ∧ Aside0 (kq ≤ kj12) ∧ Aside0 (wc.heap[gb101]? = some (.cells #[.int .i64 a0_0, .int .i64 a0_1, .int .i64 a0_2] 56 (0, 0))) ∧ Aside0 (wc.heap[gb115]? = some (.cells #[.int .i64 t111, .int .i64 t112, .int .i64 t113] 46 (0, 0))) ∧ Aside0 (wc.heap[gb120]? = some (.cells #[.int .i64 t116, .int .i64 t117, .int .i64 t118] 56 (0, 0))) ∧ Aside0 (Below w.heap.size w wc))
            case first =>
              have H := HC65.out
              clear HC65
              by_cases c70 : t123 = t127
              · rw [if_pos c70] at H
                have c70b0 : (t123 == t127) = true := beq_iff_eq.mpr c70
                have c70b1 : (t123 != t127) = false := bne_eq_false_iff_eq.mpr c70
                clear c70
                (first | rw [c70b0] | (simp only [i64_w, i32_w]; rw [c70b0]) | skip)
                replace H := Option.bind_eq_some_iff.mp H
                obtain ⟨t140, A710, H⟩ := H
                replace H : (if t140 = true then (if t130 = t135 then ((antiphonref1_Same.f kj12 t131 t136).bind fun t141 => (if t141 = true then (antiphonlaw7_FieldClasses.j1 kj12 a1 l2 (t132 != t137)) else (antiphonlaw7_FieldClasses.j1 kj12 a1 l2 true))) else (antiphonlaw7_FieldClasses.j1 kj12 a1 l2 true)) else (antiphonlaw7_FieldClasses.j1 kj12 a1 l2 true)) = some r := H
                have A71 := Aside0.mk A710
                clear A710
                by_cases c72 : t140 = true
                · subst c72
                  have H1 : (if t130 = t135 then ((antiphonref1_Same.f kj12 t131 t136).bind fun t141 => (if t141 = true then (antiphonlaw7_FieldClasses.j1 kj12 a1 l2 (t132 != t137)) else (antiphonlaw7_FieldClasses.j1 kj12 a1 l2 true))) else (antiphonlaw7_FieldClasses.j1 kj12 a1 l2 true)) = some r := by rw [if_pos rfl] at H; exact H
                  clear H
                  have H := H1
                  clear H1
                  by_cases c73 : t130 = t135
                  · rw [if_pos c73] at H
                    have c73b0 : (t130 == t135) = true := beq_iff_eq.mpr c73
                    have c73b1 : (t130 != t135) = false := bne_eq_false_iff_eq.mpr c73
                    clear c73
                    replace H := Option.bind_eq_some_iff.mp H
                    obtain ⟨t141, A740, H⟩ := H
                    replace H : (if t141 = true then (antiphonlaw7_FieldClasses.j1 kj12 a1 l2 (t132 != t137)) else (antiphonlaw7_FieldClasses.j1 kj12 a1 l2 true)) = some r := H
                    have A74 := Aside0.mk A740
                    clear A740
                    by_cases c75 : t141 = true
                    · subst c75
                      have H1 : (antiphonlaw7_FieldClasses.j1 kj12 a1 l2 (t132 != t137)) = some r := by rw [if_pos rfl] at H; exact H
                      clear H
                      have H := H1
                      clear H1
                      have H' := Aside0.mk H
                      clear H
                      obtain ⟨Ao76, co76, eo76⟩ := Kd.R_slice HO125.out
                      subst eo76
                      obtain ⟨Ao77, co77, eo77⟩ := Kd.R_slice HO129.out
                      subst eo77
                      go_wp2_with (first | (go_at_call 36; (with_reducible refine (antiphonref1_Same.calls kj12 _ _ t122 _ _ t126 true _ ?side1 ?side2 ?side3 ?side4 A71.out).mono ?_); (case side1 => repeat (first | exact (Kd.R_reads' HO125.out).2.2 | (with_reducible refine Kd.C_alloc ?_ _) | (with_reducible refine Kd.C_drewN ?_ _) | (with_reducible refine Kd.C_drew ?_))); (case side2 => exact (Kd.R_reads' HO125.out).2.1); (case side3 => repeat (first | exact (Kd.R_reads' HO129.out).2.2 | (with_reducible refine Kd.C_alloc ?_ _) | (with_reducible refine Kd.C_drewN ?_ _) | (with_reducible refine Kd.C_drew ?_))); (case side4 => exact (Kd.R_reads' HO129.out).2.1); rintro e w' ⟨rfl, ⟨nd, rfl⟩⟩; obtain ⟨Ao78, co78, eo78⟩ := Kd.R_slice HO134.out; subst eo78; obtain ⟨Ao79, co79, eo79⟩ := Kd.R_slice HO139.out; subst eo79) | (go_at_call 36; (with_reducible refine (antiphonref1_Same.calls kj12 _ _ t131 _ _ t136 true _ ?side1 ?side2 ?side3 ?side4 A74.out).mono ?_); (case side1 => repeat (first | exact (Kd.R_reads' HO134.out).2.2 | (with_reducible refine Kd.C_alloc ?_ _) | (with_reducible refine Kd.C_drewN ?_ _) | (with_reducible refine Kd.C_drew ?_))); (case side2 => exact (Kd.R_reads' HO134.out).2.1); (case side3 => repeat (first | exact (Kd.R_reads' HO139.out).2.2 | (with_reducible refine Kd.C_alloc ?_ _) | (with_reducible refine Kd.C_drewN ?_ _) | (with_reducible refine Kd.C_drew ?_))); (case side4 => exact (Kd.R_reads' HO139.out).2.1); rintro e w' ⟨rfl, ⟨nd, rfl⟩⟩))
                      go_meet
                      case rel => exact ⟨_, ((t132 != t137)), (by first | rfl | (simp; done) | (simp [*]; done)), H', ⟨by have := HJ12.out; first | omega | exact Nat.le_refl _⟩, ⟨by (with_reducible repeat (first | refine blk_drewN ?_ _ | refine blk_drew ?_ | refine blk_alloc ?_ _)); exact BK101.out⟩, ⟨by (with_reducible repeat (first | refine blk_drewN ?_ _ | refine blk_drew ?_ | refine blk_alloc ?_ _)); exact BK115.out⟩, ⟨by (with_reducible repeat (first | refine blk_drewN ?_ _ | refine blk_drew ?_ | refine blk_alloc ?_ _)); exact BK120.out⟩, ⟨by repeat (first | (with_reducible first | exact HB.out | apply below_alloc | apply pw_below_drewN | apply below_drew1 | refine below_set ?_ GE101.out | refine below_set ?_ GE115.out | refine below_set ?_ GE120.out) | exact HB.out)⟩⟩
                    · replace c75 := Bool.eq_false_iff.mpr c75
                      subst c75
                      have H1 : (antiphonlaw7_FieldClasses.j1 kj12 a1 l2 true) = some r := by rw [if_neg (show ¬ (false = true) by decide)] at H; exact H
                      clear H
                      have H := H1
                      clear H1
                      have H' := Aside0.mk H
                      clear H
                      obtain ⟨Ao80, co80, eo80⟩ := Kd.R_slice HO125.out
                      subst eo80
                      obtain ⟨Ao81, co81, eo81⟩ := Kd.R_slice HO129.out
                      subst eo81
                      go_wp2_with (first | (go_at_call 36; (with_reducible refine (antiphonref1_Same.calls kj12 _ _ t122 _ _ t126 true _ ?side1 ?side2 ?side3 ?side4 A71.out).mono ?_); (case side1 => repeat (first | exact (Kd.R_reads' HO125.out).2.2 | (with_reducible refine Kd.C_alloc ?_ _) | (with_reducible refine Kd.C_drewN ?_ _) | (with_reducible refine Kd.C_drew ?_))); (case side2 => exact (Kd.R_reads' HO125.out).2.1); (case side3 => repeat (first | exact (Kd.R_reads' HO129.out).2.2 | (with_reducible refine Kd.C_alloc ?_ _) | (with_reducible refine Kd.C_drewN ?_ _) | (with_reducible refine Kd.C_drew ?_))); (case side4 => exact (Kd.R_reads' HO129.out).2.1); rintro e w' ⟨rfl, ⟨nd, rfl⟩⟩; obtain ⟨Ao82, co82, eo82⟩ := Kd.R_slice HO134.out; subst eo82; obtain ⟨Ao83, co83, eo83⟩ := Kd.R_slice HO139.out; subst eo83) | (go_at_call 36; (with_reducible refine (antiphonref1_Same.calls kj12 _ _ t131 _ _ t136 false _ ?side1 ?side2 ?side3 ?side4 A74.out).mono ?_); (case side1 => repeat (first | exact (Kd.R_reads' HO134.out).2.2 | (with_reducible refine Kd.C_alloc ?_ _) | (with_reducible refine Kd.C_drewN ?_ _) | (with_reducible refine Kd.C_drew ?_))); (case side2 => exact (Kd.R_reads' HO134.out).2.1); (case side3 => repeat (first | exact (Kd.R_reads' HO139.out).2.2 | (with_reducible refine Kd.C_alloc ?_ _) | (with_reducible refine Kd.C_drewN ?_ _) | (with_reducible refine Kd.C_drew ?_))); (case side4 => exact (Kd.R_reads' HO139.out).2.1); rintro e w' ⟨rfl, ⟨nd, rfl⟩⟩))
                      go_meet
                      case rel => exact ⟨_, (true), (by first | rfl | (simp; done) | (simp [*]; done)), H', ⟨by have := HJ12.out; first | omega | exact Nat.le_refl _⟩, ⟨by (with_reducible repeat (first | refine blk_drewN ?_ _ | refine blk_drew ?_ | refine blk_alloc ?_ _)); exact BK101.out⟩, ⟨by (with_reducible repeat (first | refine blk_drewN ?_ _ | refine blk_drew ?_ | refine blk_alloc ?_ _)); exact BK115.out⟩, ⟨by (with_reducible repeat (first | refine blk_drewN ?_ _ | refine blk_drew ?_ | refine blk_alloc ?_ _)); exact BK120.out⟩, ⟨by repeat (first | (with_reducible first | exact HB.out | apply below_alloc | apply pw_below_drewN | apply below_drew1 | refine below_set ?_ GE101.out | refine below_set ?_ GE115.out | refine below_set ?_ GE120.out) | exact HB.out)⟩⟩
                  · rw [if_neg c73] at H
                    have c73b0 : (t130 == t135) = false := beq_eq_false_iff_ne.mpr c73
                    have c73b1 : (t130 != t135) = true := bne_iff_ne.mpr c73
                    have H' := Aside0.mk H
                    clear H
                    obtain ⟨Ao84, co84, eo84⟩ := Kd.R_slice HO125.out
                    subst eo84
                    obtain ⟨Ao85, co85, eo85⟩ := Kd.R_slice HO129.out
                    subst eo85
                    go_wp2_with (first | (go_at_call 36; (with_reducible refine (antiphonref1_Same.calls kj12 _ _ t122 _ _ t126 true _ ?side1 ?side2 ?side3 ?side4 A71.out).mono ?_); (case side1 => repeat (first | exact (Kd.R_reads' HO125.out).2.2 | (with_reducible refine Kd.C_alloc ?_ _) | (with_reducible refine Kd.C_drewN ?_ _) | (with_reducible refine Kd.C_drew ?_))); (case side2 => exact (Kd.R_reads' HO125.out).2.1); (case side3 => repeat (first | exact (Kd.R_reads' HO129.out).2.2 | (with_reducible refine Kd.C_alloc ?_ _) | (with_reducible refine Kd.C_drewN ?_ _) | (with_reducible refine Kd.C_drew ?_))); (case side4 => exact (Kd.R_reads' HO129.out).2.1); rintro e w' ⟨rfl, ⟨nd, rfl⟩⟩))
                    go_meet
                    case rel => exact ⟨_, (true), (by first | rfl | (simp; done) | (simp [*]; done)), H', ⟨by have := HJ12.out; first | omega | exact Nat.le_refl _⟩, ⟨by (with_reducible repeat (first | refine blk_drewN ?_ _ | refine blk_drew ?_ | refine blk_alloc ?_ _)); exact BK101.out⟩, ⟨by (with_reducible repeat (first | refine blk_drewN ?_ _ | refine blk_drew ?_ | refine blk_alloc ?_ _)); exact BK115.out⟩, ⟨by (with_reducible repeat (first | refine blk_drewN ?_ _ | refine blk_drew ?_ | refine blk_alloc ?_ _)); exact BK120.out⟩, ⟨by repeat (first | (with_reducible first | exact HB.out | apply below_alloc | apply pw_below_drewN | apply below_drew1 | refine below_set ?_ GE101.out | refine below_set ?_ GE115.out | refine below_set ?_ GE120.out) | exact HB.out)⟩⟩
                · replace c72 := Bool.eq_false_iff.mpr c72
                  subst c72
                  have H1 : (antiphonlaw7_FieldClasses.j1 kj12 a1 l2 true) = some r := by rw [if_neg (show ¬ (false = true) by decide)] at H; exact H
                  clear H
                  have H := H1
                  clear H1
                  have H' := Aside0.mk H
                  clear H
                  obtain ⟨Ao86, co86, eo86⟩ := Kd.R_slice HO125.out
                  subst eo86
                  obtain ⟨Ao87, co87, eo87⟩ := Kd.R_slice HO129.out
                  subst eo87
                  go_wp2_with (first | (go_at_call 36; (with_reducible refine (antiphonref1_Same.calls kj12 _ _ t122 _ _ t126 false _ ?side1 ?side2 ?side3 ?side4 A71.out).mono ?_); (case side1 => repeat (first | exact (Kd.R_reads' HO125.out).2.2 | (with_reducible refine Kd.C_alloc ?_ _) | (with_reducible refine Kd.C_drewN ?_ _) | (with_reducible refine Kd.C_drew ?_))); (case side2 => exact (Kd.R_reads' HO125.out).2.1); (case side3 => repeat (first | exact (Kd.R_reads' HO129.out).2.2 | (with_reducible refine Kd.C_alloc ?_ _) | (with_reducible refine Kd.C_drewN ?_ _) | (with_reducible refine Kd.C_drew ?_))); (case side4 => exact (Kd.R_reads' HO129.out).2.1); rintro e w' ⟨rfl, ⟨nd, rfl⟩⟩))
                  go_meet
                  case rel => exact ⟨_, (true), (by first | rfl | (simp; done) | (simp [*]; done)), H', ⟨by have := HJ12.out; first | omega | exact Nat.le_refl _⟩, ⟨by (with_reducible repeat (first | refine blk_drewN ?_ _ | refine blk_drew ?_ | refine blk_alloc ?_ _)); exact BK101.out⟩, ⟨by (with_reducible repeat (first | refine blk_drewN ?_ _ | refine blk_drew ?_ | refine blk_alloc ?_ _)); exact BK115.out⟩, ⟨by (with_reducible repeat (first | refine blk_drewN ?_ _ | refine blk_drew ?_ | refine blk_alloc ?_ _)); exact BK120.out⟩, ⟨by repeat (first | (with_reducible first | exact HB.out | apply below_alloc | apply pw_below_drewN | apply below_drew1 | refine below_set ?_ GE101.out | refine below_set ?_ GE115.out | refine below_set ?_ GE120.out) | exact HB.out)⟩⟩
              · rw [if_neg c70] at H
                have c70b0 : (t123 == t127) = false := beq_eq_false_iff_ne.mpr c70
                have c70b1 : (t123 != t127) = true := bne_iff_ne.mpr c70
                (first | rw [c70b0] | (simp only [i64_w, i32_w]; rw [c70b0]) | skip)
                have H' := Aside0.mk H
                clear H
                go_wp2
                go_meet
                case rel => exact ⟨_, (true), (by first | rfl | (simp; done) | (simp [*]; done)), H', ⟨by have := HJ12.out; first | omega | exact Nat.le_refl _⟩, ⟨by (with_reducible repeat (first | refine blk_drewN ?_ _ | refine blk_drew ?_ | refine blk_alloc ?_ _)); exact BK101.out⟩, ⟨by (with_reducible repeat (first | refine blk_drewN ?_ _ | refine blk_drew ?_ | refine blk_alloc ?_ _)); exact BK115.out⟩, ⟨by (with_reducible repeat (first | refine blk_drewN ?_ _ | refine blk_drew ?_ | refine blk_alloc ?_ _)); exact BK120.out⟩, ⟨by repeat (first | (with_reducible first | exact HB.out | apply below_alloc | apply pw_below_drewN | apply below_drew1 | refine below_set ?_ GE101.out | refine below_set ?_ GE115.out | refine below_set ?_ GE120.out) | exact HB.out)⟩⟩
            case rest =>
              clear HC65
              try clear c1
              try clear c2
              try clear p2
              try clear c3
              try clear c4
              try clear c5
              try clear c6
              try clear c6b0
              try clear c6b1
              try clear c7
              try clear c11
              try clear c22
              try clear c26
              try clear c27
              try clear c29
              try clear c29b0
              try clear c29b1
              try clear c31
              try clear c32
              try clear c32b0
              try clear c32b1
              try clear c33
              try clear c33b0
              try clear c33b1
              try clear c34
              try clear c34b0
              try clear c34b1
              try clear c37
              try clear c38
              try clear c40
              try clear c41
              try clear c43
              try clear c44
              try clear c45
              try clear c46
              try clear c47
              try clear c48
              try clear c49
              try clear c50
              try clear c51
              try clear c52
              try clear c54
              try clear c60
              try clear c70
              try clear c70b0
              try clear c70b1
              try clear c72
              try clear c73
              try clear c73b0
              try clear c73b1
              try clear c75
              try clear hcz16_0
              try clear hcz16_1
              try clear hcz16_2
              try clear hcz18_0
              try clear hcz18_1
              try clear hcz18_2
              try clear hcz23_0
              try clear hcz23_1
              try clear hcz23_2
              try clear hcz28_0
              try clear hcz28_1
              try clear hcz28_2
              try clear hcz39_0
              try clear hcz39_1
              try clear hcz39_2
              try clear hcz41_0
              try clear hcz41_1
              try clear hcz41_2
              try clear hcz46_0
              try clear hcz46_1
              try clear hcz46_2
              try clear hcz48_0
              try clear hcz48_1
              try clear hcz48_2
              try clear hcz53_0
              try clear hcz53_1
              try clear hcz53_2
              try clear hcz55_0
              try clear hcz55_1
              try clear hcz55_2
              try clear hfz16_0
              try clear hfz16_1
              try clear hfz16_2
              try clear hfz18_0
              try clear hfz18_1
              try clear hfz18_2
              try clear hfz23_0
              try clear hfz23_1
              try clear hfz23_2
              try clear hfz28_0
              try clear hfz28_1
              try clear hfz28_2
              try clear hfz39_0
              try clear hfz39_1
              try clear hfz39_2
              try clear hfz41_0
              try clear hfz41_1
              try clear hfz41_2
              try clear hfz46_0
              try clear hfz46_1
              try clear hfz46_2
              try clear hfz48_0
              try clear hfz48_1
              try clear hfz48_2
              try clear hfz53_0
              try clear hfz53_1
              try clear hfz53_2
              try clear hfz55_0
              try clear hfz55_1
              try clear hfz55_2
              try clear p2
              obtain ⟨kq, x143_64, rfl, HA, HJ64, BK101, BK115, BK120, HB⟩ := hcut
              cases kq with
              | zero => exact absurd HA.out (by simp [antiphonlaw7_FieldClasses.j1])
              | succ kj64 =>
                have H := HA.out
                clear HA
                simp only [antiphonlaw7_FieldClasses.j1] at H
                by_cases c88 : x143_64 = true
                · subst c88
                  have H1 : (none) = some r := by rw [if_pos rfl] at H; exact H
                  clear H
                  have H := H1
                  clear H1
                  exact absurd H (by simp)
                · replace c88 := Bool.eq_false_iff.mpr c88
                  subst c88
                  have H1 : ((field_ReadNumber.f kj64 l2).bind fun bt142 => ((antiphonref6_ReadNumber.f kj64 l2).bind fun bt144 => (if bt142.1 = bt144.1 then (if (bt142.2 == bt144.2) = true then ((field_Number.f kj64 a1).bind fun t146 => ((antiphonref6_Number.f kj64 a1).bind fun t149 => ((antiphonref1_Same.f kj64 t146 t149).bind fun t152 => (some t152)))) else (none)) else (none)))) = some r := by rw [if_neg (show ¬ (false = true) by decide)] at H; exact H
                  clear H
                  have H := H1
                  clear H1
                  replace H := Option.bind_eq_some_iff.mp H
                  obtain ⟨⟨t142, t143⟩, A890, H⟩ := H
                  replace H : ((antiphonref6_ReadNumber.f kj64 l2).bind fun bt144 => (if t142 = bt144.1 then (if (t143 == bt144.2) = true then ((field_Number.f kj64 a1).bind fun t146 => ((antiphonref6_Number.f kj64 a1).bind fun t149 => ((antiphonref1_Same.f kj64 t146 t149).bind fun t152 => (some t152)))) else (none)) else (none))) = some r := H
                  have A89 := Aside0.mk A890
                  clear A890
                  replace H := Option.bind_eq_some_iff.mp H
                  obtain ⟨⟨t144, t145⟩, A900, H⟩ := H
                  replace H : (if t142 = t144 then (if (t143 == t145) = true then ((field_Number.f kj64 a1).bind fun t146 => ((antiphonref6_Number.f kj64 a1).bind fun t149 => ((antiphonref1_Same.f kj64 t146 t149).bind fun t152 => (some t152)))) else (none)) else (none)) = some r := H
                  have A90 := Aside0.mk A900
                  clear A900
                  by_cases c91 : t142 = t144
                  · rw [if_pos c91] at H
                    have c91b0 : (t142 == t144) = true := beq_iff_eq.mpr c91
                    have c91b1 : (t142 != t144) = false := bne_eq_false_iff_eq.mpr c91
                    clear c91
                    by_cases c92 : (t143 == t145) = true
                    · rw [if_pos c92] at H
                      have c92b0 : (t143 == t145) = true := c92
                      (try (have c92b1 : decide (t143 = t145) = true := by simpa using c92))
                      (try (have c92b2 : (t143 == t145) = true := by simpa using c92))
                      clear c92
                      replace H := Option.bind_eq_some_iff.mp H
                      obtain ⟨t146, A930, H⟩ := H
                      replace H : ((antiphonref6_Number.f kj64 a1).bind fun t149 => ((antiphonref1_Same.f kj64 t146 t149).bind fun t152 => (some t152))) = some r := H
                      have A93 := Aside0.mk A930
                      clear A930
                      replace H := Option.bind_eq_some_iff.mp H
                      obtain ⟨t149, A940, H⟩ := H
                      replace H : ((antiphonref1_Same.f kj64 t146 t149).bind fun t152 => (some t152)) = some r := H
                      have A94 := Aside0.mk A940
                      clear A940
                      replace H := Option.bind_eq_some_iff.mp H
                      obtain ⟨t152, A950, H⟩ := H
                      replace H : (some t152) = some r := H
                      have A95 := Aside0.mk A950
                      clear A950
                      obtain rfl := Option.some.inj H
                      go_wp2_with (first | ((with_reducible refine gate_callee (f := 44) rfl ?_); refine goesL_ (some 146) rfl rfl Try.func44 (by kernel_rfl) rfl #[.slice A2 l2.length c2] rfl (by (try simp only [List.map_toArray, List.map_cons, List.map_nil]); first | done | rfl | (simp only [List.length_drop, List.length_take]; rfl)) ?_; (with_reducible refine (field_ReadNumber.calls kj64 _ _ l2 t142 t143 _ ?side1 ?side2 A89.out).mono ?_); (case side1 => repeat (first | exact (Kd.C_below HR2.out HB.out) | (with_reducible refine Kd.C_alloc ?_ _) | (with_reducible refine Kd.C_drewN ?_ _) | (with_reducible refine Kd.C_drew ?_))); (case side2 => exact HC2.out); rintro e w' ⟨rfl, ⟨nd, rfl⟩⟩; refine ⟨_, rfl, ?_⟩) | ((with_reducible refine gate_callee (f := 52) rfl ?_); refine goesL_ (some 151) rfl rfl Try.func52 (by kernel_rfl) rfl #[.slice A2 l2.length c2] rfl (by (try simp only [List.map_toArray, List.map_cons, List.map_nil]); first | done | rfl | (simp only [List.length_drop, List.length_take]; rfl)) ?_; (with_reducible refine (antiphonref6_ReadNumber.calls kj64 _ _ l2 t144 t145 _ ?side1 ?side2 A90.out).mono ?_); (case side1 => repeat (first | exact (Kd.C_below HR2.out (by repeat (first | (with_reducible first | exact HB.out | apply below_alloc | apply pw_below_drewN | apply below_drew1 | refine below_set ?_ GE101.out | refine below_set ?_ GE115.out | refine below_set ?_ GE120.out) | exact HB.out))) | (with_reducible refine Kd.C_alloc ?_ _) | (with_reducible refine Kd.C_drewN ?_ _) | (with_reducible refine Kd.C_drew ?_))); (case side2 => exact HC2.out); rintro e w' ⟨rfl, ⟨nd, rfl⟩⟩; refine ⟨_, rfl, ?_⟩) | (go_at_call 45; (with_reducible refine (field_Number.calls kj64 a1 t146 _ A93.out).mono ?_); rintro e w96 ⟨v147, rfl, ho0, hb⟩; have n0_ := Aside0.mk (Kd.R_lower ho0 (below_size (by repeat (first | (with_reducible first | exact HB.out | apply below_alloc | apply pw_below_drewN | apply below_drew1 | refine below_set ?_ GE101.out | refine below_set ?_ GE115.out | refine below_set ?_ GE120.out) | exact HB.out)))); have n1_ := Aside0.mk (blk_below (g := gb101) (o := .cells #[.int .i64 a0_0, .int .i64 a0_1, .int .i64 a0_2] 56 (0, 0)) (by (with_reducible repeat (first | refine blk_drewN ?_ _ | refine blk_drew ?_ | refine blk_alloc ?_ _)); exact BK101.out) hb); have n2_ := Aside0.mk (blk_below (g := gb115) (o := .cells #[.int .i64 t111, .int .i64 t112, .int .i64 t113] 46 (0, 0)) (by (with_reducible repeat (first | refine blk_drewN ?_ _ | refine blk_drew ?_ | refine blk_alloc ?_ _)); exact BK115.out) hb); have n3_ := Aside0.mk (blk_below (g := gb120) (o := .cells #[.int .i64 t116, .int .i64 t117, .int .i64 t118] 56 (0, 0)) (by (with_reducible repeat (first | refine blk_drewN ?_ _ | refine blk_drew ?_ | refine blk_alloc ?_ _)); exact BK120.out) hb); have n4_ := Aside0.mk (below_step (by repeat (first | (with_reducible first | exact HB.out | apply below_alloc | apply pw_below_drewN | apply below_drew1 | refine below_set ?_ GE101.out | refine below_set ?_ GE115.out | refine below_set ?_ GE120.out) | exact HB.out)) hb); clear BK101; clear BK115; clear BK120; clear HB; have HO148 := n0_; have BK101 := n1_; have BK115 := n2_; have BK120 := n3_; have HB := n4_; clear n0_ n1_ n2_ n3_ n4_; (try clear hb); (try clear hb2); (try clear hk); (try clear hi); (try clear ho0)) | (go_at_call 53; (with_reducible refine (antiphonref6_Number.calls kj64 a1 t149 _ A94.out).mono ?_); rintro e w97 ⟨v150, rfl, ho0, hb⟩; have n0_ := Aside0.mk (Kd.R_elder' (by (with_reducible repeat (first | apply Kd.R_alloc | apply Kd.R_drewN | apply Kd.R_drew)); exact HO148.out) (Kd.R_base ho0) hb); have n1_ := Aside0.mk (Kd.R_lower (Kd.R_new' ho0 (Kd.R_lt (by (with_reducible repeat (first | apply Kd.R_alloc | apply Kd.R_drewN | apply Kd.R_drew)); exact HO148.out))) (below_size (by repeat (first | (with_reducible first | exact HB.out | apply below_alloc | apply pw_below_drewN | apply below_drew1 | refine below_set ?_ GE101.out | refine below_set ?_ GE115.out | refine below_set ?_ GE120.out) | exact HB.out)))); have n2_ := Aside0.mk (blk_below (g := gb101) (o := .cells #[.int .i64 a0_0, .int .i64 a0_1, .int .i64 a0_2] 56 (0, 0)) (by (with_reducible repeat (first | refine blk_drewN ?_ _ | refine blk_drew ?_ | refine blk_alloc ?_ _)); exact BK101.out) hb); have n3_ := Aside0.mk (blk_below (g := gb115) (o := .cells #[.int .i64 t111, .int .i64 t112, .int .i64 t113] 46 (0, 0)) (by (with_reducible repeat (first | refine blk_drewN ?_ _ | refine blk_drew ?_ | refine blk_alloc ?_ _)); exact BK115.out) hb); have n4_ := Aside0.mk (blk_below (g := gb120) (o := .cells #[.int .i64 t116, .int .i64 t117, .int .i64 t118] 56 (0, 0)) (by (with_reducible repeat (first | refine blk_drewN ?_ _ | refine blk_drew ?_ | refine blk_alloc ?_ _)); exact BK120.out) hb); have n5_ := Aside0.mk (below_step (by repeat (first | (with_reducible first | exact HB.out | apply below_alloc | apply pw_below_drewN | apply below_drew1 | refine below_set ?_ GE101.out | refine below_set ?_ GE115.out | refine below_set ?_ GE120.out) | exact HB.out)) hb); clear HO148; clear BK101; clear BK115; clear BK120; clear HB; have HO148 := n0_; have HO151 := n1_; have BK101 := n2_; have BK115 := n3_; have BK120 := n4_; have HB := n5_; clear n0_ n1_ n2_ n3_ n4_ n5_; (try clear hb); (try clear hb2); (try clear hk); (try clear hi); (try clear ho0); obtain ⟨Ao98, co98, eo98⟩ := Kd.R_slice HO148.out; subst eo98; obtain ⟨Ao99, co99, eo99⟩ := Kd.R_slice HO151.out; subst eo99) | (go_at_call 36; (with_reducible refine (antiphonref1_Same.calls kj64 _ _ t146 _ _ t149 t152 _ ?side1 ?side2 ?side3 ?side4 A95.out).mono ?_); (case side1 => repeat (first | exact (Kd.R_reads' HO148.out).2.2 | (with_reducible refine Kd.C_alloc ?_ _) | (with_reducible refine Kd.C_drewN ?_ _) | (with_reducible refine Kd.C_drew ?_))); (case side2 => exact (Kd.R_reads' HO148.out).2.1); (case side3 => repeat (first | exact (Kd.R_reads' HO151.out).2.2 | (with_reducible refine Kd.C_alloc ?_ _) | (with_reducible refine Kd.C_drewN ?_ _) | (with_reducible refine Kd.C_drew ?_))); (case side4 => exact (Kd.R_reads' HO151.out).2.1); rintro e w' ⟨rfl, ⟨nd, rfl⟩⟩))
                      go_ret
                      exact ⟨by first | rfl | (simp [errW_none, errW_some] <;> rfl) | (simp [*, errW_none, errW_some] <;> rfl), by repeat (first | (with_reducible first | exact HB.out | apply below_alloc | apply pw_below_drewN | apply below_drew1 | refine below_set ?_ GE101.out | refine below_set ?_ GE115.out | refine below_set ?_ GE120.out) | exact HB.out)⟩
                    · rw [if_neg c92] at H
                      exact absurd H (by simp)
                  · rw [if_neg c91] at H
                    exact absurd H (by simp)
  · replace c5 := Bool.eq_false_iff.mpr c5
    subst c5
    have H1 : (none) = some r := by rw [if_neg (show ¬ (false = true) by decide)] at H; exact H
    clear H
    have H := H1
    clear H1
    exact absurd H (by simp)
end Go.Proofs.Ytnmcoebjkfpmjaa.P
/-! Open -/
namespace Go.Proofs.Ytnmcoebjkfpmjaa.Open
open Go.ChangeShapes Go.WideShapes Go.RowKit Go.Deep
open Go.Proofs.YtnmcoebjkfpmjaaW.PrintWords
set_option linter.unusedVariables false
section
variable {H : Type} {enc : TypeId × Value → H} {P : Program} {w : World} {base : Nat} {spare : Nat → Bool} {held : Bool}
theorem cells_get {cs : Array Value} {j o k : Nat} (ho : o = j) (hk : k = 1) (hj : j < cs.size) : (cs.toList.drop o).take k = [cs[j]] := by
  subst ho
  subst hk
  rw [List.drop_eq_getElem_cons (by simpa using hj)]
  simp
theorem open_fields {r : Reach} {b0 : Nat} {t : TypeId} {fs : Array Field} {v : Value} {d : DataW H} {p : List MemPlace} (hs : P.underlying t = some (.struct fs)) (hone : oneCellFields P fs = true) (hC : P.cellsOf t = fs.size)
    (hv : Value.okWide P w r b0 t v) (h : DataW.Trod enc P w base spare held t v d p) :
    ∃ cs : Array Value, v = .agg cs ∧ cs.size = fs.size ∧ ∃ n, ∀ (j : Nat) (f : Field), fs[j]? = some f → ∃ (u : Value) (y : DataW H × List MemPlace), cs[j]? = some u ∧ DataW.trod enc P w base spare held n f.type [u] = some y := by
  obtain ⟨cs, rfl, hsz⟩ := okWide_struct hs hv
  refine ⟨cs, rfl, hsz.trans hC, ?_⟩
  obtain ⟨fuel, hf⟩ := h
  obtain ⟨xs, n, _, hx, _, hlen, hg⟩ := DataW.trod_struct hs hf
  refine ⟨n, fun j f hj => ?_⟩
  obtain ⟨ho, hk⟩ := hone_of hone j f hj
  have hjl : j < fs.size := (Array.getElem?_eq_some_iff.1 hj).1
  have hjc : j < cs.size := by omega
  have h1 := hg j f hj
  have h2 : (((Value.agg cs).cells.toList).drop f.offset).take (P.cellsOf f.type) = [cs[j]] := cells_get ho hk hjc
  rw [h2] at h1
  have hxs : xs[j]? = some (xs[j]'(by omega)) := List.getElem?_eq_getElem (by omega)
  exact ⟨cs[j], _, Array.getElem?_eq_getElem hjc, h1.trans hxs⟩
def IsRow (k : IntKind) (w : World) (a : Option Addr) (len cap : Nat) (zs : List Int) : Prop :=
  (a = none ∧ len = 0 ∧ cap = 0 ∧ zs = []) ∨
  ∃ x, a = some x ∧ len ≤ cap ∧ cap ≤ maxLen ∧ zs.length = cap ∧ (∀ i, i < zs.length → w.cell? (x.add i) = some (.int k (zs.getD i 0))) ∧ ∀ n ∈ zs, (Lit.int k n).wf = true
theorem field_int {n : Nat} {t : TypeId} {k : IntKind} {u : Value} {y : DataW H × List MemPlace} (ht : P.underlying t = some (.int k)) (h : DataW.trod enc P w base spare held n t [u] = some y) : ∃ x : Int, u = .int k x ∧ (Lit.int k x).wf = true := by
  obtain ⟨x, he, _, hw⟩ := DataW.trod_int ht h
  exact ⟨x, by simpa using he, hw⟩
end
end Go.Proofs.Ytnmcoebjkfpmjaa.Open
/-! Opens -/
namespace Go.Proofs.Ytnmcoebjkfpmjaa.Open
open Go.ChangeShapes Go.WideShapes Go.RowKit Go.Deep
open Go.Proofs.YtnmcoebjkfpmjaaW.PrintWords
set_option linter.unusedVariables false
set_option maxRecDepth 100000 in
theorem open_s56 {H : Type} {enc : TypeId × Value → H} {w : World} {base : Nat} {held : Bool} {r : Reach} {b0 : Nat} {v : Value} {d : DataW H} {p : List MemPlace}
    (hv : Value.okWide Try.prog w r b0 56 v) (h : DataW.Trod enc Try.prog w base (fun _ => true) held 56 v d p) :
    ∃ (a0 : Int) (a1 : Int) (a2 : Int), v = .agg #[.int .i64 a0, .int .i64 a1, .int .i64 a2] ∧ (Lit.int .i64 a0).wf = true ∧ (Lit.int .i64 a1).wf = true ∧ (Lit.int .i64 a2).wf = true ∧ True := by
  obtain ⟨cs, rfl, hsz, n, hf⟩ := open_fields Try.underlying56 (by kernel_rfl) (by kernel_rfl) hv h
  obtain ⟨u0, y0, g0, h0⟩ := hf 0 _ rfl
  obtain ⟨u1, y1, g1, h1⟩ := hf 1 _ rfl
  obtain ⟨u2, y2, g2, h2⟩ := hf 2 _ rfl
  obtain ⟨a0, rfl, w0⟩ := field_int Try.underlying3 h0
  obtain ⟨a1, rfl, w1⟩ := field_int Try.underlying3 h1
  obtain ⟨a2, rfl, w2⟩ := field_int Try.underlying3 h2
  refine ⟨a0, a1, a2, ?_, w0, w1, w2, trivial⟩
  obtain ⟨l⟩ := cs
  match l, hsz with
  | [x0, x1, x2], _ =>
    simp at g0 g1 g2
    subst g0 g1 g2
    rfl
end Go.Proofs.Ytnmcoebjkfpmjaa.Open
/-! WalkFieldClasses -/
namespace Go.Proofs.Ytnmcoebjkfpmjaa.P
open Go.RowKit Go.Proofs.YtnmcoebjkfpmjaaW.PrintWords Go.Proofs.YtnmcoebjkfpmjaaW.PrintLast Go.Proofs.YtnmcoebjkfpmjaaW.PrintMore
set_option linter.unusedVariables false
def antiphonlaw7_FieldClasses.Pure : Prop := ∀ (a0_0 : Int) (a0_1 : Int) (a0_2 : Int) (a1 : Int) (l2 : List Int), (Lit.int .i64 a0_0).wf = true → (Lit.int .i64 a0_1).wf = true → (Lit.int .i64 a0_2).wf = true → (Lit.int .i64 a1).wf = true → l2.length ≤ maxLen → l2.length * 1 ≤ 140737488351232 → (∀ x ∈ l2, (Lit.int .u8 x).wf = true) → ∃ k, antiphonlaw7_FieldClasses.f k a0_0 a0_1 a0_2 a1 l2 = some true
theorem antiphonlaw7_FieldClasses.walk (P : antiphonlaw7_FieldClasses.Pure) (a0_0 : Int) (a0_1 : Int) (a0_2 : Int) (a1 : Int) (a2 : Option Addr) (n2 c2 : Nat) (z2 : List Int) (w : World) (w0_0 : (Lit.int .i64 a0_0).wf = true) (w0_1 : (Lit.int .i64 a0_1).wf = true) (w0_2 : (Lit.int .i64 a0_2).wf = true) (w1 : (Lit.int .i64 a1).wf = true) (w2 : Open.IsRow .u8 w a2 n2 c2 z2) (y2 : n2 * 1 ≤ 140737488351232) :
    Calls Try.prog 11 #[.agg #[.int .i64 a0_0, .int .i64 a0_1, .int .i64 a0_2], .int .i64 a1, .slice a2 n2 c2] w fun e w' => e = .returned (.bool true) ∧ Below w.heap.size w w' := by
  obtain ⟨l2, rfl, hr2, hm2, hw2, hc2⟩ := ReadsInt.ofRowC w2
  obtain ⟨k, h⟩ := P a0_0 a0_1 a0_2 a1 l2 w0_0 w0_1 w0_2 w1 hm2 y2 hw2
  refine (antiphonlaw7_FieldClasses.calls k a0_0 a0_1 a0_2 a1 _ _ l2 true w (Kd.C_of_reads (d := (0 : Int)) (h1 := fun _ => rfl) hr2) hc2 h).mono ?_
  rintro e w' ⟨rfl, hd⟩
  exact ⟨rfl, hd⟩
end Go.Proofs.Ytnmcoebjkfpmjaa.P
/-! OLib -/
namespace Go.Proofs.Ytnmcoebjkfpmjaa.Lib
set_option linter.unusedSimpArgs false
set_option linter.unusedVariables false
open Go.RowKit Go.Proofs.Ytnmcoebjkfpmjaa.P Go.Proofs.YtnmcoebjkfpmjaaW.PrintWords Go.Proofs.YtnmcoebjkfpmjaaW.PrintLast Go.Proofs.YtnmcoebjkfpmjaaW.PrintMore
theorem w64 (a : Int) (h : -9223372036854775808 ≤ a) (h' : a ≤ 9223372036854775807) : wrap64 a = a := by unfold wrap64; omega
theorem wraps_i64 (n : Int) (h₀ : 0 ≤ n) (h₁ : n < 2 ^ 62) : IntKind.i64.wrap n = n := by rw [i64_w]; exact w64 n (by omega) (by omega)
theorem or_join (i : Nat) (x y : Int) (hx₀ : 0 ≤ x) (hx : x % 2 ^ i = 0) (hx₁ : x < 2 ^ 62) (hy₀ : 0 ≤ y) (hy : y < 2 ^ i) (hy₁ : y < 2 ^ 62) : Go.bits .or .i64 x y = x + y :=
  bits_join .i64 62 (by decide) wraps_i64 i x y hx₀ hx hx₁ hy₀ hy hy₁
theorem or256 (a x : Int) (ha : 0 ≤ a) (ha' : a * 256 < 2 ^ 62) (hx : 0 ≤ x) (hx' : x < 256) : Go.bits .or .i64 (a * 256) x = a * 256 + x :=
  or_join 8 (a * 256) x (by omega) (by omega) ha' hx hx' (by omega)
theorem rd_at {l : List Int} {i : Nat} (h : i < l.length) : rd l (i : Int) = l[i] := by
  unfold rd; rw [Int.toNat_natCast, List.getD_eq_getElem?_getD, List.getElem?_eq_getElem h]; rfl
theorem drop_at {l : List Int} {i : Nat} (h : i < l.length) : l.drop i = rd l (i : Int) :: l.drop (i + 1) := by
  rw [rd_at h]; exact List.drop_eq_getElem_cons h
theorem same_l0 (a b : List Int) (h : a.length = b.length) (hl : a.length < 9223372036854775807) (k : Nat) : ∀ (m i : Nat), i + m = a.length → antiphonref1_Same.l0 (m + 1 + k) a b (i : Int) = some (decide (a.drop i = b.drop i))
  | 0, i, hi => by
    rw [show 0 + 1 + k = k + 1 by omega, antiphonref1_Same.l0, if_neg (by omega), List.drop_eq_nil_of_le (by omega), List.drop_eq_nil_of_le (by omega)]
    rfl
  | m + 1, i, hi => by
    rw [show m + 1 + 1 + k = (m + 1 + k) + 1 by omega, antiphonref1_Same.l0, if_pos (by omega), if_pos (by omega), if_pos (by omega), w64 _ (by omega) (by omega)]
    rw [drop_at (show i < a.length by omega), drop_at (show i < b.length by omega)]
    by_cases hc : rd a i = rd b i
    · rw [if_pos hc, show ((i : Int) + 1) = ((i + 1 : Nat) : Int) by omega, same_l0 a b h hl k m (i + 1) (by omega)]
      simp [hc]
    · rw [if_neg hc]
      simp [hc]
theorem same_ref (a b : List Int) (hl : a.length < 9223372036854775807) (k : Nat) : antiphonref1_Same.f (a.length + 1 + k) a b = some (decide (a = b)) := by
  unfold antiphonref1_Same.f
  by_cases h : a.length = b.length
  · rw [if_pos (by omega)]
    have := same_l0 a b h hl k a.length 0 (by omega)
    simpa using this
  · rw [if_neg (by omega), decide_eq_false (fun e => h (by rw [e]))]
theorem copy_l0 (a : List Int) (hl : a.length ≤ 140737488355328) (k : Nat) : ∀ (m i : Nat) (acc : List Int), i + m = a.length → acc.length = i → antiphonref1_Copy.l0 (m + 1 + k) a acc (i : Int) = some (acc ++ a.drop i)
  | 0, i, acc, hi, ha => by
    rw [show 0 + 1 + k = k + 1 by omega, antiphonref1_Copy.l0, if_neg (by omega), List.drop_eq_nil_of_le (by omega), List.append_nil]
  | m + 1, i, acc, hi, ha => by
    rw [show m + 1 + 1 + k = (m + 1 + k) + 1 by omega, antiphonref1_Copy.l0, if_pos (by omega), if_pos (by omega), if_pos (by omega), w64 _ (by omega) (by omega)]
    rw [drop_at (show i < a.length by omega), show ((i : Int) + 1) = ((i + 1 : Nat) : Int) by omega, copy_l0 a hl k m (i + 1) _ (by omega) (by simp [ha])]
    simp
theorem copy_ref (a : List Int) (hl : a.length ≤ 140737488355328) (k : Nat) : antiphonref1_Copy.f (a.length + 1 + k) a = some a := by
  have := copy_l0 a hl k a.length 0 [] (by omega) rfl
  simpa [antiphonref1_Copy.f] using this
def beN : Nat → Int → List Int
  | 0, _ => []
  | w + 1, n => n / 2 ^ (8 * w) % 256 :: beN w n
theorem beN_length : ∀ (w : Nat) (n : Int), (beN w n).length = w
  | 0, _ => rfl
  | w + 1, n => by rw [beN, List.length_cons, beN_length w n]
theorem shr_i64 (n : Int) (j : Nat) (h : j ≤ 64) : shr .i64 n (j : Int) = n / 2 ^ j := by
  unfold shr; rw [Int.toNat_natCast, Nat.min_eq_left (by simpa [IntKind.bits] using h)]
theorem put_l0 (n : Int) (k : Nat) : ∀ (m : Nat) (acc : List Int), m ≤ 7 → acc.length + m ≤ 100 → octet_Put.l0 (m + 1 + k) n acc ((m : Int) - 1) = some (acc ++ beN m n)
  | 0, acc, _, _ => by rw [show 0 + 1 + k = k + 1 by omega, octet_Put.l0, if_neg (by omega), beN, List.append_nil]
  | m + 1, acc, hm, ha => by
    have e : ((m + 1 : Nat) : Int) - 1 = (m : Int) := by omega
    rw [e, show m + 1 + 1 + k = (m + 1 + k) + 1 by omega, octet_Put.l0, if_pos (by omega), w64 (8 * (m : Int)) (by omega) (by omega), if_pos (by omega), if_pos (by omega), w64 _ (by omega) (by omega)]
    rw [show (8 * (m : Int)) = ((8 * m : Nat) : Int) by omega, shr_i64 _ _ (by omega), put_l0 n k m _ (by omega) (by rw [List.length_append, List.length_singleton]; omega), beN]
    simp
def putL (n width : Int) : List Int := if 1 ≤ width ∧ width ≤ 7 ∧ 0 ≤ n ∧ n < 2 ^ (8 * width.toNat) then beN width.toNat n else []
theorem div_ne (n : Int) (p : Nat) (h0 : 0 ≤ n) : (n / 2 ^ p != 0) = decide (¬ n < 2 ^ p) := by
  have hp : (0 : Int) < 2 ^ p := Int.pow_pos (by omega)
  by_cases h : n < 2 ^ p
  · rw [Int.ediv_eq_zero_of_lt h0 h]; simp [h]
  · have h1 : 1 ≤ n / 2 ^ p := by
      rw [Int.le_ediv_iff_mul_le hp]; omega
    rw [bne_iff_ne.mpr (by omega)]; simp [h]
theorem put_seat (n width : Int) (k : Nat) : octet_Put.f (k + 10) n width = some (putL n width) := by
  have hj : octet_Put.j0 (k + 10) n width true = some [] := rfl
  unfold octet_Put.f octet_may.f putL
  by_cases hw : 1 ≤ width ∧ width ≤ 7
  · rw [if_pos (show width ≥ 1 from hw.1), decide_eq_true hw.2, Option.bind_some, if_pos rfl]
    by_cases h0 : 0 ≤ n
    · rw [if_neg (by omega), w64 (8 * width) (by omega) (by omega), if_pos (by omega)]
      obtain ⟨m, hm⟩ : ∃ m : Nat, width = (m : Int) := ⟨width.toNat, by omega⟩
      subst hm
      rw [show (8 * (m : Int)) = ((8 * m : Nat) : Int) by omega, shr_i64 _ _ (by omega), Int.toNat_natCast, div_ne _ _ h0]
      by_cases hn : n < 2 ^ (8 * m)
      · rw [if_pos ⟨hw.1, hw.2, h0, hn⟩, decide_eq_false (by simpa using hn), octet_Put.j0, if_neg (by decide), w64 _ (by omega) (by omega)]
        have := put_l0 n (k + 9 - (m + 1)) m [] (by omega) (by simp; omega)
        rw [show m + 1 + (k + 9 - (m + 1)) = k + 9 by omega] at this
        simpa using this
      · rw [if_neg (fun h => hn h.2.2.2), decide_eq_true hn, hj]
    · rw [if_pos (by omega), if_neg (fun h => h0 h.2.2.1), hj]
  · by_cases h1 : width ≥ 1
    · rw [if_pos h1, decide_eq_false (fun h => hw ⟨h1, h⟩), Option.bind_some, if_neg (by decide), if_neg (fun h => hw ⟨h.1, h.2.1⟩), hj]
    · rw [if_neg h1, Option.bind_some, if_neg (by decide), if_neg (fun h => hw ⟨h.1, h.2.1⟩), hj]
theorem u64_small (n : Int) (h : 0 ≤ n) (h' : n < 1000) : IntKind.u64.wrap n = n := by
  have : ∀ j : Fin 1000, IntKind.u64.wrap (j.val : Int) = (j.val : Int) := by decide +kernel
  have := this ⟨n.toNat, by omega⟩
  rwa [show ((n.toNat : Nat) : Int) = n by omega] at this
theorem rput_l0 (n : Int) (k : Nat) : ∀ (m : Nat) (acc : List Int), m ≤ 7 → acc.length + m ≤ 100 → antiphonref1_Put.l0 (m + 1 + k) n acc ((m : Int) - 1) = some (acc ++ beN m n)
  | 0, acc, _, _ => by rw [show 0 + 1 + k = k + 1 by omega, antiphonref1_Put.l0, if_neg (by omega), beN, List.append_nil]
  | m + 1, acc, hm, ha => by
    have e : ((m + 1 : Nat) : Int) - 1 = (m : Int) := by omega
    rw [e, show m + 1 + 1 + k = (m + 1 + k) + 1 by omega, antiphonref1_Put.l0, if_pos (by omega), w64 (8 * (m : Int)) (by omega) (by omega), u64_small _ (by omega) (by omega), if_pos (by omega), if_pos (by omega), w64 _ (by omega) (by omega)]
    rw [show (8 * (m : Int)) = ((8 * m : Nat) : Int) by omega, shr_i64 _ _ (by omega), rput_l0 n k m _ (by omega) (by rw [List.length_append, List.length_singleton]; omega), beN]
    simp
theorem shl_one (m : Nat) (h : m ≤ 7) : shl .i64 1 ((8 * m : Nat) : Int) = 2 ^ (8 * m) := by
  have : ∀ j : Fin 8, shl .i64 1 ((8 * j.val : Nat) : Int) = 2 ^ (8 * j.val) := by decide +kernel
  exact this ⟨m, by omega⟩
theorem put_ref (n width : Int) (k : Nat) : antiphonref1_Put.f (k + 10) n width = some (putL n width) := by
  have hj : antiphonref1_Put.j0 (k + 10) n width true = some [] := rfl
  unfold antiphonref1_Put.f putL
  by_cases h1 : width < 1
  · rw [if_pos h1, if_neg (fun h => by omega), hj]
  by_cases h7 : width > 7
  · rw [if_neg h1, if_pos h7, if_neg (fun h => by omega), hj]
  by_cases h0 : n < 0
  · rw [if_neg h1, if_neg h7, if_pos h0, if_neg (fun h => by omega), hj]
  rw [if_neg h1, if_neg h7, if_neg h0, w64 (8 * width) (by omega) (by omega), u64_small _ (by omega) (by omega), if_pos (by omega)]
  obtain ⟨m, hm⟩ : ∃ m : Nat, width = (m : Int) := ⟨width.toNat, by omega⟩
  subst hm
  rw [show (8 * (m : Int)) = ((8 * m : Nat) : Int) by omega, shl_one m (by omega), Int.toNat_natCast]
  by_cases hn : n < 2 ^ (8 * m)
  · rw [if_pos ⟨by omega, by omega, by omega, hn⟩, decide_eq_false (by simpa using hn), antiphonref1_Put.j0, if_neg (by decide), w64 _ (by omega) (by omega)]
    have := rput_l0 n (k + 9 - (m + 1)) m [] (by omega) (by simp; omega)
    rw [show m + 1 + (k + 9 - (m + 1)) = k + 9 by omega] at this
    simpa using this
  · rw [if_neg (fun h => hn h.2.2.2), decide_eq_true (by simpa using hn), hj]
def numL (l : List Int) : Int := l.foldl (fun a x => a * 256 + x) 0
def getL (l : List Int) : Int := if 1 ≤ l.length ∧ l.length ≤ 7 then numL l else 0
def Bytes (l : List Int) : Prop := ∀ x ∈ l, 0 ≤ x ∧ x < 256
theorem bytes_rd {l : List Int} (h : Bytes l) {i : Nat} (hi : i < l.length) : 0 ≤ rd l (i : Int) ∧ rd l (i : Int) < 256 := by
  rw [rd_at hi]; exact h _ (List.getElem_mem hi)
theorem get_step (acc x : Int) (i : Nat) (hi : i ≤ 6) (h0 : 0 ≤ acc) (h1 : acc < 256 ^ i) (hx : 0 ≤ x ∧ x < 256) :
    Go.bits .or .i64 (wrap64 (acc * 256)) (wrap64 x) = acc * 256 + x ∧ 0 ≤ acc * 256 + x ∧ acc * 256 + x < 256 ^ (i + 1) := by
  have hp : (256 : Int) ^ i ≤ 256 ^ 6 := by
    have : i = 0 ∨ i = 1 ∨ i = 2 ∨ i = 3 ∨ i = 4 ∨ i = 5 ∨ i = 6 := by omega
    rcases this with h | h | h | h | h | h | h <;> subst h <;> decide
  have hq : acc < 281474976710656 := by omega
  rw [w64 _ (by omega) (by omega), w64 _ (by omega) (by omega)]
  refine ⟨or256 acc x h0 (by omega) hx.1 hx.2, by omega, ?_⟩
  rw [Int.pow_succ]; omega
theorem get_l0 (l : List Int) (hb : Bytes l) (hl : l.length ≤ 7) (k : Nat) : ∀ (m i : Nat) (acc : Int), i + m = l.length → 0 ≤ acc → acc < 256 ^ i →
    octet_Get.l0 (m + 1 + k) acc l (l.length : Int) (i : Int) = some ((l.drop i).foldl (fun a x => a * 256 + x) acc)
  | 0, i, acc, hi, _, _ => by rw [show 0 + 1 + k = k + 1 by omega, octet_Get.l0, if_neg (by omega), List.drop_eq_nil_of_le (by omega)]; rfl
  | m + 1, i, acc, hi, h0, h1 => by
    obtain ⟨e, s0, s1⟩ := get_step acc (rd l (i : Int)) i (by omega) h0 h1 (bytes_rd hb (by omega))
    rw [show m + 1 + 1 + k = (m + 1 + k) + 1 by omega, octet_Get.l0, if_pos (by omega), if_pos (by omega), if_pos (by omega), e, w64 _ (by omega) (by omega), show ((i : Int) + 1) = ((i + 1 : Nat) : Int) by omega,
      get_l0 l hb hl k m (i + 1) _ (by omega) s0 s1, drop_at (show i < l.length by omega)]
    rfl
theorem get_seat (l : List Int) (hb : Bytes l) (k : Nat) : octet_Get.f (k + 10) l = some (getL l) := by
  unfold octet_Get.f octet_may.f getL
  by_cases h1 : 1 ≤ l.length
  · rw [if_pos (by omega)]
    by_cases h7 : l.length ≤ 7
    · rw [decide_eq_true (by omega), Option.bind_some, if_pos rfl, if_pos ⟨h1, h7⟩]
      have := get_l0 l hb h7 (k + 10 - (l.length + 1)) l.length 0 0 (by omega) (by omega) (by decide)
      rw [show l.length + 1 + (k + 10 - (l.length + 1)) = k + 10 by omega] at this
      simpa [numL] using this
    · rw [decide_eq_false (by omega), Option.bind_some, if_neg (by decide), if_neg (fun h => h7 h.2)]
  · rw [if_neg (by omega), Option.bind_some, if_neg (by decide), if_neg (fun h => h1 h.1)]
theorem rget_l0 (l : List Int) (hb : Bytes l) (hl : l.length ≤ 7) (k : Nat) : ∀ (m i : Nat) (acc : Int), i + m = l.length → 0 ≤ acc → acc < 256 ^ i →
    antiphonref1_Get.l0 (m + 1 + k) l acc (i : Int) = some ((l.drop i).foldl (fun a x => a * 256 + x) acc)
  | 0, i, acc, hi, _, _ => by rw [show 0 + 1 + k = k + 1 by omega, antiphonref1_Get.l0, if_neg (by omega), List.drop_eq_nil_of_le (by omega)]; rfl
  | m + 1, i, acc, hi, h0, h1 => by
    obtain ⟨e, s0, s1⟩ := get_step acc (rd l (i : Int)) i (by omega) h0 h1 (bytes_rd hb (by omega))
    rw [show m + 1 + 1 + k = (m + 1 + k) + 1 by omega, antiphonref1_Get.l0, if_pos (by omega), if_pos (by omega), e, w64 _ (by omega) (by omega), show ((i : Int) + 1) = ((i + 1 : Nat) : Int) by omega,
      rget_l0 l hb hl k m (i + 1) _ (by omega) s0 s1, drop_at (show i < l.length by omega)]
    rfl
theorem get_ref (l : List Int) (hb : Bytes l) (k : Nat) : antiphonref1_Get.f (k + 11) l = some (getL l) := by
  have hj : antiphonref1_Get.j0 (k + 11) l true = some 0 := rfl
  unfold antiphonref1_Get.f getL
  by_cases h1 : l.length = 0
  · rw [if_pos (by omega), hj, if_neg (fun h => by omega)]
  rw [if_neg (by omega)]
  by_cases h7 : l.length ≤ 7
  · rw [decide_eq_false (by omega), antiphonref1_Get.j0, if_neg (by decide), if_pos ⟨by omega, h7⟩]
    have := rget_l0 l hb h7 (k + 10 - (l.length + 1)) l.length 0 0 (by omega) (by omega) (by decide)
    rw [show l.length + 1 + (k + 10 - (l.length + 1)) = k + 10 by omega] at this
    simpa [numL] using this
  · rw [decide_eq_true (by omega), if_neg (fun h => h7 h.2), hj]
theorem same_le (a b : List Int) (n k : Nat) (hk : n + 1 ≤ k) (ha : a.length ≤ n) (hn : n < 9223372036854775807) : antiphonref1_Same.f k a b = some (decide (a = b)) := by
  have := same_ref a b (by omega) (k - (a.length + 1))
  rwa [show a.length + 1 + (k - (a.length + 1)) = k by omega] at this
theorem copy_le (a : List Int) (n k : Nat) (hk : n + 1 ≤ k) (ha : a.length ≤ n) (hn : n ≤ 140737488355328) : antiphonref1_Copy.f k a = some a := by
  have := copy_ref a (by omega) (k - (a.length + 1))
  rwa [show a.length + 1 + (k - (a.length + 1)) = k by omega] at this
theorem u8_wf {x : Int} (h : (Lit.int .u8 x).wf = true) : 0 ≤ x ∧ x < 256 := by
  simp [Lit.wf, IntKind.min, IntKind.max, IntKind.signed, IntKind.bits] at h; omega
theorem wf_bytes {l : List Int} (h : ∀ x ∈ l, (Lit.int .u8 x).wf = true) : Bytes l := fun x hx => u8_wf (h x hx)
end Go.Proofs.Ytnmcoebjkfpmjaa.Lib
/-! LibG -/
namespace Go.Proofs.Ytnmcoebjkfpmjaa.LibG
set_option linter.unusedSimpArgs false
set_option linter.unusedVariables false
open Go.RowKit Go.Proofs.Ytnmcoebjkfpmjaa.P Go.Proofs.Ytnmcoebjkfpmjaa.Lib Go.Proofs.YtnmcoebjkfpmjaaW.PrintWords Go.Proofs.YtnmcoebjkfpmjaaW.PrintLast
theorem byteAll {P : Int → Prop} (H : ∀ j : Fin 256, P (j.val : Int)) {x : Int} (h : 0 ≤ x ∧ x < 256) : P x := by
  have := H ⟨x.toNat, by omega⟩
  rwa [show ((x.toNat : Nat) : Int) = x by omega] at this
theorem g_and1 {x : Int} (h : 0 ≤ x ∧ x < 256) : Go.bits .and .i64 x 1 = x % 2 := byteAll (P := fun x => Go.bits .and .i64 x 1 = x % 2) (by decide +kernel) h
theorem g_and1u {x : Int} (h : 0 ≤ x ∧ x < 256) : Go.bits .and .u8 x 1 = x % 2 := byteAll (P := fun x => Go.bits .and .u8 x 1 = x % 2) (by decide +kernel) h
theorem tdiv2 {x : Int} (h : 0 ≤ x) : Int.tdiv x 2 = x / 2 := Int.tdiv_eq_ediv_of_nonneg h
theorem within_f (x m : Int) : field_within.f x m = some (decide (0 ≤ x ∧ x ≤ m)) := by
  unfold field_within.f
  by_cases h : x ≥ 0
  · rw [if_pos h]; congr 1; by_cases h2 : x ≤ m
    · rw [decide_eq_true h2, decide_eq_true ⟨h, h2⟩]
    · rw [decide_eq_false h2, decide_eq_false (fun e => h2 e.2)]
  · rw [if_neg h, decide_eq_false (fun e => h e.1)]
def putClassL (a b c : Int) : List Int × Int := if (0 ≤ a ∧ a ≤ 255) ∧ (0 ≤ b ∧ b ≤ 31) ∧ (0 ≤ c ∧ c ≤ 127) then ([a, b, 2 * c], 0) else ([], 1)
theorem putClass_seat (a b c : Int) : field_PutClass.f a b c = some (putClassL a b c) := by
  unfold field_PutClass.f putClassL
  rw [within_f, within_f, within_f, Option.bind_some, Option.bind_some, Option.bind_some]
  by_cases h1 : 0 ≤ a ∧ a ≤ 255
  · rw [if_pos (decide_eq_true h1)]
    by_cases h2 : 0 ≤ b ∧ b ≤ 31
    · rw [if_pos (decide_eq_true h2)]
      by_cases h3 : 0 ≤ c ∧ c ≤ 127
      · rw [if_pos (decide_eq_true h3), if_pos ⟨h1, h2, h3⟩, w64 (2 * c) (by omega) (by omega), Int.emod_eq_of_lt (a := a) (by omega) (by omega), Int.emod_eq_of_lt (a := b) (by omega) (by omega), Int.emod_eq_of_lt (a := 2 * c) (by omega) (by omega)]
      · rw [if_neg (by simpa using h3), if_neg (fun h => h3 h.2.2)]
    · rw [if_neg (by simpa using h2), if_neg (fun h => h2 h.2.1)]
  · rw [if_neg (by simpa using h1), if_neg (fun h => h1 h.1)]
theorem putClass_ref (a b c : Int) : antiphonref6_PutClass.f a b c = some (putClassL a b c) := by
  unfold antiphonref6_PutClass.f putClassL
  by_cases h : (0 ≤ a ∧ a ≤ 255) ∧ (0 ≤ b ∧ b ≤ 31) ∧ (0 ≤ c ∧ c ≤ 127)
  · rw [if_pos h, if_neg (by omega), if_neg (by omega), if_neg (by omega), if_neg (by omega), if_neg (by omega), if_neg (by omega), w64 (2 * c) (by omega) (by omega), Int.emod_eq_of_lt (a := a) (by omega) (by omega), Int.emod_eq_of_lt (a := b) (by omega) (by omega), Int.emod_eq_of_lt (a := 2 * c) (by omega) (by omega)]
  · rw [if_neg h]
    repeat' split
    all_goals first | rfl | (exfalso; omega)
def getClassL : List Int → Int × Int × Int × Int
  | [a, b, c] => if b > 31 ∨ c % 2 = 1 then (0, 0, 0, 4) else (a, b, c / 2, 0)
  | l => if l.length < 3 then (0, 0, 0, 2) else (0, 0, 0, 3)
theorem getClassL3 (a b c : Int) : getClassL [a, b, c] = if b > 31 ∨ c % 2 = 1 then (0, 0, 0, 4) else (a, b, c / 2, 0) := rfl
theorem get1 (k : Nat) {x : Int} (h : 0 ≤ x ∧ x < 256) : octet_Get.f (k + 10) [x] = some x := by
  rw [get_seat _ (by intro y hy; simp at hy; rw [hy]; exact h)]; simp [getL, numL]
theorem getClass_seat (k : Nat) (l : List Int) (hb : Bytes l) : field_GetClass.f (k + 10) l = some (getClassL l) := by
  match l, hb with
  | [], _ => rfl
  | [_], _ => rfl
  | [_, _], _ => rfl
  | [a, b, c], hb =>
    have ha := hb a (by simp)
    have hb' := hb b (by simp)
    have hc := hb c (by simp)
    rw [getClassL3]
    unfold field_GetClass.f
    rw [if_neg (by simp), if_neg (by simp)]
    show (octet_Get.f (k + 10) [a]).bind (fun t1 => (octet_Get.f (k + 10) [b]).bind fun t2 => (octet_Get.f (k + 10) [c]).bind fun t3 => _) = _
    rw [get1 k ha, get1 k hb', get1 k hc]
    simp only [Option.bind_some]
    rw [g_and1 hc]
    by_cases h1 : b > 31
    · rw [if_pos h1, if_pos (.inl h1)]
    · by_cases h2 : c % 2 = 0
      · rw [if_neg h1, if_pos h2, if_neg (by omega)]
      · rw [if_neg h1, if_neg h2, if_pos (by omega)]
  | a :: b :: c :: d :: r, _ =>
    unfold field_GetClass.f
    rw [if_neg (by simp; omega), if_pos (by simp; omega)]
    show some (0, 0, 0, 3) = some (if (a :: b :: c :: d :: r).length < 3 then ((0, 0, 0, 2) : Int × Int × Int × Int) else (0, 0, 0, 3))
    rw [if_neg (by simp)]
theorem getClass_ref (l : List Int) (hb : Bytes l) : antiphonref6_GetClass.f l = some (getClassL l) := by
  match l, hb with
  | [], _ => rfl
  | [_], _ => rfl
  | [_, _], _ => rfl
  | [a, b, c], hb =>
    have ha := hb a (by simp)
    have hb' := hb b (by simp)
    have hc := hb c (by simp)
    rw [getClassL3]
    unfold antiphonref6_GetClass.f
    rw [show (([a, b, c] : List Int).length : Int) = 3 from rfl, if_neg (show ¬ (3 : Int) < 3 by decide), if_neg (show ¬ (3 : Int) > 3 by decide), if_pos (show (1 : Int) < 3 by decide), if_pos (show (2 : Int) < 3 by decide), if_pos (show (0 : Int) < 3 by decide)]
    show (if b > 31 then _ else if Go.bits .and .u8 c 1 = 1 then _ else some (wrap64 a, wrap64 b, wrap64 (Int.tdiv (wrap64 c) 2), 0)) = _
    rw [g_and1u hc, w64 a (by omega) (by omega), w64 b (by omega) (by omega), w64 c (by omega) (by omega), tdiv2 hc.1, w64 (c / 2) (by omega) (by omega)]
    by_cases h1 : b > 31
    · rw [if_pos h1, if_pos (.inl h1)]
    · by_cases h2 : c % 2 = 1
      · rw [if_neg h1, if_pos h2, if_pos (.inr h2)]
      · rw [if_neg h1, if_neg h2, if_neg (by omega)]
  | a :: b :: c :: d :: r, _ =>
    unfold antiphonref6_GetClass.f
    rw [if_neg (by simp; omega), if_pos (by simp; omega)]
    show some (0, 0, 0, 3) = some (if (a :: b :: c :: d :: r).length < 3 then ((0, 0, 0, 2) : Int × Int × Int × Int) else (0, 0, 0, 3))
    rw [if_neg (by simp)]
def putStatusL (s : Int) (l : List Int) : List Int × Int := if 0 ≤ s ∧ s ≤ 255 then (s :: l, 0) else ([], 1)
theorem putStatus_seat (s : Int) (l : List Int) (hl : l.length ≤ 2000) : field_PutStatus.f s l = some (putStatusL s l) := by
  unfold field_PutStatus.f putStatusL
  rw [within_f, Option.bind_some]
  by_cases h : 0 ≤ s ∧ s ≤ 255
  · rw [if_pos (decide_eq_true h), Option.bind_some, if_pos (by simp; omega), if_pos h, Int.emod_eq_of_lt (by omega) (by omega)]; rfl
  · rw [if_neg (by simpa using h), if_neg h]
theorem putStatus_ref (s : Int) (l : List Int) (hl : l.length ≤ 2000) : antiphonref6_PutStatus.f s l = some (putStatusL s l) := by
  unfold antiphonref6_PutStatus.f putStatusL
  by_cases h : 0 ≤ s ∧ s ≤ 255
  · rw [if_neg (by omega), if_neg (by omega), Option.bind_some, if_pos (by simp; omega), if_pos h, Int.emod_eq_of_lt (by omega) (by omega)]; rfl
  · rw [if_neg h]
    repeat' split
    all_goals first | rfl | (exfalso; omega)
def getStatusL : List Int → Int × List Int × Int
  | [] => (0, [], 2)
  | a :: l => (a, l, 0)
theorem getStatus_seat (l : List Int) (hb : Bytes l) (hl : l.length ≤ 2000) : field_GetStatus.f l = some (getStatusL l) := by
  match l, hb, hl with
  | [], _, _ => rfl
  | a :: l, hb, hl =>
    have ha := hb a (by simp)
    unfold field_GetStatus.f getStatusL bytes_Clone.f
    rw [if_neg (by simp only [List.length_cons]; omega), if_pos (by simp only [List.length_cons]; omega), if_pos (by simp only [List.length_cons]; omega), if_pos (by simp only [List.length_cons] at hl; simp only [List.drop_succ_cons, List.drop_zero]; omega), Option.bind_some]
    show some (wrap64 a, l, 0) = _
    rw [w64 a (by omega) (by omega)]
theorem getStatus_ref (l : List Int) (hb : Bytes l) (hl : l.length ≤ 2000) (k : Nat) (hk : 2001 ≤ k) : antiphonref6_GetStatus.f k l = some (getStatusL l) := by
  match l, hb, hl with
  | [], _, _ => rfl
  | a :: l, hb, hl =>
    have ha := hb a (by simp)
    unfold antiphonref6_GetStatus.f getStatusL
    rw [if_neg (by simp only [List.length_cons]; omega), if_pos (by simp only [List.length_cons]; omega), if_pos (by simp only [List.length_cons]; omega), copy_le _ 2000 k hk (by simp only [List.length_cons] at hl; simp only [List.drop_succ_cons, List.drop_zero]; omega) (by omega), Option.bind_some]
    show some (wrap64 a, l, 0) = _
    rw [w64 a (by omega) (by omega)]
def numberL (n : Int) : List Int := if 0 ≤ n ∧ n < 4294967296 then beN 4 n else [0, 0, 0, 0]
theorem numberL_len (n : Int) : (numberL n).length = 4 := by unfold numberL; split; exact beN_length 4 n; rfl
theorem put4 (n : Int) : putL n 4 = if 0 ≤ n ∧ n < 4294967296 then beN 4 n else [] := by
  unfold putL
  have hp : (2 : Int) ^ (8 * (4 : Int).toNat) = 4294967296 := by decide
  rw [hp]
  by_cases h : 0 ≤ n ∧ n < 4294967296
  · rw [if_pos h]; exact if_pos ⟨by decide, by decide, h.1, h.2⟩
  · rw [if_neg h]; exact if_neg (fun e => h ⟨e.2.2.1, e.2.2.2⟩)
theorem number_seat (k : Nat) (n : Int) : field_Number.f (k + 10) n = some (numberL n) := by
  unfold field_Number.f numberL
  rw [put_seat, Option.bind_some, put4]
  by_cases h : 0 ≤ n ∧ n < 4294967296
  · rw [if_pos h, if_pos h, if_pos (by rw [beN_length]; decide)]
  · rw [if_neg h, if_neg h, if_neg (by decide), if_pos (by decide)]; rfl
theorem number_ref (k : Nat) (n : Int) : antiphonref6_Number.f (k + 10) n = some (numberL n) := by
  unfold antiphonref6_Number.f numberL
  by_cases h : 0 ≤ n ∧ n < 4294967296
  · rw [if_neg (by omega), if_neg (by omega), put_ref, Option.bind_some, put4, if_pos h, if_pos h]
  · rw [if_neg h]
    repeat' split
    all_goals first | rfl | (exfalso; omega)
def readNumL (l : List Int) : Int × Bool := if l.length = 4 then (getL l, true) else (0, false)
theorem readNum_seat (k : Nat) (l : List Int) (hb : Bytes l) : field_ReadNumber.f (k + 10) l = some (readNumL l) := by
  unfold field_ReadNumber.f readNumL
  by_cases h : l.length = 4
  · rw [if_pos (by omega), if_pos h, get_seat l hb, Option.bind_some]
  · rw [if_neg (by omega), if_neg h]
theorem readNum_ref (k : Nat) (l : List Int) (hb : Bytes l) : antiphonref6_ReadNumber.f (k + 11) l = some (readNumL l) := by
  unfold antiphonref6_ReadNumber.f readNumL
  by_cases h : l.length = 4
  · rw [if_pos (by omega), if_pos h, get_ref l hb, Option.bind_some]
  · rw [if_neg (by omega), if_neg h]
end Go.Proofs.Ytnmcoebjkfpmjaa.LibG
/-! PureFieldClasses -/
namespace Go.Proofs.Ytnmcoebjkfpmjaa.Pure
open Go.RowKit Go.Proofs.Ytnmcoebjkfpmjaa.P Go.Proofs.Ytnmcoebjkfpmjaa.Lib Go.Proofs.Ytnmcoebjkfpmjaa.LibG Go.Proofs.YtnmcoebjkfpmjaaW.PrintWords Go.Proofs.YtnmcoebjkfpmjaaW.PrintLast
theorem FieldClasses : antiphonlaw7_FieldClasses.Pure := by
  intro c0 c1 c2 s b _ _ _ _ _ _ hw
  have hb := wf_bytes hw
  refine ⟨2032, ?_⟩
  have hA : antiphonlaw7_awake.f 2032 = some true := by decide +kernel
  unfold antiphonlaw7_FieldClasses.f
  rw [hA, Option.bind_some, if_pos rfl]
  by_cases hl : (b.length : Int) > 100
  · rw [if_pos hl]
  have hl' : b.length ≤ 100 := by omega
  have hp : (putClassL c0 c1 c2).1.length ≤ 2000 := by unfold putClassL; split <;> simp
  have hs : (putStatusL s b).1.length ≤ 2000 := by
    unfold putStatusL; split
    · simp; omega
    · simp
  have hg : (getStatusL b).2.1.length ≤ 2000 := by
    cases b with
    | nil => decide
    | cons a l => simp at hl'; show l.length ≤ 2000; omega
  rw [if_neg hl, putClass_seat, Option.bind_some, putClass_ref, Option.bind_some, show (2032 : Nat) = 2022 + 10 from rfl, getClass_seat _ b hb, Option.bind_some, getClass_ref b hb, Option.bind_some, if_pos rfl,
    same_le _ _ 2000 _ (by omega) hp (by omega), Option.bind_some, if_pos (by simp), if_pos rfl, if_pos rfl, if_pos rfl, bne_self_eq_false, show (2022 + 10 : Nat) = 2031 + 1 from rfl, antiphonlaw7_FieldClasses.j0, if_neg (by decide),
    putStatus_seat s b (by omega), Option.bind_some, putStatus_ref s b (by omega), Option.bind_some, getStatus_seat b hb (by omega), Option.bind_some, getStatus_ref b hb (by omega) _ (by omega), Option.bind_some, if_pos rfl,
    same_le _ _ 2000 _ (by omega) hs (by omega), Option.bind_some, if_pos (by simp), if_pos rfl, same_le _ _ 2000 _ (by omega) hg (by omega), Option.bind_some, if_pos (by simp), bne_self_eq_false,
    show (2031 : Nat) = 2030 + 1 from rfl, antiphonlaw7_FieldClasses.j1, if_neg (by decide), show (2030 : Nat) = 2020 + 10 from rfl, readNum_seat _ b hb, Option.bind_some, show (2020 + 10 : Nat) = 2019 + 11 from rfl, readNum_ref _ b hb, Option.bind_some, if_pos rfl, if_pos (by simp),
    show (2019 + 11 : Nat) = 2020 + 10 from rfl, number_seat, Option.bind_some, number_ref, Option.bind_some, same_le _ _ 2000 _ (by omega) (by rw [numberL_len]; decide) (by omega), Option.bind_some]
  simp
end Go.Proofs.Ytnmcoebjkfpmjaa.Pure
/-! WSized -/
namespace Go.Proofs.YtnmcoebjkfpmjaaW.PrintWords
open Go.ChangeShapes Go.WideShapes
theorem sized_ints {H : Type} {enc : TypeId × Value → H} {P : Program} {W : World} {base : Nat} {spare : Nat → Bool} {held : Bool} {t e : TypeId} {k : IntKind} {a : Option Addr} {len cap : Nat} {d : DataW H} {ps : List MemPlace} {ts : List TypeId} {ds : List (DataW H)} {j : Nat}
    (hsz : (DataW.weightsEach P ts ds).all (· ≤ reachBytes) = true) (ht : ts[j]? = some t) (hd : ds[j]? = some d) (hu : P.underlying t = some (.slice e)) (he : P.underlying e = some (.int k)) (hc : P.cellsOf e = 1) {B : Nat} (hB : P.bytesOf e = B)
    (h : DataW.Trod enc P W base spare held t (.slice a len cap) d ps) : len * B ≤ 140737488351232 := by
  obtain ⟨fuel, hf⟩ := h
  rcases open_ints hu he hc hf with ⟨hcs, _⟩ | ⟨x, l, c, zs, hcs, _, hl, _, hz, hx, _, _⟩
  · simp [Value.cells] at hcs
    obtain ⟨rfl, rfl, rfl⟩ := hcs
    simp
  · simp [Value.cells] at hcs
    obtain ⟨rfl, rfl, rfl⟩ := hcs
    obtain ⟨hx, _⟩ := Prod.mk.inj hx
    subst hx
    have z := sized_slice hsz ht hd hu
    rw [hB] at z
    have hl2 : len ≤ zs.length := by
      rw [hz]
      split
      · exact hl
      · exact Nat.le_refl _
    have h1 : (lits (H := H) k (zs.take len)).length + (lits (H := H) k (zs.drop len)).length = zs.length := by
      simp [lits]
      omega
    rw [h1] at z
    exact Nat.le_trans (Nat.mul_le_mul_right _ hl2) z
end Go.Proofs.YtnmcoebjkfpmjaaW.PrintWords
/-! LawFieldClasses -/
namespace Go.Proofs.Ytnmcoebjkfpmjaa.fieldClasses
open Go.ChangeShapes Go.WideShapes Go.ChangeAt Go.RowKit
open Go.ChangeMaps (open_string shut_string)
set_option linter.unusedVariables false
theorem own : ownKnob Try.prog.godebug = none := by kernel_rfl
theorem laidOut : laidOutB Try.prog = true := by kernel_rfl
set_option maxRecDepth 100000 in
theorem lifted (os : Os) (started : os.Started) (H : Type) (enc : TypeId × Value → H) :
    ReturnsInHanded {} Try.checked os 11 .any (Rows.fieldClassesSpec.pre6 enc Try.prog Try.f11 Rows.fieldClassesRow.domain false) (Rows.fieldClassesSpec.post enc Try.prog Try.f11 false true false false) := by
  refine returnsInHanded_of_change_sized (C := Try.checked) own started (by kernel_rfl) Try.func11
    (ChangeSpec.witness6 (enc := enc) (C := Try.checked) false ⟨#[], #[.agg #[.int .i64 0, .int .i64 0, .int .i64 0], .int .i64 0, .slice none 0 0], []⟩ 8 (by kernel_rfl) (by kernel_rfl) (by kernel_rfl) (by kernel_rfl)) ?_
  intro W base args ds gs before hval0 hW hcnd hsz0 _
  have hsz : (DataW.weightsEach Try.prog (Try.f11.params.toList ++ Rows.fieldClassesSpec.plain.varTypes Try.prog) (ds ++ gs)).all (· ≤ reachBytes) = true := hsz0
  have hval : ∀ (j : Nat) t v, Try.f11.params[j]? = some t → args[j]? = some v → Value.okWide Try.prog W .any base t v := hval0
  have hW' := hW
  obtain ⟨p, q, hA0, hV, rfl, hfz, hnd⟩ := hW
  have hA : DataW.TrodAll enc Try.prog W 0 (fun _ => true) true Try.f11.params.toList args.toList ds p := hA0
  rw [Try.params11] at hA hval hsz
  obtain ⟨v0, vs0, d0, ds0, p0, q0, hargs, rfl, rfl, h0, r0⟩ := trodAll_cons hA
  obtain ⟨v1, vs1, d1, ds1, p1, q1, rfl, rfl, rfl, h1, r1⟩ := trodAll_cons r0
  obtain ⟨v2, vs2, d2, ds2, p2, q2, rfl, rfl, rfl, h2, r2⟩ := trodAll_cons r1
  obtain ⟨rfl, rfl, rfl⟩ := trodAll_nil r2
  obtain rfl : args = #[v0, v1, v2] := by cases args; simp_all
  obtain ⟨rfl, rfl⟩ := trodVars_none hV
  obtain ⟨a0_0, a0_1, a0_2, rfl, w0_0, w0_1, w0_2, _⟩ := Open.open_s56 (hval 0 56 v0 rfl rfl) h0
  have k0 := h0
  have lt0 : ∀ x ∈ p0, x.block < W.heap.size := by obtain ⟨m, hm⟩ := k0; exact DataW.trod_lt m _ _ _ hm
  obtain ⟨a1, rfl, rfl, rfl, w1⟩ := open_int Try.underlying3 (hval 1 3 v1 rfl rfl) h1
  obtain ⟨a2, n2, c2, rfl⟩ := okWide_slice Try.underlying23 (hval 2 23 v2 rfl rfl)
  have k2 := h2
  have lt2 : ∀ x ∈ p2, x.block < W.heap.size := by obtain ⟨m, hm⟩ := k2; exact DataW.trod_lt m _ _ _ hm
  obtain ⟨z2, w2⟩ : ∃ zs, Open.IsRow .u8 W a2 n2 c2 zs := by
    obtain ⟨fuel, hf⟩ := h2
    rcases open_ints Try.underlying23 Try.underlying5 (by kernel_rfl) hf with ⟨hcs, _⟩ | ⟨x, l, c, zs, hcs, _, hl, hm, hz, _, hcell, hwz⟩
    · simp [Value.cells] at hcs
      obtain ⟨rfl, rfl, rfl⟩ := hcs
      exact ⟨[], .inl ⟨rfl, rfl, rfl, rfl⟩⟩
    · simp [Value.cells] at hcs
      obtain ⟨rfl, rfl, rfl⟩ := hcs
      exact ⟨zs, .inr ⟨_, rfl, hl, hm, by simpa using hz, hcell, hwz⟩⟩
  have y2 : n2 * 1 ≤ 140737488351232 := Go.Proofs.YtnmcoebjkfpmjaaW.PrintWords.sized_ints hsz (j := 2) (t := 23) rfl rfl Try.underlying23 Try.underlying5 (by kernel_rfl) (by kernel_rfl) h2
  clear hA0 hval0 hsz0 hsz
  refine (P.antiphonlaw7_FieldClasses.walk Pure.FieldClasses a0_0 a0_1 a0_2 a1 a2 n2 c2 z2 W w0_0 w0_1 w0_2 w1 w2 y2).mono fun e W' ⟨he, bel⟩ => ?_
  subst he
  exact ⟨_, rfl, _, _, _, [], _, [], hW', trodAll_mk1 (shut_bool Try.underlying4 _), (trodAll_cons_mk (Below.trod laidOut (by kernel_rfl) (of_decide_eq_true (by kernel_rfl)) k0 bel lt0) (trodAll_cons_mk (shut_int Try.underlying3 w1) (trodAll_cons_mk (Below.trod laidOut (by kernel_rfl) (of_decide_eq_true (by kernel_rfl)) k2 bel lt2) trodAll_mk0))), rfl, bel.frame _, fun h => by cases h⟩
theorem fact0 : (Rows.fieldClassesRow.wf (OpenSpec.ofChange Rows.fieldClassesSpec)) = true := by kernel_rfl
theorem fact1 : (laidOutB Try.prog) = true := Kit.laidOut
theorem fact2 : (mapsRowed Try.prog) = true := Kit.mapsRowed
theorem fact3 : (Try.f11.params.all (Try.prog.readableRec ·)) = true := by kernel_rfl
theorem fact4 : (namedTie Try.prog Rows.fieldClassesRow.named Rows.fieldClassesSpec.vars) = true := by kernel_rfl
theorem fact5 : ((Rows.fieldClassesRow.stops == [])) = true := by kernel_rfl
theorem fact6 : ((Try.prog.stops == [])) = true := Kit.stops
theorem fact7 : ((Rows.fieldClassesRow.knobs == [])) = true := by kernel_rfl
theorem fact8 : ((Try.prog.stopKnobs == [])) = true := Kit.stopKnobs
theorem fact9 : ((Rows.fieldClassesRow.inPlace == Try.prog.inPlace 11)) = true := by kernel_rfl
theorem fact10 : ((Rows.fieldClassesRow.unfollowed == Try.prog.unfollowed 11)) = true := by kernel_rfl
theorem fact11 : ((Rows.fieldClassesRow.recurses == Try.prog.recurses 11)) = true := by kernel_rfl
theorem fact12 : ((Rows.fieldClassesRow.named == Try.prog.varsNamed 11)) = true := by kernel_rfl
theorem fact13 : ((Rows.fieldClassesRow.maps == (Try.f11.params.toList ++ Rows.fieldClassesSpec.plain.varTypes Try.prog).any (Try.prog.mapsRec ·))) = true := by kernel_rfl
theorem fact14 : ((Rows.fieldClassesRow.ifaces == (Try.f11.params.toList ++ Rows.fieldClassesSpec.plain.varTypes Try.prog).any (Try.prog.ifacesRec ·))) = true := by kernel_rfl
theorem fact15 : ((Rows.fieldClassesRow.mapsOut == Try.prog.mapsAmong Try.f11.resultTypes.toList)) = true := by kernel_rfl
theorem fact16 : ((Rows.fieldClassesRow.loops == (Try.f11.params.toList ++ Rows.fieldClassesSpec.plain.varTypes Try.prog).any (Try.prog.loopsFrom ·))) = true := by kernel_rfl
theorem fact17 : ((Rows.fieldClassesRow.wideKeys == (Try.f11.params.toList ++ Rows.fieldClassesSpec.plain.varTypes Try.prog ++ Try.f11.resultTypes.toList).any (Try.prog.wideKeysFrom ·))) = true := by kernel_rfl
theorem fact18 : (Rows.fieldClassesSpec.vars.all (Try.prog.varReadable ·)) = true := by kernel_rfl
theorem fact19 : (Try.f11.resultTypes.all (fun t => Try.prog.readableRec t && decide (t < Try.prog.types.size))) = true := by kernel_rfl
theorem fact20 : ((Rows.fieldClassesRow.ifacesOut == Try.f11.resultTypes.toList.any (Try.prog.ifacesRec ·))) = true := by kernel_rfl
theorem fact21 : ((Rows.fieldClassesRow.loopsOut == Try.f11.resultTypes.toList.any (Try.prog.loopsFrom ·))) = true := by kernel_rfl
theorem fact22 : ((Rows.fieldClassesRow.plainKeys == Try.prog.plainKeys)) = true := (by rw [Kit.plainKeys]; rfl)
theorem fact23 : (Rows.fieldClassesRow.shortTexts.isNone) = true := by kernel_rfl
theorem fact24 : (Try.prog.stopsHeard) = true := Kit.stopsHeard
theorem fact25 : (Try.prog.mayEnter) = true := Kit.mayEnter
theorem fact26 : ((Rows.fieldClassesRow.lifted == Try.prog.liftsFinal)) = true := (by rw [Kit.liftsFinal]; rfl)
theorem fact27 : ((Try.prog.make == some Rows.fieldClassesRow.make)) = true := (by rw [Kit.make]; rfl)
theorem fact28 : ((Rows.fieldClassesRow.kinds == (if Rows.fieldClassesRow.domain.isEmpty then [] else Try.f11.params.toList.map fun t => match Try.prog.underlying t with | some (.int k) => some k | _ => none))) = true := by kernel_rfl
theorem fact29 : ((Rows.fieldClassesRow.pinned == Rows.fieldClassesRow.pinnedBy)) = true := by kernel_rfl
theorem fact30 : ((Rows.fieldClassesRow.veiled == (Try.f11.params.toList ++ Rows.fieldClassesSpec.plain.varTypes Try.prog ++ Try.f11.resultTypes.toList).any (Try.prog.veiledRec ·))) = true := by kernel_rfl
theorem fact31 : (Rows.fieldClassesRow.veiledFits Try.prog Try.f11.params.toList (Try.f11.params.toList ++ Rows.fieldClassesSpec.plain.varTypes Try.prog ++ Try.f11.resultTypes.toList)) = true := by kernel_rfl
set_option maxRecDepth 100000 in
theorem closed : joinedFacts Try.prog 11 Try.f11 Rows.fieldClassesSpec Rows.fieldClassesRow = true := by
  unfold joinedFacts
  exact (Kit.and2 (Kit.and2 (Kit.and2 (Kit.and2 (Kit.and2 (Kit.and2 (Kit.and2 (Kit.and2 (Kit.and2 (Kit.and2 (Kit.and2 (Kit.and2 (Kit.and2 (Kit.and2 (Kit.and2 (Kit.and2 (Kit.and2 (Kit.and2 (Kit.and2 (Kit.and2 (Kit.and2 (Kit.and2 (Kit.and2 (Kit.and2 (Kit.and2 (Kit.and2 (Kit.and2 (Kit.and2 (Kit.and2 (Kit.and2 (Kit.and2 fact0 fact1) fact2) fact3) fact4) fact5) fact6) fact7) fact8) fact9) fact10) fact11) fact12) fact13) fact14) fact15) fact16) fact17) fact18) fact19) fact20) fact21) fact22) fact23) fact24) fact25) fact26) fact27) fact28) fact29) fact30) fact31)
theorem named : Try.prog.funcNamed Rows.fieldClassesRow.func = some 11 := by kernel_rfl
theorem inst : Try.f11.isInstance Try.prog Rows.fieldClassesRow.origin Rows.fieldClassesRow.targs := of_decide_eq_true (by kernel_rfl)
theorem wrap_ : Try.f11.isWrapper Try.prog Rows.fieldClassesRow.wrapper Rows.fieldClassesRow.mainSum := by unfold Func.isWrapper; first | (rw [if_pos (by decide +kernel)]; kernel_rfl) | (rw [if_neg (by decide +kernel)]; exact ⟨rfl, rfl⟩)
theorem over : Rows.fieldClassesRow.holds Try.pinned (OpenSpec.ofChange Rows.fieldClassesSpec) :=
  OpenClaim.holds_of_wide 11 Try.f11 rfl rfl rfl rfl rfl rfl rfl ⟨rfl, rfl, rfl, rfl, rfl⟩ rfl rfl rfl rfl rfl named Try.func11 closed
    inst wrap_
    (fun os started H enc _ => lifted os started H enc)
theorem proved : Rows.FieldClassesSaid := over
#print axioms proved
end Go.Proofs.Ytnmcoebjkfpmjaa.fieldClasses
namespace Go.Proofs.Ytnmcoebjkfpmjaa
theorem fieldClasses_holds : Rows.FieldClassesSaid := fieldClasses.proved
end Go.Proofs.Ytnmcoebjkfpmjaa
