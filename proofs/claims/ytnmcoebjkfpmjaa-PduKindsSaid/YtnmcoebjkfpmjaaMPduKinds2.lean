/- Of each kind of PDU: what is no response, what is one, what stands behind it, whom it goes to; each rule by itself. -/
-- Put together by wip/print2/mergelaw.py: printed words (what this claim does not use is left out), printed functions, texts of this session.
import Derived.Test.YtnmcoebjkfpmjaaMPduKinds1
/-! Px35 -/
namespace Go.Proofs.Ytnmcoebjkfpmjaa.P
open Go.RowKit Go.Proofs.YtnmcoebjkfpmjaaW.PrintWords Go.Proofs.YtnmcoebjkfpmjaaW.PrintLast Go.Proofs.YtnmcoebjkfpmjaaW.PrintMore
attribute [local go_sem] max2_int min2_int max_two min_two max_three min_three max_four min_four   -- for this text's walks alone
set_option linter.unusedVariables false
set_option linter.unusedSimpArgs false
def pdu_May.j0 : Nat → Bool → Int → Int → Bool → Int → Int → Int → Int → Bool → List Int → Option (Bool)
  | 0, _, _, _, _, _, _, _, _, _, _ => none
  | k + 1, x36, x102000, x102001, x102002, x102003, x102004, x102005, x102006, x102007, x102008 => if x36 = true then (some false) else (if x102003 = 0 then (if x102004 = 0 then (some ((Go.bits .and .i64 x102000 1) == 0)) else (some false)) else (if x102003 = 1 then ((pdu_within.f x102004 2).bind fun t106 => (if t106 = true then (if x102005 = 0 then (if (x102008.length : Int) = 0 then (some ((Go.bits .and .i64 x102000 1) == 0)) else (some false)) else (some false)) else (some false))) else (if x102003 = 2 then (if x102005 = 0 then (if x102006 = 0 then ((pdu_kind.f k x102000 x102001 x102002 x102003 x102004 x102005 x102006 x102007 x102008).bind fun t107 => (some t107)) else (some false)) else (some false)) else (some false))))
def pdu_May.f (k : Nat) (a0_0 : Int) (a0_1 : Int) (a0_2 : Bool) (a0_3 : Int) (a0_4 : Int) (a0_5 : Int) (a0_6 : Int) (a0_7 : Bool) (l0_8 : List Int) : Option (Bool) := (pdu_within.f a0_0 255).bind fun t102 => (if t102 = true then ((pdu_within.f a0_1 254).bind fun t103 => (if t103 = true then (if (Go.bits .and .i64 a0_1 1) = 1 then (pdu_May.j0 k true a0_0 a0_1 a0_2 a0_3 a0_4 a0_5 a0_6 a0_7 l0_8) else ((pdu_within.f a0_5 127).bind fun t104 => (if t104 = true then ((pdu_within.f a0_6 127).bind fun t105 => (if t105 = true then (pdu_May.j0 k (decide ((l0_8.length : Int) > 1040)) a0_0 a0_1 a0_2 a0_3 a0_4 a0_5 a0_6 a0_7 l0_8) else (pdu_May.j0 k true a0_0 a0_1 a0_2 a0_3 a0_4 a0_5 a0_6 a0_7 l0_8))) else (pdu_May.j0 k true a0_0 a0_1 a0_2 a0_3 a0_4 a0_5 a0_6 a0_7 l0_8)))) else (pdu_May.j0 k true a0_0 a0_1 a0_2 a0_3 a0_4 a0_5 a0_6 a0_7 l0_8))) else (pdu_May.j0 k true a0_0 a0_1 a0_2 a0_3 a0_4 a0_5 a0_6 a0_7 l0_8))
set_option maxHeartbeats 8000000 in
set_option maxRecDepth 100000 in
theorem pdu_May.calls (k : Nat) (a0_0 : Int) (a0_1 : Int) (a0_2 : Bool) (a0_3 : Int) (a0_4 : Int) (a0_5 : Int) (a0_6 : Int) (a0_7 : Bool) (A0_8 : Option Addr) (c0_8 : Nat) (l0_8 : List Int) (r : Bool) (w : World) (hr0_8 : Kd.C (Kd.int .u8) w A0_8 l0_8.length l0_8) (hc0_8 : l0_8.length ≤ c0_8) (h : pdu_May.f k a0_0 a0_1 a0_2 a0_3 a0_4 a0_5 a0_6 a0_7 l0_8 = some r) :
    Calls Try.prog 34 #[.agg #[.int .i64 a0_0, .int .i64 a0_1, .bool a0_2, .int .i64 a0_3, .int .i64 a0_4, .int .i64 a0_5, .int .i64 a0_6, .bool a0_7, .slice A0_8 l0_8.length c0_8]] w fun e w' => e = .returned (.bool r) ∧ Below w.heap.size w w' := by
  have hu25 := Try.underlying25
  have HR0_8 := Aside0.mk hr0_8
  have HC0_8 := Aside0.mk hc0_8
  clear hr0_8 hc0_8
  have HB := Aside0.mk (Below.refl w.heap.size w)
  have H : ((pdu_within.f a0_0 255).bind fun t102 => (if t102 = true then ((pdu_within.f a0_1 254).bind fun t103 => (if t103 = true then (if (Go.bits .and .i64 a0_1 1) = 1 then (pdu_May.j0 k true a0_0 a0_1 a0_2 a0_3 a0_4 a0_5 a0_6 a0_7 l0_8) else ((pdu_within.f a0_5 127).bind fun t104 => (if t104 = true then ((pdu_within.f a0_6 127).bind fun t105 => (if t105 = true then (pdu_May.j0 k (decide ((l0_8.length : Int) > 1040)) a0_0 a0_1 a0_2 a0_3 a0_4 a0_5 a0_6 a0_7 l0_8) else (pdu_May.j0 k true a0_0 a0_1 a0_2 a0_3 a0_4 a0_5 a0_6 a0_7 l0_8))) else (pdu_May.j0 k true a0_0 a0_1 a0_2 a0_3 a0_4 a0_5 a0_6 a0_7 l0_8)))) else (pdu_May.j0 k true a0_0 a0_1 a0_2 a0_3 a0_4 a0_5 a0_6 a0_7 l0_8))) else (pdu_May.j0 k true a0_0 a0_1 a0_2 a0_3 a0_4 a0_5 a0_6 a0_7 l0_8))) = some r := h
  clear h
  have HC2 := Aside0.mk H
  clear H
  go_enter Try.func34, Try.ntmps34
  go_upto_region 1 with (first | ((with_reducible refine gate_dst (N := 1) rfl ?_); (try (refine gate_guard (by rfl) ?_; dsimp only)); refine box_event ?hg (N := 1) ?hd (cs := #[.int .i64 a0_0, .int .i64 a0_1, .bool a0_2, .int .i64 a0_3, .int .i64 a0_4, .int .i64 a0_5, .int .i64 a0_6, .bool a0_7, .slice A0_8 l0_8.length c0_8]) (t := 25) ?hr ?_; (case hd => rfl); (case hg => rfl); (case hr => first | (go_simp; done) | (go_simp; rfl)); intro gb101 hg w3 hbox hb; have n0_ := Aside0.mk (below_step (by repeat (first | (with_reducible first | exact HB.out | apply below_alloc | apply pw_below_drewN | apply below_drew1) | exact HB.out)) hb); have n1_ := Aside0.mk (hbox); have n2_ := Aside0.mk ((by rw [hg]; exact (below_size (by repeat (first | (with_reducible first | exact HB.out | apply below_alloc | apply pw_below_drewN | apply below_drew1) | exact HB.out))) : w.heap.size ≤ gb101)); have n3_ := Aside0.mk ((by rw [hg]; exact (below_size (by repeat (first | (with_reducible first | exact HB.out | apply below_alloc | apply pw_below_drewN | apply below_drew1) | exact HB.out))) : w.heap.size ≤ gb101)); clear HB; have HB := n0_; have BK101 := n1_; have GW101 := n2_; have GE101 := n3_; clear n0_ n1_ n2_ n3_; clear hb hbox hg))
  (try simp only [Act.put, List.setIfInBounds_toArray, List.set_cons_zero, List.set_cons_succ])
  go_cut [36] (fun v36 wc => ∃ (kq : Nat) (x36_1 : Bool), v36 = .bool x36_1 ∧ Aside0 (pdu_May.j0 kq x36_1 a0_0 a0_1 a0_2 a0_3 a0_4 a0_5 a0_6 a0_7 l0_8 = some r) ∧ Aside0 (kq ≤ k) ∧ Aside0 (wc.heap[gb101]? = some (.cells #[.int .i64 a0_0, .int .i64 a0_1, .bool a0_2, .int .i64 a0_3, .int .i64 a0_4, .int .i64 a0_5, .int .i64 a0_6, .bool a0_7, (.slice A0_8 l0_8.length c0_8)] 25 (0, 0))) ∧ Aside0 (Below w.heap.size w wc))
  case first =>
    have H := HC2.out
    clear HC2
    replace H := Option.bind_eq_some_iff.mp H
    obtain ⟨t102, A40, H⟩ := H
    replace H : (if t102 = true then ((pdu_within.f a0_1 254).bind fun t103 => (if t103 = true then (if (Go.bits .and .i64 a0_1 1) = 1 then (pdu_May.j0 k true a0_0 a0_1 a0_2 a0_3 a0_4 a0_5 a0_6 a0_7 l0_8) else ((pdu_within.f a0_5 127).bind fun t104 => (if t104 = true then ((pdu_within.f a0_6 127).bind fun t105 => (if t105 = true then (pdu_May.j0 k (decide ((l0_8.length : Int) > 1040)) a0_0 a0_1 a0_2 a0_3 a0_4 a0_5 a0_6 a0_7 l0_8) else (pdu_May.j0 k true a0_0 a0_1 a0_2 a0_3 a0_4 a0_5 a0_6 a0_7 l0_8))) else (pdu_May.j0 k true a0_0 a0_1 a0_2 a0_3 a0_4 a0_5 a0_6 a0_7 l0_8)))) else (pdu_May.j0 k true a0_0 a0_1 a0_2 a0_3 a0_4 a0_5 a0_6 a0_7 l0_8))) else (pdu_May.j0 k true a0_0 a0_1 a0_2 a0_3 a0_4 a0_5 a0_6 a0_7 l0_8)) = some r := H
    have A4 := Aside0.mk A40
    clear A40
    by_cases c5 : t102 = true
    · subst c5
      have H1 : ((pdu_within.f a0_1 254).bind fun t103 => (if t103 = true then (if (Go.bits .and .i64 a0_1 1) = 1 then (pdu_May.j0 k true a0_0 a0_1 a0_2 a0_3 a0_4 a0_5 a0_6 a0_7 l0_8) else ((pdu_within.f a0_5 127).bind fun t104 => (if t104 = true then ((pdu_within.f a0_6 127).bind fun t105 => (if t105 = true then (pdu_May.j0 k (decide ((l0_8.length : Int) > 1040)) a0_0 a0_1 a0_2 a0_3 a0_4 a0_5 a0_6 a0_7 l0_8) else (pdu_May.j0 k true a0_0 a0_1 a0_2 a0_3 a0_4 a0_5 a0_6 a0_7 l0_8))) else (pdu_May.j0 k true a0_0 a0_1 a0_2 a0_3 a0_4 a0_5 a0_6 a0_7 l0_8)))) else (pdu_May.j0 k true a0_0 a0_1 a0_2 a0_3 a0_4 a0_5 a0_6 a0_7 l0_8))) = some r := by rw [if_pos rfl] at H; exact H
      clear H
      have H := H1
      clear H1
      replace H := Option.bind_eq_some_iff.mp H
      obtain ⟨t103, A60, H⟩ := H
      replace H : (if t103 = true then (if (Go.bits .and .i64 a0_1 1) = 1 then (pdu_May.j0 k true a0_0 a0_1 a0_2 a0_3 a0_4 a0_5 a0_6 a0_7 l0_8) else ((pdu_within.f a0_5 127).bind fun t104 => (if t104 = true then ((pdu_within.f a0_6 127).bind fun t105 => (if t105 = true then (pdu_May.j0 k (decide ((l0_8.length : Int) > 1040)) a0_0 a0_1 a0_2 a0_3 a0_4 a0_5 a0_6 a0_7 l0_8) else (pdu_May.j0 k true a0_0 a0_1 a0_2 a0_3 a0_4 a0_5 a0_6 a0_7 l0_8))) else (pdu_May.j0 k true a0_0 a0_1 a0_2 a0_3 a0_4 a0_5 a0_6 a0_7 l0_8)))) else (pdu_May.j0 k true a0_0 a0_1 a0_2 a0_3 a0_4 a0_5 a0_6 a0_7 l0_8)) = some r := H
      have A6 := Aside0.mk A60
      clear A60
      by_cases c7 : t103 = true
      · subst c7
        have H1 : (if (Go.bits .and .i64 a0_1 1) = 1 then (pdu_May.j0 k true a0_0 a0_1 a0_2 a0_3 a0_4 a0_5 a0_6 a0_7 l0_8) else ((pdu_within.f a0_5 127).bind fun t104 => (if t104 = true then ((pdu_within.f a0_6 127).bind fun t105 => (if t105 = true then (pdu_May.j0 k (decide ((l0_8.length : Int) > 1040)) a0_0 a0_1 a0_2 a0_3 a0_4 a0_5 a0_6 a0_7 l0_8) else (pdu_May.j0 k true a0_0 a0_1 a0_2 a0_3 a0_4 a0_5 a0_6 a0_7 l0_8))) else (pdu_May.j0 k true a0_0 a0_1 a0_2 a0_3 a0_4 a0_5 a0_6 a0_7 l0_8)))) = some r := by rw [if_pos rfl] at H; exact H
        clear H
        have H := H1
        clear H1
        by_cases c8 : (Go.bits .and .i64 a0_1 1) = 1
        · rw [if_pos c8] at H
          have c8b0 : ((Go.bits .and .i64 a0_1 1) == 1) = true := beq_iff_eq.mpr c8
          have c8b1 : ((Go.bits .and .i64 a0_1 1) != 1) = false := bne_eq_false_iff_eq.mpr c8
          clear c8
          (first | rw [c8b0] | (simp only [i64_w, i32_w]; rw [c8b0]) | skip)
          have H' := Aside0.mk H
          clear H
          have hcz9_0 : w3.cell? ⟨gb101, 0, none⟩ = some (.int .i64 a0_0) := (blk_cell BK101.out 0).trans rfl
          have hcz9_1 : w3.cell? ⟨gb101, 1, none⟩ = some (.int .i64 a0_1) := (blk_cell BK101.out 1).trans rfl
          have hcz9_2 : w3.cell? ⟨gb101, 2, none⟩ = some (.bool a0_2) := (blk_cell BK101.out 2).trans rfl
          have hcz9_3 : w3.cell? ⟨gb101, 3, none⟩ = some (.int .i64 a0_3) := (blk_cell BK101.out 3).trans rfl
          have hcz9_4 : w3.cell? ⟨gb101, 4, none⟩ = some (.int .i64 a0_4) := (blk_cell BK101.out 4).trans rfl
          have hcz9_5 : w3.cell? ⟨gb101, 5, none⟩ = some (.int .i64 a0_5) := (blk_cell BK101.out 5).trans rfl
          have hcz9_6 : w3.cell? ⟨gb101, 6, none⟩ = some (.int .i64 a0_6) := (blk_cell BK101.out 6).trans rfl
          have hcz9_7 : w3.cell? ⟨gb101, 7, none⟩ = some (.bool a0_7) := (blk_cell BK101.out 7).trans rfl
          have hcz9_8 : w3.cell? ⟨gb101, 8, none⟩ = some (.slice A0_8 l0_8.length c0_8) := (blk_cell BK101.out 8).trans rfl
          have hfz9_0 := blk_frozen BK101.out 0
          have hfz9_1 := blk_frozen BK101.out 1
          have hfz9_2 := blk_frozen BK101.out 2
          have hfz9_3 := blk_frozen BK101.out 3
          have hfz9_4 := blk_frozen BK101.out 4
          have hfz9_5 := blk_frozen BK101.out 5
          have hfz9_6 := blk_frozen BK101.out 6
          have hfz9_7 := blk_frozen BK101.out 7
          have hfz9_8 := blk_frozen BK101.out 8
          go_wp2_with (first | ((with_reducible refine gate_callee (f := 94) rfl ?_); refine goesL_ (some 5) rfl rfl Try.func94 (by kernel_rfl) rfl #[.int .i64 a0_0, .int .i64 255] rfl (by (try simp only [List.map_toArray, List.map_cons, List.map_nil]); first | done | rfl | (simp only [List.length_drop, List.length_take]; rfl)) ?_; (with_reducible refine (pdu_within.calls a0_0 255 true _ A4.out).mono ?_); rintro e w' ⟨rfl, ⟨nd, rfl⟩⟩; refine ⟨_, rfl, ?_⟩) | (go_at_call 94; (with_reducible refine (pdu_within.calls a0_1 254 true _ A6.out).mono ?_); rintro e w' ⟨rfl, ⟨nd, rfl⟩⟩))
          go_meet
          case rel => exact ⟨_, (true), (by first | rfl | (simp; done) | (simp [*]; done)), H', ⟨by first | omega | exact Nat.le_refl _⟩, ⟨by (with_reducible repeat (first | refine blk_drewN ?_ _ | refine blk_drew ?_ | refine blk_alloc ?_ _)); exact BK101.out⟩, ⟨by repeat (first | (with_reducible first | exact HB.out | apply below_alloc | apply pw_below_drewN | apply below_drew1 | refine below_set ?_ GE101.out) | exact HB.out)⟩⟩
        · rw [if_neg c8] at H
          have c8b0 : ((Go.bits .and .i64 a0_1 1) == 1) = false := beq_eq_false_iff_ne.mpr c8
          have c8b1 : ((Go.bits .and .i64 a0_1 1) != 1) = true := bne_iff_ne.mpr c8
          (first | rw [c8b0] | (simp only [i64_w, i32_w]; rw [c8b0]) | skip)
          replace H := Option.bind_eq_some_iff.mp H
          obtain ⟨t104, A100, H⟩ := H
          replace H : (if t104 = true then ((pdu_within.f a0_6 127).bind fun t105 => (if t105 = true then (pdu_May.j0 k (decide ((l0_8.length : Int) > 1040)) a0_0 a0_1 a0_2 a0_3 a0_4 a0_5 a0_6 a0_7 l0_8) else (pdu_May.j0 k true a0_0 a0_1 a0_2 a0_3 a0_4 a0_5 a0_6 a0_7 l0_8))) else (pdu_May.j0 k true a0_0 a0_1 a0_2 a0_3 a0_4 a0_5 a0_6 a0_7 l0_8)) = some r := H
          have A10 := Aside0.mk A100
          clear A100
          by_cases c11 : t104 = true
          · subst c11
            have H1 : ((pdu_within.f a0_6 127).bind fun t105 => (if t105 = true then (pdu_May.j0 k (decide ((l0_8.length : Int) > 1040)) a0_0 a0_1 a0_2 a0_3 a0_4 a0_5 a0_6 a0_7 l0_8) else (pdu_May.j0 k true a0_0 a0_1 a0_2 a0_3 a0_4 a0_5 a0_6 a0_7 l0_8))) = some r := by rw [if_pos rfl] at H; exact H
            clear H
            have H := H1
            clear H1
            replace H := Option.bind_eq_some_iff.mp H
            obtain ⟨t105, A120, H⟩ := H
            replace H : (if t105 = true then (pdu_May.j0 k (decide ((l0_8.length : Int) > 1040)) a0_0 a0_1 a0_2 a0_3 a0_4 a0_5 a0_6 a0_7 l0_8) else (pdu_May.j0 k true a0_0 a0_1 a0_2 a0_3 a0_4 a0_5 a0_6 a0_7 l0_8)) = some r := H
            have A12 := Aside0.mk A120
            clear A120
            by_cases c13 : t105 = true
            · subst c13
              have H1 : (pdu_May.j0 k (decide ((l0_8.length : Int) > 1040)) a0_0 a0_1 a0_2 a0_3 a0_4 a0_5 a0_6 a0_7 l0_8) = some r := by rw [if_pos rfl] at H; exact H
              clear H
              have H := H1
              clear H1
              have H' := Aside0.mk H
              clear H
              have hcz14_0 : w3.cell? ⟨gb101, 0, none⟩ = some (.int .i64 a0_0) := (blk_cell BK101.out 0).trans rfl
              have hcz14_1 : w3.cell? ⟨gb101, 1, none⟩ = some (.int .i64 a0_1) := (blk_cell BK101.out 1).trans rfl
              have hcz14_2 : w3.cell? ⟨gb101, 2, none⟩ = some (.bool a0_2) := (blk_cell BK101.out 2).trans rfl
              have hcz14_3 : w3.cell? ⟨gb101, 3, none⟩ = some (.int .i64 a0_3) := (blk_cell BK101.out 3).trans rfl
              have hcz14_4 : w3.cell? ⟨gb101, 4, none⟩ = some (.int .i64 a0_4) := (blk_cell BK101.out 4).trans rfl
              have hcz14_5 : w3.cell? ⟨gb101, 5, none⟩ = some (.int .i64 a0_5) := (blk_cell BK101.out 5).trans rfl
              have hcz14_6 : w3.cell? ⟨gb101, 6, none⟩ = some (.int .i64 a0_6) := (blk_cell BK101.out 6).trans rfl
              have hcz14_7 : w3.cell? ⟨gb101, 7, none⟩ = some (.bool a0_7) := (blk_cell BK101.out 7).trans rfl
              have hcz14_8 : w3.cell? ⟨gb101, 8, none⟩ = some (.slice A0_8 l0_8.length c0_8) := (blk_cell BK101.out 8).trans rfl
              have hfz14_0 := blk_frozen BK101.out 0
              have hfz14_1 := blk_frozen BK101.out 1
              have hfz14_2 := blk_frozen BK101.out 2
              have hfz14_3 := blk_frozen BK101.out 3
              have hfz14_4 := blk_frozen BK101.out 4
              have hfz14_5 := blk_frozen BK101.out 5
              have hfz14_6 := blk_frozen BK101.out 6
              have hfz14_7 := blk_frozen BK101.out 7
              have hfz14_8 := blk_frozen BK101.out 8
              go_wp2_with (first | ((with_reducible refine gate_callee (f := 94) rfl ?_); refine goesL_ (some 5) rfl rfl Try.func94 (by kernel_rfl) rfl #[.int .i64 a0_0, .int .i64 255] rfl (by (try simp only [List.map_toArray, List.map_cons, List.map_nil]); first | done | rfl | (simp only [List.length_drop, List.length_take]; rfl)) ?_; (with_reducible refine (pdu_within.calls a0_0 255 true _ A4.out).mono ?_); rintro e w' ⟨rfl, ⟨nd, rfl⟩⟩; refine ⟨_, rfl, ?_⟩) | (go_at_call 94; (with_reducible refine (pdu_within.calls a0_1 254 true _ A6.out).mono ?_); rintro e w' ⟨rfl, ⟨nd, rfl⟩⟩) | (go_at_call 94; (with_reducible refine (pdu_within.calls a0_5 127 true _ A10.out).mono ?_); rintro e w' ⟨rfl, ⟨nd, rfl⟩⟩) | (go_at_call 94; (with_reducible refine (pdu_within.calls a0_6 127 true _ A12.out).mono ?_); rintro e w' ⟨rfl, ⟨nd, rfl⟩⟩))
              go_meet
              case rel => exact ⟨_, (decide ((l0_8.length : Int) > 1040)), (by first | rfl | (simp; done) | (simp [*]; done)), H', ⟨by first | omega | exact Nat.le_refl _⟩, ⟨by (with_reducible repeat (first | refine blk_drewN ?_ _ | refine blk_drew ?_ | refine blk_alloc ?_ _)); exact BK101.out⟩, ⟨by repeat (first | (with_reducible first | exact HB.out | apply below_alloc | apply pw_below_drewN | apply below_drew1 | refine below_set ?_ GE101.out) | exact HB.out)⟩⟩
            · replace c13 := Bool.eq_false_iff.mpr c13
              subst c13
              have H1 : (pdu_May.j0 k true a0_0 a0_1 a0_2 a0_3 a0_4 a0_5 a0_6 a0_7 l0_8) = some r := by rw [if_neg (show ¬ (false = true) by decide)] at H; exact H
              clear H
              have H := H1
              clear H1
              have H' := Aside0.mk H
              clear H
              have hcz15_0 : w3.cell? ⟨gb101, 0, none⟩ = some (.int .i64 a0_0) := (blk_cell BK101.out 0).trans rfl
              have hcz15_1 : w3.cell? ⟨gb101, 1, none⟩ = some (.int .i64 a0_1) := (blk_cell BK101.out 1).trans rfl
              have hcz15_2 : w3.cell? ⟨gb101, 2, none⟩ = some (.bool a0_2) := (blk_cell BK101.out 2).trans rfl
              have hcz15_3 : w3.cell? ⟨gb101, 3, none⟩ = some (.int .i64 a0_3) := (blk_cell BK101.out 3).trans rfl
              have hcz15_4 : w3.cell? ⟨gb101, 4, none⟩ = some (.int .i64 a0_4) := (blk_cell BK101.out 4).trans rfl
              have hcz15_5 : w3.cell? ⟨gb101, 5, none⟩ = some (.int .i64 a0_5) := (blk_cell BK101.out 5).trans rfl
              have hcz15_6 : w3.cell? ⟨gb101, 6, none⟩ = some (.int .i64 a0_6) := (blk_cell BK101.out 6).trans rfl
              have hcz15_7 : w3.cell? ⟨gb101, 7, none⟩ = some (.bool a0_7) := (blk_cell BK101.out 7).trans rfl
              have hcz15_8 : w3.cell? ⟨gb101, 8, none⟩ = some (.slice A0_8 l0_8.length c0_8) := (blk_cell BK101.out 8).trans rfl
              have hfz15_0 := blk_frozen BK101.out 0
              have hfz15_1 := blk_frozen BK101.out 1
              have hfz15_2 := blk_frozen BK101.out 2
              have hfz15_3 := blk_frozen BK101.out 3
              have hfz15_4 := blk_frozen BK101.out 4
              have hfz15_5 := blk_frozen BK101.out 5
              have hfz15_6 := blk_frozen BK101.out 6
              have hfz15_7 := blk_frozen BK101.out 7
              have hfz15_8 := blk_frozen BK101.out 8
              go_wp2_with (first | ((with_reducible refine gate_callee (f := 94) rfl ?_); refine goesL_ (some 5) rfl rfl Try.func94 (by kernel_rfl) rfl #[.int .i64 a0_0, .int .i64 255] rfl (by (try simp only [List.map_toArray, List.map_cons, List.map_nil]); first | done | rfl | (simp only [List.length_drop, List.length_take]; rfl)) ?_; (with_reducible refine (pdu_within.calls a0_0 255 true _ A4.out).mono ?_); rintro e w' ⟨rfl, ⟨nd, rfl⟩⟩; refine ⟨_, rfl, ?_⟩) | (go_at_call 94; (with_reducible refine (pdu_within.calls a0_1 254 true _ A6.out).mono ?_); rintro e w' ⟨rfl, ⟨nd, rfl⟩⟩) | (go_at_call 94; (with_reducible refine (pdu_within.calls a0_5 127 true _ A10.out).mono ?_); rintro e w' ⟨rfl, ⟨nd, rfl⟩⟩) | (go_at_call 94; (with_reducible refine (pdu_within.calls a0_6 127 false _ A12.out).mono ?_); rintro e w' ⟨rfl, ⟨nd, rfl⟩⟩))
              go_meet
              case rel => exact ⟨_, (true), (by first | rfl | (simp; done) | (simp [*]; done)), H', ⟨by first | omega | exact Nat.le_refl _⟩, ⟨by (with_reducible repeat (first | refine blk_drewN ?_ _ | refine blk_drew ?_ | refine blk_alloc ?_ _)); exact BK101.out⟩, ⟨by repeat (first | (with_reducible first | exact HB.out | apply below_alloc | apply pw_below_drewN | apply below_drew1 | refine below_set ?_ GE101.out) | exact HB.out)⟩⟩
          · replace c11 := Bool.eq_false_iff.mpr c11
            subst c11
            have H1 : (pdu_May.j0 k true a0_0 a0_1 a0_2 a0_3 a0_4 a0_5 a0_6 a0_7 l0_8) = some r := by rw [if_neg (show ¬ (false = true) by decide)] at H; exact H
            clear H
            have H := H1
            clear H1
            have H' := Aside0.mk H
            clear H
            have hcz16_0 : w3.cell? ⟨gb101, 0, none⟩ = some (.int .i64 a0_0) := (blk_cell BK101.out 0).trans rfl
            have hcz16_1 : w3.cell? ⟨gb101, 1, none⟩ = some (.int .i64 a0_1) := (blk_cell BK101.out 1).trans rfl
            have hcz16_2 : w3.cell? ⟨gb101, 2, none⟩ = some (.bool a0_2) := (blk_cell BK101.out 2).trans rfl
            have hcz16_3 : w3.cell? ⟨gb101, 3, none⟩ = some (.int .i64 a0_3) := (blk_cell BK101.out 3).trans rfl
            have hcz16_4 : w3.cell? ⟨gb101, 4, none⟩ = some (.int .i64 a0_4) := (blk_cell BK101.out 4).trans rfl
            have hcz16_5 : w3.cell? ⟨gb101, 5, none⟩ = some (.int .i64 a0_5) := (blk_cell BK101.out 5).trans rfl
            have hcz16_6 : w3.cell? ⟨gb101, 6, none⟩ = some (.int .i64 a0_6) := (blk_cell BK101.out 6).trans rfl
            have hcz16_7 : w3.cell? ⟨gb101, 7, none⟩ = some (.bool a0_7) := (blk_cell BK101.out 7).trans rfl
            have hcz16_8 : w3.cell? ⟨gb101, 8, none⟩ = some (.slice A0_8 l0_8.length c0_8) := (blk_cell BK101.out 8).trans rfl
            have hfz16_0 := blk_frozen BK101.out 0
            have hfz16_1 := blk_frozen BK101.out 1
            have hfz16_2 := blk_frozen BK101.out 2
            have hfz16_3 := blk_frozen BK101.out 3
            have hfz16_4 := blk_frozen BK101.out 4
            have hfz16_5 := blk_frozen BK101.out 5
            have hfz16_6 := blk_frozen BK101.out 6
            have hfz16_7 := blk_frozen BK101.out 7
            have hfz16_8 := blk_frozen BK101.out 8
            go_wp2_with (first | ((with_reducible refine gate_callee (f := 94) rfl ?_); refine goesL_ (some 5) rfl rfl Try.func94 (by kernel_rfl) rfl #[.int .i64 a0_0, .int .i64 255] rfl (by (try simp only [List.map_toArray, List.map_cons, List.map_nil]); first | done | rfl | (simp only [List.length_drop, List.length_take]; rfl)) ?_; (with_reducible refine (pdu_within.calls a0_0 255 true _ A4.out).mono ?_); rintro e w' ⟨rfl, ⟨nd, rfl⟩⟩; refine ⟨_, rfl, ?_⟩) | (go_at_call 94; (with_reducible refine (pdu_within.calls a0_1 254 true _ A6.out).mono ?_); rintro e w' ⟨rfl, ⟨nd, rfl⟩⟩) | (go_at_call 94; (with_reducible refine (pdu_within.calls a0_5 127 false _ A10.out).mono ?_); rintro e w' ⟨rfl, ⟨nd, rfl⟩⟩))
            go_meet
            case rel => exact ⟨_, (true), (by first | rfl | (simp; done) | (simp [*]; done)), H', ⟨by first | omega | exact Nat.le_refl _⟩, ⟨by (with_reducible repeat (first | refine blk_drewN ?_ _ | refine blk_drew ?_ | refine blk_alloc ?_ _)); exact BK101.out⟩, ⟨by repeat (first | (with_reducible first | exact HB.out | apply below_alloc | apply pw_below_drewN | apply below_drew1 | refine below_set ?_ GE101.out) | exact HB.out)⟩⟩
      · replace c7 := Bool.eq_false_iff.mpr c7
        subst c7
        have H1 : (pdu_May.j0 k true a0_0 a0_1 a0_2 a0_3 a0_4 a0_5 a0_6 a0_7 l0_8) = some r := by rw [if_neg (show ¬ (false = true) by decide)] at H; exact H
        clear H
        have H := H1
        clear H1
        have H' := Aside0.mk H
        clear H
        have hcz17_0 : w3.cell? ⟨gb101, 0, none⟩ = some (.int .i64 a0_0) := (blk_cell BK101.out 0).trans rfl
        have hcz17_1 : w3.cell? ⟨gb101, 1, none⟩ = some (.int .i64 a0_1) := (blk_cell BK101.out 1).trans rfl
        have hcz17_2 : w3.cell? ⟨gb101, 2, none⟩ = some (.bool a0_2) := (blk_cell BK101.out 2).trans rfl
        have hcz17_3 : w3.cell? ⟨gb101, 3, none⟩ = some (.int .i64 a0_3) := (blk_cell BK101.out 3).trans rfl
        have hcz17_4 : w3.cell? ⟨gb101, 4, none⟩ = some (.int .i64 a0_4) := (blk_cell BK101.out 4).trans rfl
        have hcz17_5 : w3.cell? ⟨gb101, 5, none⟩ = some (.int .i64 a0_5) := (blk_cell BK101.out 5).trans rfl
        have hcz17_6 : w3.cell? ⟨gb101, 6, none⟩ = some (.int .i64 a0_6) := (blk_cell BK101.out 6).trans rfl
        have hcz17_7 : w3.cell? ⟨gb101, 7, none⟩ = some (.bool a0_7) := (blk_cell BK101.out 7).trans rfl
        have hcz17_8 : w3.cell? ⟨gb101, 8, none⟩ = some (.slice A0_8 l0_8.length c0_8) := (blk_cell BK101.out 8).trans rfl
        have hfz17_0 := blk_frozen BK101.out 0
        have hfz17_1 := blk_frozen BK101.out 1
        have hfz17_2 := blk_frozen BK101.out 2
        have hfz17_3 := blk_frozen BK101.out 3
        have hfz17_4 := blk_frozen BK101.out 4
        have hfz17_5 := blk_frozen BK101.out 5
        have hfz17_6 := blk_frozen BK101.out 6
        have hfz17_7 := blk_frozen BK101.out 7
        have hfz17_8 := blk_frozen BK101.out 8
        go_wp2_with (first | ((with_reducible refine gate_callee (f := 94) rfl ?_); refine goesL_ (some 5) rfl rfl Try.func94 (by kernel_rfl) rfl #[.int .i64 a0_0, .int .i64 255] rfl (by (try simp only [List.map_toArray, List.map_cons, List.map_nil]); first | done | rfl | (simp only [List.length_drop, List.length_take]; rfl)) ?_; (with_reducible refine (pdu_within.calls a0_0 255 true _ A4.out).mono ?_); rintro e w' ⟨rfl, ⟨nd, rfl⟩⟩; refine ⟨_, rfl, ?_⟩) | (go_at_call 94; (with_reducible refine (pdu_within.calls a0_1 254 false _ A6.out).mono ?_); rintro e w' ⟨rfl, ⟨nd, rfl⟩⟩))
        go_meet
        case rel => exact ⟨_, (true), (by first | rfl | (simp; done) | (simp [*]; done)), H', ⟨by first | omega | exact Nat.le_refl _⟩, ⟨by (with_reducible repeat (first | refine blk_drewN ?_ _ | refine blk_drew ?_ | refine blk_alloc ?_ _)); exact BK101.out⟩, ⟨by repeat (first | (with_reducible first | exact HB.out | apply below_alloc | apply pw_below_drewN | apply below_drew1 | refine below_set ?_ GE101.out) | exact HB.out)⟩⟩
    · replace c5 := Bool.eq_false_iff.mpr c5
      subst c5
      have H1 : (pdu_May.j0 k true a0_0 a0_1 a0_2 a0_3 a0_4 a0_5 a0_6 a0_7 l0_8) = some r := by rw [if_neg (show ¬ (false = true) by decide)] at H; exact H
      clear H
      have H := H1
      clear H1
      have H' := Aside0.mk H
      clear H
      have hcz18_0 : w3.cell? ⟨gb101, 0, none⟩ = some (.int .i64 a0_0) := (blk_cell BK101.out 0).trans rfl
      have hcz18_1 : w3.cell? ⟨gb101, 1, none⟩ = some (.int .i64 a0_1) := (blk_cell BK101.out 1).trans rfl
      have hcz18_2 : w3.cell? ⟨gb101, 2, none⟩ = some (.bool a0_2) := (blk_cell BK101.out 2).trans rfl
      have hcz18_3 : w3.cell? ⟨gb101, 3, none⟩ = some (.int .i64 a0_3) := (blk_cell BK101.out 3).trans rfl
      have hcz18_4 : w3.cell? ⟨gb101, 4, none⟩ = some (.int .i64 a0_4) := (blk_cell BK101.out 4).trans rfl
      have hcz18_5 : w3.cell? ⟨gb101, 5, none⟩ = some (.int .i64 a0_5) := (blk_cell BK101.out 5).trans rfl
      have hcz18_6 : w3.cell? ⟨gb101, 6, none⟩ = some (.int .i64 a0_6) := (blk_cell BK101.out 6).trans rfl
      have hcz18_7 : w3.cell? ⟨gb101, 7, none⟩ = some (.bool a0_7) := (blk_cell BK101.out 7).trans rfl
      have hcz18_8 : w3.cell? ⟨gb101, 8, none⟩ = some (.slice A0_8 l0_8.length c0_8) := (blk_cell BK101.out 8).trans rfl
      have hfz18_0 := blk_frozen BK101.out 0
      have hfz18_1 := blk_frozen BK101.out 1
      have hfz18_2 := blk_frozen BK101.out 2
      have hfz18_3 := blk_frozen BK101.out 3
      have hfz18_4 := blk_frozen BK101.out 4
      have hfz18_5 := blk_frozen BK101.out 5
      have hfz18_6 := blk_frozen BK101.out 6
      have hfz18_7 := blk_frozen BK101.out 7
      have hfz18_8 := blk_frozen BK101.out 8
      go_wp2_with (first | ((with_reducible refine gate_callee (f := 94) rfl ?_); refine goesL_ (some 5) rfl rfl Try.func94 (by kernel_rfl) rfl #[.int .i64 a0_0, .int .i64 255] rfl (by (try simp only [List.map_toArray, List.map_cons, List.map_nil]); first | done | rfl | (simp only [List.length_drop, List.length_take]; rfl)) ?_; (with_reducible refine (pdu_within.calls a0_0 255 false _ A4.out).mono ?_); rintro e w' ⟨rfl, ⟨nd, rfl⟩⟩; refine ⟨_, rfl, ?_⟩))
      go_meet
      case rel => exact ⟨_, (true), (by first | rfl | (simp; done) | (simp [*]; done)), H', ⟨by first | omega | exact Nat.le_refl _⟩, ⟨by (with_reducible repeat (first | refine blk_drewN ?_ _ | refine blk_drew ?_ | refine blk_alloc ?_ _)); exact BK101.out⟩, ⟨by repeat (first | (with_reducible first | exact HB.out | apply below_alloc | apply pw_below_drewN | apply below_drew1 | refine below_set ?_ GE101.out) | exact HB.out)⟩⟩
  case rest =>
    clear HC2
    try clear c1
    try clear p2
    try clear c3
    try clear c5
    try clear c7
    try clear c8
    try clear c8b0
    try clear c8b1
    try clear c9
    try clear c11
    try clear c13
    try clear hcz14_0
    try clear hcz14_1
    try clear hcz14_2
    try clear hcz14_3
    try clear hcz14_4
    try clear hcz14_5
    try clear hcz14_6
    try clear hcz14_7
    try clear hcz14_8
    try clear hcz15_0
    try clear hcz15_1
    try clear hcz15_2
    try clear hcz15_3
    try clear hcz15_4
    try clear hcz15_5
    try clear hcz15_6
    try clear hcz15_7
    try clear hcz15_8
    try clear hcz16_0
    try clear hcz16_1
    try clear hcz16_2
    try clear hcz16_3
    try clear hcz16_4
    try clear hcz16_5
    try clear hcz16_6
    try clear hcz16_7
    try clear hcz16_8
    try clear hcz17_0
    try clear hcz17_1
    try clear hcz17_2
    try clear hcz17_3
    try clear hcz17_4
    try clear hcz17_5
    try clear hcz17_6
    try clear hcz17_7
    try clear hcz17_8
    try clear hcz18_0
    try clear hcz18_1
    try clear hcz18_2
    try clear hcz18_3
    try clear hcz18_4
    try clear hcz18_5
    try clear hcz18_6
    try clear hcz18_7
    try clear hcz18_8
    try clear hcz9_0
    try clear hcz9_1
    try clear hcz9_2
    try clear hcz9_3
    try clear hcz9_4
    try clear hcz9_5
    try clear hcz9_6
    try clear hcz9_7
    try clear hcz9_8
    try clear hfz14_0
    try clear hfz14_1
    try clear hfz14_2
    try clear hfz14_3
    try clear hfz14_4
    try clear hfz14_5
    try clear hfz14_6
    try clear hfz14_7
    try clear hfz14_8
    try clear hfz15_0
    try clear hfz15_1
    try clear hfz15_2
    try clear hfz15_3
    try clear hfz15_4
    try clear hfz15_5
    try clear hfz15_6
    try clear hfz15_7
    try clear hfz15_8
    try clear hfz16_0
    try clear hfz16_1
    try clear hfz16_2
    try clear hfz16_3
    try clear hfz16_4
    try clear hfz16_5
    try clear hfz16_6
    try clear hfz16_7
    try clear hfz16_8
    try clear hfz17_0
    try clear hfz17_1
    try clear hfz17_2
    try clear hfz17_3
    try clear hfz17_4
    try clear hfz17_5
    try clear hfz17_6
    try clear hfz17_7
    try clear hfz17_8
    try clear hfz18_0
    try clear hfz18_1
    try clear hfz18_2
    try clear hfz18_3
    try clear hfz18_4
    try clear hfz18_5
    try clear hfz18_6
    try clear hfz18_7
    try clear hfz18_8
    try clear hfz9_0
    try clear hfz9_1
    try clear hfz9_2
    try clear hfz9_3
    try clear hfz9_4
    try clear hfz9_5
    try clear hfz9_6
    try clear hfz9_7
    try clear hfz9_8
    obtain ⟨kq, x36_1, rfl, HA, HJ1, BK101, HB⟩ := hcut
    cases kq with
    | zero => exact absurd HA.out (by simp [pdu_May.j0])
    | succ kj1 =>
      have H := HA.out
      clear HA
      simp only [pdu_May.j0] at H
      by_cases c19 : x36_1 = true
      · subst c19
        have H1 : (some false) = some r := by rw [if_pos rfl] at H; exact H
        clear H
        have H := H1
        clear H1
        obtain rfl := Option.some.inj H
        go_wp2
        go_ret
        exact ⟨by first | rfl | (simp [errW_none, errW_some] <;> rfl) | (simp [*, errW_none, errW_some] <;> rfl), by repeat (first | (with_reducible first | exact HB.out | apply below_alloc | apply pw_below_drewN | apply below_drew1 | refine below_set ?_ GE101.out) | exact HB.out)⟩
      · replace c19 := Bool.eq_false_iff.mpr c19
        subst c19
        have H1 : (if a0_3 = 0 then (if a0_4 = 0 then (some ((Go.bits .and .i64 a0_0 1) == 0)) else (some false)) else (if a0_3 = 1 then ((pdu_within.f a0_4 2).bind fun t106 => (if t106 = true then (if a0_5 = 0 then (if (l0_8.length : Int) = 0 then (some ((Go.bits .and .i64 a0_0 1) == 0)) else (some false)) else (some false)) else (some false))) else (if a0_3 = 2 then (if a0_5 = 0 then (if a0_6 = 0 then ((pdu_kind.f kj1 a0_0 a0_1 a0_2 a0_3 a0_4 a0_5 a0_6 a0_7 l0_8).bind fun t107 => (some t107)) else (some false)) else (some false)) else (some false)))) = some r := by rw [if_neg (show ¬ (false = true) by decide)] at H; exact H
        clear H
        have H := H1
        clear H1
        by_cases c20 : a0_3 = 0
        · rw [if_pos c20] at H
          have c20b0 : (a0_3 == 0) = true := beq_iff_eq.mpr c20
          have c20b1 : (a0_3 != 0) = false := bne_eq_false_iff_eq.mpr c20
          clear c20
          by_cases c21 : a0_4 = 0
          · rw [if_pos c21] at H
            have c21b0 : (a0_4 == 0) = true := beq_iff_eq.mpr c21
            have c21b1 : (a0_4 != 0) = false := bne_eq_false_iff_eq.mpr c21
            clear c21
            obtain rfl := Option.some.inj H
            have hcz22_0 : wc.cell? ⟨gb101, 0, none⟩ = some (.int .i64 a0_0) := (blk_cell BK101.out 0).trans rfl
            have hcz22_1 : wc.cell? ⟨gb101, 1, none⟩ = some (.int .i64 a0_1) := (blk_cell BK101.out 1).trans rfl
            have hcz22_2 : wc.cell? ⟨gb101, 2, none⟩ = some (.bool a0_2) := (blk_cell BK101.out 2).trans rfl
            have hcz22_3 : wc.cell? ⟨gb101, 3, none⟩ = some (.int .i64 a0_3) := (blk_cell BK101.out 3).trans rfl
            have hcz22_4 : wc.cell? ⟨gb101, 4, none⟩ = some (.int .i64 a0_4) := (blk_cell BK101.out 4).trans rfl
            have hcz22_5 : wc.cell? ⟨gb101, 5, none⟩ = some (.int .i64 a0_5) := (blk_cell BK101.out 5).trans rfl
            have hcz22_6 : wc.cell? ⟨gb101, 6, none⟩ = some (.int .i64 a0_6) := (blk_cell BK101.out 6).trans rfl
            have hcz22_7 : wc.cell? ⟨gb101, 7, none⟩ = some (.bool a0_7) := (blk_cell BK101.out 7).trans rfl
            have hcz22_8 : wc.cell? ⟨gb101, 8, none⟩ = some (.slice A0_8 l0_8.length c0_8) := (blk_cell BK101.out 8).trans rfl
            have hfz22_0 := blk_frozen BK101.out 0
            have hfz22_1 := blk_frozen BK101.out 1
            have hfz22_2 := blk_frozen BK101.out 2
            have hfz22_3 := blk_frozen BK101.out 3
            have hfz22_4 := blk_frozen BK101.out 4
            have hfz22_5 := blk_frozen BK101.out 5
            have hfz22_6 := blk_frozen BK101.out 6
            have hfz22_7 := blk_frozen BK101.out 7
            have hfz22_8 := blk_frozen BK101.out 8
            go_wp2
            go_ret
            exact ⟨by first | rfl | (simp [errW_none, errW_some] <;> rfl) | (simp [*, errW_none, errW_some] <;> rfl), by repeat (first | (with_reducible first | exact HB.out | apply below_alloc | apply pw_below_drewN | apply below_drew1 | refine below_set ?_ GE101.out) | exact HB.out)⟩
          · rw [if_neg c21] at H
            have c21b0 : (a0_4 == 0) = false := beq_eq_false_iff_ne.mpr c21
            have c21b1 : (a0_4 != 0) = true := bne_iff_ne.mpr c21
            obtain rfl := Option.some.inj H
            have hcz23_0 : wc.cell? ⟨gb101, 0, none⟩ = some (.int .i64 a0_0) := (blk_cell BK101.out 0).trans rfl
            have hcz23_1 : wc.cell? ⟨gb101, 1, none⟩ = some (.int .i64 a0_1) := (blk_cell BK101.out 1).trans rfl
            have hcz23_2 : wc.cell? ⟨gb101, 2, none⟩ = some (.bool a0_2) := (blk_cell BK101.out 2).trans rfl
            have hcz23_3 : wc.cell? ⟨gb101, 3, none⟩ = some (.int .i64 a0_3) := (blk_cell BK101.out 3).trans rfl
            have hcz23_4 : wc.cell? ⟨gb101, 4, none⟩ = some (.int .i64 a0_4) := (blk_cell BK101.out 4).trans rfl
            have hcz23_5 : wc.cell? ⟨gb101, 5, none⟩ = some (.int .i64 a0_5) := (blk_cell BK101.out 5).trans rfl
            have hcz23_6 : wc.cell? ⟨gb101, 6, none⟩ = some (.int .i64 a0_6) := (blk_cell BK101.out 6).trans rfl
            have hcz23_7 : wc.cell? ⟨gb101, 7, none⟩ = some (.bool a0_7) := (blk_cell BK101.out 7).trans rfl
            have hcz23_8 : wc.cell? ⟨gb101, 8, none⟩ = some (.slice A0_8 l0_8.length c0_8) := (blk_cell BK101.out 8).trans rfl
            have hfz23_0 := blk_frozen BK101.out 0
            have hfz23_1 := blk_frozen BK101.out 1
            have hfz23_2 := blk_frozen BK101.out 2
            have hfz23_3 := blk_frozen BK101.out 3
            have hfz23_4 := blk_frozen BK101.out 4
            have hfz23_5 := blk_frozen BK101.out 5
            have hfz23_6 := blk_frozen BK101.out 6
            have hfz23_7 := blk_frozen BK101.out 7
            have hfz23_8 := blk_frozen BK101.out 8
            go_wp2
            go_ret
            exact ⟨by first | rfl | (simp [errW_none, errW_some] <;> rfl) | (simp [*, errW_none, errW_some] <;> rfl), by repeat (first | (with_reducible first | exact HB.out | apply below_alloc | apply pw_below_drewN | apply below_drew1 | refine below_set ?_ GE101.out) | exact HB.out)⟩
        · rw [if_neg c20] at H
          have c20b0 : (a0_3 == 0) = false := beq_eq_false_iff_ne.mpr c20
          have c20b1 : (a0_3 != 0) = true := bne_iff_ne.mpr c20
          by_cases c24 : a0_3 = 1
          · rw [if_pos c24] at H
            have c24b0 : (a0_3 == 1) = true := beq_iff_eq.mpr c24
            have c24b1 : (a0_3 != 1) = false := bne_eq_false_iff_eq.mpr c24
            clear c24
            replace H := Option.bind_eq_some_iff.mp H
            obtain ⟨t106, A250, H⟩ := H
            replace H : (if t106 = true then (if a0_5 = 0 then (if (l0_8.length : Int) = 0 then (some ((Go.bits .and .i64 a0_0 1) == 0)) else (some false)) else (some false)) else (some false)) = some r := H
            have A25 := Aside0.mk A250
            clear A250
            by_cases c26 : t106 = true
            · subst c26
              have H1 : (if a0_5 = 0 then (if (l0_8.length : Int) = 0 then (some ((Go.bits .and .i64 a0_0 1) == 0)) else (some false)) else (some false)) = some r := by rw [if_pos rfl] at H; exact H
              clear H
              have H := H1
              clear H1
              by_cases c27 : a0_5 = 0
              · rw [if_pos c27] at H
                have c27b0 : (a0_5 == 0) = true := beq_iff_eq.mpr c27
                have c27b1 : (a0_5 != 0) = false := bne_eq_false_iff_eq.mpr c27
                clear c27
                by_cases c28 : (l0_8.length : Int) = 0
                · rw [if_pos c28] at H
                  have c28b0 : ((l0_8.length : Int) == 0) = true := beq_iff_eq.mpr c28
                  have c28b1 : ((l0_8.length : Int) != 0) = false := bne_eq_false_iff_eq.mpr c28
                  clear c28
                  obtain rfl := Option.some.inj H
                  have hcz29_0 : wc.cell? ⟨gb101, 0, none⟩ = some (.int .i64 a0_0) := (blk_cell BK101.out 0).trans rfl
                  have hcz29_1 : wc.cell? ⟨gb101, 1, none⟩ = some (.int .i64 a0_1) := (blk_cell BK101.out 1).trans rfl
                  have hcz29_2 : wc.cell? ⟨gb101, 2, none⟩ = some (.bool a0_2) := (blk_cell BK101.out 2).trans rfl
                  have hcz29_3 : wc.cell? ⟨gb101, 3, none⟩ = some (.int .i64 a0_3) := (blk_cell BK101.out 3).trans rfl
                  have hcz29_4 : wc.cell? ⟨gb101, 4, none⟩ = some (.int .i64 a0_4) := (blk_cell BK101.out 4).trans rfl
                  have hcz29_5 : wc.cell? ⟨gb101, 5, none⟩ = some (.int .i64 a0_5) := (blk_cell BK101.out 5).trans rfl
                  have hcz29_6 : wc.cell? ⟨gb101, 6, none⟩ = some (.int .i64 a0_6) := (blk_cell BK101.out 6).trans rfl
                  have hcz29_7 : wc.cell? ⟨gb101, 7, none⟩ = some (.bool a0_7) := (blk_cell BK101.out 7).trans rfl
                  have hcz29_8 : wc.cell? ⟨gb101, 8, none⟩ = some (.slice A0_8 l0_8.length c0_8) := (blk_cell BK101.out 8).trans rfl
                  have hfz29_0 := blk_frozen BK101.out 0
                  have hfz29_1 := blk_frozen BK101.out 1
                  have hfz29_2 := blk_frozen BK101.out 2
                  have hfz29_3 := blk_frozen BK101.out 3
                  have hfz29_4 := blk_frozen BK101.out 4
                  have hfz29_5 := blk_frozen BK101.out 5
                  have hfz29_6 := blk_frozen BK101.out 6
                  have hfz29_7 := blk_frozen BK101.out 7
                  have hfz29_8 := blk_frozen BK101.out 8
                  go_wp2_with (first | ((with_reducible refine gate_callee (f := 94) rfl ?_); refine goesL_ (some 54) rfl rfl Try.func94 (by kernel_rfl) rfl #[.int .i64 a0_4, .int .i64 2] rfl (by (try simp only [List.map_toArray, List.map_cons, List.map_nil]); first | done | rfl | (simp only [List.length_drop, List.length_take]; rfl)) ?_; (with_reducible refine (pdu_within.calls a0_4 2 true _ A25.out).mono ?_); rintro e w' ⟨rfl, ⟨nd, rfl⟩⟩; refine ⟨_, rfl, ?_⟩))
                  go_ret
                  exact ⟨by first | rfl | (simp [errW_none, errW_some] <;> rfl) | (simp [*, errW_none, errW_some] <;> rfl), by repeat (first | (with_reducible first | exact HB.out | apply below_alloc | apply pw_below_drewN | apply below_drew1 | refine below_set ?_ GE101.out) | exact HB.out)⟩
                · rw [if_neg c28] at H
                  have c28b0 : ((l0_8.length : Int) == 0) = false := beq_eq_false_iff_ne.mpr c28
                  have c28b1 : ((l0_8.length : Int) != 0) = true := bne_iff_ne.mpr c28
                  have c28b2 : ¬ (l0_8 = []) := fun h_ => c28 (by rw [h_]; rfl)
                  obtain rfl := Option.some.inj H
                  have hcz30_0 : wc.cell? ⟨gb101, 0, none⟩ = some (.int .i64 a0_0) := (blk_cell BK101.out 0).trans rfl
                  have hcz30_1 : wc.cell? ⟨gb101, 1, none⟩ = some (.int .i64 a0_1) := (blk_cell BK101.out 1).trans rfl
                  have hcz30_2 : wc.cell? ⟨gb101, 2, none⟩ = some (.bool a0_2) := (blk_cell BK101.out 2).trans rfl
                  have hcz30_3 : wc.cell? ⟨gb101, 3, none⟩ = some (.int .i64 a0_3) := (blk_cell BK101.out 3).trans rfl
                  have hcz30_4 : wc.cell? ⟨gb101, 4, none⟩ = some (.int .i64 a0_4) := (blk_cell BK101.out 4).trans rfl
                  have hcz30_5 : wc.cell? ⟨gb101, 5, none⟩ = some (.int .i64 a0_5) := (blk_cell BK101.out 5).trans rfl
                  have hcz30_6 : wc.cell? ⟨gb101, 6, none⟩ = some (.int .i64 a0_6) := (blk_cell BK101.out 6).trans rfl
                  have hcz30_7 : wc.cell? ⟨gb101, 7, none⟩ = some (.bool a0_7) := (blk_cell BK101.out 7).trans rfl
                  have hcz30_8 : wc.cell? ⟨gb101, 8, none⟩ = some (.slice A0_8 l0_8.length c0_8) := (blk_cell BK101.out 8).trans rfl
                  have hfz30_0 := blk_frozen BK101.out 0
                  have hfz30_1 := blk_frozen BK101.out 1
                  have hfz30_2 := blk_frozen BK101.out 2
                  have hfz30_3 := blk_frozen BK101.out 3
                  have hfz30_4 := blk_frozen BK101.out 4
                  have hfz30_5 := blk_frozen BK101.out 5
                  have hfz30_6 := blk_frozen BK101.out 6
                  have hfz30_7 := blk_frozen BK101.out 7
                  have hfz30_8 := blk_frozen BK101.out 8
                  go_wp2_with (first | ((with_reducible refine gate_callee (f := 94) rfl ?_); refine goesL_ (some 54) rfl rfl Try.func94 (by kernel_rfl) rfl #[.int .i64 a0_4, .int .i64 2] rfl (by (try simp only [List.map_toArray, List.map_cons, List.map_nil]); first | done | rfl | (simp only [List.length_drop, List.length_take]; rfl)) ?_; (with_reducible refine (pdu_within.calls a0_4 2 true _ A25.out).mono ?_); rintro e w' ⟨rfl, ⟨nd, rfl⟩⟩; refine ⟨_, rfl, ?_⟩))
                  go_ret
                  exact ⟨by first | rfl | (simp [errW_none, errW_some] <;> rfl) | (simp [*, errW_none, errW_some] <;> rfl), by repeat (first | (with_reducible first | exact HB.out | apply below_alloc | apply pw_below_drewN | apply below_drew1 | refine below_set ?_ GE101.out) | exact HB.out)⟩
              · rw [if_neg c27] at H
                have c27b0 : (a0_5 == 0) = false := beq_eq_false_iff_ne.mpr c27
                have c27b1 : (a0_5 != 0) = true := bne_iff_ne.mpr c27
                obtain rfl := Option.some.inj H
                have hcz31_0 : wc.cell? ⟨gb101, 0, none⟩ = some (.int .i64 a0_0) := (blk_cell BK101.out 0).trans rfl
                have hcz31_1 : wc.cell? ⟨gb101, 1, none⟩ = some (.int .i64 a0_1) := (blk_cell BK101.out 1).trans rfl
                have hcz31_2 : wc.cell? ⟨gb101, 2, none⟩ = some (.bool a0_2) := (blk_cell BK101.out 2).trans rfl
                have hcz31_3 : wc.cell? ⟨gb101, 3, none⟩ = some (.int .i64 a0_3) := (blk_cell BK101.out 3).trans rfl
                have hcz31_4 : wc.cell? ⟨gb101, 4, none⟩ = some (.int .i64 a0_4) := (blk_cell BK101.out 4).trans rfl
                have hcz31_5 : wc.cell? ⟨gb101, 5, none⟩ = some (.int .i64 a0_5) := (blk_cell BK101.out 5).trans rfl
                have hcz31_6 : wc.cell? ⟨gb101, 6, none⟩ = some (.int .i64 a0_6) := (blk_cell BK101.out 6).trans rfl
                have hcz31_7 : wc.cell? ⟨gb101, 7, none⟩ = some (.bool a0_7) := (blk_cell BK101.out 7).trans rfl
                have hcz31_8 : wc.cell? ⟨gb101, 8, none⟩ = some (.slice A0_8 l0_8.length c0_8) := (blk_cell BK101.out 8).trans rfl
                have hfz31_0 := blk_frozen BK101.out 0
                have hfz31_1 := blk_frozen BK101.out 1
                have hfz31_2 := blk_frozen BK101.out 2
                have hfz31_3 := blk_frozen BK101.out 3
                have hfz31_4 := blk_frozen BK101.out 4
                have hfz31_5 := blk_frozen BK101.out 5
                have hfz31_6 := blk_frozen BK101.out 6
                have hfz31_7 := blk_frozen BK101.out 7
                have hfz31_8 := blk_frozen BK101.out 8
                go_wp2_with (first | ((with_reducible refine gate_callee (f := 94) rfl ?_); refine goesL_ (some 54) rfl rfl Try.func94 (by kernel_rfl) rfl #[.int .i64 a0_4, .int .i64 2] rfl (by (try simp only [List.map_toArray, List.map_cons, List.map_nil]); first | done | rfl | (simp only [List.length_drop, List.length_take]; rfl)) ?_; (with_reducible refine (pdu_within.calls a0_4 2 true _ A25.out).mono ?_); rintro e w' ⟨rfl, ⟨nd, rfl⟩⟩; refine ⟨_, rfl, ?_⟩))
                go_ret
                exact ⟨by first | rfl | (simp [errW_none, errW_some] <;> rfl) | (simp [*, errW_none, errW_some] <;> rfl), by repeat (first | (with_reducible first | exact HB.out | apply below_alloc | apply pw_below_drewN | apply below_drew1 | refine below_set ?_ GE101.out) | exact HB.out)⟩
            · replace c26 := Bool.eq_false_iff.mpr c26
              subst c26
              have H1 : (some false) = some r := by rw [if_neg (show ¬ (false = true) by decide)] at H; exact H
              clear H
              have H := H1
              clear H1
              obtain rfl := Option.some.inj H
              have hcz32_0 : wc.cell? ⟨gb101, 0, none⟩ = some (.int .i64 a0_0) := (blk_cell BK101.out 0).trans rfl
              have hcz32_1 : wc.cell? ⟨gb101, 1, none⟩ = some (.int .i64 a0_1) := (blk_cell BK101.out 1).trans rfl
              have hcz32_2 : wc.cell? ⟨gb101, 2, none⟩ = some (.bool a0_2) := (blk_cell BK101.out 2).trans rfl
              have hcz32_3 : wc.cell? ⟨gb101, 3, none⟩ = some (.int .i64 a0_3) := (blk_cell BK101.out 3).trans rfl
              have hcz32_4 : wc.cell? ⟨gb101, 4, none⟩ = some (.int .i64 a0_4) := (blk_cell BK101.out 4).trans rfl
              have hcz32_5 : wc.cell? ⟨gb101, 5, none⟩ = some (.int .i64 a0_5) := (blk_cell BK101.out 5).trans rfl
              have hcz32_6 : wc.cell? ⟨gb101, 6, none⟩ = some (.int .i64 a0_6) := (blk_cell BK101.out 6).trans rfl
              have hcz32_7 : wc.cell? ⟨gb101, 7, none⟩ = some (.bool a0_7) := (blk_cell BK101.out 7).trans rfl
              have hcz32_8 : wc.cell? ⟨gb101, 8, none⟩ = some (.slice A0_8 l0_8.length c0_8) := (blk_cell BK101.out 8).trans rfl
              have hfz32_0 := blk_frozen BK101.out 0
              have hfz32_1 := blk_frozen BK101.out 1
              have hfz32_2 := blk_frozen BK101.out 2
              have hfz32_3 := blk_frozen BK101.out 3
              have hfz32_4 := blk_frozen BK101.out 4
              have hfz32_5 := blk_frozen BK101.out 5
              have hfz32_6 := blk_frozen BK101.out 6
              have hfz32_7 := blk_frozen BK101.out 7
              have hfz32_8 := blk_frozen BK101.out 8
              go_wp2_with (first | ((with_reducible refine gate_callee (f := 94) rfl ?_); refine goesL_ (some 54) rfl rfl Try.func94 (by kernel_rfl) rfl #[.int .i64 a0_4, .int .i64 2] rfl (by (try simp only [List.map_toArray, List.map_cons, List.map_nil]); first | done | rfl | (simp only [List.length_drop, List.length_take]; rfl)) ?_; (with_reducible refine (pdu_within.calls a0_4 2 false _ A25.out).mono ?_); rintro e w' ⟨rfl, ⟨nd, rfl⟩⟩; refine ⟨_, rfl, ?_⟩))
              go_ret
              exact ⟨by first | rfl | (simp [errW_none, errW_some] <;> rfl) | (simp [*, errW_none, errW_some] <;> rfl), by repeat (first | (with_reducible first | exact HB.out | apply below_alloc | apply pw_below_drewN | apply below_drew1 | refine below_set ?_ GE101.out) | exact HB.out)⟩
          · rw [if_neg c24] at H
            have c24b0 : (a0_3 == 1) = false := beq_eq_false_iff_ne.mpr c24
            have c24b1 : (a0_3 != 1) = true := bne_iff_ne.mpr c24
            by_cases c33 : a0_3 = 2
            · rw [if_pos c33] at H
              have c33b0 : (a0_3 == 2) = true := beq_iff_eq.mpr c33
              have c33b1 : (a0_3 != 2) = false := bne_eq_false_iff_eq.mpr c33
              clear c33
              by_cases c34 : a0_5 = 0
              · rw [if_pos c34] at H
                have c34b0 : (a0_5 == 0) = true := beq_iff_eq.mpr c34
                have c34b1 : (a0_5 != 0) = false := bne_eq_false_iff_eq.mpr c34
                clear c34
                by_cases c35 : a0_6 = 0
                · rw [if_pos c35] at H
                  have c35b0 : (a0_6 == 0) = true := beq_iff_eq.mpr c35
                  have c35b1 : (a0_6 != 0) = false := bne_eq_false_iff_eq.mpr c35
                  clear c35
                  replace H := Option.bind_eq_some_iff.mp H
                  obtain ⟨t107, A360, H⟩ := H
                  replace H : (some t107) = some r := H
                  have A36 := Aside0.mk A360
                  clear A360
                  obtain rfl := Option.some.inj H
                  have hcz37_0 : wc.cell? ⟨gb101, 0, none⟩ = some (.int .i64 a0_0) := (blk_cell BK101.out 0).trans rfl
                  have hcz37_1 : wc.cell? ⟨gb101, 1, none⟩ = some (.int .i64 a0_1) := (blk_cell BK101.out 1).trans rfl
                  have hcz37_2 : wc.cell? ⟨gb101, 2, none⟩ = some (.bool a0_2) := (blk_cell BK101.out 2).trans rfl
                  have hcz37_3 : wc.cell? ⟨gb101, 3, none⟩ = some (.int .i64 a0_3) := (blk_cell BK101.out 3).trans rfl
                  have hcz37_4 : wc.cell? ⟨gb101, 4, none⟩ = some (.int .i64 a0_4) := (blk_cell BK101.out 4).trans rfl
                  have hcz37_5 : wc.cell? ⟨gb101, 5, none⟩ = some (.int .i64 a0_5) := (blk_cell BK101.out 5).trans rfl
                  have hcz37_6 : wc.cell? ⟨gb101, 6, none⟩ = some (.int .i64 a0_6) := (blk_cell BK101.out 6).trans rfl
                  have hcz37_7 : wc.cell? ⟨gb101, 7, none⟩ = some (.bool a0_7) := (blk_cell BK101.out 7).trans rfl
                  have hcz37_8 : wc.cell? ⟨gb101, 8, none⟩ = some (.slice A0_8 l0_8.length c0_8) := (blk_cell BK101.out 8).trans rfl
                  have hfz37_0 := blk_frozen BK101.out 0
                  have hfz37_1 := blk_frozen BK101.out 1
                  have hfz37_2 := blk_frozen BK101.out 2
                  have hfz37_3 := blk_frozen BK101.out 3
                  have hfz37_4 := blk_frozen BK101.out 4
                  have hfz37_5 := blk_frozen BK101.out 5
                  have hfz37_6 := blk_frozen BK101.out 6
                  have hfz37_7 := blk_frozen BK101.out 7
                  have hfz37_8 := blk_frozen BK101.out 8
                  go_wp2_with (first | (go_at_call 95; (with_reducible refine (pdu_kind.calls kj1 a0_0 a0_1 a0_2 a0_3 a0_4 a0_5 a0_6 a0_7 _ _ l0_8 t107 _ ?side1 ?side2 A36.out).mono ?_); (case side1 => repeat (first | exact (Kd.C_below HR0_8.out HB.out) | (with_reducible refine Kd.C_alloc ?_ _) | (with_reducible refine Kd.C_drewN ?_ _) | (with_reducible refine Kd.C_drew ?_))); (case side2 => exact HC0_8.out); rintro e w38 ⟨rfl, hb⟩; have n0_ := Aside0.mk (blk_below (g := gb101) (o := .cells #[.int .i64 a0_0, .int .i64 a0_1, .bool a0_2, .int .i64 a0_3, .int .i64 a0_4, .int .i64 a0_5, .int .i64 a0_6, .bool a0_7, .slice A0_8 l0_8.length c0_8] 25 (0, 0)) (by (with_reducible repeat (first | refine blk_drewN ?_ _ | refine blk_drew ?_ | refine blk_alloc ?_ _)); exact BK101.out) hb); have n1_ := Aside0.mk (below_step (by repeat (first | (with_reducible first | exact HB.out | apply below_alloc | apply pw_below_drewN | apply below_drew1 | refine below_set ?_ GE101.out) | exact HB.out)) hb); clear BK101; clear HB; have BK101 := n0_; have HB := n1_; clear n0_ n1_; (try clear hb); (try clear hb2); (try clear hk); (try clear hi)))
                  go_ret
                  exact ⟨by first | rfl | (simp [errW_none, errW_some] <;> rfl) | (simp [*, errW_none, errW_some] <;> rfl), by repeat (first | (with_reducible first | exact HB.out | apply below_alloc | apply pw_below_drewN | apply below_drew1 | refine below_set ?_ GE101.out) | exact HB.out)⟩
                · rw [if_neg c35] at H
                  have c35b0 : (a0_6 == 0) = false := beq_eq_false_iff_ne.mpr c35
                  have c35b1 : (a0_6 != 0) = true := bne_iff_ne.mpr c35
                  obtain rfl := Option.some.inj H
                  have hcz39_0 : wc.cell? ⟨gb101, 0, none⟩ = some (.int .i64 a0_0) := (blk_cell BK101.out 0).trans rfl
                  have hcz39_1 : wc.cell? ⟨gb101, 1, none⟩ = some (.int .i64 a0_1) := (blk_cell BK101.out 1).trans rfl
                  have hcz39_2 : wc.cell? ⟨gb101, 2, none⟩ = some (.bool a0_2) := (blk_cell BK101.out 2).trans rfl
                  have hcz39_3 : wc.cell? ⟨gb101, 3, none⟩ = some (.int .i64 a0_3) := (blk_cell BK101.out 3).trans rfl
                  have hcz39_4 : wc.cell? ⟨gb101, 4, none⟩ = some (.int .i64 a0_4) := (blk_cell BK101.out 4).trans rfl
                  have hcz39_5 : wc.cell? ⟨gb101, 5, none⟩ = some (.int .i64 a0_5) := (blk_cell BK101.out 5).trans rfl
                  have hcz39_6 : wc.cell? ⟨gb101, 6, none⟩ = some (.int .i64 a0_6) := (blk_cell BK101.out 6).trans rfl
                  have hcz39_7 : wc.cell? ⟨gb101, 7, none⟩ = some (.bool a0_7) := (blk_cell BK101.out 7).trans rfl
                  have hcz39_8 : wc.cell? ⟨gb101, 8, none⟩ = some (.slice A0_8 l0_8.length c0_8) := (blk_cell BK101.out 8).trans rfl
                  have hfz39_0 := blk_frozen BK101.out 0
                  have hfz39_1 := blk_frozen BK101.out 1
                  have hfz39_2 := blk_frozen BK101.out 2
                  have hfz39_3 := blk_frozen BK101.out 3
                  have hfz39_4 := blk_frozen BK101.out 4
                  have hfz39_5 := blk_frozen BK101.out 5
                  have hfz39_6 := blk_frozen BK101.out 6
                  have hfz39_7 := blk_frozen BK101.out 7
                  have hfz39_8 := blk_frozen BK101.out 8
                  go_wp2
                  go_ret
                  exact ⟨by first | rfl | (simp [errW_none, errW_some] <;> rfl) | (simp [*, errW_none, errW_some] <;> rfl), by repeat (first | (with_reducible first | exact HB.out | apply below_alloc | apply pw_below_drewN | apply below_drew1 | refine below_set ?_ GE101.out) | exact HB.out)⟩
              · rw [if_neg c34] at H
                have c34b0 : (a0_5 == 0) = false := beq_eq_false_iff_ne.mpr c34
                have c34b1 : (a0_5 != 0) = true := bne_iff_ne.mpr c34
                obtain rfl := Option.some.inj H
                have hcz40_0 : wc.cell? ⟨gb101, 0, none⟩ = some (.int .i64 a0_0) := (blk_cell BK101.out 0).trans rfl
                have hcz40_1 : wc.cell? ⟨gb101, 1, none⟩ = some (.int .i64 a0_1) := (blk_cell BK101.out 1).trans rfl
                have hcz40_2 : wc.cell? ⟨gb101, 2, none⟩ = some (.bool a0_2) := (blk_cell BK101.out 2).trans rfl
                have hcz40_3 : wc.cell? ⟨gb101, 3, none⟩ = some (.int .i64 a0_3) := (blk_cell BK101.out 3).trans rfl
                have hcz40_4 : wc.cell? ⟨gb101, 4, none⟩ = some (.int .i64 a0_4) := (blk_cell BK101.out 4).trans rfl
                have hcz40_5 : wc.cell? ⟨gb101, 5, none⟩ = some (.int .i64 a0_5) := (blk_cell BK101.out 5).trans rfl
                have hcz40_6 : wc.cell? ⟨gb101, 6, none⟩ = some (.int .i64 a0_6) := (blk_cell BK101.out 6).trans rfl
                have hcz40_7 : wc.cell? ⟨gb101, 7, none⟩ = some (.bool a0_7) := (blk_cell BK101.out 7).trans rfl
                have hcz40_8 : wc.cell? ⟨gb101, 8, none⟩ = some (.slice A0_8 l0_8.length c0_8) := (blk_cell BK101.out 8).trans rfl
                have hfz40_0 := blk_frozen BK101.out 0
                have hfz40_1 := blk_frozen BK101.out 1
                have hfz40_2 := blk_frozen BK101.out 2
                have hfz40_3 := blk_frozen BK101.out 3
                have hfz40_4 := blk_frozen BK101.out 4
                have hfz40_5 := blk_frozen BK101.out 5
                have hfz40_6 := blk_frozen BK101.out 6
                have hfz40_7 := blk_frozen BK101.out 7
                have hfz40_8 := blk_frozen BK101.out 8
                go_wp2
                go_ret
                exact ⟨by first | rfl | (simp [errW_none, errW_some] <;> rfl) | (simp [*, errW_none, errW_some] <;> rfl), by repeat (first | (with_reducible first | exact HB.out | apply below_alloc | apply pw_below_drewN | apply below_drew1 | refine below_set ?_ GE101.out) | exact HB.out)⟩
            · rw [if_neg c33] at H
              have c33b0 : (a0_3 == 2) = false := beq_eq_false_iff_ne.mpr c33
              have c33b1 : (a0_3 != 2) = true := bne_iff_ne.mpr c33
              obtain rfl := Option.some.inj H
              have hcz41_0 : wc.cell? ⟨gb101, 0, none⟩ = some (.int .i64 a0_0) := (blk_cell BK101.out 0).trans rfl
              have hcz41_1 : wc.cell? ⟨gb101, 1, none⟩ = some (.int .i64 a0_1) := (blk_cell BK101.out 1).trans rfl
              have hcz41_2 : wc.cell? ⟨gb101, 2, none⟩ = some (.bool a0_2) := (blk_cell BK101.out 2).trans rfl
              have hcz41_3 : wc.cell? ⟨gb101, 3, none⟩ = some (.int .i64 a0_3) := (blk_cell BK101.out 3).trans rfl
              have hcz41_4 : wc.cell? ⟨gb101, 4, none⟩ = some (.int .i64 a0_4) := (blk_cell BK101.out 4).trans rfl
              have hcz41_5 : wc.cell? ⟨gb101, 5, none⟩ = some (.int .i64 a0_5) := (blk_cell BK101.out 5).trans rfl
              have hcz41_6 : wc.cell? ⟨gb101, 6, none⟩ = some (.int .i64 a0_6) := (blk_cell BK101.out 6).trans rfl
              have hcz41_7 : wc.cell? ⟨gb101, 7, none⟩ = some (.bool a0_7) := (blk_cell BK101.out 7).trans rfl
              have hcz41_8 : wc.cell? ⟨gb101, 8, none⟩ = some (.slice A0_8 l0_8.length c0_8) := (blk_cell BK101.out 8).trans rfl
              have hfz41_0 := blk_frozen BK101.out 0
              have hfz41_1 := blk_frozen BK101.out 1
              have hfz41_2 := blk_frozen BK101.out 2
              have hfz41_3 := blk_frozen BK101.out 3
              have hfz41_4 := blk_frozen BK101.out 4
              have hfz41_5 := blk_frozen BK101.out 5
              have hfz41_6 := blk_frozen BK101.out 6
              have hfz41_7 := blk_frozen BK101.out 7
              have hfz41_8 := blk_frozen BK101.out 8
              go_wp2
              go_ret
              exact ⟨by first | rfl | (simp [errW_none, errW_some] <;> rfl) | (simp [*, errW_none, errW_some] <;> rfl), by repeat (first | (with_reducible first | exact HB.out | apply below_alloc | apply pw_below_drewN | apply below_drew1 | refine below_set ?_ GE101.out) | exact HB.out)⟩
end Go.Proofs.Ytnmcoebjkfpmjaa.P
/-! Px101 -/
namespace Go.Proofs.Ytnmcoebjkfpmjaa.P
open Go.RowKit Go.Proofs.YtnmcoebjkfpmjaaW.PrintWords Go.Proofs.YtnmcoebjkfpmjaaW.PrintLast Go.Proofs.YtnmcoebjkfpmjaaW.PrintMore
attribute [local go_sem] max2_int min2_int max_two min_two max_three min_three max_four min_four   -- for this text's walks alone
set_option linter.unusedVariables false
set_option linter.unusedSimpArgs false
def bytes_Clone.f (l0 : List Int) : Option (List Int) := if l0.length < 140737488355328 then some l0 else none
theorem bytes_Clone.nil_calls (n c : Nat) (w : World) :
    Calls Try.prog 100 #[.slice none n c] w fun e w' => e = .returned (.slice none 0 0) ∧ w' = w := by
  have q22 : ∀ (w : World) (a : Option Addr) (n c n' c' : Nat), (binOp .eql 23 (.slice a n c) (.slice none n' c')).run Try.prog w = .ok (.bool a.isNone) w := fun w a n c n' c' => Lib.run_eql_slice_nil w _ _ a n c n' c' Try.underlying23
  go_enter Try.func100, Try.ntmps100
  go_wp2
  go_ret
  exact ⟨rfl, rfl⟩
set_option maxHeartbeats 2000000 in
theorem bytes_Clone.some_calls (a : Addr) (n c : Nat) (xs : List Int) (w : World) (hx : xs.length = n) (hbig : n ≤ 140737488355328) (hc : ∀ i, i < n → w.cell? (a.add i) = some (.int .u8 (xs.getD i 0))) :
    Calls Try.prog 100 #[.slice (some a) n c] w fun e w' => ∃ v', e = .returned v' ∧ w'.ownsRow w.heap.size 5 1 v' n (xs.map (Value.int .u8)) ∧ Below w.heap.size w w' := by
  obtain ⟨i0, hi, hz0, hz1, hz2⟩ := info_parts info5
  have q22 : ∀ (w : World) (a : Option Addr) (n c n' c' : Nat), (binOp .eql 23 (.slice a n c) (.slice none n' c')).run Try.prog w = .ok (.bool a.isNone) w := fun w a n c n' c' => Lib.run_eql_slice_nil w _ _ a n c n' c' Try.underlying23
  have A := Aside0.mk hc
  clear hc
  go_enter Try.func100, Try.ntmps100
  go_wp2_with (at_builtin; refine wpList_append_own _ rfl _ _ 23 rfl w.heap.size 5 i0 (.int .u8 0) 1 1 Try.underlying23 hi hz0 hz1 hz2 rfl (by decide) _ _ _ rfl (World.ownsRow_made w #[] 0 (Nat.le_refl _) (Nat.zero_le _) rfl) a n c (xs.map (Value.int .u8)) rfl ?qc1 ?qc2 ?qc3 ?qc4 ?qc5 ?qc6 ?_)
  case qc1 => simp; omega
  case qc2 =>
    intro j u hj
    have hjn : j < n := by
      have := (List.getElem?_eq_some_iff.1 hj).1
      simp at this
      omega
    refine Lib.cell?_alloc_some _ ?_
    rw [A.out j hjn]
    have e : (xs.map (Value.int .u8))[j]? = some (Value.int .u8 (xs.getD j 0)) := by simp [List.getD, List.getElem?_eq_getElem (show j < xs.length by omega)]
    rw [e] at hj
    exact hj
  case qc3 => intro u hu; obtain ⟨x, _, rfl⟩ := List.mem_map.1 hu; rfl
  case qc4 => unfold maxLen; omega
  case qc5 => omega
  case qc6 => simp
  intro v' w1 hown hgrow hnil
  go_wp2
  go_ret
  exact ⟨v', rfl, by simpa using hown, ((Below.refl _ w).alloc (Nat.le_refl _) _).grown hgrow (by simp) (by intro k hk; simp [Value.ownBlock] at hk; omega)⟩
theorem bytes_Clone.calls (A0 : Option Addr) (c0 : Nat) (l0 : List Int) (r : List Int) (w : World) (hr0 : Kd.C (Kd.int .u8) w A0 l0.length l0) (hc0 : l0.length ≤ c0) (h : bytes_Clone.f l0 = some r) :
    Calls Try.prog 100 #[.slice A0 l0.length c0] w fun e w' => ∃ v0_ : Value, e = .returned (v0_) ∧ Kd.R (Kd.int .u8) 5 w' w.heap.size (fun _ => True) v0_ r ∧ Below w.heap.size w w' := by
  have h2 : l0.length < 140737488355328 ∧ l0 = r := by
    unfold bytes_Clone.f at h
    split at h
    · exact ⟨by assumption, by injection h⟩
    · cases h
  obtain ⟨hl, rfl⟩ := h2
  have hr := Kd.reads_of_C (enc := Value.int .u8) (d := (0 : Int)) (h1 := fun _ => rfl) hr0
  cases A0 with
  | none =>
    have h0 : l0 = [] := by
      by_cases h0 : 0 < l0.length
      · obtain ⟨ad, h, _⟩ := hr.2.2 h0
        cases h
      · exact List.eq_nil_of_length_eq_zero (by omega)
    subst h0
    refine (bytes_Clone.nil_calls _ _ w).mono ?_
    rintro e w' ⟨rfl, rfl⟩
    exact ⟨_, rfl, Kd.R_nil _ _ _ _ _, Below.refl _ _⟩
  | some a =>
    refine (bytes_Clone.some_calls a l0.length c0 l0 w rfl (by omega) ?_).mono ?_
    · intro i hi
      obtain ⟨ad, h, hc⟩ := hr.2.2 (by omega)
      injection h with h
      subst h
      have := hc i hi
      simpa [rdOf, List.getD_eq_getElem?_getD] using this
    · rintro e w' ⟨v', rfl, hown, hb⟩
      exact ⟨v', rfl, Kd.R_of_own (enc := Value.int .u8) (by simpa [encs] using hown) (fun _ _ => trivial), hb⟩
end Go.Proofs.Ytnmcoebjkfpmjaa.P
/-! Px87 -/
namespace Go.Proofs.Ytnmcoebjkfpmjaa.P
open Go.RowKit Go.Proofs.YtnmcoebjkfpmjaaW.PrintWords Go.Proofs.YtnmcoebjkfpmjaaW.PrintLast Go.Proofs.YtnmcoebjkfpmjaaW.PrintMore
attribute [local go_sem] max2_int min2_int max_two min_two max_three min_three max_four min_four   -- for this text's walks alone
set_option linter.unusedVariables false
set_option linter.unusedSimpArgs false
def IsRd (w0 W : World) (g : Nat) (l : List Int) (b : Bool) : Prop :=
  ∃ A0 c0, W.heap[g]? = some (.cells #[.slice A0 l.length c0, .bool b] 135 (0, 0)) ∧ w0.heap.size ≤ g ∧ Kd.C (Kd.int .u8) w0 A0 l.length l ∧ l.length ≤ c0
theorem IsRd.below {w0 W W1 : World} {g : Nat} {l : List Int} {b : Bool} (h : IsRd w0 W g l b) (hw : Below W.heap.size W W1) : IsRd w0 W1 g l b := by
  obtain ⟨A0, c0, hb, h2⟩ := h
  exact ⟨A0, c0, (hw.block g (blk_lt hb)).trans hb, h2⟩
theorem IsRd.drewN {w0 W : World} {g : Nat} {l : List Int} {b : Bool} (h : IsRd w0 W g l b) (m : Nat) : IsRd w0 (W.drewN m) g l b := h
theorem IsRd.drew {w0 W : World} {g : Nat} {l : List Int} {b : Bool} (h : IsRd w0 W g l b) : IsRd w0 W.drew g l b := h
theorem octet_New.calls (A0 : Option Addr) (c0 : Nat) (l0 : List Int) (w : World) (hr0 : Kd.C (Kd.int .u8) w A0 l0.length l0) (hc0 : l0.length ≤ c0) (hl : l0.length < 140737488355328) :
    Calls Try.prog 86 #[.slice A0 l0.length c0] w fun e w' => ∃ (g : Nat) (w1 : World), e = .returned (.pointer (some ⟨g, 0, none⟩)) ∧ Below w.heap.size w w1 ∧ Below w1.heap.size w1 w' ∧ IsRd w1 w' g l0 false := by
  have HR := Aside0.mk hr0
  have HC := Aside0.mk hc0
  clear hr0 hc0
  have h0 : bytes_Clone.f l0 = some l0 := by unfold bytes_Clone.f; rw [if_pos hl]
  have H0 := Aside0.mk h0
  clear h0
  go_enter Try.func86, Try.ntmps86
  go_wp2_with (go_at_call 100; refine (bytes_Clone.calls _ _ _ _ _ HR.out HC.out H0.out).mono ?_; rintro e w1 ⟨v0, rfl, hR, hB⟩; obtain ⟨A1, c1, rfl, hc1, hC1⟩ := Kd.R_reads hR; have HC1 := Aside0.mk hC1; have Hc1 := Aside0.mk hc1; have HB1 := Aside0.mk hB; clear hR hB hC1 hc1)
  go_ret
  exact ⟨_, w1, rfl, HB1.out, below_alloc (Below.refl _ _) _, A1, c1, heap_alloc_new _ _, Nat.le_refl _, HC1.out, Hc1.out⟩
end Go.Proofs.Ytnmcoebjkfpmjaa.P
/-! Px118 -/
namespace Go.Proofs.Ytnmcoebjkfpmjaa.P
open Go.RowKit Go.Proofs.YtnmcoebjkfpmjaaW.PrintWords Go.Proofs.YtnmcoebjkfpmjaaW.PrintLast Go.Proofs.YtnmcoebjkfpmjaaW.PrintMore
attribute [local go_sem] max2_int min2_int max_two min_two max_three min_three max_four min_four   -- for this text's walks alone
set_option linter.unusedVariables false
set_option linter.unusedSimpArgs false
def octet_may.f (a0 : Int) : Option (Bool) := if a0 ≥ 1 then (some (decide (a0 ≤ 7))) else (some false)
set_option maxHeartbeats 8000000 in
set_option maxRecDepth 100000 in
theorem octet_may.calls (a0 : Int) (r : Bool) (w : World) (h : octet_may.f a0 = some r) :
    Calls Try.prog 117 #[.int .i64 a0] w fun e w' => e = .returned (.bool r) ∧ Drawn0 w w' := by
  have H : (if a0 ≥ 1 then (some (decide (a0 ≤ 7))) else (some false)) = some r := h
  clear h
  by_cases c2 : a0 ≥ 1
  · rw [if_pos c2] at H
    have c2b0 : decide (1 ≤ a0) = true := decide_eq_true c2
    clear c2
    obtain rfl := Option.some.inj H
    go_enter Try.func117, Try.ntmps117
    go_wp2
    go_ret
    exact ⟨by first | rfl | (simp; done) | (simp [*]; done), by repeat (first | exact Drawn0.refl _ | apply Drawn0.step)⟩
  · rw [if_neg c2] at H
    have c2b0 : decide (1 ≤ a0) = false := decide_eq_false c2
    clear c2
    obtain rfl := Option.some.inj H
    go_enter Try.func117, Try.ntmps117
    go_wp2
    go_ret
    exact ⟨by first | rfl | (simp; done) | (simp [*]; done), by repeat (first | exact Drawn0.refl _ | apply Drawn0.step)⟩
end Go.Proofs.Ytnmcoebjkfpmjaa.P
/-! Px102 -/
namespace Go.Proofs.Ytnmcoebjkfpmjaa.P
open Go.RowKit Go.Proofs.YtnmcoebjkfpmjaaW.PrintWords Go.Proofs.YtnmcoebjkfpmjaaW.PrintLast Go.Proofs.YtnmcoebjkfpmjaaW.PrintMore
attribute [local go_sem] max2_int min2_int max_two min_two max_three min_three max_four min_four   -- for this text's walks alone
set_option linter.unusedVariables false
set_option linter.unusedSimpArgs false
def octet_Get.l0 : Nat → Int → List Int → Int → Int → Option (Int)
  | 0, _, _, _, _ => none
  | k + 1, x3, x10, x11, x12 => if x12 < x11 then (if 0 ≤ x12 then (if x12 < (x10.length : Int) then (octet_Get.l0 k (Go.bits .or .i64 (wrap64 (x3 * 256)) (wrap64 (rd x10 x12))) x10 x11 (wrap64 (x12 + 1))) else (none)) else (none)) else (some x3)
def octet_Get.f (k : Nat) (l0 : List Int) : Option (Int) := (octet_may.f (l0.length : Int)).bind fun t101 => (if t101 = true then (octet_Get.l0 k 0 l0 (l0.length : Int) 0) else (some 0))
set_option maxHeartbeats 8000000 in
set_option maxRecDepth 100000 in
theorem octet_Get.calls (k : Nat) (A0 : Option Addr) (c0 : Nat) (l0 : List Int) (r : Int) (w : World) (hr0 : Kd.C (Kd.int .u8) w A0 l0.length l0) (hc0 : l0.length ≤ c0) (h : octet_Get.f k l0 = some r) :
    Calls Try.prog 101 #[.slice A0 l0.length c0] w fun e w' => e = .returned (.int .i64 r) ∧ Drawn0 w w' := by
  have HR0 := Aside0.mk hr0
  have HC0 := Aside0.mk hc0
  clear hr0 hc0
  have H : ((octet_may.f (l0.length : Int)).bind fun t101 => (if t101 = true then (octet_Get.l0 k 0 l0 (l0.length : Int) 0) else (some 0))) = some r := h
  clear h
  replace H := Option.bind_eq_some_iff.mp H
  obtain ⟨t101, A20, H⟩ := H
  replace H : (if t101 = true then (octet_Get.l0 k 0 l0 (l0.length : Int) 0) else (some 0)) = some r := H
  have A2 := Aside0.mk A20
  clear A20
  by_cases c3 : t101 = true
  · subst c3
    have H1 : (octet_Get.l0 k 0 l0 (l0.length : Int) 0) = some r := by rw [if_pos rfl] at H; exact H
    clear H
    have H := H1
    clear H1
    have H' := Aside0.mk H
    clear H
    go_enter Try.func101, Try.ntmps101
    go_wp2_with (first | ((with_reducible refine gate_callee (f := 117) rfl ?_); refine goesL_ (some 8) rfl rfl Try.func117 (by kernel_rfl) rfl #[.int .i64 (l0.length : Int)] rfl (by (try simp only [List.map_toArray, List.map_cons, List.map_nil]); first | done | rfl | (simp only [List.length_drop, List.length_take]; rfl)) ?_; (with_reducible refine (octet_may.calls (l0.length : Int) true _ A2.out).mono ?_); rintro e w' ⟨rfl, ⟨nd, rfl⟩⟩; refine ⟨_, rfl, ?_⟩))
    go_loopg [3, 12] k (fun kq v3 v12 w' => ∃ (x3_1 : Int) (x12_1 : Int), v3 = .int .i64 x3_1 ∧ v12 = .int .i64 x12_1 ∧ Aside0 (octet_Get.l0 kq x3_1 l0 (l0.length : Int) x12_1 = some r) ∧ Aside0 (kq ≤ k) ∧ Drawn0 w w')
    case atStart => exact ⟨(0), (0), (by first | rfl | (simp; done) | (simp [*]; done)), (by first | rfl | (simp; done) | (simp [*]; done)), H', ⟨Nat.le_refl _⟩, by repeat (first | exact Drawn0.refl _ | apply Drawn0.step)⟩
    case round =>
      clear H'
      try clear c1
      try clear p2
      try clear c3
      obtain ⟨x3_1, x12_1, rfl, rfl, HA, HK1, ⟨m1, rfl⟩⟩ := hrel
      cases gk with
      | zero => exact absurd HA.out (by simp [octet_Get.l0])
      | succ k1 =>
        have H := HA.out
        clear HA
        simp only [octet_Get.l0] at H
        by_cases c4 : x12_1 < (l0.length : Int)
        · rw [if_pos c4] at H
          have c4b0 : decide (x12_1 < (l0.length : Int)) = true := decide_eq_true c4
          clear c4
          by_cases c5 : 0 ≤ x12_1
          · rw [if_pos c5] at H
            have c5b0 : decide (0 ≤ x12_1) = true := decide_eq_true c5
            clear c5
            by_cases c6 : x12_1 < (l0.length : Int)
            · rw [if_pos c6] at H
              have c6b0 : decide (x12_1 < (l0.length : Int)) = true := decide_eq_true c6
              clear c6
              have H' := Aside0.mk H
              clear H
              have p102 : 0 ≤ (x12_1 : Int) := of_decide_eq_true (by first | (with_reducible assumption) | assumption)
              have q102 : x12_1 < (l0.length : Int) := of_decide_eq_true (by first | (with_reducible assumption) | assumption)
              obtain ⟨ad102, e102, hx102_0⟩ := Kd.at_int HR0.out x12_1 p102 q102
              cases e102
              replace p102 := eq_true p102
              replace q102 := eq_true q102
              go_wp2
              go_roundg k1
              case measure => have := HK1.out; omega
              case rel => exact ⟨(Go.bits .or .i64 (wrap64 (x3_1 * 256)) (wrap64 (rd l0 x12_1))), (wrap64 (x12_1 + 1)), (by first | rfl | (simp; done) | (simp [*]; done)), (by first | rfl | (simp; done) | (simp [*]; done)), H', ⟨by have := HK1.out; omega⟩, by repeat (first | exact Drawn0.refl _ | apply Drawn0.step)⟩
            · rw [if_neg c6] at H
              exact absurd H (by simp)
          · rw [if_neg c5] at H
            exact absurd H (by simp)
        · rw [if_neg c4] at H
          have c4b0 : decide (x12_1 < (l0.length : Int)) = false := decide_eq_false c4
          clear c4
          obtain rfl := Option.some.inj H
          go_wp2
          go_ret
          exact ⟨by first | rfl | (simp; done) | (simp [*]; done), by repeat (first | exact Drawn0.refl _ | apply Drawn0.step)⟩
  · replace c3 := Bool.eq_false_iff.mpr c3
    subst c3
    have H1 : (some 0) = some r := by rw [if_neg (show ¬ (false = true) by decide)] at H; exact H
    clear H
    have H := H1
    clear H1
    obtain rfl := Option.some.inj H
    go_enter Try.func101, Try.ntmps101
    go_wp2_with (first | ((with_reducible refine gate_callee (f := 117) rfl ?_); refine goesL_ (some 8) rfl rfl Try.func117 (by kernel_rfl) rfl #[.int .i64 (l0.length : Int)] rfl (by (try simp only [List.map_toArray, List.map_cons, List.map_nil]); first | done | rfl | (simp only [List.length_drop, List.length_take]; rfl)) ?_; (with_reducible refine (octet_may.calls (l0.length : Int) false _ A2.out).mono ?_); rintro e w' ⟨rfl, ⟨nd, rfl⟩⟩; refine ⟨_, rfl, ?_⟩))
    go_ret
    exact ⟨by first | rfl | (simp; done) | (simp [*]; done), by repeat (first | exact Drawn0.refl _ | apply Drawn0.step)⟩
end Go.Proofs.Ytnmcoebjkfpmjaa.P
/-! Px119 -/
namespace Go.Proofs.Ytnmcoebjkfpmjaa.P
open Go.RowKit Go.Proofs.YtnmcoebjkfpmjaaW.PrintWords Go.Proofs.YtnmcoebjkfpmjaaW.PrintLast Go.Proofs.YtnmcoebjkfpmjaaW.PrintMore
attribute [local go_sem] max2_int min2_int max_two min_two max_three min_three max_four min_four   -- for this text's walks alone
set_option linter.unusedVariables false
set_option linter.unusedSimpArgs false
theorem IsRd.failed {w0 w : World} {g : Nat} {l : List Int} {b : Bool} (h : IsRd w0 w g l b) : IsRd w0 (w.setCell ⟨g, 1, none⟩ (.bool true)) g l true := by
  obtain ⟨A0, c0, hb, hg, hC, hc⟩ := h
  exact ⟨A0, c0, blk_put hb 1 _ rfl, hg, hC, hc⟩
theorem only_set {w : World} {g : Nat} (j : Nat) (u : Value) : w.grownBy (w.setCell ⟨g, j, none⟩ u) (some g) :=
  ⟨rfl, rfl, rfl, by simp [World.setCell], fun i _ hne => Below.heap_setCell w _ u i (by rintro rfl; exact hne rfl)⟩
theorem octet_Reader_Raw.no (w0 w : World) (g : Nat) (l : List Int) (b : Bool) (n : Int) (h : IsRd w0 w g l b) (hn : b = true ∨ n < 0 ∨ (l.length : Int) < n) :
    Calls Try.prog 118 #[.pointer (some ⟨g, 0, none⟩), .int .i64 n] w fun e w' => e = .returned (.slice none 0 0) ∧ IsRd w0 w' g l true ∧ w.grownBy w' (some g) := by
  have HF := Aside0.mk h.failed
  obtain ⟨A0, c0, hb, hg, hC, hc⟩ := h
  have hc0 : w.cell? ⟨g, 0, none⟩ = some (.slice A0 l.length c0) := (blk_cell hb 0).trans rfl
  have hc1 : w.cell? ⟨g, 1, none⟩ = some (.bool b) := (blk_cell hb 1).trans rfl
  have hf1 : w.frozen? ⟨g, 1, none⟩ = false := blk_frozen hb 1
  clear hb hC hg
  by_cases h1 : b = true
  · subst h1
    clear hn
    go_enter Try.func118, Try.ntmps118
    go_wp2
    go_ret
    exact ⟨rfl, HF.out, only_set 1 _⟩
  · obtain rfl : b = false := by simpa using h1
    clear h1
    by_cases h2 : n < 0
    · have h2' : decide (n < 0) = true := decide_eq_true h2
      clear hn h2
      go_enter Try.func118, Try.ntmps118
      go_wp2
      go_ret
      exact ⟨rfl, HF.out, only_set 1 _⟩
    · have h2' : decide (n < 0) = false := decide_eq_false h2
      have h3 : decide ((l.length : Int) < n) = true := decide_eq_true (by simpa [h2] using hn)
      clear hn h2
      go_enter Try.func118, Try.ntmps118
      go_wp2
      go_ret
      exact ⟨rfl, HF.out, only_set 1 _⟩
theorem only_drewN {a w : World} {row : Option Nat} (h : a.grownBy w row) (n : Nat) : a.grownBy (w.drewN n) row := ⟨h.os, h.tape, h.output, h.size, h.block⟩
theorem only_below {a w : World} (h : Below a.heap.size a w) (row : Option Nat) : a.grownBy w row := ⟨h.os, h.tape, h.output, h.size, fun i hi _ => h.block i hi⟩
theorem octet_Reader_Raw.yes (w0 w : World) (g : Nat) (l : List Int) (n : Int) (h : IsRd w0 w g l false) (hB : Below w0.heap.size w0 w) (h0 : 0 ≤ n) (hn : n ≤ l.length) (hl : l.length < 140737488355328) :
    Calls Try.prog 118 #[.pointer (some ⟨g, 0, none⟩), .int .i64 n] w fun e w' => ∃ v, e = .returned v ∧ Kd.R (Kd.int .u8) 5 w' w.heap.size (fun _ => True) v (l.take n.toNat) ∧ IsRd w0 w' g (l.drop n.toNat) false ∧ w.grownBy w' (some g) := by
  obtain ⟨i0, hi, hz0, hz1, hz2⟩ := info_parts info5
  obtain ⟨A0, c0, hb, hg, hC, hc⟩ := h
  have hm : n.toNat ≤ l.length := by omega
  have ht : (l.take n.toNat).length = n.toNat := by rw [List.length_take]; omega
  have hcl : Calls Try.prog 100 #[.slice A0 n.toNat c0] w fun e w' => ∃ v0_ : Value, e = .returned (v0_) ∧ Kd.R (Kd.int .u8) 5 w' w.heap.size (fun _ => True) v0_ (l.take n.toNat) ∧ Below w.heap.size w w' := by
    have := bytes_Clone.calls A0 c0 (l.take n.toNat) (l.take n.toNat) w (Kd.C_take (Kd.C_below hC hB) hm) (by omega) (by unfold bytes_Clone.f; rw [if_pos (by omega)])
    rw [ht] at this
    exact this
  have HCL := Aside0.mk hcl
  have q1 := cut_to 23 5 .i64 (P := Try.prog) Try.underlying23 hi A0 l.length c0 n h0 hn hc
  have q2 := cut_from 23 5 .i64 (P := Try.prog) Try.underlying23 hi 1 hz1 A0 l.length c0 n h0 hn
  have hD := Kd.C_drop hC hm hc
  rw [show n.toNat * (Kd.int .u8).sz = n.toNat * 1 from rfl] at hD
  generalize (if c0 = n.toNat then A0 else A0.map (·.add (n.toNat * 1))) = A1 at q2 hD
  rw [List.length_drop] at hD
  have HD := Aside0.mk hD
  have hc0 : w.cell? ⟨g, 0, none⟩ = some (.slice A0 l.length c0) := (blk_cell hb 0).trans rfl
  have hc1 : w.cell? ⟨g, 1, none⟩ = some (.bool false) := (blk_cell hb 1).trans rfl
  have Hb := Aside0.mk hb
  have Hg := Aside0.mk hg
  have Hc := Aside0.mk hc
  have Hm := Aside0.mk hm
  have h2' : decide (n < 0) = false := decide_eq_false (by omega)
  have h3 : decide ((l.length : Int) < n) = false := decide_eq_false (by omega)
  clear hcl hC hD ht hb hg hi hz0 hz1 hz2 hc hm
  go_enter Try.func118, Try.ntmps118
  go_wp2_with (go_at_call 100; refine HCL.out.mono ?_; rintro e w1 ⟨v0, rfl, hR, hB1⟩; have HR1 := Aside0.mk hR; have HB1 := Aside0.mk hB1; have hb1 := blk_below Hb.out hB1; have hd0 : w1.cell? ⟨g, 0, none⟩ = some (.slice A0 l.length c0) := (blk_cell hb1 0).trans rfl; have hf0 : w1.frozen? ⟨g, 0, none⟩ = false := blk_frozen hb1 0; have Hb1 := Aside0.mk hb1; clear hR hB1 hb1)
  go_ret
  have hb1 := Hb1.out
  have hlt := blk_lt Hb.out
  refine ⟨v0, rfl, Kd.R_mono (Kd.R_far (Kd.R_mono (Kd.R_bound HR1.out) (ok' := fun k => k ≠ g) (fun k hk => by have := hk.2.1; omega)) (p := ⟨g, 0, none⟩) (fun k hk => hk) _) (fun _ _ => trivial), ⟨A1, c0 - n.toNat, ?_, Hg.out, by rw [List.length_drop]; exact HD.out, by have := Hc.out; rw [List.length_drop]; omega⟩, World.grownBy.trans (only_below HB1.out _) (only_set 0 _)⟩
  rw [List.length_drop]
  exact blk_put hb1 0 _ rfl
end Go.Proofs.Ytnmcoebjkfpmjaa.P
/-! Px88 -/
namespace Go.Proofs.Ytnmcoebjkfpmjaa.P
open Go.RowKit Go.Proofs.YtnmcoebjkfpmjaaW.PrintWords Go.Proofs.YtnmcoebjkfpmjaaW.PrintLast Go.Proofs.YtnmcoebjkfpmjaaW.PrintMore
attribute [local go_sem] max2_int min2_int max_two min_two max_three min_three max_four min_four   -- for this text's walks alone
set_option linter.unusedVariables false
set_option linter.unusedSimpArgs false
theorem octet_Reader_Num.no (w0 w : World) (g : Nat) (l : List Int) (b : Bool) (n : Int) (h : IsRd w0 w g l b) (hB : Below w0.heap.size w0 w) (hn : n < 1 ∨ 7 < n ∨ b = true ∨ (l.length : Int) < n) :
    Calls Try.prog 87 #[.pointer (some ⟨g, 0, none⟩), .int .i64 n] w fun e w' => e = .returned (.int .i64 0) ∧ IsRd w0 w' g l true ∧ w.grownBy w' (some g) := by
  have H := Aside0.mk h
  have hG := Aside0.mk (show octet_Get.f 1 [] = some 0 by decide)
  have hGc : ∀ W : World, Calls Try.prog 101 #[.slice none 0 0] W fun e w' => e = .returned (.int .i64 0) ∧ Drawn0 W w' := fun W => octet_Get.calls 1 none 0 [] 0 W (Kd.C_of_reads (d := (0 : Int)) (enc := Value.int .u8) (h1 := fun _ => rfl) ⟨rfl, by simp, fun h => absurd h (by simp)⟩) (by simp) hG.out
  have HGc := Aside0.mk hGc
  by_cases hm : n < 1 ∨ 7 < n
  · have hmay : octet_may.f n = some false := by
      unfold octet_may.f
      by_cases h1 : n < 1
      · rw [if_neg (by omega)]
      · rw [if_pos (by omega), decide_eq_false (by omega)]
    have HM := Aside0.mk hmay
    obtain ⟨A0, c0, hb, hg, hC, hc⟩ := h
    have hc1 : w.cell? ⟨g, 1, none⟩ = some (.bool b) := (blk_cell hb 1).trans rfl
    have hf1 : w.frozen? ⟨g, 1, none⟩ = false := blk_frozen hb 1
    clear hmay hn hm hb hC hc hg hGc hG
    go_enter Try.func87, Try.ntmps87
    go_wp2_with (first
      | (go_at_call 117; refine (octet_may.calls n false _ HM.out).mono ?_; rintro e w1 ⟨rfl, ⟨nd, rfl⟩⟩)
      | (go_at_call 118; refine (octet_Reader_Raw.no w0 _ g l true n (H.out.drewN _).failed (Or.inl rfl)).mono ?_; rintro e w2 ⟨rfl, hI2, hg2⟩; have HI2 := Aside0.mk hI2; have Hg2 := Aside0.mk hg2; clear hI2 hg2)
      | (go_at_call 101; refine (HGc.out _).mono ?_; rintro e w3 ⟨rfl, ⟨nd3, rfl⟩⟩))
    go_ret
    exact ⟨rfl, HI2.out.drewN _, World.grownBy.trans (World.grownBy.trans (only_below (Drawn0.below ⟨⟨nd, rfl⟩⟩) _) (only_set 1 _)) (only_drewN Hg2.out _)⟩
  · have hmay : octet_may.f n = some true := by
      unfold octet_may.f
      rw [if_pos (by omega), decide_eq_true (by omega)]
    have HM := Aside0.mk hmay
    have hN : b = true ∨ n < 0 ∨ (l.length : Int) < n := by
      rcases hn with h | h | h | h
      · exact absurd (Or.inl h) hm
      · exact absurd (Or.inr h) hm
      · exact .inl h
      · exact .inr (.inr h)
    have HN := Aside0.mk hN
    clear hN
    clear hmay hn hm hGc hG h
    go_enter Try.func87, Try.ntmps87
    go_wp2_with (first
      | (go_at_call 117; refine (octet_may.calls n true _ HM.out).mono ?_; rintro e w1 ⟨rfl, ⟨nd, rfl⟩⟩)
      | (go_at_call 118; refine (octet_Reader_Raw.no w0 _ g l b n (H.out.drewN _) HN.out).mono ?_; rintro e w2 ⟨rfl, hI2, hg2⟩; have HI2 := Aside0.mk hI2; have Hg2 := Aside0.mk hg2; clear hI2 hg2)
      | (go_at_call 101; refine (HGc.out _).mono ?_; rintro e w3 ⟨rfl, ⟨nd3, rfl⟩⟩))
    go_ret
    exact ⟨rfl, HI2.out.drewN _, World.grownBy.trans (only_below (Drawn0.below ⟨⟨nd, rfl⟩⟩) _) (only_drewN Hg2.out _)⟩
theorem octet_Reader_Num.yes (k : Nat) (w0 w : World) (g : Nat) (l : List Int) (n r : Int) (h : IsRd w0 w g l false) (hB : Below w0.heap.size w0 w) (h1 : 1 ≤ n) (h7 : n ≤ 7) (hn : n ≤ l.length) (hl : l.length < 140737488355328) (hG : octet_Get.f k (l.take n.toNat) = some r) :
    Calls Try.prog 87 #[.pointer (some ⟨g, 0, none⟩), .int .i64 n] w fun e w' => e = .returned (.int .i64 r) ∧ IsRd w0 w' g (l.drop n.toNat) false ∧ w.grownBy w' (some g) := by
  have H := Aside0.mk h
  have HB := Aside0.mk hB
  have HG := Aside0.mk hG
  have hmay : octet_may.f n = some true := by
    unfold octet_may.f
    rw [if_pos (by omega), decide_eq_true (by omega)]
  have HM := Aside0.mk hmay
  have HN := Aside0.mk (And.intro (show 0 ≤ n by omega) (And.intro hn hl))
  have ht : (l.take n.toNat).length = n.toNat := by rw [List.length_take]; omega
  have hget : ∀ (W : World) (A : Option Addr) (c : Nat), (Kd.int .u8).C W A n.toNat (l.take n.toNat) → n.toNat ≤ c → Calls Try.prog 101 #[.slice A n.toNat c] W fun e w' => e = .returned (.int .i64 r) ∧ Drawn0 W w' := by
    intro W A c hC hc
    have := octet_Get.calls k A c (l.take n.toNat) r W (by rw [ht]; exact hC) (by omega) hG
    rwa [ht] at this
  have HGet := Aside0.mk hget
  have HT := Aside0.mk ht
  clear hmay h hB hG h1 h7 hn hl hget ht
  go_enter Try.func87, Try.ntmps87
  go_wp2_with (first
    | (go_at_call 117; refine (octet_may.calls n true _ HM.out).mono ?_; rintro e w1 ⟨rfl, ⟨nd, rfl⟩⟩)
    | (go_at_call 118; refine (octet_Reader_Raw.yes w0 _ g l n (H.out.drewN _) (pw_below_drewN HB.out _) HN.out.1 HN.out.2.1 HN.out.2.2).mono ?_; rintro e w2 ⟨v, rfl, hR, hI2, hg2⟩; obtain ⟨A1, c1, rfl, hc1, hC1⟩ := Kd.R_reads hR; rw [HT.out] at hc1 hC1; rw [HT.out]; have HC1 := Aside0.mk hC1; have Hc1 := Aside0.mk hc1; have HI2 := Aside0.mk hI2; have Hg2 := Aside0.mk hg2; clear hR hI2 hg2 hc1 hC1)
    | (go_at_call 101; refine (HGet.out _ _ _ HC1.out Hc1.out).mono ?_; rintro e w3 ⟨rfl, ⟨nd3, rfl⟩⟩))
  go_ret
  exact ⟨rfl, HI2.out.drewN _, World.grownBy.trans (only_below (Drawn0.below ⟨⟨nd, rfl⟩⟩) _) (only_drewN Hg2.out _)⟩
end Go.Proofs.Ytnmcoebjkfpmjaa.P
/-! Px89 -/
namespace Go.Proofs.Ytnmcoebjkfpmjaa.P
open Go.RowKit Go.Proofs.YtnmcoebjkfpmjaaW.PrintWords Go.Proofs.YtnmcoebjkfpmjaaW.PrintLast Go.Proofs.YtnmcoebjkfpmjaaW.PrintMore
attribute [local go_sem] max2_int min2_int max_two min_two max_three min_three max_four min_four   -- for this text's walks alone
set_option linter.unusedVariables false
set_option linter.unusedSimpArgs false
theorem octet_Reader_Fail.rd (w0 w : World) (g : Nat) (l : List Int) (b : Bool) (h : IsRd w0 w g l b) :
    Calls Try.prog 88 #[.pointer (some ⟨g, 0, none⟩)] w fun e w' => e = .returned (.bool b) ∧ w = w' := by
  obtain ⟨A0, c0, hb, hg, hC, hc⟩ := h
  have hc0 : w.cell? ⟨g, 0, none⟩ = some (.slice A0 l.length c0) := (blk_cell hb 0).trans rfl
  have hc1 : w.cell? ⟨g, 1, none⟩ = some (.bool b) := (blk_cell hb 1).trans rfl
  clear hb hC hg
  go_enter Try.func88, Try.ntmps88
  go_wp2
  go_ret
  exact ⟨rfl, rfl⟩
end Go.Proofs.Ytnmcoebjkfpmjaa.P
/-! Px90 -/
namespace Go.Proofs.Ytnmcoebjkfpmjaa.P
open Go.RowKit Go.Proofs.YtnmcoebjkfpmjaaW.PrintWords Go.Proofs.YtnmcoebjkfpmjaaW.PrintLast Go.Proofs.YtnmcoebjkfpmjaaW.PrintMore
attribute [local go_sem] max2_int min2_int max_two min_two max_three min_three max_four min_four   -- for this text's walks alone
set_option linter.unusedVariables false
set_option linter.unusedSimpArgs false
def pdu_codes.f  : Option (List Int) := some (([3, 175, 227, 111, 67, 99, 15, 135, 103, 231] : List Int))
set_option maxHeartbeats 8000000 in
set_option maxRecDepth 100000 in
theorem pdu_codes.calls  (r : List Int) (w : World) (h : pdu_codes.f  = some r) :
    Calls Try.prog 89 #[] w fun e w' => ∃ v0_ : Value, e = .returned (v0_) ∧ Kd.R (Kd.int .i64) 3 w' w.heap.size (fun _ => True) v0_ r ∧ Below w.heap.size w w' := by
  have HB := Aside0.mk (Below.refl w.heap.size w)
  have H : (some (([3, 175, 227, 111, 67, 99, 15, 135, 103, 231] : List Int))) = some r := h
  clear h
  obtain ⟨y101, hy101⟩ : ∃ y_ : List Int, y_ = (([3, 175, 227, 111, 67, 99, 15, 135, 103, 231] : List Int)) := ⟨_, rfl⟩
  replace H : (some y101) = some r := by first | (rw [hy101]; with_reducible exact H) | (have H2_ := (Option.bind_some _ _).symm.trans H; rw [hy101]; with_reducible exact H2_) | (have H2_ := (Option.bind_some _ _).symm.trans H; with_reducible exact H2_) | with_reducible exact H | (rw [hy101]; exact H) | exact H
  have Ny101 := Aside0.mk hy101
  clear hy101
  obtain rfl := Option.some.inj H
  go_enter Try.func89, Try.ntmps89
  go_wp2_with (first | ((with_reducible refine gate_dst (N := 1) rfl ?_); refine Kd.R_lit (Kd.int .i64) _ 3 ?hg (N := 1) ?hd (xs := ([3, 175, 227, 111, 67, 99, 15, 135, 103, 231] : List Int)) (inner := [.int .i64 3, .int .i64 175, .int .i64 227, .int .i64 111, .int .i64 67, .int .i64 99, .int .i64 15, .int .i64 135, .int .i64 103, .int .i64 231]) (ok := fun _ => True) (okp := fun _ => True) ?hr ?hp (fun _ hk => hk) trivial (Below.refl _ _) (Nat.le_refl _) (by simp) ?_; (case hd => rfl); (case hg => rfl); (case hr => first | (go_simp; done) | (go_simp; rfl)); (case hp => exact (Reps.one (show Kd.M (Kd.int .i64) _ _ _ 3 [.int .i64 3] from rfl) (Reps.one (show Kd.M (Kd.int .i64) _ _ _ 175 [.int .i64 175] from rfl) (Reps.one (show Kd.M (Kd.int .i64) _ _ _ 227 [.int .i64 227] from rfl) (Reps.one (show Kd.M (Kd.int .i64) _ _ _ 111 [.int .i64 111] from rfl) (Reps.one (show Kd.M (Kd.int .i64) _ _ _ 67 [.int .i64 67] from rfl) (Reps.one (show Kd.M (Kd.int .i64) _ _ _ 99 [.int .i64 99] from rfl) (Reps.one (show Kd.M (Kd.int .i64) _ _ _ 15 [.int .i64 15] from rfl) (Reps.one (show Kd.M (Kd.int .i64) _ _ _ 135 [.int .i64 135] from rfl) (Reps.one (show Kd.M (Kd.int .i64) _ _ _ 103 [.int .i64 103] from rfl) (Reps.one (show Kd.M (Kd.int .i64) _ _ _ 231 [.int .i64 231] from rfl) (Reps.none _ _)))))))))))); intro v102 w1 ho2 hb hg_ hnew_; clear hg_ hnew_; (first | rw [← Ny101.out] at ho2 | (simp only [Int.reduceToNat] at ho2; rw [← Ny101.out] at ho2)); have n0_ := Aside0.mk (Kd.R_lower ho2 (below_size (by repeat (first | (with_reducible first | exact HB.out | apply below_alloc | apply pw_below_drewN | apply below_drew1) | exact HB.out)))); have n1_ := Aside0.mk (below_step (by repeat (first | (with_reducible first | exact HB.out | apply below_alloc | apply pw_below_drewN | apply below_drew1) | exact HB.out)) hb); clear HB; have HO103 := n0_; have HB := n1_; clear n0_ n1_; clear hb ho2))
  go_ret
  exact ⟨_, by first | rfl | (simp [errW_none, errW_some] <;> rfl) | (simp [*, errW_none, errW_some] <;> rfl), by (with_reducible repeat (first | apply Kd.R_alloc | apply Kd.R_drewN | apply Kd.R_drew)); exact HO103.out, by repeat (first | (with_reducible first | exact HB.out | apply below_alloc | apply pw_below_drewN | apply below_drew1) | exact HB.out)⟩
end Go.Proofs.Ytnmcoebjkfpmjaa.P
/-! Px120 -/
namespace Go.Proofs.Ytnmcoebjkfpmjaa.P
open Go.RowKit Go.Proofs.YtnmcoebjkfpmjaaW.PrintWords Go.Proofs.YtnmcoebjkfpmjaaW.PrintLast Go.Proofs.YtnmcoebjkfpmjaaW.PrintMore
attribute [local go_sem] max2_int min2_int max_two min_two max_three min_three max_four min_four   -- for this text's walks alone
set_option linter.unusedVariables false
set_option linter.unusedSimpArgs false
theorem octet_Reader_Left.rd (w0 w : World) (g : Nat) (l : List Int) (b : Bool) (h : IsRd w0 w g l b) :
    Calls Try.prog 119 #[.pointer (some ⟨g, 0, none⟩)] w fun e w' => e = .returned (.int .i64 l.length) ∧ w = w' := by
  obtain ⟨A0, c0, hb, hg, hC, hc⟩ := h
  have hc0 : w.cell? ⟨g, 0, none⟩ = some (.slice A0 l.length c0) := (blk_cell hb 0).trans rfl
  clear hb hC hg
  go_enter Try.func119, Try.ntmps119
  go_wp2
  go_ret
  exact ⟨rfl, rfl⟩
end Go.Proofs.Ytnmcoebjkfpmjaa.P
/-! Px91 -/
namespace Go.Proofs.Ytnmcoebjkfpmjaa.P
open Go.RowKit Go.Proofs.YtnmcoebjkfpmjaaW.PrintWords Go.Proofs.YtnmcoebjkfpmjaaW.PrintLast Go.Proofs.YtnmcoebjkfpmjaaW.PrintMore
attribute [local go_sem] max2_int min2_int max_two min_two max_three min_three max_four min_four   -- for this text's walks alone
set_option linter.unusedVariables false
set_option linter.unusedSimpArgs false
theorem octet_Reader_Rest.yes (w0 w : World) (g : Nat) (l : List Int) (h : IsRd w0 w g l false) (hB : Below w0.heap.size w0 w) (hl : l.length < 140737488355328) :
    Calls Try.prog 90 #[.pointer (some ⟨g, 0, none⟩)] w fun e w' => ∃ v, e = .returned v ∧ Kd.R (Kd.int .u8) 5 w' w.heap.size (fun _ => True) v l ∧ IsRd w0 w' g [] false ∧ w.grownBy w' (some g) := by
  have H := Aside0.mk h
  have HB := Aside0.mk hB
  have HL := Aside0.mk hl
  clear h hB
  go_enter Try.func90, Try.ntmps90
  go_wp2_with (first
    | (go_at_call 119; refine (octet_Reader_Left.rd w0 _ g l false H.out).mono ?_; rintro e w1 ⟨rfl, rfl⟩)
    | (go_at_call 118; refine (octet_Reader_Raw.yes w0 _ g l l.length H.out HB.out (by omega) (Int.le_refl _) HL.out).mono ?_; rintro e w2 ⟨v, rfl, hR, hI2, hg2⟩; obtain ⟨A1, c1, rfl, hc1, hC1⟩ := Kd.R_reads hR; have HR := Aside0.mk hR; have HI2 := Aside0.mk hI2; have Hg2 := Aside0.mk hg2; clear hR hI2 hg2 hc1 hC1))
  go_ret
  have hR := HR.out
  have hI := HI2.out
  rw [Int.toNat_natCast, List.take_length] at hR
  rw [Int.toNat_natCast, List.drop_length] at hI
  exact ⟨_, rfl, by simpa using hR, hI, Hg2.out⟩
theorem octet_Reader_Rest.no (w0 w : World) (g : Nat) (l : List Int) (h : IsRd w0 w g l true) :
    Calls Try.prog 90 #[.pointer (some ⟨g, 0, none⟩)] w fun e w' => e = .returned (.slice none 0 0) ∧ IsRd w0 w' g l true ∧ w.grownBy w' (some g) := by
  have H := Aside0.mk h
  clear h
  go_enter Try.func90, Try.ntmps90
  go_wp2_with (first
    | (go_at_call 119; refine (octet_Reader_Left.rd w0 _ g l true H.out).mono ?_; rintro e w1 ⟨rfl, rfl⟩)
    | (go_at_call 118; refine (octet_Reader_Raw.no w0 _ g l true l.length H.out (Or.inl rfl)).mono ?_; rintro e w2 ⟨rfl, hI2, hg2⟩; have HI2 := Aside0.mk hI2; have Hg2 := Aside0.mk hg2; clear hI2 hg2))
  go_ret
  exact ⟨rfl, HI2.out, Hg2.out⟩
end Go.Proofs.Ytnmcoebjkfpmjaa.P
/-! Px100 -/
namespace Go.Proofs.Ytnmcoebjkfpmjaa.P
open Go.RowKit Go.Proofs.YtnmcoebjkfpmjaaW.PrintWords Go.Proofs.YtnmcoebjkfpmjaaW.PrintLast Go.Proofs.YtnmcoebjkfpmjaaW.PrintMore
attribute [local go_sem] max2_int min2_int max_two min_two max_three min_three max_four min_four   -- for this text's walks alone
set_option linter.unusedVariables false
set_option linter.unusedSimpArgs false
theorem field_sized.no (A0 : Option Addr) (c0 : Nat) (l0 : List Int) (n e : Int) (w : World) (h : (l0.length : Int) < n ∧ e = 2 ∨ (l0.length : Int) > n ∧ e = 3) :
    Calls Try.prog 99 #[.slice A0 l0.length c0, .int .i64 n] w fun e' w' => e' = .returned (.tuple #[.pointer none, .int .i64 e]) ∧ w = w' := by
  rcases h with ⟨h, rfl⟩ | ⟨h, rfl⟩
  · have h1 : decide ((l0.length : Int) < n) = true := decide_eq_true h
    clear h
    go_enter Try.func99, Try.ntmps99
    go_wp2
    go_ret2
    exact ⟨rfl, rfl⟩
  · have h1 : decide ((l0.length : Int) < n) = false := decide_eq_false (by omega)
    have h2 : decide (n < (l0.length : Int)) = true := decide_eq_true h
    clear h
    go_enter Try.func99, Try.ntmps99
    go_wp2
    go_ret2
    exact ⟨rfl, rfl⟩
theorem field_sized.yes (A0 : Option Addr) (c0 : Nat) (l0 : List Int) (n : Int) (w : World) (hr0 : Kd.C (Kd.int .u8) w A0 l0.length l0) (hc0 : l0.length ≤ c0) (hl : l0.length < 140737488355328) (h : (l0.length : Int) = n) :
    Calls Try.prog 99 #[.slice A0 l0.length c0, .int .i64 n] w fun e w' => ∃ (g : Nat) (w1 : World), e = .returned (.tuple #[.pointer (some ⟨g, 0, none⟩), .int .i64 0]) ∧ Below w.heap.size w w1 ∧ Below w1.heap.size w1 w' ∧ IsRd w1 w' g l0 false := by
  have HR := Aside0.mk hr0
  have HC := Aside0.mk hc0
  have HL := Aside0.mk hl
  have h1 : decide ((l0.length : Int) < n) = false := decide_eq_false (by omega)
  have h2 : decide (n < (l0.length : Int)) = false := decide_eq_false (by omega)
  clear hr0 hc0 hl h
  go_enter Try.func99, Try.ntmps99
  go_wp2_with (go_at_call 86; refine (octet_New.calls _ _ _ _ HR.out HC.out HL.out).mono ?_; rintro e w2 ⟨g, w1, rfl, hB, hB1, hI⟩; have HB := Aside0.mk hB; have HB1 := Aside0.mk hB1; have HI := Aside0.mk hI; clear hB hB1 hI)
  go_ret2
  exact ⟨g, w1, rfl, HB.out, HB1.out, HI.out⟩
theorem below_rd {w0 W W1 : World} {g : Nat} (h : Below w0.heap.size w0 W) (hg : W.grownBy W1 (some g)) (hl : w0.heap.size ≤ g) : Below w0.heap.size w0 W1 :=
  h.grown hg h.size (fun k hk => by cases hk; exact hl)
theorem IsRd.ge {w0 W : World} {g : Nat} {l : List Int} {b : Bool} (h : IsRd w0 W g l b) : w0.heap.size ≤ g := by
  obtain ⟨A0, c0, hb, hg, h2⟩ := h
  exact hg
end Go.Proofs.Ytnmcoebjkfpmjaa.P
/-! Px30 -/
namespace Go.Proofs.Ytnmcoebjkfpmjaa.P
open Go.RowKit Go.Proofs.YtnmcoebjkfpmjaaW.PrintWords Go.Proofs.YtnmcoebjkfpmjaaW.PrintLast Go.Proofs.YtnmcoebjkfpmjaaW.PrintMore
attribute [local go_sem] max2_int min2_int max_two min_two max_three min_three max_four min_four   -- for this text's walks alone
set_option linter.unusedVariables false
set_option linter.unusedSimpArgs false
def kindTo (l : List Int) (x : Int) : Nat → Int
  | 0 => -1
  | j + 1 => if rd l j = x then (j : Int) else kindTo l x j
abbrev PduR := Int × Int × Bool × Int × Int × Int × Int × Bool × List Int × Int
def pduBad (e : Int) : PduR := (0, 0, false, 0, 0, 0, 0, false, [], e)
def pdu_Decode.fin (k : Nat) (t_ f_ : Int) (resp : Bool) (form kind ns nr : Int) (poll : Bool) (info : List Int) : Option PduR :=
  (pdu_May.f k t_ f_ resp form kind ns nr poll info).bind fun m => if m = true then some (t_, f_, resp, form, kind, ns, nr, poll, info, 0) else some (pduBad 4)
def pdu_Decode.f (k : Nat) (l0 : List Int) : Option (Int × Int × Bool × Int × Int × Int × Int × Bool × List Int × Int) :=
  if l0.length < 3 then some (pduBad 2) else if l0.length < 140737488355328 then
    (octet_Get.f k (l0.take 1)).bind fun t1 => (octet_Get.f k ((l0.drop 1).take 1)).bind fun t2 => (octet_Get.f k ((l0.drop 2).take 1)).bind fun t3 =>
      if Go.bits .and .i64 t3 3 = 3 then pdu_codes.f.bind fun cs =>
        pdu_Decode.fin k t1 (Go.bits .andNot .i64 t2 1) (Go.bits .and .i64 t2 1 == 1) 2 (kindTo cs (Go.bits .andNot .i64 t3 16) cs.length) 0 0 (Go.bits .and .i64 t3 16 != 0) (l0.drop 3)
      else if l0.length < 4 then some (pduBad 2) else (octet_Get.f k ((l0.drop 3).take 1)).bind fun t4 =>
        if Go.bits .and .i64 t3 1 = 0 then pdu_Decode.fin k t1 (Go.bits .andNot .i64 t2 1) (Go.bits .and .i64 t2 1 == 1) 0 0 (t3 / 2) (t4 / 2) (Go.bits .and .i64 t4 1 == 1) (l0.drop 4)
        else pdu_Decode.fin k t1 (Go.bits .andNot .i64 t2 1) (Go.bits .and .i64 t2 1 == 1) 1 (t3 / 4) 0 (t4 / 2) (Go.bits .and .i64 t4 1 == 1) (l0.drop 4)
  else none
abbrev DecPost (w : World) (r1 r2 : Int) (r3 : Bool) (r4 r5 r6 r7 : Int) (r8 : Bool) (r9 : List Int) (r10 : Int) (e : Ending) (w' : World) : Prop :=
  ∃ v8_ : Value, e = .returned (.tuple #[.agg #[.int .i64 r1, .int .i64 r2, .bool r3, .int .i64 r4, .int .i64 r5, .int .i64 r6, .int .i64 r7, .bool r8, v8_], .int .i64 r10]) ∧ Kd.R (Kd.int .u8) 5 w' w.heap.size (fun _ => True) v8_ r9 ∧ Below w.heap.size w w'
theorem get_one (x : Int) : octet_Get.f 3 [x] = some (Go.bits .or .i64 (wrap64 (0 * 256)) (wrap64 x)) := by
  have hl : (([x] : List Int).length : Int) = 1 := rfl
  have hm : octet_may.f 1 = some true := by decide
  have h1 : wrap64 ((0 : Int) + 1) = 1 := by decide +kernel
  unfold octet_Get.f
  rw [hl, hm]
  simp only [Option.bind_some, if_true, octet_Get.l0]
  rw [hl, h1]
  simp [rd]
def rdOne (l : List Int) (b : Bool) : List Int × Bool := if b = false ∧ 1 ≤ l.length then (l.drop 1, false) else (l, true)
theorem octet_Reader_Num.one (w0 w : World) (g : Nat) (l : List Int) (b : Bool) (h : IsRd w0 w g l b) (hB : Below w0.heap.size w0 w) (hl : l.length < 140737488355328) :
    Calls Try.prog 87 #[.pointer (some ⟨g, 0, none⟩), .int .i64 1] w fun e w' => ∃ r : Int, e = .returned (.int .i64 r) ∧ IsRd w0 w' g (rdOne l b).1 (rdOne l b).2 ∧ w.grownBy w' (some g) := by
  by_cases hc : b = false ∧ 1 ≤ l.length
  · obtain ⟨rfl, h1⟩ := hc
    obtain ⟨x, hx⟩ : ∃ x, l.take 1 = [x] := by
      cases l with
      | nil => simp at h1
      | cons x r => exact ⟨x, rfl⟩
    refine (octet_Reader_Num.yes 3 w0 w g l 1 _ h hB (by omega) (by omega) (by omega) hl (by rw [show (1 : Int).toNat = 1 from rfl, hx]; exact get_one x)).mono ?_
    rintro e w' ⟨rfl, hI, hg⟩
    refine ⟨_, rfl, ?_, hg⟩
    unfold rdOne
    rw [if_pos ⟨rfl, h1⟩]
    exact hI
  · refine (octet_Reader_Num.no w0 w g l b 1 h hB ?_).mono ?_
    · cases b with
      | true => exact .inr (.inr (.inl rfl))
      | false => exact .inr (.inr (.inr (by
          have : ¬ 1 ≤ l.length := fun h1 => hc ⟨rfl, h1⟩
          omega)))
    · rintro e w' ⟨rfl, hI, hg⟩
      refine ⟨_, rfl, ?_, hg⟩
      unfold rdOne
      rw [if_neg hc]
      exact hI
set_option maxHeartbeats 2000000 in
theorem pdu_Decode.short (A0 : Option Addr) (c0 : Nat) (l0 : List Int) (w : World) (hr0 : Kd.C (Kd.int .u8) w A0 l0.length l0) (hc0 : l0.length ≤ c0) (h : l0.length < 3) :
    Calls Try.prog 29 #[.slice A0 l0.length c0] w fun e w' => e = .returned (.tuple #[.agg #[.int .i64 0, .int .i64 0, .bool false, .int .i64 0, .int .i64 0, .int .i64 0, .int .i64 0, .bool false, .slice none 0 0], .int .i64 2]) ∧ Below w.heap.size w w' := by
  have hu := Try.underlying25
  have HR := Aside0.mk hr0
  have HC := Aside0.mk hc0
  have HL := Aside0.mk (show l0.length < 140737488355328 by omega)
  obtain ⟨l1, b1, e1⟩ : ∃ l b, rdOne l0 false = (l, b) := ⟨_, _, rfl⟩
  obtain ⟨l2, b2, e2⟩ : ∃ l b, rdOne l1 b1 = (l, b) := ⟨_, _, rfl⟩
  obtain ⟨l3, b3, e3⟩ : ∃ l b, rdOne l2 b2 = (l, b) := ⟨_, _, rfl⟩
  have hb3 : b3 = true ∧ l1.length ≤ l0.length ∧ l2.length ≤ l0.length := by
    unfold rdOne at e1 e2 e3
    split at e1 <;> split at e2 <;> split at e3 <;> simp_all <;> (try obtain ⟨rfl, rfl⟩ := e1) <;> (try obtain ⟨rfl, rfl⟩ := e2) <;> (try obtain ⟨rfl, rfl⟩ := e3) <;> simp_all <;> omega
  obtain ⟨rfl, hl1, hl2⟩ := hb3
  have HL1 := Aside0.mk (show l1.length < 140737488355328 by omega)
  have HL2 := Aside0.mk (show l2.length < 140737488355328 by omega)
  have E1 := Aside0.mk e1
  have E2 := Aside0.mk e2
  have E3 := Aside0.mk e3
  clear hr0 hc0 h e1 e2 e3 hl1 hl2
  go_enter Try.func29, Try.ntmps29
  go_wp2_with fail
  refine (octet_New.calls _ _ l0 _ (Kd.C_below HR.out ?_) HC.out HL.out).mono ?_
  · exact below_alloc (Below.refl _ _) _
  rintro e w2 ⟨g, w1, rfl, hB, hB1, hI⟩
  have HB := Aside0.mk hB
  have HB1 := Aside0.mk hB1
  have HI := Aside0.mk hI
  have HG := Aside0.mk hI.ge
  clear hB hB1 hI
  go_wp2_with fail
  refine (octet_Reader_Num.one w1 _ g l0 false HI.out HB1.out HL.out).mono ?_
  rintro e w3 ⟨r1, rfl, hI, hg⟩
  rw [E1.out] at hI
  have HI3 := Aside0.mk hI
  have HB3 := Aside0.mk (below_rd HB1.out hg HG.out)
  clear hI hg
  go_wp2_with fail
  refine (octet_Reader_Num.one w1 _ g l1 b1 HI3.out HB3.out HL1.out).mono ?_
  rintro e w4 ⟨r2, rfl, hI, hg⟩
  rw [E2.out] at hI
  have HI4 := Aside0.mk hI
  have HB4 := Aside0.mk (below_rd HB3.out hg HG.out)
  clear hI hg
  go_wp2_with fail
  refine (octet_Reader_Num.one w1 _ g l2 b2 HI4.out HB4.out HL2.out).mono ?_
  rintro e w5 ⟨r3, rfl, hI, hg⟩
  rw [E3.out] at hI
  have HI5 := Aside0.mk hI
  have HB5 := Aside0.mk (below_rd HB4.out hg HG.out)
  clear hI hg
  have hbk := blk_below (blk_below (blk_new w (.cells #[.int .i64 0, .int .i64 0, .bool false, .int .i64 0, .int .i64 0, .int .i64 0, .int .i64 0, .bool false, .slice none 0 0] 25)) HB.out) HB5.out
  have hbel : Below w.heap.size w w5 := below_then (below_then (below_alloc (Below.refl _ _) _) (by simp) HB.out) (by have := HB.out.size; simp at this; omega) HB5.out
  have HBEL := Aside0.mk hbel
  have q0 : w5.cell? ⟨w.heap.size, 0, none⟩ = some (.int .i64 0) := (blk_cell hbk 0).trans rfl
  have q1 : w5.cell? ⟨w.heap.size, 1, none⟩ = some (.int .i64 0) := (blk_cell hbk 1).trans rfl
  have q2 : w5.cell? ⟨w.heap.size, 2, none⟩ = some (.bool false) := (blk_cell hbk 2).trans rfl
  have q3 : w5.cell? ⟨w.heap.size, 3, none⟩ = some (.int .i64 0) := (blk_cell hbk 3).trans rfl
  have q4 : w5.cell? ⟨w.heap.size, 4, none⟩ = some (.int .i64 0) := (blk_cell hbk 4).trans rfl
  have q5 : w5.cell? ⟨w.heap.size, 5, none⟩ = some (.int .i64 0) := (blk_cell hbk 5).trans rfl
  have q6 : w5.cell? ⟨w.heap.size, 6, none⟩ = some (.int .i64 0) := (blk_cell hbk 6).trans rfl
  have q7 : w5.cell? ⟨w.heap.size, 7, none⟩ = some (.bool false) := (blk_cell hbk 7).trans rfl
  have q8 : w5.cell? ⟨w.heap.size, 8, none⟩ = some (.slice none 0 0) := (blk_cell hbk 8).trans rfl
  have f0 : w5.frozen? ⟨w.heap.size, 0, none⟩ = false := blk_frozen hbk 0
  have f1 : w5.frozen? ⟨w.heap.size, 1, none⟩ = false := blk_frozen hbk 1
  have f2 : w5.frozen? ⟨w.heap.size, 2, none⟩ = false := blk_frozen hbk 2
  have f3 : w5.frozen? ⟨w.heap.size, 3, none⟩ = false := blk_frozen hbk 3
  have f4 : w5.frozen? ⟨w.heap.size, 4, none⟩ = false := blk_frozen hbk 4
  have f5 : w5.frozen? ⟨w.heap.size, 5, none⟩ = false := blk_frozen hbk 5
  have f6 : w5.frozen? ⟨w.heap.size, 6, none⟩ = false := blk_frozen hbk 6
  have f7 : w5.frozen? ⟨w.heap.size, 7, none⟩ = false := blk_frozen hbk 7
  have f8 : w5.frozen? ⟨w.heap.size, 8, none⟩ = false := blk_frozen hbk 8
  clear hbk hbel
  go_wp2_with (go_at_call 88; refine (octet_Reader_Fail.rd w1 _ g l3 true HI5.out).mono ?_; rintro e w6 ⟨rfl, rfl⟩)
  refine bodyPost_ret (v := .tuple #[.agg #[.int .i64 0, .int .i64 0, .bool false, .int .i64 0, .int .i64 0, .int .i64 0, .int .i64 0, .bool false, .slice none 0 0], .int .i64 2]) (by simp [results, Try.results29, go_sem, hu, q0, q1, q2, q3, q4, q5, q6, q7, q8, f0, f1, f2, f3, f4, f5, f6, f7, f8]) rfl ⟨rfl, ?_⟩
  repeat (with_reducible refine below_set ?_ (Nat.le_refl _))
  exact HBEL.out
theorem IsRd.only {w0 W W1 : World} {g g' : Nat} {l : List Int} {b : Bool} (h : IsRd w0 W g l b) (hw : W.grownBy W1 (some g')) (hne : g ≠ g') : IsRd w0 W1 g l b := by
  obtain ⟨A0, c0, hb, h2⟩ := h
  exact ⟨A0, c0, blk_grown hb hw (fun e => hne (by injection e)), h2⟩
theorem IsRd.lt {w0 W : World} {g : Nat} {l : List Int} {b : Bool} (h : IsRd w0 W g l b) : g < W.heap.size := by
  obtain ⟨A0, c0, hb, h2⟩ := h
  exact blk_lt hb
theorem fin_cases {k : Nat} {t f : Int} {resp : Bool} {form kind ns nr : Int} {poll : Bool} {info : List Int} {r : PduR} (h : pdu_Decode.fin k t f resp form kind ns nr poll info = some r) :
    (pdu_May.f k t f resp form kind ns nr poll info = some true ∧ (t, f, resp, form, kind, ns, nr, poll, info, 0) = r) ∨ (pdu_May.f k t f resp form kind ns nr poll info = some false ∧ pduBad 4 = r) := by
  unfold pdu_Decode.fin at h
  obtain ⟨m, hm, h⟩ := Option.bind_eq_some_iff.mp h
  cases m with
  | true => exact .inl ⟨hm, by simpa using h⟩
  | false => exact .inr ⟨hm, by simpa using h⟩
set_option maxHeartbeats 8000000 in
set_option maxRecDepth 100000 in
theorem pdu_Decode.long (k : Nat) (A0 : Option Addr) (c0 : Nat) (l0 : List Int) (r1 r2 : Int) (r3 : Bool) (r4 r5 r6 r7 : Int) (r8 : Bool) (r9 : List Int) (r10 : Int) (w : World) (hr0 : Kd.C (Kd.int .u8) w A0 l0.length l0) (hc0 : l0.length ≤ c0) (h3 : ¬ l0.length < 3) (h : pdu_Decode.f k l0 = some (r1, r2, r3, r4, r5, r6, r7, r8, r9, r10)) :
    Calls Try.prog 29 #[.slice A0 l0.length c0] w (DecPost w r1 r2 r3 r4 r5 r6 r7 r8 r9 r10) := by
  have hu := Try.underlying25
  unfold pdu_Decode.f at h
  rw [if_neg h3] at h
  have hlen : l0.length < 140737488355328 := by
    by_cases hlen : l0.length < 140737488355328
    · exact hlen
    · rw [if_neg hlen] at h; cases h
  rw [if_pos hlen] at h
  obtain ⟨t1, e1, h⟩ := Option.bind_eq_some_iff.mp h
  obtain ⟨t2, e2, h⟩ := Option.bind_eq_some_iff.mp h
  obtain ⟨t3, e3, h⟩ := Option.bind_eq_some_iff.mp h
  have E1 := Aside0.mk e1
  have E2 := Aside0.mk e2
  have E3 := Aside0.mk e3
  have H := Aside0.mk h
  have HR := Aside0.mk hr0
  have HC := Aside0.mk hc0
  have H3 := Aside0.mk h3
  have HL := Aside0.mk hlen
  have HD1 := Aside0.mk (show 2 ≤ (l0.drop 1).length ∧ (l0.drop 1).length ≤ l0.length by rw [List.length_drop]; omega)
  have HD2 := Aside0.mk (show 1 ≤ (l0.drop 2).length ∧ (l0.drop 2).length ≤ l0.length by rw [List.length_drop]; omega)
  have HD3 := Aside0.mk (show (l0.drop 3).length + 3 = l0.length by rw [List.length_drop]; omega)
  clear e1 e2 e3 h hr0 hc0 h3 hlen
  go_enter Try.func29, Try.ntmps29
  go_wp2_with fail
  refine (octet_New.calls _ _ l0 _ (Kd.C_below HR.out ?_) HC.out HL.out).mono ?_
  · exact below_alloc (Below.refl _ _) _
  rintro e w2 ⟨g, w1, rfl, hB, hB1, hI⟩
  have HB := Aside0.mk hB
  have HB1 := Aside0.mk hB1
  have HI := Aside0.mk hI
  have HG := Aside0.mk hI.ge
  clear hB hB1 hI
  go_wp2_with fail
  refine (octet_Reader_Num.yes k w1 _ g l0 1 t1 HI.out HB1.out (by omega) (by omega) (by have := H3.out; omega) HL.out E1.out).mono ?_
  rintro e w3 ⟨rfl, hI, hg⟩
  have HI3 := Aside0.mk (show IsRd w1 w3 g (l0.drop 1) false from hI)
  have HB3 := Aside0.mk (below_rd HB1.out hg HG.out)
  clear hI hg
  go_wp2_with fail
  refine (octet_Reader_Num.yes k w1 _ g (l0.drop 1) 1 t2 HI3.out HB3.out (by omega) (by omega) (by have := HD1.out; omega) (by have := HD1.out; have := HL.out; omega) E2.out).mono ?_
  rintro e w4 ⟨rfl, hI, hg⟩
  have hI : IsRd w1 w4 g ((l0.drop 1).drop 1) false := hI
  rw [List.drop_drop] at hI
  have HI4 := Aside0.mk (show IsRd w1 w4 g (l0.drop 2) false from hI)
  have HB4 := Aside0.mk (below_rd HB3.out hg HG.out)
  clear hI hg
  go_wp2_with fail
  refine (octet_Reader_Num.yes k w1 _ g (l0.drop 2) 1 t3 HI4.out HB4.out (by omega) (by omega) (by have := HD2.out; omega) (by have := HD2.out; have := HL.out; omega) E3.out).mono ?_
  rintro e w5 ⟨rfl, hI, hg⟩
  have hI : IsRd w1 w5 g ((l0.drop 2).drop 1) false := hI
  rw [List.drop_drop] at hI
  have HI5 := Aside0.mk (show IsRd w1 w5 g (l0.drop 3) false from hI)
  have HB5 := Aside0.mk (below_rd HB4.out hg HG.out)
  clear hI hg
  obtain ⟨inf, hinf⟩ : ∃ x, l0.drop 3 = x := ⟨_, rfl⟩
  rw [hinf] at HI5 HD3
  have hbk := blk_below (blk_below (blk_new w (.cells #[.int .i64 0, .int .i64 0, .bool false, .int .i64 0, .int .i64 0, .int .i64 0, .int .i64 0, .bool false, .slice none 0 0] 25)) HB.out) HB5.out
  have hbel : Below w.heap.size w w5 := below_then (below_then (below_alloc (Below.refl _ _) _) (by simp) HB.out) (by have := HB.out.size; simp at this; omega) HB5.out
  have HBK := Aside0.mk hbk
  have HBEL := Aside0.mk hbel
  have HLT := Aside0.mk (And.intro (blk_lt hbk) HI5.out.lt)
  have h := H.out
  have HINF := Aside0.mk hinf
  clear hbk hbel H hinf HI HI3 HI4 HB1 HB3 HB4 E1 E2 E3
  go_wp2_with fail
  refine (octet_Reader_Fail.rd w1 _ g inf false HI5.out).mono ?_
  rintro e w5' ⟨rfl, rfl⟩
  by_cases c1 : Go.bits .and .i64 t3 3 = 3
  · rw [if_pos c1] at h
    obtain ⟨cs, ecs, h⟩ := Option.bind_eq_some_iff.mp h
    have ECS := Aside0.mk ecs
    rw [HINF.out] at h
    have H := Aside0.mk h
    have c1' : (Go.bits .and .i64 t3 3 == 3) = true := beq_iff_eq.mpr c1
    clear c1 ecs h
    go_wp2_with fail
    refine (pdu_codes.calls cs _ ECS.out).mono ?_
    rintro e w6 ⟨v6, rfl, hR6, hB6⟩
    have hlc : 0 < cs.length := by
      have : pdu_codes.f = some [3, 175, 227, 111, 67, 99, 15, 135, 103, 231] := rfl
      rw [this] at ECS
      have := ECS.out
      injection this with this
      rw [← this]; simp
    have hl10 : cs.length ≤ 10 := by
      have : pdu_codes.f = some [3, 175, 227, 111, 67, 99, 15, 135, 103, 231] := rfl
      rw [this] at ECS
      have := ECS.out
      injection this with this
      rw [← this]; simp
    obtain ⟨inner, ho⟩ := Kd.R_own hR6
    obtain ⟨gc, capc, rfl, hgb, hgl⟩ := ho.form hlc
    have HR6 := Aside0.mk hR6
    have HB6 := Aside0.mk hB6
    have HGC := Aside0.mk (And.intro hgb hgl)
    have HP6 := Aside0.mk (blk_below (blk_new w5 (.cells #[.int .i64 t1, .int .i64 (Go.bits .andNot .i64 t2 1), .bool (Go.bits .and .i64 t2 1 == 1), .int .i64 2, .int .i64 (-1), .int .i64 0, .int .i64 0, .bool (Go.bits .and .i64 t3 16 != 0), .slice none 0 0] 25)) hB6)
    clear hR6 hB6 hgb hgl ho
    go_wp2_with fail
    go_loopw [46] (fun v46 wr => ∃ j : Nat, j ≤ cs.length ∧ v46 = .int .i64 j ∧ Aside0 (wr.heap[w5.heap.size]? = some (.cells #[.int .i64 t1, .int .i64 (Go.bits .andNot .i64 t2 1), .bool (Go.bits .and .i64 t2 1 == 1), .int .i64 2, .int .i64 (kindTo cs (Go.bits .andNot .i64 t3 16) j), .int .i64 0, .int .i64 0, .bool (Go.bits .and .i64 t3 16 != 0), .slice none 0 0] 25 (0, 0))) ∧ Aside0 (w6.grownBy wr (some w5.heap.size))) (fun v46 _ => cs.length - (intOf v46).toNat)
    case atStart => exact ⟨0, Nat.zero_le _, rfl, HP6, ⟨World.grownBy.refl _ _⟩⟩
    case round =>
      obtain ⟨j, hj, rfl, HPr, HGr⟩ := hrel
      by_cases hlt : j < cs.length
      · have hcc : w6.cell? ⟨gc, j, none⟩ = some (.int .i64 (rd cs j)) := by
          have := (Kd.R_cell (enc := Value.int .i64) (0 : Int) HR6.out j (by omega) (by omega)).1
          rwa [Int.toNat_natCast] at this
        have hne : gc ≠ w5.heap.size := by have := HGC.out.1; simp at this; omega
        have hcr : wr.cell? ⟨gc, j, none⟩ = some (.int .i64 (rd cs j)) := (World.cell?_of_block (a := ⟨gc, j, none⟩) (HGr.out.block gc HGC.out.2 (fun e => hne (by injection e)))).trans hcc
        have hk4 : wr.cell? ⟨w5.heap.size, 4, none⟩ = some (.int .i64 (kindTo cs (Go.bits .andNot .i64 t3 16) j)) := (blk_cell HPr.out 4).trans rfl
        have hf4 : wr.frozen? ⟨w5.heap.size, 4, none⟩ = false := blk_frozen HPr.out 4
        by_cases hc : rd cs j = Go.bits .andNot .i64 t3 16
        · have hc' : (rd cs j == Go.bits .andNot .i64 t3 16) = true := beq_iff_eq.mpr hc
          have HK := Aside0.mk (show kindTo cs (Go.bits .andNot .i64 t3 16) (j + 1) = (j : Int) by rw [kindTo, if_pos hc])
          clear hc hcc hne
          go_wp2
          refine ⟨⟨j + 1, by omega, by go_num, ⟨?_⟩, ⟨World.grownBy.trans HGr.out (only_set 4 _)⟩⟩, by simp [intOf]; omega⟩
          rw [HK.out]
          exact blk_put HPr.out 4 _ rfl
        · have hc' : (rd cs j == Go.bits .andNot .i64 t3 16) = false := beq_eq_false_iff_ne.mpr hc
          have HK := Aside0.mk (show kindTo cs (Go.bits .andNot .i64 t3 16) (j + 1) = kindTo cs (Go.bits .andNot .i64 t3 16) j by rw [kindTo, if_neg hc])
          clear hc hcc hne
          go_wp2
          refine ⟨⟨j + 1, by omega, by go_num, ⟨?_⟩, HGr⟩, by simp [intOf]; omega⟩
          rw [HK.out]
          exact HPr.out
      · obtain rfl : j = cs.length := by omega
        have hne : g ≠ w5.heap.size := by have := HLT.out.2; omega
        have HI7 := Aside0.mk (((HI5.out.below (below_alloc (Below.refl _ _) _)).below HB6.out).only HGr.out hne)
        have hB7 : Below w1.heap.size w1 wr := by
          have h1 := below_step (below_alloc HB5.out (.cells #[.int .i64 t1, .int .i64 (Go.bits .andNot .i64 t2 1), .bool (Go.bits .and .i64 t2 1 == 1), .int .i64 2, .int .i64 (-1), .int .i64 0, .int .i64 0, .bool (Go.bits .and .i64 t3 16 != 0), .slice none 0 0] 25)) HB6.out
          exact h1.grown HGr.out h1.size (fun k hk => by cases hk; exact HB5.out.size)
        have HB7 := Aside0.mk hB7
        have hres : wr.heap[w.heap.size]? = some (.cells #[.int .i64 0, .int .i64 0, .bool false, .int .i64 0, .int .i64 0, .int .i64 0, .int .i64 0, .bool false, .slice none 0 0] 25 (0, 0)) := blk_grown (blk_below (blk_alloc HBK.out _) HB6.out) HGr.out (fun e => by injection e with e; have := HLT.out.1; omega)
        have HRES := Aside0.mk hres
        have hbw : Below w.heap.size w wr := by
          have h1 := below_step (below_alloc HBEL.out (.cells #[.int .i64 t1, .int .i64 (Go.bits .andNot .i64 t2 1), .bool (Go.bits .and .i64 t2 1 == 1), .int .i64 2, .int .i64 (-1), .int .i64 0, .int .i64 0, .bool (Go.bits .and .i64 t3 16 != 0), .slice none 0 0] 25)) HB6.out
          exact h1.grown HGr.out h1.size (fun k hk => by cases hk; exact HBEL.out.size)
        have HBW := Aside0.mk hbw
        clear hne hB7 hlt hj hres hbw
        go_wp2_with fail
        refine (octet_Reader_Rest.yes w1 _ g inf HI7.out HB7.out (by have := HD3.out; have := HL.out; omega)).mono ?_
        rintro e w7 ⟨v7, rfl, hR7, hI7, hg7⟩
        obtain ⟨A8, c8, rfl, hc8, hC8⟩ := Kd.R_reads hR7
        have hgp : w5.heap.size ≠ g := by have := HLT.out.2; omega
        have hgr : w.heap.size < g := by
          have h1 := HI5.out.ge
          have h2 := blk_lt (blk_below (blk_new w (.cells #[.int .i64 0, .int .i64 0, .bool false, .int .i64 0, .int .i64 0, .int .i64 0, .int .i64 0, .bool false, .slice none 0 0] 25)) HB.out)
          omega
        have hrp : w.heap.size ≠ w5.heap.size := by have := HLT.out.1; omega
        have hp7 := blk_grown HPr.out hg7 (fun e => hgp (by injection e))
        have hz7 := blk_grown HRES.out hg7 (fun e => by injection e with e; omega)
        have hsz : w5.heap.size < wr.heap.size ∧ w.heap.size < wr.heap.size := ⟨blk_lt HPr.out, blk_lt HRES.out⟩
        have HR8 := Aside0.mk (Kd.R_far (Kd.R_mono (Kd.R_bound hR7) (ok' := fun k => k ≠ w5.heap.size ∧ k ≠ w.heap.size) (fun k hk => by have := hk.2.1; omega)) (p := ⟨w5.heap.size, 8, none⟩) (fun k hk => hk.1) (.slice A8 inf.length c8))
        have HP8 := Aside0.mk (blk_put hp7 8 (.slice A8 inf.length c8) rfl)
        have HRES8 := Aside0.mk (blk_far hz7 (p := ⟨w5.heap.size, 8, none⟩) hrp (.slice A8 inf.length c8))
        have HC8 := Aside0.mk (Kd.R_reads' HR8.out).2.2
        have HCL8 := Aside0.mk hc8
        have HB8 := Aside0.mk (below_set (g := w5.heap.size) (j := 8) (v := .slice A8 inf.length c8) ((Below.grown HBW.out hg7 HBW.out.size (fun k hk => by cases hk; omega))) (by have := HLT.out.1; omega))
        have kq0 : w7.cell? ⟨w5.heap.size, 0, none⟩ = some (.int .i64 t1) := (blk_cell hp7 0).trans rfl
        have kf0 : w7.frozen? ⟨w5.heap.size, 0, none⟩ = false := blk_frozen hp7 0
        have kq1 : w7.cell? ⟨w5.heap.size, 1, none⟩ = some (.int .i64 (Go.bits .andNot .i64 t2 1)) := (blk_cell hp7 1).trans rfl
        have kf1 : w7.frozen? ⟨w5.heap.size, 1, none⟩ = false := blk_frozen hp7 1
        have kq2 : w7.cell? ⟨w5.heap.size, 2, none⟩ = some (.bool (Go.bits .and .i64 t2 1 == 1)) := (blk_cell hp7 2).trans rfl
        have kf2 : w7.frozen? ⟨w5.heap.size, 2, none⟩ = false := blk_frozen hp7 2
        have kq3 : w7.cell? ⟨w5.heap.size, 3, none⟩ = some (.int .i64 2) := (blk_cell hp7 3).trans rfl
        have kf3 : w7.frozen? ⟨w5.heap.size, 3, none⟩ = false := blk_frozen hp7 3
        have kq4 : w7.cell? ⟨w5.heap.size, 4, none⟩ = some (.int .i64 (kindTo cs (Go.bits .andNot .i64 t3 16) cs.length)) := (blk_cell hp7 4).trans rfl
        have kf4 : w7.frozen? ⟨w5.heap.size, 4, none⟩ = false := blk_frozen hp7 4
        have kq5 : w7.cell? ⟨w5.heap.size, 5, none⟩ = some (.int .i64 0) := (blk_cell hp7 5).trans rfl
        have kf5 : w7.frozen? ⟨w5.heap.size, 5, none⟩ = false := blk_frozen hp7 5
        have kq6 : w7.cell? ⟨w5.heap.size, 6, none⟩ = some (.int .i64 0) := (blk_cell hp7 6).trans rfl
        have kf6 : w7.frozen? ⟨w5.heap.size, 6, none⟩ = false := blk_frozen hp7 6
        have kq7 : w7.cell? ⟨w5.heap.size, 7, none⟩ = some (.bool (Go.bits .and .i64 t3 16 != 0)) := (blk_cell hp7 7).trans rfl
        have kf7 : w7.frozen? ⟨w5.heap.size, 7, none⟩ = false := blk_frozen hp7 7
        have kq8 : w7.cell? ⟨w5.heap.size, 8, none⟩ = some (.slice none 0 0) := (blk_cell hp7 8).trans rfl
        have kf8 : w7.frozen? ⟨w5.heap.size, 8, none⟩ = false := blk_frozen hp7 8
        clear hp7 hz7 hR7 hI7 hg7 hc8 hC8 hgp hgr hrp hsz
        rcases fin_cases H.out with ⟨hm, hr⟩ | ⟨hm, hr⟩
        · simp only [Prod.mk.injEq] at hr
          obtain ⟨rfl, rfl, rfl, rfl, rfl, rfl, rfl, rfl, rfl, rfl⟩ := hr
          have HM := Aside0.mk hm
          clear hm
          go_wp2_with fail
          refine (pdu_May.calls k _ _ _ _ _ _ _ _ A8 c8 inf true _ HC8.out HCL8.out HM.out).mono ?_
          rintro e w9 ⟨rfl, hB9⟩
          have HB9 := Aside0.mk hB9
          have hp9 := blk_below HP8.out hB9
          have hz9 := blk_below HRES8.out hB9
          clear hB9
          have pq0 : w9.cell? ⟨w5.heap.size, 0, none⟩ = some (.int .i64 t1) := (blk_cell hp9 0).trans rfl
          have pq1 : w9.cell? ⟨w5.heap.size, 1, none⟩ = some (.int .i64 (Go.bits .andNot .i64 t2 1)) := (blk_cell hp9 1).trans rfl
          have pq2 : w9.cell? ⟨w5.heap.size, 2, none⟩ = some (.bool (Go.bits .and .i64 t2 1 == 1)) := (blk_cell hp9 2).trans rfl
          have pq3 : w9.cell? ⟨w5.heap.size, 3, none⟩ = some (.int .i64 2) := (blk_cell hp9 3).trans rfl
          have pq4 : w9.cell? ⟨w5.heap.size, 4, none⟩ = some (.int .i64 (kindTo cs (Go.bits .andNot .i64 t3 16) cs.length)) := (blk_cell hp9 4).trans rfl
          have pq5 : w9.cell? ⟨w5.heap.size, 5, none⟩ = some (.int .i64 0) := (blk_cell hp9 5).trans rfl
          have pq6 : w9.cell? ⟨w5.heap.size, 6, none⟩ = some (.int .i64 0) := (blk_cell hp9 6).trans rfl
          have pq7 : w9.cell? ⟨w5.heap.size, 7, none⟩ = some (.bool (Go.bits .and .i64 t3 16 != 0)) := (blk_cell hp9 7).trans rfl
          have pq8 : w9.cell? ⟨w5.heap.size, 8, none⟩ = some (.slice A8 inf.length c8) := (blk_cell hp9 8).trans rfl
          have zq0 : w9.cell? ⟨w.heap.size, 0, none⟩ = some (.int .i64 0) := (blk_cell hz9 0).trans rfl
          have zf0 : w9.frozen? ⟨w.heap.size, 0, none⟩ = false := blk_frozen hz9 0
          have zq1 : w9.cell? ⟨w.heap.size, 1, none⟩ = some (.int .i64 0) := (blk_cell hz9 1).trans rfl
          have zf1 : w9.frozen? ⟨w.heap.size, 1, none⟩ = false := blk_frozen hz9 1
          have zq2 : w9.cell? ⟨w.heap.size, 2, none⟩ = some (.bool false) := (blk_cell hz9 2).trans rfl
          have zf2 : w9.frozen? ⟨w.heap.size, 2, none⟩ = false := blk_frozen hz9 2
          have zq3 : w9.cell? ⟨w.heap.size, 3, none⟩ = some (.int .i64 0) := (blk_cell hz9 3).trans rfl
          have zf3 : w9.frozen? ⟨w.heap.size, 3, none⟩ = false := blk_frozen hz9 3
          have zq4 : w9.cell? ⟨w.heap.size, 4, none⟩ = some (.int .i64 0) := (blk_cell hz9 4).trans rfl
          have zf4 : w9.frozen? ⟨w.heap.size, 4, none⟩ = false := blk_frozen hz9 4
          have zq5 : w9.cell? ⟨w.heap.size, 5, none⟩ = some (.int .i64 0) := (blk_cell hz9 5).trans rfl
          have zf5 : w9.frozen? ⟨w.heap.size, 5, none⟩ = false := blk_frozen hz9 5
          have zq6 : w9.cell? ⟨w.heap.size, 6, none⟩ = some (.int .i64 0) := (blk_cell hz9 6).trans rfl
          have zf6 : w9.frozen? ⟨w.heap.size, 6, none⟩ = false := blk_frozen hz9 6
          have zq7 : w9.cell? ⟨w.heap.size, 7, none⟩ = some (.bool false) := (blk_cell hz9 7).trans rfl
          have zf7 : w9.frozen? ⟨w.heap.size, 7, none⟩ = false := blk_frozen hz9 7
          have zq8 : w9.cell? ⟨w.heap.size, 8, none⟩ = some (.slice none 0 0) := (blk_cell hz9 8).trans rfl
          have zf8 : w9.frozen? ⟨w.heap.size, 8, none⟩ = false := blk_frozen hz9 8
          clear hp9 hz9
          go_wp2
          refine bodyPost_ret (v := .tuple #[.agg #[.int .i64 t1, .int .i64 (Go.bits .andNot .i64 t2 1), .bool (Go.bits .and .i64 t2 1 == 1), .int .i64 (2), .int .i64 (kindTo cs (Go.bits .andNot .i64 t3 16) cs.length), .int .i64 (0), .int .i64 (0), .bool ((Go.bits .and .i64 t3 16 != 0)), .slice A8 inf.length c8], .int .i64 0]) (by simp [results, Try.results29, go_sem, hu, zq0, zf0, zq1, zf1, zq2, zf2, zq3, zf3, zq4, zf4, zq5, zf5, zq6, zf6, zq7, zf7, zq8, zf8]) rfl ⟨_, rfl, ?_, ?_⟩
          · refine Kd.R_mono (ok := fun k => k ≠ w5.heap.size ∧ k ≠ w.heap.size) ?_ (fun _ _ => trivial)
            repeat (with_reducible refine Kd.R_far ?_ (fun k hk => hk.2) _)
            exact Kd.R_lower (Kd.R_below HR8.out HB9.out) HBW.out.size
          · repeat (with_reducible refine below_set ?_ (Nat.le_refl _))
            exact below_step HB8.out HB9.out
        · simp only [pduBad, Prod.mk.injEq] at hr
          obtain ⟨rfl, rfl, rfl, rfl, rfl, rfl, rfl, rfl, rfl, rfl⟩ := hr
          have HM := Aside0.mk hm
          clear hm
          go_wp2_with fail
          refine (pdu_May.calls k _ _ _ _ _ _ _ _ A8 c8 inf false _ HC8.out HCL8.out HM.out).mono ?_
          rintro e w9 ⟨rfl, hB9⟩
          have HB9 := Aside0.mk hB9
          have hp9 := blk_below HP8.out hB9
          have hz9 := blk_below HRES8.out hB9
          clear hB9
          have zq0 : w9.cell? ⟨w.heap.size, 0, none⟩ = some (.int .i64 0) := (blk_cell hz9 0).trans rfl
          have zf0 : w9.frozen? ⟨w.heap.size, 0, none⟩ = false := blk_frozen hz9 0
          have zq1 : w9.cell? ⟨w.heap.size, 1, none⟩ = some (.int .i64 0) := (blk_cell hz9 1).trans rfl
          have zf1 : w9.frozen? ⟨w.heap.size, 1, none⟩ = false := blk_frozen hz9 1
          have zq2 : w9.cell? ⟨w.heap.size, 2, none⟩ = some (.bool false) := (blk_cell hz9 2).trans rfl
          have zf2 : w9.frozen? ⟨w.heap.size, 2, none⟩ = false := blk_frozen hz9 2
          have zq3 : w9.cell? ⟨w.heap.size, 3, none⟩ = some (.int .i64 0) := (blk_cell hz9 3).trans rfl
          have zf3 : w9.frozen? ⟨w.heap.size, 3, none⟩ = false := blk_frozen hz9 3
          have zq4 : w9.cell? ⟨w.heap.size, 4, none⟩ = some (.int .i64 0) := (blk_cell hz9 4).trans rfl
          have zf4 : w9.frozen? ⟨w.heap.size, 4, none⟩ = false := blk_frozen hz9 4
          have zq5 : w9.cell? ⟨w.heap.size, 5, none⟩ = some (.int .i64 0) := (blk_cell hz9 5).trans rfl
          have zf5 : w9.frozen? ⟨w.heap.size, 5, none⟩ = false := blk_frozen hz9 5
          have zq6 : w9.cell? ⟨w.heap.size, 6, none⟩ = some (.int .i64 0) := (blk_cell hz9 6).trans rfl
          have zf6 : w9.frozen? ⟨w.heap.size, 6, none⟩ = false := blk_frozen hz9 6
          have zq7 : w9.cell? ⟨w.heap.size, 7, none⟩ = some (.bool false) := (blk_cell hz9 7).trans rfl
          have zf7 : w9.frozen? ⟨w.heap.size, 7, none⟩ = false := blk_frozen hz9 7
          have zq8 : w9.cell? ⟨w.heap.size, 8, none⟩ = some (.slice none 0 0) := (blk_cell hz9 8).trans rfl
          have zf8 : w9.frozen? ⟨w.heap.size, 8, none⟩ = false := blk_frozen hz9 8
          clear hp9 hz9
          go_wp2
          refine bodyPost_ret (v := .tuple #[.agg #[.int .i64 0, .int .i64 0, .bool false, .int .i64 0, .int .i64 0, .int .i64 0, .int .i64 0, .bool false, .slice none 0 0], .int .i64 4]) (by simp [results, Try.results29, go_sem, hu, zq0, zf0, zq1, zf1, zq2, zf2, zq3, zf3, zq4, zf4, zq5, zf5, zq6, zf6, zq7, zf7, zq8, zf8]) rfl ⟨_, rfl, Kd.R_nil _ _ _ _ _, ?_⟩
          repeat (with_reducible refine below_set ?_ (Nat.le_refl _))
          exact below_step HB8.out HB9.out
  · rw [if_neg c1] at h
    have c1' : (Go.bits .and .i64 t3 3 == 3) = false := beq_eq_false_iff_ne.mpr c1
    by_cases c2 : Go.bits .and .i64 t3 1 = 0
    · have c2' : (Go.bits .and .i64 t3 1 == 0) = true := beq_iff_eq.mpr c2
      by_cases hl : l0.length < 4
      · rw [if_pos hl] at h
        simp only [pduBad, Option.some.injEq, Prod.mk.injEq] at h
        obtain ⟨rfl, rfl, rfl, rfl, rfl, rfl, rfl, rfl, rfl, rfl⟩ := h
        have HS := Aside0.mk (show ((inf.length : Nat) : Int) < 1 by have := HD3.out; omega)
        clear hl c1 c2
        go_wp2_with fail
        refine (octet_Reader_Num.no w1 _ g inf false 1 (HI5.out.below (below_alloc (Below.refl _ _) _)) (below_alloc HB5.out _) (.inr (.inr (.inr HS.out)))).mono ?_
        rintro e w6 ⟨rfl, hI6, hg6⟩
        have hgp : w5.heap.size ≠ g := by have := HLT.out.2; omega
        have hgr : w.heap.size < g := by
          have h1 := HI5.out.ge
          have h2 := blk_lt (blk_below (blk_new w (.cells #[.int .i64 0, .int .i64 0, .bool false, .int .i64 0, .int .i64 0, .int .i64 0, .int .i64 0, .bool false, .slice none 0 0] 25)) HB.out)
          omega
        have hz6 := blk_grown (blk_alloc HBK.out (.cells #[.int .i64 t1, .int .i64 (Go.bits .andNot .i64 t2 1), .bool (Go.bits .and .i64 t2 1 == 1), .int .i64 0, .int .i64 (0), .int .i64 (t3 / 2), .int .i64 0, .bool false, .slice none 0 0] 25)) hg6 (fun e => by injection e with e; omega)
        have HB6 := Aside0.mk (Below.grown (below_alloc HBEL.out (.cells #[.int .i64 t1, .int .i64 (Go.bits .andNot .i64 t2 1), .bool (Go.bits .and .i64 t2 1 == 1), .int .i64 0, .int .i64 (0), .int .i64 (t3 / 2), .int .i64 0, .bool false, .slice none 0 0] 25)) hg6 (below_alloc HBEL.out (.cells #[.int .i64 t1, .int .i64 (Go.bits .andNot .i64 t2 1), .bool (Go.bits .and .i64 t2 1 == 1), .int .i64 0, .int .i64 (0), .int .i64 (t3 / 2), .int .i64 0, .bool false, .slice none 0 0] 25)).size (fun k hk => by cases hk; omega))
        have HI6 := Aside0.mk hI6
        have zq0 : w6.cell? ⟨w.heap.size, 0, none⟩ = some (.int .i64 0) := (blk_cell hz6 0).trans rfl
        have zf0 : w6.frozen? ⟨w.heap.size, 0, none⟩ = false := blk_frozen hz6 0
        have zq1 : w6.cell? ⟨w.heap.size, 1, none⟩ = some (.int .i64 0) := (blk_cell hz6 1).trans rfl
        have zf1 : w6.frozen? ⟨w.heap.size, 1, none⟩ = false := blk_frozen hz6 1
        have zq2 : w6.cell? ⟨w.heap.size, 2, none⟩ = some (.bool false) := (blk_cell hz6 2).trans rfl
        have zf2 : w6.frozen? ⟨w.heap.size, 2, none⟩ = false := blk_frozen hz6 2
        have zq3 : w6.cell? ⟨w.heap.size, 3, none⟩ = some (.int .i64 0) := (blk_cell hz6 3).trans rfl
        have zf3 : w6.frozen? ⟨w.heap.size, 3, none⟩ = false := blk_frozen hz6 3
        have zq4 : w6.cell? ⟨w.heap.size, 4, none⟩ = some (.int .i64 0) := (blk_cell hz6 4).trans rfl
        have zf4 : w6.frozen? ⟨w.heap.size, 4, none⟩ = false := blk_frozen hz6 4
        have zq5 : w6.cell? ⟨w.heap.size, 5, none⟩ = some (.int .i64 0) := (blk_cell hz6 5).trans rfl
        have zf5 : w6.frozen? ⟨w.heap.size, 5, none⟩ = false := blk_frozen hz6 5
        have zq6 : w6.cell? ⟨w.heap.size, 6, none⟩ = some (.int .i64 0) := (blk_cell hz6 6).trans rfl
        have zf6 : w6.frozen? ⟨w.heap.size, 6, none⟩ = false := blk_frozen hz6 6
        have zq7 : w6.cell? ⟨w.heap.size, 7, none⟩ = some (.bool false) := (blk_cell hz6 7).trans rfl
        have zf7 : w6.frozen? ⟨w.heap.size, 7, none⟩ = false := blk_frozen hz6 7
        have zq8 : w6.cell? ⟨w.heap.size, 8, none⟩ = some (.slice none 0 0) := (blk_cell hz6 8).trans rfl
        have zf8 : w6.frozen? ⟨w.heap.size, 8, none⟩ = false := blk_frozen hz6 8
        clear hz6 hg6 hI6 hgp hgr
        go_wp2_with (go_at_call 88; refine (octet_Reader_Fail.rd w1 _ g inf true HI6.out).mono ?_; rintro e w6' ⟨rfl, rfl⟩)
        refine bodyPost_ret (v := .tuple #[.agg #[.int .i64 0, .int .i64 0, .bool false, .int .i64 0, .int .i64 0, .int .i64 0, .int .i64 0, .bool false, .slice none 0 0], .int .i64 2]) (by simp [results, Try.results29, go_sem, hu, zq0, zf0, zq1, zf1, zq2, zf2, zq3, zf3, zq4, zf4, zq5, zf5, zq6, zf6, zq7, zf7, zq8, zf8]) rfl ⟨_, rfl, Kd.R_nil _ _ _ _ _, ?_⟩
        repeat (with_reducible refine below_set ?_ (Nat.le_refl _))
        exact HB6.out
      · rw [if_neg hl] at h
        obtain ⟨t4, e4, h⟩ := Option.bind_eq_some_iff.mp h
        rw [HINF.out] at e4
        rw [if_pos c2] at h
        obtain ⟨inf2, hinf2⟩ : ∃ x, l0.drop 4 = x := ⟨_, rfl⟩
        rw [hinf2] at h
        have hdd : inf.drop 1 = inf2 := by rw [← hinf2, ← HINF.out, List.drop_drop]
        have HDD := Aside0.mk hdd
        have E4 := Aside0.mk e4
        have H := Aside0.mk h
        have HL2 := Aside0.mk (show inf2.length < 140737488355328 by have := HL.out; rw [← hinf2, List.length_drop]; omega)
        have HS := Aside0.mk (show (1 : Int) ≤ (inf.length : Nat) ∧ inf.length < 140737488355328 by have := HD3.out; have := HL.out; omega)
        clear h e4 hinf2 hdd hl c1 c2
        go_wp2_with fail
        refine (octet_Reader_Num.yes k w1 _ g inf 1 t4 (HI5.out.below (below_alloc (Below.refl _ _) _)) (below_alloc HB5.out _) (by omega) (by omega) HS.out.1 HS.out.2 E4.out).mono ?_
        rintro e w6 ⟨rfl, hI6, hg6⟩
        have hI6 : IsRd w1 w6 g (inf.drop 1) false := hI6
        rw [HDD.out] at hI6
        have HI6 := Aside0.mk hI6
        have HG6 := Aside0.mk hg6
        have HB61 := Aside0.mk (below_rd (below_alloc HB5.out (.cells #[.int .i64 t1, .int .i64 (Go.bits .andNot .i64 t2 1), .bool (Go.bits .and .i64 t2 1 == 1), .int .i64 0, .int .i64 (0), .int .i64 (t3 / 2), .int .i64 0, .bool false, .slice none 0 0] 25)) hg6 HG.out)
        clear hI6 hg6
        go_wp2_with fail
        refine (octet_Reader_Fail.rd w1 _ g inf2 false HI6.out).mono ?_
        rintro e w6' ⟨rfl, rfl⟩
        go_wp2_with fail
        refine (octet_Reader_Rest.yes w1 _ g inf2 HI6.out HB61.out HL2.out).mono ?_
        rintro e w7 ⟨v7, rfl, hR7, hI7, hg7⟩
        obtain ⟨A8, c8, rfl, hc8, hC8⟩ := Kd.R_reads hR7
        have hgp : w5.heap.size ≠ g := by have := HLT.out.2; omega
        have hgr : w.heap.size < g := by
          have h1 := HI5.out.ge
          have h2 := blk_lt (blk_below (blk_new w (.cells #[.int .i64 0, .int .i64 0, .bool false, .int .i64 0, .int .i64 0, .int .i64 0, .int .i64 0, .bool false, .slice none 0 0] 25)) HB.out)
          omega
        have hrp : w.heap.size ≠ w5.heap.size := by have := HLT.out.1; omega
        have hp6 := blk_grown (blk_new w5 (.cells #[.int .i64 t1, .int .i64 (Go.bits .andNot .i64 t2 1), .bool (Go.bits .and .i64 t2 1 == 1), .int .i64 0, .int .i64 (0), .int .i64 (t3 / 2), .int .i64 0, .bool false, .slice none 0 0] 25)) HG6.out (fun e => hgp (by injection e))
        have hz6 := blk_grown (blk_alloc HBK.out (.cells #[.int .i64 t1, .int .i64 (Go.bits .andNot .i64 t2 1), .bool (Go.bits .and .i64 t2 1 == 1), .int .i64 0, .int .i64 (0), .int .i64 (t3 / 2), .int .i64 0, .bool false, .slice none 0 0] 25)) HG6.out (fun e => by injection e with e; omega)
        have hp7 := blk_grown hp6 hg7 (fun e => hgp (by injection e))
        have hz7 := blk_grown hz6 hg7 (fun e => by injection e with e; omega)
        have hsz : w5.heap.size < w6.heap.size ∧ w.heap.size < w6.heap.size := ⟨blk_lt hp6, blk_lt hz6⟩
        have HR8 := Aside0.mk (Kd.R_far (Kd.R_far (Kd.R_far (Kd.R_mono (Kd.R_bound hR7) (ok' := fun k => k ≠ w5.heap.size ∧ k ≠ w.heap.size) (fun k hk => by have := hk.2.1; omega)) (p := ⟨w5.heap.size, 6, none⟩) (fun k hk => hk.1) (.int .i64 (t4 / 2))) (p := ⟨w5.heap.size, 7, none⟩) (fun k hk => hk.1) (.bool (Go.bits .and .i64 t4 1 == 1))) (p := ⟨w5.heap.size, 8, none⟩) (fun k hk => hk.1) (.slice A8 inf2.length c8))
        have HP8 := Aside0.mk (blk_put (blk_put (blk_put hp7 6 (.int .i64 (t4 / 2)) rfl) 7 (.bool (Go.bits .and .i64 t4 1 == 1)) rfl) 8 (.slice A8 inf2.length c8) rfl)
        have HRES8 := Aside0.mk (blk_far (blk_far (blk_far hz7 (p := ⟨w5.heap.size, 6, none⟩) hrp (.int .i64 (t4 / 2))) (p := ⟨w5.heap.size, 7, none⟩) hrp (.bool (Go.bits .and .i64 t4 1 == 1))) (p := ⟨w5.heap.size, 8, none⟩) hrp (.slice A8 inf2.length c8))
        have HC8 := Aside0.mk (Kd.R_reads' HR8.out).2.2
        have HCL8 := Aside0.mk hc8
        have hb6 : Below w.heap.size w w6 := Below.grown (below_alloc HBEL.out (.cells #[.int .i64 t1, .int .i64 (Go.bits .andNot .i64 t2 1), .bool (Go.bits .and .i64 t2 1 == 1), .int .i64 0, .int .i64 (0), .int .i64 (t3 / 2), .int .i64 0, .bool false, .slice none 0 0] 25)) HG6.out (below_alloc HBEL.out (.cells #[.int .i64 t1, .int .i64 (Go.bits .andNot .i64 t2 1), .bool (Go.bits .and .i64 t2 1 == 1), .int .i64 0, .int .i64 (0), .int .i64 (t3 / 2), .int .i64 0, .bool false, .slice none 0 0] 25)).size (fun k hk => by cases hk; omega)
        have HBW := Aside0.mk hb6
        have hw5 : w.heap.size ≤ w5.heap.size := by have := HLT.out.1; omega
        have HB8 := Aside0.mk (below_set (g := w5.heap.size) (j := 8) (v := .slice A8 inf2.length c8) (below_set (g := w5.heap.size) (j := 7) (v := .bool (Go.bits .and .i64 t4 1 == 1)) (below_set (g := w5.heap.size) (j := 6) (v := .int .i64 (t4 / 2)) (Below.grown hb6 hg7 hb6.size (fun k hk => by cases hk; omega)) hw5) hw5) hw5)
        have kq0 : w7.cell? ⟨w5.heap.size, 0, none⟩ = some (.int .i64 t1) := (blk_cell hp7 0).trans rfl
        have kf0 : w7.frozen? ⟨w5.heap.size, 0, none⟩ = false := blk_frozen hp7 0
        have kq1 : w7.cell? ⟨w5.heap.size, 1, none⟩ = some (.int .i64 (Go.bits .andNot .i64 t2 1)) := (blk_cell hp7 1).trans rfl
        have kf1 : w7.frozen? ⟨w5.heap.size, 1, none⟩ = false := blk_frozen hp7 1
        have kq2 : w7.cell? ⟨w5.heap.size, 2, none⟩ = some (.bool (Go.bits .and .i64 t2 1 == 1)) := (blk_cell hp7 2).trans rfl
        have kf2 : w7.frozen? ⟨w5.heap.size, 2, none⟩ = false := blk_frozen hp7 2
        have kq3 : w7.cell? ⟨w5.heap.size, 3, none⟩ = some (.int .i64 0) := (blk_cell hp7 3).trans rfl
        have kf3 : w7.frozen? ⟨w5.heap.size, 3, none⟩ = false := blk_frozen hp7 3
        have kq4 : w7.cell? ⟨w5.heap.size, 4, none⟩ = some (.int .i64 (0)) := (blk_cell hp7 4).trans rfl
        have kf4 : w7.frozen? ⟨w5.heap.size, 4, none⟩ = false := blk_frozen hp7 4
        have kq5 : w7.cell? ⟨w5.heap.size, 5, none⟩ = some (.int .i64 (t3 / 2)) := (blk_cell hp7 5).trans rfl
        have kf5 : w7.frozen? ⟨w5.heap.size, 5, none⟩ = false := blk_frozen hp7 5
        have kq6 : w7.cell? ⟨w5.heap.size, 6, none⟩ = some (.int .i64 0) := (blk_cell hp7 6).trans rfl
        have kf6 : w7.frozen? ⟨w5.heap.size, 6, none⟩ = false := blk_frozen hp7 6
        have kq7 : w7.cell? ⟨w5.heap.size, 7, none⟩ = some (.bool false) := (blk_cell hp7 7).trans rfl
        have kf7 : w7.frozen? ⟨w5.heap.size, 7, none⟩ = false := blk_frozen hp7 7
        have kq8 : w7.cell? ⟨w5.heap.size, 8, none⟩ = some (.slice none 0 0) := (blk_cell hp7 8).trans rfl
        have kf8 : w7.frozen? ⟨w5.heap.size, 8, none⟩ = false := blk_frozen hp7 8
        clear hp6 hz6 hp7 hz7 hR7 hI7 hg7 hc8 hC8 hgp hgr hrp hsz hb6 hw5
        rcases fin_cases H.out with ⟨hm, hr⟩ | ⟨hm, hr⟩
        · simp only [Prod.mk.injEq] at hr
          obtain ⟨rfl, rfl, rfl, rfl, rfl, rfl, rfl, rfl, rfl, rfl⟩ := hr
          have HM := Aside0.mk hm
          clear hm
          go_wp2_with fail
          refine (pdu_May.calls k _ _ _ _ _ _ _ _ A8 c8 inf2 true _ HC8.out HCL8.out HM.out).mono ?_
          rintro e w9 ⟨rfl, hB9⟩
          have HB9 := Aside0.mk hB9
          have hp9 := blk_below HP8.out hB9
          have hz9 := blk_below HRES8.out hB9
          clear hB9
          have pq0 : w9.cell? ⟨w5.heap.size, 0, none⟩ = some (.int .i64 t1) := (blk_cell hp9 0).trans rfl
          have pq1 : w9.cell? ⟨w5.heap.size, 1, none⟩ = some (.int .i64 (Go.bits .andNot .i64 t2 1)) := (blk_cell hp9 1).trans rfl
          have pq2 : w9.cell? ⟨w5.heap.size, 2, none⟩ = some (.bool (Go.bits .and .i64 t2 1 == 1)) := (blk_cell hp9 2).trans rfl
          have pq3 : w9.cell? ⟨w5.heap.size, 3, none⟩ = some (.int .i64 (0)) := (blk_cell hp9 3).trans rfl
          have pq4 : w9.cell? ⟨w5.heap.size, 4, none⟩ = some (.int .i64 (0)) := (blk_cell hp9 4).trans rfl
          have pq5 : w9.cell? ⟨w5.heap.size, 5, none⟩ = some (.int .i64 (t3 / 2)) := (blk_cell hp9 5).trans rfl
          have pq6 : w9.cell? ⟨w5.heap.size, 6, none⟩ = some (.int .i64 (t4 / 2)) := (blk_cell hp9 6).trans rfl
          have pq7 : w9.cell? ⟨w5.heap.size, 7, none⟩ = some (.bool (Go.bits .and .i64 t4 1 == 1)) := (blk_cell hp9 7).trans rfl
          have pq8 : w9.cell? ⟨w5.heap.size, 8, none⟩ = some (.slice A8 inf2.length c8) := (blk_cell hp9 8).trans rfl
          have zq0 : w9.cell? ⟨w.heap.size, 0, none⟩ = some (.int .i64 0) := (blk_cell hz9 0).trans rfl
          have zf0 : w9.frozen? ⟨w.heap.size, 0, none⟩ = false := blk_frozen hz9 0
          have zq1 : w9.cell? ⟨w.heap.size, 1, none⟩ = some (.int .i64 0) := (blk_cell hz9 1).trans rfl
          have zf1 : w9.frozen? ⟨w.heap.size, 1, none⟩ = false := blk_frozen hz9 1
          have zq2 : w9.cell? ⟨w.heap.size, 2, none⟩ = some (.bool false) := (blk_cell hz9 2).trans rfl
          have zf2 : w9.frozen? ⟨w.heap.size, 2, none⟩ = false := blk_frozen hz9 2
          have zq3 : w9.cell? ⟨w.heap.size, 3, none⟩ = some (.int .i64 0) := (blk_cell hz9 3).trans rfl
          have zf3 : w9.frozen? ⟨w.heap.size, 3, none⟩ = false := blk_frozen hz9 3
          have zq4 : w9.cell? ⟨w.heap.size, 4, none⟩ = some (.int .i64 0) := (blk_cell hz9 4).trans rfl
          have zf4 : w9.frozen? ⟨w.heap.size, 4, none⟩ = false := blk_frozen hz9 4
          have zq5 : w9.cell? ⟨w.heap.size, 5, none⟩ = some (.int .i64 0) := (blk_cell hz9 5).trans rfl
          have zf5 : w9.frozen? ⟨w.heap.size, 5, none⟩ = false := blk_frozen hz9 5
          have zq6 : w9.cell? ⟨w.heap.size, 6, none⟩ = some (.int .i64 0) := (blk_cell hz9 6).trans rfl
          have zf6 : w9.frozen? ⟨w.heap.size, 6, none⟩ = false := blk_frozen hz9 6
          have zq7 : w9.cell? ⟨w.heap.size, 7, none⟩ = some (.bool false) := (blk_cell hz9 7).trans rfl
          have zf7 : w9.frozen? ⟨w.heap.size, 7, none⟩ = false := blk_frozen hz9 7
          have zq8 : w9.cell? ⟨w.heap.size, 8, none⟩ = some (.slice none 0 0) := (blk_cell hz9 8).trans rfl
          have zf8 : w9.frozen? ⟨w.heap.size, 8, none⟩ = false := blk_frozen hz9 8
          clear hp9 hz9
          go_wp2
          refine bodyPost_ret (v := .tuple #[.agg #[.int .i64 t1, .int .i64 (Go.bits .andNot .i64 t2 1), .bool (Go.bits .and .i64 t2 1 == 1), .int .i64 (0), .int .i64 (0), .int .i64 (t3 / 2), .int .i64 (t4 / 2), .bool ((Go.bits .and .i64 t4 1 == 1)), .slice A8 inf2.length c8], .int .i64 0]) (by simp [results, Try.results29, go_sem, hu, zq0, zf0, zq1, zf1, zq2, zf2, zq3, zf3, zq4, zf4, zq5, zf5, zq6, zf6, zq7, zf7, zq8, zf8]) rfl ⟨_, rfl, ?_, ?_⟩
          · refine Kd.R_mono (ok := fun k => k ≠ w5.heap.size ∧ k ≠ w.heap.size) ?_ (fun _ _ => trivial)
            repeat (with_reducible refine Kd.R_far ?_ (fun k hk => hk.2) _)
            exact Kd.R_lower (Kd.R_below HR8.out HB9.out) HBW.out.size
          · repeat (with_reducible refine below_set ?_ (Nat.le_refl _))
            exact below_step HB8.out HB9.out
        · simp only [pduBad, Prod.mk.injEq] at hr
          obtain ⟨rfl, rfl, rfl, rfl, rfl, rfl, rfl, rfl, rfl, rfl⟩ := hr
          have HM := Aside0.mk hm
          clear hm
          go_wp2_with fail
          refine (pdu_May.calls k _ _ _ _ _ _ _ _ A8 c8 inf2 false _ HC8.out HCL8.out HM.out).mono ?_
          rintro e w9 ⟨rfl, hB9⟩
          have HB9 := Aside0.mk hB9
          have hp9 := blk_below HP8.out hB9
          have hz9 := blk_below HRES8.out hB9
          clear hB9
          have zq0 : w9.cell? ⟨w.heap.size, 0, none⟩ = some (.int .i64 0) := (blk_cell hz9 0).trans rfl
          have zf0 : w9.frozen? ⟨w.heap.size, 0, none⟩ = false := blk_frozen hz9 0
          have zq1 : w9.cell? ⟨w.heap.size, 1, none⟩ = some (.int .i64 0) := (blk_cell hz9 1).trans rfl
          have zf1 : w9.frozen? ⟨w.heap.size, 1, none⟩ = false := blk_frozen hz9 1
          have zq2 : w9.cell? ⟨w.heap.size, 2, none⟩ = some (.bool false) := (blk_cell hz9 2).trans rfl
          have zf2 : w9.frozen? ⟨w.heap.size, 2, none⟩ = false := blk_frozen hz9 2
          have zq3 : w9.cell? ⟨w.heap.size, 3, none⟩ = some (.int .i64 0) := (blk_cell hz9 3).trans rfl
          have zf3 : w9.frozen? ⟨w.heap.size, 3, none⟩ = false := blk_frozen hz9 3
          have zq4 : w9.cell? ⟨w.heap.size, 4, none⟩ = some (.int .i64 0) := (blk_cell hz9 4).trans rfl
          have zf4 : w9.frozen? ⟨w.heap.size, 4, none⟩ = false := blk_frozen hz9 4
          have zq5 : w9.cell? ⟨w.heap.size, 5, none⟩ = some (.int .i64 0) := (blk_cell hz9 5).trans rfl
          have zf5 : w9.frozen? ⟨w.heap.size, 5, none⟩ = false := blk_frozen hz9 5
          have zq6 : w9.cell? ⟨w.heap.size, 6, none⟩ = some (.int .i64 0) := (blk_cell hz9 6).trans rfl
          have zf6 : w9.frozen? ⟨w.heap.size, 6, none⟩ = false := blk_frozen hz9 6
          have zq7 : w9.cell? ⟨w.heap.size, 7, none⟩ = some (.bool false) := (blk_cell hz9 7).trans rfl
          have zf7 : w9.frozen? ⟨w.heap.size, 7, none⟩ = false := blk_frozen hz9 7
          have zq8 : w9.cell? ⟨w.heap.size, 8, none⟩ = some (.slice none 0 0) := (blk_cell hz9 8).trans rfl
          have zf8 : w9.frozen? ⟨w.heap.size, 8, none⟩ = false := blk_frozen hz9 8
          clear hp9 hz9
          go_wp2
          refine bodyPost_ret (v := .tuple #[.agg #[.int .i64 0, .int .i64 0, .bool false, .int .i64 0, .int .i64 0, .int .i64 0, .int .i64 0, .bool false, .slice none 0 0], .int .i64 4]) (by simp [results, Try.results29, go_sem, hu, zq0, zf0, zq1, zf1, zq2, zf2, zq3, zf3, zq4, zf4, zq5, zf5, zq6, zf6, zq7, zf7, zq8, zf8]) rfl ⟨_, rfl, Kd.R_nil _ _ _ _ _, ?_⟩
          repeat (with_reducible refine below_set ?_ (Nat.le_refl _))
          exact below_step HB8.out HB9.out
    · have c2' : (Go.bits .and .i64 t3 1 == 0) = false := beq_eq_false_iff_ne.mpr c2
      by_cases hl : l0.length < 4
      · rw [if_pos hl] at h
        simp only [pduBad, Option.some.injEq, Prod.mk.injEq] at h
        obtain ⟨rfl, rfl, rfl, rfl, rfl, rfl, rfl, rfl, rfl, rfl⟩ := h
        have HS := Aside0.mk (show ((inf.length : Nat) : Int) < 1 by have := HD3.out; omega)
        clear hl c1 c2
        go_wp2_with fail
        refine (octet_Reader_Num.no w1 _ g inf false 1 (HI5.out.below (below_alloc (Below.refl _ _) _)) (below_alloc HB5.out _) (.inr (.inr (.inr HS.out)))).mono ?_
        rintro e w6 ⟨rfl, hI6, hg6⟩
        have hgp : w5.heap.size ≠ g := by have := HLT.out.2; omega
        have hgr : w.heap.size < g := by
          have h1 := HI5.out.ge
          have h2 := blk_lt (blk_below (blk_new w (.cells #[.int .i64 0, .int .i64 0, .bool false, .int .i64 0, .int .i64 0, .int .i64 0, .int .i64 0, .bool false, .slice none 0 0] 25)) HB.out)
          omega
        have hz6 := blk_grown (blk_alloc HBK.out (.cells #[.int .i64 t1, .int .i64 (Go.bits .andNot .i64 t2 1), .bool (Go.bits .and .i64 t2 1 == 1), .int .i64 (1), .int .i64 (t3 / 4), .int .i64 (0), .int .i64 0, .bool false, .slice none 0 0] 25)) hg6 (fun e => by injection e with e; omega)
        have HB6 := Aside0.mk (Below.grown (below_alloc HBEL.out (.cells #[.int .i64 t1, .int .i64 (Go.bits .andNot .i64 t2 1), .bool (Go.bits .and .i64 t2 1 == 1), .int .i64 (1), .int .i64 (t3 / 4), .int .i64 (0), .int .i64 0, .bool false, .slice none 0 0] 25)) hg6 (below_alloc HBEL.out (.cells #[.int .i64 t1, .int .i64 (Go.bits .andNot .i64 t2 1), .bool (Go.bits .and .i64 t2 1 == 1), .int .i64 (1), .int .i64 (t3 / 4), .int .i64 (0), .int .i64 0, .bool false, .slice none 0 0] 25)).size (fun k hk => by cases hk; omega))
        have HI6 := Aside0.mk hI6
        have zq0 : w6.cell? ⟨w.heap.size, 0, none⟩ = some (.int .i64 0) := (blk_cell hz6 0).trans rfl
        have zf0 : w6.frozen? ⟨w.heap.size, 0, none⟩ = false := blk_frozen hz6 0
        have zq1 : w6.cell? ⟨w.heap.size, 1, none⟩ = some (.int .i64 0) := (blk_cell hz6 1).trans rfl
        have zf1 : w6.frozen? ⟨w.heap.size, 1, none⟩ = false := blk_frozen hz6 1
        have zq2 : w6.cell? ⟨w.heap.size, 2, none⟩ = some (.bool false) := (blk_cell hz6 2).trans rfl
        have zf2 : w6.frozen? ⟨w.heap.size, 2, none⟩ = false := blk_frozen hz6 2
        have zq3 : w6.cell? ⟨w.heap.size, 3, none⟩ = some (.int .i64 0) := (blk_cell hz6 3).trans rfl
        have zf3 : w6.frozen? ⟨w.heap.size, 3, none⟩ = false := blk_frozen hz6 3
        have zq4 : w6.cell? ⟨w.heap.size, 4, none⟩ = some (.int .i64 0) := (blk_cell hz6 4).trans rfl
        have zf4 : w6.frozen? ⟨w.heap.size, 4, none⟩ = false := blk_frozen hz6 4
        have zq5 : w6.cell? ⟨w.heap.size, 5, none⟩ = some (.int .i64 0) := (blk_cell hz6 5).trans rfl
        have zf5 : w6.frozen? ⟨w.heap.size, 5, none⟩ = false := blk_frozen hz6 5
        have zq6 : w6.cell? ⟨w.heap.size, 6, none⟩ = some (.int .i64 0) := (blk_cell hz6 6).trans rfl
        have zf6 : w6.frozen? ⟨w.heap.size, 6, none⟩ = false := blk_frozen hz6 6
        have zq7 : w6.cell? ⟨w.heap.size, 7, none⟩ = some (.bool false) := (blk_cell hz6 7).trans rfl
        have zf7 : w6.frozen? ⟨w.heap.size, 7, none⟩ = false := blk_frozen hz6 7
        have zq8 : w6.cell? ⟨w.heap.size, 8, none⟩ = some (.slice none 0 0) := (blk_cell hz6 8).trans rfl
        have zf8 : w6.frozen? ⟨w.heap.size, 8, none⟩ = false := blk_frozen hz6 8
        clear hz6 hg6 hI6 hgp hgr
        go_wp2_with (go_at_call 88; refine (octet_Reader_Fail.rd w1 _ g inf true HI6.out).mono ?_; rintro e w6' ⟨rfl, rfl⟩)
        refine bodyPost_ret (v := .tuple #[.agg #[.int .i64 0, .int .i64 0, .bool false, .int .i64 0, .int .i64 0, .int .i64 0, .int .i64 0, .bool false, .slice none 0 0], .int .i64 2]) (by simp [results, Try.results29, go_sem, hu, zq0, zf0, zq1, zf1, zq2, zf2, zq3, zf3, zq4, zf4, zq5, zf5, zq6, zf6, zq7, zf7, zq8, zf8]) rfl ⟨_, rfl, Kd.R_nil _ _ _ _ _, ?_⟩
        repeat (with_reducible refine below_set ?_ (Nat.le_refl _))
        exact HB6.out
      · rw [if_neg hl] at h
        obtain ⟨t4, e4, h⟩ := Option.bind_eq_some_iff.mp h
        rw [HINF.out] at e4
        rw [if_neg c2] at h
        obtain ⟨inf2, hinf2⟩ : ∃ x, l0.drop 4 = x := ⟨_, rfl⟩
        rw [hinf2] at h
        have hdd : inf.drop 1 = inf2 := by rw [← hinf2, ← HINF.out, List.drop_drop]
        have HDD := Aside0.mk hdd
        have E4 := Aside0.mk e4
        have H := Aside0.mk h
        have HL2 := Aside0.mk (show inf2.length < 140737488355328 by have := HL.out; rw [← hinf2, List.length_drop]; omega)
        have HS := Aside0.mk (show (1 : Int) ≤ (inf.length : Nat) ∧ inf.length < 140737488355328 by have := HD3.out; have := HL.out; omega)
        clear h e4 hinf2 hdd hl c1 c2
        go_wp2_with fail
        refine (octet_Reader_Num.yes k w1 _ g inf 1 t4 (HI5.out.below (below_alloc (Below.refl _ _) _)) (below_alloc HB5.out _) (by omega) (by omega) HS.out.1 HS.out.2 E4.out).mono ?_
        rintro e w6 ⟨rfl, hI6, hg6⟩
        have hI6 : IsRd w1 w6 g (inf.drop 1) false := hI6
        rw [HDD.out] at hI6
        have HI6 := Aside0.mk hI6
        have HG6 := Aside0.mk hg6
        have HB61 := Aside0.mk (below_rd (below_alloc HB5.out (.cells #[.int .i64 t1, .int .i64 (Go.bits .andNot .i64 t2 1), .bool (Go.bits .and .i64 t2 1 == 1), .int .i64 (1), .int .i64 (t3 / 4), .int .i64 (0), .int .i64 0, .bool false, .slice none 0 0] 25)) hg6 HG.out)
        clear hI6 hg6
        go_wp2_with fail
        refine (octet_Reader_Fail.rd w1 _ g inf2 false HI6.out).mono ?_
        rintro e w6' ⟨rfl, rfl⟩
        go_wp2_with fail
        refine (octet_Reader_Rest.yes w1 _ g inf2 HI6.out HB61.out HL2.out).mono ?_
        rintro e w7 ⟨v7, rfl, hR7, hI7, hg7⟩
        obtain ⟨A8, c8, rfl, hc8, hC8⟩ := Kd.R_reads hR7
        have hgp : w5.heap.size ≠ g := by have := HLT.out.2; omega
        have hgr : w.heap.size < g := by
          have h1 := HI5.out.ge
          have h2 := blk_lt (blk_below (blk_new w (.cells #[.int .i64 0, .int .i64 0, .bool false, .int .i64 0, .int .i64 0, .int .i64 0, .int .i64 0, .bool false, .slice none 0 0] 25)) HB.out)
          omega
        have hrp : w.heap.size ≠ w5.heap.size := by have := HLT.out.1; omega
        have hp6 := blk_grown (blk_new w5 (.cells #[.int .i64 t1, .int .i64 (Go.bits .andNot .i64 t2 1), .bool (Go.bits .and .i64 t2 1 == 1), .int .i64 (1), .int .i64 (t3 / 4), .int .i64 (0), .int .i64 0, .bool false, .slice none 0 0] 25)) HG6.out (fun e => hgp (by injection e))
        have hz6 := blk_grown (blk_alloc HBK.out (.cells #[.int .i64 t1, .int .i64 (Go.bits .andNot .i64 t2 1), .bool (Go.bits .and .i64 t2 1 == 1), .int .i64 (1), .int .i64 (t3 / 4), .int .i64 (0), .int .i64 0, .bool false, .slice none 0 0] 25)) HG6.out (fun e => by injection e with e; omega)
        have hp7 := blk_grown hp6 hg7 (fun e => hgp (by injection e))
        have hz7 := blk_grown hz6 hg7 (fun e => by injection e with e; omega)
        have hsz : w5.heap.size < w6.heap.size ∧ w.heap.size < w6.heap.size := ⟨blk_lt hp6, blk_lt hz6⟩
        have HR8 := Aside0.mk (Kd.R_far (Kd.R_far (Kd.R_far (Kd.R_mono (Kd.R_bound hR7) (ok' := fun k => k ≠ w5.heap.size ∧ k ≠ w.heap.size) (fun k hk => by have := hk.2.1; omega)) (p := ⟨w5.heap.size, 6, none⟩) (fun k hk => hk.1) (.int .i64 (t4 / 2))) (p := ⟨w5.heap.size, 7, none⟩) (fun k hk => hk.1) (.bool (Go.bits .and .i64 t4 1 == 1))) (p := ⟨w5.heap.size, 8, none⟩) (fun k hk => hk.1) (.slice A8 inf2.length c8))
        have HP8 := Aside0.mk (blk_put (blk_put (blk_put hp7 6 (.int .i64 (t4 / 2)) rfl) 7 (.bool (Go.bits .and .i64 t4 1 == 1)) rfl) 8 (.slice A8 inf2.length c8) rfl)
        have HRES8 := Aside0.mk (blk_far (blk_far (blk_far hz7 (p := ⟨w5.heap.size, 6, none⟩) hrp (.int .i64 (t4 / 2))) (p := ⟨w5.heap.size, 7, none⟩) hrp (.bool (Go.bits .and .i64 t4 1 == 1))) (p := ⟨w5.heap.size, 8, none⟩) hrp (.slice A8 inf2.length c8))
        have HC8 := Aside0.mk (Kd.R_reads' HR8.out).2.2
        have HCL8 := Aside0.mk hc8
        have hb6 : Below w.heap.size w w6 := Below.grown (below_alloc HBEL.out (.cells #[.int .i64 t1, .int .i64 (Go.bits .andNot .i64 t2 1), .bool (Go.bits .and .i64 t2 1 == 1), .int .i64 (1), .int .i64 (t3 / 4), .int .i64 (0), .int .i64 0, .bool false, .slice none 0 0] 25)) HG6.out (below_alloc HBEL.out (.cells #[.int .i64 t1, .int .i64 (Go.bits .andNot .i64 t2 1), .bool (Go.bits .and .i64 t2 1 == 1), .int .i64 (1), .int .i64 (t3 / 4), .int .i64 (0), .int .i64 0, .bool false, .slice none 0 0] 25)).size (fun k hk => by cases hk; omega)
        have HBW := Aside0.mk hb6
        have hw5 : w.heap.size ≤ w5.heap.size := by have := HLT.out.1; omega
        have HB8 := Aside0.mk (below_set (g := w5.heap.size) (j := 8) (v := .slice A8 inf2.length c8) (below_set (g := w5.heap.size) (j := 7) (v := .bool (Go.bits .and .i64 t4 1 == 1)) (below_set (g := w5.heap.size) (j := 6) (v := .int .i64 (t4 / 2)) (Below.grown hb6 hg7 hb6.size (fun k hk => by cases hk; omega)) hw5) hw5) hw5)
        have kq0 : w7.cell? ⟨w5.heap.size, 0, none⟩ = some (.int .i64 t1) := (blk_cell hp7 0).trans rfl
        have kf0 : w7.frozen? ⟨w5.heap.size, 0, none⟩ = false := blk_frozen hp7 0
        have kq1 : w7.cell? ⟨w5.heap.size, 1, none⟩ = some (.int .i64 (Go.bits .andNot .i64 t2 1)) := (blk_cell hp7 1).trans rfl
        have kf1 : w7.frozen? ⟨w5.heap.size, 1, none⟩ = false := blk_frozen hp7 1
        have kq2 : w7.cell? ⟨w5.heap.size, 2, none⟩ = some (.bool (Go.bits .and .i64 t2 1 == 1)) := (blk_cell hp7 2).trans rfl
        have kf2 : w7.frozen? ⟨w5.heap.size, 2, none⟩ = false := blk_frozen hp7 2
        have kq3 : w7.cell? ⟨w5.heap.size, 3, none⟩ = some (.int .i64 (1)) := (blk_cell hp7 3).trans rfl
        have kf3 : w7.frozen? ⟨w5.heap.size, 3, none⟩ = false := blk_frozen hp7 3
        have kq4 : w7.cell? ⟨w5.heap.size, 4, none⟩ = some (.int .i64 (t3 / 4)) := (blk_cell hp7 4).trans rfl
        have kf4 : w7.frozen? ⟨w5.heap.size, 4, none⟩ = false := blk_frozen hp7 4
        have kq5 : w7.cell? ⟨w5.heap.size, 5, none⟩ = some (.int .i64 (0)) := (blk_cell hp7 5).trans rfl
        have kf5 : w7.frozen? ⟨w5.heap.size, 5, none⟩ = false := blk_frozen hp7 5
        have kq6 : w7.cell? ⟨w5.heap.size, 6, none⟩ = some (.int .i64 0) := (blk_cell hp7 6).trans rfl
        have kf6 : w7.frozen? ⟨w5.heap.size, 6, none⟩ = false := blk_frozen hp7 6
        have kq7 : w7.cell? ⟨w5.heap.size, 7, none⟩ = some (.bool false) := (blk_cell hp7 7).trans rfl
        have kf7 : w7.frozen? ⟨w5.heap.size, 7, none⟩ = false := blk_frozen hp7 7
        have kq8 : w7.cell? ⟨w5.heap.size, 8, none⟩ = some (.slice none 0 0) := (blk_cell hp7 8).trans rfl
        have kf8 : w7.frozen? ⟨w5.heap.size, 8, none⟩ = false := blk_frozen hp7 8
        clear hp6 hz6 hp7 hz7 hR7 hI7 hg7 hc8 hC8 hgp hgr hrp hsz hb6 hw5
        rcases fin_cases H.out with ⟨hm, hr⟩ | ⟨hm, hr⟩
        · simp only [Prod.mk.injEq] at hr
          obtain ⟨rfl, rfl, rfl, rfl, rfl, rfl, rfl, rfl, rfl, rfl⟩ := hr
          have HM := Aside0.mk hm
          clear hm
          go_wp2_with fail
          refine (pdu_May.calls k _ _ _ _ _ _ _ _ A8 c8 inf2 true _ HC8.out HCL8.out HM.out).mono ?_
          rintro e w9 ⟨rfl, hB9⟩
          have HB9 := Aside0.mk hB9
          have hp9 := blk_below HP8.out hB9
          have hz9 := blk_below HRES8.out hB9
          clear hB9
          have pq0 : w9.cell? ⟨w5.heap.size, 0, none⟩ = some (.int .i64 t1) := (blk_cell hp9 0).trans rfl
          have pq1 : w9.cell? ⟨w5.heap.size, 1, none⟩ = some (.int .i64 (Go.bits .andNot .i64 t2 1)) := (blk_cell hp9 1).trans rfl
          have pq2 : w9.cell? ⟨w5.heap.size, 2, none⟩ = some (.bool (Go.bits .and .i64 t2 1 == 1)) := (blk_cell hp9 2).trans rfl
          have pq3 : w9.cell? ⟨w5.heap.size, 3, none⟩ = some (.int .i64 (1)) := (blk_cell hp9 3).trans rfl
          have pq4 : w9.cell? ⟨w5.heap.size, 4, none⟩ = some (.int .i64 (t3 / 4)) := (blk_cell hp9 4).trans rfl
          have pq5 : w9.cell? ⟨w5.heap.size, 5, none⟩ = some (.int .i64 (0)) := (blk_cell hp9 5).trans rfl
          have pq6 : w9.cell? ⟨w5.heap.size, 6, none⟩ = some (.int .i64 (t4 / 2)) := (blk_cell hp9 6).trans rfl
          have pq7 : w9.cell? ⟨w5.heap.size, 7, none⟩ = some (.bool (Go.bits .and .i64 t4 1 == 1)) := (blk_cell hp9 7).trans rfl
          have pq8 : w9.cell? ⟨w5.heap.size, 8, none⟩ = some (.slice A8 inf2.length c8) := (blk_cell hp9 8).trans rfl
          have zq0 : w9.cell? ⟨w.heap.size, 0, none⟩ = some (.int .i64 0) := (blk_cell hz9 0).trans rfl
          have zf0 : w9.frozen? ⟨w.heap.size, 0, none⟩ = false := blk_frozen hz9 0
          have zq1 : w9.cell? ⟨w.heap.size, 1, none⟩ = some (.int .i64 0) := (blk_cell hz9 1).trans rfl
          have zf1 : w9.frozen? ⟨w.heap.size, 1, none⟩ = false := blk_frozen hz9 1
          have zq2 : w9.cell? ⟨w.heap.size, 2, none⟩ = some (.bool false) := (blk_cell hz9 2).trans rfl
          have zf2 : w9.frozen? ⟨w.heap.size, 2, none⟩ = false := blk_frozen hz9 2
          have zq3 : w9.cell? ⟨w.heap.size, 3, none⟩ = some (.int .i64 0) := (blk_cell hz9 3).trans rfl
          have zf3 : w9.frozen? ⟨w.heap.size, 3, none⟩ = false := blk_frozen hz9 3
          have zq4 : w9.cell? ⟨w.heap.size, 4, none⟩ = some (.int .i64 0) := (blk_cell hz9 4).trans rfl
          have zf4 : w9.frozen? ⟨w.heap.size, 4, none⟩ = false := blk_frozen hz9 4
          have zq5 : w9.cell? ⟨w.heap.size, 5, none⟩ = some (.int .i64 0) := (blk_cell hz9 5).trans rfl
          have zf5 : w9.frozen? ⟨w.heap.size, 5, none⟩ = false := blk_frozen hz9 5
          have zq6 : w9.cell? ⟨w.heap.size, 6, none⟩ = some (.int .i64 0) := (blk_cell hz9 6).trans rfl
          have zf6 : w9.frozen? ⟨w.heap.size, 6, none⟩ = false := blk_frozen hz9 6
          have zq7 : w9.cell? ⟨w.heap.size, 7, none⟩ = some (.bool false) := (blk_cell hz9 7).trans rfl
          have zf7 : w9.frozen? ⟨w.heap.size, 7, none⟩ = false := blk_frozen hz9 7
          have zq8 : w9.cell? ⟨w.heap.size, 8, none⟩ = some (.slice none 0 0) := (blk_cell hz9 8).trans rfl
          have zf8 : w9.frozen? ⟨w.heap.size, 8, none⟩ = false := blk_frozen hz9 8
          clear hp9 hz9
          go_wp2
          refine bodyPost_ret (v := .tuple #[.agg #[.int .i64 t1, .int .i64 (Go.bits .andNot .i64 t2 1), .bool (Go.bits .and .i64 t2 1 == 1), .int .i64 (1), .int .i64 (t3 / 4), .int .i64 (0), .int .i64 (t4 / 2), .bool ((Go.bits .and .i64 t4 1 == 1)), .slice A8 inf2.length c8], .int .i64 0]) (by simp [results, Try.results29, go_sem, hu, zq0, zf0, zq1, zf1, zq2, zf2, zq3, zf3, zq4, zf4, zq5, zf5, zq6, zf6, zq7, zf7, zq8, zf8]) rfl ⟨_, rfl, ?_, ?_⟩
          · refine Kd.R_mono (ok := fun k => k ≠ w5.heap.size ∧ k ≠ w.heap.size) ?_ (fun _ _ => trivial)
            repeat (with_reducible refine Kd.R_far ?_ (fun k hk => hk.2) _)
            exact Kd.R_lower (Kd.R_below HR8.out HB9.out) HBW.out.size
          · repeat (with_reducible refine below_set ?_ (Nat.le_refl _))
            exact below_step HB8.out HB9.out
        · simp only [pduBad, Prod.mk.injEq] at hr
          obtain ⟨rfl, rfl, rfl, rfl, rfl, rfl, rfl, rfl, rfl, rfl⟩ := hr
          have HM := Aside0.mk hm
          clear hm
          go_wp2_with fail
          refine (pdu_May.calls k _ _ _ _ _ _ _ _ A8 c8 inf2 false _ HC8.out HCL8.out HM.out).mono ?_
          rintro e w9 ⟨rfl, hB9⟩
          have HB9 := Aside0.mk hB9
          have hp9 := blk_below HP8.out hB9
          have hz9 := blk_below HRES8.out hB9
          clear hB9
          have zq0 : w9.cell? ⟨w.heap.size, 0, none⟩ = some (.int .i64 0) := (blk_cell hz9 0).trans rfl
          have zf0 : w9.frozen? ⟨w.heap.size, 0, none⟩ = false := blk_frozen hz9 0
          have zq1 : w9.cell? ⟨w.heap.size, 1, none⟩ = some (.int .i64 0) := (blk_cell hz9 1).trans rfl
          have zf1 : w9.frozen? ⟨w.heap.size, 1, none⟩ = false := blk_frozen hz9 1
          have zq2 : w9.cell? ⟨w.heap.size, 2, none⟩ = some (.bool false) := (blk_cell hz9 2).trans rfl
          have zf2 : w9.frozen? ⟨w.heap.size, 2, none⟩ = false := blk_frozen hz9 2
          have zq3 : w9.cell? ⟨w.heap.size, 3, none⟩ = some (.int .i64 0) := (blk_cell hz9 3).trans rfl
          have zf3 : w9.frozen? ⟨w.heap.size, 3, none⟩ = false := blk_frozen hz9 3
          have zq4 : w9.cell? ⟨w.heap.size, 4, none⟩ = some (.int .i64 0) := (blk_cell hz9 4).trans rfl
          have zf4 : w9.frozen? ⟨w.heap.size, 4, none⟩ = false := blk_frozen hz9 4
          have zq5 : w9.cell? ⟨w.heap.size, 5, none⟩ = some (.int .i64 0) := (blk_cell hz9 5).trans rfl
          have zf5 : w9.frozen? ⟨w.heap.size, 5, none⟩ = false := blk_frozen hz9 5
          have zq6 : w9.cell? ⟨w.heap.size, 6, none⟩ = some (.int .i64 0) := (blk_cell hz9 6).trans rfl
          have zf6 : w9.frozen? ⟨w.heap.size, 6, none⟩ = false := blk_frozen hz9 6
          have zq7 : w9.cell? ⟨w.heap.size, 7, none⟩ = some (.bool false) := (blk_cell hz9 7).trans rfl
          have zf7 : w9.frozen? ⟨w.heap.size, 7, none⟩ = false := blk_frozen hz9 7
          have zq8 : w9.cell? ⟨w.heap.size, 8, none⟩ = some (.slice none 0 0) := (blk_cell hz9 8).trans rfl
          have zf8 : w9.frozen? ⟨w.heap.size, 8, none⟩ = false := blk_frozen hz9 8
          clear hp9 hz9
          go_wp2
          refine bodyPost_ret (v := .tuple #[.agg #[.int .i64 0, .int .i64 0, .bool false, .int .i64 0, .int .i64 0, .int .i64 0, .int .i64 0, .bool false, .slice none 0 0], .int .i64 4]) (by simp [results, Try.results29, go_sem, hu, zq0, zf0, zq1, zf1, zq2, zf2, zq3, zf3, zq4, zf4, zq5, zf5, zq6, zf6, zq7, zf7, zq8, zf8]) rfl ⟨_, rfl, Kd.R_nil _ _ _ _ _, ?_⟩
          repeat (with_reducible refine below_set ?_ (Nat.le_refl _))
          exact below_step HB8.out HB9.out
theorem pdu_Decode.calls (k : Nat) (A0 : Option Addr) (c0 : Nat) (l0 : List Int) (r1 r2 : Int) (r3 : Bool) (r4 r5 r6 r7 : Int) (r8 : Bool) (r9 : List Int) (r10 : Int) (w : World) (hr0 : Kd.C (Kd.int .u8) w A0 l0.length l0) (hc0 : l0.length ≤ c0) (h : pdu_Decode.f k l0 = some (r1, r2, r3, r4, r5, r6, r7, r8, r9, r10)) :
    Calls Try.prog 29 #[.slice A0 l0.length c0] w fun e w' => ∃ v8_ : Value, e = .returned (.tuple #[.agg #[.int .i64 r1, .int .i64 r2, .bool r3, .int .i64 r4, .int .i64 r5, .int .i64 r6, .int .i64 r7, .bool r8, v8_], .int .i64 r10]) ∧ Kd.R (Kd.int .u8) 5 w' w.heap.size (fun _ => True) v8_ r9 ∧ Below w.heap.size w w' := by
  by_cases h3 : l0.length < 3
  · unfold pdu_Decode.f at h
    rw [if_pos h3] at h
    simp only [pduBad, Option.some.injEq, Prod.mk.injEq] at h
    obtain ⟨rfl, rfl, rfl, rfl, rfl, rfl, rfl, rfl, rfl, rfl⟩ := h
    refine (pdu_Decode.short A0 c0 l0 w hr0 hc0 h3).mono ?_
    rintro e w' ⟨rfl, hb⟩
    exact ⟨_, rfl, Kd.R_nil _ _ _ _ _, hb⟩
  · exact pdu_Decode.long k A0 c0 l0 r1 r2 r3 r4 r5 r6 r7 r8 r9 r10 w hr0 hc0 h3 h
end Go.Proofs.Ytnmcoebjkfpmjaa.P
/-! Px97 -/
namespace Go.Proofs.Ytnmcoebjkfpmjaa.P
open Go.RowKit Go.Proofs.YtnmcoebjkfpmjaaW.PrintWords Go.Proofs.YtnmcoebjkfpmjaaW.PrintLast Go.Proofs.YtnmcoebjkfpmjaaW.PrintMore
attribute [local go_sem] max2_int min2_int max_two min_two max_three min_three max_four min_four   -- for this text's walks alone
set_option linter.unusedVariables false
set_option linter.unusedSimpArgs false
end Go.Proofs.Ytnmcoebjkfpmjaa.P
/-! Px36 -/
namespace Go.Proofs.Ytnmcoebjkfpmjaa.P
open Go.RowKit Go.Proofs.YtnmcoebjkfpmjaaW.PrintWords Go.Proofs.YtnmcoebjkfpmjaaW.PrintLast Go.Proofs.YtnmcoebjkfpmjaaW.PrintMore
attribute [local go_sem] max2_int min2_int max_two min_two max_three min_three max_four min_four   -- for this text's walks alone
set_option linter.unusedVariables false
set_option linter.unusedSimpArgs false
end Go.Proofs.Ytnmcoebjkfpmjaa.P
/-! Lib -/
namespace Go.Proofs.Ytnmcoebjkfpmjaa.Lib
set_option linter.unusedSimpArgs false
set_option linter.unusedVariables false
open Go.RowKit Go.Proofs.Ytnmcoebjkfpmjaa.P Go.Proofs.YtnmcoebjkfpmjaaW.PrintWords Go.Proofs.YtnmcoebjkfpmjaaW.PrintLast
theorem and1 {x : Int} (h0 : 0 ≤ x) (h1 : x ≤ 255) : Go.bits .and .i64 x 1 = x % 2 := by
  have : ∀ j : Fin 256, Go.bits .and .i64 (j.val : Int) 1 = (j.val : Int) % 2 := by decide +kernel
  have h := this ⟨x.toNat, by omega⟩
  rwa [show ((x.toNat : Nat) : Int) = x by omega] at h
def kindB (t : Int) (resp : Bool) (kind : Int) (n : Nat) : Bool :=
  if kind = 0 then !resp else if kind = 1 ∨ kind = 2 then true else if kind = 3 ∨ kind = 4 then (!resp && (t % 2 == 0) && (n == 4)) else if kind = 5 ∨ kind = 6 then (resp && (t % 2 == 0) && (n == 4))
  else if kind = 7 then (resp && (t % 2 == 0) && (n == 5)) else if kind = 8 ∨ kind = 9 then (t % 2 == 0) else false
def inB (t f ns nr : Int) (n : Nat) : Prop := 0 ≤ t ∧ t ≤ 255 ∧ 0 ≤ f ∧ f ≤ 254 ∧ f % 2 = 0 ∧ 0 ≤ ns ∧ ns ≤ 127 ∧ 0 ≤ nr ∧ nr ≤ 127 ∧ n ≤ 1040
instance (t f ns nr : Int) (n : Nat) : Decidable (inB t f ns nr n) := by unfold inB; infer_instance
def formB (t : Int) (resp : Bool) (form kind ns nr : Int) (n : Nat) : Bool :=
  if form = 0 then decide (kind = 0) && (t % 2 == 0) else if form = 1 then decide (0 ≤ kind ∧ kind ≤ 2 ∧ ns = 0 ∧ n = 0) && (t % 2 == 0) else if form = 2 then decide (ns = 0 ∧ nr = 0) && kindB t resp kind n else false
def mayB (t f : Int) (resp : Bool) (form kind ns nr : Int) (n : Nat) : Bool :=
  if inB t f ns nr n then formB t resp form kind ns nr n else false
section
variable (k : Nat) (t f : Int) (resp : Bool) (form kind ns nr : Int) (poll : Bool) (info : List Int)
theorem ten (x : Int) : x = 0 ∨ x = 1 ∨ x = 2 ∨ x = 3 ∨ x = 4 ∨ x = 5 ∨ x = 6 ∨ x = 7 ∨ x = 8 ∨ x = 9 ∨ (x ≠ 0 ∧ x ≠ 1 ∧ x ≠ 2 ∧ x ≠ 3 ∧ x ≠ 4 ∧ x ≠ 5 ∧ x ≠ 6 ∧ x ≠ 7 ∧ x ≠ 8 ∧ x ≠ 9) := by omega
theorem len_eq (n : Nat) (m : Nat) : ((n : Int) == (m : Int)) = (n == m) := by
  by_cases h : n = m
  · subst h; simp
  · rw [beq_eq_false_iff_ne.mpr h, beq_eq_false_iff_ne.mpr (by omega)]
theorem kind_pdu (h0 : 0 ≤ t) (h1 : t ≤ 255) : pdu_kind.f (k + 3) t f resp form kind ns nr poll info = some (kindB t resp kind info.length) := by
  unfold pdu_kind.f kindB
  rw [and1 h0 h1]
  have l4 := len_eq info.length 4
  have l5 := len_eq info.length 5
  have h2 : t % 2 = 0 ∨ t % 2 = 1 := by omega
  rcases ten kind with h | h | h | h | h | h | h | h | h | h | ⟨a0, a1, a2, a3, a4, a5, a6, a7, a8, a9⟩
  all_goals first | subst h | skip
  all_goals rcases h2 with h2 | h2 <;> rw [h2] <;> cases resp
  all_goals first | rfl | (simp only [pdu_kind.j0, pdu_kind.j1, pdu_kind.j2, l4, l5]; rfl) | (simp [pdu_kind.j0, pdu_kind.j1, pdu_kind.j2, *]; done) | (simp [pdu_kind.j0, pdu_kind.j1, pdu_kind.j2]; exact l4) | (simp [pdu_kind.j0, pdu_kind.j1, pdu_kind.j2]; exact l5)
theorem may_pdu_j (h0 : 0 ≤ t) (h1 : t ≤ 255) : pdu_May.j0 (k + 4) false t f resp form kind ns nr poll info = some (formB t resp form kind ns nr info.length) := by
  simp only [pdu_May.j0, formB, pdu_within.f, and1 h0 h1, kind_pdu k t f resp form kind ns nr poll info h0 h1]
  rw [if_neg (by decide)]
  by_cases f0 : form = 0
  · rw [if_pos f0, if_pos f0]; by_cases c : kind = 0 <;> simp [c]
  rw [if_neg f0, if_neg f0]
  by_cases f1 : form = 1
  · rw [if_pos f1, if_pos f1]
    by_cases c : kind ≥ 0
    · by_cases c2 : kind ≤ 2
      · by_cases c3 : ns = 0
        · by_cases c4 : info.length = 0
          · simp [c, c2, c3, c4]
          · simp [c, c2, c3]
            split <;> simp [*]
        · simp [c, c2, c3]
      · simp [c, c2]
    · simp [c]
  rw [if_neg f1, if_neg f1]
  by_cases f2 : form = 2
  · rw [if_pos f2, if_pos f2]
    by_cases c3 : ns = 0 <;> by_cases c4 : nr = 0 <;> simp [c3, c4]
  · rw [if_neg f2, if_neg f2]
theorem may_pdu : pdu_May.f (k + 4) t f resp form kind ns nr poll info = some (mayB t f resp form kind ns nr info.length) := by
  have hj : pdu_May.j0 (k + 4) true t f resp form kind ns nr poll info = some false := rfl
  unfold pdu_May.f mayB
  by_cases h : inB t f ns nr info.length
  · rw [if_pos h]
    obtain ⟨a, b, c, d, e, g, i, j, l, m⟩ := h
    have e1 : pdu_within.f t 255 = some true := by unfold pdu_within.f; rw [if_pos a, decide_eq_true b]
    have e2 : pdu_within.f f 254 = some true := by unfold pdu_within.f; rw [if_pos c, decide_eq_true d]
    have e3 : pdu_within.f ns 127 = some true := by unfold pdu_within.f; rw [if_pos g, decide_eq_true i]
    have e4 : pdu_within.f nr 127 = some true := by unfold pdu_within.f; rw [if_pos j, decide_eq_true l]
    have e5 : decide ((info.length : Int) > 1040) = false := decide_eq_false (by omega)
    rw [e1, e2, e3, e4, e5, and1 c (by omega)]
    simp only [Option.bind_some, if_true, may_pdu_j k t f resp form kind ns nr poll info a b]
    rw [if_neg (by omega)]
  · rw [if_neg h, hj]
    unfold pdu_within.f
    unfold inB at h
    by_cases c1 : t ≥ 0 ∧ t ≤ 255
    · by_cases c2 : f ≥ 0 ∧ f ≤ 254
      · rw [and1 c2.1 (by omega)]
        by_cases c3 : f % 2 = 1
        · simp [c1, c2, c3]
        · by_cases c4 : ns ≥ 0 ∧ ns ≤ 127
          · by_cases c5 : nr ≥ 0 ∧ nr ≤ 127
            · have e5 : decide ((info.length : Int) > 1040) = true := decide_eq_true (by omega)
              simp [c1, c2, c3, c4, c5]
              rw [decide_eq_true (by omega)]; exact hj
            · by_cases c6 : nr ≥ 0
              · simp [c1, c2, c3, c4, c6]; intro; omega
              · simp [c1, c2, c3, c4, c6]
          · by_cases c6 : ns ≥ 0
            · simp [c1, c2, c3, c6]; intro; omega
            · simp [c1, c2, c3, c6]
      · by_cases c6 : f ≥ 0
        · simp [c1, c6]; intro; omega
        · simp [c1, c6]
    · by_cases c6 : t ≥ 0
      · simp [c6]; intro; omega
      · simp [c6]
end
end Go.Proofs.Ytnmcoebjkfpmjaa.Lib
/-! Px103 -/
namespace Go.Proofs.Ytnmcoebjkfpmjaa.P
open Go.RowKit Go.Proofs.YtnmcoebjkfpmjaaW.PrintWords Go.Proofs.YtnmcoebjkfpmjaaW.PrintLast Go.Proofs.YtnmcoebjkfpmjaaW.PrintMore
attribute [local go_sem] max2_int min2_int max_two min_two max_three min_three max_four min_four   -- for this text's walks alone
set_option linter.unusedVariables false
set_option linter.unusedSimpArgs false
end Go.Proofs.Ytnmcoebjkfpmjaa.P
/-! Px104 -/
namespace Go.Proofs.Ytnmcoebjkfpmjaa.P
open Go.RowKit Go.Proofs.YtnmcoebjkfpmjaaW.PrintWords Go.Proofs.YtnmcoebjkfpmjaaW.PrintLast Go.Proofs.YtnmcoebjkfpmjaaW.PrintMore
attribute [local go_sem] max2_int min2_int max_two min_two max_three min_three max_four min_four   -- for this text's walks alone
set_option linter.unusedVariables false
set_option linter.unusedSimpArgs false
end Go.Proofs.Ytnmcoebjkfpmjaa.P
/-! Px105 -/
namespace Go.Proofs.Ytnmcoebjkfpmjaa.P
open Go.RowKit Go.Proofs.YtnmcoebjkfpmjaaW.PrintWords Go.Proofs.YtnmcoebjkfpmjaaW.PrintLast Go.Proofs.YtnmcoebjkfpmjaaW.PrintMore
attribute [local go_sem] max2_int min2_int max_two min_two max_three min_three max_four min_four   -- for this text's walks alone
set_option linter.unusedVariables false
set_option linter.unusedSimpArgs false
end Go.Proofs.Ytnmcoebjkfpmjaa.P
/-! Px37 -/
namespace Go.Proofs.Ytnmcoebjkfpmjaa.P
open Go.RowKit Go.Proofs.YtnmcoebjkfpmjaaW.PrintWords Go.Proofs.YtnmcoebjkfpmjaaW.PrintLast Go.Proofs.YtnmcoebjkfpmjaaW.PrintMore
attribute [local go_sem] max2_int min2_int max_two min_two max_three min_three max_four min_four   -- for this text's walks alone
set_option linter.unusedVariables false
set_option linter.unusedSimpArgs false
def antiphonref1_Same.l0 : Nat → List Int → List Int → Int → Option (Bool)
  | 0, _, _, _ => none
  | k + 1, x0, x1, x5 => if x5 < (x0.length : Int) then (if 0 ≤ x5 then (if x5 < (x1.length : Int) then (if (rd x0 x5) = (rd x1 x5) then (antiphonref1_Same.l0 k x0 x1 (wrap64 (x5 + 1))) else (some false)) else (none)) else (none)) else (some true)
def antiphonref1_Same.f (k : Nat) (l0 : List Int) (l1 : List Int) : Option (Bool) := if (l0.length : Int) = (l1.length : Int) then (antiphonref1_Same.l0 k l0 l1 0) else (some false)
set_option maxHeartbeats 8000000 in
set_option maxRecDepth 100000 in
theorem antiphonref1_Same.calls (k : Nat) (A0 : Option Addr) (c0 : Nat) (l0 : List Int) (A1 : Option Addr) (c1 : Nat) (l1 : List Int) (r : Bool) (w : World) (hr0 : Kd.C (Kd.int .u8) w A0 l0.length l0) (hc0 : l0.length ≤ c0) (hr1 : Kd.C (Kd.int .u8) w A1 l1.length l1) (hc1 : l1.length ≤ c1) (h : antiphonref1_Same.f k l0 l1 = some r) :
    Calls Try.prog 36 #[.slice A0 l0.length c0, .slice A1 l1.length c1] w fun e w' => e = .returned (.bool r) ∧ Drawn0 w w' := by
  have HR0 := Aside0.mk hr0
  have HC0 := Aside0.mk hc0
  clear hr0 hc0
  have HR1 := Aside0.mk hr1
  have HC1 := Aside0.mk hc1
  clear hr1 hc1
  have H : (if (l0.length : Int) = (l1.length : Int) then (antiphonref1_Same.l0 k l0 l1 0) else (some false)) = some r := h
  clear h
  by_cases c3 : (l0.length : Int) = (l1.length : Int)
  · rw [if_pos c3] at H
    have c3b0 : ((l0.length : Int) == (l1.length : Int)) = true := beq_iff_eq.mpr c3
    have c3b1 : ((l0.length : Int) != (l1.length : Int)) = false := bne_eq_false_iff_eq.mpr c3
    have c3b2 : (l0.length == l1.length) = true := by first | simpa using c3 | (simp at c3 ⊢; omega)
    clear c3
    have H' := Aside0.mk H
    clear H
    go_enter Try.func36, Try.ntmps36
    go_wp2
    repeat (go_quiet (fail); try go_wp2)
    go_loopg [5] k (fun kq v5 w' => ∃ (x5_1 : Int), v5 = .int .i64 x5_1 ∧ Aside0 (antiphonref1_Same.l0 kq l0 l1 x5_1 = some r) ∧ Aside0 (kq ≤ k) ∧ Drawn0 w w')
    case atStart => exact ⟨(0), (by first | rfl | (simp; done) | (simp [*]; done)), H', ⟨Nat.le_refl _⟩, by repeat (first | exact Drawn0.refl _ | apply Drawn0.step)⟩
    case round =>
      clear H'
      try clear c1
      try clear p2
      try clear c3
      try clear c3b0
      try clear c3b1
      try clear c3b2
      obtain ⟨x5_1, rfl, HA, HK1, ⟨m1, rfl⟩⟩ := hrel
      cases gk with
      | zero => exact absurd HA.out (by simp [antiphonref1_Same.l0])
      | succ k1 =>
        have H := HA.out
        clear HA
        simp only [antiphonref1_Same.l0] at H
        by_cases c4 : x5_1 < (l0.length : Int)
        · rw [if_pos c4] at H
          have c4b0 : decide (x5_1 < (l0.length : Int)) = true := decide_eq_true c4
          clear c4
          by_cases c5 : 0 ≤ x5_1
          · rw [if_pos c5] at H
            have c5b0 : decide (0 ≤ x5_1) = true := decide_eq_true c5
            clear c5
            by_cases c6 : x5_1 < (l1.length : Int)
            · rw [if_pos c6] at H
              have c6b0 : decide (x5_1 < (l1.length : Int)) = true := decide_eq_true c6
              clear c6
              by_cases c7 : (rd l0 x5_1) = (rd l1 x5_1)
              · rw [if_pos c7] at H
                have c7b0 : ((rd l0 x5_1) == (rd l1 x5_1)) = true := beq_iff_eq.mpr c7
                have c7b1 : ((rd l0 x5_1) != (rd l1 x5_1)) = false := bne_eq_false_iff_eq.mpr c7
                clear c7
                have H' := Aside0.mk H
                clear H
                have p101 : 0 ≤ (x5_1 : Int) := of_decide_eq_true (by first | (with_reducible assumption) | assumption)
                have q101 : x5_1 < (l0.length : Int) := of_decide_eq_true (by first | (with_reducible assumption) | assumption)
                obtain ⟨ad101, e101, hx101_0⟩ := Kd.at_int HR0.out x5_1 p101 q101
                cases e101
                replace p101 := eq_true p101
                replace q101 := eq_true q101
                have p102 : 0 ≤ (x5_1 : Int) := of_decide_eq_true (by first | (with_reducible assumption) | assumption)
                have q102 : x5_1 < (l1.length : Int) := of_decide_eq_true (by first | (with_reducible assumption) | assumption)
                obtain ⟨ad102, e102, hx102_0⟩ := Kd.at_int HR1.out x5_1 p102 q102
                cases e102
                replace p102 := eq_true p102
                replace q102 := eq_true q102
                go_wp2
                repeat (go_quiet (fail); try go_wp2)
                go_roundg k1
                case measure => have := HK1.out; omega
                case rel => exact ⟨(wrap64 (x5_1 + 1)), (by first | rfl | (simp; done) | (simp [*]; done)), H', ⟨by have := HK1.out; omega⟩, by repeat (first | exact Drawn0.refl _ | apply Drawn0.step)⟩
              · rw [if_neg c7] at H
                have c7b0 : ((rd l0 x5_1) == (rd l1 x5_1)) = false := beq_eq_false_iff_ne.mpr c7
                have c7b1 : ((rd l0 x5_1) != (rd l1 x5_1)) = true := bne_iff_ne.mpr c7
                obtain rfl := Option.some.inj H
                have p101 : 0 ≤ (x5_1 : Int) := of_decide_eq_true (by first | (with_reducible assumption) | assumption)
                have q101 : x5_1 < (l0.length : Int) := of_decide_eq_true (by first | (with_reducible assumption) | assumption)
                obtain ⟨ad101, e101, hx101_0⟩ := Kd.at_int HR0.out x5_1 p101 q101
                cases e101
                replace p101 := eq_true p101
                replace q101 := eq_true q101
                have p102 : 0 ≤ (x5_1 : Int) := of_decide_eq_true (by first | (with_reducible assumption) | assumption)
                have q102 : x5_1 < (l1.length : Int) := of_decide_eq_true (by first | (with_reducible assumption) | assumption)
                obtain ⟨ad102, e102, hx102_0⟩ := Kd.at_int HR1.out x5_1 p102 q102
                cases e102
                replace p102 := eq_true p102
                replace q102 := eq_true q102
                go_wp2
                repeat (go_quiet (fail); try go_wp2)
                go_ret
                exact ⟨by first | rfl | (simp; done) | (simp [*]; done), by repeat (first | exact Drawn0.refl _ | apply Drawn0.step)⟩
            · rw [if_neg c6] at H
              exact absurd H (by simp)
          · rw [if_neg c5] at H
            exact absurd H (by simp)
        · rw [if_neg c4] at H
          have c4b0 : decide (x5_1 < (l0.length : Int)) = false := decide_eq_false c4
          clear c4
          obtain rfl := Option.some.inj H
          go_wp2
          repeat (go_quiet (fail); try go_wp2)
          go_ret
          exact ⟨by first | rfl | (simp; done) | (simp [*]; done), by repeat (first | exact Drawn0.refl _ | apply Drawn0.step)⟩
  · rw [if_neg c3] at H
    have c3b0 : ((l0.length : Int) == (l1.length : Int)) = false := beq_eq_false_iff_ne.mpr c3
    have c3b1 : ((l0.length : Int) != (l1.length : Int)) = true := bne_iff_ne.mpr c3
    have c3b2 : (l0.length == l1.length) = false := by first | simpa using c3 | (simp at c3 ⊢; omega)
    obtain rfl := Option.some.inj H
    go_enter Try.func36, Try.ntmps36
    go_wp2
    repeat (go_quiet (fail); try go_wp2)
    go_ret
    exact ⟨by first | rfl | (simp; done) | (simp [*]; done), by repeat (first | exact Drawn0.refl _ | apply Drawn0.step)⟩
end Go.Proofs.Ytnmcoebjkfpmjaa.P
/-! Px55 -/
namespace Go.Proofs.Ytnmcoebjkfpmjaa.P
open Go.RowKit Go.Proofs.YtnmcoebjkfpmjaaW.PrintWords Go.Proofs.YtnmcoebjkfpmjaaW.PrintLast Go.Proofs.YtnmcoebjkfpmjaaW.PrintMore
attribute [local go_sem] max2_int min2_int max_two min_two max_three min_three max_four min_four   -- for this text's walks alone
set_option linter.unusedVariables false
set_option linter.unusedSimpArgs false
end Go.Proofs.Ytnmcoebjkfpmjaa.P
/-! Px39 -/
namespace Go.Proofs.Ytnmcoebjkfpmjaa.P
open Go.RowKit Go.Proofs.YtnmcoebjkfpmjaaW.PrintWords Go.Proofs.YtnmcoebjkfpmjaaW.PrintLast Go.Proofs.YtnmcoebjkfpmjaaW.PrintMore
attribute [local go_sem] max2_int min2_int max_two min_two max_three min_three max_four min_four   -- for this text's walks alone
set_option linter.unusedVariables false
set_option linter.unusedSimpArgs false
end Go.Proofs.Ytnmcoebjkfpmjaa.P
/-! Px34 -/
namespace Go.Proofs.Ytnmcoebjkfpmjaa.P
open Go.RowKit Go.Proofs.YtnmcoebjkfpmjaaW.PrintWords Go.Proofs.YtnmcoebjkfpmjaaW.PrintLast Go.Proofs.YtnmcoebjkfpmjaaW.PrintMore
attribute [local go_sem] max2_int min2_int max_two min_two max_three min_three max_four min_four   -- for this text's walks alone
set_option linter.unusedVariables false
set_option linter.unusedSimpArgs false
end Go.Proofs.Ytnmcoebjkfpmjaa.P
/-! LibE -/
namespace Go.Proofs.Ytnmcoebjkfpmjaa.Lib
set_option linter.unusedSimpArgs false
set_option linter.unusedVariables false
open Go.RowKit Go.Proofs.Ytnmcoebjkfpmjaa.P Go.Proofs.YtnmcoebjkfpmjaaW.PrintWords Go.Proofs.YtnmcoebjkfpmjaaW.PrintLast
theorem may_inB {t f : Int} {resp : Bool} {form kind ns nr : Int} {n : Nat} (h : mayB t f resp form kind ns nr n = true) : inB t f ns nr n ∧ formB t resp form kind ns nr n = true := by
  unfold mayB at h
  by_cases hi : inB t f ns nr n
  · rw [if_pos hi] at h; exact ⟨hi, h⟩
  · rw [if_neg hi] at h; cases h
theorem kindB_range {t : Int} {resp : Bool} {kind : Int} {n : Nat} (h : kindB t resp kind n = true) : 0 ≤ kind ∧ kind ≤ 9 := by
  unfold kindB at h
  repeat' split at h
  all_goals first | omega | (simp at h)
theorem may_cases {t f : Int} {resp : Bool} {form kind ns nr : Int} {n : Nat} (h : mayB t f resp form kind ns nr n = true) :
    inB t f ns nr n ∧ ((form = 0 ∧ kind = 0 ∧ t % 2 = 0) ∨ (form = 1 ∧ 0 ≤ kind ∧ kind ≤ 2 ∧ ns = 0 ∧ n = 0 ∧ t % 2 = 0) ∨ (form = 2 ∧ ns = 0 ∧ nr = 0 ∧ 0 ≤ kind ∧ kind ≤ 9 ∧ kindB t resp kind n = true)) := by
  obtain ⟨hi, hf⟩ := may_inB h
  refine ⟨hi, ?_⟩
  unfold formB at hf
  by_cases f0 : form = 0
  · rw [if_pos f0] at hf; simp at hf; exact .inl ⟨f0, hf.1, hf.2⟩
  rw [if_neg f0] at hf
  by_cases f1 : form = 1
  · rw [if_pos f1] at hf; simp at hf; exact .inr (.inl ⟨f1, hf.1.1, hf.1.2.1, hf.1.2.2.1, hf.1.2.2.2, hf.2⟩)
  rw [if_neg f1] at hf
  by_cases f2 : form = 2
  · rw [if_pos f2] at hf
    rw [Bool.and_eq_true] at hf
    have := of_decide_eq_true hf.1
    have hk := kindB_range hf.2
    exact .inr (.inr ⟨f2, this.1, this.2, hk.1, hk.2, hf.2⟩)
  · rw [if_neg f2] at hf; cases hf
section
variable (t f : Int) (resp : Bool) (form kind ns nr : Int) (poll : Bool) (info : List Int)
end
end Go.Proofs.Ytnmcoebjkfpmjaa.Lib
/-! Px32 -/
namespace Go.Proofs.Ytnmcoebjkfpmjaa.P
open Go.RowKit Go.Proofs.YtnmcoebjkfpmjaaW.PrintWords Go.Proofs.YtnmcoebjkfpmjaaW.PrintLast Go.Proofs.YtnmcoebjkfpmjaaW.PrintMore
attribute [local go_sem] max2_int min2_int max_two min_two max_three min_three max_four min_four   -- for this text's walks alone
set_option linter.unusedVariables false
set_option linter.unusedSimpArgs false
def pdu_Code.f (a0 : Int) : Option (Int) := (pdu_codes.f).bind fun t101 => (if a0 < 0 then (some 0) else (if a0 ≥ (t101.length : Int) then (some 0) else (if 0 ≤ a0 then (if a0 < (t101.length : Int) then (some (rd t101 a0)) else (none)) else (none))))
set_option maxHeartbeats 8000000 in
set_option maxRecDepth 100000 in
theorem pdu_Code.calls (a0 : Int) (r : Int) (w : World) (h : pdu_Code.f a0 = some r) :
    Calls Try.prog 31 #[.int .i64 a0] w fun e w' => e = .returned (.int .i64 r) ∧ Below w.heap.size w w' := by
  have HB := Aside0.mk (Below.refl w.heap.size w)
  have H : ((pdu_codes.f).bind fun t101 => (if a0 < 0 then (some 0) else (if a0 ≥ (t101.length : Int) then (some 0) else (if 0 ≤ a0 then (if a0 < (t101.length : Int) then (some (rd t101 a0)) else (none)) else (none))))) = some r := h
  clear h
  replace H := Option.bind_eq_some_iff.mp H
  obtain ⟨t101, A20, H⟩ := H
  replace H : (if a0 < 0 then (some 0) else (if a0 ≥ (t101.length : Int) then (some 0) else (if 0 ≤ a0 then (if a0 < (t101.length : Int) then (some (rd t101 a0)) else (none)) else (none)))) = some r := H
  have A2 := Aside0.mk A20
  clear A20
  by_cases c3 : a0 < 0
  · rw [if_pos c3] at H
    have c3b0 : decide (a0 < 0) = true := decide_eq_true c3
    clear c3
    obtain rfl := Option.some.inj H
    go_enter Try.func31, Try.ntmps31
    go_wp2_with (first | ((with_reducible refine gate_callee (f := 89) rfl ?_); refine goesL_ (some 4) rfl rfl Try.func89 (by kernel_rfl) rfl #[] rfl (by (try simp only [List.map_toArray, List.map_cons, List.map_nil]); first | done | rfl | (simp only [List.length_drop, List.length_take]; rfl)) ?_; (with_reducible refine (pdu_codes.calls  t101 _ A2.out).mono ?_); rintro e w4 ⟨v102, rfl, ho0, hb⟩; refine ⟨_, rfl, ?_⟩; have n0_ := Aside0.mk (Kd.R_lower ho0 (below_size (by repeat (first | (with_reducible first | exact HB.out | apply below_alloc | apply pw_below_drewN | apply below_drew1) | exact HB.out)))); have n1_ := Aside0.mk (below_step (by repeat (first | (with_reducible first | exact HB.out | apply below_alloc | apply pw_below_drewN | apply below_drew1) | exact HB.out)) hb); clear HB; have HO103 := n0_; have HB := n1_; clear n0_ n1_; (try clear hb); (try clear hb2); (try clear hk); (try clear hi); (try clear ho0)))
    go_ret
    exact ⟨by first | rfl | (simp [errW_none, errW_some] <;> rfl) | (simp [*, errW_none, errW_some] <;> rfl), by repeat (first | (with_reducible first | exact HB.out | apply below_alloc | apply pw_below_drewN | apply below_drew1) | exact HB.out)⟩
  · rw [if_neg c3] at H
    have c3b0 : decide (a0 < 0) = false := decide_eq_false c3
    clear c3
    by_cases c5 : a0 ≥ (t101.length : Int)
    · rw [if_pos c5] at H
      have c5b0 : decide ((t101.length : Int) ≤ a0) = true := decide_eq_true c5
      clear c5
      obtain rfl := Option.some.inj H
      go_enter Try.func31, Try.ntmps31
      go_wp2_with (first | ((with_reducible refine gate_callee (f := 89) rfl ?_); refine goesL_ (some 4) rfl rfl Try.func89 (by kernel_rfl) rfl #[] rfl (by (try simp only [List.map_toArray, List.map_cons, List.map_nil]); first | done | rfl | (simp only [List.length_drop, List.length_take]; rfl)) ?_; (with_reducible refine (pdu_codes.calls  t101 _ A2.out).mono ?_); rintro e w6 ⟨v102, rfl, ho0, hb⟩; refine ⟨_, rfl, ?_⟩; have n0_ := Aside0.mk (Kd.R_lower ho0 (below_size (by repeat (first | (with_reducible first | exact HB.out | apply below_alloc | apply pw_below_drewN | apply below_drew1) | exact HB.out)))); have n1_ := Aside0.mk (below_step (by repeat (first | (with_reducible first | exact HB.out | apply below_alloc | apply pw_below_drewN | apply below_drew1) | exact HB.out)) hb); clear HB; have HO103 := n0_; have HB := n1_; clear n0_ n1_; (try clear hb); (try clear hb2); (try clear hk); (try clear hi); (try clear ho0); obtain ⟨Ao7, co7, eo7⟩ := Kd.R_slice HO103.out; subst eo7))
      go_ret
      exact ⟨by first | rfl | (simp [errW_none, errW_some] <;> rfl) | (simp [*, errW_none, errW_some] <;> rfl), by repeat (first | (with_reducible first | exact HB.out | apply below_alloc | apply pw_below_drewN | apply below_drew1) | exact HB.out)⟩
    · rw [if_neg c5] at H
      have c5b0 : decide ((t101.length : Int) ≤ a0) = false := decide_eq_false c5
      clear c5
      by_cases c8 : 0 ≤ a0
      · rw [if_pos c8] at H
        have c8b0 : decide (0 ≤ a0) = true := decide_eq_true c8
        clear c8
        by_cases c9 : a0 < (t101.length : Int)
        · rw [if_pos c9] at H
          have c9b0 : decide (a0 < (t101.length : Int)) = true := decide_eq_true c9
          clear c9
          obtain rfl := Option.some.inj H
          go_enter Try.func31, Try.ntmps31
          go_wp2_with (first | ((with_reducible refine gate_callee (f := 89) rfl ?_); refine goesL_ (some 4) rfl rfl Try.func89 (by kernel_rfl) rfl #[] rfl (by (try simp only [List.map_toArray, List.map_cons, List.map_nil]); first | done | rfl | (simp only [List.length_drop, List.length_take]; rfl)) ?_; (with_reducible refine (pdu_codes.calls  t101 _ A2.out).mono ?_); rintro e w10 ⟨v102, rfl, ho0, hb⟩; refine ⟨_, rfl, ?_⟩; have n0_ := Aside0.mk (Kd.R_lower ho0 (below_size (by repeat (first | (with_reducible first | exact HB.out | apply below_alloc | apply pw_below_drewN | apply below_drew1) | exact HB.out)))); have n1_ := Aside0.mk (below_step (by repeat (first | (with_reducible first | exact HB.out | apply below_alloc | apply pw_below_drewN | apply below_drew1) | exact HB.out)) hb); clear HB; have HO103 := n0_; have HB := n1_; clear n0_ n1_; (try clear hb); (try clear hb2); (try clear hk); (try clear hi); (try clear ho0); obtain ⟨Ao11, co11, eo11⟩ := Kd.R_slice HO103.out; subst eo11; have p104 : 0 ≤ (a0 : Int) := of_decide_eq_true (by first | (with_reducible assumption) | assumption); have q104 : a0 < (t101.length : Int) := of_decide_eq_true (by first | (with_reducible assumption) | assumption); obtain ⟨ad104, e104, hx104_0⟩ := Kd.at_int (Kd.R_reads' HO103.out).2.2 a0 p104 q104; cases e104; replace p104 := eq_true p104; replace q104 := eq_true q104))
          go_ret
          exact ⟨by first | rfl | (simp [errW_none, errW_some] <;> rfl) | (simp [*, errW_none, errW_some] <;> rfl), by repeat (first | (with_reducible first | exact HB.out | apply below_alloc | apply pw_below_drewN | apply below_drew1) | exact HB.out)⟩
        · rw [if_neg c9] at H
          exact absurd H (by simp)
      · rw [if_neg c8] at H
        exact absurd H (by simp)
end Go.Proofs.Ytnmcoebjkfpmjaa.P
/-! Px92 -/
namespace Go.Proofs.Ytnmcoebjkfpmjaa.P
open Go.RowKit Go.Proofs.YtnmcoebjkfpmjaaW.PrintWords Go.Proofs.YtnmcoebjkfpmjaaW.PrintLast Go.Proofs.YtnmcoebjkfpmjaaW.PrintMore
attribute [local go_sem] max2_int min2_int max_two min_two max_three min_three max_four min_four   -- for this text's walks alone
set_option linter.unusedVariables false
set_option linter.unusedSimpArgs false
def pdu_one.f (a0 : Bool) : Option (Int) := if a0 = true then (some 1) else (some 0)
set_option maxHeartbeats 8000000 in
set_option maxRecDepth 100000 in
theorem pdu_one.calls (a0 : Bool) (r : Int) (w : World) (h : pdu_one.f a0 = some r) :
    Calls Try.prog 91 #[.bool a0] w fun e w' => e = .returned (.int .i64 r) ∧ Drawn0 w w' := by
  have H : (if a0 = true then (some 1) else (some 0)) = some r := h
  clear h
  by_cases c2 : a0 = true
  · subst c2
    have H1 : (some 1) = some r := by rw [if_pos rfl] at H; exact H
    clear H
    have H := H1
    clear H1
    obtain rfl := Option.some.inj H
    go_enter Try.func91, Try.ntmps91
    go_wp2
    go_ret
    exact ⟨by first | rfl | (simp; done) | (simp [*]; done), by repeat (first | exact Drawn0.refl _ | apply Drawn0.step)⟩
  · replace c2 := Bool.eq_false_iff.mpr c2
    subst c2
    have H1 : (some 0) = some r := by rw [if_neg (show ¬ (false = true) by decide)] at H; exact H
    clear H
    have H := H1
    clear H1
    obtain rfl := Option.some.inj H
    go_enter Try.func91, Try.ntmps91
    go_wp2
    go_ret
    exact ⟨by first | rfl | (simp; done) | (simp [*]; done), by repeat (first | exact Drawn0.refl _ | apply Drawn0.step)⟩
end Go.Proofs.Ytnmcoebjkfpmjaa.P
