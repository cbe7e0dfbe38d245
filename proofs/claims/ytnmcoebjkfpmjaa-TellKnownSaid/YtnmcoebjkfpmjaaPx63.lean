-- Laid by a program of this session (wip/print2).
import Derived.Test.YtnmcoebjkfpmjaaPx0
import Derived.Test.YtnmcoebjkfpmjaaPx35
import Derived.Test.YtnmcoebjkfpmjaaPx110
import Derived.Deep.RegionWith
import Derived.RegionCalls
namespace Go.Proofs.Ytnmcoebjkfpmjaa.P
open Go.RowKit Go.Proofs.YtnmcoebjkfpmjaaW.PrintWords Go.Proofs.YtnmcoebjkfpmjaaW.PrintLast Go.Proofs.YtnmcoebjkfpmjaaW.PrintMore
attribute [local go_sem] max2_int min2_int max_two min_two max_three min_three max_four min_four   -- for this text's walks alone
set_option linter.unusedVariables false
set_option linter.unusedSimpArgs false

/-! ### tell_Type: function 62 -/
-- IMPORT Derived.RegionCalls
-- IMPORT Derived.Deep.RegionWith
def tell_Type.f (k : Nat) (a0_0 : Int) (a0_1 : Int) (a0_2 : Bool) (a0_3 : Int) (a0_4 : Int) (a0_5 : Int) (a0_6 : Int) (a0_7 : Bool) (l0_8 : List Int) : Option (Int) := (pdu_May.f k a0_0 a0_1 a0_2 a0_3 a0_4 a0_5 a0_6 a0_7 l0_8).bind fun t413 => (if t413 = true then (if a0_3 = 2 then ((tell_types.f).bind fun t414 => (if 0 ≤ a0_4 then (if a0_4 < (t414.length : Int) then (some (rd t414 a0_4)) else (none)) else (none))) else (some 2)) else (some 0))
theorem tell_Type.mono : ∀ a0 a1 a2 a3 a4 a5 a6 a7 a8 k, LeO (tell_Type.f k a0 a1 a2 a3 a4 a5 a6 a7 a8) (tell_Type.f (k + 1) a0 a1 a2 a3 a4 a5 a6 a7 a8) := by
  intro a0 a1 a2 a3 a4 a5 a6 a7 a8 k
  unfold tell_Type.f
  repeat' first
      | (with_reducible exact pdu_May.mono _ _ _ _ _ _ _ _ _ _)
      | (with_reducible exact LeO.refl _)
      | (with_reducible exact LeO.none _)
      | (with_reducible refine LeO.ite ?_ ?_)
      | (with_reducible refine LeO.bind ?_ (fun _ => ?_))
      | exact pdu_May.mono _ _ _ _ _ _ _ _ _ _
      | exact LeO.none _
      | refine LeO.ite ?_ ?_
      | refine LeO.bind ?_ (fun _ => ?_)

set_option maxHeartbeats 400000 in
theorem tell_Type.calls (k : Nat) (a0_0 : Int) (a0_1 : Int) (a0_2 : Bool) (a0_3 : Int) (a0_4 : Int) (a0_5 : Int) (a0_6 : Int) (a0_7 : Bool) (A0_8 : Option Addr) (c0_8 : Nat) (l0_8 : List Int) (r : Int) (w : World) (hr0_8 : Kd.C (Kd.int .u8) w A0_8 l0_8.length l0_8) (hc0_8 : l0_8.length ≤ c0_8) (h : tell_Type.f k a0_0 a0_1 a0_2 a0_3 a0_4 a0_5 a0_6 a0_7 l0_8 = some r) :
    Calls Try.prog 62 #[.agg #[.int .i64 a0_0, .int .i64 a0_1, .bool a0_2, .int .i64 a0_3, .int .i64 a0_4, .int .i64 a0_5, .int .i64 a0_6, .bool a0_7, .slice A0_8 l0_8.length c0_8]] w fun e w' => e = .returned (.int .i64 r) ∧ Below w.heap.size w w' := by
  have hu25 := Try.underlying25
  unfold tell_Type.f at h
  obtain ⟨t, hM, h⟩ := Option.bind_eq_some_iff.mp h
  have HM := Aside0.mk hM
  have HR := Aside0.mk hr0_8
  have HC := Aside0.mk hc0_8
  clear hM hr0_8 hc0_8
  cases t with
  | false =>
    obtain rfl : 0 = r := by simpa using h
    clear h
    go_enter Try.func62, Try.ntmps62
    go_wp2_with (go_at_call 34; refine (pdu_May.calls k a0_0 a0_1 a0_2 a0_3 a0_4 a0_5 a0_6 a0_7 A0_8 c0_8 l0_8 false _ (Kd.C_below HR.out ?_) HC.out HM.out).mono ?_; exact below_alloc (Below.refl _ _) _; rintro e w1 ⟨rfl, hB⟩; have HB := Aside0.mk hB; clear hB)
    go_ret
    exact ⟨rfl, below_then (below_alloc (Below.refl _ _) _) (by simp) HB.out⟩
  | true =>
    simp only [if_true] at h
    by_cases c3 : a0_3 = 2
    · rw [if_pos c3] at h
      obtain ⟨ts, hT, h⟩ := Option.bind_eq_some_iff.mp h
      have h4 : 0 ≤ a0_4 ∧ a0_4 < (ts.length : Int) ∧ rd ts a0_4 = r := by
        by_cases c4 : 0 ≤ a0_4
        · by_cases c5 : a0_4 < (ts.length : Int)
          · rw [if_pos c4, if_pos c5] at h
            exact ⟨c4, c5, Option.some.inj h⟩
          · rw [if_pos c4, if_neg c5] at h; cases h
        · rw [if_neg c4] at h; cases h
      obtain ⟨h5, h6, rfl⟩ := h4
      subst c3
      have HT := Aside0.mk hT
      have H56 := Aside0.mk (And.intro h5 h6)
      clear h hT
      go_enter Try.func62, Try.ntmps62
      go_wp2_with (go_at_call 34; refine (pdu_May.calls k a0_0 a0_1 a0_2 2 a0_4 a0_5 a0_6 a0_7 A0_8 c0_8 l0_8 true _ (Kd.C_below HR.out ?_) HC.out HM.out).mono ?_; exact below_alloc (Below.refl _ _) _; rintro e w1 ⟨rfl, hB⟩; have HB := Aside0.mk hB; have hbk := blk_below (blk_new w (.cells #[.int .i64 a0_0, .int .i64 a0_1, .bool a0_2, .int .i64 2, .int .i64 a0_4, .int .i64 a0_5, .int .i64 a0_6, .bool a0_7, .slice A0_8 l0_8.length c0_8] 25)) hB; have h3 : w1.cell? ⟨w.heap.size, 3, none⟩ = some (.int .i64 2) := (blk_cell hbk 3).trans rfl; have h4 : w1.cell? ⟨w.heap.size, 4, none⟩ = some (.int .i64 a0_4) := (blk_cell hbk 4).trans rfl; have HBK := Aside0.mk hbk; clear hB hbk)
      go_region_with (go_at_call 109; go_loud (refine (tell_types.calls _ _ HT.out).mono ?_; rintro e w2 ⟨v, rfl, hR2, hB2⟩; obtain ⟨A, c, rfl, hc2, hC2⟩ := Kd.R_reads hR2; obtain ⟨ad, rfl, hcell⟩ := Kd.at_int hC2 a0_4 H56.out.1 H56.out.2; have h42 : w2.cell? ⟨w.heap.size, 4, none⟩ = some (.int .i64 a0_4) := (blk_cell (blk_below (blk_drew HBK.out) hB2) 4).trans rfl; have HB2 := Aside0.mk hB2; clear hR2 hB2 hc2 hC2))
      all_goals
        go_wp2
        go_ret
        exact ⟨rfl, below_then (below_then (below_alloc (Below.refl _ _) _) (by simp) HB.out) (by have := HB.out.size; simp at this; omega) (below_then (Below.drew (Below.refl _ _)) (Nat.le_refl _) HB2.out)⟩
    · rw [if_neg c3] at h
      obtain rfl : 2 = r := by simpa using h
      have c3' : (a0_3 == 2) = false := beq_eq_false_iff_ne.mpr c3
      clear h c3
      go_enter Try.func62, Try.ntmps62
      go_wp2_with (go_at_call 34; refine (pdu_May.calls k a0_0 a0_1 a0_2 a0_3 a0_4 a0_5 a0_6 a0_7 A0_8 c0_8 l0_8 true _ (Kd.C_below HR.out ?_) HC.out HM.out).mono ?_; exact below_alloc (Below.refl _ _) _; rintro e w1 ⟨rfl, hB⟩; have HB := Aside0.mk hB; have hbk := blk_below (blk_new w (.cells #[.int .i64 a0_0, .int .i64 a0_1, .bool a0_2, .int .i64 a0_3, .int .i64 a0_4, .int .i64 a0_5, .int .i64 a0_6, .bool a0_7, .slice A0_8 l0_8.length c0_8] 25)) hB; have h3 : w1.cell? ⟨w.heap.size, 3, none⟩ = some (.int .i64 a0_3) := (blk_cell hbk 3).trans rfl; clear hB hbk)
      go_ret
      exact ⟨rfl, below_then (below_alloc (Below.refl _ _) _) (by simp) HB.out⟩

end Go.Proofs.Ytnmcoebjkfpmjaa.P
