-- Laid by a program of this session (wip/print2).
import Derived.Test.YtnmcoebjkfpmjaaPx0
import Derived.Test.YtnmcoebjkfpmjaaPx87
import Derived.Test.YtnmcoebjkfpmjaaPx88
import Derived.Test.YtnmcoebjkfpmjaaPx100
import Derived.Test.YtnmcoebjkfpmjaaPx102
import Derived.LoopN
namespace Go.Proofs.Ytnmcoebjkfpmjaa.P
open Go.RowKit Go.Proofs.YtnmcoebjkfpmjaaW.PrintWords Go.Proofs.YtnmcoebjkfpmjaaW.PrintLast Go.Proofs.YtnmcoebjkfpmjaaW.PrintMore
attribute [local go_sem] max2_int min2_int max_two min_two max_three min_three max_four min_four   -- for this text's walks alone
set_option linter.unusedVariables false
set_option linter.unusedSimpArgs false

/-! ### field_GetReason: function 42 -/
-- IMPORT Derived.LoopN
def field_GetReason.f (k : Nat) (l0 : List Int) : Option (Int × Int × Int × Bool × Bool × Bool × Bool × Bool × Bool × Int) :=
  if (l0.length : Int) < 5 then some (0, 0, 0, false, false, false, false, false, false, 2) else if (l0.length : Int) > 5 then some (0, 0, 0, false, false, false, false, false, false, 3) else
    (octet_Get.f k (l0.take 2)).bind fun t1 => (octet_Get.f k ((l0.drop 2).take 1)).bind fun t2 => (octet_Get.f k ((l0.drop 3).take 1)).bind fun t3 => (octet_Get.f k ((l0.drop 4).take 1)).bind fun t4 =>
      if Go.bits .and .i64 t2 1 = 0 then if t4 > 31 then some (0, 0, 0, false, false, false, false, false, false, 4) else
        some (t1, t2 / 2, t3 / 2, (Go.bits .and .i64 t3 1 == 1), (Go.bits .and .i64 t4 1 == 1), (Go.bits .and .i64 (t4 / 2) 1 == 1), (Go.bits .and .i64 (t4 / 4) 1 == 1), (Go.bits .and .i64 (t4 / 8) 1 == 1), (Go.bits .and .i64 (t4 / 16) 1 == 1), 0)
      else some (0, 0, 0, false, false, false, false, false, false, 4)
theorem field_GetReason.mono : ∀ a0 k, LeO (field_GetReason.f k a0) (field_GetReason.f (k + 1) a0) := by
  intro a0 k
  unfold field_GetReason.f
  repeat' first
      | (with_reducible exact octet_Get.mono _ _)
      | (with_reducible exact LeO.refl _)
      | (with_reducible exact LeO.none _)
      | (with_reducible refine LeO.ite ?_ ?_)
      | (with_reducible refine LeO.bind ?_ (fun _ => ?_))

set_option maxHeartbeats 2000000 in
theorem field_GetReason.calls (k : Nat) (A0 : Option Addr) (c0 : Nat) (l0 : List Int) (r1 r2 r3 : Int) (r4 r5 r6 r7 r8 r9 : Bool) (r10 : Int) (w : World) (hr0 : Kd.C (Kd.int .u8) w A0 l0.length l0) (hc0 : l0.length ≤ c0) (h : field_GetReason.f k l0 = some (r1, r2, r3, r4, r5, r6, r7, r8, r9, r10)) :
    Calls Try.prog 42 #[.slice A0 l0.length c0] w fun e w' => e = .returned (.tuple #[.agg #[.int .i64 r1, .int .i64 r2, .int .i64 r3, .bool r4, .bool r5, .bool r6, .bool r7, .bool r8, .bool r9], .int .i64 r10]) ∧ Below w.heap.size w w' := by
  unfold field_GetReason.f at h
  have hu := Try.underlying48
  by_cases h1 : (l0.length : Int) = 5
  · rw [if_neg (by omega), if_neg (by omega)] at h
    obtain ⟨t1, e1, h⟩ := Option.bind_eq_some_iff.mp h
    obtain ⟨t2, e2, h⟩ := Option.bind_eq_some_iff.mp h
    obtain ⟨t3, e3, h⟩ := Option.bind_eq_some_iff.mp h
    obtain ⟨t4, e4, h⟩ := Option.bind_eq_some_iff.mp h
    have E1 := Aside0.mk e1
    have E2 := Aside0.mk e2
    have E3 := Aside0.mk e3
    have E4 := Aside0.mk e4
    have H := Aside0.mk h
    have HR := Aside0.mk hr0
    have HC := Aside0.mk hc0
    have H1 := Aside0.mk h1
    have HL := Aside0.mk (show l0.length < 140737488355328 by omega)
    have HD1 := Aside0.mk (show (l0.drop 2).length = 3 by rw [List.length_drop]; omega)
    have HD2 := Aside0.mk (show (l0.drop 3).length = 2 by rw [List.length_drop]; omega)
    have HD3 := Aside0.mk (show (l0.drop 4).length = 1 by rw [List.length_drop]; omega)
    clear e1 e2 e3 e4 h hr0 hc0 h1
    go_enter Try.func42, Try.ntmps42
    go_wp2_with fail
    refine (field_sized.yes _ _ l0 5 _ (Kd.C_below HR.out ?_) HC.out HL.out H1.out).mono ?_
    · exact below_alloc (Below.refl _ _) _
    rintro e w2 ⟨g, w1, rfl, hB, hB1, hI⟩
    have HB := Aside0.mk hB
    have HB1 := Aside0.mk hB1
    have HI := Aside0.mk hI
    have HG := Aside0.mk hI.ge
    clear hB hB1 hI
    go_wp2_with fail
    refine (octet_Reader_Num.yes k w1 _ g l0 2 t1 HI.out HB1.out (by omega) (by omega) (by have := H1.out; omega) HL.out E1.out).mono ?_
    rintro e w3 ⟨rfl, hI, hg⟩
    have HI3 := Aside0.mk (show IsRd w1 w3 g (l0.drop 2) false from hI)
    have HB3 := Aside0.mk (below_rd HB1.out hg HG.out)
    clear hI hg
    go_wp2_with fail
    refine (octet_Reader_Num.yes k w1 _ g (l0.drop 2) 1 t2 HI3.out HB3.out (by omega) (by omega) (by have := HD1.out; omega) (by have := HD1.out; omega) E2.out).mono ?_
    rintro e w4 ⟨rfl, hI, hg⟩
    have hI : IsRd w1 w4 g ((l0.drop 2).drop 1) false := hI
    rw [List.drop_drop] at hI
    have HI4 := Aside0.mk (show IsRd w1 w4 g (l0.drop 3) false from hI)
    have HB4 := Aside0.mk (below_rd HB3.out hg HG.out)
    clear hI hg
    go_wp2_with fail
    refine (octet_Reader_Num.yes k w1 _ g (l0.drop 3) 1 t3 HI4.out HB4.out (by omega) (by omega) (by have := HD2.out; omega) (by have := HD2.out; omega) E3.out).mono ?_
    rintro e w5 ⟨rfl, hI, hg⟩
    have hI : IsRd w1 w5 g ((l0.drop 3).drop 1) false := hI
    rw [List.drop_drop] at hI
    have HI5 := Aside0.mk (show IsRd w1 w5 g (l0.drop 4) false from hI)
    have HB5 := Aside0.mk (below_rd HB4.out hg HG.out)
    clear hI hg
    go_wp2_with fail
    refine (octet_Reader_Num.yes k w1 _ g (l0.drop 4) 1 t4 HI5.out HB5.out (by omega) (by omega) (by have := HD3.out; omega) (by have := HD3.out; omega) E4.out).mono ?_
    rintro e w6 ⟨rfl, hI, hg⟩
    have HB6 := Aside0.mk (below_rd HB5.out hg HG.out)
    clear hI hg
    have hbk := blk_below (blk_below (blk_new w (.cells #[.int .i64 0, .int .i64 0, .int .i64 0, .bool false, .bool false, .bool false, .bool false, .bool false, .bool false] 48)) HB.out) HB6.out
    have HBK := Aside0.mk hbk
    have q0 : w6.cell? ⟨w.heap.size, 0, none⟩ = some (.int .i64 0) := (blk_cell hbk 0).trans rfl
    have q1 : w6.cell? ⟨w.heap.size, 1, none⟩ = some (.int .i64 0) := (blk_cell hbk 1).trans rfl
    have q2 : w6.cell? ⟨w.heap.size, 2, none⟩ = some (.int .i64 0) := (blk_cell hbk 2).trans rfl
    have q3 : w6.cell? ⟨w.heap.size, 3, none⟩ = some (.bool false) := (blk_cell hbk 3).trans rfl
    have q4 : w6.cell? ⟨w.heap.size, 4, none⟩ = some (.bool false) := (blk_cell hbk 4).trans rfl
    have q5 : w6.cell? ⟨w.heap.size, 5, none⟩ = some (.bool false) := (blk_cell hbk 5).trans rfl
    have q6 : w6.cell? ⟨w.heap.size, 6, none⟩ = some (.bool false) := (blk_cell hbk 6).trans rfl
    have q7 : w6.cell? ⟨w.heap.size, 7, none⟩ = some (.bool false) := (blk_cell hbk 7).trans rfl
    have q8 : w6.cell? ⟨w.heap.size, 8, none⟩ = some (.bool false) := (blk_cell hbk 8).trans rfl
    have f0 : w6.frozen? ⟨w.heap.size, 0, none⟩ = false := blk_frozen hbk 0
    have f1 : w6.frozen? ⟨w.heap.size, 1, none⟩ = false := blk_frozen hbk 1
    have f2 : w6.frozen? ⟨w.heap.size, 2, none⟩ = false := blk_frozen hbk 2
    have f3 : w6.frozen? ⟨w.heap.size, 3, none⟩ = false := blk_frozen hbk 3
    have f4 : w6.frozen? ⟨w.heap.size, 4, none⟩ = false := blk_frozen hbk 4
    have f5 : w6.frozen? ⟨w.heap.size, 5, none⟩ = false := blk_frozen hbk 5
    have f6 : w6.frozen? ⟨w.heap.size, 6, none⟩ = false := blk_frozen hbk 6
    have f7 : w6.frozen? ⟨w.heap.size, 7, none⟩ = false := blk_frozen hbk 7
    have f8 : w6.frozen? ⟨w.heap.size, 8, none⟩ = false := blk_frozen hbk 8
    have hbel : Below w.heap.size w w6 := below_then (below_then (below_alloc (Below.refl _ _) _) (by simp) HB.out) (by have := HB.out.size; simp at this; omega) HB6.out
    have HBEL := Aside0.mk hbel
    have h := H.out
    have hlt : w.heap.size < w6.heap.size := blk_lt hbk
    clear hbk hbel H
    by_cases c1 : Go.bits .and .i64 t2 1 = 0
    · rw [if_pos c1] at h
      have c1' : (Go.bits .and .i64 t2 1 != 0) = false := bne_eq_false_iff_eq.mpr c1
      clear c1
      by_cases c2 : t4 > 31
      · rw [if_pos c2] at h
        simp only [Option.some.injEq, Prod.mk.injEq] at h
        obtain ⟨rfl, rfl, rfl, rfl, rfl, rfl, rfl, rfl, rfl, rfl⟩ := h
        have c2' : decide (31 < t4) = true := decide_eq_true c2
        clear c2
        go_wp2
        exact bodyPost_ret (v := .tuple #[.agg #[.int .i64 0, .int .i64 0, .int .i64 0, .bool false, .bool false, .bool false, .bool false, .bool false, .bool false], .int .i64 4]) (by simp [results, Try.results42, go_sem, hu, q0, q1, q2, q3, q4, q5, q6, q7, q8, f0, f1, f2, f3, f4, f5, f6, f7, f8]) rfl ⟨rfl, by (repeat (with_reducible refine below_set ?_ (Nat.le_refl _))); exact HBEL.out⟩
      · rw [if_neg c2] at h
        simp only [Option.some.injEq, Prod.mk.injEq] at h
        obtain ⟨rfl, rfl, rfl, rfl, rfl, rfl, rfl, rfl, rfl, rfl⟩ := h
        have c2' : decide (31 < t4) = false := decide_eq_false c2
        clear c2
        clear HB HB1 HI HG HI3 HB3 HI4 HB4 HI5 HB5 HB6 HBK hI
        go_wp2
        refine wp_loop_rounds 6 ?_
        rw [rounds_succ]
        go_wp2
        rw [rounds_succ]
        go_wp2
        rw [rounds_succ]
        go_wp2
        rw [rounds_succ]
        go_wp2
        rw [rounds_succ]
        go_wp2
        rw [rounds_succ]
        go_wp2
        refine bodyPost_ret (v := .tuple #[.agg #[.int .i64 t1, .int .i64 (t2 / 2), .int .i64 (t3 / 2), .bool (Go.bits .and .i64 t3 1 == 1), .bool (Go.bits .and .i64 t4 1 == 1), .bool (Go.bits .and .i64 (t4 / 2) 1 == 1), .bool (Go.bits .and .i64 (t4 / 4) 1 == 1), .bool (Go.bits .and .i64 (t4 / 8) 1 == 1), .bool (Go.bits .and .i64 (t4 / 16) 1 == 1)], .int .i64 0]) (by simp [results, Try.results42, go_sem, hu, hlt, q0, q1, q2, q3, q4, q5, q6, q7, q8, f0, f1, f2, f3, f4, f5, f6, f7, f8]) rfl ⟨rfl, ?_⟩
        refine below_alloc (below_alloc ?_ _) _
        repeat (with_reducible refine below_set ?_ (Nat.le_refl _))
        exact HBEL.out
    · rw [if_neg c1] at h
      simp only [Option.some.injEq, Prod.mk.injEq] at h
      obtain ⟨rfl, rfl, rfl, rfl, rfl, rfl, rfl, rfl, rfl, rfl⟩ := h
      have c1' : (Go.bits .and .i64 t2 1 != 0) = true := bne_iff_ne.mpr c1
      clear c1
      go_wp2
      exact bodyPost_ret (v := .tuple #[.agg #[.int .i64 0, .int .i64 0, .int .i64 0, .bool false, .bool false, .bool false, .bool false, .bool false, .bool false], .int .i64 4]) (by simp [results, Try.results42, go_sem, hu, q0, q1, q2, q3, q4, q5, q6, q7, q8, f0, f1, f2, f3, f4, f5, f6, f7, f8]) rfl ⟨rfl, by (repeat (with_reducible refine below_set ?_ (Nat.le_refl _))); exact HBEL.out⟩
  · have hc : ∃ e : Int, ((l0.length : Int) < 5 ∧ e = 2 ∨ (l0.length : Int) > 5 ∧ e = 3) ∧ r1 = 0 ∧ r2 = 0 ∧ r3 = 0 ∧ r4 = false ∧ r5 = false ∧ r6 = false ∧ r7 = false ∧ r8 = false ∧ r9 = false ∧ r10 = e ∧ (e != 0) = true := by
      by_cases h2 : (l0.length : Int) < 5
      · rw [if_pos h2] at h
        simp only [Option.some.injEq, Prod.mk.injEq] at h
        obtain ⟨rfl, rfl, rfl, rfl, rfl, rfl, rfl, rfl, rfl, rfl⟩ := h
        exact ⟨2, .inl ⟨h2, rfl⟩, rfl, rfl, rfl, rfl, rfl, rfl, rfl, rfl, rfl, rfl, rfl⟩
      · rw [if_neg h2, if_pos (by omega)] at h
        simp only [Option.some.injEq, Prod.mk.injEq] at h
        obtain ⟨rfl, rfl, rfl, rfl, rfl, rfl, rfl, rfl, rfl, rfl⟩ := h
        exact ⟨3, .inr ⟨by omega, rfl⟩, rfl, rfl, rfl, rfl, rfl, rfl, rfl, rfl, rfl, rfl, rfl⟩
    obtain ⟨e, he, rfl, rfl, rfl, rfl, rfl, rfl, rfl, rfl, rfl, rfl, hne⟩ := hc
    have HE := Aside0.mk he
    clear h he h1
    go_enter Try.func42, Try.ntmps42
    go_wp2_with (go_at_call 99; refine (field_sized.no _ _ l0 5 r10 _ HE.out).mono ?_; rintro e' w' ⟨rfl, rfl⟩)
    exact bodyPost_ret (v := .tuple #[.agg #[.int .i64 0, .int .i64 0, .int .i64 0, .bool false, .bool false, .bool false, .bool false, .bool false, .bool false], .int .i64 r10]) (by simp [results, Try.results42, go_sem, hu]) rfl ⟨rfl, below_alloc (Below.refl _ _) _⟩

end Go.Proofs.Ytnmcoebjkfpmjaa.P
