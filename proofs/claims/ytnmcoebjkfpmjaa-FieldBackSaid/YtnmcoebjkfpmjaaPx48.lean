-- Laid by a program of this session (wip/print2).
import Derived.Test.YtnmcoebjkfpmjaaPx0
import Derived.Test.YtnmcoebjkfpmjaaPx87
import Derived.Test.YtnmcoebjkfpmjaaPx88
import Derived.Test.YtnmcoebjkfpmjaaPx100
import Derived.Test.YtnmcoebjkfpmjaaPx102
namespace Go.Proofs.Ytnmcoebjkfpmjaa.P
open Go.RowKit Go.Proofs.YtnmcoebjkfpmjaaW.PrintWords Go.Proofs.YtnmcoebjkfpmjaaW.PrintLast Go.Proofs.YtnmcoebjkfpmjaaW.PrintMore
attribute [local go_sem] max2_int min2_int max_two min_two max_three min_three max_four min_four   -- for this text's walks alone
set_option linter.unusedVariables false
set_option linter.unusedSimpArgs false

/-! ### field_GetClass: function 47 -/
def field_GetClass.f (k : Nat) (l0 : List Int) : Option (Int × Int × Int × Int) :=
  if (l0.length : Int) < 3 then some (0, 0, 0, 2) else if (l0.length : Int) > 3 then some (0, 0, 0, 3) else
    (octet_Get.f k (l0.take 1)).bind fun t1 => (octet_Get.f k ((l0.drop 1).take 1)).bind fun t2 => (octet_Get.f k ((l0.drop 2).take 1)).bind fun t3 =>
      if t2 > 31 then some (0, 0, 0, 4) else if Go.bits .and .i64 t3 1 = 0 then some (t1, t2, t3 / 2, 0) else some (0, 0, 0, 4)

theorem field_GetClass.mono : ∀ a0 k, LeO (field_GetClass.f k a0) (field_GetClass.f (k + 1) a0) := by
  intro a0 k
  unfold field_GetClass.f
  repeat' first
      | (with_reducible exact octet_Get.mono _ _)
      | (with_reducible exact LeO.refl _)
      | (with_reducible exact LeO.none _)
      | (with_reducible refine LeO.ite ?_ ?_)
      | (with_reducible refine LeO.bind ?_ (fun _ => ?_))
set_option maxHeartbeats 1000000 in
theorem field_GetClass.calls (k : Nat) (A0 : Option Addr) (c0 : Nat) (l0 : List Int) (r1 r2 r3 r4 : Int) (w : World) (hr0 : Kd.C (Kd.int .u8) w A0 l0.length l0) (hc0 : l0.length ≤ c0) (h : field_GetClass.f k l0 = some (r1, r2, r3, r4)) :
    Calls Try.prog 47 #[.slice A0 l0.length c0] w fun e w' => e = .returned (.tuple #[.agg #[.int .i64 r1, .int .i64 r2, .int .i64 r3], .int .i64 r4]) ∧ Below w.heap.size w w' := by
  unfold field_GetClass.f at h
  have hu := Try.underlying46
  by_cases h1 : (l0.length : Int) = 3
  · rw [if_neg (by omega), if_neg (by omega)] at h
    obtain ⟨t1, e1, h⟩ := Option.bind_eq_some_iff.mp h
    obtain ⟨t2, e2, h⟩ := Option.bind_eq_some_iff.mp h
    obtain ⟨t3, e3, h⟩ := Option.bind_eq_some_iff.mp h
    have E1 := Aside0.mk e1
    have E2 := Aside0.mk e2
    have E3 := Aside0.mk e3
    have H := Aside0.mk h
    have HR := Aside0.mk hr0
    have HC := Aside0.mk hc0
    have H1 := Aside0.mk h1
    have HL := Aside0.mk (show l0.length < 140737488355328 by omega)
    have HD1 := Aside0.mk (show (l0.drop 1).length = 2 by rw [List.length_drop]; omega)
    have HD2 := Aside0.mk (show (l0.drop 2).length = 1 by rw [List.length_drop]; omega)
    clear e1 e2 e3 h hr0 hc0 h1
    go_enter Try.func47, Try.ntmps47
    go_wp2_with fail
    refine (field_sized.yes _ _ l0 3 _ (Kd.C_below HR.out ?_) HC.out HL.out H1.out).mono ?_
    · exact below_alloc (Below.refl _ _) _
    rintro e w2 ⟨g, w1, rfl, hB, hB1, hI⟩
    have HB := Aside0.mk hB
    have HB1 := Aside0.mk hB1
    have HI := Aside0.mk hI
    have HG := Aside0.mk hI.ge
    clear hB hB1 hI
    go_wp2_with fail
    refine (octet_Reader_Num.yes k w1 _ g l0 1 t1 HI.out HB1.out (by omega) (by omega) (by have := H1.out; omega) HL.out E1.out).mono ?_
    rintro e w3 ⟨rfl, hI, hg⟩
    have HI3 := Aside0.mk (show IsRd w1 w3 g (l0.drop 1) false from hI)
    have HB3 := Aside0.mk (below_rd HB1.out hg HG.out)
    clear hI hg
    go_wp2_with fail
    refine (octet_Reader_Num.yes k w1 _ g (l0.drop 1) 1 t2 HI3.out HB3.out (by omega) (by omega) (by have := HD1.out; omega) (by have := HD1.out; omega) E2.out).mono ?_
    rintro e w4 ⟨rfl, hI, hg⟩
    have hI : IsRd w1 w4 g ((l0.drop 1).drop 1) false := hI
    rw [List.drop_drop] at hI
    have HI4 := Aside0.mk (show IsRd w1 w4 g (l0.drop 2) false from hI)
    have HB4 := Aside0.mk (below_rd HB3.out hg HG.out)
    clear hI hg
    go_wp2_with fail
    refine (octet_Reader_Num.yes k w1 _ g (l0.drop 2) 1 t3 HI4.out HB4.out (by omega) (by omega) (by have := HD2.out; omega) (by have := HD2.out; omega) E3.out).mono ?_
    rintro e w5 ⟨rfl, hI, hg⟩
    have HB5 := Aside0.mk (below_rd HB4.out hg HG.out)
    clear hI hg
    have hbk := blk_below (blk_below (blk_new w (.cells #[.int .i64 0, .int .i64 0, .int .i64 0] 46)) HB.out) HB5.out
    have q0 : w5.cell? ⟨w.heap.size, 0, none⟩ = some (.int .i64 0) := (blk_cell hbk 0).trans rfl
    have q1 : w5.cell? ⟨w.heap.size, 1, none⟩ = some (.int .i64 0) := (blk_cell hbk 1).trans rfl
    have q2 : w5.cell? ⟨w.heap.size, 2, none⟩ = some (.int .i64 0) := (blk_cell hbk 2).trans rfl
    have f0 : w5.frozen? ⟨w.heap.size, 0, none⟩ = false := blk_frozen hbk 0
    have f1 : w5.frozen? ⟨w.heap.size, 1, none⟩ = false := blk_frozen hbk 1
    have f2 : w5.frozen? ⟨w.heap.size, 2, none⟩ = false := blk_frozen hbk 2
    have hbel : Below w.heap.size w w5 := below_then (below_then (below_alloc (Below.refl _ _) _) (by simp) HB.out) (by have := HB.out.size; simp at this; omega) HB5.out
    have HBEL := Aside0.mk hbel
    have h := H.out
    clear hbk hbel H
    by_cases c1 : t2 > 31
    · rw [if_pos c1] at h
      simp only [Option.some.injEq, Prod.mk.injEq] at h
      obtain ⟨rfl, rfl, rfl, rfl⟩ := h
      have c1' : decide (31 < t2) = true := decide_eq_true c1
      clear c1
      go_wp2
      exact bodyPost_ret (v := .tuple #[.agg #[.int .i64 0, .int .i64 0, .int .i64 0], .int .i64 4]) (by simp [results, Try.results47, go_sem, hu, q0, q1, q2, f0, f1, f2]) rfl ⟨rfl, below_set (below_set (below_set HBEL.out (Nat.le_refl _)) (Nat.le_refl _)) (Nat.le_refl _)⟩
    · rw [if_neg c1] at h
      have c1' : decide (31 < t2) = false := decide_eq_false c1
      clear c1
      by_cases c2 : Go.bits .and .i64 t3 1 = 0
      · rw [if_pos c2] at h
        simp only [Option.some.injEq, Prod.mk.injEq] at h
        obtain ⟨rfl, rfl, rfl, rfl⟩ := h
        have c2' : (Go.bits .and .i64 t3 1 != 0) = false := bne_eq_false_iff_eq.mpr c2
        clear c2
        go_wp2
        exact bodyPost_ret (v := .tuple #[.agg #[.int .i64 t1, .int .i64 t2, .int .i64 (t3 / 2)], .int .i64 0]) (by simp [results, Try.results47, go_sem, hu, q0, q1, q2, f0, f1, f2]) rfl ⟨rfl, below_set (below_set (below_set HBEL.out (Nat.le_refl _)) (Nat.le_refl _)) (Nat.le_refl _)⟩
      · rw [if_neg c2] at h
        simp only [Option.some.injEq, Prod.mk.injEq] at h
        obtain ⟨rfl, rfl, rfl, rfl⟩ := h
        have c2' : (Go.bits .and .i64 t3 1 != 0) = true := bne_iff_ne.mpr c2
        clear c2
        go_wp2
        exact bodyPost_ret (v := .tuple #[.agg #[.int .i64 0, .int .i64 0, .int .i64 0], .int .i64 4]) (by simp [results, Try.results47, go_sem, hu, q0, q1, q2, f0, f1, f2]) rfl ⟨rfl, below_set (below_set (below_set HBEL.out (Nat.le_refl _)) (Nat.le_refl _)) (Nat.le_refl _)⟩
  · have hc : ∃ e : Int, ((l0.length : Int) < 3 ∧ e = 2 ∨ (l0.length : Int) > 3 ∧ e = 3) ∧ r1 = 0 ∧ r2 = 0 ∧ r3 = 0 ∧ r4 = e ∧ (e != 0) = true := by
      by_cases h2 : (l0.length : Int) < 3
      · rw [if_pos h2] at h
        simp only [Option.some.injEq, Prod.mk.injEq] at h
        obtain ⟨rfl, rfl, rfl, rfl⟩ := h
        exact ⟨2, .inl ⟨h2, rfl⟩, rfl, rfl, rfl, rfl, rfl⟩
      · rw [if_neg h2, if_pos (by omega)] at h
        simp only [Option.some.injEq, Prod.mk.injEq] at h
        obtain ⟨rfl, rfl, rfl, rfl⟩ := h
        exact ⟨3, .inr ⟨by omega, rfl⟩, rfl, rfl, rfl, rfl, rfl⟩
    obtain ⟨e, he, rfl, rfl, rfl, rfl, hne⟩ := hc
    have HE := Aside0.mk he
    clear h he h1
    go_enter Try.func47, Try.ntmps47
    go_wp2_with (go_at_call 99; refine (field_sized.no _ _ l0 3 r4 _ HE.out).mono ?_; rintro e' w' ⟨rfl, rfl⟩)
    exact bodyPost_ret (v := .tuple #[.agg #[.int .i64 0, .int .i64 0, .int .i64 0], .int .i64 r4]) (by simp [results, Try.results47, go_sem, hu]) rfl ⟨rfl, below_alloc (Below.refl _ _) _⟩

end Go.Proofs.Ytnmcoebjkfpmjaa.P
