/- For every int n: class.Types(n) is odd just where 1 ≤ n ≤ 4, class.Takes(n, k) says what the bits of Types(n) say for k = 1, 2, 3, and takes nothing for k = 0 and 4; every n is let in, without a condition. -/
import Derived.Test.YtnmcoebjkfpmjaaPx25
namespace Go.Proofs.Ytnmcoebjkfpmjaa.Pure
open Go.RowKit Go.Proofs.Ytnmcoebjkfpmjaa.P Go.Proofs.YtnmcoebjkfpmjaaW.PrintWords Go.Proofs.YtnmcoebjkfpmjaaW.PrintLast

theorem types_out (n : Int) (h : n < 1 ∨ 4 < n) : class_Types.f n = some 0 := by
  unfold class_Types.f class_at_int.f
  rcases h with h | h
  · rw [if_pos h]; rfl
  · rw [if_neg (by omega), if_pos (by simp only [List.length_cons, List.length_nil]; omega)]; rfl

theorem ref_out (n : Int) (h : n < 1 ∨ 4 < n) : antiphonref6_Types.f n = some 0 := by
  unfold antiphonref6_Types.f
  simp only [Option.bind_some]
  rcases h with h | h
  · by_cases h0 : n < 0
    · rw [if_pos h0]
    · obtain rfl : n = 0 := by omega
      decide +kernel
  · rw [if_neg (by omega), if_pos (by omega)]

theorem takes_out (n k : Int) (h : n < 1 ∨ 4 < n) (hk : k = 0 ∨ k = 1 ∨ k = 2 ∨ k = 3 ∨ k = 4) : class_Takes.f n k = some false := by
  unfold class_Takes.f
  rw [types_out n h]
  rcases hk with rfl | rfl | rfl | rfl | rfl <;> decide +kernel

theorem ClassTable : antiphonlaw23_ClassTable.Pure := by
  intro n _
  refine ⟨8, ?_⟩
  by_cases h : 1 ≤ n ∧ n ≤ 4
  · obtain ⟨h1, h2⟩ := h
    have h3 : n = 1 ∨ n = 2 ∨ n = 3 ∨ n = 4 := by omega
    rcases h3 with rfl | rfl | rfl | rfl <;> decide +kernel
  · have h' : n < 1 ∨ 4 < n := by omega
    have ha : antiphonlaw23_awake.f = some true := by decide +kernel
    unfold antiphonlaw23_ClassTable.f
    rw [ha, types_out n h']
    simp only [Option.bind_some, if_true]
    have t0 := takes_out n 0 h' (by omega)
    have t1 := takes_out n 1 h' (by omega)
    have t2 := takes_out n 2 h' (by omega)
    have t3 := takes_out n 3 h' (by omega)
    have t4 := takes_out n 4 h' (by omega)
    have r := ref_out n h'
    have e1 : antiphonlaw23_ClassTable.l0 8 n 0 1 = antiphonlaw23_ClassTable.l0 7 n 0 2 := by
      conv => lhs; unfold antiphonlaw23_ClassTable.l0
      rw [if_pos (by decide), t1, Option.bind_some, if_pos (by decide +kernel), if_neg (by decide +kernel), show wrap64 ((1 : Int) + 1) = 2 from by decide +kernel]
    have e2 : antiphonlaw23_ClassTable.l0 7 n 0 2 = antiphonlaw23_ClassTable.l0 6 n 0 3 := by
      conv => lhs; unfold antiphonlaw23_ClassTable.l0
      rw [if_pos (by decide), t2, Option.bind_some, if_pos (by decide +kernel), if_neg (by decide +kernel), show wrap64 ((2 : Int) + 1) = 3 from by decide +kernel]
    have e3 : antiphonlaw23_ClassTable.l0 6 n 0 3 = antiphonlaw23_ClassTable.l0 5 n 0 4 := by
      conv => lhs; unfold antiphonlaw23_ClassTable.l0
      rw [if_pos (by decide), t3, Option.bind_some, if_pos (by decide +kernel), if_neg (by decide +kernel), show wrap64 ((3 : Int) + 1) = 4 from by decide +kernel]
    rw [e1, e2, e3]
    unfold antiphonlaw23_ClassTable.l0
    rw [if_neg (by decide), t0, t4, r]
    by_cases h1 : n ≥ 1
    · rw [if_pos h1]
      have : decide (n ≤ 4) = false := decide_eq_false (by omega)
      rw [this]; rfl
    · rw [if_neg h1]; rfl

end Go.Proofs.Ytnmcoebjkfpmjaa.Pure
