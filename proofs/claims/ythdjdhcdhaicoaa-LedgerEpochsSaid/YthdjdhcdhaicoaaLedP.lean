-- Written by this session: what the ledger's functions compute, in plain words.
import Derived.Test.YthdjdhcdhaicoaaPx28
import Derived.Test.YthdjdhcdhaicoaaPx19
namespace Go.Proofs.Ythdjdhcdhaicoaa.Lib
set_option linter.unusedSimpArgs false
set_option linter.unusedVariables false
open Go.RowKit Go.Proofs.Ythdjdhcdhaicoaa.P Go.Proofs.YthdjdhcdhaicoaaW.PrintWords Go.Proofs.YthdjdhcdhaicoaaW.PrintLast Go.Proofs.YthdjdhcdhaicoaaW.PrintMore
theorem w64 (a : Int) (h : -9223372036854775808 ≤ a) (h' : a ≤ 9223372036854775807) : wrap64 a = a := by unfold wrap64; omega
theorem rd_at {l : List Int} {i : Nat} (h : i < l.length) : rd l (i : Int) = l[i] := by
  unfold rd; rw [Int.toNat_natCast, List.getD_eq_getElem?_getD, List.getElem?_eq_getElem h]; rfl
theorem drop_at {l : List Int} {i : Nat} (h : i < l.length) : l.drop i = rd l (i : Int) :: l.drop (i + 1) := by
  rw [rd_at h]; exact List.drop_eq_getElem_cons h

/-- Same: whether two rows are one. -/
theorem same_l0 (a b : List Int) (h : a.length = b.length) (hl : a.length < 9223372036854775807) (k : Nat) : ∀ (m i : Nat), i + m = a.length → antiphonref1_Same.l0 (m + 1 + k) a b (i : Int) = some (decide (a.drop i = b.drop i))
  | 0, i, hi => by
    rw [show 0 + 1 + k = k + 1 by omega, antiphonref1_Same.l0, if_neg (by omega), List.drop_eq_nil_of_le (by omega), List.drop_eq_nil_of_le (by omega)]
    rfl
  | m + 1, i, hi => by
    rw [show m + 1 + 1 + k = (m + 1 + k) + 1 by omega, antiphonref1_Same.l0, if_pos (by omega), if_pos (by omega), if_pos (by omega), w64 _ (by omega) (by omega)]
    rw [drop_at (show i < a.length by omega), drop_at (show i < b.length by omega)]
    by_cases hc : rd a i = rd b i
    · rw [if_pos hc, show ((i : Int) + 1) = ((i + 1 : Nat) : Int) by omega, same_l0 a b h hl k m (i + 1) (by omega)]
      simp [hc]
    · rw [if_neg hc]
      simp [hc]
theorem same_ref (a b : List Int) (hl : a.length < 9223372036854775807) (k : Nat) : antiphonref1_Same.f (a.length + 1 + k) a b = some (decide (a = b)) := by
  unfold antiphonref1_Same.f
  by_cases h : a.length = b.length
  · rw [if_pos (by omega)]
    have := same_l0 a b h hl k a.length 0 (by omega)
    simpa using this
  · rw [if_neg (by omega), decide_eq_false (fun e => h (by rw [e]))]

/-- Copy: the row itself. -/
theorem copy_l0 (a : List Int) (hl : a.length ≤ 140737488355328) (k : Nat) : ∀ (m i : Nat) (acc : List Int), i + m = a.length → acc.length = i → antiphonref1_Copy.l0 (m + 1 + k) a acc (i : Int) = some (acc ++ a.drop i)
  | 0, i, acc, hi, ha => by
    rw [show 0 + 1 + k = k + 1 by omega, antiphonref1_Copy.l0, if_neg (by omega), List.drop_eq_nil_of_le (by omega), List.append_nil]
  | m + 1, i, acc, hi, ha => by
    rw [show m + 1 + 1 + k = (m + 1 + k) + 1 by omega, antiphonref1_Copy.l0, if_pos (by omega), if_pos (by omega), if_pos (by omega), w64 _ (by omega) (by omega)]
    rw [drop_at (show i < a.length by omega), show ((i : Int) + 1) = ((i + 1 : Nat) : Int) by omega, copy_l0 a hl k m (i + 1) _ (by omega) (by simp [ha])]
    simp
theorem copy_ref (a : List Int) (hl : a.length ≤ 140737488355328) (k : Nat) : antiphonref1_Copy.f (a.length + 1 + k) a = some a := by
  have := copy_l0 a hl k a.length 0 [] (by omega) rfl
  simpa [antiphonref1_Copy.f] using this

end Go.Proofs.Ythdjdhcdhaicoaa.Lib
