/- Numbers stand in the order of their bytes; a wider one begins with noughts. -/
import Derived.Test.YtngahjgbeekldaaPx5
import Derived.Test.YtngahjgbeekldaaOLib
namespace Go.Proofs.Ytngahjgbeekldaa.Pure
open Go.RowKit Go.Proofs.Ytngahjgbeekldaa.P Go.Proofs.Ytngahjgbeekldaa.Lib Go.Proofs.YtngahjgbeekldaaW.PrintWords Go.Proofs.YtngahjgbeekldaaW.PrintLast

theorem be_rd (n : Int) : ∀ (w i : Nat), i < w → rd (beN w n) (i : Int) = n / 2 ^ (8 * (w - 1 - i)) % 256
  | w + 1, 0, _ => rfl
  | w + 1, i + 1, h => by
    have := be_rd n w i (by omega)
    have e : rd (beN (w + 1) n) ((i + 1 : Nat) : Int) = rd (beN w n) (i : Int) := by
      rw [rd_at (by rw [beN_length]; omega), rd_at (by rw [beN_length]; omega)]
      simp [beN]
    rw [e, this]
    congr 3
    omega
theorem ord_j2 (k : Nat) (a b : Int) (w : Nat) (hw : 1 ≤ w ∧ w ≤ 7) (h0 : 0 ≤ a) (h1 : a < 2 ^ (8 * w)) (less : Bool) (hless : less = decide (a < b)) :
    antiphonlaw1_OctetOrder.j2 (k + 100) a b (w : Int) (beN w a) less = some true := by
  rw [show k + 100 = (k + 99) + 1 by omega, antiphonlaw1_OctetOrder.j2]
  subst hless
  by_cases h7 : w < 7
  · rw [if_pos (by omega), w64 _ (by omega) (by omega), show k + 99 = (k + 89) + 10 by omega, put_seat, Option.bind_some]
    have hlt : a < 2 ^ (8 * (w + 1)) := by
      rw [show (2 : Int) ^ (8 * (w + 1)) = 2 ^ (8 * w) * 256 by rw [show 8 * (w + 1) = 8 * w + 8 by omega, Int.pow_add]; rfl]
      omega
    have p1 : putL a ((w : Int) + 1) = 0 :: beN w a := by
      unfold putL
      rw [show ((w : Int) + 1).toNat = w + 1 by omega, if_pos ⟨by omega, by omega, h0, hlt⟩, beN, Int.ediv_eq_zero_of_lt h0 h1]
      rfl
    rw [p1, if_pos (by rw [List.length_cons, beN_length]; omega), if_pos (by rw [List.length_cons, beN_length]; omega), if_pos (show rd (0 :: beN w a) 0 = 0 from rfl), if_pos (by rw [List.length_cons, beN_length]; omega),
      show ((0 :: beN w a).drop 1) = beN w a from rfl, same_le _ _ 7 _ (by omega) (by rw [beN_length]; omega) (by omega), Option.bind_some, if_pos (by simp)]
    simp
  · rw [if_neg (by omega)]
    simp
theorem ord_l0 (a b : Int) (w : Nat) (hw : 1 ≤ w ∧ w ≤ 7) (ha : 0 ≤ a ∧ a < 2 ^ (8 * w)) (hb : 0 ≤ b ∧ b < 2 ^ (8 * w)) (k : Nat) : ∀ (m i : Nat), i + m = w → a / 2 ^ (8 * m) = b / 2 ^ (8 * m) →
    antiphonlaw1_OctetOrder.l0 (m + 101 + k) a b (w : Int) (beN w a) (beN w b) false (i : Int) = some true
  | 0, i, hi, he => by
    rw [show 0 + 101 + k = (k + 100) + 1 by omega, antiphonlaw1_OctetOrder.l0, if_neg (by omega)]
    exact ord_j2 k a b w hw ha.1 ha.2 false (by simp at he; simp [he])
  | m + 1, i, hi, he => by
    have la := beN_length w a
    have lb := beN_length w b
    rw [show m + 1 + 101 + k = (m + 101 + k) + 1 by omega, antiphonlaw1_OctetOrder.l0, if_pos (by omega), if_pos (by omega), if_pos (by omega), if_pos (by omega), be_rd a w i (by omega), be_rd b w i (by omega)]
    have hm : w - 1 - i = m := by omega
    rw [hm]
    have e1 : a / 2 ^ (8 * (m + 1)) = a / 2 ^ (8 * m) / 256 := by
      rw [Int.ediv_ediv_of_nonneg (by exact Int.le_of_lt (Int.pow_pos (by omega))), show (2 : Int) ^ (8 * (m + 1)) = 2 ^ (8 * m) * 256 by rw [show 8 * (m + 1) = 8 * m + 8 by omega, Int.pow_add]; rfl]
    have e2 : b / 2 ^ (8 * (m + 1)) = b / 2 ^ (8 * m) / 256 := by
      rw [Int.ediv_ediv_of_nonneg (by exact Int.le_of_lt (Int.pow_pos (by omega))), show (2 : Int) ^ (8 * (m + 1)) = 2 ^ (8 * m) * 256 by rw [show 8 * (m + 1) = 8 * m + 8 by omega, Int.pow_add]; rfl]
    rw [e1, e2] at he
    by_cases hc : a / 2 ^ (8 * m) % 256 = b / 2 ^ (8 * m) % 256
    · rw [if_pos hc, w64 _ (by omega) (by omega), show ((i : Int) + 1) = ((i + 1 : Nat) : Int) by omega]
      exact ord_l0 a b w hw ha hb k m (i + 1) (by omega) (by omega)
    · rw [if_neg hc, show m + 101 + k = (k + m + 1) + 100 by omega]
      refine ord_j2 _ a b w hw ha.1 ha.2 _ ?_
      have hp : (0 : Int) < 2 ^ (8 * m) := Int.pow_pos (by omega)
      have h3 : (a / 2 ^ (8 * m) < b / 2 ^ (8 * m)) ↔ a < b := by
        constructor
        · intro h
          apply Decidable.byContradiction
          intro hn
          have := Int.ediv_le_ediv hp (show b ≤ a by omega)
          omega
        · intro h
          have := Int.ediv_le_ediv hp (show a ≤ b by omega)
          have hne : a / 2 ^ (8 * m) ≠ b / 2 ^ (8 * m) := fun e => hc (by rw [e])
          omega
      have h4 : (a / 2 ^ (8 * m) % 256 < b / 2 ^ (8 * m) % 256) ↔ a / 2 ^ (8 * m) < b / 2 ^ (8 * m) := by omega
      exact decide_eq_decide.mpr (h4.trans h3)
theorem OctetOrder : antiphonlaw1_OctetOrder.Pure := by
  intro a b c _ _ h2
  have hc := u8_wf h2
  refine ⟨200, ?_⟩
  unfold antiphonlaw1_OctetOrder.f antiphonlaw1_awake.f
  rw [Option.bind_some, if_pos rfl, w64 c (by omega) (by omega), Int.tmod_eq_emod_of_nonneg hc.1, w64 _ (by omega) (by omega)]
  obtain ⟨w, hw⟩ : ∃ w : Nat, 1 + c % 7 = (w : Int) := ⟨(1 + c % 7).toNat, by omega⟩
  rw [hw, show (200 : Nat) = 190 + 10 from rfl, put_seat, Option.bind_some, put_seat, Option.bind_some]
  have hw1 : 1 ≤ w ∧ w ≤ 7 := by omega
  have la := putL_len a (w : Int)
  have lb := putL_len b (w : Int)
  rw [Int.toNat_natCast] at la lb
  have hj : ∀ y, antiphonlaw1_OctetOrder.j0 (190 + 10) a b (w : Int) (putL a (w : Int)) y true = some true := by
    intro y
    rw [show 190 + 10 = 199 + 1 from rfl, antiphonlaw1_OctetOrder.j0, if_pos rfl]
    rcases la with h | ⟨h, _⟩
    · rw [if_pos (by omega)]
    · rw [if_neg (by omega), h]; simp
  rcases la with h | ⟨h, _, _, a0, a1, ea⟩
  · rw [if_neg (by omega), hj]
  rw [if_pos (by omega)]
  rcases lb with h' | ⟨h', _, _, b0, b1, eb⟩
  · rw [bne_iff_ne.mpr (by omega), hj]
  rw [h', show (((w : Nat) : Int) != (w : Int)) = false by simp, show 190 + 10 = 199 + 1 from rfl, antiphonlaw1_OctetOrder.j0, if_neg (by decide), ea, eb]
  have := ord_l0 a b w hw1 ⟨a0, a1⟩ ⟨b0, b1⟩ (98 - w) w 0 (by omega) (by rw [Int.ediv_eq_zero_of_lt a0 a1, Int.ediv_eq_zero_of_lt b0 b1])
  rwa [show w + 101 + (98 - w) = 199 by omega] at this

end Go.Proofs.Ytngahjgbeekldaa.Pure
