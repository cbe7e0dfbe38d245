/- For every va, out and form: of an I or S PDU just out % 128 + 1 values of N(R) are not Wrong against V(A) = va % 128 and V(S) = V(A) + out % 128 (modulo 128), and each of them lies at most out % 128 ahead of V(A); every va and out (uint8) and both forms are let in, without a condition. -/
import Derived.Test.YtnmcoebjkfpmjaaPx20
namespace Go.Proofs.Ytnmcoebjkfpmjaa.Pure
open Go.RowKit Go.Proofs.Ytnmcoebjkfpmjaa.P Go.Proofs.YtnmcoebjkfpmjaaW.PrintWords Go.Proofs.YtnmcoebjkfpmjaaW.PrintLast

theorem tmod128 (a : Int) : (Int.tmod a 128 + 128) % 128 = a % 128 := by
  rw [Int.tmod_eq_emod]
  split <;> simp <;> omega
theorem tmod_lo (a : Int) : -128 < Int.tmod a 128 ∧ Int.tmod a 128 < 128 := by
  rw [Int.tmod_eq_emod]
  split <;> simp <;> omega
theorem tmod_nn (a : Int) (h : 0 ≤ a) : Int.tmod a 128 = a % 128 := Int.tmod_eq_emod_of_nonneg h
theorem w64 (a : Int) (h : -9223372036854775808 ≤ a) (h' : a ≤ 9223372036854775807) : wrap64 a = a := by
  unfold wrap64
  omega
theorem seq_rest (a : Int) : seq_rest_int.f a = some (a % 128) := by
  unfold seq_rest_int.f
  have h := tmod_lo a
  rw [w64 _ (by omega) (by omega), tmod_nn _ (by omega), tmod128]
theorem seq_fold2 (k : Nat) (x y : Int) : seq_fold_int.f (k + 3) [x, y] = some ((x + y) % 128) := by
  have hl : (([x, y] : List Int).length : Int) = 2 := rfl
  have h1 : wrap64 ((0 : Int) + 1) = 1 := by decide +kernel
  have h2 : wrap64 ((1 : Int) + 1) = 2 := by decide +kernel
  have r0 : rd [x, y] 0 = x := rfl
  have r1 : rd [x, y] 1 = y := rfl
  unfold seq_fold_int.f
  simp only [seq_fold_int.l0, seq_rest, Option.bind_some, hl, h1, h2, r0, r1]
  rw [w64 (0 + x % 128) (by omega) (by omega), w64 ((0 + x % 128) % 128 + y % 128) (by omega) (by omega)]
  simp
theorem seq_dist (k : Nat) (a b : Int) : seq_Dist.f (k + 3) a b = some ((b - a) % 128) := by
  unfold seq_Dist.f
  rw [seq_rest]
  simp only [Option.bind_some]
  rw [w64 _ (by omega) (by omega), seq_fold2]
  simp only [Option.bind_some, Option.some.injEq]
  omega
theorem seq_in (k : Nat) (x a b : Int) : seq_In.f (k + 3) x a b = some (decide ((x - a) % 128 ≤ (b - a) % 128)) := by
  unfold seq_In.f
  rw [seq_dist, seq_dist]
  rfl

/-- How many numbers below j lie at most n ahead of a. -/
def cnt (a n j : Int) : Int := if a + n < 128 then max 0 (min j (a + n + 1) - a) else min j (a + n - 127) + max 0 (j - a)
theorem cnt_zero (a n : Int) (h0 : 0 ≤ a) (h1 : a < 128) (h2 : 0 ≤ n) (h3 : n < 128) : cnt a n 0 = 0 := by
  unfold cnt
  split <;> omega
theorem cnt_last (a n : Int) (h0 : 0 ≤ a) (h1 : a < 128) (h2 : 0 ≤ n) (h3 : n < 128) : cnt a n 128 = n + 1 := by
  unfold cnt
  split <;> omega
theorem cnt_yes (a n j : Int) (h0 : 0 ≤ a) (h1 : a < 128) (h2 : 0 ≤ n) (h3 : n < 128) (h4 : 0 ≤ j) (h5 : j < 128) (h : (j - a) % 128 ≤ n) : cnt a n (j + 1) = cnt a n j + 1 := by
  unfold cnt
  split <;> omega
theorem cnt_no (a n j : Int) (h0 : 0 ≤ a) (h1 : a < 128) (h2 : 0 ≤ n) (h3 : n < 128) (h4 : 0 ≤ j) (h5 : j < 128) (h : n < (j - a) % 128) : cnt a n (j + 1) = cnt a n j := by
  unfold cnt
  split <;> omega

theorem window_loop (a n : Int) (h0 : 0 ≤ a) (h1 : a < 128) (h2 : 0 ≤ n) (h3 : n < 128) (x0 x1 x3 x4 x5 : Int) (y x6 : Bool) (hf : x3 ≠ 2) (d : Nat) : ∀ (k : Nat) (j z : Int), 0 ≤ j → j ≤ 128 → 128 - j = d → d + 3 < k →
    antiphonlaw8_TellWindow.l0 k a n (cnt a n j) j x0 x1 y x3 x4 x5 z x6 = some true := by
  induction d with
  | zero =>
    intro k j x7 j0 j1 hd hk
    obtain ⟨k, rfl⟩ : ∃ m, k = m + 1 := ⟨k - 1, by omega⟩
    obtain rfl : j = 128 := by omega
    simp only [antiphonlaw8_TellWindow.l0]
    rw [if_neg (by omega), cnt_last a n h0 h1 h2 h3, w64 _ (by omega) (by omega)]
    simp
  | succ d ih =>
    intro k j x7 j0 j1 hd hk
    obtain ⟨k, rfl⟩ : ∃ m, k = m + 1 := ⟨k - 1, by omega⟩
    have hm : Int.tmod (a + n) 128 = (a + n) % 128 := tmod_nn _ (by omega)
    have hm2 : Int.tmod (j - a + 128) 128 = (j - a + 128) % 128 := tmod_nn _ (by omega)
    have hw : tell_Wrong.f k x0 x1 y x3 x4 x5 j x6 ([] : List Int) a (Int.tmod (wrap64 (a + n)) 128) = some (!decide ((j - a) % 128 ≤ n)) := by
      obtain ⟨k, rfl⟩ : ∃ m, k = m + 3 := ⟨k - 3, by omega⟩
      unfold tell_Wrong.f
      rw [if_neg hf, w64 (a + n) (by omega) (by omega), hm, seq_in]
      have : ((a + n) % 128 - a) % 128 = n := by omega
      rw [this]; rfl
    simp only [antiphonlaw8_TellWindow.l0]
    rw [if_pos (show j < 128 by omega), hw]
    simp only [Option.bind_some]
    rw [w64 (j + 1) (by omega) (by omega), w64 (j - a) (by omega) (by omega), w64 (j - a + 128) (by omega) (by omega), hm2]
    by_cases hc : (j - a) % 128 ≤ n
    · have hn := cnt_yes a n j h0 h1 h2 h3 j0 (by omega) hc
      have hcn : -1 ≤ cnt a n j ∧ cnt a n j ≤ 300 := by unfold cnt; split <;> omega
      rw [decide_eq_true hc]
      simp only [Bool.not_true]
      rw [if_neg (by simp), if_neg (show ¬ (j - a + 128) % 128 > n by omega), w64 (cnt a n j + 1) (by omega) (by omega), ← hn]
      exact ih k (j + 1) j (by omega) (by omega) (by omega) (by omega)
    · have hn := cnt_no a n j h0 h1 h2 h3 j0 (by omega) (by omega)
      rw [decide_eq_false hc]
      simp only [Bool.not_false, if_true]
      rw [← hn]
      exact ih k (j + 1) j (by omega) (by omega) (by omega) (by omega)

theorem and127 (a : Int) (h0 : 0 ≤ a) (h1 : a ≤ 255) : Go.bits .and .i64 a 127 = a % 128 := by
  have : ∀ n : Fin 256, Go.bits .and .i64 (n.val : Int) 127 = (n.val : Int) % 128 := by decide +kernel
  have h := this ⟨a.toNat, by omega⟩
  simp only at h
  rwa [show ((a.toNat : Nat) : Int) = a from by omega] at h

theorem u8_wf {a : Int} (h : (Lit.int .u8 a).wf = true) : 0 ≤ a ∧ a ≤ 255 := by
  simp [Lit.wf, IntKind.min, IntKind.max, IntKind.signed, IntKind.bits] at h
  omega

theorem TellWindow : antiphonlaw8_TellWindow.Pure := by
  intro a0 a1 a2 w0 w1
  have h0 : 0 ≤ a0 ∧ a0 ≤ 255 := u8_wf w0
  have h1 : 0 ≤ a1 ∧ a1 ≤ 255 := u8_wf w1
  refine ⟨140, ?_⟩
  have ha : antiphonlaw8_awake.f 140 = some true := by decide +kernel
  unfold antiphonlaw8_TellWindow.f
  rw [ha]
  simp only [Option.bind_some, if_true]
  rw [w64 a0 (by omega) (by omega), w64 a1 (by omega) (by omega), and127 a0 h0.1 h0.2, tmod_nn a1 h1.1]
  have hz := cnt_zero (a0 % 128) (a1 % 128) (by omega) (by omega) (by omega) (by omega)
  have hl := fun x3 hf => window_loop (a0 % 128) (a1 % 128) (by omega) (by omega) (by omega) (by omega) 4 8 x3 0 0 false false hf 128 139 0 0 (by omega) (by omega) (by omega) (by omega)
  rw [hz] at hl
  split
  · simp only [antiphonlaw8_TellWindow.j0]
    exact hl 0 (by omega)
  · simp only [antiphonlaw8_TellWindow.j0]
    exact hl 1 (by omega)

end Go.Proofs.Ytnmcoebjkfpmjaa.Pure
