/- Numbers, statuses and classes go there and back; each shorter or longer row is none. -/
import Derived.Test.YtnmcoebjkfpmjaaPx13
import Derived.Test.YtnmcoebjkfpmjaaLibG
namespace Go.Proofs.Ytnmcoebjkfpmjaa.Pure
open Go.RowKit Go.Proofs.Ytnmcoebjkfpmjaa.P Go.Proofs.Ytnmcoebjkfpmjaa.Lib Go.Proofs.Ytnmcoebjkfpmjaa.LibG Go.Proofs.YtnmcoebjkfpmjaaW.PrintWords Go.Proofs.YtnmcoebjkfpmjaaW.PrintLast

theorem u32_wf {x : Int} (h : (Lit.int .u32 x).wf = true) : 0 ≤ x ∧ x < 4294967296 := by
  simp [Lit.wf, IntKind.min, IntKind.max, IntKind.signed, IntKind.bits] at h; omega
theorem wraps32 (n : Int) (h₀ : 0 ≤ n) (h₁ : n < 2 ^ 32) : IntKind.u32.wrap n = n := by rw [IntKind.wrap_u32]; omega
theorem mask5 (x : Int) (h : 0 ≤ x ∧ x < 4294967296) : 0 ≤ Go.bits .and .u32 x 31 ∧ Go.bits .and .u32 x 31 ≤ 31 := by
  rw [show Go.bits .and .u32 x 31 = x % 32 from bits_mask .u32 32 (by decide) wraps32 5 (by decide) x h.1 h.2]; omega
theorem mask7 (x : Int) (h : 0 ≤ x ∧ x < 4294967296) : 0 ≤ Go.bits .and .u32 x 127 ∧ Go.bits .and .u32 x 127 ≤ 127 := by
  rw [show Go.bits .and .u32 x 127 = x % 128 from bits_mask .u32 32 (by decide) wraps32 7 (by decide) x h.1 h.2]; omega
theorem FieldBack : antiphonlaw7_FieldBack.Pure := by
  intro n s b hn hs _ _ hw
  have hb := wf_bytes hw
  have hn := u32_wf hn
  have hs := u8_wf hs
  refine ⟨2032, ?_⟩
  have hA : antiphonlaw7_awake.f 2032 = some true := by decide +kernel
  unfold antiphonlaw7_FieldBack.f
  rw [hA, Option.bind_some, if_pos rfl]
  by_cases hl : (b.length : Int) > 100
  · rw [if_pos hl]
  have m1 := mask5 n hn
  have m2 := mask7 (n / 32) (by omega)
  rw [if_neg hl, w64 n (by omega) (by omega), w64 s (by omega) (by omega)]
  generalize hT : Go.bits .and .u32 n 31 = T at *
  generalize hV : Go.bits .and .u32 (n / 32) 127 = V at *
  have eC : putClassL s T V = ([s, T, 2 * V], 0) := by unfold putClassL; rw [if_pos ⟨by omega, m1, m2⟩]
  have eS : putStatusL s b = (s :: b, 0) := by unfold putStatusL; rw [if_pos (by omega)]
  have hb3 : Bytes [s, T, 2 * V] := by intro x hx; simp at hx; omega
  have hb4 : Bytes ([s, T, 2 * V] ++ [0]) := by intro x hx; simp at hx; omega
  have hsb : Bytes (s :: b) := by
    intro x hx
    rcases List.mem_cons.1 hx with rfl | h
    · exact hs
    · exact hb x h
  have eG : getClassL [s, T, 2 * V] = (s, T, V, 0) := by
    rw [getClassL3, if_neg (by omega), show 2 * V / 2 = V by omega]
  have hnb : Bytes (numberL n ++ [0]) := by
    intro x hx
    rcases List.mem_append.1 hx with h | h
    · exact numberL_bytes n x h
    · simp at h; omega
  have eR : readNumL (numberL n ++ [0]) = (0, false) := by unfold readNumL; rw [if_neg (by rw [List.length_append, numberL_len]; decide)]
  rw [show (2032 : Nat) = 2022 + 10 from rfl, number_seat, Option.bind_some, readNum_seat _ _ (numberL_bytes n), Option.bind_some, read_number n hn.1 hn.2, w64 T (by omega) (by omega), w64 V (by omega) (by omega),
    putStatus_seat s b (by omega), Option.bind_some, eS, getStatus_seat _ hsb (by simp; omega), Option.bind_some, putClass_seat, Option.bind_some, eC, getClass_seat _ _ hb3, Option.bind_some, eG, copy_le _ 2000 _ (by omega) (by simp) (by omega), Option.bind_some, if_pos (by simp),
    getClass_seat _ _ hb4, Option.bind_some, Option.bind_some, if_pos (by rw [numberL_len]; omega), readNum_seat _ _ hnb, Option.bind_some, eR, if_pos rfl, if_pos rfl, if_pos rfl]
  show (if (0 : Int) = 0 then _ else _) = _
  rw [if_pos rfl]
  show (if s = s then (antiphonref1_Same.f (2022 + 10) b b).bind _ else _) = _
  rw [if_pos rfl, same_le _ _ 2000 _ (by omega) (by omega) (by omega), Option.bind_some, if_pos (by simp), if_pos rfl, if_pos rfl, if_pos rfl, if_pos rfl, if_pos rfl]
  rfl

end Go.Proofs.Ytnmcoebjkfpmjaa.Pure
