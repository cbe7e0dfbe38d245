-- Written by this session: what the functions of field and of the reference compute, in plain words.
import Derived.Test.YtnmcoebjkfpmjaaOLib
import Derived.Test.YtnmcoebjkfpmjaaPx42
import Derived.Test.YtnmcoebjkfpmjaaPx44
import Derived.Test.YtnmcoebjkfpmjaaPx45
import Derived.Test.YtnmcoebjkfpmjaaPx46
import Derived.Test.YtnmcoebjkfpmjaaPx47
import Derived.Test.YtnmcoebjkfpmjaaPx48
import Derived.Test.YtnmcoebjkfpmjaaPx49
import Derived.Test.YtnmcoebjkfpmjaaPx50
import Derived.Test.YtnmcoebjkfpmjaaPx51
import Derived.Test.YtnmcoebjkfpmjaaPx52
import Derived.Test.YtnmcoebjkfpmjaaPx53
import Derived.Test.YtnmcoebjkfpmjaaPx54
namespace Go.Proofs.Ytnmcoebjkfpmjaa.LibG
set_option linter.unusedSimpArgs false
set_option linter.unusedVariables false
open Go.RowKit Go.Proofs.Ytnmcoebjkfpmjaa.P Go.Proofs.Ytnmcoebjkfpmjaa.Lib Go.Proofs.YtnmcoebjkfpmjaaW.PrintWords Go.Proofs.YtnmcoebjkfpmjaaW.PrintLast

theorem byteAll {P : Int → Prop} (H : ∀ j : Fin 256, P (j.val : Int)) {x : Int} (h : 0 ≤ x ∧ x < 256) : P x := by
  have := H ⟨x.toNat, by omega⟩
  rwa [show ((x.toNat : Nat) : Int) = x by omega] at this
theorem g_and1 {x : Int} (h : 0 ≤ x ∧ x < 256) : Go.bits .and .i64 x 1 = x % 2 := byteAll (P := fun x => Go.bits .and .i64 x 1 = x % 2) (by decide +kernel) h
theorem g_and1u {x : Int} (h : 0 ≤ x ∧ x < 256) : Go.bits .and .u8 x 1 = x % 2 := byteAll (P := fun x => Go.bits .and .u8 x 1 = x % 2) (by decide +kernel) h
theorem tdiv2 {x : Int} (h : 0 ≤ x) : Int.tdiv x 2 = x / 2 := Int.tdiv_eq_ediv_of_nonneg h
theorem within_f (x m : Int) : field_within.f x m = some (decide (0 ≤ x ∧ x ≤ m)) := by
  unfold field_within.f
  by_cases h : x ≥ 0
  · rw [if_pos h]; congr 1; by_cases h2 : x ≤ m
    · rw [decide_eq_true h2, decide_eq_true ⟨h, h2⟩]
    · rw [decide_eq_false h2, decide_eq_false (fun e => h2 e.2)]
  · rw [if_neg h, decide_eq_false (fun e => h e.1)]
def putClassL (a b c : Int) : List Int × Int := if (0 ≤ a ∧ a ≤ 255) ∧ (0 ≤ b ∧ b ≤ 31) ∧ (0 ≤ c ∧ c ≤ 127) then ([a, b, 2 * c], 0) else ([], 1)
theorem putClass_seat (a b c : Int) : field_PutClass.f a b c = some (putClassL a b c) := by
  unfold field_PutClass.f putClassL
  rw [within_f, within_f, within_f, Option.bind_some, Option.bind_some, Option.bind_some]
  by_cases h1 : 0 ≤ a ∧ a ≤ 255
  · rw [if_pos (decide_eq_true h1)]
    by_cases h2 : 0 ≤ b ∧ b ≤ 31
    · rw [if_pos (decide_eq_true h2)]
      by_cases h3 : 0 ≤ c ∧ c ≤ 127
      · rw [if_pos (decide_eq_true h3), if_pos ⟨h1, h2, h3⟩, w64 (2 * c) (by omega) (by omega), Int.emod_eq_of_lt (a := a) (by omega) (by omega), Int.emod_eq_of_lt (a := b) (by omega) (by omega), Int.emod_eq_of_lt (a := 2 * c) (by omega) (by omega)]
      · rw [if_neg (by simpa using h3), if_neg (fun h => h3 h.2.2)]
    · rw [if_neg (by simpa using h2), if_neg (fun h => h2 h.2.1)]
  · rw [if_neg (by simpa using h1), if_neg (fun h => h1 h.1)]
theorem putClass_ref (a b c : Int) : antiphonref6_PutClass.f a b c = some (putClassL a b c) := by
  unfold antiphonref6_PutClass.f putClassL
  by_cases h : (0 ≤ a ∧ a ≤ 255) ∧ (0 ≤ b ∧ b ≤ 31) ∧ (0 ≤ c ∧ c ≤ 127)
  · rw [if_pos h, if_neg (by omega), if_neg (by omega), if_neg (by omega), if_neg (by omega), if_neg (by omega), if_neg (by omega), w64 (2 * c) (by omega) (by omega), Int.emod_eq_of_lt (a := a) (by omega) (by omega), Int.emod_eq_of_lt (a := b) (by omega) (by omega), Int.emod_eq_of_lt (a := 2 * c) (by omega) (by omega)]
  · rw [if_neg h]
    repeat' split
    all_goals first | rfl | (exfalso; omega)
def getClassL : List Int → Int × Int × Int × Int
  | [a, b, c] => if b > 31 ∨ c % 2 = 1 then (0, 0, 0, 4) else (a, b, c / 2, 0)
  | l => if l.length < 3 then (0, 0, 0, 2) else (0, 0, 0, 3)
theorem getClassL3 (a b c : Int) : getClassL [a, b, c] = if b > 31 ∨ c % 2 = 1 then (0, 0, 0, 4) else (a, b, c / 2, 0) := rfl
theorem get1 (k : Nat) {x : Int} (h : 0 ≤ x ∧ x < 256) : octet_Get.f (k + 10) [x] = some x := by
  rw [get_seat _ (by intro y hy; simp at hy; rw [hy]; exact h)]; simp [getL, numL]
theorem getClass_seat (k : Nat) (l : List Int) (hb : Bytes l) : field_GetClass.f (k + 10) l = some (getClassL l) := by
  match l, hb with
  | [], _ => rfl
  | [_], _ => rfl
  | [_, _], _ => rfl
  | [a, b, c], hb =>
    have ha := hb a (by simp)
    have hb' := hb b (by simp)
    have hc := hb c (by simp)
    rw [getClassL3]
    unfold field_GetClass.f
    rw [if_neg (by simp), if_neg (by simp)]
    show (octet_Get.f (k + 10) [a]).bind (fun t1 => (octet_Get.f (k + 10) [b]).bind fun t2 => (octet_Get.f (k + 10) [c]).bind fun t3 => _) = _
    rw [get1 k ha, get1 k hb', get1 k hc]
    simp only [Option.bind_some]
    rw [g_and1 hc]
    by_cases h1 : b > 31
    · rw [if_pos h1, if_pos (.inl h1)]
    · by_cases h2 : c % 2 = 0
      · rw [if_neg h1, if_pos h2, if_neg (by omega)]
      · rw [if_neg h1, if_neg h2, if_pos (by omega)]
  | a :: b :: c :: d :: r, _ =>
    unfold field_GetClass.f
    rw [if_neg (by simp; omega), if_pos (by simp; omega)]
    show some (0, 0, 0, 3) = some (if (a :: b :: c :: d :: r).length < 3 then ((0, 0, 0, 2) : Int × Int × Int × Int) else (0, 0, 0, 3))
    rw [if_neg (by simp)]
theorem getClass_ref (l : List Int) (hb : Bytes l) : antiphonref6_GetClass.f l = some (getClassL l) := by
  match l, hb with
  | [], _ => rfl
  | [_], _ => rfl
  | [_, _], _ => rfl
  | [a, b, c], hb =>
    have ha := hb a (by simp)
    have hb' := hb b (by simp)
    have hc := hb c (by simp)
    rw [getClassL3]
    unfold antiphonref6_GetClass.f
    rw [show (([a, b, c] : List Int).length : Int) = 3 from rfl, if_neg (show ¬ (3 : Int) < 3 by decide), if_neg (show ¬ (3 : Int) > 3 by decide), if_pos (show (1 : Int) < 3 by decide), if_pos (show (2 : Int) < 3 by decide), if_pos (show (0 : Int) < 3 by decide)]
    show (if b > 31 then _ else if Go.bits .and .u8 c 1 = 1 then _ else some (wrap64 a, wrap64 b, wrap64 (Int.tdiv (wrap64 c) 2), 0)) = _
    rw [g_and1u hc, w64 a (by omega) (by omega), w64 b (by omega) (by omega), w64 c (by omega) (by omega), tdiv2 hc.1, w64 (c / 2) (by omega) (by omega)]
    by_cases h1 : b > 31
    · rw [if_pos h1, if_pos (.inl h1)]
    · by_cases h2 : c % 2 = 1
      · rw [if_neg h1, if_pos h2, if_pos (.inr h2)]
      · rw [if_neg h1, if_neg h2, if_neg (by omega)]
  | a :: b :: c :: d :: r, _ =>
    unfold antiphonref6_GetClass.f
    rw [if_neg (by simp; omega), if_pos (by simp; omega)]
    show some (0, 0, 0, 3) = some (if (a :: b :: c :: d :: r).length < 3 then ((0, 0, 0, 2) : Int × Int × Int × Int) else (0, 0, 0, 3))
    rw [if_neg (by simp)]
def putStatusL (s : Int) (l : List Int) : List Int × Int := if 0 ≤ s ∧ s ≤ 255 then (s :: l, 0) else ([], 1)
theorem putStatus_seat (s : Int) (l : List Int) (hl : l.length ≤ 2000) : field_PutStatus.f s l = some (putStatusL s l) := by
  unfold field_PutStatus.f putStatusL
  rw [within_f, Option.bind_some]
  by_cases h : 0 ≤ s ∧ s ≤ 255
  · rw [if_pos (decide_eq_true h), Option.bind_some, if_pos (by simp; omega), if_pos h, Int.emod_eq_of_lt (by omega) (by omega)]; rfl
  · rw [if_neg (by simpa using h), if_neg h]
theorem putStatus_ref (s : Int) (l : List Int) (hl : l.length ≤ 2000) : antiphonref6_PutStatus.f s l = some (putStatusL s l) := by
  unfold antiphonref6_PutStatus.f putStatusL
  by_cases h : 0 ≤ s ∧ s ≤ 255
  · rw [if_neg (by omega), if_neg (by omega), Option.bind_some, if_pos (by simp; omega), if_pos h, Int.emod_eq_of_lt (by omega) (by omega)]; rfl
  · rw [if_neg h]
    repeat' split
    all_goals first | rfl | (exfalso; omega)
def getStatusL : List Int → Int × List Int × Int
  | [] => (0, [], 2)
  | a :: l => (a, l, 0)
theorem getStatus_seat (l : List Int) (hb : Bytes l) (hl : l.length ≤ 2000) : field_GetStatus.f l = some (getStatusL l) := by
  match l, hb, hl with
  | [], _, _ => rfl
  | a :: l, hb, hl =>
    have ha := hb a (by simp)
    unfold field_GetStatus.f getStatusL bytes_Clone.f
    rw [if_neg (by simp only [List.length_cons]; omega), if_pos (by simp only [List.length_cons]; omega), if_pos (by simp only [List.length_cons]; omega), if_pos (by simp only [List.length_cons] at hl; simp only [List.drop_succ_cons, List.drop_zero]; omega), Option.bind_some]
    show some (wrap64 a, l, 0) = _
    rw [w64 a (by omega) (by omega)]
theorem getStatus_ref (l : List Int) (hb : Bytes l) (hl : l.length ≤ 2000) (k : Nat) (hk : 2001 ≤ k) : antiphonref6_GetStatus.f k l = some (getStatusL l) := by
  match l, hb, hl with
  | [], _, _ => rfl
  | a :: l, hb, hl =>
    have ha := hb a (by simp)
    unfold antiphonref6_GetStatus.f getStatusL
    rw [if_neg (by simp only [List.length_cons]; omega), if_pos (by simp only [List.length_cons]; omega), if_pos (by simp only [List.length_cons]; omega), copy_le _ 2000 k hk (by simp only [List.length_cons] at hl; simp only [List.drop_succ_cons, List.drop_zero]; omega) (by omega), Option.bind_some]
    show some (wrap64 a, l, 0) = _
    rw [w64 a (by omega) (by omega)]
def numberL (n : Int) : List Int := if 0 ≤ n ∧ n < 4294967296 then beN 4 n else [0, 0, 0, 0]
theorem numberL_len (n : Int) : (numberL n).length = 4 := by unfold numberL; split; exact beN_length 4 n; rfl
theorem numberL_bytes (n : Int) : Bytes (numberL n) := by
  unfold numberL; split
  · exact beN_bytes 4 n
  · intro x hx; simp at hx; omega
theorem put4 (n : Int) : putL n 4 = if 0 ≤ n ∧ n < 4294967296 then beN 4 n else [] := by
  unfold putL
  have hp : (2 : Int) ^ (8 * (4 : Int).toNat) = 4294967296 := by decide
  rw [hp]
  by_cases h : 0 ≤ n ∧ n < 4294967296
  · rw [if_pos h]; exact if_pos ⟨by decide, by decide, h.1, h.2⟩
  · rw [if_neg h]; exact if_neg (fun e => h ⟨e.2.2.1, e.2.2.2⟩)
theorem number_seat (k : Nat) (n : Int) : field_Number.f (k + 10) n = some (numberL n) := by
  unfold field_Number.f numberL
  rw [put_seat, Option.bind_some, put4]
  by_cases h : 0 ≤ n ∧ n < 4294967296
  · rw [if_pos h, if_pos h, if_pos (by rw [beN_length]; decide)]
  · rw [if_neg h, if_neg h, if_neg (by decide), if_pos (by decide)]; rfl
theorem number_ref (k : Nat) (n : Int) : antiphonref6_Number.f (k + 10) n = some (numberL n) := by
  unfold antiphonref6_Number.f numberL
  by_cases h : 0 ≤ n ∧ n < 4294967296
  · rw [if_neg (by omega), if_neg (by omega), put_ref, Option.bind_some, put4, if_pos h, if_pos h]
  · rw [if_neg h]
    repeat' split
    all_goals first | rfl | (exfalso; omega)
def readNumL (l : List Int) : Int × Bool := if l.length = 4 then (getL l, true) else (0, false)
theorem readNum_seat (k : Nat) (l : List Int) (hb : Bytes l) : field_ReadNumber.f (k + 10) l = some (readNumL l) := by
  unfold field_ReadNumber.f readNumL
  by_cases h : l.length = 4
  · rw [if_pos (by omega), if_pos h, get_seat l hb, Option.bind_some]
  · rw [if_neg (by omega), if_neg h]
theorem readNum_ref (k : Nat) (l : List Int) (hb : Bytes l) : antiphonref6_ReadNumber.f (k + 11) l = some (readNumL l) := by
  unfold antiphonref6_ReadNumber.f readNumL
  by_cases h : l.length = 4
  · rw [if_pos (by omega), if_pos h, get_ref l hb, Option.bind_some]
  · rw [if_neg (by omega), if_neg h]
theorem read_number (n : Int) (h : 0 ≤ n) (h' : n < 4294967296) : readNumL (numberL n) = (n, true) := by
  unfold readNumL
  rw [if_pos (numberL_len n)]
  unfold getL
  rw [if_pos (by rw [numberL_len]; decide)]
  unfold numberL
  rw [if_pos ⟨h, h'⟩, num_be 4 n h h']
end Go.Proofs.Ytnmcoebjkfpmjaa.LibG
