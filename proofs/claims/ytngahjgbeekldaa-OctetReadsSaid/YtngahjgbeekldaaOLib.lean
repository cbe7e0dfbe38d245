-- Written by this session: what the octets' functions compute, in plain words (wip/tpl/OLib.tpl; the marks are filled in by wip/tpl/fill.py).
import Derived.Test.YtngahjgbeekldaaPx12
import Derived.Test.YtngahjgbeekldaaPx13
import Derived.Test.YtngahjgbeekldaaPx14
import Derived.Test.YtngahjgbeekldaaPx15
import Derived.Test.YtngahjgbeekldaaPx16
import Derived.Test.YtngahjgbeekldaaPx29
namespace Go.Proofs.Ytngahjgbeekldaa.Lib
set_option linter.unusedSimpArgs false
set_option linter.unusedVariables false
open Go.RowKit Go.Proofs.Ytngahjgbeekldaa.P Go.Proofs.YtngahjgbeekldaaW.PrintWords Go.Proofs.YtngahjgbeekldaaW.PrintLast Go.Proofs.YtngahjgbeekldaaW.PrintMore

theorem w64 (a : Int) (h : -9223372036854775808 ≤ a) (h' : a ≤ 9223372036854775807) : wrap64 a = a := by unfold wrap64; omega
theorem wraps_i64 (n : Int) (h₀ : 0 ≤ n) (h₁ : n < 2 ^ 62) : IntKind.i64.wrap n = n := by rw [i64_w]; exact w64 n (by omega) (by omega)
theorem or_join (i : Nat) (x y : Int) (hx₀ : 0 ≤ x) (hx : x % 2 ^ i = 0) (hx₁ : x < 2 ^ 62) (hy₀ : 0 ≤ y) (hy : y < 2 ^ i) (hy₁ : y < 2 ^ 62) : Go.bits .or .i64 x y = x + y :=
  bits_join .i64 62 (by decide) wraps_i64 i x y hx₀ hx hx₁ hy₀ hy hy₁
theorem or256 (a x : Int) (ha : 0 ≤ a) (ha' : a * 256 < 2 ^ 62) (hx : 0 ≤ x) (hx' : x < 256) : Go.bits .or .i64 (a * 256) x = a * 256 + x :=
  or_join 8 (a * 256) x (by omega) (by omega) ha' hx hx' (by omega)
theorem rd_at {l : List Int} {i : Nat} (h : i < l.length) : rd l (i : Int) = l[i] := by
  unfold rd; rw [Int.toNat_natCast, List.getD_eq_getElem?_getD, List.getElem?_eq_getElem h]; rfl
theorem drop_at {l : List Int} {i : Nat} (h : i < l.length) : l.drop i = rd l (i : Int) :: l.drop (i + 1) := by
  rw [rd_at h]; exact List.drop_eq_getElem_cons h

/-- Same: whether two rows are one. -/
theorem same_l0 (a b : List Int) (h : a.length = b.length) (hl : a.length < 9223372036854775807) (k : Nat) : ∀ (m i : Nat), i + m = a.length → antiphonref1_Same.l0 (m + 1 + k) a b (i : Int) = some (decide (a.drop i = b.drop i))
  | 0, i, hi => by
    rw [show 0 + 1 + k = k + 1 by omega, antiphonref1_Same.l0, if_neg (by omega), List.drop_eq_nil_of_le (by omega), List.drop_eq_nil_of_le (by omega)]
    rfl
  | m + 1, i, hi => by
    rw [show m + 1 + 1 + k = (m + 1 + k) + 1 by omega, antiphonref1_Same.l0, if_pos (by omega), if_pos (by omega), if_pos (by omega), w64 _ (by omega) (by omega)]
    rw [drop_at (show i < a.length by omega), drop_at (show i < b.length by omega)]
    by_cases hc : rd a i = rd b i
    · rw [if_pos hc, show ((i : Int) + 1) = ((i + 1 : Nat) : Int) by omega, same_l0 a b h hl k m (i + 1) (by omega)]
      simp [hc]
    · rw [if_neg hc]
      simp [hc]
theorem same_ref (a b : List Int) (hl : a.length < 9223372036854775807) (k : Nat) : antiphonref1_Same.f (a.length + 1 + k) a b = some (decide (a = b)) := by
  unfold antiphonref1_Same.f
  by_cases h : a.length = b.length
  · rw [if_pos (by omega)]
    have := same_l0 a b h hl k a.length 0 (by omega)
    simpa using this
  · rw [if_neg (by omega), decide_eq_false (fun e => h (by rw [e]))]

/-- Copy: the row itself. -/
theorem copy_l0 (a : List Int) (hl : a.length ≤ 140737488355328) (k : Nat) : ∀ (m i : Nat) (acc : List Int), i + m = a.length → acc.length = i → antiphonref1_Copy.l0 (m + 1 + k) a acc (i : Int) = some (acc ++ a.drop i)
  | 0, i, acc, hi, ha => by
    rw [show 0 + 1 + k = k + 1 by omega, antiphonref1_Copy.l0, if_neg (by omega), List.drop_eq_nil_of_le (by omega), List.append_nil]
  | m + 1, i, acc, hi, ha => by
    rw [show m + 1 + 1 + k = (m + 1 + k) + 1 by omega, antiphonref1_Copy.l0, if_pos (by omega), if_pos (by omega), if_pos (by omega), w64 _ (by omega) (by omega)]
    rw [drop_at (show i < a.length by omega), show ((i : Int) + 1) = ((i + 1 : Nat) : Int) by omega, copy_l0 a hl k m (i + 1) _ (by omega) (by simp [ha])]
    simp
theorem copy_ref (a : List Int) (hl : a.length ≤ 140737488355328) (k : Nat) : antiphonref1_Copy.f (a.length + 1 + k) a = some a := by
  have := copy_l0 a hl k a.length 0 [] (by omega) rfl
  simpa [antiphonref1_Copy.f] using this

/-- A number in w bytes. -/
def beN : Nat → Int → List Int
  | 0, _ => []
  | w + 1, n => n / 2 ^ (8 * w) % 256 :: beN w n
theorem beN_length : ∀ (w : Nat) (n : Int), (beN w n).length = w
  | 0, _ => rfl
  | w + 1, n => by rw [beN, List.length_cons, beN_length w n]
theorem beN_bytes : ∀ (w : Nat) (n : Int), ∀ x ∈ beN w n, 0 ≤ x ∧ x < 256
  | 0, _, x, h => by cases h
  | w + 1, n, x, h => by
    rcases List.mem_cons.1 h with rfl | h
    · omega
    · exact beN_bytes w n x h
theorem shr_i64 (n : Int) (j : Nat) (h : j ≤ 64) : shr .i64 n (j : Int) = n / 2 ^ j := by
  unfold shr; rw [Int.toNat_natCast, Nat.min_eq_left (by simpa [IntKind.bits] using h)]
theorem put_l0 (n : Int) (k : Nat) : ∀ (m : Nat) (acc : List Int), m ≤ 7 → acc.length + m ≤ 100 → octet_Put.l0 (m + 1 + k) n acc ((m : Int) - 1) = some (acc ++ beN m n)
  | 0, acc, _, _ => by rw [show 0 + 1 + k = k + 1 by omega, octet_Put.l0, if_neg (by omega), beN, List.append_nil]
  | m + 1, acc, hm, ha => by
    have e : ((m + 1 : Nat) : Int) - 1 = (m : Int) := by omega
    rw [e, show m + 1 + 1 + k = (m + 1 + k) + 1 by omega, octet_Put.l0, if_pos (by omega), w64 (8 * (m : Int)) (by omega) (by omega), if_pos (by omega), if_pos (by omega), w64 _ (by omega) (by omega)]
    rw [show (8 * (m : Int)) = ((8 * m : Nat) : Int) by omega, shr_i64 _ _ (by omega), put_l0 n k m _ (by omega) (by rw [List.length_append, List.length_singleton]; omega), beN]
    simp
def putL (n width : Int) : List Int := if 1 ≤ width ∧ width ≤ 7 ∧ 0 ≤ n ∧ n < 2 ^ (8 * width.toNat) then beN width.toNat n else []
theorem div_ne (n : Int) (p : Nat) (h0 : 0 ≤ n) : (n / 2 ^ p != 0) = decide (¬ n < 2 ^ p) := by
  have hp : (0 : Int) < 2 ^ p := Int.pow_pos (by omega)
  by_cases h : n < 2 ^ p
  · rw [Int.ediv_eq_zero_of_lt h0 h]; simp [h]
  · have h1 : 1 ≤ n / 2 ^ p := by
      rw [Int.le_ediv_iff_mul_le hp]; omega
    rw [bne_iff_ne.mpr (by omega)]; simp [h]
theorem put_seat (n width : Int) (k : Nat) : octet_Put.f (k + 10) n width = some (putL n width) := by
  have hj : octet_Put.j0 (k + 10) n width true = some [] := rfl
  unfold octet_Put.f octet_may.f putL
  by_cases hw : 1 ≤ width ∧ width ≤ 7
  · rw [if_pos (show width ≥ 1 from hw.1), decide_eq_true hw.2, Option.bind_some, if_pos rfl]
    by_cases h0 : 0 ≤ n
    · rw [if_neg (by omega), w64 (8 * width) (by omega) (by omega), if_pos (by omega)]
      obtain ⟨m, hm⟩ : ∃ m : Nat, width = (m : Int) := ⟨width.toNat, by omega⟩
      subst hm
      rw [show (8 * (m : Int)) = ((8 * m : Nat) : Int) by omega, shr_i64 _ _ (by omega), Int.toNat_natCast, div_ne _ _ h0]
      by_cases hn : n < 2 ^ (8 * m)
      · rw [if_pos ⟨hw.1, hw.2, h0, hn⟩, decide_eq_false (by simpa using hn), octet_Put.j0, if_neg (by decide), w64 _ (by omega) (by omega)]
        have := put_l0 n (k + 9 - (m + 1)) m [] (by omega) (by simp; omega)
        rw [show m + 1 + (k + 9 - (m + 1)) = k + 9 by omega] at this
        simpa using this
      · rw [if_neg (fun h => hn h.2.2.2), decide_eq_true hn, hj]
    · rw [if_pos (by omega), if_neg (fun h => h0 h.2.2.1), hj]
  · by_cases h1 : width ≥ 1
    · rw [if_pos h1, decide_eq_false (fun h => hw ⟨h1, h⟩), Option.bind_some, if_neg (by decide), if_neg (fun h => hw ⟨h.1, h.2.1⟩), hj]
    · rw [if_neg h1, Option.bind_some, if_neg (by decide), if_neg (fun h => hw ⟨h.1, h.2.1⟩), hj]
theorem u64_small (n : Int) (h : 0 ≤ n) (h' : n < 1000) : IntKind.u64.wrap n = n := by
  have : ∀ j : Fin 1000, IntKind.u64.wrap (j.val : Int) = (j.val : Int) := by decide +kernel
  have := this ⟨n.toNat, by omega⟩
  rwa [show ((n.toNat : Nat) : Int) = n by omega] at this
theorem rput_l0 (n : Int) (k : Nat) : ∀ (m : Nat) (acc : List Int), m ≤ 7 → acc.length + m ≤ 100 → antiphonref1_Put.l0 (m + 1 + k) n acc ((m : Int) - 1) = some (acc ++ beN m n)
  | 0, acc, _, _ => by rw [show 0 + 1 + k = k + 1 by omega, antiphonref1_Put.l0, if_neg (by omega), beN, List.append_nil]
  | m + 1, acc, hm, ha => by
    have e : ((m + 1 : Nat) : Int) - 1 = (m : Int) := by omega
    rw [e, show m + 1 + 1 + k = (m + 1 + k) + 1 by omega, antiphonref1_Put.l0, if_pos (by omega), w64 (8 * (m : Int)) (by omega) (by omega), u64_small _ (by omega) (by omega), if_pos (by omega), if_pos (by omega), w64 _ (by omega) (by omega)]
    rw [show (8 * (m : Int)) = ((8 * m : Nat) : Int) by omega, shr_i64 _ _ (by omega), rput_l0 n k m _ (by omega) (by rw [List.length_append, List.length_singleton]; omega), beN]
    simp
theorem shl_one (m : Nat) (h : m ≤ 7) : shl .i64 1 ((8 * m : Nat) : Int) = 2 ^ (8 * m) := by
  have : ∀ j : Fin 8, shl .i64 1 ((8 * j.val : Nat) : Int) = 2 ^ (8 * j.val) := by decide +kernel
  exact this ⟨m, by omega⟩
theorem put_ref (n width : Int) (k : Nat) : antiphonref1_Put.f (k + 10) n width = some (putL n width) := by
  have hj : antiphonref1_Put.j0 (k + 10) n width true = some [] := rfl
  unfold antiphonref1_Put.f putL
  by_cases h1 : width < 1
  · rw [if_pos h1, if_neg (fun h => by omega), hj]
  by_cases h7 : width > 7
  · rw [if_neg h1, if_pos h7, if_neg (fun h => by omega), hj]
  by_cases h0 : n < 0
  · rw [if_neg h1, if_neg h7, if_pos h0, if_neg (fun h => by omega), hj]
  rw [if_neg h1, if_neg h7, if_neg h0, w64 (8 * width) (by omega) (by omega), u64_small _ (by omega) (by omega), if_pos (by omega)]
  obtain ⟨m, hm⟩ : ∃ m : Nat, width = (m : Int) := ⟨width.toNat, by omega⟩
  subst hm
  rw [show (8 * (m : Int)) = ((8 * m : Nat) : Int) by omega, shl_one m (by omega), Int.toNat_natCast]
  by_cases hn : n < 2 ^ (8 * m)
  · rw [if_pos ⟨by omega, by omega, by omega, hn⟩, decide_eq_false (by simpa using hn), antiphonref1_Put.j0, if_neg (by decide), w64 _ (by omega) (by omega)]
    have := rput_l0 n (k + 9 - (m + 1)) m [] (by omega) (by simp; omega)
    rw [show m + 1 + (k + 9 - (m + 1)) = k + 9 by omega] at this
    simpa using this
  · rw [if_neg (fun h => hn h.2.2.2), decide_eq_true (by simpa using hn), hj]

/-- The number that bytes are. -/
def numL (l : List Int) : Int := l.foldl (fun a x => a * 256 + x) 0
def getL (l : List Int) : Int := if 1 ≤ l.length ∧ l.length ≤ 7 then numL l else 0
def Bytes (l : List Int) : Prop := ∀ x ∈ l, 0 ≤ x ∧ x < 256
theorem bytes_rd {l : List Int} (h : Bytes l) {i : Nat} (hi : i < l.length) : 0 ≤ rd l (i : Int) ∧ rd l (i : Int) < 256 := by
  rw [rd_at hi]; exact h _ (List.getElem_mem hi)
theorem get_step (acc x : Int) (i : Nat) (hi : i ≤ 6) (h0 : 0 ≤ acc) (h1 : acc < 256 ^ i) (hx : 0 ≤ x ∧ x < 256) :
    Go.bits .or .i64 (wrap64 (acc * 256)) (wrap64 x) = acc * 256 + x ∧ 0 ≤ acc * 256 + x ∧ acc * 256 + x < 256 ^ (i + 1) := by
  have hp : (256 : Int) ^ i ≤ 256 ^ 6 := by
    have : i = 0 ∨ i = 1 ∨ i = 2 ∨ i = 3 ∨ i = 4 ∨ i = 5 ∨ i = 6 := by omega
    rcases this with h | h | h | h | h | h | h <;> subst h <;> decide
  have hq : acc < 281474976710656 := by omega
  rw [w64 _ (by omega) (by omega), w64 _ (by omega) (by omega)]
  refine ⟨or256 acc x h0 (by omega) hx.1 hx.2, by omega, ?_⟩
  rw [Int.pow_succ]; omega
theorem get_l0 (l : List Int) (hb : Bytes l) (hl : l.length ≤ 7) (k : Nat) : ∀ (m i : Nat) (acc : Int), i + m = l.length → 0 ≤ acc → acc < 256 ^ i →
    octet_Get.l0 (m + 1 + k) acc l (l.length : Int) (i : Int) = some ((l.drop i).foldl (fun a x => a * 256 + x) acc)
  | 0, i, acc, hi, _, _ => by rw [show 0 + 1 + k = k + 1 by omega, octet_Get.l0, if_neg (by omega), List.drop_eq_nil_of_le (by omega)]; rfl
  | m + 1, i, acc, hi, h0, h1 => by
    obtain ⟨e, s0, s1⟩ := get_step acc (rd l (i : Int)) i (by omega) h0 h1 (bytes_rd hb (by omega))
    rw [show m + 1 + 1 + k = (m + 1 + k) + 1 by omega, octet_Get.l0, if_pos (by omega), if_pos (by omega), if_pos (by omega), e, w64 _ (by omega) (by omega), show ((i : Int) + 1) = ((i + 1 : Nat) : Int) by omega,
      get_l0 l hb hl k m (i + 1) _ (by omega) s0 s1, drop_at (show i < l.length by omega)]
    rfl
theorem get_seat (l : List Int) (hb : Bytes l) (k : Nat) : octet_Get.f (k + 10) l = some (getL l) := by
  unfold octet_Get.f octet_may.f getL
  by_cases h1 : 1 ≤ l.length
  · rw [if_pos (by omega)]
    by_cases h7 : l.length ≤ 7
    · rw [decide_eq_true (by omega), Option.bind_some, if_pos rfl, if_pos ⟨h1, h7⟩]
      have := get_l0 l hb h7 (k + 10 - (l.length + 1)) l.length 0 0 (by omega) (by omega) (by decide)
      rw [show l.length + 1 + (k + 10 - (l.length + 1)) = k + 10 by omega] at this
      simpa [numL] using this
    · rw [decide_eq_false (by omega), Option.bind_some, if_neg (by decide), if_neg (fun h => h7 h.2)]
  · rw [if_neg (by omega), Option.bind_some, if_neg (by decide), if_neg (fun h => h1 h.1)]
theorem rget_l0 (l : List Int) (hb : Bytes l) (hl : l.length ≤ 7) (k : Nat) : ∀ (m i : Nat) (acc : Int), i + m = l.length → 0 ≤ acc → acc < 256 ^ i →
    antiphonref1_Get.l0 (m + 1 + k) l acc (i : Int) = some ((l.drop i).foldl (fun a x => a * 256 + x) acc)
  | 0, i, acc, hi, _, _ => by rw [show 0 + 1 + k = k + 1 by omega, antiphonref1_Get.l0, if_neg (by omega), List.drop_eq_nil_of_le (by omega)]; rfl
  | m + 1, i, acc, hi, h0, h1 => by
    obtain ⟨e, s0, s1⟩ := get_step acc (rd l (i : Int)) i (by omega) h0 h1 (bytes_rd hb (by omega))
    rw [show m + 1 + 1 + k = (m + 1 + k) + 1 by omega, antiphonref1_Get.l0, if_pos (by omega), if_pos (by omega), e, w64 _ (by omega) (by omega), show ((i : Int) + 1) = ((i + 1 : Nat) : Int) by omega,
      rget_l0 l hb hl k m (i + 1) _ (by omega) s0 s1, drop_at (show i < l.length by omega)]
    rfl
theorem get_ref (l : List Int) (hb : Bytes l) (k : Nat) : antiphonref1_Get.f (k + 11) l = some (getL l) := by
  have hj : antiphonref1_Get.j0 (k + 11) l true = some 0 := rfl
  unfold antiphonref1_Get.f getL
  by_cases h1 : l.length = 0
  · rw [if_pos (by omega), hj, if_neg (fun h => by omega)]
  rw [if_neg (by omega)]
  by_cases h7 : l.length ≤ 7
  · rw [decide_eq_false (by omega), antiphonref1_Get.j0, if_neg (by decide), if_pos ⟨by omega, h7⟩]
    have := rget_l0 l hb h7 (k + 10 - (l.length + 1)) l.length 0 0 (by omega) (by omega) (by decide)
    rw [show l.length + 1 + (k + 10 - (l.length + 1)) = k + 10 by omega] at this
    simpa [numL] using this
  · rw [decide_eq_true (by omega), if_neg (fun h => h7 h.2), hj]

/-- There and back. -/
theorem num_snoc (l : List Int) (x : Int) : numL (l ++ [x]) = numL l * 256 + x := by unfold numL; rw [List.foldl_append]; rfl
theorem foldl_be (w : Nat) : ∀ (n a : Int), 0 ≤ n → (beN w n).foldl (fun a x => a * 256 + x) a = a * 256 ^ w + n % 256 ^ w := by
  induction w with
  | zero => intro n a h; simp [beN, Int.emod_one]
  | succ w ih =>
    intro n a h
    rw [beN, List.foldl_cons, ih n _ h, show (2 : Int) ^ (8 * w) = 256 ^ w by rw [Int.pow_mul]; rfl]
    have h1 : n % 256 ^ (w + 1) = n / 256 ^ w % 256 * 256 ^ w + n % 256 ^ w := by
      have e1 := Int.mul_ediv_add_emod n (256 ^ w)
      have e2 := Int.mul_ediv_add_emod (n / 256 ^ w) 256
      rw [Int.pow_succ, Int.emod_def, ← Int.ediv_ediv_of_nonneg (by exact Int.le_of_lt (Int.pow_pos (by omega)))]
      generalize n / 256 ^ w = q at *
      generalize n % 256 ^ w = r at *
      generalize q / 256 = s at *
      generalize q % 256 = t at *
      generalize (256 : Int) ^ w = p at *
      rw [← e1, ← e2, Int.mul_add, Int.mul_assoc p 256 s, Int.mul_comm t p]
      omega
    rw [h1, Int.pow_succ, Int.add_mul]
    have : a * 256 * 256 ^ w = a * (256 ^ w * 256) := by rw [Int.mul_assoc, Int.mul_comm 256]
    omega
theorem num_be (w : Nat) (n : Int) (h : 0 ≤ n) (h' : n < 2 ^ (8 * w)) : numL (beN w n) = n := by
  unfold numL
  rw [foldl_be w n 0 h, Int.emod_eq_of_lt h (by rwa [show (256 : Int) ^ w = 2 ^ (8 * w) by rw [Int.pow_mul]; rfl])]
  omega
theorem be_snoc (w : Nat) : ∀ n : Int, beN (w + 1) n = beN w (n / 256) ++ [n % 256] := by
  induction w with
  | zero => intro n; simp [beN]
  | succ w ih =>
    intro n
    rw [beN, ih n]
    have : n / 2 ^ (8 * (w + 1)) = n / 256 / 2 ^ (8 * w) := by
      rw [Int.ediv_ediv_of_nonneg (by omega), show (2 : Int) ^ (8 * (w + 1)) = 256 * 2 ^ (8 * w) by rw [show 8 * (w + 1) = 8 + 8 * w by omega, Int.pow_add]; rfl]
    rw [this]
    rfl
theorem num_nonneg (l : List Int) (hb : Bytes l) : 0 ≤ numL l := by
  have : ∀ (l : List Int) (a : Int), Bytes l → 0 ≤ a → 0 ≤ l.foldl (fun a x => a * 256 + x) a := by
    intro l
    induction l with
    | nil => intro a _ h; exact h
    | cons x l ih => intro a hb h; exact ih _ (fun y hy => hb y (List.mem_cons_of_mem _ hy)) (by have := hb x List.mem_cons_self; show 0 ≤ a * 256 + x; omega)
  exact this l 0 hb (by omega)
theorem be_num : ∀ (w : Nat) (l : List Int), l.length = w → Bytes l → beN w (numL l) = l ∧ numL l < 2 ^ (8 * w)
  | 0, l, h, _ => by
    obtain rfl := List.length_eq_zero_iff.1 h
    exact ⟨rfl, by decide⟩
  | w + 1, l, h, hb => by
    rcases List.eq_nil_or_concat l with rfl | ⟨m, x, rfl⟩
    · simp at h
    · rw [List.concat_eq_append] at *
      have hx := hb x (by simp)
      have hm : Bytes m := fun y hy => hb y (by simp [hy])
      obtain ⟨e1, e2⟩ := be_num w m (by simp at h; exact h) hm
      have h0 := num_nonneg m hm
      rw [num_snoc, be_snoc]
      rw [show (numL m * 256 + x) / 256 = numL m by omega, show (numL m * 256 + x) % 256 = x by omega, e1]
      refine ⟨rfl, ?_⟩
      rw [show (2 : Int) ^ (8 * (w + 1)) = 2 ^ (8 * w) * 256 by rw [show 8 * (w + 1) = 8 * w + 8 by omega, Int.pow_add]; rfl]
      omega
theorem num_zeros (j : Nat) (l : List Int) : numL (List.replicate j 0 ++ l) = numL l := by
  unfold numL
  rw [List.foldl_append]
  have : (List.replicate j (0 : Int)).foldl (fun a x => a * 256 + x) 0 = 0 := by
    induction j with
    | zero => rfl
    | succ j ih => rw [List.replicate_succ, List.foldl_cons]; exact ih
  rw [this]
theorem putL_len (n width : Int) : (putL n width).length = 0 ∨ ((putL n width).length = width.toNat ∧ 1 ≤ width ∧ width ≤ 7 ∧ 0 ≤ n ∧ n < 2 ^ (8 * width.toNat) ∧ putL n width = beN width.toNat n) := by
  unfold putL
  by_cases h : 1 ≤ width ∧ width ≤ 7 ∧ 0 ≤ n ∧ n < 2 ^ (8 * width.toNat)
  · rw [if_pos h]; exact .inr ⟨beN_length _ _, h.1, h.2.1, h.2.2.1, h.2.2.2, rfl⟩
  · rw [if_neg h]; exact .inl rfl
theorem putL_le (n width : Int) : (putL n width).length ≤ 7 := by
  rcases putL_len n width with h | ⟨h, h1, h2, _⟩ <;> omega
theorem putL_bytes (n width : Int) : Bytes (putL n width) := by
  rcases putL_len n width with h | ⟨h, _, _, _, _, e⟩
  · rw [List.length_eq_zero_iff.1 h]; intro x hx; cases hx
  · rw [e]; exact beN_bytes _ _
theorem get_put (n width : Int) (h : (putL n width).length ≠ 0) : getL (putL n width) = n := by
  rcases putL_len n width with h' | ⟨hl, h1, h2, h3, h4, e⟩
  · exact absurd h' h
  · unfold getL
    rw [if_pos (by omega), e, num_be _ _ h3 h4]
theorem same_le (a b : List Int) (n k : Nat) (hk : n + 1 ≤ k) (ha : a.length ≤ n) (hn : n < 9223372036854775807) : antiphonref1_Same.f k a b = some (decide (a = b)) := by
  have := same_ref a b (by omega) (k - (a.length + 1))
  rwa [show a.length + 1 + (k - (a.length + 1)) = k by omega] at this
theorem copy_le (a : List Int) (n k : Nat) (hk : n + 1 ≤ k) (ha : a.length ≤ n) (hn : n ≤ 140737488355328) : antiphonref1_Copy.f k a = some a := by
  have := copy_ref a (by omega) (k - (a.length + 1))
  rwa [show a.length + 1 + (k - (a.length + 1)) = k by omega] at this
theorem u8_wf {x : Int} (h : (Lit.int .u8 x).wf = true) : 0 ≤ x ∧ x < 256 := by
  simp [Lit.wf, IntKind.min, IntKind.max, IntKind.signed, IntKind.bits] at h; omega
theorem i64_wf {x : Int} (h : (Lit.int .i64 x).wf = true) : -9223372036854775808 ≤ x ∧ x ≤ 9223372036854775807 := by
  simp [Lit.wf, IntKind.min, IntKind.max, IntKind.signed, IntKind.bits] at h; omega
theorem wf_bytes {l : List Int} (h : ∀ x ∈ l, (Lit.int .u8 x).wf = true) : Bytes l := fun x hx => u8_wf (h x hx)
end Go.Proofs.Ytngahjgbeekldaa.Lib
