/- Any reason: its bytes, or what may not be, and back; any bytes: the reason, or what is wrong, and back. -/
-- Put together by wip/print2/mergelaw.py: printed words (what this claim does not use is left out), printed functions, texts of this session.
import Derived.Test.YtnmcoebjkfpmjaaMFieldReasons4
/-! Px51 -/
namespace Go.Proofs.Ytnmcoebjkfpmjaa.P
open Go.RowKit Go.Proofs.YtnmcoebjkfpmjaaW.PrintWords Go.Proofs.YtnmcoebjkfpmjaaW.PrintLast Go.Proofs.YtnmcoebjkfpmjaaW.PrintMore
attribute [local go_sem] max2_int min2_int max_two min_two max_three min_three max_four min_four   -- for this text's walks alone
set_option linter.unusedVariables false
set_option linter.unusedSimpArgs false
end Go.Proofs.Ytnmcoebjkfpmjaa.P
/-! Px52 -/
namespace Go.Proofs.Ytnmcoebjkfpmjaa.P
open Go.RowKit Go.Proofs.YtnmcoebjkfpmjaaW.PrintWords Go.Proofs.YtnmcoebjkfpmjaaW.PrintLast Go.Proofs.YtnmcoebjkfpmjaaW.PrintMore
attribute [local go_sem] max2_int min2_int max_two min_two max_three min_three max_four min_four   -- for this text's walks alone
set_option linter.unusedVariables false
set_option linter.unusedSimpArgs false
def antiphonref6_GetStatus.T3 : Bool × List (List Nat × List Nat) := (true, [([], []), ([0], [0]), ([1], [1]), ([2], [2]), ([], []), ([4], [4]), ([5], [5]), ([3, 6, 0, 1, 2, 3], [3]), ([6, 7, 0, 1, 2, 3, 4, 5, 6, 7], [6]), ([8, 0, 1, 2, 3, 4, 5, 6, 7, 8], [])])
def antiphonref6_GetStatus.B3 : List Nat := [0, 1, 3, 7, 0, 16, 48, 127, 255, 511]
theorem antiphonref6_GetStatus.tab3 : rtab .any (opsOf Try.f51 3) = antiphonref6_GetStatus.T3 := by kernel_rfl
theorem antiphonref6_GetStatus.bits3 : waitsOk antiphonref6_GetStatus.T3.2 antiphonref6_GetStatus.B3 = true := by kernel_rfl
end Go.Proofs.Ytnmcoebjkfpmjaa.P
/-! Px53 -/
namespace Go.Proofs.Ytnmcoebjkfpmjaa.P
open Go.RowKit Go.Proofs.YtnmcoebjkfpmjaaW.PrintWords Go.Proofs.YtnmcoebjkfpmjaaW.PrintLast Go.Proofs.YtnmcoebjkfpmjaaW.PrintMore
attribute [local go_sem] max2_int min2_int max_two min_two max_three min_three max_four min_four   -- for this text's walks alone
set_option linter.unusedVariables false
set_option linter.unusedSimpArgs false
end Go.Proofs.Ytnmcoebjkfpmjaa.P
/-! Px54 -/
namespace Go.Proofs.Ytnmcoebjkfpmjaa.P
open Go.RowKit Go.Proofs.YtnmcoebjkfpmjaaW.PrintWords Go.Proofs.YtnmcoebjkfpmjaaW.PrintLast Go.Proofs.YtnmcoebjkfpmjaaW.PrintMore
attribute [local go_sem] max2_int min2_int max_two min_two max_three min_three max_four min_four   -- for this text's walks alone
set_option linter.unusedVariables false
set_option linter.unusedSimpArgs false
end Go.Proofs.Ytnmcoebjkfpmjaa.P
/-! LibG -/
namespace Go.Proofs.Ytnmcoebjkfpmjaa.LibG
set_option linter.unusedSimpArgs false
set_option linter.unusedVariables false
open Go.RowKit Go.Proofs.Ytnmcoebjkfpmjaa.P Go.Proofs.Ytnmcoebjkfpmjaa.Lib Go.Proofs.YtnmcoebjkfpmjaaW.PrintWords Go.Proofs.YtnmcoebjkfpmjaaW.PrintLast
theorem byteAll {P : Int → Prop} (H : ∀ j : Fin 256, P (j.val : Int)) {x : Int} (h : 0 ≤ x ∧ x < 256) : P x := by
  have := H ⟨x.toNat, by omega⟩
  rwa [show ((x.toNat : Nat) : Int) = x by omega] at this
theorem g_and1 {x : Int} (h : 0 ≤ x ∧ x < 256) : Go.bits .and .i64 x 1 = x % 2 := byteAll (P := fun x => Go.bits .and .i64 x 1 = x % 2) (by decide +kernel) h
theorem g_and1u {x : Int} (h : 0 ≤ x ∧ x < 256) : Go.bits .and .u8 x 1 = x % 2 := byteAll (P := fun x => Go.bits .and .u8 x 1 = x % 2) (by decide +kernel) h
theorem tdiv2 {x : Int} (h : 0 ≤ x) : Int.tdiv x 2 = x / 2 := Int.tdiv_eq_ediv_of_nonneg h
theorem within_f (x m : Int) : field_within.f x m = some (decide (0 ≤ x ∧ x ≤ m)) := by
  unfold field_within.f
  by_cases h : x ≥ 0
  · rw [if_pos h]; congr 1; by_cases h2 : x ≤ m
    · rw [decide_eq_true h2, decide_eq_true ⟨h, h2⟩]
    · rw [decide_eq_false h2, decide_eq_false (fun e => h2 e.2)]
  · rw [if_neg h, decide_eq_false (fun e => h e.1)]
theorem get1 (k : Nat) {x : Int} (h : 0 ≤ x ∧ x < 256) : octet_Get.f (k + 10) [x] = some x := by
  rw [get_seat _ (by intro y hy; simp at hy; rw [hy]; exact h)]; simp [getL, numL]
end Go.Proofs.Ytnmcoebjkfpmjaa.LibG
/-! LibH -/
namespace Go.Proofs.Ytnmcoebjkfpmjaa.LibG
set_option linter.unusedSimpArgs false
set_option linter.unusedVariables false
open Go.RowKit Go.Proofs.Ytnmcoebjkfpmjaa.P Go.Proofs.Ytnmcoebjkfpmjaa.Lib Go.Proofs.YtnmcoebjkfpmjaaW.PrintWords Go.Proofs.YtnmcoebjkfpmjaaW.PrintLast
def bi (b : Bool) : Int := if b = true then 1 else 0
theorem bi_le (b : Bool) : 0 ≤ bi b ∧ bi b ≤ 1 := by cases b <;> decide
def fiveI (w x y z v : Bool) : Int := bi w + 2 * bi x + 4 * bi y + 8 * bi z + 16 * bi v
theorem five_le (w x y z v : Bool) : 0 ≤ fiveI w x y z v ∧ fiveI w x y z v ≤ 31 := by
  have := bi_le w; have := bi_le x; have := bi_le y; have := bi_le z; have := bi_le v
  unfold fiveI; omega
abbrev ReasonR := Int × Int × Int × Bool × Bool × Bool × Bool × Bool × Bool × Int
def putReasonL (c vs vr : Int) (r w x y z v : Bool) : List Int × Int :=
  if (0 ≤ c ∧ c ≤ 65535) ∧ (0 ≤ vs ∧ vs ≤ 127) ∧ (0 ≤ vr ∧ vr ≤ 127) then ([c / 256, c % 256, 2 * vs, 2 * vr + bi r, fiveI w x y z v], 0) else ([], 1)
theorem put2 (k : Nat) (c : Int) (h : 0 ≤ c ∧ c ≤ 65535) : octet_Put.f (k + 10) c 2 = some [c / 256, c % 256] := by
  rw [put_seat]
  unfold putL
  rw [if_pos ⟨by decide, by decide, h.1, by show c < 65536; omega⟩]
  show some [c / 2 ^ (8 * 1) % 256, c / 2 ^ (8 * 0) % 256] = _
  rw [show (2 : Int) ^ (8 * 1) = 256 by decide, show (2 : Int) ^ (8 * 0) = 1 by decide]
  congr 2
  · omega
  · congr 1; omega
theorem rput2 (k : Nat) (c : Int) (h : 0 ≤ c ∧ c ≤ 65535) : antiphonref1_Put.f (k + 10) c 2 = some [c / 256, c % 256] := by
  rw [put_ref, ← put_seat c 2 k, put2 k c h]
theorem fold1 (k : Nat) (r : Bool) : field_fold_bool.f k [r] 106 = some (bi r) := by
  unfold field_fold_bool.f
  rw [if_pos ⟨rfl, by simp⟩]
  cases r <;> decide +kernel
theorem fold5 (k : Nat) (w x y z v : Bool) : field_fold_bool.f k [w, x, y, z, v] 106 = some (fiveI w x y z v) := by
  unfold field_fold_bool.f
  rw [if_pos ⟨rfl, by simp⟩]
  cases w <;> cases x <;> cases y <;> cases z <;> cases v <;> decide +kernel
theorem or_bi (n : Int) (r : Bool) (h0 : 0 ≤ n) (h1 : n ≤ 127) : Go.bits .or .i64 (2 * n) (bi r) = 2 * n + bi r := by
  have := bi_le r
  exact or_join 1 (2 * n) (bi r) (by omega) (by simp) (by omega) this.1 (by omega) (by omega)
theorem putReason_seat (k : Nat) (c vs vr : Int) (r w x y z v : Bool) : field_PutReason.f (k + 11) c vs vr r w x y z v = some (putReasonL c vs vr r w x y z v) := by
  have hj : field_PutReason.j0 (k + 11) true c vs vr r w x y z v = some ([], 1) := rfl
  unfold field_PutReason.f putReasonL
  rw [within_f, within_f, within_f, Option.bind_some, Option.bind_some, Option.bind_some]
  by_cases h1 : 0 ≤ c ∧ c ≤ 65535
  · rw [if_pos (decide_eq_true h1)]
    by_cases h2 : 0 ≤ vs ∧ vs ≤ 127
    · rw [if_pos (decide_eq_true h2)]
      by_cases h3 : 0 ≤ vr ∧ vr ≤ 127
      · rw [decide_eq_true h3, if_pos ⟨h1, h2, h3⟩, show k + 11 = (k + 10) + 1 by omega, field_PutReason.j0, if_neg (by decide), put2 _ c h1, Option.bind_some, fold1, Option.bind_some, Option.bind_some, if_pos (by simp), Option.bind_some, fold5, Option.bind_some, if_pos (by simp)]
        have := bi_le r
        have := five_le w x y z v
        rw [w64 (2 * vs) (by omega) (by omega), w64 (2 * vr) (by omega) (by omega), or_bi vr r h3.1 h3.2, Int.emod_eq_of_lt (a := 2 * vs) (by omega) (by omega), Int.emod_eq_of_lt (a := 2 * vr + bi r) (by omega) (by omega), Int.emod_eq_of_lt (a := fiveI w x y z v) (by omega) (by omega)]
        rfl
      · rw [decide_eq_false h3, if_neg (fun h => h3 h.2.2)]; exact hj
    · rw [if_neg (by simpa using h2), if_neg (fun h => h2 h.2.1), hj]
  · rw [if_neg (by simpa using h1), if_neg (fun h => h1 h.1), hj]
theorem flag_bi (b : Bool) : antiphonref6_flag.f b = some (bi b) := by cases b <;> rfl
theorem putReason_ref (k : Nat) (c vs vr : Int) (r w x y z v : Bool) : antiphonref6_PutReason.f (k + 11) c vs vr r w x y z v = some (putReasonL c vs vr r w x y z v) := by
  have hj : antiphonref6_PutReason.j0 (k + 11) true c vs vr r w x y z v = some ([], 1) := rfl
  unfold antiphonref6_PutReason.f putReasonL
  by_cases h : (0 ≤ c ∧ c ≤ 65535) ∧ (0 ≤ vs ∧ vs ≤ 127) ∧ (0 ≤ vr ∧ vr ≤ 127)
  · rw [if_pos h, if_neg (by omega), if_neg (by omega), if_neg (by omega), if_neg (by omega), if_neg (by omega), decide_eq_false (by omega), show k + 11 = (k + 10) + 1 by omega, antiphonref6_PutReason.j0, if_neg (by decide)]
    have hr := bi_le r; have hw := bi_le w; have hx := bi_le x; have hy := bi_le y; have hz := bi_le z; have hv := bi_le v
    rw [flag_bi, flag_bi, flag_bi, flag_bi, flag_bi, flag_bi]
    simp only [Option.bind_some]
    rw [rput2 _ c h.1, Option.bind_some, if_pos (by simp)]
    rw [w64 (2 * vs) (by omega) (by omega), w64 (2 * vr) (by omega) (by omega), w64 (2 * vr + bi r) (by omega) (by omega), w64 (2 * bi x) (by omega) (by omega), w64 (4 * bi y) (by omega) (by omega), w64 (8 * bi z) (by omega) (by omega), w64 (16 * bi v) (by omega) (by omega), w64 (bi w + 2 * bi x) (by omega) (by omega), w64 (bi w + 2 * bi x + 4 * bi y) (by omega) (by omega), w64 (bi w + 2 * bi x + 4 * bi y + 8 * bi z) (by omega) (by omega), w64 (bi w + 2 * bi x + 4 * bi y + 8 * bi z + 16 * bi v) (by omega) (by omega),
      Int.emod_eq_of_lt (a := 2 * vs) (by omega) (by omega), Int.emod_eq_of_lt (a := 2 * vr + bi r) (by omega) (by omega), Int.emod_eq_of_lt (a := bi w + 2 * bi x + 4 * bi y + 8 * bi z + 16 * bi v) (by omega) (by omega)]
    rfl
  · rw [if_neg h]
    repeat' split
    all_goals first | exact hj | (exfalso; omega) | (rw [decide_eq_true (by omega)]; exact hj)
def badReason (e : Int) : ReasonR := (0, 0, 0, false, false, false, false, false, false, e)
def getReasonL : List Int → ReasonR
  | [a, b, c, d, e] => if c % 2 = 1 ∨ e > 31 then badReason 4 else (a * 256 + b, c / 2, d / 2, (d % 2 == 1), (e % 2 == 1), (e / 2 % 2 == 1), (e / 4 % 2 == 1), (e / 8 % 2 == 1), (e / 16 % 2 == 1), 0)
  | l => if l.length < 5 then badReason 2 else badReason 3
theorem getReasonL5 (a b c d e : Int) : getReasonL [a, b, c, d, e] = if c % 2 = 1 ∨ e > 31 then badReason 4 else (a * 256 + b, c / 2, d / 2, (d % 2 == 1), (e % 2 == 1), (e / 2 % 2 == 1), (e / 4 % 2 == 1), (e / 8 % 2 == 1), (e / 16 % 2 == 1), 0) := rfl
theorem get2 (k : Nat) {a b : Int} (ha : 0 ≤ a ∧ a < 256) (hb : 0 ≤ b ∧ b < 256) : octet_Get.f (k + 10) [a, b] = some (a * 256 + b) := by
  rw [get_seat _ (by intro y hy; simp at hy; omega)]; simp [getL, numL]
theorem rget2 (k : Nat) {a b : Int} (ha : 0 ≤ a ∧ a < 256) (hb : 0 ≤ b ∧ b < 256) : antiphonref1_Get.f (k + 11) [a, b] = some (a * 256 + b) := by
  rw [get_ref _ (by intro y hy; simp at hy; omega)]; simp [getL, numL]
theorem low_bits {e : Int} (h : 0 ≤ e ∧ e < 256) : (Go.bits .and .i64 e 2 != 0) = (e / 2 % 2 == 1) ∧ (Go.bits .and .i64 e 4 != 0) = (e / 4 % 2 == 1) ∧ (Go.bits .and .i64 e 8 != 0) = (e / 8 % 2 == 1) ∧ (Go.bits .and .i64 e 16 != 0) = (e / 16 % 2 == 1) ∧ (Go.bits .and .i64 e 1 != 0) = (e % 2 == 1) :=
  byteAll (P := fun e => (Go.bits .and .i64 e 2 != 0) = (e / 2 % 2 == 1) ∧ (Go.bits .and .i64 e 4 != 0) = (e / 4 % 2 == 1) ∧ (Go.bits .and .i64 e 8 != 0) = (e / 8 % 2 == 1) ∧ (Go.bits .and .i64 e 16 != 0) = (e / 16 % 2 == 1) ∧ (Go.bits .and .i64 e 1 != 0) = (e % 2 == 1)) (by decide +kernel) h
theorem getReason_seat (k : Nat) (l : List Int) (hb : Bytes l) : field_GetReason.f (k + 10) l = some (getReasonL l) := by
  match l, hb with
  | [], _ => rfl
  | [_], _ => rfl
  | [_, _], _ => rfl
  | [_, _, _], _ => rfl
  | [_, _, _, _], _ => rfl
  | [a, b, c, d, e], hb =>
    have ha := hb a (by simp)
    have hb' := hb b (by simp)
    have hc := hb c (by simp)
    have hd := hb d (by simp)
    have he := hb e (by simp)
    rw [getReasonL5]
    unfold field_GetReason.f
    rw [if_neg (by simp), if_neg (by simp)]
    show (octet_Get.f (k + 10) [a, b]).bind (fun t1 => (octet_Get.f (k + 10) [c]).bind fun t2 => (octet_Get.f (k + 10) [d]).bind fun t3 => (octet_Get.f (k + 10) [e]).bind fun t4 => _) = _
    rw [get2 k ha hb', get1 k hc, get1 k hd, get1 k he]
    simp only [Option.bind_some]
    rw [g_and1 hc, g_and1 hd, g_and1 he, g_and1 (x := e / 2) (by omega), g_and1 (x := e / 4) (by omega), g_and1 (x := e / 8) (by omega), g_and1 (x := e / 16) (by omega)]
    by_cases h2 : c % 2 = 0
    · by_cases h1 : e > 31
      · rw [if_pos h2, if_pos h1, if_pos (.inr h1)]; rfl
      · rw [if_pos h2, if_neg h1, if_neg (by omega)]
    · rw [if_neg h2, if_pos (.inl (by omega))]; rfl
  | a :: b :: c :: d :: e :: g :: r, _ =>
    unfold field_GetReason.f
    rw [if_neg (by simp; omega), if_pos (by simp; omega)]
    show some (badReason 3) = some (if (a :: b :: c :: d :: e :: g :: r).length < 5 then badReason 2 else badReason 3)
    rw [if_neg (by simp)]
theorem getReason_ref (k : Nat) (l : List Int) (hb : Bytes l) : antiphonref6_GetReason.f (k + 11) l = some (getReasonL l) := by
  match l, hb with
  | [], _ => rfl
  | [_], _ => rfl
  | [_, _], _ => rfl
  | [_, _, _], _ => rfl
  | [_, _, _, _], _ => rfl
  | [a, b, c, d, e], hb =>
    have ha := hb a (by simp)
    have hb' := hb b (by simp)
    have hc := hb c (by simp)
    have hd := hb d (by simp)
    have he := hb e (by simp)
    obtain ⟨q2, q4, q8, q16, q1⟩ := low_bits he
    rw [getReasonL5]
    unfold antiphonref6_GetReason.f
    rw [show (([a, b, c, d, e] : List Int).length : Int) = 5 from rfl, if_neg (show ¬ (5 : Int) < 5 by decide), if_neg (show ¬ (5 : Int) > 5 by decide), if_pos (show (2 : Int) < 5 by decide), if_pos (show (4 : Int) < 5 by decide), if_pos (show (2 : Int) ≤ 5 by decide)]
    show (if Go.bits .and .u8 c 1 = 1 then _ else if e > 31 then _ else (antiphonref1_Get.f (k + 11) [a, b]).bind (fun t106 => if (3 : Int) < 5 then some (t106, wrap64 (Int.tdiv (wrap64 c) 2), wrap64 (Int.tdiv (wrap64 d) 2), (Go.bits .and .u8 d 1 == 1), (Go.bits .and .i64 (wrap64 e) 1 != 0), (Go.bits .and .i64 (wrap64 e) 2 != 0), (Go.bits .and .i64 (wrap64 e) 4 != 0), (Go.bits .and .i64 (wrap64 e) 8 != 0), (Go.bits .and .i64 (wrap64 e) 16 != 0), 0) else none)) = _
    rw [rget2 k ha hb', Option.bind_some, if_pos (show (3 : Int) < 5 by decide), w64 c (by omega) (by omega), w64 d (by omega) (by omega), w64 e (by omega) (by omega), tdiv2 hc.1, tdiv2 hd.1, w64 (c / 2) (by omega) (by omega), w64 (d / 2) (by omega) (by omega), g_and1u hc, g_and1u hd, q1, q2, q4, q8, q16]
    by_cases h2 : c % 2 = 1
    · rw [if_pos h2, if_pos (.inl h2)]; rfl
    · by_cases h1 : e > 31
      · rw [if_neg h2, if_pos h1, if_pos (.inr h1)]; rfl
      · rw [if_neg h2, if_neg h1, if_neg (by omega)]
  | a :: b :: c :: d :: e :: g :: r, _ =>
    unfold antiphonref6_GetReason.f
    rw [if_neg (by simp; omega), if_pos (by simp; omega)]
    show some (badReason 3) = some (if (a :: b :: c :: d :: e :: g :: r).length < 5 then badReason 2 else badReason 3)
    rw [if_neg (by simp)]
theorem bi_bit (n : Int) (r : Bool) : (2 * n + bi r) / 2 = n ∧ ((2 * n + bi r) % 2 == 1) = r := by
  cases r with
  | false => exact ⟨by show (2 * n + 0) / 2 = n; omega, by show ((2 * n + 0) % 2 == 1) = false; rw [beq_eq_false_iff_ne]; omega⟩
  | true => exact ⟨by show (2 * n + 1) / 2 = n; omega, by show ((2 * n + 1) % 2 == 1) = true; rw [beq_iff_eq]; omega⟩
theorem five_bits (w x y z v : Bool) : (fiveI w x y z v % 2 == 1) = w ∧ (fiveI w x y z v / 2 % 2 == 1) = x ∧ (fiveI w x y z v / 4 % 2 == 1) = y ∧ (fiveI w x y z v / 8 % 2 == 1) = z ∧ (fiveI w x y z v / 16 % 2 == 1) = v := by
  cases w <;> cases x <;> cases y <;> cases z <;> cases v <;> decide
theorem reason_back (c vs vr : Int) (r w x y z v : Bool) (h : (putReasonL c vs vr r w x y z v).2 = 0) : Bytes (putReasonL c vs vr r w x y z v).1 ∧ getReasonL (putReasonL c vs vr r w x y z v).1 = (c, vs, vr, r, w, x, y, z, v, 0) := by
  unfold putReasonL at h ⊢
  by_cases hc : (0 ≤ c ∧ c ≤ 65535) ∧ (0 ≤ vs ∧ vs ≤ 127) ∧ (0 ≤ vr ∧ vr ≤ 127)
  · rw [if_pos hc]
    have hr := bi_le r
    have hf := five_le w x y z v
    constructor
    · intro q hq
      simp at hq
      omega
    · show getReasonL [c / 256, c % 256, 2 * vs, 2 * vr + bi r, fiveI w x y z v] = _
      obtain ⟨f1, f2, f3, f4, f5⟩ := five_bits w x y z v
      obtain ⟨b1, b2⟩ := bi_bit vr r
      rw [getReasonL5, if_neg (by omega), f1, f2, f3, f4, f5, b1, b2, show c / 256 * 256 + c % 256 = c by omega, show 2 * vs / 2 = vs by omega]
  · rw [if_neg hc] at h; exact absurd h (by decide)
theorem five_of {e : Int} (h0 : 0 ≤ e) (h : ¬ e > 31) : fiveI (e % 2 == 1) (e / 2 % 2 == 1) (e / 4 % 2 == 1) (e / 8 % 2 == 1) (e / 16 % 2 == 1) = e := by
  have H : ∀ j : Fin 32, fiveI ((j.val : Int) % 2 == 1) ((j.val : Int) / 2 % 2 == 1) ((j.val : Int) / 4 % 2 == 1) ((j.val : Int) / 8 % 2 == 1) ((j.val : Int) / 16 % 2 == 1) = (j.val : Int) := by decide +kernel
  have := H ⟨e.toNat, by omega⟩
  rwa [show ((e.toNat : Nat) : Int) = e by omega] at this
theorem reason_forth (l : List Int) (hb : Bytes l) (h : (getReasonL l).2.2.2.2.2.2.2.2.2 = 0) :
    putReasonL (getReasonL l).1 (getReasonL l).2.1 (getReasonL l).2.2.1 (getReasonL l).2.2.2.1 (getReasonL l).2.2.2.2.1 (getReasonL l).2.2.2.2.2.1 (getReasonL l).2.2.2.2.2.2.1 (getReasonL l).2.2.2.2.2.2.2.1 (getReasonL l).2.2.2.2.2.2.2.2.1 = (l, 0) := by
  match l, hb, h with
  | [], _, h => exact absurd (show (2 : Int) = 0 from h) (by decide)
  | [_], _, h => exact absurd (show (2 : Int) = 0 from h) (by decide)
  | [_, _], _, h => exact absurd (show (2 : Int) = 0 from h) (by decide)
  | [_, _, _], _, h => exact absurd (show (2 : Int) = 0 from h) (by decide)
  | [_, _, _, _], _, h => exact absurd (show (2 : Int) = 0 from h) (by decide)
  | [a, b, c, d, e], hb, h =>
    have ha := hb a (by simp)
    have hb' := hb b (by simp)
    have hc := hb c (by simp)
    have hd := hb d (by simp)
    have he := hb e (by simp)
    rw [getReasonL5] at h ⊢
    by_cases h2 : c % 2 = 1 ∨ e > 31
    · rw [if_pos h2] at h; exact absurd h (by decide)
    · rw [if_neg h2]
      show putReasonL (a * 256 + b) (c / 2) (d / 2) (d % 2 == 1) (e % 2 == 1) (e / 2 % 2 == 1) (e / 4 % 2 == 1) (e / 8 % 2 == 1) (e / 16 % 2 == 1) = _
      unfold putReasonL
      rw [if_pos (by omega), five_of he.1 (by omega), show (a * 256 + b) / 256 = a by omega, show (a * 256 + b) % 256 = b by omega, show 2 * (c / 2) = c by omega]
      have hbit : 2 * (d / 2) + bi (d % 2 == 1) = d := by
        have h : d % 2 = 0 ∨ d % 2 = 1 := by omega
        rcases h with h | h <;> rw [h]
        · rw [show bi ((0 : Int) == 1) = 0 from rfl]; omega
        · rw [show bi ((1 : Int) == 1) = 1 from rfl]; omega
      rw [hbit]
  | a :: b :: c :: d :: e :: g :: r, _, h =>
    have : getReasonL (a :: b :: c :: d :: e :: g :: r) = badReason 3 := by
      show (if (a :: b :: c :: d :: e :: g :: r).length < 5 then badReason 2 else badReason 3) = _
      rw [if_neg (by simp)]
    rw [this] at h
    exact absurd h (by decide)
end Go.Proofs.Ytnmcoebjkfpmjaa.LibG
/-! PureFieldReasons -/
namespace Go.Proofs.Ytnmcoebjkfpmjaa.Pure
open Go.RowKit Go.Proofs.Ytnmcoebjkfpmjaa.P Go.Proofs.Ytnmcoebjkfpmjaa.Lib Go.Proofs.Ytnmcoebjkfpmjaa.LibG Go.Proofs.YtnmcoebjkfpmjaaW.PrintWords Go.Proofs.YtnmcoebjkfpmjaaW.PrintLast
theorem putReason_len (c vs vr : Int) (r w x y z v : Bool) : (putReasonL c vs vr r w x y z v).1.length ≤ 5 := by unfold putReasonL; split <;> simp
theorem reasons_j1 (k : Nat) (b : List Int) (hb : Bytes b) (hl : b.length ≤ 50) (g : ReasonR) (hg : g = getReasonL b) :
    antiphonlaw7_FieldReasons.j1 (k + 101) b g.2.2.2.2.2.2.2.2.2 g.1 g.2.1 g.2.2.1 g.2.2.2.1 g.2.2.2.2.1 g.2.2.2.2.2.1 g.2.2.2.2.2.2.1 g.2.2.2.2.2.2.2.1 g.2.2.2.2.2.2.2.2.1 = some true := by
  subst hg
  rw [show k + 101 = (k + 100) + 1 by omega, antiphonlaw7_FieldReasons.j1]
  by_cases h : (getReasonL b).2.2.2.2.2.2.2.2.2 = 0
  · rw [if_pos h, show k + 100 = (k + 89) + 11 by omega, putReason_seat, Option.bind_some, reason_forth b hb h, if_pos rfl, same_le b b 50 _ (by omega) hl (by omega)]
    simp
  · rw [if_neg h]
theorem FieldReasons : antiphonlaw7_FieldReasons.Pure := by
  intro c vs vr r w x y z v b _ _ _ _ _ hw
  have hb := wf_bytes hw
  refine ⟨202, ?_⟩
  have hA : antiphonlaw7_awake.f 202 = some true := by decide +kernel
  unfold antiphonlaw7_FieldReasons.f
  rw [hA, Option.bind_some, if_pos rfl]
  by_cases hl : (b.length : Int) > 50
  · rw [if_pos hl]
  rw [if_neg hl]
  unfold antiphonlaw7_reason.f antiphonlaw7_why.f
  simp only [Option.bind_some]
  rw [show (202 : Nat) = 191 + 11 from rfl, putReason_seat, Option.bind_some, putReason_ref, Option.bind_some, show (191 + 11 : Nat) = 192 + 10 from rfl, getReason_seat _ b hb, Option.bind_some, show (192 + 10 : Nat) = 191 + 11 from rfl, getReason_ref _ b hb, Option.bind_some, if_pos rfl,
    same_le _ _ 5 _ (by omega) (putReason_len _ _ _ _ _ _ _ _ _) (by omega), Option.bind_some, if_pos (by simp), if_pos rfl]
  simp only [beq_self_eq_true, Bool.not_true, Bool.or_self]
  rw [show (191 + 11 : Nat) = 201 + 1 from rfl, antiphonlaw7_FieldReasons.j0, if_neg (by decide)]
  by_cases h : (putReasonL c vs vr r w x y z v).2 = 0
  · obtain ⟨hB, hG⟩ := reason_back c vs vr r w x y z v h
    rw [if_pos h, show (201 : Nat) = 191 + 10 from rfl, getReason_seat _ _ hB, Option.bind_some, hG, if_pos rfl]
    unfold antiphonlaw7_why.f
    rw [Option.bind_some, if_neg (by simp)]
    exact reasons_j1 100 b hb (by omega) _ rfl
  · rw [if_neg h]
    exact reasons_j1 100 b hb (by omega) _ rfl
end Go.Proofs.Ytnmcoebjkfpmjaa.Pure
/-! WSized -/
namespace Go.Proofs.YtnmcoebjkfpmjaaW.PrintWords
open Go.ChangeShapes Go.WideShapes
theorem sized_ints {H : Type} {enc : TypeId × Value → H} {P : Program} {W : World} {base : Nat} {spare : Nat → Bool} {held : Bool} {t e : TypeId} {k : IntKind} {a : Option Addr} {len cap : Nat} {d : DataW H} {ps : List MemPlace} {ts : List TypeId} {ds : List (DataW H)} {j : Nat}
    (hsz : (DataW.weightsEach P ts ds).all (· ≤ reachBytes) = true) (ht : ts[j]? = some t) (hd : ds[j]? = some d) (hu : P.underlying t = some (.slice e)) (he : P.underlying e = some (.int k)) (hc : P.cellsOf e = 1) {B : Nat} (hB : P.bytesOf e = B)
    (h : DataW.Trod enc P W base spare held t (.slice a len cap) d ps) : len * B ≤ 140737488351232 := by
  obtain ⟨fuel, hf⟩ := h
  rcases open_ints hu he hc hf with ⟨hcs, _⟩ | ⟨x, l, c, zs, hcs, _, hl, _, hz, hx, _, _⟩
  · simp [Value.cells] at hcs
    obtain ⟨rfl, rfl, rfl⟩ := hcs
    simp
  · simp [Value.cells] at hcs
    obtain ⟨rfl, rfl, rfl⟩ := hcs
    obtain ⟨hx, _⟩ := Prod.mk.inj hx
    subst hx
    have z := sized_slice hsz ht hd hu
    rw [hB] at z
    have hl2 : len ≤ zs.length := by
      rw [hz]
      split
      · exact hl
      · exact Nat.le_refl _
    have h1 : (lits (H := H) k (zs.take len)).length + (lits (H := H) k (zs.drop len)).length = zs.length := by
      simp [lits]
      omega
    rw [h1] at z
    exact Nat.le_trans (Nat.mul_le_mul_right _ hl2) z
end Go.Proofs.YtnmcoebjkfpmjaaW.PrintWords
/-! LawFieldReasons -/
namespace Go.Proofs.Ytnmcoebjkfpmjaa.fieldReasons
open Go.ChangeShapes Go.WideShapes Go.ChangeAt Go.RowKit
open Go.ChangeMaps (open_string shut_string)
set_option linter.unusedVariables false
theorem own : ownKnob Try.prog.godebug = none := by kernel_rfl
theorem laidOut : laidOutB Try.prog = true := by kernel_rfl
set_option maxRecDepth 100000 in
theorem lifted (os : Os) (started : os.Started) (H : Type) (enc : TypeId × Value → H) :
    ReturnsInHanded {} Try.checked os 13 .any (Rows.fieldReasonsSpec.pre6 enc Try.prog Try.f13 Rows.fieldReasonsRow.domain false) (Rows.fieldReasonsSpec.post enc Try.prog Try.f13 false true false false) := by
  refine returnsInHanded_of_change_sized (C := Try.checked) own started (by kernel_rfl) Try.func13
    (ChangeSpec.witness6 (enc := enc) (C := Try.checked) false ⟨#[], #[.agg #[.int .i64 0, .int .i64 0, .int .i64 0, .bool false, .bool false, .bool false, .bool false, .bool false, .bool false], .slice none 0 0], []⟩ 8 (by kernel_rfl) (by kernel_rfl) (by kernel_rfl) (by kernel_rfl)) ?_
  intro W base args ds gs before hval0 hW hcnd hsz0 _
  have hsz : (DataW.weightsEach Try.prog (Try.f13.params.toList ++ Rows.fieldReasonsSpec.plain.varTypes Try.prog) (ds ++ gs)).all (· ≤ reachBytes) = true := hsz0
  have hval : ∀ (j : Nat) t v, Try.f13.params[j]? = some t → args[j]? = some v → Value.okWide Try.prog W .any base t v := hval0
  have hW' := hW
  obtain ⟨p, q, hA0, hV, rfl, hfz, hnd⟩ := hW
  have hA : DataW.TrodAll enc Try.prog W 0 (fun _ => true) true Try.f13.params.toList args.toList ds p := hA0
  rw [Try.params13] at hA hval hsz
  obtain ⟨v0, vs0, d0, ds0, p0, q0, hargs, rfl, rfl, h0, r0⟩ := trodAll_cons hA
  obtain ⟨v1, vs1, d1, ds1, p1, q1, rfl, rfl, rfl, h1, r1⟩ := trodAll_cons r0
  obtain ⟨rfl, rfl, rfl⟩ := trodAll_nil r1
  obtain rfl : args = #[v0, v1] := by cases args; simp_all
  obtain ⟨rfl, rfl⟩ := trodVars_none hV
  obtain ⟨a0_0, a0_1, a0_2, a0_3, a0_4, a0_5, a0_6, a0_7, a0_8, rfl, w0_0, w0_1, w0_2, _⟩ := Open.open_s71 (hval 0 71 v0 rfl rfl) h0
  have k0 := h0
  have lt0 : ∀ x ∈ p0, x.block < W.heap.size := by obtain ⟨m, hm⟩ := k0; exact DataW.trod_lt m _ _ _ hm
  obtain ⟨a1, n1, c1, rfl⟩ := okWide_slice Try.underlying23 (hval 1 23 v1 rfl rfl)
  have k1 := h1
  have lt1 : ∀ x ∈ p1, x.block < W.heap.size := by obtain ⟨m, hm⟩ := k1; exact DataW.trod_lt m _ _ _ hm
  obtain ⟨z1, w1⟩ : ∃ zs, Open.IsRow .u8 W a1 n1 c1 zs := by
    obtain ⟨fuel, hf⟩ := h1
    rcases open_ints Try.underlying23 Try.underlying5 (by kernel_rfl) hf with ⟨hcs, _⟩ | ⟨x, l, c, zs, hcs, _, hl, hm, hz, _, hcell, hwz⟩
    · simp [Value.cells] at hcs
      obtain ⟨rfl, rfl, rfl⟩ := hcs
      exact ⟨[], .inl ⟨rfl, rfl, rfl, rfl⟩⟩
    · simp [Value.cells] at hcs
      obtain ⟨rfl, rfl, rfl⟩ := hcs
      exact ⟨zs, .inr ⟨_, rfl, hl, hm, by simpa using hz, hcell, hwz⟩⟩
  have y1 : n1 * 1 ≤ 140737488351232 := Go.Proofs.YtnmcoebjkfpmjaaW.PrintWords.sized_ints hsz (j := 1) (t := 23) rfl rfl Try.underlying23 Try.underlying5 (by kernel_rfl) (by kernel_rfl) h1
  clear hA0 hval0 hsz0 hsz
  refine (P.antiphonlaw7_FieldReasons.walk Pure.FieldReasons a0_0 a0_1 a0_2 a0_3 a0_4 a0_5 a0_6 a0_7 a0_8 a1 n1 c1 z1 W w0_0 w0_1 w0_2 w1 y1).mono fun e W' ⟨he, bel⟩ => ?_
  subst he
  exact ⟨_, rfl, _, _, _, [], _, [], hW', trodAll_mk1 (shut_bool Try.underlying4 _), (trodAll_cons_mk (Below.trod laidOut (by kernel_rfl) (of_decide_eq_true (by kernel_rfl)) k0 bel lt0) (trodAll_cons_mk (Below.trod laidOut (by kernel_rfl) (of_decide_eq_true (by kernel_rfl)) k1 bel lt1) trodAll_mk0)), rfl, bel.frame _, fun h => by cases h⟩
theorem fact0 : (Rows.fieldReasonsRow.wf (OpenSpec.ofChange Rows.fieldReasonsSpec)) = true := by kernel_rfl
theorem fact1 : (laidOutB Try.prog) = true := Kit.laidOut
theorem fact2 : (mapsRowed Try.prog) = true := Kit.mapsRowed
theorem fact3 : (Try.f13.params.all (Try.prog.readableRec ·)) = true := by kernel_rfl
theorem fact4 : (namedTie Try.prog Rows.fieldReasonsRow.named Rows.fieldReasonsSpec.vars) = true := by kernel_rfl
theorem fact5 : ((Rows.fieldReasonsRow.stops == [])) = true := by kernel_rfl
theorem fact6 : ((Try.prog.stops == [])) = true := Kit.stops
theorem fact7 : ((Rows.fieldReasonsRow.knobs == [])) = true := by kernel_rfl
theorem fact8 : ((Try.prog.stopKnobs == [])) = true := Kit.stopKnobs
theorem fact9 : ((Rows.fieldReasonsRow.inPlace == Try.prog.inPlace 13)) = true := by kernel_rfl
theorem fact10 : ((Rows.fieldReasonsRow.unfollowed == Try.prog.unfollowed 13)) = true := by kernel_rfl
theorem fact11 : ((Rows.fieldReasonsRow.recurses == Try.prog.recurses 13)) = true := by kernel_rfl
theorem fact12 : ((Rows.fieldReasonsRow.named == Try.prog.varsNamed 13)) = true := by kernel_rfl
theorem fact13 : ((Rows.fieldReasonsRow.maps == (Try.f13.params.toList ++ Rows.fieldReasonsSpec.plain.varTypes Try.prog).any (Try.prog.mapsRec ·))) = true := by kernel_rfl
theorem fact14 : ((Rows.fieldReasonsRow.ifaces == (Try.f13.params.toList ++ Rows.fieldReasonsSpec.plain.varTypes Try.prog).any (Try.prog.ifacesRec ·))) = true := by kernel_rfl
theorem fact15 : ((Rows.fieldReasonsRow.mapsOut == Try.prog.mapsAmong Try.f13.resultTypes.toList)) = true := by kernel_rfl
theorem fact16 : ((Rows.fieldReasonsRow.loops == (Try.f13.params.toList ++ Rows.fieldReasonsSpec.plain.varTypes Try.prog).any (Try.prog.loopsFrom ·))) = true := by kernel_rfl
theorem fact17 : ((Rows.fieldReasonsRow.wideKeys == (Try.f13.params.toList ++ Rows.fieldReasonsSpec.plain.varTypes Try.prog ++ Try.f13.resultTypes.toList).any (Try.prog.wideKeysFrom ·))) = true := by kernel_rfl
theorem fact18 : (Rows.fieldReasonsSpec.vars.all (Try.prog.varReadable ·)) = true := by kernel_rfl
theorem fact19 : (Try.f13.resultTypes.all (fun t => Try.prog.readableRec t && decide (t < Try.prog.types.size))) = true := by kernel_rfl
theorem fact20 : ((Rows.fieldReasonsRow.ifacesOut == Try.f13.resultTypes.toList.any (Try.prog.ifacesRec ·))) = true := by kernel_rfl
theorem fact21 : ((Rows.fieldReasonsRow.loopsOut == Try.f13.resultTypes.toList.any (Try.prog.loopsFrom ·))) = true := by kernel_rfl
theorem fact22 : ((Rows.fieldReasonsRow.plainKeys == Try.prog.plainKeys)) = true := (by rw [Kit.plainKeys]; rfl)
theorem fact23 : (Rows.fieldReasonsRow.shortTexts.isNone) = true := by kernel_rfl
theorem fact24 : (Try.prog.stopsHeard) = true := Kit.stopsHeard
theorem fact25 : (Try.prog.mayEnter) = true := Kit.mayEnter
theorem fact26 : ((Rows.fieldReasonsRow.lifted == Try.prog.liftsFinal)) = true := (by rw [Kit.liftsFinal]; rfl)
theorem fact27 : ((Try.prog.make == some Rows.fieldReasonsRow.make)) = true := (by rw [Kit.make]; rfl)
theorem fact28 : ((Rows.fieldReasonsRow.kinds == (if Rows.fieldReasonsRow.domain.isEmpty then [] else Try.f13.params.toList.map fun t => match Try.prog.underlying t with | some (.int k) => some k | _ => none))) = true := by kernel_rfl
theorem fact29 : ((Rows.fieldReasonsRow.pinned == Rows.fieldReasonsRow.pinnedBy)) = true := by kernel_rfl
theorem fact30 : ((Rows.fieldReasonsRow.veiled == (Try.f13.params.toList ++ Rows.fieldReasonsSpec.plain.varTypes Try.prog ++ Try.f13.resultTypes.toList).any (Try.prog.veiledRec ·))) = true := by kernel_rfl
theorem fact31 : (Rows.fieldReasonsRow.veiledFits Try.prog Try.f13.params.toList (Try.f13.params.toList ++ Rows.fieldReasonsSpec.plain.varTypes Try.prog ++ Try.f13.resultTypes.toList)) = true := by kernel_rfl
set_option maxRecDepth 100000 in
theorem closed : joinedFacts Try.prog 13 Try.f13 Rows.fieldReasonsSpec Rows.fieldReasonsRow = true := by
  unfold joinedFacts
  exact (Kit.and2 (Kit.and2 (Kit.and2 (Kit.and2 (Kit.and2 (Kit.and2 (Kit.and2 (Kit.and2 (Kit.and2 (Kit.and2 (Kit.and2 (Kit.and2 (Kit.and2 (Kit.and2 (Kit.and2 (Kit.and2 (Kit.and2 (Kit.and2 (Kit.and2 (Kit.and2 (Kit.and2 (Kit.and2 (Kit.and2 (Kit.and2 (Kit.and2 (Kit.and2 (Kit.and2 (Kit.and2 (Kit.and2 (Kit.and2 (Kit.and2 fact0 fact1) fact2) fact3) fact4) fact5) fact6) fact7) fact8) fact9) fact10) fact11) fact12) fact13) fact14) fact15) fact16) fact17) fact18) fact19) fact20) fact21) fact22) fact23) fact24) fact25) fact26) fact27) fact28) fact29) fact30) fact31)
theorem named : Try.prog.funcNamed Rows.fieldReasonsRow.func = some 13 := by kernel_rfl
theorem inst : Try.f13.isInstance Try.prog Rows.fieldReasonsRow.origin Rows.fieldReasonsRow.targs := of_decide_eq_true (by kernel_rfl)
theorem wrap_ : Try.f13.isWrapper Try.prog Rows.fieldReasonsRow.wrapper Rows.fieldReasonsRow.mainSum := by unfold Func.isWrapper; first | (rw [if_pos (by decide +kernel)]; kernel_rfl) | (rw [if_neg (by decide +kernel)]; exact ⟨rfl, rfl⟩)
theorem over : Rows.fieldReasonsRow.holds Try.pinned (OpenSpec.ofChange Rows.fieldReasonsSpec) :=
  OpenClaim.holds_of_wide 13 Try.f13 rfl rfl rfl rfl rfl rfl rfl ⟨rfl, rfl, rfl, rfl, rfl⟩ rfl rfl rfl rfl rfl named Try.func13 closed
    inst wrap_
    (fun os started H enc _ => lifted os started H enc)
theorem proved : Rows.FieldReasonsSaid := over
#print axioms proved
end Go.Proofs.Ytnmcoebjkfpmjaa.fieldReasons
namespace Go.Proofs.Ytnmcoebjkfpmjaa
theorem fieldReasons_holds : Rows.FieldReasonsSaid := fieldReasons.proved
end Go.Proofs.Ytnmcoebjkfpmjaa
