/- Bits that are turned and lie close: what becomes of a row of bytes, of its sum, and of what was sealed. Plain mathematics. -/
import Derived.Test.YtpalloofjljhkaaSeal
namespace Go.Proofs.Ytpalloofjljhkaa.P
open Go.RowKit
set_option linter.unusedVariables false
theorem nats_set' (X : List Int) (k : Nat) (v : Int) : nats (X.set k v) = (nats X).set k v.toNat := by unfold nats; rw [List.map_set]
theorem nats_len' (l : List Int) : (nats l).length = l.length := by unfold nats; rw [List.length_map]
theorem nats_getD (X : List Int) (k : Nat) : (nats X).getD k 0 = (X.getD k 0).toNat := by
  unfold nats
  rw [List.getD_eq_getElem?_getD, List.getD_eq_getElem?_getD, List.getElem?_map]
  cases X[k]? <;> rfl
theorem nats_inj {a b : List Int} (ha : byteRow a) (hb : byteRow b) (h : nats a = nats b) : a = b := by
  induction a generalizing b with
  | nil => cases b with
    | nil => rfl
    | cons => cases h
  | cons x a ih =>
    cases b with
    | nil => cases h
    | cons y b =>
      simp only [nats, List.map_cons, List.cons.injEq] at h
      have h1 := ha x (List.mem_cons_self ..)
      have h2 := hb y (List.mem_cons_self ..)
      rw [show x = y by omega, ih (fun c hc => ha c (List.mem_cons_of_mem _ hc)) (fun c hc => hb c (List.mem_cons_of_mem _ hc)) h.2]
/-- The first i bits of a row of bits are turned from place k on. -/
def Turned (C : List Int) (k row i : Nat) (X : List Int) : Prop := X.length = C.length ∧ byteRow X ∧ M.val (nats X) = M.val (nats C) ^^^ ((row % 2 ^ i) <<< k)
theorem Turned.start {C : List Int} (hb : byteRow C) (k row : Nat) : Turned C k row 0 C := ⟨rfl, hb, by rw [Nat.pow_zero, Nat.mod_one, Nat.zero_shiftLeft, Nat.xor_zero]⟩
theorem mod_pow_succ (row i : Nat) : row % 2 ^ (i + 1) = (row % 2 ^ i) ^^^ ((row / 2 ^ i % 2) <<< i) := by
  apply Nat.eq_of_testBit_eq
  intro q
  rw [Nat.testBit_xor, Nat.testBit_mod_two_pow, Nat.testBit_mod_two_pow, Nat.testBit_shiftLeft]
  have hb : ∀ j, (row / 2 ^ i % 2).testBit j = (decide (j = 0) && row.testBit i) := by
    intro j
    cases j with
    | zero => rw [Nat.testBit_zero, Nat.mod_mod]; simp [Nat.testBit_eq_decide_div_mod_eq]
    | succ j => rw [Nat.testBit_succ, Nat.div_eq_of_lt (by omega)]; simp
  rw [hb]
  by_cases h1 : q < i
  · have h2 : q < i + 1 := by omega
    have h3 : ¬ q ≥ i := by omega
    simp [h1, h2, h3]
  · by_cases h2 : q = i
    · subst h2; simp
    · have h3 : ¬ q < i + 1 := by omega
      have h4 : ¬ q - i = 0 := by omega
      simp [h1, h3, h4]
theorem Turned.off {C X : List Int} {k row i : Nat} (h : Turned C k row i X) (hb : row / 2 ^ i % 2 ≠ 1) : Turned C k row (i + 1) X := by
  refine ⟨h.1, h.2.1, ?_⟩
  rw [h.2.2, mod_pow_succ, show row / 2 ^ i % 2 = 0 by omega, Nat.zero_shiftLeft, Nat.xor_zero]
theorem Turned.on {C X : List Int} {k row i j m : Nat} {v : Int} (h : Turned C k row i X) (hb : row / 2 ^ i % 2 = 1) (hj : (k + i) / 8 = j) (hm : (k + i) % 8 = m) (hl : k + i < 8 * C.length)
    (hv : v = (((X.getD j 0).toNat ^^^ 2 ^ m : Nat) : Int)) : Turned C k row (i + 1) (X.set j v) := by
  have hjl : j < X.length := by rw [h.1]; omega
  have hx := getD_byte h.2.1 j
  have hp : 2 ^ m < 256 := by
    have : m < 8 := by omega
    calc 2 ^ m ≤ 2 ^ 7 := Nat.pow_le_pow_right (by decide) (by omega)
      _ < 256 := by decide
  have hlt : (X.getD j 0).toNat ^^^ 2 ^ m < 256 := Nat.xor_lt_two_pow (n := 8) (by omega) hp
  refine ⟨by rw [List.length_set]; exact h.1, ?_, ?_⟩
  · intro c hc
    rcases List.mem_or_eq_of_mem_set hc with hc | rfl
    · exact h.2.1 c hc
    · rw [hv]; omega
  · rw [nats_set', hv, Int.toNat_natCast, ← nats_getD, M.val_set _ _ _ (by rw [nats_len']; exact hjl), h.2.2, mod_pow_succ, hb, Nat.shiftLeft_xor_distrib, Nat.xor_assoc]
    congr 2
    rw [Nat.shiftLeft_eq, Nat.shiftLeft_eq, Nat.shiftLeft_eq, Nat.one_mul, ← Nat.pow_add, ← Nat.pow_add, show m + 8 * j = i + k by omega]
theorem shl_zero_iff {r k : Nat} : r <<< k = 0 ↔ r = 0 := by
  rw [Nat.shiftLeft_eq]
  constructor
  · intro h
    rcases Nat.mul_eq_zero.mp h with h | h
    · exact h
    · have := Nat.two_pow_pos k; omega
  · rintro rfl; rw [Nat.zero_mul]
theorem Turned.same {C X : List Int} {k row i : Nat} (h : Turned C k row i X) (hb : byteRow C) : C = X ↔ row % 2 ^ i = 0 := by
  constructor
  · intro e
    have h2 := h.2.2
    rw [← e] at h2
    have h3 : M.val (nats C) ^^^ 0 = M.val (nats C) ^^^ ((row % 2 ^ i) <<< k) := by rw [Nat.xor_zero]; exact h2
    exact shl_zero_iff.mp (M.xor_inj h3).symm
  · intro e
    have h2 := h.2.2
    rw [e, Nat.zero_shiftLeft, Nat.xor_zero] at h2
    exact nats_inj hb h.2.1 (M.val_inj (by rw [nats_len', nats_len', h.1]) (nats_lt hb) (nats_lt h.2.1) h2.symm)
theorem low_lt (row i : Nat) (hi : i ≤ 32) : row % 2 ^ i < 4294967296 :=
  Nat.lt_of_lt_of_le (Nat.mod_lt _ (Nat.two_pow_pos i)) (Nat.pow_le_pow_right (n := 2) (by decide) hi)
theorem Turned.sum {C X : List Int} {k row i : Nat} (h : Turned C k row i X) (hb : byteRow C) (hi : i ≤ 32) (hk : k ≤ 8 * C.length) : M.sum (nats C) = M.sum (nats X) ↔ C = X := by
  rw [h.same hb]
  exact M.sum_burst (by rw [nats_len', nats_len', h.1]) (by rw [nats_len']; exact hk) (low_lt row i hi) h.2.2
theorem openB_run {X : List Int} (hb : byteRow X) (h4 : 4 ≤ X.length) : openB X = true ↔ M.run 4294967295 (nats X) = M.btn 32 4294967295 := by
  unfold openB
  rw [if_neg (by omega), decide_eq_true_iff]
  have hs := M.sealed_iff (l := nats (X.take (X.length - 4))) (m := nats (X.drop (X.length - 4))) (nats_lt fun c hc => hb c (List.mem_of_mem_take hc)) (nats_lt fun c hc => hb c (List.mem_of_mem_drop hc)) (by rw [nats_len', List.length_drop]; omega)
  have e : nats (X.take (X.length - 4)) ++ nats (X.drop (X.length - 4)) = nats X := by unfold nats; rw [← List.map_append, List.take_append_drop]
  rw [e] at hs
  rw [hs, ← nats_laid]
  constructor
  · intro h; rw [h]
  · intro h; exact nats_inj (fun c hc => hb c (List.mem_of_mem_drop hc)) (laidI_byte _) h
theorem sealI_byte {l : List Int} (hb : byteRow l) : byteRow (sealI l) := by
  intro c hc
  rcases List.mem_append.mp hc with hc | hc
  · exact hb c hc
  · exact laidI_byte _ c hc
theorem sealI_len (l : List Int) : (sealI l).length = l.length + 4 := by unfold sealI; rw [List.length_append, laidI_len]
theorem open_seal {l : List Int} : openB (sealI l) = true ∧ openL (sealI l) = l := by
  have h1 : openB (sealI l) = true := by
    unfold openB
    rw [sealI_len, if_neg (by omega), show l.length + 4 - 4 = l.length by omega]
    unfold sealI
    rw [List.drop_left, List.take_left, decide_eq_true rfl]
  refine ⟨h1, ?_⟩
  unfold openL
  rw [h1, if_pos rfl, sealI_len, show l.length + 4 - 4 = l.length by omega]
  unfold sealI
  rw [List.take_left]
theorem Turned.opened {l X : List Int} {k row i : Nat} (h : Turned (sealI l) k row i X) (hb : byteRow l) (hi : i ≤ 32) (hk : k ≤ 8 * (sealI l).length) : openB X = decide (sealI l = X) := by
  have h1 := (openB_run (sealI_byte hb) (by rw [sealI_len]; omega)).mp open_seal.1
  have h2 := openB_run h.2.1 (by rw [h.1, sealI_len]; omega)
  have h3 := M.run_burst (s := 4294967295) (by rw [nats_len', nats_len', h.1]) (by rw [nats_len']; exact hk) (low_lt row i hi) h.2.2
  rw [h1, ← h.same (sealI_byte hb)] at h3
  rw [Bool.eq_iff_iff, h2, decide_eq_true_iff, ← h3]
  exact ⟨fun e => e.symm, fun e => e.symm⟩
end Go.Proofs.Ytpalloofjljhkaa.P
