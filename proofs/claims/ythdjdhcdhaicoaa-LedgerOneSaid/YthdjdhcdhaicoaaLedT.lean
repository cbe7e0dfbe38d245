-- Written by this session: Part, Within, small and runs of chapter 26, in plain words.
import Derived.Test.YthdjdhcdhaicoaaLedP
import Derived.Test.YthdjdhcdhaicoaaPx10
import Derived.Test.YthdjdhcdhaicoaaPx11
import Derived.Test.YthdjdhcdhaicoaaPx12
import Derived.Test.YthdjdhcdhaicoaaPx13
import Derived.Test.YthdjdhcdhaicoaaPx14
import Derived.Test.YthdjdhcdhaicoaaPx15
import Derived.Test.YthdjdhcdhaicoaaPx23
import Derived.Test.YthdjdhcdhaicoaaPx24
namespace Go.Proofs.Ythdjdhcdhaicoaa.Lib
set_option linter.unusedSimpArgs false
set_option linter.unusedVariables false
open Go.RowKit Go.Proofs.Ythdjdhcdhaicoaa.P Go.Proofs.YthdjdhcdhaicoaaW.PrintWords Go.Proofs.YthdjdhcdhaicoaaW.PrintLast Go.Proofs.YthdjdhcdhaicoaaW.PrintMore
def Bytes (l : List Int) : Prop := ∀ x ∈ l, 0 ≤ x ∧ x < 256
theorem bytes_eq (a b : List Int) (ha : Bytes a) (hb : Bytes b) : bytes_Equal.f a b = some (decide (a = b)) := by
  unfold bytes_Equal.f
  congr 1
  rw [ByteArray.toList_eq, ByteArray.toList_eq]
  show (a.map (fun n => UInt8.ofNat n.toNat) == b.map (fun n => UInt8.ofNat n.toNat)) = decide (a = b)
  have inj : ∀ (a b : List Int), Bytes a → Bytes b → a.map (fun n => UInt8.ofNat n.toNat) = b.map (fun n => UInt8.ofNat n.toNat) → a = b := by
    intro a
    induction a with
    | nil => intro b _ _ h; cases b with
      | nil => rfl
      | cons y b => simp at h
    | cons x a ih => intro b ha hb h; cases b with
      | nil => simp at h
      | cons y b =>
        simp only [List.map_cons, List.cons.injEq] at h
        have hx := ha x List.mem_cons_self
        have hy := hb y List.mem_cons_self
        have e : x = y := by
          have := congrArg UInt8.toNat h.1
          simp at this
          omega
        rw [e, ih b (fun z hz => ha z (List.mem_cons_of_mem _ hz)) (fun z hz => hb z (List.mem_cons_of_mem _ hz)) h.2]
  by_cases h : a = b
  · rw [decide_eq_true h, h]; simp
  · rw [decide_eq_false h, beq_eq_false_iff_ne]
    intro e
    exact h (inj a b ha hb e)
theorem getDx {α : Type} {l : List α} {i : Nat} (h : i < l.length) (z : α) : l.getD i z = l[i] := by
  rw [List.getD_eq_getElem?_getD, List.getElem?_eq_getElem h]; rfl
theorem xL1 {l : List (List Int)} {i : Nat} (h : i < l.length) : rd_L1 l (i : Int) = l[i] := by unfold rd_L1; rw [Int.toNat_natCast, getDx h]
theorem x47 {l : List S47} {i : Nat} (h : i < l.length) : rd_T47 l (i : Int) = l[i] := by unfold rd_T47; rw [Int.toNat_natCast, getDx h]
theorem x27 {l : List S27} {i : Nat} (h : i < l.length) : rd_T27 l (i : Int) = l[i] := by unfold rd_T27; rw [Int.toNat_natCast, getDx h]
/-- Few rows of bytes, all short. -/
def OkL (l : List (List Int)) : Prop := l.length ≤ 61 ∧ ∀ r ∈ l, r.length ≤ 1000 ∧ Bytes r
theorem OkL.take {l : List (List Int)} (h : OkL l) (n : Nat) : OkL (l.take n) := ⟨Nat.le_trans (List.length_take_le' _ _) h.1, fun r hr => h.2 r (List.mem_of_mem_take hr)⟩
theorem OkL.drop {l : List (List Int)} (h : OkL l) (n : Nat) : OkL (l.drop n) := ⟨by have := h.1; rw [List.length_drop]; omega, fun r hr => h.2 r (List.mem_of_mem_drop hr)⟩
def partF : Nat → List (List Int) → List (List Int) → Nat → Int
  | 0, _, _, _ => -1
  | m + 1, of, run, at_ => if at_ + run.length ≤ of.length then (if (of.drop at_).take run.length = run then (at_ : Int) else partF m of run (at_ + 1)) else -1
def partL (of run : List (List Int)) : Int := partF (of.length + 1) of run 0
theorem part_l1 (of run : List (List Int)) (ho : OkL of) (hr : OkL run) (at_ : Nat) (ha : at_ + run.length ≤ of.length) (K : Nat) : ∀ (m i : Nat) (same : Bool), i + m = run.length →
    ledger_Part.l1 (m + 1 + K) of run (at_ : Int) same run (run.length : Int) (i : Int) = if (same && decide ((of.drop (at_ + i)).take m = run.drop i)) = true then some (at_ : Int) else ledger_Part.l0 K of run ((at_ : Int) + 1)
  | 0, i, same, hi => by
    have h1 := ho.1
    have hd : run.drop i = [] := List.drop_eq_nil_of_le (by omega)
    rw [show 0 + 1 + K = K + 1 by omega, ledger_Part.l1, if_neg (by omega), w64 _ (by omega) (by omega), List.take_zero, hd]
    cases same <;> simp
  | m + 1, i, same, hi => by
    have h1 := ho.1
    have h2 := hr.1
    have hri : i < run.length := by omega
    have hoi : at_ + i < of.length := by omega
    have key : decide ((of.drop (at_ + i)).take (m + 1) = run.drop i) = (decide (of[at_ + i] = run[i]) && decide ((of.drop (at_ + (i + 1))).take m = run.drop (i + 1))) := by
      rw [← Bool.decide_and]
      apply decide_eq_decide.mpr
      rw [List.drop_eq_getElem_cons hoi, List.take_succ_cons, List.drop_eq_getElem_cons hri, List.cons.injEq, show at_ + (i + 1) = at_ + i + 1 by omega]
    rw [key, show m + 1 + 1 + K = (m + 1 + K) + 1 by omega, ledger_Part.l1, if_pos (by omega), if_pos (by omega), if_pos (by omega), w64 ((i : Int) + 1) (by omega) (by omega), show ((i : Int) + 1) = ((i + 1 : Nat) : Int) by omega]
    cases same with
    | false =>
      rw [if_neg (by decide), part_l1 of run ho hr at_ ha K m (i + 1) false (by omega)]
      simp
    | true =>
      rw [if_pos rfl, w64 ((at_ : Int) + (i : Int)) (by omega) (by omega), if_pos (by omega), if_pos (by omega), show (at_ : Int) + (i : Int) = ((at_ + i : Nat) : Int) by omega, xL1 hoi, xL1 hri,
        bytes_eq _ _ (ho.2 _ (List.getElem_mem hoi)).2 (hr.2 _ (List.getElem_mem hri)).2, Option.bind_some, part_l1 of run ho hr at_ ha K m (i + 1) _ (by omega), Bool.true_and]
theorem part_l0 (of run : List (List Int)) (ho : OkL of) (hr : OkL run) (K : Nat) : ∀ (n at_ : Nat), of.length < at_ + n → at_ ≤ of.length + 1 → ledger_Part.l0 (n * (run.length + 2) + 1 + K) of run (at_ : Int) = some (partF n of run at_)
  | 0, at_, h, h' => by
    have h1 := ho.1
    have h2 := hr.1
    rw [show 0 * (run.length + 2) + 1 + K = K + 1 by omega, ledger_Part.l0, partF, w64 _ (by omega) (by omega), if_neg (by omega)]
  | n + 1, at_, h, h' => by
    have h1 := ho.1
    have h2 := hr.1
    have e : (n + 1) * (run.length + 2) + 1 + K = (run.length + 1 + (n * (run.length + 2) + 1 + K)) + 1 := by rw [Nat.add_mul]; omega
    rw [e, ledger_Part.l0, partF, w64 _ (by omega) (by omega)]
    by_cases hc : at_ + run.length ≤ of.length
    · rw [if_pos (by omega), if_pos hc]
      have hl := part_l1 of run ho hr at_ hc (n * (run.length + 2) + 1 + K) run.length 0 true (by omega)
      rw [show ((0 : Nat) : Int) = 0 from rfl] at hl
      rw [hl, Bool.true_and, Nat.add_zero, List.drop_zero]
      by_cases he : (of.drop at_).take run.length = run
      · rw [if_pos (by simpa using he), if_pos he]
      · rw [if_neg (by simpa using he), if_neg he, show ((at_ : Int) + 1) = ((at_ + 1 : Nat) : Int) by omega]
        exact part_l0 of run ho hr K n (at_ + 1) (by omega) (by omega)
    · rw [if_neg (by omega), if_neg hc]
theorem part_ok (of run : List (List Int)) (ho : OkL of) (hr : OkL run) (K : Nat) (hK : 5000 ≤ K) : ledger_Part.f K of run = some (partL of run) := by
  have hm : (of.length + 1) * (run.length + 2) ≤ 62 * 63 := Nat.mul_le_mul (by have := ho.1; omega) (by have := hr.1; omega)
  have := part_l0 of run ho hr (K - 1 - (of.length + 1) * (run.length + 2)) (of.length + 1) 0 (by omega) (by omega)
  rw [show (of.length + 1) * (run.length + 2) + 1 + (K - 1 - (of.length + 1) * (run.length + 2)) = K by omega] at this
  exact this
theorem rows_l0_ (a b : List (List Int)) (hab : a.length = b.length) (hl : a.length ≤ 1000) (hb : ∀ r ∈ a, r.length ≤ 1000) (k : Nat) : ∀ (m i : Nat), i + m = a.length → antiphonref1_Rows.l0 (m + 1002 + k) a b (i : Int) = some (decide (a.drop i = b.drop i))
  | 0, i, hi => by
    have h1 : a.drop i = [] := List.drop_eq_nil_of_le (by omega)
    have h2 : b.drop i = [] := List.drop_eq_nil_of_le (by omega)
    rw [show 0 + 1002 + k = (1001 + k) + 1 by omega, antiphonref1_Rows.l0, if_neg (by omega), h1, h2]; rfl
  | m + 1, i, hi => by
    have hai : i < a.length := by omega
    have hbi : i < b.length := by omega
    have hb1 := hb a[i] (List.getElem_mem hai)
    have key : decide (a.drop i = b.drop i) = (decide (a[i] = b[i]) && decide (a.drop (i + 1) = b.drop (i + 1))) := by
      rw [← Bool.decide_and]
      apply decide_eq_decide.mpr
      rw [List.drop_eq_getElem_cons hai, List.drop_eq_getElem_cons hbi, List.cons.injEq]
    have hs := same_ref a[i] b[i] (by omega) (m + 1002 + k - (a[i].length + 1))
    rw [show a[i].length + 1 + (m + 1002 + k - (a[i].length + 1)) = m + 1002 + k by omega] at hs
    rw [key, show m + 1 + 1002 + k = (m + 1002 + k) + 1 by omega, antiphonref1_Rows.l0, if_pos (by omega), if_pos (by omega), if_pos (by omega), xL1 hai, xL1 hbi, hs, Option.bind_some, w64 _ (by omega) (by omega), show ((i : Int) + 1) = ((i + 1 : Nat) : Int) by omega]
    by_cases he : a[i] = b[i]
    · rw [if_pos (by simpa using he), rows_l0_ a b hab hl hb k m (i + 1) (by omega), decide_eq_true he, Bool.true_and]
    · rw [if_neg (by simpa using he), decide_eq_false he, Bool.false_and]
theorem rows_eq (a b : List (List Int)) (hl : a.length ≤ 1000) (hb : ∀ r ∈ a, r.length ≤ 1000) (k : Nat) (hk : 3000 ≤ k) : antiphonref1_Rows.f k a b = some (decide (a = b)) := by
  unfold antiphonref1_Rows.f
  by_cases hab : a.length = b.length
  · have := rows_l0_ a b hab hl hb (k - 1002 - a.length) a.length 0 (by omega)
    rw [show a.length + 1002 + (k - 1002 - a.length) = k by omega] at this
    rw [if_pos (by omega)]
    simpa using this
  · rw [if_neg (by omega), decide_eq_false (fun h => hab (by rw [h]))]
theorem rpart_l0 (of run : List (List Int)) (ho : OkL of) (hr : OkL run) (K : Nat) : ∀ (n at_ : Nat), of.length < at_ + n → at_ ≤ of.length + 1 → antiphonref24_Part.l0 (n + 3001 + K) of run (at_ : Int) = some (partF n of run at_)
  | 0, at_, h, h' => by
    have h1 := ho.1
    have h2 := hr.1
    rw [show 0 + 3001 + K = (3000 + K) + 1 by omega, antiphonref24_Part.l0, partF, w64 _ (by omega) (by omega), if_neg (by omega)]
  | n + 1, at_, h, h' => by
    have h1 := ho.1
    have h2 := hr.1
    rw [show n + 1 + 3001 + K = (n + 3001 + K) + 1 by omega, antiphonref24_Part.l0, partF, w64 ((at_ : Int) + (run.length : Int)) (by omega) (by omega)]
    by_cases hc : at_ + run.length ≤ of.length
    · have hs : ((of.take (((at_ : Int) + (run.length : Int)).toNat)).drop ((at_ : Int).toNat)) = (of.drop at_).take run.length := by
        rw [Int.toNat_natCast, show ((at_ : Int) + (run.length : Int)).toNat = at_ + run.length by omega, List.drop_take, show at_ + run.length - at_ = run.length by omega]
      rw [if_pos (by omega), if_pos (by omega), if_pos (by omega), if_pos hc, hs, rows_eq _ _ (by rw [List.length_take]; omega) (fun r hr' => (ho.2 r (List.mem_of_mem_drop (List.mem_of_mem_take hr'))).1) _ (by omega), Option.bind_some]
      by_cases he : (of.drop at_).take run.length = run
      · rw [if_pos (by simpa using he), if_pos he]
      · rw [if_neg (by simpa using he), if_neg he, w64 _ (by omega) (by omega), show ((at_ : Int) + 1) = ((at_ + 1 : Nat) : Int) by omega]
        exact rpart_l0 of run ho hr K n (at_ + 1) (by omega) (by omega)
    · rw [if_neg (by omega), if_neg hc]
theorem rpart_ok (of run : List (List Int)) (ho : OkL of) (hr : OkL run) (K : Nat) (hK : 5000 ≤ K) : antiphonref24_Part.f K of run = some (partL of run) := by
  have h1 := ho.1
  have := rpart_l0 of run ho hr (K - 3001 - (of.length + 1)) (of.length + 1) 0 (by omega) (by omega)
  rw [show of.length + 1 + 3001 + (K - 3001 - (of.length + 1)) = K by omega] at this
  exact this
def withinL (s t : List (List (List Int))) : Bool := t.all fun y => s.any fun x => decide (partL x y ≥ 0)
def OkR (l : List (List (List Int))) : Prop := l.length ≤ 1000 ∧ ∀ y ∈ l, OkL y
theorem any_step {α : Type} (p : α → Bool) (l : List α) (i : Nat) (h : i < l.length) : (l.drop i).any p = (p l[i] || (l.drop (i + 1)).any p) := by rw [List.drop_eq_getElem_cons h, List.any_cons]
theorem within_l1 (s t : List S47) (hs : OkR (s.map S47.f1)) (ht : t.length ≤ 1000) (j : Nat) (y : List (List Int)) (hy : OkL y) (e : Int) (K : Nat) : ∀ (m i : Nat) (b : Bool), i + m = s.length →
    ledger_Within.l1 (m + 5001 + K) s b t (t.length : Int) (j : Int) s (s.length : Int) (i : Int) e y = if (b || ((s.map S47.f1).drop i).any fun x => decide (partL x y ≥ 0)) = true then ledger_Within.l0 (5000 + K) s t (t.length : Int) (wrap64 ((j : Int) + 1)) else some false
  | 0, i, b, hi => by
    rw [show 0 + 5001 + K = (5000 + K) + 1 by omega, ledger_Within.l1, if_neg (by omega), List.drop_eq_nil_of_le (by rw [List.length_map]; omega)]
    cases b <;> simp
  | m + 1, i, b, hi => by
    have hsl := hs.1
    rw [List.length_map] at hsl
    have hsi : i < s.length := by omega
    have hmi : i < (s.map S47.f1).length := by rw [List.length_map]; exact hsi
    rw [show m + 1 + 5001 + K = (m + 5001 + K) + 1 by omega, ledger_Within.l1, if_pos (by omega), if_pos (by omega), if_pos (by omega), w64 ((i : Int) + 1) (by omega) (by omega), show ((i : Int) + 1) = ((i + 1 : Nat) : Int) by omega, any_step _ _ i hmi, List.getElem_map]
    cases b with
    | true => rw [if_pos rfl, within_l1 s t hs ht j y hy e K m (i + 1) true (by omega)]; simp
    | false =>
      rw [if_neg (by decide), x47 hsi, part_ok _ _ (hs.2 _ (List.mem_map.2 ⟨s[i], List.getElem_mem hsi, rfl⟩)) hy _ (by omega), Option.bind_some, within_l1 s t hs ht j y hy e K m (i + 1) _ (by omega), Bool.false_or]
theorem all_step {α : Type} (p : α → Bool) (l : List α) (i : Nat) (h : i < l.length) : (l.drop i).all p = (p l[i] && (l.drop (i + 1)).all p) := by rw [List.drop_eq_getElem_cons h, List.all_cons]
theorem within_l0 (s t : List S47) (hs : OkR (s.map S47.f1)) (ht : OkR (t.map S47.f1)) (K : Nat) : ∀ (n j : Nat), j + n = t.length →
    ledger_Within.l0 (n * (s.length + 2) + 5002 + K) s t (t.length : Int) (j : Int) = some (((t.map S47.f1).drop j).all fun y => (s.map S47.f1).any fun x => decide (partL x y ≥ 0))
  | 0, j, hj => by
    rw [show 0 * (s.length + 2) + 5002 + K = (5001 + K) + 1 by omega, ledger_Within.l0, if_neg (by omega), List.drop_eq_nil_of_le (by rw [List.length_map]; omega)]; rfl
  | n + 1, j, hj => by
    have htl := ht.1
    rw [List.length_map] at htl
    have htj : j < t.length := by omega
    have hmj : j < (t.map S47.f1).length := by rw [List.length_map]; exact htj
    have e : (n + 1) * (s.length + 2) + 5002 + K = (s.length + 5001 + (n * (s.length + 2) + 2 + K)) + 1 := by rw [Nat.add_mul]; omega
    have h1 := within_l1 s t hs htl j t[j].f1 (ht.2 _ (List.mem_map.2 ⟨t[j], List.getElem_mem htj, rfl⟩)) t[j].f0 (n * (s.length + 2) + 2 + K) s.length 0 false (by omega)
    rw [show ((0 : Nat) : Int) = 0 from rfl] at h1
    rw [e, ledger_Within.l0, if_pos (by omega), if_pos (by omega), if_pos (by omega), x47 htj, h1, all_step _ _ j hmj, List.getElem_map, Bool.false_or, List.drop_zero, w64 _ (by omega) (by omega), show ((j : Int) + 1) = ((j + 1 : Nat) : Int) by omega]
    cases ha : (s.map S47.f1).any fun x => decide (partL x t[j].f1 ≥ 0) with
    | false => rw [if_neg (by decide), Bool.false_and]
    | true =>
      rw [if_pos rfl, Bool.true_and, show 5000 + (n * (s.length + 2) + 2 + K) = n * (s.length + 2) + 5002 + K by omega]
      exact within_l0 s t hs ht K n (j + 1) (by omega)
theorem within_ok (s t : List S47) (hs : OkR (s.map S47.f1)) (ht : OkR (t.map S47.f1)) (hsl : s.length ≤ 70) (htl : t.length ≤ 70) (K : Nat) (hK : 20000 ≤ K) : ledger_Within.f K s t = some (withinL (s.map S47.f1) (t.map S47.f1)) := by
  have hm : t.length * (s.length + 2) ≤ 70 * 72 := Nat.mul_le_mul htl (by omega)
  have := within_l0 s t hs ht (K - 5002 - t.length * (s.length + 2)) t.length 0 (by omega)
  rw [show t.length * (s.length + 2) + 5002 + (K - 5002 - t.length * (s.length + 2)) = K by omega] at this
  exact this
theorem rwithin_l1 (s t : List S27) (hs : OkR (s.map S27.f1)) (ht : OkR (t.map S27.f1)) (j : Nat) (hj : j < t.length) (K : Nat) : ∀ (m i : Nat) (b : Bool), i + m = s.length →
    antiphonref24_Within.l1 (m + 5001 + K) s t (j : Int) b (i : Int) = if (b || ((s.map S27.f1).drop i).any fun x => decide (partL x t[j].f1 ≥ 0)) = true then antiphonref24_Within.l0 (5000 + K) s t (wrap64 ((j : Int) + 1)) else some false
  | 0, i, b, hi => by
    rw [show 0 + 5001 + K = (5000 + K) + 1 by omega, antiphonref24_Within.l1, if_neg (by omega), List.drop_eq_nil_of_le (by rw [List.length_map]; omega)]
    cases b <;> simp
  | m + 1, i, b, hi => by
    have hsl := hs.1
    rw [List.length_map] at hsl
    have hsi : i < s.length := by omega
    have hmi : i < (s.map S27.f1).length := by rw [List.length_map]; exact hsi
    rw [show m + 1 + 5001 + K = (m + 5001 + K) + 1 by omega, antiphonref24_Within.l1, if_pos (by omega), w64 ((i : Int) + 1) (by omega) (by omega), show ((i : Int) + 1) = ((i + 1 : Nat) : Int) by omega, any_step _ _ i hmi, List.getElem_map]
    cases b with
    | true => rw [if_pos rfl, rwithin_l1 s t hs ht j hj K m (i + 1) true (by omega)]; simp
    | false =>
      rw [if_neg (by decide), if_pos (by omega), if_pos (by omega), if_pos (by omega), x27 hsi, x27 hj, rpart_ok _ _ (hs.2 _ (List.mem_map.2 ⟨s[i], List.getElem_mem hsi, rfl⟩)) (ht.2 _ (List.mem_map.2 ⟨t[j], List.getElem_mem hj, rfl⟩)) _ (by omega), Option.bind_some, rwithin_l1 s t hs ht j hj K m (i + 1) _ (by omega), Bool.false_or]
theorem rwithin_l0 (s t : List S27) (hs : OkR (s.map S27.f1)) (ht : OkR (t.map S27.f1)) (K : Nat) : ∀ (n j : Nat), j + n = t.length →
    antiphonref24_Within.l0 (n * (s.length + 2) + 5002 + K) s t (j : Int) = some (((t.map S27.f1).drop j).all fun y => (s.map S27.f1).any fun x => decide (partL x y ≥ 0))
  | 0, j, hj => by
    rw [show 0 * (s.length + 2) + 5002 + K = (5001 + K) + 1 by omega, antiphonref24_Within.l0, if_neg (by omega), List.drop_eq_nil_of_le (by rw [List.length_map]; omega)]; rfl
  | n + 1, j, hj => by
    have htl := ht.1
    rw [List.length_map] at htl
    have htj : j < t.length := by omega
    have hmj : j < (t.map S27.f1).length := by rw [List.length_map]; exact htj
    have e : (n + 1) * (s.length + 2) + 5002 + K = (s.length + 5001 + (n * (s.length + 2) + 2 + K)) + 1 := by rw [Nat.add_mul]; omega
    have h1 := rwithin_l1 s t hs ht j htj (n * (s.length + 2) + 2 + K) s.length 0 false (by omega)
    rw [show ((0 : Nat) : Int) = 0 from rfl] at h1
    rw [e, antiphonref24_Within.l0, if_pos (by omega), h1, all_step _ _ j hmj, List.getElem_map, Bool.false_or, List.drop_zero, w64 _ (by omega) (by omega), show ((j : Int) + 1) = ((j + 1 : Nat) : Int) by omega]
    cases ha : (s.map S27.f1).any fun x => decide (partL x t[j].f1 ≥ 0) with
    | false => rw [if_neg (by decide), Bool.false_and]
    | true =>
      rw [if_pos rfl, Bool.true_and, show 5000 + (n * (s.length + 2) + 2 + K) = n * (s.length + 2) + 5002 + K by omega]
      exact rwithin_l0 s t hs ht K n (j + 1) (by omega)
theorem rwithin_ok (s t : List S27) (hs : OkR (s.map S27.f1)) (ht : OkR (t.map S27.f1)) (hsl : s.length ≤ 70) (htl : t.length ≤ 70) (K : Nat) (hK : 20000 ≤ K) : antiphonref24_Within.f K s t = some (withinL (s.map S27.f1) (t.map S27.f1)) := by
  have hm : t.length * (s.length + 2) ≤ 70 * 72 := Nat.mul_le_mul htl (by omega)
  have := rwithin_l0 s t hs ht (K - 5002 - t.length * (s.length + 2)) t.length 0 (by omega)
  rw [show t.length * (s.length + 2) + 5002 + (K - 5002 - t.length * (s.length + 2)) = K by omega] at this
  exact this
def to47 (x : S27) : S47 := ⟨x.f0, x.f1⟩
theorem runs_l0_ (l : List S27) (hl : l.length ≤ 1000) (k : Nat) : ∀ (m i : Nat) (acc : List S47), i + m = l.length → acc.length = i → antiphonlaw26_runs.l0 (m + 1 + k) l acc (i : Int) = some (acc ++ (l.drop i).map to47)
  | 0, i, acc, hi, ha => by
    rw [show 0 + 1 + k = k + 1 by omega, antiphonlaw26_runs.l0, if_neg (by omega), List.drop_eq_nil_of_le (by omega)]
    simp
  | m + 1, i, acc, hi, ha => by
    rw [show m + 1 + 1 + k = (m + 1 + k) + 1 by omega, antiphonlaw26_runs.l0, if_pos (by omega), if_pos (by omega), if_pos (by omega), w64 _ (by omega) (by omega), x27 (show i < l.length by omega),
      show ((i : Int) + 1) = ((i + 1 : Nat) : Int) by omega, runs_l0_ l hl k m (i + 1) _ (by omega) (by simp [ha]), List.drop_eq_getElem_cons (show i < l.length by omega), List.map_cons, List.append_assoc]
    rfl
theorem runs_ok (l : List S27) (hl : l.length ≤ 1000) (K : Nat) (hK : 2000 ≤ K) : antiphonlaw26_runs.f K l = some (l.map to47) := by
  have := runs_l0_ l hl (K - 1 - l.length) l.length 0 [] (by omega) rfl
  rw [show l.length + 1 + (K - 1 - l.length) = K by omega] at this
  simpa [antiphonlaw26_runs.f] using this
def smallB (l : List (List Int)) : Bool := decide (l.length ≤ 60) && l.all fun r => decide (r.length ≤ 60)
theorem small_l0 (l : List (List Int)) (hl : l.length ≤ 60) (k : Nat) : ∀ (m i : Nat), i + m = l.length → antiphonlaw26_small.l0 (m + 1 + k) l (i : Int) = some ((l.drop i).all fun r => decide (r.length ≤ 60))
  | 0, i, hi => by rw [show 0 + 1 + k = k + 1 by omega, antiphonlaw26_small.l0, if_neg (by omega), List.drop_eq_nil_of_le (by omega)]; rfl
  | m + 1, i, hi => by
    have hil : i < l.length := by omega
    rw [show m + 1 + 1 + k = (m + 1 + k) + 1 by omega, antiphonlaw26_small.l0, if_pos (by omega), if_pos (by omega), xL1 hil, all_step _ _ i hil]
    by_cases h : ((l[i].length : Nat) : Int) > 60
    · rw [if_pos h, decide_eq_false (by omega), Bool.false_and]
    · rw [if_neg h, decide_eq_true (by omega), Bool.true_and, w64 _ (by omega) (by omega), show ((i : Int) + 1) = ((i + 1 : Nat) : Int) by omega]
      exact small_l0 l hl k m (i + 1) (by omega)
theorem small_ok (l : List (List Int)) (K : Nat) (hK : 100 ≤ K) : antiphonlaw26_small.f K l = some (smallB l) := by
  unfold antiphonlaw26_small.f smallB
  by_cases h : ((l.length : Nat) : Int) > 60
  · rw [if_pos h, decide_eq_false (by omega), Bool.false_and]
  · rw [if_neg h, decide_eq_true (by omega), Bool.true_and]
    have := small_l0 l (by omega) (K - 1 - l.length) l.length 0 (by omega)
    rw [show l.length + 1 + (K - 1 - l.length) = K by omega] at this
    simpa using this
theorem small_OkL {l : List (List Int)} (h : smallB l = true) (hb : ∀ r ∈ l, Bytes r) : OkL l ∧ l.length ≤ 60 := by
  unfold smallB at h
  simp only [Bool.and_eq_true, decide_eq_true_eq, List.all_eq_true] at h
  exact ⟨⟨by omega, fun r hr => ⟨by have := h.2 r hr; omega, hb r hr⟩⟩, h.1⟩
end Go.Proofs.Ythdjdhcdhaicoaa.Lib
