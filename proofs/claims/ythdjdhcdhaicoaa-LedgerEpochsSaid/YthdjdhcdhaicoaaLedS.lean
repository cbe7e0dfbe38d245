-- Written by this session: what the laws of chapter 26 compute, in plain words: rows, same, counts, both runs.
import Derived.Test.YthdjdhcdhaicoaaLedQ
import Derived.Test.YthdjdhcdhaicoaaPx18
import Derived.Test.YthdjdhcdhaicoaaPx20
import Derived.Test.YthdjdhcdhaicoaaPx22
import Derived.Test.YthdjdhcdhaicoaaPx23
import Derived.Test.YthdjdhcdhaicoaaPx9
namespace Go.Proofs.Ythdjdhcdhaicoaa.Lib
set_option linter.unusedSimpArgs false
set_option linter.unusedVariables false
open Go.RowKit Go.Proofs.Ythdjdhcdhaicoaa.P Go.Proofs.YthdjdhcdhaicoaaW.PrintWords Go.Proofs.YthdjdhcdhaicoaaW.PrintLast Go.Proofs.YthdjdhcdhaicoaaW.PrintMore
def to56 (x : S46) : S56 := ⟨x.f0, x.f1, x.f2⟩
theorem getD_at {α : Type} {l : List α} {i : Nat} (h : i < l.length) (z : α) : l.getD i z = l[i] := by
  rw [List.getD_eq_getElem?_getD, List.getElem?_eq_getElem h]; rfl
theorem rd46 {l : List S46} {i : Nat} (h : i < l.length) : rd_T46 l (i : Int) = l[i] := by unfold rd_T46; rw [Int.toNat_natCast, getD_at h]
theorem rd56 {l : List S56} {i : Nat} (h : i < l.length) : rd_T56 l (i : Int) = l[i] := by unfold rd_T56; rw [Int.toNat_natCast, getD_at h]
theorem rd47 {l : List S47} {i : Nat} (h : i < l.length) : rd_T47 l (i : Int) = l[i] := by unfold rd_T47; rw [Int.toNat_natCast, getD_at h]
theorem rd27 {l : List S27} {i : Nat} (h : i < l.length) : rd_T27 l (i : Int) = l[i] := by unfold rd_T27; rw [Int.toNat_natCast, getD_at h]
theorem rdL1 {l : List (List Int)} {i : Nat} (h : i < l.length) : rd_L1 l (i : Int) = l[i] := by unfold rd_L1; rw [Int.toNat_natCast, getD_at h]
theorem rows_l0 (l : List S46) (hl : l.length ≤ 1000) (k : Nat) : ∀ (m i : Nat) (acc : List S56), i + m = l.length → acc.length = i → antiphonlaw26_rows.l0 (m + 1 + k) l acc (i : Int) = some (acc ++ (l.drop i).map to56)
  | 0, i, acc, hi, ha => by
    rw [show 0 + 1 + k = k + 1 by omega, antiphonlaw26_rows.l0, if_neg (by omega), List.drop_eq_nil_of_le (by omega)]
    simp
  | m + 1, i, acc, hi, ha => by
    rw [show m + 1 + 1 + k = (m + 1 + k) + 1 by omega, antiphonlaw26_rows.l0, if_pos (by omega), if_pos (by omega), if_pos (by omega), w64 _ (by omega) (by omega), rd46 (show i < l.length by omega),
      show ((i : Int) + 1) = ((i + 1 : Nat) : Int) by omega, rows_l0 l hl k m (i + 1) _ (by omega) (by simp [ha]), List.drop_eq_getElem_cons (show i < l.length by omega), List.map_cons, List.append_assoc]
    rfl
theorem rows_ok (l : List S46) (hl : l.length ≤ 1000) (k : Nat) : antiphonlaw26_rows.f (l.length + 1 + k) l = some (l.map to56) := by
  have := rows_l0 l hl k l.length 0 [] (by omega) rfl
  simpa [antiphonlaw26_rows.f] using this
theorem rows_same_l0 (l : List (List Int)) (hl : l.length ≤ 1000) (hb : ∀ r ∈ l, r.length ≤ 1000) (k : Nat) : ∀ (m i : Nat), i + m = l.length → antiphonref1_Rows.l0 (m + 1002 + k) l l (i : Int) = some true
  | 0, i, hi => by rw [show 0 + 1002 + k = (1001 + k) + 1 by omega, antiphonref1_Rows.l0, if_neg (by omega)]
  | m + 1, i, hi => by
    have hbi := hb l[i] (List.getElem_mem (show i < l.length by omega))
    rw [show m + 1 + 1002 + k = (m + 1002 + k) + 1 by omega, antiphonref1_Rows.l0, if_pos (by omega), if_pos (by omega), if_pos (by omega), rdL1 (show i < l.length by omega),
      show m + 1002 + k = l[i].length + 1 + (m + 1002 + k - (l[i].length + 1)) by omega, same_ref _ _ (by omega), Option.bind_some, decide_eq_true rfl, if_pos rfl, w64 _ (by omega) (by omega), show ((i : Int) + 1) = ((i + 1 : Nat) : Int) by omega,
      show l[i].length + 1 + (m + 1002 + k - (l[i].length + 1)) = m + 1002 + k by omega]
    exact rows_same_l0 l hl hb k m (i + 1) (by omega)
theorem rows_same (l : List (List Int)) (hl : l.length ≤ 1000) (hb : ∀ r ∈ l, r.length ≤ 1000) (k : Nat) (hk : 3000 ≤ k) : antiphonref1_Rows.f k l l = some true := by
  have := rows_same_l0 l hl hb (k - 1002 - l.length) l.length 0 (by omega)
  unfold antiphonref1_Rows.f
  rw [if_pos rfl]
  rw [show l.length + 1002 + (k - 1002 - l.length) = k by omega] at this
  exact this
def toR (y : S47) : S27 := ⟨y.f0, y.f1⟩
theorem same_l0_ (a : List S47) (ha : a.length ≤ 1000) (hb : ∀ y ∈ a, y.f1.length ≤ 1000 ∧ ∀ r ∈ y.f1, r.length ≤ 1000) (k : Nat) : ∀ (m i : Nat), i + m = a.length → antiphonlaw26_same.l0 (m + 3001 + k) a (a.map toR) (i : Int) = some true
  | 0, i, hi => by rw [show 0 + 3001 + k = (3000 + k) + 1 by omega, antiphonlaw26_same.l0, if_neg (by omega)]
  | m + 1, i, hi => by
    have h1 := hb a[i] (List.getElem_mem (show i < a.length by omega))
    have hr : rd_T27 (a.map toR) (i : Int) = toR a[i] := by rw [rd27 (by rw [List.length_map]; omega), List.getElem_map]
    rw [show m + 1 + 3001 + k = (m + 3001 + k) + 1 by omega, antiphonlaw26_same.l0, if_pos (by omega), if_pos (by omega), if_pos (by rw [List.length_map]; omega), rd47 (show i < a.length by omega), hr, if_pos (show a[i].f0 = (toR a[i]).f0 from rfl)]
    rw [show (toR a[i]).f1 = a[i].f1 from rfl, rows_same _ h1.1 h1.2 _ (by omega), Option.bind_some, if_pos rfl, w64 _ (by omega) (by omega), show ((i : Int) + 1) = ((i + 1 : Nat) : Int) by omega]
    exact same_l0_ a ha hb k m (i + 1) (by omega)
theorem same_ok (a : List S47) (ha : a.length ≤ 1000) (hb : ∀ y ∈ a, y.f1.length ≤ 1000 ∧ ∀ r ∈ y.f1, r.length ≤ 1000) (k : Nat) (hk : 5000 ≤ k) : antiphonlaw26_same.f k a (a.map toR) = some true := by
  have := same_l0_ a ha hb (k - 3001 - a.length) a.length 0 (by omega)
  unfold antiphonlaw26_same.f
  rw [if_pos (by rw [List.length_map])]
  rw [show a.length + 3001 + (k - 3001 - a.length) = k by omega] at this
  exact this
def cntB (kind sap : Int) (x : S56) : Bool := decide (x.f2.f0 = kind) && decide (x.f2.f1 = sap)
def cntL (l : List S56) (kind sap : Int) : Int := ((l.filter (cntB kind sap)).length : Int)
theorem cnt_take (l : List S56) (kind sap : Int) (i : Nat) (h : i < l.length) : cntL (l.take (i + 1)) kind sap = cntL (l.take i) kind sap + (if cntB kind sap l[i] = true then 1 else 0) := by
  unfold cntL
  rw [List.take_add_one, List.getElem?_eq_getElem h, List.filter_append, List.length_append]
  cases hc : cntB kind sap l[i] <;> simp [hc]
theorem cnt_le (l : List S56) (kind sap : Int) : 0 ≤ cntL l kind sap ∧ cntL l kind sap ≤ l.length := by
  unfold cntL
  have := List.length_filter_le (cntB kind sap) l
  omega
theorem count_l0 (l : List S56) (hl : l.length ≤ 1000) (kind sap : Int) (k : Nat) : ∀ (m i : Nat), i + m = l.length → ledger_Count.l0 (m + 1 + k) kind sap (cntL (l.take i) kind sap) l (l.length : Int) (i : Int) = some (cntL l kind sap)
  | 0, i, hi => by rw [show 0 + 1 + k = k + 1 by omega, ledger_Count.l0, if_neg (by omega), List.take_of_length_le (by omega)]
  | m + 1, i, hi => by
    have ih := count_l0 l hl kind sap k m (i + 1) (by omega)
    have hc := cnt_take l kind sap i (by omega)
    have hle := cnt_le (l.take i) kind sap
    have hti := List.length_take_le i l
    rw [show m + 1 + 1 + k = (m + 1 + k) + 1 by omega, ledger_Count.l0, if_pos (by omega), if_pos (by omega), if_pos (by omega), rd56 (show i < l.length by omega)]
    rw [w64 ((i : Int) + 1) (by omega) (by omega), w64 (cntL (l.take i) kind sap + 1) (by omega) (by omega), show ((i : Int) + 1) = ((i + 1 : Nat) : Int) by omega]
    by_cases h0 : l[i].f2.f0 = kind
    · rw [if_pos h0]
      by_cases h1 : l[i].f2.f1 = sap
      · rw [if_pos h1]
        rw [if_pos (show cntB kind sap l[i] = true by simp [cntB, h0, h1])] at hc
        rw [← hc]; exact ih
      · rw [if_neg h1]
        rw [if_neg (show ¬ cntB kind sap l[i] = true by simp [cntB, h1]), Int.add_zero] at hc
        rw [← hc]; exact ih
    · rw [if_neg h0]
      rw [if_neg (show ¬ cntB kind sap l[i] = true by simp [cntB, h0]), Int.add_zero] at hc
      rw [← hc]; exact ih
theorem count_ok (l : List S56) (hl : l.length ≤ 1000) (kind sap : Int) (k : Nat) (hk : 2000 ≤ k) : ledger_Count.f k l kind sap = some (cntL l kind sap) := by
  have := count_l0 l hl kind sap (k - 1 - l.length) l.length 0 (by omega)
  rw [show l.length + 1 + (k - 1 - l.length) = k by omega] at this
  simpa [ledger_Count.f, cntL] using this
/-! both runs -/
abbrev it56 (x : S56) : List Int := x.f2.f4
def pR (p : Int × List (List Int)) : S27 := ⟨p.1, p.2⟩
theorem getD_map_ {α β : Type} (f : α → β) (o : List α) (i : Nat) (z : α) : (o.map f).getD i (f z) = f (o.getD i z) := by
  rw [List.getD_eq_getElem?_getD, List.getD_eq_getElem?_getD, List.getElem?_map]
  cases o[i]? <;> rfl
theorem rS_ref (o : List (Int × List (List Int))) (x : S46) : rS (o.map pR) x = (refS ep56 it56 o (to56 x)).map pR := by
  have hz : z27 = pR (0, []) := rfl
  have h1 : rNew (o.map pR) x = (if o.length = 0 ∨ (o.getD (o.length - 1) (0, [])).1 ≠ ep56 (to56 x) then o ++ [(ep56 (to56 x), [])] else o).map pR := by
    unfold rNew
    rw [List.length_map, hz, getD_map_]
    by_cases hc : o.length = 0 ∨ (o.getD (o.length - 1) (0, [])).1 ≠ ep56 (to56 x)
    · rw [if_pos hc, if_pos (show o.length = 0 ∨ (pR (o.getD (o.length - 1) (0, []))).f0 ≠ x.f1 from hc), List.map_append]; rfl
    · rw [if_neg hc, if_neg (show ¬ (o.length = 0 ∨ (pR (o.getD (o.length - 1) (0, []))).f0 ≠ x.f1) from hc)]
  unfold rS rAdd
  rw [h1]
  unfold refS
  simp only []
  generalize (if o.length = 0 ∨ (o.getD (o.length - 1) (0, [])).1 ≠ ep56 (to56 x) then o ++ [(ep56 (to56 x), [])] else o) = o1
  rw [List.length_map, hz, getD_map_, List.map_set]
  rfl
theorem fold_ref (l : List S46) : ∀ o : List (Int × List (List Int)), l.foldl rS (o.map pR) = ((l.map to56).foldl (refS ep56 it56) o).map pR := by
  induction l with
  | nil => intro o; rfl
  | cons x l ih => intro o; rw [List.foldl_cons, rS_ref, ih, List.map_cons, List.foldl_cons]
theorem runs_both (l : List S46) (a1 a2 p0 p1 p2 p3 p4 p5 : Int) : refRunsL l a1 a2 p0 p1 p2 p3 p4 p5 = (runsS (l.map to56) a1 a2 p0 p1 p2 p3 p4 p5).map toR := by
  unfold refRunsL runsS
  have h := fold_ref (l.filter (mineR a1 a2 p0 p1 p2 p3 p4 p5)) []
  rw [show ([] : List (Int × List (List Int))).map pR = [] from rfl] at h
  rw [h, show ((l.filter (mineR a1 a2 p0 p1 p2 p3 p4 p5)).map to56).foldl (refS ep56 it56) [] = refN ep56 it56 ((l.filter (mineR a1 a2 p0 p1 p2 p3 p4 p5)).map to56) from rfl, runs_ref, List.map_map, List.map_map,
    show (l.map to56).filter (mineB a1 a2 p0 p1 p2 p3 p4 p5) = (l.filter (mineR a1 a2 p0 p1 p2 p3 p4 p5)).map to56 from by rw [List.filter_map]; rfl]
  rfl
theorem runs_small (l : List S56) (hl : l.length ≤ 1000) (hb : ∀ x ∈ l, x.f2.f4.length ≤ 1000) (a1 a2 p0 p1 p2 p3 p4 p5 : Int) : (runsS l a1 a2 p0 p1 p2 p3 p4 p5).length ≤ 1000 ∧ ∀ y ∈ runsS l a1 a2 p0 p1 p2 p3 p4 p5, y.f1.length ≤ 1000 ∧ ∀ r ∈ y.f1, r.length ≤ 1000 := by
  unfold runsS
  have hm : (l.filter (mineB a1 a2 p0 p1 p2 p3 p4 p5)).length ≤ 1000 := Nat.le_trans (List.length_filter_le _ _) hl
  refine ⟨by rw [List.length_map]; exact Nat.le_trans (cutN_len ep56 _ _) hm, fun y hy => ?_⟩
  obtain ⟨g, hg, rfl⟩ := List.mem_map.1 hy
  refine ⟨?_, fun r hr => ?_⟩
  · show (g.map fun x => x.f2.f4).length ≤ 1000
    rw [List.length_map]
    exact Nat.le_trans (mem_sum hg) (Nat.le_trans (cutN_sum ep56 _ _) hm)
  · obtain ⟨x, hx, rfl⟩ := List.mem_map.1 hr
    exact hb x (List.mem_filter.1 (cut_mem ep56 _ g hg x hx)).1
theorem awake_ok : antiphonlaw26_awake.f 60 = some true := by decide +kernel
end Go.Proofs.Ythdjdhcdhaicoaa.Lib
