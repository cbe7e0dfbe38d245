-- Written by this session: what LedgerOne wants, in plain words.
import Derived.Test.YthdjdhcdhaicoaaLedT
import Derived.Test.YthdjdhcdhaicoaaLedS
namespace Go.Proofs.Ythdjdhcdhaicoaa.Lib
set_option linter.unusedSimpArgs false
set_option linter.unusedVariables false
open Go.RowKit Go.Proofs.Ythdjdhcdhaicoaa.P Go.Proofs.YthdjdhcdhaicoaaW.PrintWords Go.Proofs.YthdjdhcdhaicoaaW.PrintLast Go.Proofs.YthdjdhcdhaicoaaW.PrintMore
theorem part_self (l : List (List Int)) : partL l l = 0 := by
  unfold partL
  rw [partF, if_pos (by omega), if_pos (by simp)]
  rfl
theorem partF_found (of run : List (List Int)) (a : Nat) (h1 : a + run.length ≤ of.length) (h2 : (of.drop a).take run.length = run) : ∀ (n at_ : Nat), at_ ≤ a → of.length < at_ + n → (at_ : Int) ≤ partF n of run at_ ∧ partF n of run at_ ≤ (a : Int)
  | 0, at_, h, h' => by omega
  | n + 1, at_, h, h' => by
    rw [partF, if_pos (by omega)]
    by_cases he : (of.drop at_).take run.length = run
    · rw [if_pos he]; omega
    · rw [if_neg he]
      have hne : at_ ≠ a := fun e => he (by rw [e]; exact h2)
      have := partF_found of run a h1 h2 n (at_ + 1) (by omega) (by omega)
      omega
theorem part_sub (l : List (List Int)) (a b : Nat) (h1 : a ≤ b) (h2 : b ≤ l.length) : 0 ≤ partL l ((l.take b).drop a) ∧ partL l ((l.take b).drop a) ≤ (a : Int) := by
  have hl : ((l.take b).drop a).length = b - a := by rw [List.length_drop, List.length_take]; omega
  have := partF_found l ((l.take b).drop a) a (by omega) (by rw [hl, List.drop_take]) (l.length + 1) 0 (by omega) (by omega)
  unfold partL
  omega
theorem part_long (l : List (List Int)) (x : List Int) : partL l (l ++ [x]) = -1 := by
  unfold partL
  rw [partF, if_neg (by rw [List.length_append]; simp)]
def toldX (l : List (List Int)) (j : Nat) : S56 := ⟨(j : Int), 5, ⟨9, 4, 8, ⟨0, 0, 0, 0, 0, 0⟩, l.getD j [], 0⟩⟩
def toldL (l : List (List Int)) (i : Nat) : List S56 := (List.range i).map (toldX l)
theorem told_len (l : List (List Int)) (i : Nat) : (toldL l i).length = i := by unfold toldL; rw [List.length_map, List.length_range]
theorem told_next (l : List (List Int)) (i : Nat) : toldL l (i + 1) = toldL l i ++ [toldX l i] := by unfold toldL; rw [List.range_succ, List.map_append]; rfl
theorem told_mem {l : List (List Int)} {i : Nat} {x : S56} (h : x ∈ toldL l i) : ∃ j, j < i ∧ x = toldX l j := by
  obtain ⟨j, hj, rfl⟩ := List.mem_map.1 h
  exact ⟨j, List.mem_range.1 hj, rfl⟩
theorem told_rows (l : List (List Int)) : (toldL l l.length).map (fun x => x.f2.f4) = l := by
  unfold toldL
  rw [List.map_map]
  apply List.ext_getElem
  · simp
  · intro i h1 h2
    simp [toldX, List.getD_eq_getElem?_getD, List.getElem?_eq_getElem h2]
theorem cut_one (t : List S56) (ht : ∀ x ∈ t, ep56 x = 5) : ∀ i, i + 1 ≤ t.length → cutN ep56 t (i + 1) = [t.take (i + 1)]
  | 0, h => by
    have hx : t[0]? = some t[0] := List.getElem?_eq_getElem (by omega)
    rw [cutN_next ep56 t 0 _ hx, if_pos rfl, cutS_new ep56 _ none _ (.inl rfl)]
    rw [List.take_add_one, hx]
    rfl
  | i + 1, h => by
    have hx : t[i + 1]? = some t[i + 1] := List.getElem?_eq_getElem (by omega)
    have hy : t[i + 1 - 1]? = some t[i] := List.getElem?_eq_getElem (by omega)
    rw [cutN_next ep56 t (i + 1) _ hx, if_neg (by omega), hy, cut_one t ht i (by omega), cutS_old ep56 _ _ _ 0 (by rw [ht _ (List.getElem_mem _), ht _ (List.getElem_mem _)]) rfl]
    rw [List.take_add_one (i := i + 1), hx]
    rfl
theorem told_mine (l : List (List Int)) : (toldL l l.length).filter (mineB 4 8 0 0 0 0 0 0) = toldL l l.length := by
  rw [List.filter_eq_self]
  intro x hx
  obtain ⟨j, _, rfl⟩ := told_mem hx
  rfl
theorem told_runs (l : List (List Int)) (h : l ≠ []) : runsS (toldL l l.length) 4 8 0 0 0 0 0 0 = [⟨5, l⟩] := by
  unfold runsS
  rw [told_mine]
  obtain ⟨n, hn⟩ : ∃ n, l.length = n + 1 := ⟨l.length - 1, by have := List.length_pos_iff.2 h; omega⟩
  have hc := cut_one (toldL l l.length) (fun x hx => by obtain ⟨j, _, rfl⟩ := told_mem hx; rfl) n (by rw [told_len]; omega)
  unfold cutL
  rw [told_len] at *
  rw [hn] at hc ⊢
  rw [hc, List.take_of_length_le (by rw [told_len]; omega), ← hn]
  have hh : ((toldL l l.length).head?.map ep56).getD 0 = 5 := by
    rw [hn]
    unfold toldL
    rw [List.range_succ_eq_map]
    rfl
  show [runS (toldL l l.length)] = _
  unfold runS
  rw [hh, told_rows]
theorem told_none : runsS (toldL [] ([] : List (List Int)).length) 4 8 0 0 0 0 0 0 = [] := rfl
theorem told_count (l : List (List Int)) : cntL (toldL l l.length) 9 4 = (l.length : Int) := by
  unfold cntL
  rw [List.filter_eq_self.2 (fun x hx => by obtain ⟨j, _, rfl⟩ := told_mem hx; rfl), told_len]
theorem told_f (l : List (List Int)) (h : OkL l) : ledger_Runs.f (toldL l l.length) 4 8 0 0 0 0 0 0 = some (runsS (toldL l l.length) 4 8 0 0 0 0 0 0) := by
  unfold ledger_Runs.f
  rw [if_pos]
  refine ⟨by rw [told_len]; have := h.1; omega, fun x hx => ?_⟩
  obtain ⟨j, hj, rfl⟩ := told_mem hx
  show (l.getD j []).length < _
  rw [List.getD_eq_getElem?_getD, List.getElem?_eq_getElem hj]
  have := (h.2 _ (List.getElem_mem hj)).1
  show l[j].length < _
  omega
theorem within_self (l : List (List Int)) : withinL [l] [l] = true := by
  unfold withinL
  simp [part_self]
end Go.Proofs.Ythdjdhcdhaicoaa.Lib
