-- Written by this session: what LedgerEpochs wants of the parts of a row, in plain words.
import Derived.Test.YthdjdhcdhaicoaaRunsL
namespace Go.Proofs.Ythdjdhcdhaicoaa.Lib
set_option linter.unusedSimpArgs false
set_option linter.unusedVariables false
variable {α : Type} (ep : α → Int)
theorem cut_step (l : List α) (i : Nat) (x : α) (hx : l[i]? = some x) : (i = 0 ∧ cutN ep l (i + 1) = [[x]]) ∨
    ∃ (o : List (List α)) (y : α) (g : List α), cutN ep l i = o ++ [y :: g] ∧ ((ep y = ep x ∧ cutN ep l (i + 1) = o ++ [y :: g ++ [x]]) ∨ (ep y ≠ ep x ∧ cutN ep l (i + 1) = o ++ [y :: g] ++ [[x]])) := by
  have hil : i < l.length := (List.getElem?_eq_some_iff.1 hx).1
  rcases (cut_ref ep (fun _ => []) l i (by omega)).2 with ⟨rfl, h0⟩ | ⟨o, y, g, z, h, he, hp, hz⟩
  · left
    refine ⟨rfl, ?_⟩
    rw [cutN_next ep l 0 x hx, if_pos rfl, cutS_new ep _ none _ (.inl rfl)]
    rfl
  · right
    refine ⟨o, y, g, h, ?_⟩
    rw [cutN_next ep l i x hx, if_neg (by omega), hz, h]
    by_cases e : ep z = ep x
    · left
      refine ⟨he.trans e, ?_⟩
      rw [cutS_old ep _ z x o.length e (by simp)]
      simp
    · right
      refine ⟨fun h' => e (he.symm.trans h'), ?_⟩
      rw [cutS_new ep _ (some z) x (.inr ⟨z, rfl, e⟩)]
      simp
theorem cut_flatN (l : List α) : ∀ i, i ≤ l.length → (cutN ep l i).flatten = l.take i
  | 0, _ => by simp [cutN]
  | i + 1, hi => by
    have hx : l[i]? = some l[i] := List.getElem?_eq_getElem (by omega)
    have ih := cut_flatN l i (by omega)
    rw [List.take_add_one, hx]
    rcases cut_step ep l i _ hx with ⟨rfl, h⟩ | ⟨o, y, g, h, ⟨_, h'⟩ | ⟨_, h'⟩⟩
    · rw [h]; simp
    · rw [h'] ; rw [h] at ih; rw [← ih]; simp
    · rw [h'] ; rw [h] at ih; rw [← ih]; simp
theorem cut_flat (l : List α) : (cutL ep l).flatten = l := by unfold cutL; rw [cut_flatN ep l _ (Nat.le_refl _), List.take_length]
/-- All of a part are of its first one's epoch. -/
theorem cut_sameN (l : List α) : ∀ i, i ≤ l.length → ∀ g ∈ cutN ep l i, ∀ a ∈ g, ∀ b ∈ g, ep a = ep b
  | 0, _ => by simp [cutN]
  | i + 1, hi => by
    have hx : l[i]? = some l[i] := List.getElem?_eq_getElem (by omega)
    have ih := cut_sameN l i (by omega)
    rcases cut_step ep l i _ hx with ⟨rfl, h⟩ | ⟨o, y, g, h, ⟨e, h'⟩ | ⟨e, h'⟩⟩
    · rw [h]
      intro g hg a ha b hb
      obtain rfl : g = [l[0]] := by simpa using hg
      rw [List.mem_singleton.1 ha, List.mem_singleton.1 hb]
    · rw [h']
      rw [h] at ih
      have hy : ∀ a ∈ y :: g, ep a = ep y := fun a ha => ih (y :: g) (by simp) a ha y (by simp)
      intro g' hg a ha b hb
      rcases List.mem_append.1 hg with hg | hg
      · exact ih g' (List.mem_append_left _ hg) a ha b hb
      · obtain rfl : g' = y :: g ++ [l[i]] := List.mem_singleton.1 hg
        have k : ∀ c ∈ y :: g ++ [l[i]], ep c = ep y := by
          intro c hc
          rcases List.mem_append.1 hc with hc | hc
          · exact hy c hc
          · rw [List.mem_singleton.1 hc]; exact e.symm
        rw [k a ha, k b hb]
    · rw [h']
      rw [h] at ih
      intro g' hg a ha b hb
      rcases List.mem_append.1 hg with hg | hg
      · exact ih g' hg a ha b hb
      · obtain rfl : g' = [l[i]] := List.mem_singleton.1 hg
        rw [List.mem_singleton.1 ha, List.mem_singleton.1 hb]
/-- Neighbours are of unlike epochs. -/
theorem cut_unlikeN (l : List α) : ∀ i, i ≤ l.length → ∀ j a ga b gb, (cutN ep l i)[j]? = some (a :: ga) → (cutN ep l i)[j + 1]? = some (b :: gb) → ep a ≠ ep b
  | 0, _ => by simp [cutN]
  | i + 1, hi => by
    have hx : l[i]? = some l[i] := List.getElem?_eq_getElem (by omega)
    have ih := cut_unlikeN l i (by omega)
    rcases cut_step ep l i _ hx with ⟨rfl, h⟩ | ⟨o, y, g, h, ⟨e, h'⟩ | ⟨e, h'⟩⟩
    · rw [h]
      intro j a ga b gb _ h2
      simp at h2
    · rw [h']
      rw [h] at ih
      intro j a ga b gb h1 h2
      have hj : j + 1 < (o ++ [y :: g ++ [l[i]]]).length := (List.getElem?_eq_some_iff.1 h2).1
      have hjo : j < o.length := by simpa using hj
      rw [List.getElem?_append_left hjo] at h1
      rcases Nat.lt_or_ge (j + 1) o.length with hk | hk
      · rw [List.getElem?_append_left hk] at h2
        exact ih j a ga b gb (by rw [List.getElem?_append_left hjo]; exact h1) (by rw [List.getElem?_append_left hk]; exact h2)
      · have hje : j + 1 = o.length := by omega
        rw [List.getElem?_append_right hk, hje, Nat.sub_self] at h2
        have hb : y :: (g ++ [l[i]]) = b :: gb := by simpa using h2
        injection hb with hb1 hb2
        subst hb1
        exact ih j a ga y g (by rw [List.getElem?_append_left hjo]; exact h1) (by rw [hje, List.getElem?_append_right (Nat.le_refl _), Nat.sub_self]; rfl)
    · rw [h']
      rw [h] at ih
      intro j a ga b gb h1 h2
      have hj : j + 1 < (o ++ [y :: g] ++ [[l[i]]]).length := (List.getElem?_eq_some_iff.1 h2).1
      have hjo : j < (o ++ [y :: g]).length := by simp at hj ⊢; omega
      rw [List.getElem?_append_left hjo] at h1
      rcases Nat.lt_or_ge (j + 1) (o ++ [y :: g]).length with hk | hk
      · rw [List.getElem?_append_left hk] at h2
        exact ih j a ga b gb h1 h2
      · have hje : j + 1 = (o ++ [y :: g]).length := by omega
        have hjl : j = o.length := by simp at hje; omega
        rw [List.getElem?_append_right hk, hje, Nat.sub_self] at h2
        have hb : [l[i]] = b :: gb := by simpa using h2
        rw [hjl, List.getElem?_append_right (Nat.le_refl _), Nat.sub_self] at h1
        have ha : y :: g = a :: ga := by simpa using h1
        injection hb with hb1 hb2
        injection ha with ha1 ha2
        rw [← hb1, ← ha1]
        exact e
/-- Where element k of part at_ stands. -/
theorem pos_get (G : List (List α)) (at_ k : Nat) (g : List α) (hg : G[at_]? = some g) (hk : k < g.length) : G.flatten[(G.take at_).flatten.length + k]? = g[k]? := by
  have hl : at_ < G.length := (List.getElem?_eq_some_iff.1 hg).1
  have e : G = G.take at_ ++ g :: G.drop (at_ + 1) := by
    have h1 : G[at_] = g := (List.getElem?_eq_some_iff.1 hg).2
    rw [← h1, ← List.drop_eq_getElem_cons hl, List.take_append_drop]
  have e2 : G.flatten = (G.take at_).flatten ++ (g ++ (G.drop (at_ + 1)).flatten) := by
    conv => lhs; rw [e]
    rw [List.flatten_append, List.flatten_cons]
  rw [e2, List.getElem?_append_right (by omega), Nat.add_sub_cancel_left, List.getElem?_append_left hk]
/-- Behind the end of part at_ the next one begins. -/
theorem pos_next (G : List (List α)) (at_ : Nat) (g : List α) (hg : G[at_]? = some g) : (G.take (at_ + 1)).flatten.length = (G.take at_).flatten.length + g.length := by
  rw [List.take_add_one, hg]
  simp
theorem pos_all (G : List (List α)) (at_ : Nat) (h : G.length ≤ at_) : (G.take at_).flatten = G.flatten := by rw [List.take_of_length_le h]
end Go.Proofs.Ythdjdhcdhaicoaa.Lib
