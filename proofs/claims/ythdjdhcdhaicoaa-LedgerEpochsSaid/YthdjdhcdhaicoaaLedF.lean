-- Written by this session: how one goes through the parts of a row, in plain words.
import Derived.Test.YthdjdhcdhaicoaaLedE
namespace Go.Proofs.Ythdjdhcdhaicoaa.Lib
set_option linter.unusedSimpArgs false
set_option linter.unusedVariables false
variable {α : Type} (ep : α → Int)
/-- Behind the first c of all parts: in part at_, behind k of it. -/
def InvE (G : List (List α)) (c at_ k : Nat) : Prop :=
  (G = [] ∧ at_ = 0 ∧ k = 0 ∧ c = 0) ∨ ∃ g, G[at_]? = some g ∧ k ≤ g.length ∧ (G.take at_).flatten.length + k = c
theorem inv_start (G : List (List α)) : InvE G 0 0 0 := by
  cases G with
  | nil => exact .inl ⟨rfl, rfl, rfl, rfl⟩
  | cons g G => exact .inr ⟨g, rfl, Nat.zero_le _, rfl⟩
theorem mem_get {G : List (List α)} {i : Nat} {g : List α} (h : G[i]? = some g) : g ∈ G := List.mem_of_getElem? h
theorem inv_end (G : List (List α)) (hne : ∀ g ∈ G, g ≠ []) (at_ k : Nat) (h : InvE G G.flatten.length at_ k) :
    (G.length = 0 ∧ k = 0) ∨ ∃ g, at_ + 1 = G.length ∧ G[at_]? = some g ∧ k = g.length := by
  rcases h with ⟨rfl, _, rfl, _⟩ | ⟨g, hg, hk, hs⟩
  · exact .inl ⟨rfl, rfl⟩
  · right
    have h1 := pos_next G at_ g hg
    have hl : at_ < G.length := (List.getElem?_eq_some_iff.1 hg).1
    have e : G.flatten = (G.take (at_ + 1)).flatten ++ (G.drop (at_ + 1)).flatten := by
      rw [← List.flatten_append, List.take_append_drop]
    have e2 : G.flatten.length = (G.take (at_ + 1)).flatten.length + (G.drop (at_ + 1)).flatten.length := by
      conv => lhs; rw [e]
      rw [List.length_append]
    have hz : (G.drop (at_ + 1)).flatten.length = 0 := by omega
    refine ⟨g, ?_, hg, by omega⟩
    rcases Nat.lt_or_ge (at_ + 1) G.length with hlt | hge
    · exfalso
      have hx : G[at_ + 1]? = some G[at_ + 1] := List.getElem?_eq_getElem hlt
      have hn := hne _ (List.getElem_mem hlt)
      rw [List.drop_eq_getElem_cons hlt, List.flatten_cons, List.length_append] at hz
      have : G[at_ + 1].length = 0 := by omega
      exact hn (List.length_eq_zero_iff.1 this)
    · omega
theorem inv_step (mine : List α) (c at_ k : Nat) (x : α) (hx : mine[c]? = some x) (h : InvE (cutL ep mine) c at_ k) :
    ∃ g, (cutL ep mine)[at_]? = some g ∧
      ((k < g.length ∧ g[k]? = some x ∧ (g.head?.map ep).getD 0 = ep x ∧ InvE (cutL ep mine) (c + 1) at_ (k + 1)) ∨
       (k = g.length ∧ ∃ g', (cutL ep mine)[at_ + 1]? = some g' ∧ 0 < g'.length ∧ g'[0]? = some x ∧ (g'.head?.map ep).getD 0 = ep x ∧ (g'.head?.map ep).getD 0 ≠ (g.head?.map ep).getD 0 ∧ InvE (cutL ep mine) (c + 1) (at_ + 1) 1)) := by
  have hfl := cut_flat ep mine
  have hcl : c < mine.length := (List.getElem?_eq_some_iff.1 hx).1
  have hne : ∀ g ∈ cutL ep mine, g ≠ [] := cut_ne ep mine
  have hun := cut_unlikeN ep mine mine.length (Nat.le_refl _)
  have hsame := cut_sameN ep mine mine.length (Nat.le_refl _)
  change ∀ j a ga b gb, (cutL ep mine)[j]? = some (a :: ga) → (cutL ep mine)[j + 1]? = some (b :: gb) → ep a ≠ ep b at hun
  change ∀ g ∈ cutL ep mine, ∀ a ∈ g, ∀ b ∈ g, ep a = ep b at hsame
  generalize cutL ep mine = G at h hfl hne hun hsame
  have hhead : ∀ (g : List α) (j : Nat) (y : α), g ∈ G → g[j]? = some y → (g.head?.map ep).getD 0 = ep y := by
    intro g j y hg hj
    cases g with
    | nil => simp at hj
    | cons a ga => exact hsame _ hg a (by simp) y (List.mem_of_getElem? hj)
  rcases h with ⟨rfl, _, _, hc0⟩ | ⟨g, hg, hk, hs⟩
  · have : mine.length = 0 := by rw [← hfl]; rfl
    omega
  · refine ⟨g, hg, ?_⟩
    rcases Nat.lt_or_ge k g.length with hlt | hge
    · left
      have h1 := pos_get G at_ k g hg hlt
      rw [hfl, hs, hx] at h1
      exact ⟨hlt, h1.symm, hhead g k x (mem_get hg) h1.symm, .inr ⟨g, hg, hlt, by omega⟩⟩
    · right
      have hke : k = g.length := by omega
      have hn := pos_next G at_ g hg
      have hlt : at_ + 1 < G.length := by
        rcases Nat.lt_or_ge (at_ + 1) G.length with h | h
        · exact h
        · exfalso
          have := pos_all G (at_ + 1) h
          rw [this, hfl] at hn
          omega
      have hg' : G[at_ + 1]? = some G[at_ + 1] := List.getElem?_eq_getElem hlt
      have hpos : 0 < (G[at_ + 1]).length := List.length_pos_iff.2 (hne _ (List.getElem_mem hlt))
      have h1 := pos_get G (at_ + 1) 0 _ hg' hpos
      rw [Nat.add_zero, hfl, show (G.take (at_ + 1)).flatten.length = c by omega, hx] at h1
      have hh := hhead _ 0 x (mem_get hg') h1.symm
      refine ⟨hke, G[at_ + 1], hg', hpos, h1.symm, hh, ?_, .inr ⟨_, hg', hpos, by omega⟩⟩
      have hgn := hne g (mem_get hg)
      cases hga : g with
      | nil => exact absurd hga hgn
      | cons a ga =>
        cases hgb : G[at_ + 1] with
        | nil => rw [hgb] at hpos; simp at hpos
        | cons b gb =>
          have := hun at_ a ga b gb (by rw [hg, hga]) (by rw [hg', hgb])
          exact fun e => this e.symm
theorem filter_get (q : α → Bool) (l : List α) : ∀ (i : Nat) (x : α), l[i]? = some x → q x = true → (l.filter q)[((l.take i).filter q).length]? = some x := by
  intro i x hx hq
  have hil : i < l.length := (List.getElem?_eq_some_iff.1 hx).1
  have hxe : l[i] = x := (List.getElem?_eq_some_iff.1 hx).2
  have e : l.filter q = (l.take i).filter q ++ (x :: (l.drop (i + 1)).filter q) := by
    conv => lhs; rw [← List.take_append_drop i l, List.filter_append, List.drop_eq_getElem_cons hil]
    rw [hxe, List.filter_cons, if_pos hq]
  rw [e, List.getElem?_append_right (Nat.le_refl _), Nat.sub_self]
  rfl
theorem filter_next (q : α → Bool) (l : List α) (i : Nat) (x : α) (hx : l[i]? = some x) : ((l.take (i + 1)).filter q).length = ((l.take i).filter q).length + (if q x = true then 1 else 0) := by
  rw [List.take_add_one, hx]
  simp only [Option.toList, List.filter_append, List.length_append]
  congr 1
  by_cases h : q x = true
  · rw [if_pos h, List.filter_cons, if_pos h]; rfl
  · rw [if_neg h, List.filter_cons, if_neg h]; rfl
end Go.Proofs.Ythdjdhcdhaicoaa.Lib
