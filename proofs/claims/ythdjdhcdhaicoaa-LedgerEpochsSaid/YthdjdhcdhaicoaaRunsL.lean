-- Written by this session: rows cut by what makes them one, in plain words.
namespace Go.Proofs.Ythdjdhcdhaicoaa.Lib
section
variable {α : Type} (ep : α → Int) (it : α → List Int)
/-- One more of what is told: a new part, or one more in the last one. -/
def addL (o : List (List α)) (x : α) : List (List α) := o.set (o.length - 1) (o.getD (o.length - 1) [] ++ [x])
def cutS (o : List (List α)) (prev : Option α) (x : α) : List (List α) := addL (if (match prev with | none => true | some y => !(ep y == ep x)) then o ++ [[]] else o) x
/-- The parts of a row's first i. -/
def cutN (l : List α) : Nat → List (List α)
  | 0 => []
  | i + 1 => match l[i]? with
    | none => cutN l i
    | some x => cutS ep (cutN l i) (if i = 0 then none else l[i - 1]?) x
def cutL (l : List α) : List (List α) := cutN ep l l.length
/-- The reference's step. -/
def refS (o : List (Int × List (List Int))) (x : α) : List (Int × List (List Int)) :=
  let o1 := if o.length = 0 ∨ (o.getD (o.length - 1) (0, [])).1 ≠ ep x then o ++ [(ep x, [])] else o
  o1.set (o1.length - 1) ((o1.getD (o1.length - 1) (0, [])).1, (o1.getD (o1.length - 1) (0, [])).2 ++ [it x])
def refN (l : List α) : List (Int × List (List Int)) := l.foldl (refS ep it) []
def runOf (g : List α) : Int × List (List Int) := ((g.head?.map ep).getD 0, g.map it)
theorem addL_snoc (o : List (List α)) (g : List α) (x : α) : addL (o ++ [g]) x = o ++ [g ++ [x]] := by
  unfold addL
  simp
theorem refS_snoc (o : List (Int × List (List Int))) (e : Int) (g : List (List Int)) (x : α) (h : e = ep x) : refS ep it (o ++ [(e, g)]) x = o ++ [(e, g ++ [it x])] := by
  unfold refS
  simp [h]
theorem refS_new (o : List (Int × List (List Int))) (x : α) (h : o = [] ∨ ∃ o' e g, o = o' ++ [(e, g)] ∧ e ≠ ep x) : refS ep it o x = o ++ [(ep x, [it x])] := by
  rcases h with rfl | ⟨o', e, g, rfl, hne⟩
  · unfold refS; simp
  · unfold refS; simp [hne]
/-- What stands when i have been cut: the last part is of the last one's epoch. -/
theorem cut_ref (l : List α) : ∀ i, i ≤ l.length → refN ep it (l.take i) = (cutN ep l i).map (runOf ep it) ∧ (i = 0 ∧ cutN ep l i = [] ∨ ∃ (o : List (List α)) (y : α) (g : List α) (z : α), cutN ep l i = o ++ [y :: g] ∧ ep y = ep z ∧ 0 < i ∧ l[i - 1]? = some z)
  | 0, _ => ⟨by simp [refN, cutN], .inl ⟨rfl, rfl⟩⟩
  | i + 1, hi => by
    obtain ⟨h1, h2⟩ := cut_ref l i (by omega)
    obtain ⟨x, hx⟩ : ∃ x, l[i]? = some x := ⟨l[i], List.getElem?_eq_getElem (by omega)⟩
    have ht : refN ep it (l.take (i + 1)) = refS ep it (refN ep it (l.take i)) x := by
      unfold refN
      rw [List.take_add_one, hx]
      simp
    rw [ht, h1]
    have hc : cutN ep l (i + 1) = cutS ep (cutN ep l i) (if i = 0 then none else l[i - 1]?) x := by
      rw [cutN]; simp [hx]
    rw [hc]
    rcases h2 with ⟨rfl, h0⟩ | ⟨o, y, g, z, h0, hy, hpos, hz⟩
    · rw [h0]
      refine ⟨?_, .inr ⟨[], x, [], x, ?_, rfl, by omega, by simpa using hx⟩⟩
      · rw [show ([] : List (List α)).map (runOf ep it) = [] from rfl, refS_new ep it [] x (.inl rfl)]
        simp [cutS, addL, runOf]
      · simp [cutS, addL]
    · rw [h0, if_neg (by omega), hz]
      by_cases he : ep z = ep x
      · have hs : cutS ep (o ++ [y :: g]) (some z) x = o ++ [y :: (g ++ [x])] := by
          unfold cutS
          simp only [he, beq_self_eq_true, Bool.not_true, Bool.false_eq_true, if_false]
          rw [addL_snoc]; rfl
        rw [hs]
        refine ⟨?_, .inr ⟨o, y, g ++ [x], x, rfl, by rw [hy, he], by omega, by simpa using hx⟩⟩
        rw [List.map_append, List.map_append]
        rw [show [y :: g].map (runOf ep it) = [(ep y, (y :: g).map it)] from rfl, refS_snoc ep it _ _ _ _ (by rw [hy, he])]
        simp [runOf]
      · have hs : cutS ep (o ++ [y :: g]) (some z) x = o ++ [y :: g] ++ [[x]] := by
          unfold cutS
          have : (!(ep z == ep x)) = true := by simpa using he
          simp only [this, if_true]
          rw [addL_snoc]; rfl
        rw [hs]
        refine ⟨?_, .inr ⟨o ++ [y :: g], x, [], x, by simp, rfl, by omega, by simpa using hx⟩⟩
        rw [refS_new ep it _ x (.inr ⟨o.map (runOf ep it), ep y, (y :: g).map it, by simp [runOf], by rw [hy]; exact he⟩)]
        simp [runOf]
theorem addL_len (o : List (List α)) (x : α) : (addL o x).length = o.length := by unfold addL; simp
theorem new_len (o : List (List α)) (b : Bool) : (if b = true then o ++ [[]] else o).length ≤ o.length + 1 := by cases b <;> simp
theorem new_sum (o : List (List α)) (b : Bool) : ((if b = true then o ++ [[]] else o).map List.length).sum = (o.map List.length).sum := by cases b <;> simp
theorem cutN_len (l : List α) : ∀ i, (cutN ep l i).length ≤ i
  | 0 => by simp [cutN]
  | i + 1 => by
    have h := cutN_len l i
    rw [cutN]
    split
    · omega
    · unfold cutS
      rw [addL_len]
      exact Nat.le_trans (new_len _ _) (by omega)
theorem sum_set (o : List (List α)) : ∀ (m : Nat) (g : List α), m < o.length → ((o.set m g).map List.length).sum + (o.getD m []).length = (o.map List.length).sum + g.length := by
  induction o with
  | nil => intro m g h; simp at h
  | cons a o ih =>
    intro m g h
    cases m with
    | zero => simp; omega
    | succ m => have := ih m g (by simpa using h); simp at this ⊢; omega
theorem addL_sum (o : List (List α)) (x : α) : ((addL o x).map List.length).sum ≤ (o.map List.length).sum + 1 := by
  unfold addL
  by_cases h : o.length = 0
  · have : o = [] := List.length_eq_zero_iff.mp h
    subst this; simp
  · have := sum_set o (o.length - 1) (o.getD (o.length - 1) [] ++ [x]) (by omega)
    rw [List.length_append] at this
    simp at this ⊢
    omega
theorem cutN_sum (l : List α) : ∀ i, ((cutN ep l i).map List.length).sum ≤ i
  | 0 => by simp [cutN]
  | i + 1 => by
    have h := cutN_sum l i
    rw [cutN]
    split
    · omega
    · unfold cutS
      refine Nat.le_trans (addL_sum _ _) ?_
      rw [new_sum]
      omega
theorem len_sum (o : List (List α)) (m : Nat) : (o.getD m []).length ≤ (o.map List.length).sum := by
  induction o generalizing m with
  | nil => simp
  | cons a o ih =>
    cases m with
    | zero => simp
    | succ m => have := ih m; simp at this ⊢; omega
theorem cutN_next (l : List α) (i : Nat) (x : α) (hx : l[i]? = some x) : cutN ep l (i + 1) = cutS ep (cutN ep l i) (if i = 0 then none else l[i - 1]?) x := by rw [cutN, hx]
theorem cutS_old (o : List (List α)) (y x : α) (m : Nat) (h : ep y = ep x) (hm : o.length = m + 1) : cutS ep o (some y) x = o.set m (o.getD m [] ++ [x]) := by
  unfold cutS addL
  simp [h, hm]
theorem cutS_new (o : List (List α)) (prev : Option α) (x : α) (h : prev = none ∨ ∃ y, prev = some y ∧ ep y ≠ ep x) : cutS ep o prev x = (o ++ [[]]).set o.length ((o ++ [[]]).getD o.length [] ++ [x]) := by
  unfold cutS addL
  rcases h with rfl | ⟨y, rfl, h⟩
  · simp
  · have : (!(ep y == ep x)) = true := by simpa using h
    simp [this]
/-- Both runs are one. -/
theorem runs_ref (l : List α) : refN ep it l = (cutL ep l).map (runOf ep it) := by
  have := (cut_ref ep it l l.length (Nat.le_refl _)).1
  rwa [List.take_length] at this
theorem mem_sum {o : List (List α)} {g : List α} (h : g ∈ o) : g.length ≤ (o.map List.length).sum := by
  induction o with
  | nil => cases h
  | cons a o ih =>
    rcases List.mem_cons.1 h with rfl | h
    · simp
    · have := ih h; simp; omega
theorem mem_addL {o : List (List α)} {x : α} {g : List α} {z : α} (hg : g ∈ addL o x) (hz : z ∈ g) : z = x ∨ ∃ g' ∈ o, z ∈ g' := by
  unfold addL at hg
  rcases List.mem_or_eq_of_mem_set hg with h | rfl
  · exact .inr ⟨g, h, hz⟩
  · rcases List.mem_append.1 hz with h | h
    · by_cases hl : o.length - 1 < o.length
      · refine .inr ⟨o.getD (o.length - 1) [], ?_, h⟩
        rw [List.getD_eq_getElem?_getD, List.getElem?_eq_getElem hl]
        exact List.getElem_mem hl
      · rw [List.getD_eq_getElem?_getD, List.getElem?_eq_none (by omega)] at h
        cases h
    · exact .inl (by simpa using h)
theorem cut_memN (l : List α) : ∀ i g, g ∈ cutN ep l i → ∀ z ∈ g, z ∈ l
  | 0, g, h, z, hz => by simp [cutN] at h
  | i + 1, g, h, z, hz => by
    rw [cutN] at h
    split at h
    · exact cut_memN l i g h z hz
    · rename_i x hx
      unfold cutS at h
      rcases mem_addL h hz with rfl | ⟨g', hg', hz'⟩
      · exact List.mem_of_getElem? hx
      · split at hg'
        all_goals first
          | exact cut_memN l i g' hg' z hz'
          | (split at hg'
             · rcases List.mem_append.1 hg' with h2 | h2
               · exact cut_memN l i g' h2 z hz'
               · rw [List.mem_singleton.1 h2] at hz'; cases hz'
             · exact cut_memN l i g' hg' z hz')
theorem cut_mem (l : List α) (g : List α) (h : g ∈ cutL ep l) (x : α) (hx : x ∈ g) : x ∈ l := cut_memN ep l _ g h x hx
theorem cut_neN (l : List α) : ∀ i, i ≤ l.length → ∀ g ∈ cutN ep l i, g ≠ []
  | 0, _, g, h => by simp [cutN] at h
  | i + 1, hi, g, h => by
    obtain ⟨x, hx⟩ : ∃ x, l[i]? = some x := ⟨l[i], List.getElem?_eq_getElem (by omega)⟩
    have ih := cut_neN l i (by omega)
    obtain ⟨_, h2⟩ := cut_ref ep (fun _ => ([] : List Int)) l i (by omega)
    rw [cutN_next ep l i x hx] at h
    rcases h2 with ⟨rfl, h0⟩ | ⟨o, y, g0, z, h0, hy, hpos, hz⟩
    · rw [h0] at h
      simp [cutS, addL] at h
      rw [h]; simp
    · rw [h0, if_neg (by omega), hz] at h
      by_cases he : ep z = ep x
      · rw [cutS_old ep (o ++ [y :: g0]) z x o.length he (by simp)] at h
        simp at h
        rcases h with h | h
        · exact ih g (by rw [h0]; simp [h])
        · rw [h]; simp
      · rw [cutS_new ep (o ++ [y :: g0]) (some z) x (.inr ⟨z, rfl, he⟩)] at h
        simp at h
        rcases h with h | h | h
        · exact ih g (by rw [h0]; simp [h])
        · rw [h]; simp
        · rw [h]; simp
theorem cut_ne (l : List α) : ∀ g ∈ cutL ep l, g ≠ [] := cut_neN ep l _ (Nat.le_refl _)
end
end Go.Proofs.Ythdjdhcdhaicoaa.Lib
