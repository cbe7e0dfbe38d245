-- Written by this session (wip/print2/opens3.tpl): as opens2.tpl, and each slice inside is no longer than its weight allows.
import Derived.Test.YthdjdhcdhaicoaaRows
import Derived.Test.YthdjdhcdhaicoaaPx0
import Derived.Deep.Slices
import Derived.Deep.Fields
import Derived.ChangeSame
import Derived.OpenShut
import Derived.SizedLaws
import Derived.ChangeSlices
namespace Go.Proofs.Ythdjdhcdhaicoaa.Opz
open Go.ChangeShapes Go.WideShapes Go.RowKit Go.Deep
open Go.Proofs.YthdjdhcdhaicoaaW.PrintWords
set_option linter.unusedVariables false
def Opens (P : Program) (w : World) (t : TypeId) {α : Type} (d : Kd α) (WF : α → Prop) : Prop :=
  ∀ {H : Type} {enc : TypeId × Value → H} {base : Nat} {held : Bool} {n : Nat} {cs : List Value} {y : DataW H × List MemPlace}, DataW.trod enc P w base (fun _ => true) held n t cs = some y → (∀ m ∈ y.1.weights P t, m ≤ reachBytes) → ∃ x, d.K w x cs ∧ WF x
theorem weights_mem_all {H : Type} {P : Program} {e : TypeId} : ∀ {ds : List (DataW H)} {d : DataW H}, d ∈ ds → ∀ n ∈ d.weights P e, n ∈ DataW.weightsAll P e ds
  | d0 :: ds, d, h, n, hn => by
    simp only [DataW.weightsAll, List.mem_append]
    rcases List.mem_cons.1 h with rfl | h
    · exact Or.inl hn
    · exact Or.inr (weights_mem_all h n hn)
section
variable {P : Program} {w : World} {t e : TypeId} {α β : Type}
theorem opens_int {k : IntKind} (ht : P.underlying t = some (.int k)) : Opens P w t (Kd.int k) (fun x => (Lit.int k x).wf = true) := by
  intro H enc base held n cs y h hz
  obtain ⟨x, he, _, hw⟩ := DataW.trod_int ht h
  exact ⟨x, he, hw⟩
theorem opens_bool (ht : P.underlying t = some .bool) : Opens P w t Kd.bool (fun _ => True) := by
  intro H enc base held n cs y h hz
  obtain ⟨x, he, _⟩ := DataW.trod_bool ht h
  exact ⟨x, he, trivial⟩
theorem add_add_ (a : Addr) (i j : Nat) : (a.add i).add j = a.add (i + j) := by
  unfold Addr.add
  by_cases hi : i = 0 <;> by_cases hj : j = 0 <;> simp [hi, hj, Nat.add_assoc]
theorem opens_slice {d : Kd α} {WF : α → Prop} (ht : P.underlying t = some (.slice e)) (hc : P.cellsOf e = d.sz) (hbo : (decide (0 < P.bytesOf e)) = true) (he : Opens P w e d WF) : Opens P w t (Kd.slice e d) (fun xs => xs.length ≤ 140737488351232 ∧ ∀ x ∈ xs, WF x) := by
  intro H enc base held n cs y h hz
  rcases open_slice ht h with ⟨rfl, _⟩ | ⟨a, len, cap, m, n', D, Pl, rfl, hb, hl, hm, hmm, rfl, hx⟩
  · exact ⟨[], ⟨none, 0, rfl, Nat.le_refl _, ⟨rfl, Nat.zero_le _, fun h => absurd h (Nat.lt_irrefl 0)⟩⟩, Nat.zero_le _, fun x hx => by cases hx⟩
  · have hcap : m = cap := by rw [hmm]; rfl
    have hz' : ∀ q ∈ ((((List.range len).map D).length + ((List.range (m - len)).map fun j => D (len + j)).length) * P.bytesOf e :: (DataW.weightsAll P e ((List.range len).map D) ++ DataW.weightsAll P e ((List.range (m - len)).map fun j => D (len + j)))), q ≤ reachBytes := by
      intro q hq
      refine hz q ?_
      simp only [DataW.weights, ht]
      exact hq
    have hlen140 : len ≤ 140737488351232 := by
      have h1 := hz' _ (List.mem_cons_self ..)
      rw [List.length_map, List.length_range] at h1
      have h2 : 0 < P.bytesOf e := of_decide_eq_true hbo
      have h3 : len ≤ (len + ((List.range (m - len)).map fun j => D (len + j)).length) * P.bytesOf e := Nat.le_trans (Nat.le_add_right _ _) (Nat.le_mul_of_pos_right _ h2)
      have h4 : reachBytes = 140737488351232 := rfl
      omega
    have key : ∀ i, i < len → ∃ x, (∃ c, c.length = d.sz ∧ d.K w x c ∧ ∀ j u, c[j]? = some u → w.cell? (a.add (i * d.sz + j)) = some u) ∧ WF x := by
      intro i hi
      obtain ⟨cs', h1, h2⟩ := hx i (by omega)
      obtain ⟨_, hlen, hcell⟩ := World.cells?_some h1
      obtain ⟨x, hK, hW⟩ := he h2 (fun q hq => hz' q (List.mem_cons_of_mem _ (List.mem_append_left _ (weights_mem_all (List.mem_map.2 ⟨i, List.mem_range.2 hi, rfl⟩) q hq))))
      refine ⟨x, ⟨cs', by rw [hlen, hc], hK, fun j u hj => ?_⟩, hW⟩
      have hjl : j < P.cellsOf e := by rw [← hlen]; exact (List.getElem?_eq_some_iff.1 hj).1
      have := hcell j hjl
      rw [add_add_, hc] at this
      rw [this, hj]
    by_cases h0 : len = 0
    · subst h0
      exact ⟨[], ⟨some a, cap, rfl, Nat.zero_le _, ⟨rfl, Nat.zero_le _, fun h => absurd h (Nat.lt_irrefl 0)⟩⟩, Nat.zero_le _, fun x hx => by cases hx⟩
    · have hinh : Nonempty α := by obtain ⟨x, _⟩ := key 0 (by omega); exact ⟨x⟩
      have : Inhabited α := Classical.inhabited_of_nonempty hinh
      obtain ⟨f, hf⟩ := choose_lt key
      have hlen : ((List.range len).map f).length = len := by simp
      refine ⟨(List.range len).map f, ⟨some a, cap, by rw [hlen], by rw [hlen]; exact hl, ⟨rfl, by rw [hlen]; unfold maxLen at hm; omega, fun _ => ⟨a, rfl, fun j p hj => ?_⟩⟩⟩, by rw [hlen]; exact hlen140, fun x hx => ?_⟩
      · have hjl : j < len := by have := (List.getElem?_eq_some_iff.1 hj).1; rwa [hlen] at this
        have hp : p = f j := by
          rw [List.getElem?_map, List.getElem?_range hjl] at hj
          exact (Option.some.inj hj).symm
        subst hp
        exact (hf j hjl).1
      · obtain ⟨i, hi, rfl⟩ := List.mem_map.1 hx
        exact (hf i (List.mem_range.1 hi)).2
theorem opens_iso {d : Kd α} {WF : α → Prop} (f : β → α) (hs : ∀ a, ∃ b, f b = a) (h : Opens P w t d WF) : Opens P w t (Kd.iso d f) (fun b => WF (f b)) := by
  intro H enc base held n cs y hy hz
  obtain ⟨x, hK, hW⟩ := h hy hz
  obtain ⟨b, rfl⟩ := hs x
  exact ⟨b, hK, hW⟩
def segs (P : Program) : List TypeId → Nat
  | [] => 0
  | f :: fs => P.cellsOf f + segs P fs
def OpensL (P : Program) (w : World) (fs : List TypeId) {α : Type} (d : Kd α) (WF : α → Prop) : Prop :=
  ∀ {H : Type} {enc : TypeId × Value → H} {base : Nat} {held : Bool} {n : Nat} {cs : List Value}, cs.length = segs P fs →
    (∀ (j : Nat) (f : TypeId), fs[j]? = some f → ∃ y, DataW.trod enc P w base (fun _ => true) held n f ((cs.drop (segs P (fs.take j))).take (P.cellsOf f)) = some y ∧ ∀ m ∈ y.1.weights P f, m ≤ reachBytes) → ∃ x, d.K w x cs ∧ WF x
theorem opensL_one {d : Kd α} {WF : α → Prop} (h : Opens P w t d WF) : OpensL P w [t] d WF := by
  intro H enc base held n cs hl hj
  obtain ⟨y, hy, hz⟩ := hj 0 t rfl
  have e1 : (cs.drop (segs P ([t].take 0))).take (P.cellsOf t) = cs := by
    show (cs.drop 0).take _ = cs
    rw [List.drop_zero]
    exact List.take_of_length_le (by rw [hl]; exact Nat.le_refl _)
  rw [e1] at hy
  exact h hy hz
theorem opensL_cons {fs : List TypeId} {d1 : Kd α} {d2 : Kd β} {W1 : α → Prop} {W2 : β → Prop} (h1 : Opens P w t d1 W1) (h2 : OpensL P w fs d2 W2) : OpensL P w (t :: fs) (Kd.pair d1 d2) (fun x => W1 x.1 ∧ W2 x.2) := by
  intro H enc base held n cs hl hj
  have hl' : cs.length = P.cellsOf t + segs P fs := hl
  obtain ⟨y, hy, hz⟩ := hj 0 t rfl
  have e1 : (cs.drop (segs P ((t :: fs).take 0))).take (P.cellsOf t) = cs.take (P.cellsOf t) := by
    show (cs.drop 0).take _ = _
    rw [List.drop_zero]
  rw [e1] at hy
  obtain ⟨x, hK, hW⟩ := h1 hy hz
  obtain ⟨z, hK2, hW2⟩ := h2 (H := H) (enc := enc) (base := base) (held := held) (n := n) (cs := cs.drop (P.cellsOf t)) (by rw [List.length_drop]; omega) (fun j f hf => by
    obtain ⟨y', hy', hz'⟩ := hj (j + 1) f hf
    refine ⟨y', ?_, hz'⟩
    rw [List.drop_drop]
    exact hy')
  exact ⟨(x, z), ⟨cs.take (P.cellsOf t), cs.drop (P.cellsOf t), (List.take_append_drop _ _).symm, hK, hK2⟩, hW, hW2⟩
def structOk (P : Program) (t : TypeId) (fs : Array Field) (ts : List TypeId) : Bool :=
  P.cellsOf t == segs P ts && fs.size == ts.length && (List.range ts.length).all fun j => match fs[j]?, ts[j]? with
    | some f, some u => f.type == u && f.offset == segs P (ts.take j)
    | _, _ => false
theorem opens_struct {fs : Array Field} {d : Kd α} {WF : α → Prop} (ts : List TypeId) (ht : P.underlying t = some (.struct fs)) (hok : structOk P t fs ts = true) (h : OpensL P w ts d WF) : Opens P w t d WF := by
  intro H enc base held n cs y hy hz
  obtain ⟨xs, m, _, rfl, hl, hxl, hf⟩ := DataW.trod_struct ht hy
  unfold structOk at hok
  simp only [Bool.and_eq_true, beq_iff_eq, List.all_eq_true, List.mem_range] at hok
  obtain ⟨⟨h1, h2⟩, h3⟩ := hok
  refine h (H := H) (enc := enc) (base := base) (held := held) (n := m) (by rw [hl, h1]) (fun j u hu => ?_)
  have hj : j < ts.length := (List.getElem?_eq_some_iff.1 hu).1
  have h4 := h3 j hj
  have hjf : fs[j]? = some (fs[j]'(by omega)) := Array.getElem?_eq_getElem (by omega)
  rw [hjf, hu] at h4
  simp only [Bool.and_eq_true, beq_iff_eq] at h4
  have h5 := hf j _ hjf
  rw [h4.1, h4.2] at h5
  refine ⟨_, h5.trans (List.getElem?_eq_getElem (by omega)), fun q hq => hz q ?_⟩
  simp only [DataW.weights, ht]
  refine DataW.weights_mem_each (j := j) (t := u) (d := (xs[j]'(by omega)).1) ?_ ?_ q hq
  · rw [List.getElem?_map, Array.getElem?_toList, hjf, Option.map_some, h4.1]
  · rw [List.getElem?_map, List.getElem?_eq_getElem (by omega)]; rfl
theorem segs_rep (k : Nat) : segs P (List.replicate k e) = k * P.cellsOf e := by
  induction k with
  | zero => exact (Nat.zero_mul _).symm
  | succ k ih => show P.cellsOf e + segs P (List.replicate k e) = _; rw [ih, Nat.succ_mul, Nat.add_comm]
theorem opens_array {k : Nat} {d : Kd α} {WF : α → Prop} (ht : P.underlying t = some (.array k e)) (hC : (P.cellsOf t == k * P.cellsOf e) = true) (h : OpensL P w (List.replicate k e) d WF) : Opens P w t d WF := by
  intro H enc base held n cs y hy hz
  obtain ⟨xs, m, _, rfl, hl, hxl, hf⟩ := DataW.trod_array ht hy
  refine h (H := H) (enc := enc) (base := base) (held := held) (n := m) (by rw [hl, segs_rep]; exact eq_of_beq hC) (fun j u hu => ?_)
  have hj : j < k := by have := (List.getElem?_eq_some_iff.1 hu).1; rwa [List.length_replicate] at this
  have hue : u = e := by
    rw [List.getElem?_replicate, if_pos hj] at hu
    exact (Option.some.inj hu).symm
  subst hue
  have h5 := hf j hj
  have e2 : segs P ((List.replicate k u).take j) = j * P.cellsOf u := by
    rw [List.take_replicate, Nat.min_eq_left (by omega), segs_rep]
  rw [e2]
  refine ⟨_, h5.trans (List.getElem?_eq_getElem (by omega)), fun q hq => hz q ?_⟩
  simp only [DataW.weights, ht]
  exact weights_mem_all (List.mem_map.2 ⟨_, List.getElem_mem (by omega), rfl⟩) q hq
/-- A slice that is handed to a law. -/
theorem arg_slice {H : Type} {enc : TypeId × Value → H} {base : Nat} {held : Bool} {d : Kd α} {WF : List α → Prop} {a : Option Addr} {n c : Nat} {D : DataW H} {p : List MemPlace} (h : Opens P w t (Kd.slice e d) WF)
    (hT : DataW.Trod enc P w base (fun _ => true) held t (.slice a n c) D p) (hz : ∀ m ∈ D.weights P t, m ≤ reachBytes) : ∃ xs, n = xs.length ∧ xs.length ≤ c ∧ Kd.C d w a xs.length xs ∧ WF xs := by
  obtain ⟨fuel, hf⟩ := hT
  obtain ⟨xs, ⟨A, c', he, hl, hC⟩, hW⟩ := h hf hz
  have he2 : Value.slice a n c = .slice A xs.length c' := by
    have he3 : [Value.slice a n c] = [Value.slice A xs.length c'] := he
    exact (List.cons.inj he3).1
  injection he2 with e1 e2 e3
  subst e1
  subst e3
  exact ⟨xs, e2, hl, hC, hW⟩
/-- A struct or an array that is handed to a law. -/
theorem arg_agg {H : Type} {enc : TypeId × Value → H} {base : Nat} {held : Bool} {d : Kd α} {WF : α → Prop} {cs : Array Value} {D : DataW H} {p : List MemPlace} (h : Opens P w t d WF)
    (hT : DataW.Trod enc P w base (fun _ => true) held t (.agg cs) D p) (hz : ∀ m ∈ D.weights P t, m ≤ reachBytes) : ∃ x, d.K w x cs.toList ∧ WF x := by
  obtain ⟨fuel, hf⟩ := hT
  exact h hf hz
end
end Go.Proofs.Ythdjdhcdhaicoaa.Opz
