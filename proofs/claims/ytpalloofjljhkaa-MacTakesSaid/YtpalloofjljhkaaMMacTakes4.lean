/- Any address: whether it is a group, which station, who takes what goes to it. -/
-- Put together by wip/print2/mergelaw.py: printed words (what this claim does not use is left out), printed functions, texts of this session.
import Derived.Test.YtpalloofjljhkaaMMacTakes3
/-! Opn -/
namespace Go.Proofs.Ytpalloofjljhkaa.Opn
open Go.ChangeShapes Go.WideShapes Go.RowKit Go.Deep
open Go.Proofs.YtpalloofjljhkaaW.PrintWords
set_option linter.unusedVariables false
def Opens (P : Program) (w : World) (t : TypeId) {α : Type} (d : Kd α) (WF : α → Prop) : Prop :=
  ∀ {H : Type} {enc : TypeId × Value → H} {base : Nat} {held : Bool} {n : Nat} {cs : List Value} {y : DataW H × List MemPlace}, DataW.trod enc P w base (fun _ => true) held n t cs = some y → ∃ x, d.K w x cs ∧ WF x
section
variable {P : Program} {w : World} {t e : TypeId} {α β : Type}
theorem opens_int {k : IntKind} (ht : P.underlying t = some (.int k)) : Opens P w t (Kd.int k) (fun x => (Lit.int k x).wf = true) := by
  intro H enc base held n cs y h
  obtain ⟨x, he, _, hw⟩ := DataW.trod_int ht h
  exact ⟨x, he, hw⟩
theorem add_add_ (a : Addr) (i j : Nat) : (a.add i).add j = a.add (i + j) := by
  unfold Addr.add
  by_cases hi : i = 0 <;> by_cases hj : j = 0 <;> simp [hi, hj, Nat.add_assoc]
theorem opens_slice {d : Kd α} {WF : α → Prop} (ht : P.underlying t = some (.slice e)) (hc : P.cellsOf e = d.sz) (he : Opens P w e d WF) : Opens P w t (Kd.slice e d) (fun xs => ∀ x ∈ xs, WF x) := by
  intro H enc base held n cs y h
  rcases open_slice ht h with ⟨rfl, _⟩ | ⟨a, len, cap, m, n', D, Pl, rfl, hb, hl, hm, hmm, rfl, hx⟩
  · exact ⟨[], ⟨none, 0, rfl, Nat.le_refl _, ⟨rfl, Nat.zero_le _, fun h => absurd h (Nat.lt_irrefl 0)⟩⟩, fun x hx => by cases hx⟩
  · have hcap : m = cap := by rw [hmm]; rfl
    have key : ∀ i, i < len → ∃ x, (∃ c, c.length = d.sz ∧ d.K w x c ∧ ∀ j u, c[j]? = some u → w.cell? (a.add (i * d.sz + j)) = some u) ∧ WF x := by
      intro i hi
      obtain ⟨cs', h1, h2⟩ := hx i (by omega)
      obtain ⟨_, hlen, hcell⟩ := World.cells?_some h1
      obtain ⟨x, hK, hW⟩ := he h2
      refine ⟨x, ⟨cs', by rw [hlen, hc], hK, fun j u hj => ?_⟩, hW⟩
      have hjl : j < P.cellsOf e := by rw [← hlen]; exact (List.getElem?_eq_some_iff.1 hj).1
      have := hcell j hjl
      rw [add_add_, hc] at this
      rw [this, hj]
    by_cases h0 : len = 0
    · subst h0
      exact ⟨[], ⟨some a, cap, rfl, Nat.zero_le _, ⟨rfl, Nat.zero_le _, fun h => absurd h (Nat.lt_irrefl 0)⟩⟩, fun x hx => by cases hx⟩
    · have hinh : Nonempty α := by obtain ⟨x, _⟩ := key 0 (by omega); exact ⟨x⟩
      have : Inhabited α := Classical.inhabited_of_nonempty hinh
      obtain ⟨f, hf⟩ := choose_lt key
      have hlen : ((List.range len).map f).length = len := by simp
      refine ⟨(List.range len).map f, ⟨some a, cap, by rw [hlen], by rw [hlen]; exact hl, ⟨rfl, by rw [hlen]; unfold maxLen at hm; omega, fun _ => ⟨a, rfl, fun j p hj => ?_⟩⟩⟩, fun x hx => ?_⟩
      · have hjl : j < len := by have := (List.getElem?_eq_some_iff.1 hj).1; rwa [hlen] at this
        have hp : p = f j := by
          rw [List.getElem?_map, List.getElem?_range hjl] at hj
          exact (Option.some.inj hj).symm
        subst hp
        exact (hf j hjl).1
      · obtain ⟨i, hi, rfl⟩ := List.mem_map.1 hx
        exact (hf i (List.mem_range.1 hi)).2
theorem opens_iso {d : Kd α} {WF : α → Prop} (f : β → α) (hs : ∀ a, ∃ b, f b = a) (h : Opens P w t d WF) : Opens P w t (Kd.iso d f) (fun b => WF (f b)) := by
  intro H enc base held n cs y hy
  obtain ⟨x, hK, hW⟩ := h hy
  obtain ⟨b, rfl⟩ := hs x
  exact ⟨b, hK, hW⟩
def segs (P : Program) : List TypeId → Nat
  | [] => 0
  | f :: fs => P.cellsOf f + segs P fs
def OpensL (P : Program) (w : World) (fs : List TypeId) {α : Type} (d : Kd α) (WF : α → Prop) : Prop :=
  ∀ {H : Type} {enc : TypeId × Value → H} {base : Nat} {held : Bool} {n : Nat} {cs : List Value}, cs.length = segs P fs →
    (∀ (j : Nat) (f : TypeId), fs[j]? = some f → ∃ y, DataW.trod enc P w base (fun _ => true) held n f ((cs.drop (segs P (fs.take j))).take (P.cellsOf f)) = some y) → ∃ x, d.K w x cs ∧ WF x
theorem opensL_one {d : Kd α} {WF : α → Prop} (h : Opens P w t d WF) : OpensL P w [t] d WF := by
  intro H enc base held n cs hl hj
  obtain ⟨y, hy⟩ := hj 0 t rfl
  have e1 : (cs.drop (segs P ([t].take 0))).take (P.cellsOf t) = cs := by
    show (cs.drop 0).take _ = cs
    rw [List.drop_zero]
    exact List.take_of_length_le (by rw [hl]; exact Nat.le_refl _)
  rw [e1] at hy
  exact h hy
theorem opensL_cons {fs : List TypeId} {d1 : Kd α} {d2 : Kd β} {W1 : α → Prop} {W2 : β → Prop} (h1 : Opens P w t d1 W1) (h2 : OpensL P w fs d2 W2) : OpensL P w (t :: fs) (Kd.pair d1 d2) (fun x => W1 x.1 ∧ W2 x.2) := by
  intro H enc base held n cs hl hj
  have hl' : cs.length = P.cellsOf t + segs P fs := hl
  obtain ⟨y, hy⟩ := hj 0 t rfl
  have e1 : (cs.drop (segs P ((t :: fs).take 0))).take (P.cellsOf t) = cs.take (P.cellsOf t) := by
    show (cs.drop 0).take _ = _
    rw [List.drop_zero]
  rw [e1] at hy
  obtain ⟨x, hK, hW⟩ := h1 hy
  obtain ⟨z, hK2, hW2⟩ := h2 (H := H) (enc := enc) (base := base) (held := held) (n := n) (cs := cs.drop (P.cellsOf t)) (by rw [List.length_drop]; omega) (fun j f hf => by
    obtain ⟨y', hy'⟩ := hj (j + 1) f hf
    refine ⟨y', ?_⟩
    rw [List.drop_drop]
    exact hy')
  exact ⟨(x, z), ⟨cs.take (P.cellsOf t), cs.drop (P.cellsOf t), (List.take_append_drop _ _).symm, hK, hK2⟩, hW, hW2⟩
theorem segs_rep (k : Nat) : segs P (List.replicate k e) = k * P.cellsOf e := by
  induction k with
  | zero => exact (Nat.zero_mul _).symm
  | succ k ih => show P.cellsOf e + segs P (List.replicate k e) = _; rw [ih, Nat.succ_mul, Nat.add_comm]
theorem opens_array {k : Nat} {d : Kd α} {WF : α → Prop} (ht : P.underlying t = some (.array k e)) (hC : (P.cellsOf t == k * P.cellsOf e) = true) (h : OpensL P w (List.replicate k e) d WF) : Opens P w t d WF := by
  intro H enc base held n cs y hy
  obtain ⟨xs, m, _, _, hl, hxl, hf⟩ := DataW.trod_array ht hy
  refine h (H := H) (enc := enc) (base := base) (held := held) (n := m) (by rw [hl, segs_rep]; exact eq_of_beq hC) (fun j u hu => ?_)
  have hj : j < k := by have := (List.getElem?_eq_some_iff.1 hu).1; rwa [List.length_replicate] at this
  have hue : u = e := by
    rw [List.getElem?_replicate, if_pos hj] at hu
    exact (Option.some.inj hu).symm
  subst hue
  have h5 := hf j hj
  have e2 : segs P ((List.replicate k u).take j) = j * P.cellsOf u := by
    rw [List.take_replicate, Nat.min_eq_left (by omega), segs_rep]
  rw [e2]
  exact ⟨_, h5.trans (List.getElem?_eq_getElem (by omega))⟩
theorem arg_slice {H : Type} {enc : TypeId × Value → H} {base : Nat} {held : Bool} {d : Kd α} {WF : List α → Prop} {a : Option Addr} {n c : Nat} {D : DataW H} {p : List MemPlace} (h : Opens P w t (Kd.slice e d) WF)
    (hT : DataW.Trod enc P w base (fun _ => true) held t (.slice a n c) D p) : ∃ xs, n = xs.length ∧ xs.length ≤ c ∧ Kd.C d w a xs.length xs ∧ WF xs := by
  obtain ⟨fuel, hf⟩ := hT
  obtain ⟨xs, ⟨A, c', he, hl, hC⟩, hW⟩ := h hf
  have he2 : Value.slice a n c = .slice A xs.length c' := by
    have he3 : [Value.slice a n c] = [Value.slice A xs.length c'] := he
    exact (List.cons.inj he3).1
  injection he2 with e1 e2 e3
  subst e1
  subst e3
  exact ⟨xs, e2, hl, hC, hW⟩
theorem arg_agg {H : Type} {enc : TypeId × Value → H} {base : Nat} {held : Bool} {d : Kd α} {WF : α → Prop} {cs : Array Value} {D : DataW H} {p : List MemPlace} (h : Opens P w t d WF)
    (hT : DataW.Trod enc P w base (fun _ => true) held t (.agg cs) D p) : ∃ x, d.K w x cs.toList ∧ WF x := by
  obtain ⟨fuel, hf⟩ := hT
  exact h hf
end
end Go.Proofs.Ytpalloofjljhkaa.Opn
/-! WalkMacTakes -/
namespace Go.Proofs.Ytpalloofjljhkaa.P
open Go.RowKit Go.Proofs.YtpalloofjljhkaaW.PrintWords Go.Proofs.YtpalloofjljhkaaW.PrintLast Go.Proofs.YtpalloofjljhkaaW.PrintMore
def antiphonlaw3_MacTakes.Pure : Prop := ∀ (a0_0 : Int) (a0_1 : Int) (a0_2 : Int) (a0_3 : Int) (a0_4 : Int) (a0_5 : Int) (l1 : List S43) (a2_0 : Int) (a2_1 : Int) (a2_2 : Int) (a2_3 : Int) (a2_4 : Int) (a2_5 : Int), (Lit.int .u8 a0_0).wf = true → (Lit.int .u8 a0_1).wf = true → (Lit.int .u8 a0_2).wf = true → (Lit.int .u8 a0_3).wf = true → (Lit.int .u8 a0_4).wf = true → (Lit.int .u8 a0_5).wf = true → l1.length ≤ 9223372036854775807 → (∀ yl1 ∈ l1, ((Lit.int .u8 yl1.f0).wf = true) ∧ ((Lit.int .u8 yl1.f1).wf = true) ∧ ((Lit.int .u8 yl1.f2).wf = true) ∧ ((Lit.int .u8 yl1.f3).wf = true) ∧ ((Lit.int .u8 yl1.f4).wf = true) ∧ ((Lit.int .u8 yl1.f5).wf = true)) → (Lit.int .u8 a2_0).wf = true → (Lit.int .u8 a2_1).wf = true → (Lit.int .u8 a2_2).wf = true → (Lit.int .u8 a2_3).wf = true → (Lit.int .u8 a2_4).wf = true → (Lit.int .u8 a2_5).wf = true → ∃ k, antiphonlaw3_MacTakes.f k a0_0 a0_1 a0_2 a0_3 a0_4 a0_5 l1 a2_0 a2_1 a2_2 a2_3 a2_4 a2_5 = some true
end Go.Proofs.Ytpalloofjljhkaa.P
/-! MLib -/
namespace Go.Proofs.Ytpalloofjljhkaa.Lib
open Go.RowKit Go.Proofs.Ytpalloofjljhkaa.P Go.Proofs.YtpalloofjljhkaaW.PrintWords
set_option linter.unusedVariables false
def eqT (s : S43) (a b c d e f : Int) : Bool := s.f0 == a && (s.f1 == b && (s.f2 == c && (s.f3 == d && (s.f4 == e && (s.f5 == f)))))
theorem rd43 {l : List S43} {i : Nat} (h : i < l.length) : rd_T43 l (i : Int) = l[i] := by
  unfold rd_T43
  rw [Int.toNat_natCast, List.getD_eq_getElem?_getD, List.getElem?_eq_getElem h]
  rfl
theorem takes_l0 (l : List S43) (hl : l.length < 9223372036854775807) (a b c d e f : Int) (k : Nat) : ∀ (m i : Nat), i + m = l.length → mac_Takes.l0 (m + 1 + k) l (l.length : Int) (i : Int) a b c d e f = some ((l.drop i).any (fun s => eqT s a b c d e f) && (Go.bits .and .u8 a 1 == 1))
  | 0, i, hi => by
    rw [show 0 + 1 + k = k + 1 by omega, mac_Takes.l0, if_neg (by omega), List.drop_eq_nil_of_le (by omega)]
    rfl
  | m + 1, i, hi => by
    rw [show m + 1 + 1 + k = (m + 1 + k) + 1 by omega, mac_Takes.l0, if_pos (by omega), if_pos (by omega), if_pos (by omega), w64 _ (by omega) (by omega), show ((i : Int) + 1) = ((i + 1 : Nat) : Int) by omega, takes_l0 l hl a b c d e f k m (i + 1) (by omega), rd43 (show i < l.length by omega), List.drop_eq_getElem_cons (show i < l.length by omega), List.any_cons]
    show (if eqT l[i] a b c d e f = true then (mac_Group.f a b c d e f).bind _ else _) = _
    cases hq : eqT l[i] a b c d e f with
    | true =>
      rw [if_pos rfl]
      show (if (Go.bits .and .u8 a 1 == 1) = true then _ else _) = _
      cases hg : (Go.bits .and .u8 a 1 == 1) <;> simp
    | false => rw [if_neg (by decide), Bool.false_or]
theorem rtakes_l0 (l : List S43) (hl : l.length < 9223372036854775807) (a b c d e f : Int) (k : Nat) : ∀ (m i : Nat), i + m = l.length → antiphonref1_Takes.l0 (m + 1 + k) l (i : Int) a b c d e f = some ((l.drop i).any (fun s => eqT s a b c d e f))
  | 0, i, hi => by
    rw [show 0 + 1 + k = k + 1 by omega, antiphonref1_Takes.l0, if_neg (by omega), List.drop_eq_nil_of_le (by omega)]
    rfl
  | m + 1, i, hi => by
    rw [show m + 1 + 1 + k = (m + 1 + k) + 1 by omega, antiphonref1_Takes.l0, if_pos (by omega), if_pos (by omega), w64 _ (by omega) (by omega), show ((i : Int) + 1) = ((i + 1 : Nat) : Int) by omega, rtakes_l0 l hl a b c d e f k m (i + 1) (by omega), rd43 (show i < l.length by omega), List.drop_eq_getElem_cons (show i < l.length by omega), List.any_cons]
    show (if eqT l[i] a b c d e f = true then _ else _) = _
    cases hq : eqT l[i] a b c d e f with
    | true => rw [if_pos rfl, Bool.true_or]
    | false => rw [if_neg (by decide), Bool.false_or]
def takesB (x0 x1 x2 x3 x4 x5 : Int) (l : List S43) (a b c d e f : Int) : Bool :=
  (a == x0 && (b == x1 && (c == x2 && (d == x3 && (e == x4 && (f == x5)))))) || (a == 255 && (b == 255 && (c == 255 && (d == 255 && (e == 255 && (f == 255)))))) || (l.any (fun s => eqT s a b c d e f) && (Go.bits .and .u8 a 1 == 1))
theorem takes_f (x0 x1 x2 x3 x4 x5 : Int) (l : List S43) (hl : l.length < 9223372036854775807) (a b c d e f : Int) : mac_Takes.f (l.length + 2) x0 x1 x2 x3 x4 x5 l a b c d e f = some (takesB x0 x1 x2 x3 x4 x5 l a b c d e f) := by
  have h0 := takes_l0 l hl a b c d e f 0 l.length 0 (by omega)
  rw [List.drop_zero] at h0
  unfold mac_Takes.f takesB
  cases h1 : (a == x0 && (b == x1 && (c == x2 && (d == x3 && (e == x4 && (f == x5)))))) with
  | true => rw [if_pos rfl, show l.length + 2 = (l.length + 1) + 1 from rfl, mac_Takes.j0, if_pos rfl, Bool.true_or, Bool.true_or]
  | false =>
    rw [if_neg (by decide)]
    show mac_Takes.j0 (l.length + 2) l (a == 255 && (b == 255 && (c == 255 && (d == 255 && (e == 255 && (f == 255)))))) a b c d e f = _
    cases h2 : (a == 255 && (b == 255 && (c == 255 && (d == 255 && (e == 255 && (f == 255)))))) with
    | true => rw [show l.length + 2 = (l.length + 1) + 1 from rfl, mac_Takes.j0, if_pos rfl, Bool.false_or, Bool.true_or]
    | false =>
      rw [show l.length + 2 = (l.length + 1) + 1 from rfl, mac_Takes.j0, if_neg (by decide), Bool.false_or, Bool.false_or]
      exact h0
theorem rtakes_f (x0 x1 x2 x3 x4 x5 : Int) (l : List S43) (hl : l.length < 9223372036854775807) (a b c d e f : Int) : antiphonref1_Takes.f (l.length + 2) x0 x1 x2 x3 x4 x5 l a b c d e f = some (takesB x0 x1 x2 x3 x4 x5 l a b c d e f) := by
  have h0 := rtakes_l0 l hl a b c d e f 0 l.length 0 (by omega)
  rw [List.drop_zero] at h0
  unfold antiphonref1_Takes.f takesB
  cases h1 : (a == x0 && (b == x1 && (c == x2 && (d == x3 && (e == x4 && (f == x5)))))) with
  | true => rw [if_pos rfl, show l.length + 2 = (l.length + 1) + 1 from rfl, antiphonref1_Takes.j0, if_pos rfl, Bool.true_or, Bool.true_or]
  | false =>
    rw [if_neg (by decide)]
    show antiphonref1_Takes.j0 (l.length + 2) l (a == 255 && (b == 255 && (c == 255 && (d == 255 && (e == 255 && (f == 255)))))) a b c d e f = _
    cases h2 : (a == 255 && (b == 255 && (c == 255 && (d == 255 && (e == 255 && (f == 255)))))) with
    | true => rw [show l.length + 2 = (l.length + 1) + 1 from rfl, antiphonref1_Takes.j0, if_pos rfl, Bool.false_or, Bool.true_or]
    | false =>
      rw [show l.length + 2 = (l.length + 1) + 1 from rfl, antiphonref1_Takes.j0, if_neg (by decide), Bool.false_or, Bool.false_or]
      show (if (Go.bits .and .u8 a 1 == 1) = true then _ else _) = _
      cases hg : (Go.bits .and .u8 a 1 == 1) with
      | true => rw [if_pos rfl, Bool.and_true]; exact h0
      | false => rw [if_neg (by decide), Bool.and_false]
end Go.Proofs.Ytpalloofjljhkaa.Lib
/-! PureMacTakes -/
namespace Go.Proofs.Ytpalloofjljhkaa.Pure
open Go.RowKit Go.Proofs.Ytpalloofjljhkaa Go.Proofs.Ytpalloofjljhkaa.P Go.Proofs.Ytpalloofjljhkaa.Lib Go.Proofs.YtpalloofjljhkaaW.PrintWords Go.Proofs.YtpalloofjljhkaaW.PrintLast
theorem MacTakes : antiphonlaw3_MacTakes.Pure := by
  intro x0 x1 x2 x3 x4 x5 l a b c d e f _ _ _ _ _ _ _ _ _ _ _ _ _ _
  refine ⟨l.length + 2, ?_⟩
  unfold antiphonlaw3_MacTakes.f
  show (if (l.length : Int) > 40 then some true else _) = some true
  by_cases h : (l.length : Int) > 40
  · rw [if_pos h]
  rw [if_neg h, takes_f _ _ _ _ _ _ l (by omega), Option.bind_some, rtakes_f _ _ _ _ _ _ l (by omega), Option.bind_some, beq_self_eq_true, if_pos rfl]
  have hg : antiphonref1_Group.f a b c d e f = mac_Group.f a b c d e f := rfl
  have hn : antiphonref1_Number.f a b c d e f = mac_Number.f a b c d e f := rfl
  have hs : ∀ n, antiphonref1_Station.f n = mac_Station.f n := fun _ => rfl
  have ha : antiphonref1_All.f = mac_All.f := rfl
  rw [hg, hn, hs, ha]
  obtain ⟨g, hg2⟩ : ∃ g, mac_Group.f a b c d e f = some g := ⟨_, rfl⟩
  obtain ⟨n, hn2⟩ : ∃ n, mac_Number.f a b c d e f = some n := by
    unfold mac_Number.f mac_Station.f
    split
    · rw [Option.bind_some]; split <;> exact ⟨_, rfl⟩
    · split <;> (rw [Option.bind_some]; split <;> exact ⟨_, rfl⟩)
  obtain ⟨s, hs2⟩ : ∃ s, mac_Station.f (wrap64 (wrap64 (wrap64 f + wrap64 (wrap64 e * 7)) - 3)) = some s := by
    unfold mac_Station.f
    split
    · exact ⟨_, rfl⟩
    · split <;> exact ⟨_, rfl⟩
  rw [hg2, Option.bind_some, Option.bind_some, beq_self_eq_true, if_pos rfl, hn2, Option.bind_some, Option.bind_some, if_pos rfl, hs2, Option.bind_some, Option.bind_some]
  simp [mac_All.f]
end Go.Proofs.Ytpalloofjljhkaa.Pure
/-! LawMacTakes -/
namespace Go.Proofs.Ytpalloofjljhkaa.macTakes
open Go.ChangeShapes Go.WideShapes Go.ChangeAt Go.RowKit
open Go.ChangeMaps (open_string shut_string)
open Go.Proofs.YtpalloofjljhkaaW.PrintWords (Kd)
open P
set_option linter.unusedVariables false
theorem own : ownKnob Try.prog.godebug = none := by kernel_rfl
theorem laidOut : laidOutB Try.prog = true := by kernel_rfl
set_option maxRecDepth 100000 in
theorem lifted (os : Os) (started : os.Started) (H : Type) (enc : TypeId × Value → H) :
    ReturnsInHanded {} Try.checked os 17 .any (Rows.macTakesSpec.pre6 enc Try.prog Try.f17 Rows.macTakesRow.domain false) (Rows.macTakesSpec.post enc Try.prog Try.f17 false true false false) := by
  refine returnsInHanded_of_change_sized (C := Try.checked) own started (by kernel_rfl) Try.func17
    (ChangeSpec.witness6 (enc := enc) (C := Try.checked) false ⟨#[], #[.agg #[.int .u8 0, .int .u8 0, .int .u8 0, .int .u8 0, .int .u8 0, .int .u8 0], .slice none 0 0, .agg #[.int .u8 0, .int .u8 0, .int .u8 0, .int .u8 0, .int .u8 0, .int .u8 0]], []⟩ 8 (by kernel_rfl) (by kernel_rfl) (by kernel_rfl) (by kernel_rfl)) ?_
  intro W base args ds gs before hval0 hW hcnd hsz0 _
  have hval : ∀ (j : Nat) t v, Try.f17.params[j]? = some t → args[j]? = some v → Value.okWide Try.prog W .any base t v := hval0
  have hW' := hW
  obtain ⟨p, q, hA0, hV, rfl, hfz, hnd⟩ := hW
  have hA : DataW.TrodAll enc Try.prog W 0 (fun _ => true) true Try.f17.params.toList args.toList ds p := hA0
  rw [Try.params17] at hA hval
  obtain ⟨v0, vs0, d0, ds0, p0, q0, hargs, rfl, rfl, h0, r0⟩ := trodAll_cons hA
  obtain ⟨v1, vs1, d1, ds1, p1, q1, rfl, rfl, rfl, h1, r1⟩ := trodAll_cons r0
  obtain ⟨v2, vs2, d2, ds2, p2, q2, rfl, rfl, rfl, h2, r2⟩ := trodAll_cons r1
  obtain ⟨rfl, rfl, rfl⟩ := trodAll_nil r2
  obtain rfl : args = #[v0, v1, v2] := by cases args; simp_all
  obtain ⟨rfl, rfl⟩ := trodVars_none hV
  obtain ⟨cs0, rfl⟩ : ∃ cs, v0 = .agg cs := by have hv_ := (hval 0 43 v0 rfl rfl); unfold Value.okWide at hv_; rw [Try.underlying43] at hv_; obtain ⟨cs, hc_, _⟩ := hv_; exact ⟨cs, hc_⟩
  have k0 := h0
  have lt0 : ∀ x ∈ p0, x.block < W.heap.size := by obtain ⟨m, hm⟩ := k0; exact DataW.trod_lt m _ _ _ hm
  obtain ⟨⟨a0_0, a0_1, a0_2, a0_3, a0_4, a0_5⟩, ⟨_, _, he0, rfl, ⟨_, _, rfl, rfl, ⟨_, _, rfl, rfl, ⟨_, _, rfl, rfl, ⟨_, _, rfl, rfl, rfl⟩⟩⟩⟩⟩, ⟨w0_0, w0_1, w0_2, w0_3, w0_4, w0_5⟩⟩ := Opn.arg_agg (d := (Kd.pair (Kd.int .u8) (Kd.pair (Kd.int .u8) (Kd.pair (Kd.int .u8) (Kd.pair (Kd.int .u8) (Kd.pair (Kd.int .u8) (Kd.int .u8))))))) (Opn.opens_array Try.underlying43 (by kernel_rfl) (Opn.opensL_cons (Opn.opens_int Try.underlying5) (Opn.opensL_cons (Opn.opens_int Try.underlying5) (Opn.opensL_cons (Opn.opens_int Try.underlying5) (Opn.opensL_cons (Opn.opens_int Try.underlying5) (Opn.opensL_cons (Opn.opens_int Try.underlying5) (Opn.opensL_one (Opn.opens_int Try.underlying5)))))))) h0
  obtain rfl : cs0 = #[.int .u8 a0_0, .int .u8 a0_1, .int .u8 a0_2, .int .u8 a0_3, .int .u8 a0_4, .int .u8 a0_5] := Array.ext' (he0.trans rfl)
  obtain ⟨A1, n1, c1, rfl⟩ := okWide_slice Try.underlying70 (hval 1 70 v1 rfl rfl)
  have k1 := h1
  have lt1 : ∀ x ∈ p1, x.block < W.heap.size := by obtain ⟨m, hm⟩ := k1; exact DataW.trod_lt m _ _ _ hm
  obtain ⟨l1, rfl, hc1, hr1, hw1⟩ := Opn.arg_slice (d := k43) (Opn.opens_slice Try.underlying70 (by kernel_rfl) (Opn.opens_iso _ (fun ⟨x0, x1, x2, x3, x4, x5⟩ => ⟨⟨x0, x1, x2, x3, x4, x5⟩, rfl⟩) (Opn.opens_array Try.underlying43 (by kernel_rfl) (Opn.opensL_cons (Opn.opens_int Try.underlying5) (Opn.opensL_cons (Opn.opens_int Try.underlying5) (Opn.opensL_cons (Opn.opens_int Try.underlying5) (Opn.opensL_cons (Opn.opens_int Try.underlying5) (Opn.opensL_cons (Opn.opens_int Try.underlying5) (Opn.opensL_one (Opn.opens_int Try.underlying5)))))))))) h1
  have hm1 : l1.length ≤ 9223372036854775807 := hr1.2.1
  obtain ⟨cs2, rfl⟩ : ∃ cs, v2 = .agg cs := by have hv_ := (hval 2 43 v2 rfl rfl); unfold Value.okWide at hv_; rw [Try.underlying43] at hv_; obtain ⟨cs, hc_, _⟩ := hv_; exact ⟨cs, hc_⟩
  have k2 := h2
  have lt2 : ∀ x ∈ p2, x.block < W.heap.size := by obtain ⟨m, hm⟩ := k2; exact DataW.trod_lt m _ _ _ hm
  obtain ⟨⟨a2_0, a2_1, a2_2, a2_3, a2_4, a2_5⟩, ⟨_, _, he2, rfl, ⟨_, _, rfl, rfl, ⟨_, _, rfl, rfl, ⟨_, _, rfl, rfl, ⟨_, _, rfl, rfl, rfl⟩⟩⟩⟩⟩, ⟨w2_0, w2_1, w2_2, w2_3, w2_4, w2_5⟩⟩ := Opn.arg_agg (d := (Kd.pair (Kd.int .u8) (Kd.pair (Kd.int .u8) (Kd.pair (Kd.int .u8) (Kd.pair (Kd.int .u8) (Kd.pair (Kd.int .u8) (Kd.int .u8))))))) (Opn.opens_array Try.underlying43 (by kernel_rfl) (Opn.opensL_cons (Opn.opens_int Try.underlying5) (Opn.opensL_cons (Opn.opens_int Try.underlying5) (Opn.opensL_cons (Opn.opens_int Try.underlying5) (Opn.opensL_cons (Opn.opens_int Try.underlying5) (Opn.opensL_cons (Opn.opens_int Try.underlying5) (Opn.opensL_one (Opn.opens_int Try.underlying5)))))))) h2
  obtain rfl : cs2 = #[.int .u8 a2_0, .int .u8 a2_1, .int .u8 a2_2, .int .u8 a2_3, .int .u8 a2_4, .int .u8 a2_5] := Array.ext' (he2.trans rfl)
  clear hA0 hval0 hsz0 hval
  obtain ⟨k, h⟩ := Pure.MacTakes a0_0 a0_1 a0_2 a0_3 a0_4 a0_5 l1 a2_0 a2_1 a2_2 a2_3 a2_4 a2_5 w0_0 w0_1 w0_2 w0_3 w0_4 w0_5 hm1 hw1 w2_0 w2_1 w2_2 w2_3 w2_4 w2_5
  refine (P.antiphonlaw3_MacTakes.calls k a0_0 a0_1 a0_2 a0_3 a0_4 a0_5 _ _ l1 a2_0 a2_1 a2_2 a2_3 a2_4 a2_5 true W hr1 hc1 h).mono fun e W' ⟨he, bel⟩ => ?_
  subst he
  exact ⟨_, rfl, _, _, _, [], _, [], hW', trodAll_mk1 (shut_bool Try.underlying4 _), (trodAll_cons_mk (Below.trod laidOut (by kernel_rfl) (of_decide_eq_true (by kernel_rfl)) k0 bel lt0) (trodAll_cons_mk (Below.trod laidOut (by kernel_rfl) (of_decide_eq_true (by kernel_rfl)) k1 bel lt1) (trodAll_cons_mk (Below.trod laidOut (by kernel_rfl) (of_decide_eq_true (by kernel_rfl)) k2 bel lt2) trodAll_mk0))), rfl, bel.frame _, fun h => by cases h⟩
theorem fact0 : (Rows.macTakesRow.wf (OpenSpec.ofChange Rows.macTakesSpec)) = true := by kernel_rfl
theorem fact1 : (laidOutB Try.prog) = true := Kit.laidOut
theorem fact2 : (mapsRowed Try.prog) = true := Kit.mapsRowed
theorem fact3 : (Try.f17.params.all (Try.prog.readableRec ·)) = true := by kernel_rfl
theorem fact4 : (namedTie Try.prog Rows.macTakesRow.named Rows.macTakesSpec.vars) = true := by kernel_rfl
theorem fact5 : ((Rows.macTakesRow.stops == [])) = true := by kernel_rfl
theorem fact6 : ((Try.prog.stops == [])) = true := Kit.stops
theorem fact7 : ((Rows.macTakesRow.knobs == [])) = true := by kernel_rfl
theorem fact8 : ((Try.prog.stopKnobs == [])) = true := Kit.stopKnobs
theorem fact9 : ((Rows.macTakesRow.inPlace == Try.prog.inPlace 17)) = true := by kernel_rfl
theorem fact10 : ((Rows.macTakesRow.unfollowed == Try.prog.unfollowed 17)) = true := by kernel_rfl
theorem fact11 : ((Rows.macTakesRow.recurses == Try.prog.recurses 17)) = true := by kernel_rfl
theorem fact12 : ((Rows.macTakesRow.named == Try.prog.varsNamed 17)) = true := by kernel_rfl
theorem fact13 : ((Rows.macTakesRow.maps == (Try.f17.params.toList ++ Rows.macTakesSpec.plain.varTypes Try.prog).any (Try.prog.mapsRec ·))) = true := by kernel_rfl
theorem fact14 : ((Rows.macTakesRow.ifaces == (Try.f17.params.toList ++ Rows.macTakesSpec.plain.varTypes Try.prog).any (Try.prog.ifacesRec ·))) = true := by kernel_rfl
theorem fact15 : ((Rows.macTakesRow.mapsOut == Try.prog.mapsAmong Try.f17.resultTypes.toList)) = true := by kernel_rfl
theorem fact16 : ((Rows.macTakesRow.loops == (Try.f17.params.toList ++ Rows.macTakesSpec.plain.varTypes Try.prog).any (Try.prog.loopsFrom ·))) = true := by kernel_rfl
theorem fact17 : ((Rows.macTakesRow.wideKeys == (Try.f17.params.toList ++ Rows.macTakesSpec.plain.varTypes Try.prog ++ Try.f17.resultTypes.toList).any (Try.prog.wideKeysFrom ·))) = true := by kernel_rfl
theorem fact18 : (Rows.macTakesSpec.vars.all (Try.prog.varReadable ·)) = true := by kernel_rfl
theorem fact19 : (Try.f17.resultTypes.all (fun t => Try.prog.readableRec t && decide (t < Try.prog.types.size))) = true := by kernel_rfl
theorem fact20 : ((Rows.macTakesRow.ifacesOut == Try.f17.resultTypes.toList.any (Try.prog.ifacesRec ·))) = true := by kernel_rfl
theorem fact21 : ((Rows.macTakesRow.loopsOut == Try.f17.resultTypes.toList.any (Try.prog.loopsFrom ·))) = true := by kernel_rfl
theorem fact22 : ((Rows.macTakesRow.plainKeys == Try.prog.plainKeys)) = true := (by rw [Kit.plainKeys]; rfl)
theorem fact23 : (Rows.macTakesRow.shortTexts.isNone) = true := by kernel_rfl
theorem fact24 : (Try.prog.stopsHeard) = true := Kit.stopsHeard
theorem fact25 : (Try.prog.mayEnter) = true := Kit.mayEnter
theorem fact26 : ((Rows.macTakesRow.lifted == Try.prog.liftsFinal)) = true := (by rw [Kit.liftsFinal]; rfl)
theorem fact27 : ((Try.prog.make == some Rows.macTakesRow.make)) = true := (by rw [Kit.make]; rfl)
theorem fact28 : ((Rows.macTakesRow.kinds == (if Rows.macTakesRow.domain.isEmpty then [] else Try.f17.params.toList.map fun t => match Try.prog.underlying t with | some (.int k) => some k | _ => none))) = true := by kernel_rfl
theorem fact29 : ((Rows.macTakesRow.pinned == Rows.macTakesRow.pinnedBy)) = true := by kernel_rfl
theorem fact30 : ((Rows.macTakesRow.veiled == (Try.f17.params.toList ++ Rows.macTakesSpec.plain.varTypes Try.prog ++ Try.f17.resultTypes.toList).any (Try.prog.veiledRec ·))) = true := by kernel_rfl
theorem fact31 : (Rows.macTakesRow.veiledFits Try.prog Try.f17.params.toList (Try.f17.params.toList ++ Rows.macTakesSpec.plain.varTypes Try.prog ++ Try.f17.resultTypes.toList)) = true := by kernel_rfl
set_option maxRecDepth 100000 in
theorem closed : joinedFacts Try.prog 17 Try.f17 Rows.macTakesSpec Rows.macTakesRow = true := by
  unfold joinedFacts
  exact (Kit.and2 (Kit.and2 (Kit.and2 (Kit.and2 (Kit.and2 (Kit.and2 (Kit.and2 (Kit.and2 (Kit.and2 (Kit.and2 (Kit.and2 (Kit.and2 (Kit.and2 (Kit.and2 (Kit.and2 (Kit.and2 (Kit.and2 (Kit.and2 (Kit.and2 (Kit.and2 (Kit.and2 (Kit.and2 (Kit.and2 (Kit.and2 (Kit.and2 (Kit.and2 (Kit.and2 (Kit.and2 (Kit.and2 (Kit.and2 (Kit.and2 fact0 fact1) fact2) fact3) fact4) fact5) fact6) fact7) fact8) fact9) fact10) fact11) fact12) fact13) fact14) fact15) fact16) fact17) fact18) fact19) fact20) fact21) fact22) fact23) fact24) fact25) fact26) fact27) fact28) fact29) fact30) fact31)
theorem named : Try.prog.funcNamed Rows.macTakesRow.func = some 17 := by kernel_rfl
theorem inst : Try.f17.isInstance Try.prog Rows.macTakesRow.origin Rows.macTakesRow.targs := of_decide_eq_true (by kernel_rfl)
theorem wrap_ : Try.f17.isWrapper Try.prog Rows.macTakesRow.wrapper Rows.macTakesRow.mainSum := by unfold Func.isWrapper; first | (rw [if_pos (by decide +kernel)]; kernel_rfl) | (rw [if_neg (by decide +kernel)]; exact ⟨rfl, rfl⟩)
theorem over : Rows.macTakesRow.holds Try.pinned (OpenSpec.ofChange Rows.macTakesSpec) :=
  OpenClaim.holds_of_wide 17 Try.f17 rfl rfl rfl rfl rfl rfl rfl ⟨rfl, rfl, rfl, rfl, rfl⟩ rfl rfl rfl rfl rfl named Try.func17 closed
    inst wrap_
    (fun os started H enc _ => lifted os started H enc)
theorem proved : Rows.MacTakesSaid := over
#print axioms proved
end Go.Proofs.Ytpalloofjljhkaa.macTakes
namespace Go.Proofs.Ytpalloofjljhkaa
theorem macTakes_holds : Rows.MacTakesSaid := macTakes.proved
end Go.Proofs.Ytpalloofjljhkaa
