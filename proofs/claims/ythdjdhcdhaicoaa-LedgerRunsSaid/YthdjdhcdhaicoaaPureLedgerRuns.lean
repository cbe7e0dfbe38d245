/- Of whatever was told: the rows by epochs are the reference's, and there are as many of each kind. -/
import Derived.Test.YthdjdhcdhaicoaaWalkLedgerRuns
import Derived.Test.YthdjdhcdhaicoaaLedS
namespace Go.Proofs.Ythdjdhcdhaicoaa.Pure
open Go.RowKit Go.Proofs.Ythdjdhcdhaicoaa.P Go.Proofs.Ythdjdhcdhaicoaa.Lib Go.Proofs.YthdjdhcdhaicoaaW.PrintWords Go.Proofs.YthdjdhcdhaicoaaW.PrintLast

theorem runs_l0 (l : List S46) (hl : l.length ≤ 100) (a b c p0 p1 p2 p3 p4 p5 : Int) (K : Nat) : ∀ (m i : Nat), i + m = l.length → (∀ x ∈ l.take i, x.f2.f4.length ≤ 100) → antiphonlaw26_LedgerRuns.l0 (m + 6000 + K) l (cntL ((l.map to56).take i) c a) (i : Int) a b c p0 p1 p2 p3 p4 p5 = some true
  | 0, i, hi, hb => by
    have hi' : i = l.length := by omega
    subst hi'
    rw [List.take_length] at hb
    rw [show 0 + 6000 + K = (5999 + K) + 1 by omega, antiphonlaw26_LedgerRuns.l0, if_neg (by omega)]
    have hr : antiphonlaw26_rows.f (5999 + K) l = some (l.map to56) := by
      have := rows_ok l (by omega) (5998 + K - l.length)
      rwa [show l.length + 1 + (5998 + K - l.length) = 5999 + K by omega] at this
    have hb2 : ∀ x ∈ l.map to56, x.f2.f4.length ≤ 100 := by
      intro x hx
      obtain ⟨y, hy, rfl⟩ := List.mem_map.1 hx
      exact hb y hy
    have h1 : ledger_Runs.f (l.map to56) a b p0 p1 p2 p3 p4 p5 = some (runsS (l.map to56) a b p0 p1 p2 p3 p4 p5) := by
      unfold ledger_Runs.f
      rw [if_pos ⟨by rw [List.length_map]; omega, fun x hx => by have := hb2 x hx; omega⟩]
    have h2 : antiphonref24_Runs.f l a b p0 p1 p2 p3 p4 p5 = some ((runsS (l.map to56) a b p0 p1 p2 p3 p4 p5).map toR) := by
      unfold antiphonref24_Runs.f
      rw [if_pos ⟨by omega, fun x hx => by have := hb x hx; omega⟩, runs_both]
    have hs := runs_small (l.map to56) (by rw [List.length_map]; omega) (fun x hx => by have := hb2 x hx; omega) a b p0 p1 p2 p3 p4 p5
    rw [hr, Option.bind_some, h1, Option.bind_some, h2, Option.bind_some, same_ok _ hs.1 hs.2 _ (by omega), Option.bind_some, if_pos rfl, Option.bind_some, count_ok _ (by rw [List.length_map]; omega) c a _ (by omega), Option.bind_some]
    rw [List.take_of_length_le (by rw [List.length_map]; omega)]
    simp
  | m + 1, i, hi, hb => by
    have hil : i < l.length := by omega
    have hc := cnt_take (l.map to56) c a i (by rw [List.length_map]; omega)
    rw [List.getElem_map] at hc
    have hle := cnt_le ((l.map to56).take i) c a
    have hti := List.length_take_le i (l.map to56)
    rw [show m + 1 + 6000 + K = (m + 6000 + K) + 1 by omega, antiphonlaw26_LedgerRuns.l0, if_pos (by omega), if_pos (by omega), rd46 hil]
    by_cases hB : (l[i].f2.f4.length : Int) > 100
    · rw [if_pos hB]
    rw [if_neg hB]
    have ih := runs_l0 l hl a b c p0 p1 p2 p3 p4 p5 K m (i + 1) (by omega) (by
      intro x hx
      rw [List.take_add_one, List.getElem?_eq_getElem hil] at hx
      rcases List.mem_append.1 hx with h | h
      · exact hb x h
      · have : x = l[i] := by simpa using h
        subst this
        omega)
    rw [w64 ((i : Int) + 1) (by omega) (by omega), w64 (cntL ((l.map to56).take i) c a + 1) (by omega) (by omega), show ((i : Int) + 1) = ((i + 1 : Nat) : Int) by omega]
    by_cases h0 : l[i].f2.f0 = c
    · rw [if_pos h0]
      by_cases h1 : l[i].f2.f1 = a
      · rw [if_pos h1]
        rw [if_pos (show cntB c a (to56 l[i]) = true by simp [cntB, to56, h0, h1])] at hc
        rw [← hc]; exact ih
      · rw [if_neg h1]
        rw [if_neg (show ¬ cntB c a (to56 l[i]) = true by simp [cntB, to56, h1]), Int.add_zero] at hc
        rw [← hc]; exact ih
    · rw [if_neg h0]
      rw [if_neg (show ¬ cntB c a (to56 l[i]) = true by simp [cntB, to56, h0]), Int.add_zero] at hc
      rw [← hc]; exact ih
theorem awake_at (k : Nat) : antiphonlaw26_awake.f (60 + k) = some true := by
  induction k with
  | zero => exact awake_ok
  | succ k ih => exact antiphonlaw26_awake.mono (60 + k) _ ih
theorem LedgerRuns : antiphonlaw26_LedgerRuns.Pure := by
  unfold antiphonlaw26_LedgerRuns.Pure
  intro l a b c p0 p1 p2 p3 p4 p5
  intros
  refine ⟨l.length + 6000, ?_⟩
  unfold antiphonlaw26_LedgerRuns.f
  rw [show l.length + 6000 = 60 + (l.length + 5940) by omega, awake_at, Option.bind_some, if_pos rfl]
  by_cases hl : (l.length : Int) > 100
  · rw [if_pos hl]
  rw [if_neg hl, show 60 + (l.length + 5940) = l.length + 6000 + 0 by omega]
  have := runs_l0 l (by omega) a b c p0 p1 p2 p3 p4 p5 0 l.length 0 (by omega) (by simp)
  simpa [cntL] using this

end Go.Proofs.Ythdjdhcdhaicoaa.Pure
