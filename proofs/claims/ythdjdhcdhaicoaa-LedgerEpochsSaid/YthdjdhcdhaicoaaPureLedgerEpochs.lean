/- Of any rows that were told: true. -/
import Derived.Test.YthdjdhcdhaicoaaWalkLedgerEpochs
import Derived.Test.YthdjdhcdhaicoaaLedF
import Derived.Test.YthdjdhcdhaicoaaLedS
namespace Go.Proofs.Ythdjdhcdhaicoaa.Pure
open Go.RowKit Go.Proofs.Ythdjdhcdhaicoaa.P Go.Proofs.Ythdjdhcdhaicoaa.Lib Go.Proofs.YthdjdhcdhaicoaaW.PrintWords Go.Proofs.YthdjdhcdhaicoaaW.PrintLast
set_option linter.unusedVariables false
set_option linter.unusedSimpArgs false
theorem rdG {G : List (List S56)} {j : Nat} {g : List S56} (h : G[j]? = some g) : rd_T47 (G.map runS) (j : Int) = runS g := by
  unfold rd_T47
  rw [Int.toNat_natCast, List.getD_eq_getElem?_getD, List.getElem?_map, h]
  rfl
theorem rdIt {g : List S56} {k : Nat} {x : S56} (h : g[k]? = some x) : rd_L1 (runS g).f1 (k : Int) = x.f2.f4 := by
  unfold rd_L1 runS
  rw [Int.toNat_natCast, List.getD_eq_getElem?_getD, List.getElem?_map, h]
  rfl
theorem runS_len (g : List S56) : (runS g).f1.length = g.length := by unfold runS; rw [List.length_map]
theorem same_self (a : List Int) (hl : a.length ≤ 100) (k : Nat) (hk : 200 ≤ k) : antiphonref1_Same.f k a a = some true := by
  have h := same_ref a a (by omega) (k - a.length - 1)
  rw [show a.length + 1 + (k - a.length - 1) = k by omega] at h
  rw [h]
  simp
theorem w64_ (a : Int) (h : -9223372036854775808 ≤ a) (h' : a ≤ 9223372036854775807) : wrap64 a = a := by unfold wrap64; omega
abbrev qE : S56 → Bool := mineB 4 8 2 0 0 0 0 1
theorem j1_skip (k : Nat) (x0 : List S46) (x4 : List S47) (x5 x6 x7 p0 p1 p2 p3 p4 p5 b0 b1 b2 b3 b4 b5 b6 b7 b8 : Int) (b9 : List Int) (b10 : Int) :
    antiphonlaw26_LedgerEpochs.j1 (k + 1) x0 x4 x5 x6 x7 true p0 p1 p2 p3 p4 p5 b0 b1 b2 b3 b4 b5 b6 b7 b8 b9 b10 = antiphonlaw26_LedgerEpochs.l0 k x0 x4 x5 x6 (wrap64 (x7 + 1)) p0 p1 p2 p3 p4 p5 := by
  rw [antiphonlaw26_LedgerEpochs.j1, if_pos rfl]
theorem j1_take (k : Nat) (x0 : List S46) (G : List (List S56)) (at_ kk : Nat) (g : List S56) (hg : G[at_]? = some g) (x7 p0 p1 p2 p3 p4 p5 b0 b1 b2 b3 b4 b5 b6 b7 b8 : Int) (b9 : List Int) (b10 : Int) :
    antiphonlaw26_LedgerEpochs.j1 (k + 1) x0 (G.map runS) at_ kk x7 false p0 p1 p2 p3 p4 p5 b0 b1 b2 b3 b4 b5 b6 b7 b8 b9 b10 = antiphonlaw26_LedgerEpochs.j2 k x0 (G.map runS) at_ kk x7 (decide (kk = g.length)) p0 p1 p2 p3 p4 p5 b0 b1 b2 b3 b4 b5 b6 b7 b8 b9 b10 := by
  have hl : at_ < G.length := (List.getElem?_eq_some_iff.1 hg).1
  rw [antiphonlaw26_LedgerEpochs.j1, if_neg (by decide), if_pos (by rw [List.length_map]; omega), if_pos (by omega), rdG hg, runS_len]
  congr 1
  by_cases h : kk = g.length
  · rw [h]; simp
  · rw [decide_eq_false h]; exact beq_eq_false_iff_ne.mpr (by omega)
theorem j2_take (k : Nat) (hk : 200 ≤ k) (l : List S46) (G : List (List S56)) (at_ kk i : Nat) (g : List S56) (hg : G[at_]? = some g) (hkk : kk < g.length) (x : S56) (hx : g[kk]? = some x) (hi : i < l.length) (hxe : to56 l[i] = x) (he : (g.head?.map ep56).getD 0 = ep56 x) (h100 : x.f2.f4.length ≤ 100) (hG : G.length ≤ 1000) (hgl : g.length ≤ 1000) (hll : l.length ≤ 1000)
    (p0 p1 p2 p3 p4 p5 b0 b1 b2 b3 b4 b5 b6 b7 b8 : Int) (b10 : Int) :
    antiphonlaw26_LedgerEpochs.j2 (k + 1) l (G.map runS) at_ kk i false p0 p1 p2 p3 p4 p5 b0 b1 b2 b3 b4 b5 b6 b7 b8 x.f2.f4 b10 = antiphonlaw26_LedgerEpochs.l0 k l (G.map runS) at_ ((kk + 1 : Nat) : Int) ((i + 1 : Nat) : Int) p0 p1 p2 p3 p4 p5 := by
  have hl : at_ < G.length := (List.getElem?_eq_some_iff.1 hg).1
  have e1 : (runS g).f0 = (l[i]).f1 := by rw [← hxe] at he; exact he
  rw [antiphonlaw26_LedgerEpochs.j2, if_neg (by decide), if_neg (by rw [List.length_map]; omega), if_pos (by omega), if_pos (by rw [List.length_map]; omega), if_pos (by omega), if_pos (by omega), rd46 hi, rdG hg, if_pos e1, runS_len, if_neg (by omega), if_pos (by omega), if_pos (by omega), rdIt hx, same_self _ h100 k hk, Option.bind_some, if_pos rfl, w64_ _ (by omega) (by omega), w64_ _ (by omega) (by omega)]
  rfl
theorem j3_take (k : Nat) (hk : 200 ≤ k) (l : List S46) (G : List (List S56)) (at_ kk i : Nat) (g : List S56) (hg : G[at_]? = some g) (hkk : kk < g.length) (x : S56) (hx : g[kk]? = some x) (hi : i < l.length) (hxe : to56 l[i] = x) (he : (g.head?.map ep56).getD 0 = ep56 x) (h100 : x.f2.f4.length ≤ 100) (hG : G.length ≤ 1000) (hgl : g.length ≤ 1000) (hll : l.length ≤ 1000)
    (p0 p1 p2 p3 p4 p5 b0 b1 b2 b3 b4 b5 b6 b7 b8 : Int) (b10 : Int) :
    antiphonlaw26_LedgerEpochs.j3 (k + 1) l (G.map runS) at_ kk i false p0 p1 p2 p3 p4 p5 b0 b1 b2 b3 b4 b5 b6 b7 b8 x.f2.f4 b10 = antiphonlaw26_LedgerEpochs.l0 k l (G.map runS) at_ ((kk + 1 : Nat) : Int) ((i + 1 : Nat) : Int) p0 p1 p2 p3 p4 p5 := by
  have hl : at_ < G.length := (List.getElem?_eq_some_iff.1 hg).1
  have e1 : (runS g).f0 = (l[i]).f1 := by rw [← hxe] at he; exact he
  rw [antiphonlaw26_LedgerEpochs.j3, if_neg (by decide), if_neg (by rw [List.length_map]; omega), if_pos (by omega), if_pos (by rw [List.length_map]; omega), if_pos (by omega), if_pos (by omega), rd46 hi, rdG hg, if_pos e1, runS_len, if_neg (by omega), if_pos (by omega), if_pos (by omega), rdIt hx, same_self _ h100 k hk, Option.bind_some, if_pos rfl, w64_ _ (by omega) (by omega), w64_ _ (by omega) (by omega)]
  rfl
theorem j2_next (k : Nat) (l : List S46) (G : List (List S56)) (at_ kk i : Nat) (g g' : List S56) (hg : G[at_]? = some g) (hg' : G[at_ + 1]? = some g') (hne : (g'.head?.map ep56).getD 0 ≠ (g.head?.map ep56).getD 0) (hG : G.length ≤ 1000)
    (p0 p1 p2 p3 p4 p5 b0 b1 b2 b3 b4 b5 b6 b7 b8 : Int) (b9 : List Int) (b10 : Int) :
    antiphonlaw26_LedgerEpochs.j2 (k + 1) l (G.map runS) at_ kk i true p0 p1 p2 p3 p4 p5 b0 b1 b2 b3 b4 b5 b6 b7 b8 b9 b10 = antiphonlaw26_LedgerEpochs.j3 k l (G.map runS) ((at_ + 1 : Nat) : Int) ((0 : Nat) : Int) i false p0 p1 p2 p3 p4 p5 b0 b1 b2 b3 b4 b5 b6 b7 b8 b9 b10 := by
  have hl : at_ + 1 < G.length := (List.getElem?_eq_some_iff.1 hg').1
  have e1 : wrap64 ((at_ : Int) + 1) = ((at_ + 1 : Nat) : Int) := by rw [w64_ _ (by omega) (by omega)]; rfl
  have e2 : wrap64 (((at_ + 1 : Nat) : Int) - 1) = (at_ : Int) := by rw [w64_ _ (by omega) (by omega)]; omega
  rw [antiphonlaw26_LedgerEpochs.j2, if_pos rfl, e1, if_pos (by rw [List.length_map]; omega), if_pos (by omega), e2, if_pos (by omega), if_pos (by rw [List.length_map]; omega), rdG hg, rdG hg', show ((runS g').f0 == (runS g).f0) = false from beq_eq_false_iff_ne.mpr hne]
  rfl
theorem mine_yes (x : S46) : qE (to56 x) = ((x.f2.f0 == 9) && ((x.f2.f1 == 4) && ((x.f2.f2 == 8) && !(!((x.f2.f3.f0) == 2) || (!((x.f2.f3.f1) == 0) || (!((x.f2.f3.f2) == 0) || (!((x.f2.f3.f3) == 0) || (!((x.f2.f3.f4) == 0) || (!((x.f2.f3.f5) == 1)))))))))) := by
  unfold qE mineB to56
  simp only [Bool.not_or, Bool.not_not]
theorem loop_ok (l : List S46) (hl : l.length ≤ 100) (G : List (List S56)) (hG : cutL ep56 ((l.map to56).filter qE) = G) : ∀ (m i at_ kk fuel : Nat), i + m = l.length → 4 * m + 300 ≤ fuel → InvE G (((l.map to56).take i).filter qE).length at_ kk → antiphonlaw26_LedgerEpochs.l0 fuel l (G.map runS) at_ kk i 2 0 0 0 0 1 = some true := by
  have hml : ((l.map to56).filter qE).length ≤ 100 := Nat.le_trans (List.length_filter_le _ _) (by rw [List.length_map]; exact hl)
  have hGl : G.length ≤ 1000 := by
    rw [← hG]
    exact Nat.le_trans (cutN_len ep56 _ _) (by omega)
  have hgl : ∀ g ∈ G, g.length ≤ 1000 := by
    intro g hg
    have h1 := mem_sum hg
    have h2 := cutN_sum ep56 ((l.map to56).filter qE) ((l.map to56).filter qE).length
    rw [show cutN ep56 ((l.map to56).filter qE) ((l.map to56).filter qE).length = G from hG] at h2
    omega
  intro m
  induction m with
  | zero =>
    intro i at_ kk fuel him hf hinv
    obtain ⟨f, rfl⟩ : ∃ f, fuel = f + 1 := ⟨fuel - 1, by omega⟩
    obtain rfl : i = l.length := by omega
    rw [List.take_of_length_le (by rw [List.length_map]; omega)] at hinv
    have hfl := cut_flat ep56 ((l.map to56).filter qE)
    have hne := cut_ne ep56 ((l.map to56).filter qE)
    rw [hG] at hfl hne
    rw [← hfl] at hinv
    rw [antiphonlaw26_LedgerEpochs.l0, if_neg (by omega)]
    rcases inv_end G hne at_ kk hinv with ⟨h0, rfl⟩ | ⟨g, h1, hg, rfl⟩
    · rw [if_pos (by rw [List.length_map]; omega), if_pos (show ((0 : Nat) : Int) = 0 from rfl)]
    · rw [if_neg (by rw [List.length_map]; omega), List.length_map, w64_ _ (by omega) (by omega), if_pos (by omega), if_pos (by omega), if_pos (by omega), rdG hg, runS_len]
      simp
  | succ m ih =>
    intro i at_ kk fuel him hf hinv
    obtain ⟨f, rfl⟩ : ∃ f, fuel = f + 4 := ⟨fuel - 4, by omega⟩
    have hi : i < l.length := by omega
    have hx : (l.map to56)[i]? = some (to56 l[i]) := by rw [List.getElem?_map, List.getElem?_eq_getElem hi]; rfl
    have hnx := filter_next qE (l.map to56) i _ hx
    have hw : wrap64 ((i : Int) + 1) = ((i + 1 : Nat) : Int) := by rw [w64_ _ (by omega) (by omega)]; rfl
    have hmy := mine_yes l[i]
    rw [antiphonlaw26_LedgerEpochs.l0, if_pos (by omega), if_pos (by omega), rd46 hi]
    by_cases hB : ((l[i]).f2.f4.length : Int) > 100
    · rw [if_pos hB]
    rw [if_neg hB]
    have skip : ∀ {b0 b1 b2 b3 b4 b5 b6 b7 b8 : Int} {b9 : List Int} {b10 : Int}, qE (to56 l[i]) = false → antiphonlaw26_LedgerEpochs.j1 (f + 3) l (G.map runS) at_ kk i true 2 0 0 0 0 1 b0 b1 b2 b3 b4 b5 b6 b7 b8 b9 b10 = some true := by
      intro b0 b1 b2 b3 b4 b5 b6 b7 b8 b9 b10 hq
      rw [j1_skip, hw]
      refine ih (i + 1) at_ kk (f + 2) (by omega) (by omega) ?_
      rw [hnx, hq]
      exact hinv
    by_cases h9 : (l[i]).f2.f0 = 9
    · rw [if_pos h9]
      by_cases h4 : (l[i]).f2.f1 = 4
      · rw [if_pos h4]
        by_cases h8 : (l[i]).f2.f2 = 8
        · rw [if_pos h8]
          have hb9 : ((l[i]).f2.f0 == 9) = true := by rw [h9]; rfl
          have hb4 : ((l[i]).f2.f1 == 4) = true := by rw [h4]; rfl
          have hb8 : ((l[i]).f2.f2 == 8) = true := by rw [h8]; rfl
          rw [hb9, hb4, hb8, Bool.true_and, Bool.true_and, Bool.true_and] at hmy
          generalize hbe : (!((l[i]).f2.f3.f0 == 2) || (!((l[i]).f2.f3.f1 == 0) || (!((l[i]).f2.f3.f2 == 0) || (!((l[i]).f2.f3.f3 == 0) || (!((l[i]).f2.f3.f4 == 0) || (!((l[i]).f2.f3.f5 == 1))))))) = be at hmy
          cases be with
          | true => exact skip (by rw [hmy]; rfl)
          | false =>
            have hq : qE (to56 l[i]) = true := by rw [hmy]; rfl
            have hget := filter_get qE (l.map to56) i _ hx hq
            rw [hq] at hnx
            have hnx' : (((l.map to56).take (i + 1)).filter qE).length = (((l.map to56).take i).filter qE).length + 1 := hnx
            rw [← hG] at hinv
            obtain ⟨g, hg, hc⟩ := inv_step ep56 _ _ at_ kk _ hget hinv
            rw [hG] at hg hc
            rw [j1_take (f + 2) l G at_ kk g hg]
            rcases hc with ⟨hlt, hgx, he, hinv'⟩ | ⟨rfl, g', hg', hpos, hgx, he, hne, hinv'⟩
            · rw [decide_eq_false (by omega)]
              refine (j2_take (f + 1) (by omega) l G at_ kk i g hg hlt _ hgx hi rfl he (show (l[i]).f2.f4.length ≤ 100 by omega) hGl (hgl g (mem_get hg)) (by omega) 2 0 0 0 0 1 _ _ _ _ _ _ _ _ _ _).trans ?_
              exact ih (i + 1) at_ (kk + 1) (f + 1) (by omega) (by omega) (by rw [hnx']; exact hinv')
            · rw [decide_eq_true rfl, j2_next (f + 1) l G at_ g.length i g g' hg hg' hne hGl]
              refine (j3_take f (by omega) l G (at_ + 1) 0 i g' hg' hpos _ hgx hi rfl he (show (l[i]).f2.f4.length ≤ 100 by omega) hGl (hgl g' (mem_get hg')) (by omega) 2 0 0 0 0 1 _ _ _ _ _ _ _ _ _ _).trans ?_
              exact ih (i + 1) (at_ + 1) 1 f (by omega) (by omega) (by rw [hnx']; exact hinv')
        · rw [if_neg h8]
          exact skip (by rw [hmy, beq_eq_false_iff_ne.mpr h8]; simp)
      · rw [if_neg h4]
        exact skip (by rw [hmy, beq_eq_false_iff_ne.mpr h4]; simp)
    · rw [if_neg h9]
      exact skip (by rw [hmy, beq_eq_false_iff_ne.mpr h9]; simp)
theorem awake_k (k : Nat) (hk : 60 ≤ k) : antiphonlaw26_awake.f k = some true := by
  have h : ∀ n, antiphonlaw26_awake.f (60 + n) = some true := by
    intro n
    induction n with
    | zero => exact awake_ok
    | succ n ih => exact antiphonlaw26_awake.mono _ _ ih
  have := h (k - 60)
  rwa [show 60 + (k - 60) = k by omega] at this
theorem LedgerEpochs : antiphonlaw26_LedgerEpochs.Pure := by
  unfold antiphonlaw26_LedgerEpochs.Pure
  intro l _ hw
  refine ⟨2000, ?_⟩
  unfold antiphonlaw26_LedgerEpochs.f
  rw [awake_k _ (by omega), Option.bind_some, if_pos rfl]
  by_cases hl : (l.length : Int) > 100
  · rw [if_pos hl]
  rw [if_neg hl]
  have hl' : l.length ≤ 100 := by omega
  have hr := rows_ok l (by omega) (2000 - l.length - 1)
  rw [show l.length + 1 + (2000 - l.length - 1) = 2000 by omega] at hr
  have hrf : ledger_Runs.f (l.map to56) 4 8 2 0 0 0 0 1 = some (runsS (l.map to56) 4 8 2 0 0 0 0 1) := by
    unfold ledger_Runs.f
    rw [if_pos]
    refine ⟨by rw [List.length_map]; omega, fun x hx => ?_⟩
    obtain ⟨y, hy, rfl⟩ := List.mem_map.1 hx
    have := (hw.2 y hy).2.2.2.2.2.2.1.1
    show y.f2.f4.length < _
    omega
  have hst : antiphonref1_Station.f 1 = some (2, 0, 0, 0, 0, 1) := by decide
  rw [hst, Option.bind_some, hr, Option.bind_some, hrf, Option.bind_some]
  exact loop_ok l hl' _ rfl l.length 0 0 0 2000 (by omega) (by omega) (by rw [List.take_zero]; exact inv_start _)
end Go.Proofs.Ythdjdhcdhaicoaa.Pure
