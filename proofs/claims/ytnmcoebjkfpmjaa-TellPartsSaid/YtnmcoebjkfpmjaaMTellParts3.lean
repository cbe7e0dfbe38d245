/- Each PDU of type 2 is just one event: none of a user, none of a timer; one that asks is no F, one that does not is no P. -/
-- Put together by wip/print2/mergelaw.py: printed words (what this claim does not use is left out), printed functions, texts of this session.
import Derived.Test.YtnmcoebjkfpmjaaMTellParts2
/-! LibS -/
namespace Go.Proofs.Ytnmcoebjkfpmjaa.LibS
set_option linter.unusedSimpArgs false
set_option linter.unusedVariables false
open Go.RowKit Go.Proofs.Ytnmcoebjkfpmjaa.P Go.Proofs.Ytnmcoebjkfpmjaa.Lib Go.Proofs.YtnmcoebjkfpmjaaW.PrintWords Go.Proofs.YtnmcoebjkfpmjaaW.PrintLast
theorem tmod128 (a : Int) : (Int.tmod a 128 + 128) % 128 = a % 128 := by
  rw [Int.tmod_eq_emod]
  split <;> simp <;> omega
theorem tmod_lo (a : Int) : -128 < Int.tmod a 128 ∧ Int.tmod a 128 < 128 := by
  rw [Int.tmod_eq_emod]
  split <;> simp <;> omega
theorem tmod_nn (a : Int) (h : 0 ≤ a) : Int.tmod a 128 = a % 128 := Int.tmod_eq_emod_of_nonneg h
theorem w64 (a : Int) (h : -9223372036854775808 ≤ a) (h' : a ≤ 9223372036854775807) : wrap64 a = a := by
  unfold wrap64
  omega
theorem seq_rest (a : Int) : seq_rest_int.f a = some (a % 128) := by
  unfold seq_rest_int.f
  have h := tmod_lo a
  rw [w64 _ (by omega) (by omega), tmod_nn _ (by omega), tmod128]
theorem seq_fold2 (k : Nat) (x y : Int) : seq_fold_int.f (k + 3) [x, y] = some ((x + y) % 128) := by
  have hl : (([x, y] : List Int).length : Int) = 2 := rfl
  have h1 : wrap64 ((0 : Int) + 1) = 1 := by decide +kernel
  have h2 : wrap64 ((1 : Int) + 1) = 2 := by decide +kernel
  have r0 : rd [x, y] 0 = x := rfl
  have r1 : rd [x, y] 1 = y := rfl
  unfold seq_fold_int.f
  simp only [seq_fold_int.l0, seq_rest, Option.bind_some, hl, h1, h2, r0, r1]
  rw [w64 (0 + x % 128) (by omega) (by omega), w64 ((0 + x % 128) % 128 + y % 128) (by omega) (by omega)]
  simp
theorem seq_dist (k : Nat) (a b : Int) : seq_Dist.f (k + 3) a b = some ((b - a) % 128) := by
  unfold seq_Dist.f
  rw [seq_rest]
  simp only [Option.bind_some]
  rw [w64 _ (by omega) (by omega), seq_fold2]
  simp only [Option.bind_some, Option.some.injEq]
  omega
theorem seq_in (k : Nat) (x a b : Int) : seq_In.f (k + 3) x a b = some (decide ((x - a) % 128 ≤ (b - a) % 128)) := by
  unfold seq_In.f
  rw [seq_dist, seq_dist]
  rfl
def wrongB (form nr va vs : Int) : Bool := if form = 2 then false else !decide ((nr - va) % 128 ≤ (vs - va) % 128)
def firstI (form kind ns vr : Int) : Int := if form = 1 then (if kind = 0 then 19 else if kind = 1 then 22 else 25) else if (vr - ns) % 128 = 0 then 13 else 16
def eventI (t f : Int) (resp : Bool) (form kind ns nr : Int) (poll : Bool) (n : Nat) (state vr va vs : Int) : Int :=
  if typeI (mayB t f resp form kind ns nr n) form kind = 2 then
    if form = 2 then kind + 5
    else if state < 8 then (if (poll && !resp) = true then 20 else 19)
    else if wrongB form nr va vs = true then 28
    else firstI form kind ns vr + (if (poll && !resp) = true then 1 else if poll = true ∧ state ≥ 11 then 2 else 0)
  else -1
theorem first_le (form kind ns vr : Int) : 13 ≤ firstI form kind ns vr ∧ firstI form kind ns vr ≤ 25 := by
  unfold firstI; repeat' split
  all_goals omega
section
variable (k : Nat) (t f : Int) (resp : Bool) (form kind ns nr : Int) (poll : Bool) (info : List Int) (state vr va vs : Int)
theorem wrong_tell : tell_Wrong.f (k + 3) t f resp form kind ns nr poll info va vs = some (wrongB form nr va vs) := by
  unfold tell_Wrong.f wrongB
  by_cases h : form = 2
  · rw [if_pos h, if_pos h]
  · rw [if_neg h, if_neg h, seq_in]; rfl
theorem asks_tell : tell_Asks.f t f resp form kind ns nr poll info = some (poll && !resp) := by
  unfold tell_Asks.f; cases poll <;> rfl
theorem first_tell (hk : form = 1 → 0 ≤ kind ∧ kind ≤ 2) : tell_first.f (k + 3) t f resp form kind ns nr poll info vr = some (firstI form kind ns vr) := by
  unfold tell_first.f firstI
  by_cases h : form = 1
  · rw [if_pos h, if_pos h, Option.bind_some]
    have hk := hk h
    have : kind = 0 ∨ kind = 1 ∨ kind = 2 := by omega
    rcases this with rfl | rfl | rfl <;> decide +kernel
  · rw [if_neg h, if_neg h, seq_dist, Option.bind_some]
    by_cases hc : (vr - ns) % 128 = 0
    · rw [if_pos hc, if_pos hc]
    · rw [if_neg hc, if_neg hc]
theorem type_two {m : Bool} (h : typeI m form kind = 2) : m = true := by
  unfold typeI at h
  cases m with
  | true => rfl
  | false => simp at h
theorem two_kind (hm : mayB t f resp form kind ns nr info.length = true) (hT : typeI (mayB t f resp form kind ns nr info.length) form kind = 2) (hf : form = 2) : kind = 3 ∨ kind = 4 ∨ kind = 5 ∨ kind = 6 ∨ kind = 7 := by
  have hk := may_kind hm hf
  rw [hm] at hT
  unfold typeI oneB threeB at hT
  rw [if_pos rfl] at hT
  by_cases h1 : kind = 0 ∨ kind = 1 ∨ kind = 2
  · rw [if_pos (by simp [hf, h1])] at hT; omega
  · by_cases h2 : kind = 8 ∨ kind = 9
    · rw [if_neg (by simp; omega), if_pos (by simp [hf, h2])] at hT; omega
    · omega
theorem s_kind (hm : mayB t f resp form kind ns nr info.length = true) (hf : form = 1) : 0 ≤ kind ∧ kind ≤ 2 := by
  unfold mayB at hm
  by_cases hi : inB t f ns nr info.length
  · rw [if_pos hi] at hm
    unfold formB at hm
    subst hf
    rw [if_neg (by decide), if_pos rfl] at hm
    simp at hm
    omega
  · rw [if_neg hi] at hm; cases hm
theorem event_tell : tell_Event.f (k + 10) t f resp form kind ns nr poll info state vr va vs = some (eventI t f resp form kind ns nr poll info.length state vr va vs) := by
  unfold tell_Event.f eventI
  rw [show k + 10 = (k + 6) + 4 by omega, type_tell, Option.bind_some, show k + 6 + 4 = k + 10 by omega]
  by_cases hT : typeI (mayB t f resp form kind ns nr info.length) form kind = 2
  · rw [if_pos hT, if_pos hT]
    have hm := type_two form kind hT
    by_cases hf : form = 2
    · rw [if_pos hf, if_pos hf]
      rcases two_kind t f resp form kind ns nr info hm hT hf with h | h | h | h | h <;> subst h <;> rfl
    · rw [if_neg hf, if_neg hf]
      have hj : tell_Event.j0 (k + 10) state vr va vs false t f resp form kind ns nr poll info = some (if state < 8 then 19 else if wrongB form nr va vs = true then 28 else firstI form kind ns vr + (if (poll && !resp) = true then 1 else if poll = true ∧ state ≥ 11 then 2 else 0)) := by
        have hl := first_le form kind ns vr
        have hs := s_kind t f resp form kind ns nr info hm
        rw [show k + 10 = (k + 9) + 1 by omega, tell_Event.j0, if_neg (by decide)]
        by_cases h8 : state < 8
        · rw [if_pos h8, if_pos h8]
        rw [if_neg h8, if_neg h8, show k + 9 = (k + 6) + 3 by omega, wrong_tell, Option.bind_some]
        by_cases hw : wrongB form nr va vs = true
        · rw [if_pos hw, if_pos hw]
        rw [if_neg hw, if_neg hw, asks_tell, Option.bind_some, first_tell (k + 6) t f resp form kind ns nr poll info vr hs, Option.bind_some]
        by_cases ha : (poll && !resp) = true
        · rw [if_pos ha, if_pos ha, w64 _ (by omega) (by omega)]
        rw [if_neg ha, if_neg ha]
        have hj1 : ∀ b : Bool, tell_Event.j1 (k + 6 + 3) vr b t f resp form kind ns nr poll info = some (if b = true then firstI form kind ns vr + 2 else firstI form kind ns vr) := by
          intro b
          rw [show k + 6 + 3 = (k + 5 + 3) + 1 by omega, tell_Event.j1, first_tell (k + 5) t f resp form kind ns nr poll info vr hs, Option.bind_some, Option.bind_some, w64 _ (by omega) (by omega)]
          cases b <;> rfl
        rw [hj1, hj1]
        cases poll with
        | true =>
          rw [if_pos rfl]
          by_cases h11 : state ≥ 11
          · rw [decide_eq_true h11, if_pos rfl, if_pos ⟨rfl, h11⟩]
          · rw [decide_eq_false h11, if_neg (by decide), if_neg (fun h => h11 h.2)]; simp
        | false => rw [if_neg (by decide), if_neg (by decide), if_neg (fun h => absurd h.1 (by decide))]; simp
      by_cases h8 : state < 8
      · rw [if_pos h8, asks_tell, Option.bind_some]
        by_cases ha : (poll && !resp) = true
        · rw [ha, if_pos h8, if_pos rfl]; rfl
        · rw [if_pos h8, if_neg ha, Bool.eq_false_iff.mpr ha, hj, if_pos h8]
      · rw [if_neg h8, hj, if_neg h8, if_neg h8]
  · rw [if_neg hT, if_neg hT]
end
end Go.Proofs.Ytnmcoebjkfpmjaa.LibS
/-! Px103 -/
namespace Go.Proofs.Ytnmcoebjkfpmjaa.P
open Go.RowKit Go.Proofs.YtnmcoebjkfpmjaaW.PrintWords Go.Proofs.YtnmcoebjkfpmjaaW.PrintLast Go.Proofs.YtnmcoebjkfpmjaaW.PrintMore
attribute [local go_sem] max2_int min2_int max_two min_two max_three min_three max_four min_four   -- for this text's walks alone
set_option linter.unusedVariables false
set_option linter.unusedSimpArgs false
end Go.Proofs.Ytnmcoebjkfpmjaa.P
/-! Px104 -/
namespace Go.Proofs.Ytnmcoebjkfpmjaa.P
open Go.RowKit Go.Proofs.YtnmcoebjkfpmjaaW.PrintWords Go.Proofs.YtnmcoebjkfpmjaaW.PrintLast Go.Proofs.YtnmcoebjkfpmjaaW.PrintMore
attribute [local go_sem] max2_int min2_int max_two min_two max_three min_three max_four min_four   -- for this text's walks alone
set_option linter.unusedVariables false
set_option linter.unusedSimpArgs false
end Go.Proofs.Ytnmcoebjkfpmjaa.P
/-! Px105 -/
namespace Go.Proofs.Ytnmcoebjkfpmjaa.P
open Go.RowKit Go.Proofs.YtnmcoebjkfpmjaaW.PrintWords Go.Proofs.YtnmcoebjkfpmjaaW.PrintLast Go.Proofs.YtnmcoebjkfpmjaaW.PrintMore
attribute [local go_sem] max2_int min2_int max_two min_two max_three min_three max_four min_four   -- for this text's walks alone
set_option linter.unusedVariables false
set_option linter.unusedSimpArgs false
end Go.Proofs.Ytnmcoebjkfpmjaa.P
/-! Px37 -/
namespace Go.Proofs.Ytnmcoebjkfpmjaa.P
open Go.RowKit Go.Proofs.YtnmcoebjkfpmjaaW.PrintWords Go.Proofs.YtnmcoebjkfpmjaaW.PrintLast Go.Proofs.YtnmcoebjkfpmjaaW.PrintMore
attribute [local go_sem] max2_int min2_int max_two min_two max_three min_three max_four min_four   -- for this text's walks alone
set_option linter.unusedVariables false
set_option linter.unusedSimpArgs false
end Go.Proofs.Ytnmcoebjkfpmjaa.P
/-! Px55 -/
namespace Go.Proofs.Ytnmcoebjkfpmjaa.P
open Go.RowKit Go.Proofs.YtnmcoebjkfpmjaaW.PrintWords Go.Proofs.YtnmcoebjkfpmjaaW.PrintLast Go.Proofs.YtnmcoebjkfpmjaaW.PrintMore
attribute [local go_sem] max2_int min2_int max_two min_two max_three min_three max_four min_four   -- for this text's walks alone
set_option linter.unusedVariables false
set_option linter.unusedSimpArgs false
end Go.Proofs.Ytnmcoebjkfpmjaa.P
/-! OLib -/
namespace Go.Proofs.Ytnmcoebjkfpmjaa.Lib
set_option linter.unusedSimpArgs false
set_option linter.unusedVariables false
open Go.RowKit Go.Proofs.Ytnmcoebjkfpmjaa.P Go.Proofs.YtnmcoebjkfpmjaaW.PrintWords Go.Proofs.YtnmcoebjkfpmjaaW.PrintLast Go.Proofs.YtnmcoebjkfpmjaaW.PrintMore
theorem w64 (a : Int) (h : -9223372036854775808 ≤ a) (h' : a ≤ 9223372036854775807) : wrap64 a = a := by unfold wrap64; omega
theorem u8_wf {x : Int} (h : (Lit.int .u8 x).wf = true) : 0 ≤ x ∧ x < 256 := by
  simp [Lit.wf, IntKind.min, IntKind.max, IntKind.signed, IntKind.bits] at h; omega
end Go.Proofs.Ytnmcoebjkfpmjaa.Lib
/-! PureTellParts -/
namespace Go.Proofs.Ytnmcoebjkfpmjaa.Pure
open Go.RowKit Go.Proofs.Ytnmcoebjkfpmjaa.P Go.Proofs.Ytnmcoebjkfpmjaa.Lib Go.Proofs.YtnmcoebjkfpmjaaW.PrintWords Go.Proofs.YtnmcoebjkfpmjaaW.PrintLast
theorem first_mod (form kind ns vr : Int) : LibS.firstI form kind ns vr = 13 ∨ LibS.firstI form kind ns vr = 16 ∨ LibS.firstI form kind ns vr = 19 ∨ LibS.firstI form kind ns vr = 22 ∨ LibS.firstI form kind ns vr = 25 := by
  unfold LibS.firstI; repeat' split
  all_goals omega
theorem TellParts : antiphonlaw8_TellParts.Pure := by
  intro t f resp form kind ns nr poll info s n0 n1 n2
  intros
  rename_i hs _ _ _
  have hs : 0 ≤ s ∧ s < 256 := u8_wf hs
  refine ⟨301, ?_⟩
  have hA : antiphonlaw8_awake.f 301 = some true := by decide +kernel
  unfold antiphonlaw8_TellParts.f
  rw [hA, Option.bind_some, if_pos rfl]
  by_cases hl : (info.length : Int) > 2000
  · rw [if_pos hl]
  rw [if_neg hl, show (301 : Nat) = 291 + 10 from rfl, LibS.event_tell, Option.bind_some, show (291 + 10 : Nat) = 297 + 4 from rfl, type_tell, Option.bind_some, w64 s (by omega) (by omega), Int.tmod_eq_emod_of_nonneg hs.1]
  generalize Go.bits .and .i64 (wrap64 n0) 127 = vr
  generalize Go.bits .and .i64 (wrap64 n1) 127 = va
  generalize Go.bits .and .i64 (wrap64 n2) 127 = vs
  have hev : LibS.eventI t f resp form kind ns nr poll info.length (s % 14) vr va vs = if typeI (mayB t f resp form kind ns nr info.length) form kind = 2 then (if form = 2 then kind + 5 else if s % 14 < 8 then (if (poll && !resp) = true then 20 else 19) else if LibS.wrongB form nr va vs = true then 28 else LibS.firstI form kind ns vr + (if (poll && !resp) = true then 1 else if poll = true ∧ s % 14 ≥ 11 then 2 else 0)) else -1 := rfl
  by_cases hT : typeI (mayB t f resp form kind ns nr info.length) form kind = 2
  · rw [if_pos hT] at hev ⊢
    have hm := LibS.type_two form kind hT
    generalize LibS.eventI t f resp form kind ns nr poll info.length (s % 14) vr va vs = e at hev ⊢
    have hj : ∀ e : Int, 8 ≤ e → e ≤ 28 → (e < 13 ∨ e = 28 ∨ s % 14 < 8 ∨ (((Int.tmod (wrap64 (e - 13)) 3) == 1) == (poll && !resp)) = true ∧ (Int.tmod (wrap64 (e - 13)) 3 = 2 → resp = true ∧ poll = true ∧ s % 14 ≥ 11)) →
        (if e < 8 then antiphonlaw8_TellParts.j0 (297 + 4) s e true t f resp form kind ns nr poll info else antiphonlaw8_TellParts.j0 (297 + 4) s e (decide (e > 28)) t f resp form kind ns nr poll info) = some true := by
      intro e e0 e1 h
      rw [if_neg (by omega), decide_eq_false (by omega), show (297 + 4 : Nat) = 300 + 1 from rfl, antiphonlaw8_TellParts.j0, if_neg (by decide), w64 s (by omega) (by omega), Int.tmod_eq_emod_of_nonneg hs.1, LibS.asks_tell, Option.bind_some]
      by_cases h1 : e < 13
      · rw [if_pos h1]
      rw [if_neg h1]
      by_cases h2 : e = 28
      · rw [if_pos h2]
      rw [if_neg h2]
      by_cases h3 : s % 14 < 8
      · rw [if_pos h3]
      rw [if_neg h3]
      rcases h with h | h | h | ⟨h, h'⟩
      · exact absurd h h1
      · exact absurd h h2
      · exact absurd h h3
      rw [if_pos h]
      by_cases h4 : Int.tmod (wrap64 (e - 13)) 3 = 2
      · obtain ⟨hr, hp, h11⟩ := h' h4
        rw [if_pos h4, if_pos hr, if_pos hp, decide_eq_true h11]
      · rw [if_neg h4]
    subst hev
    by_cases hf : form = 2
    · rw [if_pos hf]
      have hk := LibS.two_kind t f resp form kind ns nr info hm hT hf
      exact hj _ (by omega) (by omega) (.inl (by omega))
    · rw [if_neg hf]
      by_cases h8 : s % 14 < 8
      · rw [if_pos h8]
        by_cases ha : (poll && !resp) = true
        · rw [if_pos ha]; exact hj _ (by omega) (by omega) (.inr (.inr (.inl h8)))
        · rw [if_neg ha]; exact hj _ (by omega) (by omega) (.inr (.inr (.inl h8)))
      · rw [if_neg h8]
        by_cases hw : LibS.wrongB form nr va vs = true
        · rw [if_pos hw]; exact hj _ (by omega) (by omega) (.inr (.inl rfl))
        · rw [if_neg hw]
          have hfm := first_mod form kind ns vr
          generalize LibS.firstI form kind ns vr = q at hfm ⊢
          by_cases ha : (poll && !resp) = true
          · rw [if_pos ha]
            refine hj _ (by omega) (by omega) (.inr (.inr (.inr ?_)))
            rw [ha]
            rcases hfm with rfl | rfl | rfl | rfl | rfl <;> exact ⟨by decide +kernel, fun h => absurd h (by decide +kernel)⟩
          · rw [if_neg ha]
            by_cases h11 : poll = true ∧ s % 14 ≥ 11
            · rw [if_pos h11]
              have hr : resp = true := by
                cases resp with
                | true => rfl
                | false => exact absurd (by rw [h11.1]; rfl) ha
              refine hj _ (by omega) (by omega) (.inr (.inr (.inr ?_)))
              rw [Bool.eq_false_iff.mpr ha]
              rcases hfm with rfl | rfl | rfl | rfl | rfl <;> exact ⟨by decide +kernel, fun _ => ⟨hr, h11⟩⟩
            · rw [if_neg h11]
              refine hj _ (by omega) (by omega) (.inr (.inr (.inr ?_)))
              rw [Bool.eq_false_iff.mpr ha]
              rcases hfm with rfl | rfl | rfl | rfl | rfl <;> exact ⟨by decide +kernel, fun h => absurd h (by decide +kernel)⟩
  · rw [if_neg hT] at hev ⊢
    rw [hev]; rfl
end Go.Proofs.Ytnmcoebjkfpmjaa.Pure
/-! LawTellParts -/
namespace Go.Proofs.Ytnmcoebjkfpmjaa.tellParts
open Go.ChangeShapes Go.WideShapes Go.ChangeAt Go.RowKit
open Go.ChangeMaps (open_string shut_string)
set_option linter.unusedVariables false
theorem own : ownKnob Try.prog.godebug = none := by kernel_rfl
theorem laidOut : laidOutB Try.prog = true := by kernel_rfl
set_option maxRecDepth 100000 in
theorem lifted (os : Os) (started : os.Started) (H : Type) (enc : TypeId × Value → H) :
    ReturnsInHanded {} Try.checked os 16 .any (Rows.tellPartsSpec.pre6 enc Try.prog Try.f16 Rows.tellPartsRow.domain false) (Rows.tellPartsSpec.post enc Try.prog Try.f16 false true false false) := by
  refine returnsInHanded_of_change_sized (C := Try.checked) own started (by kernel_rfl) Try.func16
    (ChangeSpec.witness6 (enc := enc) (C := Try.checked) false ⟨#[], #[.agg #[.int .i64 0, .int .i64 0, .bool false, .int .i64 0, .int .i64 0, .int .i64 0, .int .i64 0, .bool false, .slice none 0 0], .int .u8 0, .agg #[.int .u8 0, .int .u8 0, .int .u8 0]], []⟩ 8 (by kernel_rfl) (by kernel_rfl) (by kernel_rfl) (by kernel_rfl)) ?_
  intro W base args ds gs before hval0 hW hcnd hsz0 _
  have hsz : (DataW.weightsEach Try.prog (Try.f16.params.toList ++ Rows.tellPartsSpec.plain.varTypes Try.prog) (ds ++ gs)).all (· ≤ reachBytes) = true := hsz0
  have hval : ∀ (j : Nat) t v, Try.f16.params[j]? = some t → args[j]? = some v → Value.okWide Try.prog W .any base t v := hval0
  have hW' := hW
  obtain ⟨p, q, hA0, hV, rfl, hfz, hnd⟩ := hW
  have hA : DataW.TrodAll enc Try.prog W 0 (fun _ => true) true Try.f16.params.toList args.toList ds p := hA0
  rw [Try.params16] at hA hval hsz
  obtain ⟨v0, vs0, d0, ds0, p0, q0, hargs, rfl, rfl, h0, r0⟩ := trodAll_cons hA
  obtain ⟨v1, vs1, d1, ds1, p1, q1, rfl, rfl, rfl, h1, r1⟩ := trodAll_cons r0
  obtain ⟨v2, vs2, d2, ds2, p2, q2, rfl, rfl, rfl, h2, r2⟩ := trodAll_cons r1
  obtain ⟨rfl, rfl, rfl⟩ := trodAll_nil r2
  obtain rfl : args = #[v0, v1, v2] := by cases args; simp_all
  obtain ⟨rfl, rfl⟩ := trodVars_none hV
  obtain ⟨a0_0, a0_1, a0_2, a0_3, a0_4, a0_5, a0_6, a0_7, a0_8, n0_8, c0_8, z0_8, rfl, w0_0, w0_1, w0_3, w0_4, w0_5, w0_6, w0_8, _⟩ := Open.open_s25 (hval 0 25 v0 rfl rfl) h0
  have k0 := h0
  have lt0 : ∀ x ∈ p0, x.block < W.heap.size := by obtain ⟨m, hm⟩ := k0; exact DataW.trod_lt m _ _ _ hm
  obtain ⟨a1, rfl, rfl, rfl, w1⟩ := open_int Try.underlying5 (hval 1 5 v1 rfl rfl) h1
  obtain ⟨a2_0, a2_1, a2_2, rfl, w2_0, w2_1, w2_2, _⟩ := Open.open_s84 (hval 2 84 v2 rfl rfl) h2
  have k2 := h2
  have lt2 : ∀ x ∈ p2, x.block < W.heap.size := by obtain ⟨m, hm⟩ := k2; exact DataW.trod_lt m _ _ _ hm
  clear hA0 hval0 hsz0 hsz
  refine (P.antiphonlaw8_TellParts.walk Pure.TellParts a0_0 a0_1 a0_2 a0_3 a0_4 a0_5 a0_6 a0_7 a0_8 n0_8 c0_8 z0_8 a1 a2_0 a2_1 a2_2 W w0_0 w0_1 w0_3 w0_4 w0_5 w0_6 w0_8 w1 w2_0 w2_1 w2_2).mono fun e W' ⟨he, bel⟩ => ?_
  subst he
  exact ⟨_, rfl, _, _, _, [], _, [], hW', trodAll_mk1 (shut_bool Try.underlying4 _), (trodAll_cons_mk (Below.trod laidOut (by kernel_rfl) (of_decide_eq_true (by kernel_rfl)) k0 bel lt0) (trodAll_cons_mk (shut_int Try.underlying5 w1) (trodAll_cons_mk (Below.trod laidOut (by kernel_rfl) (of_decide_eq_true (by kernel_rfl)) k2 bel lt2) trodAll_mk0))), rfl, bel.frame _, fun h => by cases h⟩
theorem fact0 : (Rows.tellPartsRow.wf (OpenSpec.ofChange Rows.tellPartsSpec)) = true := by kernel_rfl
theorem fact1 : (laidOutB Try.prog) = true := Kit.laidOut
theorem fact2 : (mapsRowed Try.prog) = true := Kit.mapsRowed
theorem fact3 : (Try.f16.params.all (Try.prog.readableRec ·)) = true := by kernel_rfl
theorem fact4 : (namedTie Try.prog Rows.tellPartsRow.named Rows.tellPartsSpec.vars) = true := by kernel_rfl
theorem fact5 : ((Rows.tellPartsRow.stops == [])) = true := by kernel_rfl
theorem fact6 : ((Try.prog.stops == [])) = true := Kit.stops
theorem fact7 : ((Rows.tellPartsRow.knobs == [])) = true := by kernel_rfl
theorem fact8 : ((Try.prog.stopKnobs == [])) = true := Kit.stopKnobs
theorem fact9 : ((Rows.tellPartsRow.inPlace == Try.prog.inPlace 16)) = true := by kernel_rfl
theorem fact10 : ((Rows.tellPartsRow.unfollowed == Try.prog.unfollowed 16)) = true := by kernel_rfl
theorem fact11 : ((Rows.tellPartsRow.recurses == Try.prog.recurses 16)) = true := by kernel_rfl
theorem fact12 : ((Rows.tellPartsRow.named == Try.prog.varsNamed 16)) = true := by kernel_rfl
theorem fact13 : ((Rows.tellPartsRow.maps == (Try.f16.params.toList ++ Rows.tellPartsSpec.plain.varTypes Try.prog).any (Try.prog.mapsRec ·))) = true := by kernel_rfl
theorem fact14 : ((Rows.tellPartsRow.ifaces == (Try.f16.params.toList ++ Rows.tellPartsSpec.plain.varTypes Try.prog).any (Try.prog.ifacesRec ·))) = true := by kernel_rfl
theorem fact15 : ((Rows.tellPartsRow.mapsOut == Try.prog.mapsAmong Try.f16.resultTypes.toList)) = true := by kernel_rfl
theorem fact16 : ((Rows.tellPartsRow.loops == (Try.f16.params.toList ++ Rows.tellPartsSpec.plain.varTypes Try.prog).any (Try.prog.loopsFrom ·))) = true := by kernel_rfl
theorem fact17 : ((Rows.tellPartsRow.wideKeys == (Try.f16.params.toList ++ Rows.tellPartsSpec.plain.varTypes Try.prog ++ Try.f16.resultTypes.toList).any (Try.prog.wideKeysFrom ·))) = true := by kernel_rfl
theorem fact18 : (Rows.tellPartsSpec.vars.all (Try.prog.varReadable ·)) = true := by kernel_rfl
theorem fact19 : (Try.f16.resultTypes.all (fun t => Try.prog.readableRec t && decide (t < Try.prog.types.size))) = true := by kernel_rfl
theorem fact20 : ((Rows.tellPartsRow.ifacesOut == Try.f16.resultTypes.toList.any (Try.prog.ifacesRec ·))) = true := by kernel_rfl
theorem fact21 : ((Rows.tellPartsRow.loopsOut == Try.f16.resultTypes.toList.any (Try.prog.loopsFrom ·))) = true := by kernel_rfl
theorem fact22 : ((Rows.tellPartsRow.plainKeys == Try.prog.plainKeys)) = true := (by rw [Kit.plainKeys]; rfl)
theorem fact23 : (Rows.tellPartsRow.shortTexts.isNone) = true := by kernel_rfl
theorem fact24 : (Try.prog.stopsHeard) = true := Kit.stopsHeard
theorem fact25 : (Try.prog.mayEnter) = true := Kit.mayEnter
theorem fact26 : ((Rows.tellPartsRow.lifted == Try.prog.liftsFinal)) = true := (by rw [Kit.liftsFinal]; rfl)
theorem fact27 : ((Try.prog.make == some Rows.tellPartsRow.make)) = true := (by rw [Kit.make]; rfl)
theorem fact28 : ((Rows.tellPartsRow.kinds == (if Rows.tellPartsRow.domain.isEmpty then [] else Try.f16.params.toList.map fun t => match Try.prog.underlying t with | some (.int k) => some k | _ => none))) = true := by kernel_rfl
theorem fact29 : ((Rows.tellPartsRow.pinned == Rows.tellPartsRow.pinnedBy)) = true := by kernel_rfl
theorem fact30 : ((Rows.tellPartsRow.veiled == (Try.f16.params.toList ++ Rows.tellPartsSpec.plain.varTypes Try.prog ++ Try.f16.resultTypes.toList).any (Try.prog.veiledRec ·))) = true := by kernel_rfl
theorem fact31 : (Rows.tellPartsRow.veiledFits Try.prog Try.f16.params.toList (Try.f16.params.toList ++ Rows.tellPartsSpec.plain.varTypes Try.prog ++ Try.f16.resultTypes.toList)) = true := by kernel_rfl
set_option maxRecDepth 100000 in
theorem closed : joinedFacts Try.prog 16 Try.f16 Rows.tellPartsSpec Rows.tellPartsRow = true := by
  unfold joinedFacts
  exact (Kit.and2 (Kit.and2 (Kit.and2 (Kit.and2 (Kit.and2 (Kit.and2 (Kit.and2 (Kit.and2 (Kit.and2 (Kit.and2 (Kit.and2 (Kit.and2 (Kit.and2 (Kit.and2 (Kit.and2 (Kit.and2 (Kit.and2 (Kit.and2 (Kit.and2 (Kit.and2 (Kit.and2 (Kit.and2 (Kit.and2 (Kit.and2 (Kit.and2 (Kit.and2 (Kit.and2 (Kit.and2 (Kit.and2 (Kit.and2 (Kit.and2 fact0 fact1) fact2) fact3) fact4) fact5) fact6) fact7) fact8) fact9) fact10) fact11) fact12) fact13) fact14) fact15) fact16) fact17) fact18) fact19) fact20) fact21) fact22) fact23) fact24) fact25) fact26) fact27) fact28) fact29) fact30) fact31)
theorem named : Try.prog.funcNamed Rows.tellPartsRow.func = some 16 := by kernel_rfl
theorem inst : Try.f16.isInstance Try.prog Rows.tellPartsRow.origin Rows.tellPartsRow.targs := of_decide_eq_true (by kernel_rfl)
theorem wrap_ : Try.f16.isWrapper Try.prog Rows.tellPartsRow.wrapper Rows.tellPartsRow.mainSum := by unfold Func.isWrapper; first | (rw [if_pos (by decide +kernel)]; kernel_rfl) | (rw [if_neg (by decide +kernel)]; exact ⟨rfl, rfl⟩)
theorem over : Rows.tellPartsRow.holds Try.pinned (OpenSpec.ofChange Rows.tellPartsSpec) :=
  OpenClaim.holds_of_wide 16 Try.f16 rfl rfl rfl rfl rfl rfl rfl ⟨rfl, rfl, rfl, rfl, rfl⟩ rfl rfl rfl rfl rfl named Try.func16 closed
    inst wrap_
    (fun os started H enc _ => lifted os started H enc)
theorem proved : Rows.TellPartsSaid := over
#print axioms proved
end Go.Proofs.Ytnmcoebjkfpmjaa.tellParts
namespace Go.Proofs.Ytnmcoebjkfpmjaa
theorem tellParts_holds : Rows.TellPartsSaid := tellParts.proved
end Go.Proofs.Ytnmcoebjkfpmjaa
