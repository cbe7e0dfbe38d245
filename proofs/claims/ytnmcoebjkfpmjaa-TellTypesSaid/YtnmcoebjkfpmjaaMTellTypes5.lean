/- Each PDU that may be is of just one type; one that may not be is of none; who is asked is asked by a command. -/
-- Put together by wip/print2/mergelaw.py: printed words (what this claim does not use is left out), printed functions, texts of this session.
import Derived.Test.YtnmcoebjkfpmjaaMTellTypes4
/-! Lib -/
namespace Go.Proofs.Ytnmcoebjkfpmjaa.Lib
set_option linter.unusedSimpArgs false
set_option linter.unusedVariables false
open Go.RowKit Go.Proofs.Ytnmcoebjkfpmjaa.P Go.Proofs.YtnmcoebjkfpmjaaW.PrintWords Go.Proofs.YtnmcoebjkfpmjaaW.PrintLast
theorem and1 {x : Int} (h0 : 0 ≤ x) (h1 : x ≤ 255) : Go.bits .and .i64 x 1 = x % 2 := by
  have : ∀ j : Fin 256, Go.bits .and .i64 (j.val : Int) 1 = (j.val : Int) % 2 := by decide +kernel
  have h := this ⟨x.toNat, by omega⟩
  rwa [show ((x.toNat : Nat) : Int) = x by omega] at h
theorem tm2 {x : Int} (h0 : 0 ≤ x) : Int.tmod x 2 = x % 2 := Int.tmod_eq_emod_of_nonneg h0
def kindB (t : Int) (resp : Bool) (kind : Int) (n : Nat) : Bool :=
  if kind = 0 then !resp else if kind = 1 ∨ kind = 2 then true else if kind = 3 ∨ kind = 4 then (!resp && (t % 2 == 0) && (n == 4)) else if kind = 5 ∨ kind = 6 then (resp && (t % 2 == 0) && (n == 4))
  else if kind = 7 then (resp && (t % 2 == 0) && (n == 5)) else if kind = 8 ∨ kind = 9 then (t % 2 == 0) else false
def inB (t f ns nr : Int) (n : Nat) : Prop := 0 ≤ t ∧ t ≤ 255 ∧ 0 ≤ f ∧ f ≤ 254 ∧ f % 2 = 0 ∧ 0 ≤ ns ∧ ns ≤ 127 ∧ 0 ≤ nr ∧ nr ≤ 127 ∧ n ≤ 1040
instance (t f ns nr : Int) (n : Nat) : Decidable (inB t f ns nr n) := by unfold inB; infer_instance
def formB (t : Int) (resp : Bool) (form kind ns nr : Int) (n : Nat) : Bool :=
  if form = 0 then decide (kind = 0) && (t % 2 == 0) else if form = 1 then decide (0 ≤ kind ∧ kind ≤ 2 ∧ ns = 0 ∧ n = 0) && (t % 2 == 0) else if form = 2 then decide (ns = 0 ∧ nr = 0) && kindB t resp kind n else false
def mayB (t f : Int) (resp : Bool) (form kind ns nr : Int) (n : Nat) : Bool :=
  if inB t f ns nr n then formB t resp form kind ns nr n else false
section
variable (k : Nat) (t f : Int) (resp : Bool) (form kind ns nr : Int) (poll : Bool) (info : List Int)
theorem ten (x : Int) : x = 0 ∨ x = 1 ∨ x = 2 ∨ x = 3 ∨ x = 4 ∨ x = 5 ∨ x = 6 ∨ x = 7 ∨ x = 8 ∨ x = 9 ∨ (x ≠ 0 ∧ x ≠ 1 ∧ x ≠ 2 ∧ x ≠ 3 ∧ x ≠ 4 ∧ x ≠ 5 ∧ x ≠ 6 ∧ x ≠ 7 ∧ x ≠ 8 ∧ x ≠ 9) := by omega
theorem len_eq (n : Nat) (m : Nat) : ((n : Int) == (m : Int)) = (n == m) := by
  by_cases h : n = m
  · subst h; simp
  · rw [beq_eq_false_iff_ne.mpr h, beq_eq_false_iff_ne.mpr (by omega)]
theorem kind_pdu (h0 : 0 ≤ t) (h1 : t ≤ 255) : pdu_kind.f (k + 3) t f resp form kind ns nr poll info = some (kindB t resp kind info.length) := by
  unfold pdu_kind.f kindB
  rw [and1 h0 h1]
  have l4 := len_eq info.length 4
  have l5 := len_eq info.length 5
  have h2 : t % 2 = 0 ∨ t % 2 = 1 := by omega
  rcases ten kind with h | h | h | h | h | h | h | h | h | h | ⟨a0, a1, a2, a3, a4, a5, a6, a7, a8, a9⟩
  all_goals first | subst h | skip
  all_goals rcases h2 with h2 | h2 <;> rw [h2] <;> cases resp
  all_goals first | rfl | (simp only [pdu_kind.j0, pdu_kind.j1, pdu_kind.j2, l4, l5]; rfl) | (simp [pdu_kind.j0, pdu_kind.j1, pdu_kind.j2, *]; done) | (simp [pdu_kind.j0, pdu_kind.j1, pdu_kind.j2]; exact l4) | (simp [pdu_kind.j0, pdu_kind.j1, pdu_kind.j2]; exact l5)
theorem may_pdu_j (h0 : 0 ≤ t) (h1 : t ≤ 255) : pdu_May.j0 (k + 4) false t f resp form kind ns nr poll info = some (formB t resp form kind ns nr info.length) := by
  simp only [pdu_May.j0, formB, pdu_within.f, and1 h0 h1, kind_pdu k t f resp form kind ns nr poll info h0 h1]
  rw [if_neg (by decide)]
  by_cases f0 : form = 0
  · rw [if_pos f0, if_pos f0]; by_cases c : kind = 0 <;> simp [c]
  rw [if_neg f0, if_neg f0]
  by_cases f1 : form = 1
  · rw [if_pos f1, if_pos f1]
    by_cases c : kind ≥ 0
    · by_cases c2 : kind ≤ 2
      · by_cases c3 : ns = 0
        · by_cases c4 : info.length = 0
          · simp [c, c2, c3, c4]
          · simp [c, c2, c3]
            split <;> simp [*]
        · simp [c, c2, c3]
      · simp [c, c2]
    · simp [c]
  rw [if_neg f1, if_neg f1]
  by_cases f2 : form = 2
  · rw [if_pos f2, if_pos f2]
    by_cases c3 : ns = 0 <;> by_cases c4 : nr = 0 <;> simp [c3, c4]
  · rw [if_neg f2, if_neg f2]
theorem may_pdu : pdu_May.f (k + 4) t f resp form kind ns nr poll info = some (mayB t f resp form kind ns nr info.length) := by
  have hj : pdu_May.j0 (k + 4) true t f resp form kind ns nr poll info = some false := rfl
  unfold pdu_May.f mayB
  by_cases h : inB t f ns nr info.length
  · rw [if_pos h]
    obtain ⟨a, b, c, d, e, g, i, j, l, m⟩ := h
    have e1 : pdu_within.f t 255 = some true := by unfold pdu_within.f; rw [if_pos a, decide_eq_true b]
    have e2 : pdu_within.f f 254 = some true := by unfold pdu_within.f; rw [if_pos c, decide_eq_true d]
    have e3 : pdu_within.f ns 127 = some true := by unfold pdu_within.f; rw [if_pos g, decide_eq_true i]
    have e4 : pdu_within.f nr 127 = some true := by unfold pdu_within.f; rw [if_pos j, decide_eq_true l]
    have e5 : decide ((info.length : Int) > 1040) = false := decide_eq_false (by omega)
    rw [e1, e2, e3, e4, e5, and1 c (by omega)]
    simp only [Option.bind_some, if_true, may_pdu_j k t f resp form kind ns nr poll info a b]
    rw [if_neg (by omega)]
  · rw [if_neg h, hj]
    unfold pdu_within.f
    unfold inB at h
    by_cases c1 : t ≥ 0 ∧ t ≤ 255
    · by_cases c2 : f ≥ 0 ∧ f ≤ 254
      · rw [and1 c2.1 (by omega)]
        by_cases c3 : f % 2 = 1
        · simp [c1, c2, c3]
        · by_cases c4 : ns ≥ 0 ∧ ns ≤ 127
          · by_cases c5 : nr ≥ 0 ∧ nr ≤ 127
            · have e5 : decide ((info.length : Int) > 1040) = true := decide_eq_true (by omega)
              simp [c1, c2, c3, c4, c5]
              rw [decide_eq_true (by omega)]; exact hj
            · by_cases c6 : nr ≥ 0
              · simp [c1, c2, c3, c4, c6]; intro; omega
              · simp [c1, c2, c3, c4, c6]
          · by_cases c6 : ns ≥ 0
            · simp [c1, c2, c3, c6]; intro; omega
            · simp [c1, c2, c3, c6]
      · by_cases c6 : f ≥ 0
        · simp [c1, c6]; intro; omega
        · simp [c1, c6]
    · by_cases c6 : t ≥ 0
      · simp [c6]; intro; omega
      · simp [c6]
theorem mayU_ref (h0 : 0 ≤ t) : antiphonref6_mayU.f (k + 4) t f resp form kind ns nr poll info = some (decide (ns = 0 ∧ nr = 0) && kindB t resp kind info.length) := by
  unfold antiphonref6_mayU.f
  have hj : antiphonref6_mayU.j0 (k + 4) true t f resp form kind ns nr poll info = some false := rfl
  have hf : antiphonref6_mayU.j0 (k + 4) false t f resp form kind ns nr poll info = some (kindB t resp kind info.length) := by
    unfold kindB
    have l4 := len_eq info.length 4
    have l5 := len_eq info.length 5
    have h2 : t % 2 = 0 ∨ t % 2 = 1 := by omega
    have l4' : ((info.length : Int) = 4) = (info.length = 4) := by apply propext; omega
    have l5' : ((info.length : Int) = 5) = (info.length = 5) := by apply propext; omega
    rcases ten kind with h | h | h | h | h | h | h | h | h | h | ⟨a0, a1, a2, a3, a4, a5, a6, a7, a8, a9⟩
    all_goals first | subst h | skip
    all_goals rcases h2 with h2 | h2 <;> cases resp
    all_goals first | rfl | (simp [antiphonref6_mayU.j0, antiphonref6_mayU.j1, antiphonref6_mayU.j2, antiphonref6_mayU.j3, tm2 h0, l4', l5', h2, *]; done) | (simp [antiphonref6_mayU.j0, antiphonref6_mayU.j1, antiphonref6_mayU.j2, antiphonref6_mayU.j3, tm2 h0, l4', l5', h2]; split <;> simp [*])
  by_cases c3 : ns = 0
  · by_cases c4 : nr = 0
    · subst c3; subst c4
      rw [if_pos rfl]
      exact hf
    · rw [if_pos c3, bne_iff_ne.mpr c4, hj]; simp [c4]
  · rw [if_neg c3, hj]; simp [c3]
theorem may_ref : antiphonref6_May.f (k + 5) t f resp form kind ns nr poll info = some (mayB t f resp form kind ns nr info.length) := by
  have hj : antiphonref6_May.j0 (k + 5) true t f resp form kind ns nr poll info = some false := rfl
  have hf : 0 ≤ t → antiphonref6_May.j0 (k + 5) false t f resp form kind ns nr poll info = some (formB t resp form kind ns nr info.length) := by
    intro h0
    simp only [antiphonref6_May.j0, formB, tm2 h0, mayU_ref k t f resp form kind ns nr poll info h0]
    rw [if_neg (by decide)]
    by_cases f0 : form = 0
    · rw [if_pos f0, if_pos f0]; by_cases c : kind = 0 <;> simp [c]
    rw [if_neg f0, if_neg f0]
    by_cases f1 : form = 1
    · rw [if_pos f1, if_pos f1]
      by_cases c : kind ≥ 0
      · by_cases c2 : kind ≤ 2
        · by_cases c3 : ns = 0
          · by_cases c4 : info.length = 0
            · simp [c, c2, c3, c4]
            · simp [c, c2, c3]
              split <;> simp [*]
          · simp [c, c2, c3]
        · simp [c, c2]
      · simp [c]
    rw [if_neg f1, if_neg f1]
    by_cases f2 : form = 2
    · rw [if_pos f2, if_pos f2]; rfl
    · rw [if_neg f2, if_neg f2]
  unfold antiphonref6_May.f mayB
  by_cases h : inB t f ns nr info.length
  · rw [if_pos h]
    obtain ⟨a, b, c, d, e, g, i, j, l, m⟩ := h
    rw [if_neg (by omega), if_neg (by omega), if_neg (by omega), if_neg (by omega), tm2 c, if_neg (by omega), if_neg (by omega), if_neg (by omega), if_neg (by omega), if_neg (by omega), decide_eq_false (by omega)]
    exact hf a
  · rw [if_neg h, hj]
    unfold inB at h
    repeat' split
    all_goals first | rfl | skip
    rename_i h1 h2 h3 h4 h5 h6 h7 h8 h9
    rw [tm2 (by omega)] at h5
    rw [decide_eq_true (by omega)]
    exact hj
end
end Go.Proofs.Ytnmcoebjkfpmjaa.Lib
/-! Px64 -/
namespace Go.Proofs.Ytnmcoebjkfpmjaa.P
open Go.RowKit Go.Proofs.YtnmcoebjkfpmjaaW.PrintWords Go.Proofs.YtnmcoebjkfpmjaaW.PrintLast Go.Proofs.YtnmcoebjkfpmjaaW.PrintMore
attribute [local go_sem] max2_int min2_int max_two min_two max_three min_three max_four min_four   -- for this text's walks alone
set_option linter.unusedVariables false
set_option linter.unusedSimpArgs false
end Go.Proofs.Ytnmcoebjkfpmjaa.P
/-! LibT -/
namespace Go.Proofs.Ytnmcoebjkfpmjaa.Lib
set_option linter.unusedSimpArgs false
set_option linter.unusedVariables false
open Go.RowKit Go.Proofs.Ytnmcoebjkfpmjaa.P Go.Proofs.YtnmcoebjkfpmjaaW.PrintWords Go.Proofs.YtnmcoebjkfpmjaaW.PrintLast
def oneB (form kind : Int) : Bool := decide (form = 2 ∧ (kind = 0 ∨ kind = 1 ∨ kind = 2))
def threeB (form kind : Int) : Bool := decide (form = 2 ∧ (kind = 8 ∨ kind = 9))
def typeI (may : Bool) (form kind : Int) : Int := if may then (if oneB form kind then 1 else if threeB form kind then 3 else 2) else 0
theorem may_kind {t f : Int} {resp : Bool} {form kind ns nr : Int} {n : Nat} (h : mayB t f resp form kind ns nr n = true) (hf : form = 2) : 0 ≤ kind ∧ kind ≤ 9 := by
  unfold mayB formB at h
  subst hf
  by_cases hi : inB t f ns nr n
  · rw [if_pos hi] at h
    simp only [show ¬ ((2 : Int) = 0) by decide, show ¬ ((2 : Int) = 1) by decide, if_false, if_true, Bool.and_eq_true] at h
    have h2 := h.2
    unfold kindB at h2
    apply Decidable.byContradiction
    intro hn
    rw [if_neg (by omega), if_neg (by omega), if_neg (by omega), if_neg (by omega), if_neg (by omega), if_neg (by omega)] at h2
    cases h2
  · rw [if_neg hi] at h; cases h
section
variable (k : Nat) (t f : Int) (resp : Bool) (form kind ns nr : Int) (poll : Bool) (info : List Int)
theorem type_tell : tell_Type.f (k + 4) t f resp form kind ns nr poll info = some (typeI (mayB t f resp form kind ns nr info.length) form kind) := by
  unfold tell_Type.f typeI
  rw [may_pdu, Option.bind_some]
  by_cases hm : mayB t f resp form kind ns nr info.length = true
  · rw [if_pos hm, if_pos hm]
    by_cases hf : form = 2
    · rw [if_pos hf]
      obtain ⟨k0, k9⟩ := may_kind hm hf
      unfold tell_types.f
      rw [Option.bind_some, if_pos k0, if_pos (show kind < (([1, 1, 1, 2, 2, 2, 2, 2, 3, 3] : List Int).length : Int) by simp; omega)]
      subst hf
      rcases ten kind with h | h | h | h | h | h | h | h | h | h | ⟨a0, a1, a2, a3, a4, a5, a6, a7, a8, a9⟩
      all_goals first | (subst h; rfl) | omega
    · rw [if_neg hf]
      simp [oneB, threeB, hf]
  · rw [if_neg hm, if_neg hm]
end
end Go.Proofs.Ytnmcoebjkfpmjaa.Lib
/-! PureTellTypes -/
namespace Go.Proofs.Ytnmcoebjkfpmjaa.Pure
open Go.RowKit Go.Proofs.Ytnmcoebjkfpmjaa.P Go.Proofs.Ytnmcoebjkfpmjaa.Lib Go.Proofs.YtnmcoebjkfpmjaaW.PrintWords Go.Proofs.YtnmcoebjkfpmjaaW.PrintLast
theorem types_j1 (k : Nat) (t f : Int) (resp : Bool) (form kind ns nr : Int) (poll : Bool) (info : List Int) :
    antiphonlaw8_TellTypes.j1 (k + 20) (typeI (mayB t f resp form kind ns nr info.length) form kind) (oneB form kind) (threeB form kind) t f resp form kind ns nr poll info = some true := by
  rw [show k + 20 = (k + 14 + 5) + 1 by omega, antiphonlaw8_TellTypes.j1, may_ref, Option.bind_some]
  unfold tell_Asks.f typeI
  by_cases hm : mayB t f resp form kind ns nr info.length = true
  · rw [if_pos hm, if_pos hm]
    have h12 : ¬ (oneB form kind = true ∧ threeB form kind = true) := by unfold oneB threeB; simp; omega
    cases h1 : oneB form kind <;> cases h3 : threeB form kind <;> cases poll <;> cases resp <;> simp_all
  · rw [if_neg hm, if_neg hm]; rfl
theorem types_j0 (k : Nat) (x : Int) (one : Bool) (t f : Int) (resp : Bool) (form kind ns nr : Int) (poll : Bool) (info : List Int) :
    antiphonlaw8_TellTypes.j0 (k + 1) x one t f resp form kind ns nr poll info = antiphonlaw8_TellTypes.j1 k x one (threeB form kind) t f resp form kind ns nr poll info := by
  rw [antiphonlaw8_TellTypes.j0]
  unfold threeB
  by_cases hf : form = 2
  · rw [if_pos hf]
    by_cases h8 : kind = 8
    · rw [if_pos h8, decide_eq_true ⟨hf, .inl h8⟩]
    · rw [if_neg h8]
      by_cases h9 : kind = 9
      · rw [decide_eq_true ⟨hf, .inr h9⟩, h9]; rfl
      · rw [decide_eq_false (by rintro ⟨_, h | h⟩ <;> contradiction), beq_eq_false_iff_ne.mpr h9]
  · rw [if_neg hf, decide_eq_false (fun h => hf h.1)]
theorem TellTypes : antiphonlaw8_TellTypes.Pure := by
  intro t f resp form kind ns nr poll info _ _ _ _ _ _ _ _
  refine ⟨300, ?_⟩
  have hA : antiphonlaw8_awake.f 300 = some true := by decide +kernel
  unfold antiphonlaw8_TellTypes.f
  rw [hA, Option.bind_some, if_pos rfl]
  by_cases hl : (info.length : Int) > 2000
  · rw [if_pos hl]
  rw [if_neg hl, show (300 : Nat) = 296 + 4 from rfl, type_tell, Option.bind_some]
  have key : ∀ one, one = oneB form kind → antiphonlaw8_TellTypes.j0 (296 + 4) (typeI (mayB t f resp form kind ns nr info.length) form kind) one t f resp form kind ns nr poll info = some true := by
    intro one e
    subst e
    rw [show 296 + 4 = (279 + 20) + 1 from rfl, types_j0, types_j1]
  unfold oneB at key
  by_cases hf : form = 2
  · rw [if_pos hf]
    by_cases h0 : kind = 0
    · rw [if_pos h0]; exact key _ (decide_eq_true ⟨hf, .inl h0⟩).symm
    rw [if_neg h0]
    by_cases h1 : kind = 1
    · rw [if_pos h1]; exact key _ (decide_eq_true ⟨hf, .inr (.inl h1)⟩).symm
    rw [if_neg h1]
    refine key _ ?_
    by_cases h2 : kind = 2
    · rw [decide_eq_true ⟨hf, .inr (.inr h2)⟩, h2]; rfl
    · rw [decide_eq_false (by rintro ⟨_, h | h | h⟩ <;> contradiction), beq_eq_false_iff_ne.mpr h2]
  · rw [if_neg hf]; exact key _ (decide_eq_false (fun h => hf h.1)).symm
end Go.Proofs.Ytnmcoebjkfpmjaa.Pure
/-! LawTellTypes -/
namespace Go.Proofs.Ytnmcoebjkfpmjaa.tellTypes
open Go.ChangeShapes Go.WideShapes Go.ChangeAt Go.RowKit
open Go.ChangeMaps (open_string shut_string)
set_option linter.unusedVariables false
theorem own : ownKnob Try.prog.godebug = none := by kernel_rfl
theorem laidOut : laidOutB Try.prog = true := by kernel_rfl
set_option maxRecDepth 100000 in
theorem lifted (os : Os) (started : os.Started) (H : Type) (enc : TypeId × Value → H) :
    ReturnsInHanded {} Try.checked os 18 .any (Rows.tellTypesSpec.pre6 enc Try.prog Try.f18 Rows.tellTypesRow.domain false) (Rows.tellTypesSpec.post enc Try.prog Try.f18 false true false false) := by
  refine returnsInHanded_of_change_sized (C := Try.checked) own started (by kernel_rfl) Try.func18
    (ChangeSpec.witness6 (enc := enc) (C := Try.checked) false ⟨#[], #[.agg #[.int .i64 0, .int .i64 0, .bool false, .int .i64 0, .int .i64 0, .int .i64 0, .int .i64 0, .bool false, .slice none 0 0]], []⟩ 8 (by kernel_rfl) (by kernel_rfl) (by kernel_rfl) (by kernel_rfl)) ?_
  intro W base args ds gs before hval0 hW hcnd hsz0 _
  have hsz : (DataW.weightsEach Try.prog (Try.f18.params.toList ++ Rows.tellTypesSpec.plain.varTypes Try.prog) (ds ++ gs)).all (· ≤ reachBytes) = true := hsz0
  have hval : ∀ (j : Nat) t v, Try.f18.params[j]? = some t → args[j]? = some v → Value.okWide Try.prog W .any base t v := hval0
  have hW' := hW
  obtain ⟨p, q, hA0, hV, rfl, hfz, hnd⟩ := hW
  have hA : DataW.TrodAll enc Try.prog W 0 (fun _ => true) true Try.f18.params.toList args.toList ds p := hA0
  rw [Try.params18] at hA hval hsz
  obtain ⟨v0, vs0, d0, ds0, p0, q0, hargs, rfl, rfl, h0, r0⟩ := trodAll_cons hA
  obtain ⟨rfl, rfl, rfl⟩ := trodAll_nil r0
  obtain rfl : args = #[v0] := by cases args; simp_all
  obtain ⟨rfl, rfl⟩ := trodVars_none hV
  obtain ⟨a0_0, a0_1, a0_2, a0_3, a0_4, a0_5, a0_6, a0_7, a0_8, n0_8, c0_8, z0_8, rfl, w0_0, w0_1, w0_3, w0_4, w0_5, w0_6, w0_8, _⟩ := Open.open_s25 (hval 0 25 v0 rfl rfl) h0
  have k0 := h0
  have lt0 : ∀ x ∈ p0, x.block < W.heap.size := by obtain ⟨m, hm⟩ := k0; exact DataW.trod_lt m _ _ _ hm
  clear hA0 hval0 hsz0 hsz
  refine (P.antiphonlaw8_TellTypes.walk Pure.TellTypes a0_0 a0_1 a0_2 a0_3 a0_4 a0_5 a0_6 a0_7 a0_8 n0_8 c0_8 z0_8 W w0_0 w0_1 w0_3 w0_4 w0_5 w0_6 w0_8).mono fun e W' ⟨he, bel⟩ => ?_
  subst he
  exact ⟨_, rfl, _, _, _, [], _, [], hW', trodAll_mk1 (shut_bool Try.underlying4 _), (trodAll_cons_mk (Below.trod laidOut (by kernel_rfl) (of_decide_eq_true (by kernel_rfl)) k0 bel lt0) trodAll_mk0), rfl, bel.frame _, fun h => by cases h⟩
theorem fact0 : (Rows.tellTypesRow.wf (OpenSpec.ofChange Rows.tellTypesSpec)) = true := by kernel_rfl
theorem fact1 : (laidOutB Try.prog) = true := Kit.laidOut
theorem fact2 : (mapsRowed Try.prog) = true := Kit.mapsRowed
theorem fact3 : (Try.f18.params.all (Try.prog.readableRec ·)) = true := by kernel_rfl
theorem fact4 : (namedTie Try.prog Rows.tellTypesRow.named Rows.tellTypesSpec.vars) = true := by kernel_rfl
theorem fact5 : ((Rows.tellTypesRow.stops == [])) = true := by kernel_rfl
theorem fact6 : ((Try.prog.stops == [])) = true := Kit.stops
theorem fact7 : ((Rows.tellTypesRow.knobs == [])) = true := by kernel_rfl
theorem fact8 : ((Try.prog.stopKnobs == [])) = true := Kit.stopKnobs
theorem fact9 : ((Rows.tellTypesRow.inPlace == Try.prog.inPlace 18)) = true := by kernel_rfl
theorem fact10 : ((Rows.tellTypesRow.unfollowed == Try.prog.unfollowed 18)) = true := by kernel_rfl
theorem fact11 : ((Rows.tellTypesRow.recurses == Try.prog.recurses 18)) = true := by kernel_rfl
theorem fact12 : ((Rows.tellTypesRow.named == Try.prog.varsNamed 18)) = true := by kernel_rfl
theorem fact13 : ((Rows.tellTypesRow.maps == (Try.f18.params.toList ++ Rows.tellTypesSpec.plain.varTypes Try.prog).any (Try.prog.mapsRec ·))) = true := by kernel_rfl
theorem fact14 : ((Rows.tellTypesRow.ifaces == (Try.f18.params.toList ++ Rows.tellTypesSpec.plain.varTypes Try.prog).any (Try.prog.ifacesRec ·))) = true := by kernel_rfl
theorem fact15 : ((Rows.tellTypesRow.mapsOut == Try.prog.mapsAmong Try.f18.resultTypes.toList)) = true := by kernel_rfl
theorem fact16 : ((Rows.tellTypesRow.loops == (Try.f18.params.toList ++ Rows.tellTypesSpec.plain.varTypes Try.prog).any (Try.prog.loopsFrom ·))) = true := by kernel_rfl
theorem fact17 : ((Rows.tellTypesRow.wideKeys == (Try.f18.params.toList ++ Rows.tellTypesSpec.plain.varTypes Try.prog ++ Try.f18.resultTypes.toList).any (Try.prog.wideKeysFrom ·))) = true := by kernel_rfl
theorem fact18 : (Rows.tellTypesSpec.vars.all (Try.prog.varReadable ·)) = true := by kernel_rfl
theorem fact19 : (Try.f18.resultTypes.all (fun t => Try.prog.readableRec t && decide (t < Try.prog.types.size))) = true := by kernel_rfl
theorem fact20 : ((Rows.tellTypesRow.ifacesOut == Try.f18.resultTypes.toList.any (Try.prog.ifacesRec ·))) = true := by kernel_rfl
theorem fact21 : ((Rows.tellTypesRow.loopsOut == Try.f18.resultTypes.toList.any (Try.prog.loopsFrom ·))) = true := by kernel_rfl
theorem fact22 : ((Rows.tellTypesRow.plainKeys == Try.prog.plainKeys)) = true := (by rw [Kit.plainKeys]; rfl)
theorem fact23 : (Rows.tellTypesRow.shortTexts.isNone) = true := by kernel_rfl
theorem fact24 : (Try.prog.stopsHeard) = true := Kit.stopsHeard
theorem fact25 : (Try.prog.mayEnter) = true := Kit.mayEnter
theorem fact26 : ((Rows.tellTypesRow.lifted == Try.prog.liftsFinal)) = true := (by rw [Kit.liftsFinal]; rfl)
theorem fact27 : ((Try.prog.make == some Rows.tellTypesRow.make)) = true := (by rw [Kit.make]; rfl)
theorem fact28 : ((Rows.tellTypesRow.kinds == (if Rows.tellTypesRow.domain.isEmpty then [] else Try.f18.params.toList.map fun t => match Try.prog.underlying t with | some (.int k) => some k | _ => none))) = true := by kernel_rfl
theorem fact29 : ((Rows.tellTypesRow.pinned == Rows.tellTypesRow.pinnedBy)) = true := by kernel_rfl
theorem fact30 : ((Rows.tellTypesRow.veiled == (Try.f18.params.toList ++ Rows.tellTypesSpec.plain.varTypes Try.prog ++ Try.f18.resultTypes.toList).any (Try.prog.veiledRec ·))) = true := by kernel_rfl
theorem fact31 : (Rows.tellTypesRow.veiledFits Try.prog Try.f18.params.toList (Try.f18.params.toList ++ Rows.tellTypesSpec.plain.varTypes Try.prog ++ Try.f18.resultTypes.toList)) = true := by kernel_rfl
set_option maxRecDepth 100000 in
theorem closed : joinedFacts Try.prog 18 Try.f18 Rows.tellTypesSpec Rows.tellTypesRow = true := by
  unfold joinedFacts
  exact (Kit.and2 (Kit.and2 (Kit.and2 (Kit.and2 (Kit.and2 (Kit.and2 (Kit.and2 (Kit.and2 (Kit.and2 (Kit.and2 (Kit.and2 (Kit.and2 (Kit.and2 (Kit.and2 (Kit.and2 (Kit.and2 (Kit.and2 (Kit.and2 (Kit.and2 (Kit.and2 (Kit.and2 (Kit.and2 (Kit.and2 (Kit.and2 (Kit.and2 (Kit.and2 (Kit.and2 (Kit.and2 (Kit.and2 (Kit.and2 (Kit.and2 fact0 fact1) fact2) fact3) fact4) fact5) fact6) fact7) fact8) fact9) fact10) fact11) fact12) fact13) fact14) fact15) fact16) fact17) fact18) fact19) fact20) fact21) fact22) fact23) fact24) fact25) fact26) fact27) fact28) fact29) fact30) fact31)
theorem named : Try.prog.funcNamed Rows.tellTypesRow.func = some 18 := by kernel_rfl
theorem inst : Try.f18.isInstance Try.prog Rows.tellTypesRow.origin Rows.tellTypesRow.targs := of_decide_eq_true (by kernel_rfl)
theorem wrap_ : Try.f18.isWrapper Try.prog Rows.tellTypesRow.wrapper Rows.tellTypesRow.mainSum := by unfold Func.isWrapper; first | (rw [if_pos (by decide +kernel)]; kernel_rfl) | (rw [if_neg (by decide +kernel)]; exact ⟨rfl, rfl⟩)
theorem over : Rows.tellTypesRow.holds Try.pinned (OpenSpec.ofChange Rows.tellTypesSpec) :=
  OpenClaim.holds_of_wide 18 Try.f18 rfl rfl rfl rfl rfl rfl rfl ⟨rfl, rfl, rfl, rfl, rfl⟩ rfl rfl rfl rfl rfl named Try.func18 closed
    inst wrap_
    (fun os started H enc _ => lifted os started H enc)
theorem proved : Rows.TellTypesSaid := over
#print axioms proved
end Go.Proofs.Ytnmcoebjkfpmjaa.tellTypes
namespace Go.Proofs.Ytnmcoebjkfpmjaa
theorem tellTypes_holds : Rows.TellTypesSaid := tellTypes.proved
end Go.Proofs.Ytnmcoebjkfpmjaa
