-- Laid by a program of this session (wip/print2).
import Derived.Test.YtnmcoebjkfpmjaaRows
import Derived.Test.YtnmcoebjkfpmjaaKit
import Derived.Test.YtnmcoebjkfpmjaaPx23
import Derived.Test.YtnmcoebjkfpmjaaWalkTwinEnds
import Derived.Test.YtnmcoebjkfpmjaaPureTwinEnds
import Derived.WalkKit
import Derived.ProofKit
import Derived.OpenShut
import Derived.ShutString
import Derived.ChangeOld
import Derived.Below
import Derived.SizedLaws
import Derived.Test.YtnmcoebjkfpmjaaWSized
namespace Go.Proofs.Ytnmcoebjkfpmjaa.twinEnds
open Go.ChangeShapes Go.WideShapes Go.ChangeAt Go.RowKit
open Go.ChangeMaps (open_string shut_string)
set_option linter.unusedVariables false
theorem own : ownKnob Try.prog.godebug = none := by kernel_rfl
theorem laidOut : laidOutB Try.prog = true := by kernel_rfl
set_option maxRecDepth 100000 in
theorem lifted (os : Os) (started : os.Started) (H : Type) (enc : TypeId × Value → H) :
    ReturnsInHanded {} Try.checked os 22 .any (Rows.twinEndsSpec.pre6 enc Try.prog Try.f22 Rows.twinEndsRow.domain false) (Rows.twinEndsSpec.post enc Try.prog Try.f22 false true false false) := by
  refine returnsInHanded_of_change_sized (C := Try.checked) own started (by kernel_rfl) Try.func22
    (ChangeSpec.witness6 (enc := enc) (C := Try.checked) false ⟨#[], #[.int .u8 0, .int .u8 0, .int .u8 0], []⟩ 8 (by kernel_rfl) (by kernel_rfl) (by kernel_rfl) (by kernel_rfl)) ?_
  intro W base args ds gs before hval0 hW hcnd hsz0 _
  have hsz : (DataW.weightsEach Try.prog (Try.f22.params.toList ++ Rows.twinEndsSpec.plain.varTypes Try.prog) (ds ++ gs)).all (· ≤ reachBytes) = true := hsz0
  have hval : ∀ (j : Nat) t v, Try.f22.params[j]? = some t → args[j]? = some v → Value.okWide Try.prog W .any base t v := hval0
  have hW' := hW
  obtain ⟨p, q, hA0, hV, rfl, hfz, hnd⟩ := hW
  have hA : DataW.TrodAll enc Try.prog W 0 (fun _ => true) true Try.f22.params.toList args.toList ds p := hA0
  rw [Try.params22] at hA hval hsz
  obtain ⟨v0, vs0, d0, ds0, p0, q0, hargs, rfl, rfl, h0, r0⟩ := trodAll_cons hA
  obtain ⟨v1, vs1, d1, ds1, p1, q1, rfl, rfl, rfl, h1, r1⟩ := trodAll_cons r0
  obtain ⟨v2, vs2, d2, ds2, p2, q2, rfl, rfl, rfl, h2, r2⟩ := trodAll_cons r1
  obtain ⟨rfl, rfl, rfl⟩ := trodAll_nil r2
  obtain rfl : args = #[v0, v1, v2] := by cases args; simp_all
  obtain ⟨rfl, rfl⟩ := trodVars_none hV
  obtain ⟨a0, rfl, rfl, rfl, w0⟩ := open_int Try.underlying5 (hval 0 5 v0 rfl rfl) h0
  obtain ⟨a1, rfl, rfl, rfl, w1⟩ := open_int Try.underlying5 (hval 1 5 v1 rfl rfl) h1
  obtain ⟨a2, rfl, rfl, rfl, w2⟩ := open_int Try.underlying5 (hval 2 5 v2 rfl rfl) h2
  clear hA0 hval0 hsz0 hsz
  refine (P.antiphonlaw14_TwinEnds.walk Pure.TwinEnds a0 a1 a2 W w0 w1 w2).mono fun e W' ⟨he, bel⟩ => ?_
  subst he
  exact ⟨_, rfl, _, _, _, [], _, [], hW', trodAll_mk1 (shut_bool Try.underlying4 _), (trodAll_cons_mk (shut_int Try.underlying5 w0) (trodAll_cons_mk (shut_int Try.underlying5 w1) (trodAll_cons_mk (shut_int Try.underlying5 w2) trodAll_mk0))), rfl, bel.frame _, fun h => by cases h⟩
theorem fact0 : (Rows.twinEndsRow.wf (OpenSpec.ofChange Rows.twinEndsSpec)) = true := by kernel_rfl
theorem fact1 : (laidOutB Try.prog) = true := Kit.laidOut
theorem fact2 : (mapsRowed Try.prog) = true := Kit.mapsRowed
theorem fact3 : (Try.f22.params.all (Try.prog.readableRec ·)) = true := by kernel_rfl
theorem fact4 : (namedTie Try.prog Rows.twinEndsRow.named Rows.twinEndsSpec.vars) = true := by kernel_rfl
theorem fact5 : ((Rows.twinEndsRow.stops == [])) = true := by kernel_rfl
theorem fact6 : ((Try.prog.stops == [])) = true := Kit.stops
theorem fact7 : ((Rows.twinEndsRow.knobs == [])) = true := by kernel_rfl
theorem fact8 : ((Try.prog.stopKnobs == [])) = true := Kit.stopKnobs
theorem fact9 : ((Rows.twinEndsRow.inPlace == Try.prog.inPlace 22)) = true := by kernel_rfl
theorem fact10 : ((Rows.twinEndsRow.unfollowed == Try.prog.unfollowed 22)) = true := by kernel_rfl
theorem fact11 : ((Rows.twinEndsRow.recurses == Try.prog.recurses 22)) = true := by kernel_rfl
theorem fact12 : ((Rows.twinEndsRow.named == Try.prog.varsNamed 22)) = true := by kernel_rfl
theorem fact13 : ((Rows.twinEndsRow.maps == (Try.f22.params.toList ++ Rows.twinEndsSpec.plain.varTypes Try.prog).any (Try.prog.mapsRec ·))) = true := by kernel_rfl
theorem fact14 : ((Rows.twinEndsRow.ifaces == (Try.f22.params.toList ++ Rows.twinEndsSpec.plain.varTypes Try.prog).any (Try.prog.ifacesRec ·))) = true := by kernel_rfl
theorem fact15 : ((Rows.twinEndsRow.mapsOut == Try.prog.mapsAmong Try.f22.resultTypes.toList)) = true := by kernel_rfl
theorem fact16 : ((Rows.twinEndsRow.loops == (Try.f22.params.toList ++ Rows.twinEndsSpec.plain.varTypes Try.prog).any (Try.prog.loopsFrom ·))) = true := by kernel_rfl
theorem fact17 : ((Rows.twinEndsRow.wideKeys == (Try.f22.params.toList ++ Rows.twinEndsSpec.plain.varTypes Try.prog ++ Try.f22.resultTypes.toList).any (Try.prog.wideKeysFrom ·))) = true := by kernel_rfl
theorem fact18 : (Rows.twinEndsSpec.vars.all (Try.prog.varReadable ·)) = true := by kernel_rfl
theorem fact19 : (Try.f22.resultTypes.all (fun t => Try.prog.readableRec t && decide (t < Try.prog.types.size))) = true := by kernel_rfl
theorem fact20 : ((Rows.twinEndsRow.ifacesOut == Try.f22.resultTypes.toList.any (Try.prog.ifacesRec ·))) = true := by kernel_rfl
theorem fact21 : ((Rows.twinEndsRow.loopsOut == Try.f22.resultTypes.toList.any (Try.prog.loopsFrom ·))) = true := by kernel_rfl
theorem fact22 : ((Rows.twinEndsRow.plainKeys == Try.prog.plainKeys)) = true := (by rw [Kit.plainKeys]; rfl)
theorem fact23 : (Rows.twinEndsRow.shortTexts.isNone) = true := by kernel_rfl
theorem fact24 : (Try.prog.stopsHeard) = true := Kit.stopsHeard
theorem fact25 : (Try.prog.mayEnter) = true := Kit.mayEnter
theorem fact26 : ((Rows.twinEndsRow.lifted == Try.prog.liftsFinal)) = true := (by rw [Kit.liftsFinal]; rfl)
theorem fact27 : ((Try.prog.make == some Rows.twinEndsRow.make)) = true := (by rw [Kit.make]; rfl)
theorem fact28 : ((Rows.twinEndsRow.kinds == (if Rows.twinEndsRow.domain.isEmpty then [] else Try.f22.params.toList.map fun t => match Try.prog.underlying t with | some (.int k) => some k | _ => none))) = true := by kernel_rfl
theorem fact29 : ((Rows.twinEndsRow.pinned == Rows.twinEndsRow.pinnedBy)) = true := by kernel_rfl
theorem fact30 : ((Rows.twinEndsRow.veiled == (Try.f22.params.toList ++ Rows.twinEndsSpec.plain.varTypes Try.prog ++ Try.f22.resultTypes.toList).any (Try.prog.veiledRec ·))) = true := by kernel_rfl
theorem fact31 : (Rows.twinEndsRow.veiledFits Try.prog Try.f22.params.toList (Try.f22.params.toList ++ Rows.twinEndsSpec.plain.varTypes Try.prog ++ Try.f22.resultTypes.toList)) = true := by kernel_rfl
set_option maxRecDepth 100000 in
theorem closed : joinedFacts Try.prog 22 Try.f22 Rows.twinEndsSpec Rows.twinEndsRow = true := by
  unfold joinedFacts
  exact (Kit.and2 (Kit.and2 (Kit.and2 (Kit.and2 (Kit.and2 (Kit.and2 (Kit.and2 (Kit.and2 (Kit.and2 (Kit.and2 (Kit.and2 (Kit.and2 (Kit.and2 (Kit.and2 (Kit.and2 (Kit.and2 (Kit.and2 (Kit.and2 (Kit.and2 (Kit.and2 (Kit.and2 (Kit.and2 (Kit.and2 (Kit.and2 (Kit.and2 (Kit.and2 (Kit.and2 (Kit.and2 (Kit.and2 (Kit.and2 (Kit.and2 fact0 fact1) fact2) fact3) fact4) fact5) fact6) fact7) fact8) fact9) fact10) fact11) fact12) fact13) fact14) fact15) fact16) fact17) fact18) fact19) fact20) fact21) fact22) fact23) fact24) fact25) fact26) fact27) fact28) fact29) fact30) fact31)
theorem named : Try.prog.funcNamed Rows.twinEndsRow.func = some 22 := by kernel_rfl
theorem inst : Try.f22.isInstance Try.prog Rows.twinEndsRow.origin Rows.twinEndsRow.targs := of_decide_eq_true (by kernel_rfl)
theorem wrap_ : Try.f22.isWrapper Try.prog Rows.twinEndsRow.wrapper Rows.twinEndsRow.mainSum := by unfold Func.isWrapper; first | (rw [if_pos (by decide +kernel)]; kernel_rfl) | (rw [if_neg (by decide +kernel)]; exact ⟨rfl, rfl⟩)
theorem over : Rows.twinEndsRow.holds Try.pinned (OpenSpec.ofChange Rows.twinEndsSpec) :=
  OpenClaim.holds_of_wide 22 Try.f22 rfl rfl rfl rfl rfl rfl rfl ⟨rfl, rfl, rfl, rfl, rfl⟩ rfl rfl rfl rfl rfl named Try.func22 closed
    inst wrap_
    (fun os started H enc _ => lifted os started H enc)
theorem proved : Rows.TwinEndsSaid := over
#print axioms proved
end Go.Proofs.Ytnmcoebjkfpmjaa.twinEnds
namespace Go.Proofs.Ytnmcoebjkfpmjaa
/-- The row, under a short name, for the claim. -/
theorem twinEnds_holds : Rows.TwinEndsSaid := twinEnds.proved
end Go.Proofs.Ytnmcoebjkfpmjaa
