-- Laid by a program of this session (wip/print2).
import Derived.Test.YtngahjgbeekldaaRows
import Derived.Test.YtngahjgbeekldaaKit
import Derived.Test.YtngahjgbeekldaaPx7
import Derived.Test.YtngahjgbeekldaaWalkOctetKnown
import Derived.Test.YtngahjgbeekldaaPureOctetKnown
import Derived.WalkKit
import Derived.ProofKit
import Derived.OpenShut
import Derived.ShutString
import Derived.ChangeOld
import Derived.Below
import Derived.SizedLaws
import Derived.Test.YtngahjgbeekldaaWSized
namespace Go.Proofs.Ytngahjgbeekldaa.octetKnown
open Go.ChangeShapes Go.WideShapes Go.ChangeAt Go.RowKit
open Go.ChangeMaps (open_string shut_string)
set_option linter.unusedVariables false
theorem own : ownKnob Try.prog.godebug = none := by kernel_rfl
theorem laidOut : laidOutB Try.prog = true := by kernel_rfl
set_option maxRecDepth 100000 in
theorem lifted (os : Os) (started : os.Started) (H : Type) (enc : TypeId × Value → H) :
    ReturnsInHanded {} Try.checked os 6 .any (Rows.octetKnownSpec.pre6 enc Try.prog Try.f6 Rows.octetKnownRow.domain false) (Rows.octetKnownSpec.post enc Try.prog Try.f6 false true false false) := by
  refine returnsInHanded_of_change_sized (C := Try.checked) own started (by kernel_rfl) Try.func6
    (ChangeSpec.witness6 (enc := enc) (C := Try.checked) false ⟨#[], #[], []⟩ 8 (by kernel_rfl) (by kernel_rfl) (by kernel_rfl) (by kernel_rfl)) ?_
  intro W base args ds gs before hval0 hW hcnd hsz0 _
  have hsz : (DataW.weightsEach Try.prog (Try.f6.params.toList ++ Rows.octetKnownSpec.plain.varTypes Try.prog) (ds ++ gs)).all (· ≤ reachBytes) = true := hsz0
  have hval : ∀ (j : Nat) t v, Try.f6.params[j]? = some t → args[j]? = some v → Value.okWide Try.prog W .any base t v := hval0
  have hW' := hW
  obtain ⟨p, q, hA0, hV, rfl, hfz, hnd⟩ := hW
  have hA : DataW.TrodAll enc Try.prog W 0 (fun _ => true) true Try.f6.params.toList args.toList ds p := hA0
  rw [Try.params6] at hA hval hsz
  obtain ⟨rfl, rfl, rfl⟩ := trodAll_none hA
  obtain ⟨rfl, rfl⟩ := trodVars_none hV
  clear hA0 hval0 hsz0 hsz
  refine (P.antiphonlaw1_OctetKnown.walk Pure.OctetKnown  W ).mono fun e W' ⟨he, bel⟩ => ?_
  subst he
  exact ⟨_, rfl, _, _, _, [], _, [], hW', trodAll_mk1 (shut_bool Try.underlying4 _), trodAll_mk0, rfl, bel.frame _, fun h => by cases h⟩
theorem fact0 : (Rows.octetKnownRow.wf (OpenSpec.ofChange Rows.octetKnownSpec)) = true := by kernel_rfl
theorem fact1 : (laidOutB Try.prog) = true := Kit.laidOut
theorem fact2 : (mapsRowed Try.prog) = true := Kit.mapsRowed
theorem fact3 : (Try.f6.params.all (Try.prog.readableRec ·)) = true := by kernel_rfl
theorem fact4 : (namedTie Try.prog Rows.octetKnownRow.named Rows.octetKnownSpec.vars) = true := by kernel_rfl
theorem fact5 : ((Rows.octetKnownRow.stops == [])) = true := by kernel_rfl
theorem fact6 : ((Try.prog.stops == [])) = true := Kit.stops
theorem fact7 : ((Rows.octetKnownRow.knobs == [])) = true := by kernel_rfl
theorem fact8 : ((Try.prog.stopKnobs == [])) = true := Kit.stopKnobs
theorem fact9 : ((Rows.octetKnownRow.inPlace == Try.prog.inPlace 6)) = true := by kernel_rfl
theorem fact10 : ((Rows.octetKnownRow.unfollowed == Try.prog.unfollowed 6)) = true := by kernel_rfl
theorem fact11 : ((Rows.octetKnownRow.recurses == Try.prog.recurses 6)) = true := by kernel_rfl
theorem fact12 : ((Rows.octetKnownRow.named == Try.prog.varsNamed 6)) = true := by kernel_rfl
theorem fact13 : ((Rows.octetKnownRow.maps == (Try.f6.params.toList ++ Rows.octetKnownSpec.plain.varTypes Try.prog).any (Try.prog.mapsRec ·))) = true := by kernel_rfl
theorem fact14 : ((Rows.octetKnownRow.ifaces == (Try.f6.params.toList ++ Rows.octetKnownSpec.plain.varTypes Try.prog).any (Try.prog.ifacesRec ·))) = true := by kernel_rfl
theorem fact15 : ((Rows.octetKnownRow.mapsOut == Try.prog.mapsAmong Try.f6.resultTypes.toList)) = true := by kernel_rfl
theorem fact16 : ((Rows.octetKnownRow.loops == (Try.f6.params.toList ++ Rows.octetKnownSpec.plain.varTypes Try.prog).any (Try.prog.loopsFrom ·))) = true := by kernel_rfl
theorem fact17 : ((Rows.octetKnownRow.wideKeys == (Try.f6.params.toList ++ Rows.octetKnownSpec.plain.varTypes Try.prog ++ Try.f6.resultTypes.toList).any (Try.prog.wideKeysFrom ·))) = true := by kernel_rfl
theorem fact18 : (Rows.octetKnownSpec.vars.all (Try.prog.varReadable ·)) = true := by kernel_rfl
theorem fact19 : (Try.f6.resultTypes.all (fun t => Try.prog.readableRec t && decide (t < Try.prog.types.size))) = true := by kernel_rfl
theorem fact20 : ((Rows.octetKnownRow.ifacesOut == Try.f6.resultTypes.toList.any (Try.prog.ifacesRec ·))) = true := by kernel_rfl
theorem fact21 : ((Rows.octetKnownRow.loopsOut == Try.f6.resultTypes.toList.any (Try.prog.loopsFrom ·))) = true := by kernel_rfl
theorem fact22 : ((Rows.octetKnownRow.plainKeys == Try.prog.plainKeys)) = true := (by rw [Kit.plainKeys]; rfl)
theorem fact23 : (Rows.octetKnownRow.shortTexts.isNone) = true := by kernel_rfl
theorem fact24 : (Try.prog.stopsHeard) = true := Kit.stopsHeard
theorem fact25 : (Try.prog.mayEnter) = true := Kit.mayEnter
theorem fact26 : ((Rows.octetKnownRow.lifted == Try.prog.liftsFinal)) = true := (by rw [Kit.liftsFinal]; rfl)
theorem fact27 : ((Try.prog.make == some Rows.octetKnownRow.make)) = true := (by rw [Kit.make]; rfl)
theorem fact28 : ((Rows.octetKnownRow.kinds == (if Rows.octetKnownRow.domain.isEmpty then [] else Try.f6.params.toList.map fun t => match Try.prog.underlying t with | some (.int k) => some k | _ => none))) = true := by kernel_rfl
theorem fact29 : ((Rows.octetKnownRow.pinned == Rows.octetKnownRow.pinnedBy)) = true := by kernel_rfl
theorem fact30 : ((Rows.octetKnownRow.veiled == (Try.f6.params.toList ++ Rows.octetKnownSpec.plain.varTypes Try.prog ++ Try.f6.resultTypes.toList).any (Try.prog.veiledRec ·))) = true := by kernel_rfl
theorem fact31 : (Rows.octetKnownRow.veiledFits Try.prog Try.f6.params.toList (Try.f6.params.toList ++ Rows.octetKnownSpec.plain.varTypes Try.prog ++ Try.f6.resultTypes.toList)) = true := by kernel_rfl
set_option maxRecDepth 100000 in
theorem closed : joinedFacts Try.prog 6 Try.f6 Rows.octetKnownSpec Rows.octetKnownRow = true := by
  unfold joinedFacts
  exact (Kit.and2 (Kit.and2 (Kit.and2 (Kit.and2 (Kit.and2 (Kit.and2 (Kit.and2 (Kit.and2 (Kit.and2 (Kit.and2 (Kit.and2 (Kit.and2 (Kit.and2 (Kit.and2 (Kit.and2 (Kit.and2 (Kit.and2 (Kit.and2 (Kit.and2 (Kit.and2 (Kit.and2 (Kit.and2 (Kit.and2 (Kit.and2 (Kit.and2 (Kit.and2 (Kit.and2 (Kit.and2 (Kit.and2 (Kit.and2 (Kit.and2 fact0 fact1) fact2) fact3) fact4) fact5) fact6) fact7) fact8) fact9) fact10) fact11) fact12) fact13) fact14) fact15) fact16) fact17) fact18) fact19) fact20) fact21) fact22) fact23) fact24) fact25) fact26) fact27) fact28) fact29) fact30) fact31)
theorem named : Try.prog.funcNamed Rows.octetKnownRow.func = some 6 := by kernel_rfl
theorem inst : Try.f6.isInstance Try.prog Rows.octetKnownRow.origin Rows.octetKnownRow.targs := of_decide_eq_true (by kernel_rfl)
theorem wrap_ : Try.f6.isWrapper Try.prog Rows.octetKnownRow.wrapper Rows.octetKnownRow.mainSum := by unfold Func.isWrapper; first | (rw [if_pos (by decide +kernel)]; kernel_rfl) | (rw [if_neg (by decide +kernel)]; exact ⟨rfl, rfl⟩)
theorem over : Rows.octetKnownRow.holds Try.pinned (OpenSpec.ofChange Rows.octetKnownSpec) :=
  OpenClaim.holds_of_wide 6 Try.f6 rfl rfl rfl rfl rfl rfl rfl ⟨rfl, rfl, rfl, rfl, rfl⟩ rfl rfl rfl rfl rfl named Try.func6 closed
    inst wrap_
    (fun os started H enc _ => lifted os started H enc)
theorem proved : Rows.OctetKnownSaid := over
#print axioms proved
end Go.Proofs.Ytngahjgbeekldaa.octetKnown
namespace Go.Proofs.Ytngahjgbeekldaa
/-- The row, under a short name, for the claim. -/
theorem octetKnown_holds : Rows.OctetKnownSaid := octetKnown.proved
end Go.Proofs.Ytngahjgbeekldaa
