-- Laid by a program of this session (wip/print2).
import Derived.Test.YtpalloofjljhkaaRows
import Derived.Test.YtpalloofjljhkaaKit
import Derived.Test.YtpalloofjljhkaaPx9
import Derived.Test.YtpalloofjljhkaaWalkCrcKnown
import Derived.Test.YtpalloofjljhkaaPureCrcKnown
import Derived.WalkKit
import Derived.ProofKit
import Derived.OpenShut
import Derived.ShutString
import Derived.ChangeOld
import Derived.Below
import Derived.SizedLaws
import Derived.Test.YtpalloofjljhkaaWSized
namespace Go.Proofs.Ytpalloofjljhkaa.crcKnown
open Go.ChangeShapes Go.WideShapes Go.ChangeAt Go.RowKit
open Go.ChangeMaps (open_string shut_string)
set_option linter.unusedVariables false
theorem own : ownKnob Try.prog.godebug = none := by kernel_rfl
theorem laidOut : laidOutB Try.prog = true := by kernel_rfl
set_option maxRecDepth 100000 in
theorem lifted (os : Os) (started : os.Started) (H : Type) (enc : TypeId × Value → H) :
    ReturnsInHanded {} Try.checked os 8 .any (Rows.crcKnownSpec.pre6 enc Try.prog Try.f8 Rows.crcKnownRow.domain false) (Rows.crcKnownSpec.post enc Try.prog Try.f8 false true false false) := by
  refine returnsInHanded_of_change_sized (C := Try.checked) own started (by kernel_rfl) Try.func8
    (ChangeSpec.witness6 (enc := enc) (C := Try.checked) false ⟨#[], #[], []⟩ 8 (by kernel_rfl) (by kernel_rfl) (by kernel_rfl) (by kernel_rfl)) ?_
  intro W base args ds gs before hval0 hW hcnd hsz0 _
  have hsz : (DataW.weightsEach Try.prog (Try.f8.params.toList ++ Rows.crcKnownSpec.plain.varTypes Try.prog) (ds ++ gs)).all (· ≤ reachBytes) = true := hsz0
  have hval : ∀ (j : Nat) t v, Try.f8.params[j]? = some t → args[j]? = some v → Value.okWide Try.prog W .any base t v := hval0
  have hW' := hW
  obtain ⟨p, q, hA0, hV, rfl, hfz, hnd⟩ := hW
  have hA : DataW.TrodAll enc Try.prog W 0 (fun _ => true) true Try.f8.params.toList args.toList ds p := hA0
  rw [Try.params8] at hA hval hsz
  obtain ⟨rfl, rfl, rfl⟩ := trodAll_none hA
  obtain ⟨rfl, rfl⟩ := trodVars_none hV
  clear hA0 hval0 hsz0 hsz
  refine (P.antiphonlaw2_CrcKnown.walk Pure.CrcKnown  W ).mono fun e W' ⟨he, bel⟩ => ?_
  subst he
  exact ⟨_, rfl, _, _, _, [], _, [], hW', trodAll_mk1 (shut_bool Try.underlying4 _), trodAll_mk0, rfl, bel.frame _, fun h => by cases h⟩
theorem fact0 : (Rows.crcKnownRow.wf (OpenSpec.ofChange Rows.crcKnownSpec)) = true := by kernel_rfl
theorem fact1 : (laidOutB Try.prog) = true := Kit.laidOut
theorem fact2 : (mapsRowed Try.prog) = true := Kit.mapsRowed
theorem fact3 : (Try.f8.params.all (Try.prog.readableRec ·)) = true := by kernel_rfl
theorem fact4 : (namedTie Try.prog Rows.crcKnownRow.named Rows.crcKnownSpec.vars) = true := by kernel_rfl
theorem fact5 : ((Rows.crcKnownRow.stops == [])) = true := by kernel_rfl
theorem fact6 : ((Try.prog.stops == [])) = true := Kit.stops
theorem fact7 : ((Rows.crcKnownRow.knobs == [])) = true := by kernel_rfl
theorem fact8 : ((Try.prog.stopKnobs == [])) = true := Kit.stopKnobs
theorem fact9 : ((Rows.crcKnownRow.inPlace == Try.prog.inPlace 8)) = true := by kernel_rfl
theorem fact10 : ((Rows.crcKnownRow.unfollowed == Try.prog.unfollowed 8)) = true := by kernel_rfl
theorem fact11 : ((Rows.crcKnownRow.recurses == Try.prog.recurses 8)) = true := by kernel_rfl
theorem fact12 : ((Rows.crcKnownRow.named == Try.prog.varsNamed 8)) = true := by kernel_rfl
theorem fact13 : ((Rows.crcKnownRow.maps == (Try.f8.params.toList ++ Rows.crcKnownSpec.plain.varTypes Try.prog).any (Try.prog.mapsRec ·))) = true := by kernel_rfl
theorem fact14 : ((Rows.crcKnownRow.ifaces == (Try.f8.params.toList ++ Rows.crcKnownSpec.plain.varTypes Try.prog).any (Try.prog.ifacesRec ·))) = true := by kernel_rfl
theorem fact15 : ((Rows.crcKnownRow.mapsOut == Try.prog.mapsAmong Try.f8.resultTypes.toList)) = true := by kernel_rfl
theorem fact16 : ((Rows.crcKnownRow.loops == (Try.f8.params.toList ++ Rows.crcKnownSpec.plain.varTypes Try.prog).any (Try.prog.loopsFrom ·))) = true := by kernel_rfl
theorem fact17 : ((Rows.crcKnownRow.wideKeys == (Try.f8.params.toList ++ Rows.crcKnownSpec.plain.varTypes Try.prog ++ Try.f8.resultTypes.toList).any (Try.prog.wideKeysFrom ·))) = true := by kernel_rfl
theorem fact18 : (Rows.crcKnownSpec.vars.all (Try.prog.varReadable ·)) = true := by kernel_rfl
theorem fact19 : (Try.f8.resultTypes.all (fun t => Try.prog.readableRec t && decide (t < Try.prog.types.size))) = true := by kernel_rfl
theorem fact20 : ((Rows.crcKnownRow.ifacesOut == Try.f8.resultTypes.toList.any (Try.prog.ifacesRec ·))) = true := by kernel_rfl
theorem fact21 : ((Rows.crcKnownRow.loopsOut == Try.f8.resultTypes.toList.any (Try.prog.loopsFrom ·))) = true := by kernel_rfl
theorem fact22 : ((Rows.crcKnownRow.plainKeys == Try.prog.plainKeys)) = true := (by rw [Kit.plainKeys]; rfl)
theorem fact23 : (Rows.crcKnownRow.shortTexts.isNone) = true := by kernel_rfl
theorem fact24 : (Try.prog.stopsHeard) = true := Kit.stopsHeard
theorem fact25 : (Try.prog.mayEnter) = true := Kit.mayEnter
theorem fact26 : ((Rows.crcKnownRow.lifted == Try.prog.liftsFinal)) = true := (by rw [Kit.liftsFinal]; rfl)
theorem fact27 : ((Try.prog.make == some Rows.crcKnownRow.make)) = true := (by rw [Kit.make]; rfl)
theorem fact28 : ((Rows.crcKnownRow.kinds == (if Rows.crcKnownRow.domain.isEmpty then [] else Try.f8.params.toList.map fun t => match Try.prog.underlying t with | some (.int k) => some k | _ => none))) = true := by kernel_rfl
theorem fact29 : ((Rows.crcKnownRow.pinned == Rows.crcKnownRow.pinnedBy)) = true := by kernel_rfl
theorem fact30 : ((Rows.crcKnownRow.veiled == (Try.f8.params.toList ++ Rows.crcKnownSpec.plain.varTypes Try.prog ++ Try.f8.resultTypes.toList).any (Try.prog.veiledRec ·))) = true := by kernel_rfl
theorem fact31 : (Rows.crcKnownRow.veiledFits Try.prog Try.f8.params.toList (Try.f8.params.toList ++ Rows.crcKnownSpec.plain.varTypes Try.prog ++ Try.f8.resultTypes.toList)) = true := by kernel_rfl
set_option maxRecDepth 100000 in
theorem closed : joinedFacts Try.prog 8 Try.f8 Rows.crcKnownSpec Rows.crcKnownRow = true := by
  unfold joinedFacts
  exact (Kit.and2 (Kit.and2 (Kit.and2 (Kit.and2 (Kit.and2 (Kit.and2 (Kit.and2 (Kit.and2 (Kit.and2 (Kit.and2 (Kit.and2 (Kit.and2 (Kit.and2 (Kit.and2 (Kit.and2 (Kit.and2 (Kit.and2 (Kit.and2 (Kit.and2 (Kit.and2 (Kit.and2 (Kit.and2 (Kit.and2 (Kit.and2 (Kit.and2 (Kit.and2 (Kit.and2 (Kit.and2 (Kit.and2 (Kit.and2 (Kit.and2 fact0 fact1) fact2) fact3) fact4) fact5) fact6) fact7) fact8) fact9) fact10) fact11) fact12) fact13) fact14) fact15) fact16) fact17) fact18) fact19) fact20) fact21) fact22) fact23) fact24) fact25) fact26) fact27) fact28) fact29) fact30) fact31)
theorem named : Try.prog.funcNamed Rows.crcKnownRow.func = some 8 := by kernel_rfl
theorem inst : Try.f8.isInstance Try.prog Rows.crcKnownRow.origin Rows.crcKnownRow.targs := of_decide_eq_true (by kernel_rfl)
theorem wrap_ : Try.f8.isWrapper Try.prog Rows.crcKnownRow.wrapper Rows.crcKnownRow.mainSum := by unfold Func.isWrapper; first | (rw [if_pos (by decide +kernel)]; kernel_rfl) | (rw [if_neg (by decide +kernel)]; exact ⟨rfl, rfl⟩)
theorem over : Rows.crcKnownRow.holds Try.pinned (OpenSpec.ofChange Rows.crcKnownSpec) :=
  OpenClaim.holds_of_wide 8 Try.f8 rfl rfl rfl rfl rfl rfl rfl ⟨rfl, rfl, rfl, rfl, rfl⟩ rfl rfl rfl rfl rfl named Try.func8 closed
    inst wrap_
    (fun os started H enc _ => lifted os started H enc)
theorem proved : Rows.CrcKnownSaid := over
#print axioms proved
end Go.Proofs.Ytpalloofjljhkaa.crcKnown
namespace Go.Proofs.Ytpalloofjljhkaa
/-- The row, under a short name, for the claim. -/
theorem crcKnown_holds : Rows.CrcKnownSaid := crcKnown.proved
end Go.Proofs.Ytpalloofjljhkaa
