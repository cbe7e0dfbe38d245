-- Laid by a program of this session (wip/print2).
import Derived.Test.YthdjdhcdhaicoaaRows
import Derived.Test.YthdjdhcdhaicoaaKit
import Derived.Test.YthdjdhcdhaicoaaPx5
import Derived.Test.YthdjdhcdhaicoaaOpz
import Derived.Test.YthdjdhcdhaicoaaPureLedgerEpochs
import Derived.WalkKit
import Derived.ProofKit
import Derived.OpenShut
import Derived.ShutString
import Derived.ChangeOld
import Derived.Below
import Derived.SizedLaws
import Derived.Test.YthdjdhcdhaicoaaWSized
namespace Go.Proofs.Ythdjdhcdhaicoaa.ledgerEpochs
open Go.ChangeShapes Go.WideShapes Go.ChangeAt Go.RowKit
open Go.ChangeMaps (open_string shut_string)
open Go.Proofs.YthdjdhcdhaicoaaW.PrintWords (Kd)
open P
set_option linter.unusedVariables false
theorem own : ownKnob Try.prog.godebug = none := by kernel_rfl
theorem laidOut : laidOutB Try.prog = true := by kernel_rfl
set_option maxRecDepth 100000 in
theorem lifted (os : Os) (started : os.Started) (H : Type) (enc : TypeId × Value → H) :
    ReturnsInHanded {} Try.checked os 4 .any (Rows.ledgerEpochsSpec.pre6 enc Try.prog Try.f4 Rows.ledgerEpochsRow.domain false) (Rows.ledgerEpochsSpec.post enc Try.prog Try.f4 false true false false) := by
  refine returnsInHanded_of_change_sized (C := Try.checked) own started (by kernel_rfl) Try.func4
    (ChangeSpec.witness6 (enc := enc) (C := Try.checked) false ⟨#[], #[.slice none 0 0], []⟩ 8 (by kernel_rfl) (by kernel_rfl) (by kernel_rfl) (by kernel_rfl)) ?_
  intro W base args ds gs before hval0 hW hcnd hsz0 _
  have hval : ∀ (j : Nat) t v, Try.f4.params[j]? = some t → args[j]? = some v → Value.okWide Try.prog W .any base t v := hval0
  have hW' := hW
  obtain ⟨p, q, hA0, hV, rfl, hfz, hnd⟩ := hW
  have hA : DataW.TrodAll enc Try.prog W 0 (fun _ => true) true Try.f4.params.toList args.toList ds p := hA0
  rw [Try.params4] at hA hval
  obtain ⟨v0, vs0, d0, ds0, p0, q0, hargs, rfl, rfl, h0, r0⟩ := trodAll_cons hA
  obtain ⟨rfl, rfl, rfl⟩ := trodAll_nil r0
  obtain rfl : args = #[v0] := by cases args; simp_all
  obtain ⟨rfl, rfl⟩ := trodVars_none hV
  obtain ⟨A0, n0, c0, rfl⟩ := okWide_slice Try.underlying35 (hval 0 35 v0 rfl rfl)
  have k0 := h0
  have lt0 : ∀ x ∈ p0, x.block < W.heap.size := by obtain ⟨m, hm⟩ := k0; exact DataW.trod_lt m _ _ _ hm
  obtain ⟨l0, rfl, hc0, hr0, hw0⟩ := Opz.arg_slice (d := k46) (Opz.opens_slice Try.underlying35 (by kernel_rfl) (by kernel_rfl) (Opz.opens_iso _ (fun ⟨x0, x1, x2⟩ => ⟨⟨x0, x1, x2⟩, rfl⟩) (Opz.opens_struct [3, 3, 44] Try.underlying46 (by kernel_rfl) (Opz.opensL_cons (Opz.opens_int Try.underlying3) (Opz.opensL_cons (Opz.opens_int Try.underlying3) (Opz.opensL_one (Opz.opens_iso _ (fun ⟨x0, x1, x2, x3, x4, x5⟩ => ⟨⟨x0, x1, x2, x3, x4, x5⟩, rfl⟩) (Opz.opens_struct [3, 3, 3, 37, 42, 3] Try.underlying44 (by kernel_rfl) (Opz.opensL_cons (Opz.opens_int Try.underlying3) (Opz.opensL_cons (Opz.opens_int Try.underlying3) (Opz.opensL_cons (Opz.opens_int Try.underlying3) (Opz.opensL_cons (Opz.opens_iso _ (fun ⟨x0, x1, x2, x3, x4, x5⟩ => ⟨⟨x0, x1, x2, x3, x4, x5⟩, rfl⟩) (Opz.opens_array Try.underlying37 (by kernel_rfl) (Opz.opensL_cons (Opz.opens_int Try.underlying5) (Opz.opensL_cons (Opz.opens_int Try.underlying5) (Opz.opensL_cons (Opz.opens_int Try.underlying5) (Opz.opensL_cons (Opz.opens_int Try.underlying5) (Opz.opensL_cons (Opz.opens_int Try.underlying5) (Opz.opensL_one (Opz.opens_int Try.underlying5))))))))) (Opz.opensL_cons (Opz.opens_slice Try.underlying42 (by kernel_rfl) (by kernel_rfl) (Opz.opens_int Try.underlying5)) (Opz.opensL_one (Opz.opens_int Try.underlying3))))))))))))))) h0 (fun q hq => by have h_ := List.all_eq_true.1 hsz0 q (DataW.weights_mem_each (j := 0) (t := 35) (d := d0) rfl rfl q hq); simpa using h_)
  have hm0 : l0.length ≤ 9223372036854775807 := hr0.2.1
  clear hA0 hval0 hsz0 hval
  obtain ⟨k, h⟩ := Pure.LedgerEpochs l0 hm0 hw0
  refine (P.antiphonlaw26_LedgerEpochs.calls k _ _ l0 true W hr0 hc0 h).mono fun e W' ⟨he, bel⟩ => ?_
  subst he
  exact ⟨_, rfl, _, _, _, [], _, [], hW', trodAll_mk1 (shut_bool Try.underlying4 _), (trodAll_cons_mk (Below.trod laidOut (by kernel_rfl) (of_decide_eq_true (by kernel_rfl)) k0 bel lt0) trodAll_mk0), rfl, bel.frame _, fun h => by cases h⟩
theorem fact0 : (Rows.ledgerEpochsRow.wf (OpenSpec.ofChange Rows.ledgerEpochsSpec)) = true := by kernel_rfl
theorem fact1 : (laidOutB Try.prog) = true := Kit.laidOut
theorem fact2 : (mapsRowed Try.prog) = true := Kit.mapsRowed
theorem fact3 : (Try.f4.params.all (Try.prog.readableRec ·)) = true := by kernel_rfl
theorem fact4 : (namedTie Try.prog Rows.ledgerEpochsRow.named Rows.ledgerEpochsSpec.vars) = true := by kernel_rfl
theorem fact5 : ((Rows.ledgerEpochsRow.stops == [])) = true := by kernel_rfl
theorem fact6 : ((Try.prog.stops == [])) = true := Kit.stops
theorem fact7 : ((Rows.ledgerEpochsRow.knobs == [])) = true := by kernel_rfl
theorem fact8 : ((Try.prog.stopKnobs == [])) = true := Kit.stopKnobs
theorem fact9 : ((Rows.ledgerEpochsRow.inPlace == Try.prog.inPlace 4)) = true := by kernel_rfl
theorem fact10 : ((Rows.ledgerEpochsRow.unfollowed == Try.prog.unfollowed 4)) = true := by kernel_rfl
theorem fact11 : ((Rows.ledgerEpochsRow.recurses == Try.prog.recurses 4)) = true := by kernel_rfl
theorem fact12 : ((Rows.ledgerEpochsRow.named == Try.prog.varsNamed 4)) = true := by kernel_rfl
theorem fact13 : ((Rows.ledgerEpochsRow.maps == (Try.f4.params.toList ++ Rows.ledgerEpochsSpec.plain.varTypes Try.prog).any (Try.prog.mapsRec ·))) = true := by kernel_rfl
theorem fact14 : ((Rows.ledgerEpochsRow.ifaces == (Try.f4.params.toList ++ Rows.ledgerEpochsSpec.plain.varTypes Try.prog).any (Try.prog.ifacesRec ·))) = true := by kernel_rfl
theorem fact15 : ((Rows.ledgerEpochsRow.mapsOut == Try.prog.mapsAmong Try.f4.resultTypes.toList)) = true := by kernel_rfl
theorem fact16 : ((Rows.ledgerEpochsRow.loops == (Try.f4.params.toList ++ Rows.ledgerEpochsSpec.plain.varTypes Try.prog).any (Try.prog.loopsFrom ·))) = true := by kernel_rfl
theorem fact17 : ((Rows.ledgerEpochsRow.wideKeys == (Try.f4.params.toList ++ Rows.ledgerEpochsSpec.plain.varTypes Try.prog ++ Try.f4.resultTypes.toList).any (Try.prog.wideKeysFrom ·))) = true := by kernel_rfl
theorem fact18 : (Rows.ledgerEpochsSpec.vars.all (Try.prog.varReadable ·)) = true := by kernel_rfl
theorem fact19 : (Try.f4.resultTypes.all (fun t => Try.prog.readableRec t && decide (t < Try.prog.types.size))) = true := by kernel_rfl
theorem fact20 : ((Rows.ledgerEpochsRow.ifacesOut == Try.f4.resultTypes.toList.any (Try.prog.ifacesRec ·))) = true := by kernel_rfl
theorem fact21 : ((Rows.ledgerEpochsRow.loopsOut == Try.f4.resultTypes.toList.any (Try.prog.loopsFrom ·))) = true := by kernel_rfl
theorem fact22 : ((Rows.ledgerEpochsRow.plainKeys == Try.prog.plainKeys)) = true := (by rw [Kit.plainKeys]; rfl)
theorem fact23 : (Rows.ledgerEpochsRow.shortTexts.isNone) = true := by kernel_rfl
theorem fact24 : (Try.prog.stopsHeard) = true := Kit.stopsHeard
theorem fact25 : (Try.prog.mayEnter) = true := Kit.mayEnter
theorem fact26 : ((Rows.ledgerEpochsRow.lifted == Try.prog.liftsFinal)) = true := (by rw [Kit.liftsFinal]; rfl)
theorem fact27 : ((Try.prog.make == some Rows.ledgerEpochsRow.make)) = true := (by rw [Kit.make]; rfl)
theorem fact28 : ((Rows.ledgerEpochsRow.kinds == (if Rows.ledgerEpochsRow.domain.isEmpty then [] else Try.f4.params.toList.map fun t => match Try.prog.underlying t with | some (.int k) => some k | _ => none))) = true := by kernel_rfl
theorem fact29 : ((Rows.ledgerEpochsRow.pinned == Rows.ledgerEpochsRow.pinnedBy)) = true := by kernel_rfl
theorem fact30 : ((Rows.ledgerEpochsRow.veiled == (Try.f4.params.toList ++ Rows.ledgerEpochsSpec.plain.varTypes Try.prog ++ Try.f4.resultTypes.toList).any (Try.prog.veiledRec ·))) = true := by kernel_rfl
theorem fact31 : (Rows.ledgerEpochsRow.veiledFits Try.prog Try.f4.params.toList (Try.f4.params.toList ++ Rows.ledgerEpochsSpec.plain.varTypes Try.prog ++ Try.f4.resultTypes.toList)) = true := by kernel_rfl
set_option maxRecDepth 100000 in
theorem closed : joinedFacts Try.prog 4 Try.f4 Rows.ledgerEpochsSpec Rows.ledgerEpochsRow = true := by
  unfold joinedFacts
  exact (Kit.and2 (Kit.and2 (Kit.and2 (Kit.and2 (Kit.and2 (Kit.and2 (Kit.and2 (Kit.and2 (Kit.and2 (Kit.and2 (Kit.and2 (Kit.and2 (Kit.and2 (Kit.and2 (Kit.and2 (Kit.and2 (Kit.and2 (Kit.and2 (Kit.and2 (Kit.and2 (Kit.and2 (Kit.and2 (Kit.and2 (Kit.and2 (Kit.and2 (Kit.and2 (Kit.and2 (Kit.and2 (Kit.and2 (Kit.and2 (Kit.and2 fact0 fact1) fact2) fact3) fact4) fact5) fact6) fact7) fact8) fact9) fact10) fact11) fact12) fact13) fact14) fact15) fact16) fact17) fact18) fact19) fact20) fact21) fact22) fact23) fact24) fact25) fact26) fact27) fact28) fact29) fact30) fact31)
theorem named : Try.prog.funcNamed Rows.ledgerEpochsRow.func = some 4 := by kernel_rfl
theorem inst : Try.f4.isInstance Try.prog Rows.ledgerEpochsRow.origin Rows.ledgerEpochsRow.targs := of_decide_eq_true (by kernel_rfl)
theorem wrap_ : Try.f4.isWrapper Try.prog Rows.ledgerEpochsRow.wrapper Rows.ledgerEpochsRow.mainSum := by unfold Func.isWrapper; first | (rw [if_pos (by decide +kernel)]; kernel_rfl) | (rw [if_neg (by decide +kernel)]; exact ⟨rfl, rfl⟩)
theorem over : Rows.ledgerEpochsRow.holds Try.pinned (OpenSpec.ofChange Rows.ledgerEpochsSpec) :=
  OpenClaim.holds_of_wide 4 Try.f4 rfl rfl rfl rfl rfl rfl rfl ⟨rfl, rfl, rfl, rfl, rfl⟩ rfl rfl rfl rfl rfl named Try.func4 closed
    inst wrap_
    (fun os started H enc _ => lifted os started H enc)
theorem proved : Rows.LedgerEpochsSaid := over
#print axioms proved
end Go.Proofs.Ythdjdhcdhaicoaa.ledgerEpochs
namespace Go.Proofs.Ythdjdhcdhaicoaa
/-- The row, under a short name, for the claim. -/
theorem ledgerEpochs_holds : Rows.LedgerEpochsSaid := ledgerEpochs.proved
end Go.Proofs.Ythdjdhcdhaicoaa
