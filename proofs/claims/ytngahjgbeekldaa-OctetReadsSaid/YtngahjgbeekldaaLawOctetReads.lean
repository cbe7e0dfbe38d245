-- Laid by a program of this session (wip/print2).
import Derived.Test.YtngahjgbeekldaaRows
import Derived.Test.YtngahjgbeekldaaKit
import Derived.Test.YtngahjgbeekldaaPx8
import Derived.Test.YtngahjgbeekldaaOpn
import Derived.Test.YtngahjgbeekldaaPureOctetReads
import Derived.WalkKit
import Derived.ProofKit
import Derived.OpenShut
import Derived.ShutString
import Derived.ChangeOld
import Derived.Below
import Derived.SizedLaws
import Derived.Test.YtngahjgbeekldaaWSized
namespace Go.Proofs.Ytngahjgbeekldaa.octetReads
open Go.ChangeShapes Go.WideShapes Go.ChangeAt Go.RowKit
open Go.ChangeMaps (open_string shut_string)
open Go.Proofs.YtngahjgbeekldaaW.PrintWords (Kd)
open P
set_option linter.unusedVariables false
theorem own : ownKnob Try.prog.godebug = none := by kernel_rfl
theorem laidOut : laidOutB Try.prog = true := by kernel_rfl
set_option maxRecDepth 100000 in
theorem lifted (os : Os) (started : os.Started) (H : Type) (enc : TypeId × Value → H) :
    ReturnsInHanded {} Try.checked os 7 .any (Rows.octetReadsSpec.pre6 enc Try.prog Try.f7 Rows.octetReadsRow.domain false) (Rows.octetReadsSpec.post enc Try.prog Try.f7 false true false false) := by
  refine returnsInHanded_of_change_sized (C := Try.checked) own started (by kernel_rfl) Try.func7
    (ChangeSpec.witness6 (enc := enc) (C := Try.checked) false ⟨#[], #[.slice none 0 0, .slice none 0 0], []⟩ 8 (by kernel_rfl) (by kernel_rfl) (by kernel_rfl) (by kernel_rfl)) ?_
  intro W base args ds gs before hval0 hW hcnd hsz0 _
  have hval : ∀ (j : Nat) t v, Try.f7.params[j]? = some t → args[j]? = some v → Value.okWide Try.prog W .any base t v := hval0
  have hW' := hW
  obtain ⟨p, q, hA0, hV, rfl, hfz, hnd⟩ := hW
  have hA : DataW.TrodAll enc Try.prog W 0 (fun _ => true) true Try.f7.params.toList args.toList ds p := hA0
  rw [Try.params7] at hA hval
  obtain ⟨v0, vs0, d0, ds0, p0, q0, hargs, rfl, rfl, h0, r0⟩ := trodAll_cons hA
  obtain ⟨v1, vs1, d1, ds1, p1, q1, rfl, rfl, rfl, h1, r1⟩ := trodAll_cons r0
  obtain ⟨rfl, rfl, rfl⟩ := trodAll_nil r1
  obtain rfl : args = #[v0, v1] := by cases args; simp_all
  obtain ⟨rfl, rfl⟩ := trodVars_none hV
  obtain ⟨A0, n0, c0, rfl⟩ := okWide_slice Try.underlying22 (hval 0 22 v0 rfl rfl)
  have k0 := h0
  have lt0 : ∀ x ∈ p0, x.block < W.heap.size := by obtain ⟨m, hm⟩ := k0; exact DataW.trod_lt m _ _ _ hm
  obtain ⟨l0, rfl, hc0, hr0, hw0⟩ := Opn.arg_slice (d := (Kd.int .u8)) (Opn.opens_slice Try.underlying22 (by kernel_rfl) (Opn.opens_int Try.underlying5)) h0
  have hm0 : l0.length ≤ 9223372036854775807 := hr0.2.1
  obtain ⟨A1, n1, c1, rfl⟩ := okWide_slice Try.underlying35 (hval 1 35 v1 rfl rfl)
  have k1 := h1
  have lt1 : ∀ x ∈ p1, x.block < W.heap.size := by obtain ⟨m, hm⟩ := k1; exact DataW.trod_lt m _ _ _ hm
  obtain ⟨l1, rfl, hc1, hr1, hw1⟩ := Opn.arg_slice (d := (Kd.pair (Kd.int .i64) (Kd.int .i64))) (Opn.opens_slice Try.underlying35 (by kernel_rfl) (Opn.opens_struct [3, 3] Try.underlying40 (by kernel_rfl) (Opn.opensL_cons (Opn.opens_int Try.underlying3) (Opn.opensL_one (Opn.opens_int Try.underlying3))))) h1
  have hm1 : l1.length ≤ 9223372036854775807 := hr1.2.1
  clear hA0 hval0 hsz0 hval
  have h := Pure.OctetReads l0 l1 hm0 hw0 hm1 hw1
  refine (P.antiphonlaw1_OctetReads.calls _ _ l0 _ _ l1 true W hr0 hc0 hr1 hc1 h).mono fun e W' ⟨he, bel⟩ => ?_
  subst he
  exact ⟨_, rfl, _, _, _, [], _, [], hW', trodAll_mk1 (shut_bool Try.underlying4 _), (trodAll_cons_mk (Below.trod laidOut (by kernel_rfl) (of_decide_eq_true (by kernel_rfl)) k0 bel lt0) (trodAll_cons_mk (Below.trod laidOut (by kernel_rfl) (of_decide_eq_true (by kernel_rfl)) k1 bel lt1) trodAll_mk0)), rfl, bel.frame _, fun h => by cases h⟩
theorem fact0 : (Rows.octetReadsRow.wf (OpenSpec.ofChange Rows.octetReadsSpec)) = true := by kernel_rfl
theorem fact1 : (laidOutB Try.prog) = true := Kit.laidOut
theorem fact2 : (mapsRowed Try.prog) = true := Kit.mapsRowed
theorem fact3 : (Try.f7.params.all (Try.prog.readableRec ·)) = true := by kernel_rfl
theorem fact4 : (namedTie Try.prog Rows.octetReadsRow.named Rows.octetReadsSpec.vars) = true := by kernel_rfl
theorem fact5 : ((Rows.octetReadsRow.stops == [])) = true := by kernel_rfl
theorem fact6 : ((Try.prog.stops == [])) = true := Kit.stops
theorem fact7 : ((Rows.octetReadsRow.knobs == [])) = true := by kernel_rfl
theorem fact8 : ((Try.prog.stopKnobs == [])) = true := Kit.stopKnobs
theorem fact9 : ((Rows.octetReadsRow.inPlace == Try.prog.inPlace 7)) = true := by kernel_rfl
theorem fact10 : ((Rows.octetReadsRow.unfollowed == Try.prog.unfollowed 7)) = true := by kernel_rfl
theorem fact11 : ((Rows.octetReadsRow.recurses == Try.prog.recurses 7)) = true := by kernel_rfl
theorem fact12 : ((Rows.octetReadsRow.named == Try.prog.varsNamed 7)) = true := by kernel_rfl
theorem fact13 : ((Rows.octetReadsRow.maps == (Try.f7.params.toList ++ Rows.octetReadsSpec.plain.varTypes Try.prog).any (Try.prog.mapsRec ·))) = true := by kernel_rfl
theorem fact14 : ((Rows.octetReadsRow.ifaces == (Try.f7.params.toList ++ Rows.octetReadsSpec.plain.varTypes Try.prog).any (Try.prog.ifacesRec ·))) = true := by kernel_rfl
theorem fact15 : ((Rows.octetReadsRow.mapsOut == Try.prog.mapsAmong Try.f7.resultTypes.toList)) = true := by kernel_rfl
theorem fact16 : ((Rows.octetReadsRow.loops == (Try.f7.params.toList ++ Rows.octetReadsSpec.plain.varTypes Try.prog).any (Try.prog.loopsFrom ·))) = true := by kernel_rfl
theorem fact17 : ((Rows.octetReadsRow.wideKeys == (Try.f7.params.toList ++ Rows.octetReadsSpec.plain.varTypes Try.prog ++ Try.f7.resultTypes.toList).any (Try.prog.wideKeysFrom ·))) = true := by kernel_rfl
theorem fact18 : (Rows.octetReadsSpec.vars.all (Try.prog.varReadable ·)) = true := by kernel_rfl
theorem fact19 : (Try.f7.resultTypes.all (fun t => Try.prog.readableRec t && decide (t < Try.prog.types.size))) = true := by kernel_rfl
theorem fact20 : ((Rows.octetReadsRow.ifacesOut == Try.f7.resultTypes.toList.any (Try.prog.ifacesRec ·))) = true := by kernel_rfl
theorem fact21 : ((Rows.octetReadsRow.loopsOut == Try.f7.resultTypes.toList.any (Try.prog.loopsFrom ·))) = true := by kernel_rfl
theorem fact22 : ((Rows.octetReadsRow.plainKeys == Try.prog.plainKeys)) = true := (by rw [Kit.plainKeys]; rfl)
theorem fact23 : (Rows.octetReadsRow.shortTexts.isNone) = true := by kernel_rfl
theorem fact24 : (Try.prog.stopsHeard) = true := Kit.stopsHeard
theorem fact25 : (Try.prog.mayEnter) = true := Kit.mayEnter
theorem fact26 : ((Rows.octetReadsRow.lifted == Try.prog.liftsFinal)) = true := (by rw [Kit.liftsFinal]; rfl)
theorem fact27 : ((Try.prog.make == some Rows.octetReadsRow.make)) = true := (by rw [Kit.make]; rfl)
theorem fact28 : ((Rows.octetReadsRow.kinds == (if Rows.octetReadsRow.domain.isEmpty then [] else Try.f7.params.toList.map fun t => match Try.prog.underlying t with | some (.int k) => some k | _ => none))) = true := by kernel_rfl
theorem fact29 : ((Rows.octetReadsRow.pinned == Rows.octetReadsRow.pinnedBy)) = true := by kernel_rfl
theorem fact30 : ((Rows.octetReadsRow.veiled == (Try.f7.params.toList ++ Rows.octetReadsSpec.plain.varTypes Try.prog ++ Try.f7.resultTypes.toList).any (Try.prog.veiledRec ·))) = true := by kernel_rfl
theorem fact31 : (Rows.octetReadsRow.veiledFits Try.prog Try.f7.params.toList (Try.f7.params.toList ++ Rows.octetReadsSpec.plain.varTypes Try.prog ++ Try.f7.resultTypes.toList)) = true := by kernel_rfl
set_option maxRecDepth 100000 in
theorem closed : joinedFacts Try.prog 7 Try.f7 Rows.octetReadsSpec Rows.octetReadsRow = true := by
  unfold joinedFacts
  exact (Kit.and2 (Kit.and2 (Kit.and2 (Kit.and2 (Kit.and2 (Kit.and2 (Kit.and2 (Kit.and2 (Kit.and2 (Kit.and2 (Kit.and2 (Kit.and2 (Kit.and2 (Kit.and2 (Kit.and2 (Kit.and2 (Kit.and2 (Kit.and2 (Kit.and2 (Kit.and2 (Kit.and2 (Kit.and2 (Kit.and2 (Kit.and2 (Kit.and2 (Kit.and2 (Kit.and2 (Kit.and2 (Kit.and2 (Kit.and2 (Kit.and2 fact0 fact1) fact2) fact3) fact4) fact5) fact6) fact7) fact8) fact9) fact10) fact11) fact12) fact13) fact14) fact15) fact16) fact17) fact18) fact19) fact20) fact21) fact22) fact23) fact24) fact25) fact26) fact27) fact28) fact29) fact30) fact31)
theorem named : Try.prog.funcNamed Rows.octetReadsRow.func = some 7 := by kernel_rfl
theorem inst : Try.f7.isInstance Try.prog Rows.octetReadsRow.origin Rows.octetReadsRow.targs := of_decide_eq_true (by kernel_rfl)
theorem wrap_ : Try.f7.isWrapper Try.prog Rows.octetReadsRow.wrapper Rows.octetReadsRow.mainSum := by unfold Func.isWrapper; first | (rw [if_pos (by decide +kernel)]; kernel_rfl) | (rw [if_neg (by decide +kernel)]; exact ⟨rfl, rfl⟩)
theorem over : Rows.octetReadsRow.holds Try.pinned (OpenSpec.ofChange Rows.octetReadsSpec) :=
  OpenClaim.holds_of_wide 7 Try.f7 rfl rfl rfl rfl rfl rfl rfl ⟨rfl, rfl, rfl, rfl, rfl⟩ rfl rfl rfl rfl rfl named Try.func7 closed
    inst wrap_
    (fun os started H enc _ => lifted os started H enc)
theorem proved : Rows.OctetReadsSaid := over
#print axioms proved
end Go.Proofs.Ytngahjgbeekldaa.octetReads
namespace Go.Proofs.Ytngahjgbeekldaa
/-- The row, under a short name, for the claim. -/
theorem octetReads_holds : Rows.OctetReadsSaid := octetReads.proved
end Go.Proofs.Ytngahjgbeekldaa
