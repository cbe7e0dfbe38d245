/-
  No cell of these rows narrows 'for every input' (looked for: loops, veiled, ifaces, maps, wideKeys, modest, calm, conditions, laid).
  DERIVED. THE GIVEN ROWS OF THIS SEAT. 25 by the template 'for every input the law returns true; each argument reads behind the call as it read before'; 0 by the template 'total and deterministic' (their statements: YtnmcoebjkfpmjaaTotals.lean).
  GIVEN WITH THE SEED: the statements are not yours to turn. If you find one false, say at which input.
  Laid BY PROGRAM, IN A SANDBOX (cutbox-rows.mjs): the forced cells as the released guide's own fill.sh prints them over the translation cf1b4f0a9b452951… (all of the seat's roots in one cut). By AI agents, Wed Nov 11 2026. No macro, syntax, notation, axiom, sorry.
-/
import Derived.Test.YtnmcoebjkfpmjaaChecked
import GoSem.Claim
import GoSem.ClaimJoined
import GoSem.ClaimMapViews
import Derived.JoinedTies
import Derived.KernelRfl
namespace Go.Proofs.Ytnmcoebjkfpmjaa
/- THE CELL 'sum', in the pinned program and in every row, IS THE sha256 OF THE DUMP (.gsa) THAT YtnmcoebjkfpmjaaProg.lean LOADS. Nothing in Lean hashes anything: it is a label: what it is worth is what the hold of that sum in a sandbox is worth. -/
noncomputable def Try.pinned : Pinned := { name := "ytnmcoebjkfpmjaa", sum := "cf1b4f0a9b452951e257b7fa82549c9492a6712d8cbd09e5e08e2d3914e09c47", checked := Try.checked }
namespace Rows
def none {H : Type} : Left H := { results := [], args := [] }

/-- 'antiphonlaw6.PduKnown': WHATEVER THE INPUT: true; the input reads as it did. -/
def pduKnownSpec : ChangeSpec := { name := "pduKnown", fn := fun _ => fun
  | [] => { results := [.lit (.bool true)], args := [] }
  | _ => none }
def pduKnownRow : OpenClaim := { program := "ytnmcoebjkfpmjaa", sum := "cf1b4f0a9b452951e257b7fa82549c9492a6712d8cbd09e5e08e2d3914e09c47", func := "antiphon/antiphonlaw6.PduKnown", spec := "pduKnown", apart := false }
def PduKnownSaid : Prop := pduKnownRow.holds Try.pinned (OpenSpec.ofChange pduKnownSpec)

/-- ITS FALSE NEIGHBOUR: 'it returns false'. Refute it at one input. -/
def pduKnownWrong : ChangeSpec := { name := "pduKnown", fn := fun _ => fun
  | [] => { results := [.lit (.bool false)], args := [] }
  | _ => none }
def PduKnownWrongFalsely : Prop := pduKnownRow.holds Try.pinned (OpenSpec.ofChange pduKnownWrong)

/-- 'antiphonlaw6.PduCodes': WHATEVER THE INPUT: true; the input reads as it did. -/
def pduCodesSpec : ChangeSpec := { name := "pduCodes", fn := fun _ => fun
  | [d1, d2] => { results := [.lit (.bool true)], args := [d1, d2] }
  | _ => none }
def pduCodesRow : OpenClaim := { program := "ytnmcoebjkfpmjaa", sum := "cf1b4f0a9b452951e257b7fa82549c9492a6712d8cbd09e5e08e2d3914e09c47", func := "antiphon/antiphonlaw6.PduCodes", spec := "pduCodes", apart := false }
def PduCodesSaid : Prop := pduCodesRow.holds Try.pinned (OpenSpec.ofChange pduCodesSpec)

/-- ITS FALSE NEIGHBOUR: 'it returns false'. Refute it at one input. -/
def pduCodesWrong : ChangeSpec := { name := "pduCodes", fn := fun _ => fun
  | [d1, d2] => { results := [.lit (.bool false)], args := [d1, d2] }
  | _ => none }
def PduCodesWrongFalsely : Prop := pduCodesRow.holds Try.pinned (OpenSpec.ofChange pduCodesWrong)

/-- 'antiphonlaw6.PduAll': WHATEVER THE INPUT: true; the input reads as it did. -/
def pduAllSpec : ChangeSpec := { name := "pduAll", fn := fun _ => fun
  | [d1, d2, d3] => { results := [.lit (.bool true)], args := [d1, d2, d3] }
  | _ => none }
def pduAllRow : OpenClaim := { program := "ytnmcoebjkfpmjaa", sum := "cf1b4f0a9b452951e257b7fa82549c9492a6712d8cbd09e5e08e2d3914e09c47", func := "antiphon/antiphonlaw6.PduAll", spec := "pduAll", apart := false }
def PduAllSaid : Prop := pduAllRow.holds Try.pinned (OpenSpec.ofChange pduAllSpec)

/-- ITS FALSE NEIGHBOUR: 'it returns false'. Refute it at one input. -/
def pduAllWrong : ChangeSpec := { name := "pduAll", fn := fun _ => fun
  | [d1, d2, d3] => { results := [.lit (.bool false)], args := [d1, d2, d3] }
  | _ => none }
def PduAllWrongFalsely : Prop := pduAllRow.holds Try.pinned (OpenSpec.ofChange pduAllWrong)

/-- 'antiphonlaw6.PduKinds': WHATEVER THE INPUT: true; the input reads as it did. -/
def pduKindsSpec : ChangeSpec := { name := "pduKinds", fn := fun _ => fun
  | [d] => { results := [.lit (.bool true)], args := [d] }
  | _ => none }
def pduKindsRow : OpenClaim := { program := "ytnmcoebjkfpmjaa", sum := "cf1b4f0a9b452951e257b7fa82549c9492a6712d8cbd09e5e08e2d3914e09c47", func := "antiphon/antiphonlaw6.PduKinds", spec := "pduKinds", apart := false }
def PduKindsSaid : Prop := pduKindsRow.holds Try.pinned (OpenSpec.ofChange pduKindsSpec)

/-- ITS FALSE NEIGHBOUR: 'it returns false'. Refute it at one input. -/
def pduKindsWrong : ChangeSpec := { name := "pduKinds", fn := fun _ => fun
  | [d] => { results := [.lit (.bool false)], args := [d] }
  | _ => none }
def PduKindsWrongFalsely : Prop := pduKindsRow.holds Try.pinned (OpenSpec.ofChange pduKindsWrong)

/-- 'antiphonlaw6.PduCuts': WHATEVER THE INPUT: true; the input reads as it did. -/
def pduCutsSpec : ChangeSpec := { name := "pduCuts", fn := fun _ => fun
  | [d1, d2] => { results := [.lit (.bool true)], args := [d1, d2] }
  | _ => none }
def pduCutsRow : OpenClaim := { program := "ytnmcoebjkfpmjaa", sum := "cf1b4f0a9b452951e257b7fa82549c9492a6712d8cbd09e5e08e2d3914e09c47", func := "antiphon/antiphonlaw6.PduCuts", spec := "pduCuts", apart := false }
def PduCutsSaid : Prop := pduCutsRow.holds Try.pinned (OpenSpec.ofChange pduCutsSpec)

/-- ITS FALSE NEIGHBOUR: 'it returns false'. Refute it at one input. -/
def pduCutsWrong : ChangeSpec := { name := "pduCuts", fn := fun _ => fun
  | [d1, d2] => { results := [.lit (.bool false)], args := [d1, d2] }
  | _ => none }
def PduCutsWrongFalsely : Prop := pduCutsRow.holds Try.pinned (OpenSpec.ofChange pduCutsWrong)

/-- 'antiphonlaw6.PduBack': WHATEVER THE INPUT: true; the input reads as it did. -/
def pduBackSpec : ChangeSpec := { name := "pduBack", fn := fun _ => fun
  | [d1, d2, d3] => { results := [.lit (.bool true)], args := [d1, d2, d3] }
  | _ => none }
def pduBackRow : OpenClaim := { program := "ytnmcoebjkfpmjaa", sum := "cf1b4f0a9b452951e257b7fa82549c9492a6712d8cbd09e5e08e2d3914e09c47", func := "antiphon/antiphonlaw6.PduBack", spec := "pduBack", apart := false }
def PduBackSaid : Prop := pduBackRow.holds Try.pinned (OpenSpec.ofChange pduBackSpec)

/-- ITS FALSE NEIGHBOUR: 'it returns false'. Refute it at one input. -/
def pduBackWrong : ChangeSpec := { name := "pduBack", fn := fun _ => fun
  | [d1, d2, d3] => { results := [.lit (.bool false)], args := [d1, d2, d3] }
  | _ => none }
def PduBackWrongFalsely : Prop := pduBackRow.holds Try.pinned (OpenSpec.ofChange pduBackWrong)

/-- 'antiphonlaw6.PduSaps': WHATEVER THE INPUT: true; the input reads as it did. -/
def pduSapsSpec : ChangeSpec := { name := "pduSaps", fn := fun _ => fun
  | [d] => { results := [.lit (.bool true)], args := [d] }
  | _ => none }
def pduSapsRow : OpenClaim := { program := "ytnmcoebjkfpmjaa", sum := "cf1b4f0a9b452951e257b7fa82549c9492a6712d8cbd09e5e08e2d3914e09c47", func := "antiphon/antiphonlaw6.PduSaps", spec := "pduSaps", apart := false }
def PduSapsSaid : Prop := pduSapsRow.holds Try.pinned (OpenSpec.ofChange pduSapsSpec)

/-- ITS FALSE NEIGHBOUR: 'it returns false'. Refute it at one input. -/
def pduSapsWrong : ChangeSpec := { name := "pduSaps", fn := fun _ => fun
  | [d] => { results := [.lit (.bool false)], args := [d] }
  | _ => none }
def PduSapsWrongFalsely : Prop := pduSapsRow.holds Try.pinned (OpenSpec.ofChange pduSapsWrong)

/-- 'antiphonlaw7.FieldKnown': WHATEVER THE INPUT: true; the input reads as it did. -/
def fieldKnownSpec : ChangeSpec := { name := "fieldKnown", fn := fun _ => fun
  | [] => { results := [.lit (.bool true)], args := [] }
  | _ => none }
def fieldKnownRow : OpenClaim := { program := "ytnmcoebjkfpmjaa", sum := "cf1b4f0a9b452951e257b7fa82549c9492a6712d8cbd09e5e08e2d3914e09c47", func := "antiphon/antiphonlaw7.FieldKnown", spec := "fieldKnown", apart := false }
def FieldKnownSaid : Prop := fieldKnownRow.holds Try.pinned (OpenSpec.ofChange fieldKnownSpec)

/-- ITS FALSE NEIGHBOUR: 'it returns false'. Refute it at one input. -/
def fieldKnownWrong : ChangeSpec := { name := "fieldKnown", fn := fun _ => fun
  | [] => { results := [.lit (.bool false)], args := [] }
  | _ => none }
def FieldKnownWrongFalsely : Prop := fieldKnownRow.holds Try.pinned (OpenSpec.ofChange fieldKnownWrong)

/-- 'antiphonlaw7.FieldClasses': WHATEVER THE INPUT: true; the input reads as it did. -/
def fieldClassesSpec : ChangeSpec := { name := "fieldClasses", fn := fun _ => fun
  | [d1, d2, d3] => { results := [.lit (.bool true)], args := [d1, d2, d3] }
  | _ => none }
def fieldClassesRow : OpenClaim := { program := "ytnmcoebjkfpmjaa", sum := "cf1b4f0a9b452951e257b7fa82549c9492a6712d8cbd09e5e08e2d3914e09c47", func := "antiphon/antiphonlaw7.FieldClasses", spec := "fieldClasses", apart := false }
def FieldClassesSaid : Prop := fieldClassesRow.holds Try.pinned (OpenSpec.ofChange fieldClassesSpec)

/-- ITS FALSE NEIGHBOUR: 'it returns false'. Refute it at one input. -/
def fieldClassesWrong : ChangeSpec := { name := "fieldClasses", fn := fun _ => fun
  | [d1, d2, d3] => { results := [.lit (.bool false)], args := [d1, d2, d3] }
  | _ => none }
def FieldClassesWrongFalsely : Prop := fieldClassesRow.holds Try.pinned (OpenSpec.ofChange fieldClassesWrong)

/-- 'antiphonlaw7.FieldBack': WHATEVER THE INPUT: true; the input reads as it did. -/
def fieldBackSpec : ChangeSpec := { name := "fieldBack", fn := fun _ => fun
  | [d1, d2, d3] => { results := [.lit (.bool true)], args := [d1, d2, d3] }
  | _ => none }
def fieldBackRow : OpenClaim := { program := "ytnmcoebjkfpmjaa", sum := "cf1b4f0a9b452951e257b7fa82549c9492a6712d8cbd09e5e08e2d3914e09c47", func := "antiphon/antiphonlaw7.FieldBack", spec := "fieldBack", apart := false }
def FieldBackSaid : Prop := fieldBackRow.holds Try.pinned (OpenSpec.ofChange fieldBackSpec)

/-- ITS FALSE NEIGHBOUR: 'it returns false'. Refute it at one input. -/
def fieldBackWrong : ChangeSpec := { name := "fieldBack", fn := fun _ => fun
  | [d1, d2, d3] => { results := [.lit (.bool false)], args := [d1, d2, d3] }
  | _ => none }
def FieldBackWrongFalsely : Prop := fieldBackRow.holds Try.pinned (OpenSpec.ofChange fieldBackWrong)

/-- 'antiphonlaw7.FieldReasons': WHATEVER THE INPUT: true; the input reads as it did. -/
def fieldReasonsSpec : ChangeSpec := { name := "fieldReasons", fn := fun _ => fun
  | [d1, d2] => { results := [.lit (.bool true)], args := [d1, d2] }
  | _ => none }
def fieldReasonsRow : OpenClaim := { program := "ytnmcoebjkfpmjaa", sum := "cf1b4f0a9b452951e257b7fa82549c9492a6712d8cbd09e5e08e2d3914e09c47", func := "antiphon/antiphonlaw7.FieldReasons", spec := "fieldReasons", unfollowed := true, recurses := true, apart := false }
def FieldReasonsSaid : Prop := fieldReasonsRow.holds Try.pinned (OpenSpec.ofChange fieldReasonsSpec)

/-- ITS FALSE NEIGHBOUR: 'it returns false'. Refute it at one input. -/
def fieldReasonsWrong : ChangeSpec := { name := "fieldReasons", fn := fun _ => fun
  | [d1, d2] => { results := [.lit (.bool false)], args := [d1, d2] }
  | _ => none }
def FieldReasonsWrongFalsely : Prop := fieldReasonsRow.holds Try.pinned (OpenSpec.ofChange fieldReasonsWrong)

/-- 'antiphonlaw8.TellKnown': WHATEVER THE INPUT: true; the input reads as it did. -/
def tellKnownSpec : ChangeSpec := { name := "tellKnown", fn := fun _ => fun
  | [] => { results := [.lit (.bool true)], args := [] }
  | _ => none }
def tellKnownRow : OpenClaim := { program := "ytnmcoebjkfpmjaa", sum := "cf1b4f0a9b452951e257b7fa82549c9492a6712d8cbd09e5e08e2d3914e09c47", func := "antiphon/antiphonlaw8.TellKnown", spec := "tellKnown", apart := false }
def TellKnownSaid : Prop := tellKnownRow.holds Try.pinned (OpenSpec.ofChange tellKnownSpec)

/-- ITS FALSE NEIGHBOUR: 'it returns false'. Refute it at one input. -/
def tellKnownWrong : ChangeSpec := { name := "tellKnown", fn := fun _ => fun
  | [] => { results := [.lit (.bool false)], args := [] }
  | _ => none }
def TellKnownWrongFalsely : Prop := tellKnownRow.holds Try.pinned (OpenSpec.ofChange tellKnownWrong)

/-- 'antiphonlaw8.TellEvents': WHATEVER THE INPUT: true; the input reads as it did. -/
def tellEventsSpec : ChangeSpec := { name := "tellEvents", fn := fun _ => fun
  | [d1, d2, d3] => { results := [.lit (.bool true)], args := [d1, d2, d3] }
  | _ => none }
def tellEventsRow : OpenClaim := { program := "ytnmcoebjkfpmjaa", sum := "cf1b4f0a9b452951e257b7fa82549c9492a6712d8cbd09e5e08e2d3914e09c47", func := "antiphon/antiphonlaw8.TellEvents", spec := "tellEvents", apart := false }
def TellEventsSaid : Prop := tellEventsRow.holds Try.pinned (OpenSpec.ofChange tellEventsSpec)

/-- ITS FALSE NEIGHBOUR: 'it returns false'. Refute it at one input. -/
def tellEventsWrong : ChangeSpec := { name := "tellEvents", fn := fun _ => fun
  | [d1, d2, d3] => { results := [.lit (.bool false)], args := [d1, d2, d3] }
  | _ => none }
def TellEventsWrongFalsely : Prop := tellEventsRow.holds Try.pinned (OpenSpec.ofChange tellEventsWrong)

/-- 'antiphonlaw8.TellParts': WHATEVER THE INPUT: true; the input reads as it did. -/
def tellPartsSpec : ChangeSpec := { name := "tellParts", fn := fun _ => fun
  | [d1, d2, d3] => { results := [.lit (.bool true)], args := [d1, d2, d3] }
  | _ => none }
def tellPartsRow : OpenClaim := { program := "ytnmcoebjkfpmjaa", sum := "cf1b4f0a9b452951e257b7fa82549c9492a6712d8cbd09e5e08e2d3914e09c47", func := "antiphon/antiphonlaw8.TellParts", spec := "tellParts", apart := false }
def TellPartsSaid : Prop := tellPartsRow.holds Try.pinned (OpenSpec.ofChange tellPartsSpec)

/-- ITS FALSE NEIGHBOUR: 'it returns false'. Refute it at one input. -/
def tellPartsWrong : ChangeSpec := { name := "tellParts", fn := fun _ => fun
  | [d1, d2, d3] => { results := [.lit (.bool false)], args := [d1, d2, d3] }
  | _ => none }
def TellPartsWrongFalsely : Prop := tellPartsRow.holds Try.pinned (OpenSpec.ofChange tellPartsWrong)

/-- 'antiphonlaw8.TellRings': WHATEVER THE INPUT: true; the input reads as it did. -/
def tellRingsSpec : ChangeSpec := { name := "tellRings", fn := fun _ => fun
  | [d1, d2, d3] => { results := [.lit (.bool true)], args := [d1, d2, d3] }
  | _ => none }
def tellRingsRow : OpenClaim := { program := "ytnmcoebjkfpmjaa", sum := "cf1b4f0a9b452951e257b7fa82549c9492a6712d8cbd09e5e08e2d3914e09c47", func := "antiphon/antiphonlaw8.TellRings", spec := "tellRings", apart := false }
def TellRingsSaid : Prop := tellRingsRow.holds Try.pinned (OpenSpec.ofChange tellRingsSpec)

/-- ITS FALSE NEIGHBOUR: 'it returns false'. Refute it at one input. -/
def tellRingsWrong : ChangeSpec := { name := "tellRings", fn := fun _ => fun
  | [d1, d2, d3] => { results := [.lit (.bool false)], args := [d1, d2, d3] }
  | _ => none }
def TellRingsWrongFalsely : Prop := tellRingsRow.holds Try.pinned (OpenSpec.ofChange tellRingsWrong)

/-- 'antiphonlaw8.TellTypes': WHATEVER THE INPUT: true; the input reads as it did. -/
def tellTypesSpec : ChangeSpec := { name := "tellTypes", fn := fun _ => fun
  | [d] => { results := [.lit (.bool true)], args := [d] }
  | _ => none }
def tellTypesRow : OpenClaim := { program := "ytnmcoebjkfpmjaa", sum := "cf1b4f0a9b452951e257b7fa82549c9492a6712d8cbd09e5e08e2d3914e09c47", func := "antiphon/antiphonlaw8.TellTypes", spec := "tellTypes", apart := false }
def TellTypesSaid : Prop := tellTypesRow.holds Try.pinned (OpenSpec.ofChange tellTypesSpec)

/-- ITS FALSE NEIGHBOUR: 'it returns false'. Refute it at one input. -/
def tellTypesWrong : ChangeSpec := { name := "tellTypes", fn := fun _ => fun
  | [d] => { results := [.lit (.bool false)], args := [d] }
  | _ => none }
def TellTypesWrongFalsely : Prop := tellTypesRow.holds Try.pinned (OpenSpec.ofChange tellTypesWrong)

/-- 'antiphonlaw8.TellWindow': WHATEVER THE INPUT: true; the input reads as it did. -/
def tellWindowSpec : ChangeSpec := { name := "tellWindow", fn := fun _ => fun
  | [d1, d2, d3] => { results := [.lit (.bool true)], args := [d1, d2, d3] }
  | _ => none }
def tellWindowRow : OpenClaim := { program := "ytnmcoebjkfpmjaa", sum := "cf1b4f0a9b452951e257b7fa82549c9492a6712d8cbd09e5e08e2d3914e09c47", func := "antiphon/antiphonlaw8.TellWindow", spec := "tellWindow", apart := false }
def TellWindowSaid : Prop := tellWindowRow.holds Try.pinned (OpenSpec.ofChange tellWindowSpec)

/-- ITS FALSE NEIGHBOUR: 'it returns false'. Refute it at one input. -/
def tellWindowWrong : ChangeSpec := { name := "tellWindow", fn := fun _ => fun
  | [d1, d2, d3] => { results := [.lit (.bool false)], args := [d1, d2, d3] }
  | _ => none }
def TellWindowWrongFalsely : Prop := tellWindowRow.holds Try.pinned (OpenSpec.ofChange tellWindowWrong)

/-- 'antiphonlaw14.TwinKnown': WHATEVER THE INPUT: true; the input reads as it did. -/
def twinKnownSpec : ChangeSpec := { name := "twinKnown", fn := fun _ => fun
  | [] => { results := [.lit (.bool true)], args := [] }
  | _ => none }
def twinKnownRow : OpenClaim := { program := "ytnmcoebjkfpmjaa", sum := "cf1b4f0a9b452951e257b7fa82549c9492a6712d8cbd09e5e08e2d3914e09c47", func := "antiphon/antiphonlaw14.TwinKnown", spec := "twinKnown", unfollowed := true, recurses := true, apart := false }
def TwinKnownSaid : Prop := twinKnownRow.holds Try.pinned (OpenSpec.ofChange twinKnownSpec)

/-- ITS FALSE NEIGHBOUR: 'it returns false'. Refute it at one input. -/
def twinKnownWrong : ChangeSpec := { name := "twinKnown", fn := fun _ => fun
  | [] => { results := [.lit (.bool false)], args := [] }
  | _ => none }
def TwinKnownWrongFalsely : Prop := twinKnownRow.holds Try.pinned (OpenSpec.ofChange twinKnownWrong)

/-- 'antiphonlaw14.TwinPlays': WHATEVER THE INPUT: true; the input reads as it did. -/
def twinPlaysSpec : ChangeSpec := { name := "twinPlays", fn := fun _ => fun
  | [d1, d2, d3] => { results := [.lit (.bool true)], args := [d1, d2, d3] }
  | _ => none }
def twinPlaysRow : OpenClaim := { program := "ytnmcoebjkfpmjaa", sum := "cf1b4f0a9b452951e257b7fa82549c9492a6712d8cbd09e5e08e2d3914e09c47", func := "antiphon/antiphonlaw14.TwinPlays", spec := "twinPlays", unfollowed := true, recurses := true, apart := false }
def TwinPlaysSaid : Prop := twinPlaysRow.holds Try.pinned (OpenSpec.ofChange twinPlaysSpec)

/-- ITS FALSE NEIGHBOUR: 'it returns false'. Refute it at one input. -/
def twinPlaysWrong : ChangeSpec := { name := "twinPlays", fn := fun _ => fun
  | [d1, d2, d3] => { results := [.lit (.bool false)], args := [d1, d2, d3] }
  | _ => none }
def TwinPlaysWrongFalsely : Prop := twinPlaysRow.holds Try.pinned (OpenSpec.ofChange twinPlaysWrong)

/-- 'antiphonlaw14.TwinEnds': WHATEVER THE INPUT: true; the input reads as it did. -/
def twinEndsSpec : ChangeSpec := { name := "twinEnds", fn := fun _ => fun
  | [d1, d2, d3] => { results := [.lit (.bool true)], args := [d1, d2, d3] }
  | _ => none }
def twinEndsRow : OpenClaim := { program := "ytnmcoebjkfpmjaa", sum := "cf1b4f0a9b452951e257b7fa82549c9492a6712d8cbd09e5e08e2d3914e09c47", func := "antiphon/antiphonlaw14.TwinEnds", spec := "twinEnds", unfollowed := true, recurses := true, apart := false }
def TwinEndsSaid : Prop := twinEndsRow.holds Try.pinned (OpenSpec.ofChange twinEndsSpec)

/-- ITS FALSE NEIGHBOUR: 'it returns false'. Refute it at one input. -/
def twinEndsWrong : ChangeSpec := { name := "twinEnds", fn := fun _ => fun
  | [d1, d2, d3] => { results := [.lit (.bool false)], args := [d1, d2, d3] }
  | _ => none }
def TwinEndsWrongFalsely : Prop := twinEndsRow.holds Try.pinned (OpenSpec.ofChange twinEndsWrong)

/-- 'antiphonlaw14.TwinHears': WHATEVER THE INPUT: true; the input reads as it did. -/
def twinHearsSpec : ChangeSpec := { name := "twinHears", fn := fun _ => fun
  | [d1, d2, d3] => { results := [.lit (.bool true)], args := [d1, d2, d3] }
  | _ => none }
def twinHearsRow : OpenClaim := { program := "ytnmcoebjkfpmjaa", sum := "cf1b4f0a9b452951e257b7fa82549c9492a6712d8cbd09e5e08e2d3914e09c47", func := "antiphon/antiphonlaw14.TwinHears", spec := "twinHears", unfollowed := true, recurses := true, apart := false }
def TwinHearsSaid : Prop := twinHearsRow.holds Try.pinned (OpenSpec.ofChange twinHearsSpec)

/-- ITS FALSE NEIGHBOUR: 'it returns false'. Refute it at one input. -/
def twinHearsWrong : ChangeSpec := { name := "twinHears", fn := fun _ => fun
  | [d1, d2, d3] => { results := [.lit (.bool false)], args := [d1, d2, d3] }
  | _ => none }
def TwinHearsWrongFalsely : Prop := twinHearsRow.holds Try.pinned (OpenSpec.ofChange twinHearsWrong)

/-- 'antiphonlaw23.ClassTable': WHATEVER THE INPUT: true; the input reads as it did. -/
def classTableSpec : ChangeSpec := { name := "classTable", fn := fun _ => fun
  | [d] => { results := [.lit (.bool true)], args := [d] }
  | _ => none }
def classTableRow : OpenClaim := { program := "ytnmcoebjkfpmjaa", sum := "cf1b4f0a9b452951e257b7fa82549c9492a6712d8cbd09e5e08e2d3914e09c47", func := "antiphon/antiphonlaw23.ClassTable", spec := "classTable", apart := false }
def ClassTableSaid : Prop := classTableRow.holds Try.pinned (OpenSpec.ofChange classTableSpec)

/-- ITS FALSE NEIGHBOUR: 'it returns false'. Refute it at one input. -/
def classTableWrong : ChangeSpec := { name := "classTable", fn := fun _ => fun
  | [d] => { results := [.lit (.bool false)], args := [d] }
  | _ => none }
def ClassTableWrongFalsely : Prop := classTableRow.holds Try.pinned (OpenSpec.ofChange classTableWrong)

/-- 'antiphonlaw23.ClassKnown': WHATEVER THE INPUT: true; the input reads as it did. -/
def classKnownSpec : ChangeSpec := { name := "classKnown", fn := fun _ => fun
  | [] => { results := [.lit (.bool true)], args := [] }
  | _ => none }
def classKnownRow : OpenClaim := { program := "ytnmcoebjkfpmjaa", sum := "cf1b4f0a9b452951e257b7fa82549c9492a6712d8cbd09e5e08e2d3914e09c47", func := "antiphon/antiphonlaw23.ClassKnown", spec := "classKnown", apart := false }
def ClassKnownSaid : Prop := classKnownRow.holds Try.pinned (OpenSpec.ofChange classKnownSpec)

/-- ITS FALSE NEIGHBOUR: 'it returns false'. Refute it at one input. -/
def classKnownWrong : ChangeSpec := { name := "classKnown", fn := fun _ => fun
  | [] => { results := [.lit (.bool false)], args := [] }
  | _ => none }
def ClassKnownWrongFalsely : Prop := classKnownRow.holds Try.pinned (OpenSpec.ofChange classKnownWrong)

/-- 'antiphonlaw23.ClassRefuses': WHATEVER THE INPUT: true; the input reads as it did. -/
def classRefusesSpec : ChangeSpec := { name := "classRefuses", fn := fun _ => fun
  | [d1, d2, d3] => { results := [.lit (.bool true)], args := [d1, d2, d3] }
  | _ => none }
def classRefusesRow : OpenClaim := { program := "ytnmcoebjkfpmjaa", sum := "cf1b4f0a9b452951e257b7fa82549c9492a6712d8cbd09e5e08e2d3914e09c47", func := "antiphon/antiphonlaw23.ClassRefuses", spec := "classRefuses", apart := false }
def ClassRefusesSaid : Prop := classRefusesRow.holds Try.pinned (OpenSpec.ofChange classRefusesSpec)

/-- ITS FALSE NEIGHBOUR: 'it returns false'. Refute it at one input. -/
def classRefusesWrong : ChangeSpec := { name := "classRefuses", fn := fun _ => fun
  | [d1, d2, d3] => { results := [.lit (.bool false)], args := [d1, d2, d3] }
  | _ => none }
def ClassRefusesWrongFalsely : Prop := classRefusesRow.holds Try.pinned (OpenSpec.ofChange classRefusesWrong)

/-- 'antiphonlaw23.ClassAnswers': WHATEVER THE INPUT: true; the input reads as it did. -/
def classAnswersSpec : ChangeSpec := { name := "classAnswers", fn := fun _ => fun
  | [d1, d2, d3] => { results := [.lit (.bool true)], args := [d1, d2, d3] }
  | _ => none }
def classAnswersRow : OpenClaim := { program := "ytnmcoebjkfpmjaa", sum := "cf1b4f0a9b452951e257b7fa82549c9492a6712d8cbd09e5e08e2d3914e09c47", func := "antiphon/antiphonlaw23.ClassAnswers", spec := "classAnswers", apart := false }
def ClassAnswersSaid : Prop := classAnswersRow.holds Try.pinned (OpenSpec.ofChange classAnswersSpec)

/-- ITS FALSE NEIGHBOUR: 'it returns false'. Refute it at one input. -/
def classAnswersWrong : ChangeSpec := { name := "classAnswers", fn := fun _ => fun
  | [d1, d2, d3] => { results := [.lit (.bool false)], args := [d1, d2, d3] }
  | _ => none }
def ClassAnswersWrongFalsely : Prop := classAnswersRow.holds Try.pinned (OpenSpec.ofChange classAnswersWrong)

/- THE SECOND FORM. 'bulk': how many values and letters a reading holds, each counted each time it is reached (what is shared counts as often as it is met; a slice's spare places count too). A statement '..UptoSaid' is the law's where the arguments, and the package variables that the reading takes, are together of bulk at most 1048576: NARROWER than '..Said'. Prove '..Said' where nothing that the law and all that it calls make is longer than what came in: it says more and counts as full. Else prove '..UptoSaid'. A law counts once. -/
mutual
def uptoBulk {H : Type} : DataW H → Nat
  | .lit (.string bytes) => bytes.length + 1
  | .lit _ => 1
  | .nil => 1
  | .ptr d => uptoBulk d + 1
  | .slice elems spare => uptoBulkAll elems + uptoBulkAll spare + 1
  | .agg parts => uptoBulkAll parts + 1
  | .iface _ d => uptoBulk d + 1
  | .map entries => uptoBulkEntries entries + 1
  | .held _ => 1
def uptoBulkAll {H : Type} : List (DataW H) → Nat
  | [] => 0
  | d :: r => uptoBulk d + uptoBulkAll r
def uptoBulkEntries {H : Type} : List (Lit × DataW H) → Nat
  | [] => 0
  | x :: r => uptoBulkEntry x + uptoBulkEntries r
def uptoBulkEntry {H : Type} : Lit × DataW H → Nat
  | (.string bytes, d) => bytes.length + uptoBulk d + 1
  | (_, d) => uptoBulk d + 1
 end
def uptoSmall : (H : Type) → List (DataW H) → Bool := fun _ ds => decide (uptoBulkAll ds ≤ 1048576)
def OpenSpec.upto (s : _root_.Go.ChangeSpec) : _root_.Go.OpenSpec := { _root_.Go.OpenSpec.ofChange s with cond := some uptoSmall }

/-- 'antiphonlaw6.PduKnown', WHERE WHAT IT READS IS OF BULK AT MOST 1048576: true; the input reads as it did. -/
def pduKnownUptoRow : OpenClaim := { program := "ytnmcoebjkfpmjaa", sum := "cf1b4f0a9b452951e257b7fa82549c9492a6712d8cbd09e5e08e2d3914e09c47", func := "antiphon/antiphonlaw6.PduKnown", spec := "pduKnown", apart := false, narrowed := true }
def PduKnownUptoSaid : Prop := pduKnownUptoRow.holds Try.pinned (OpenSpec.upto pduKnownSpec)

/-- 'antiphonlaw6.PduCodes', WHERE WHAT IT READS IS OF BULK AT MOST 1048576: true; the input reads as it did. -/
def pduCodesUptoRow : OpenClaim := { program := "ytnmcoebjkfpmjaa", sum := "cf1b4f0a9b452951e257b7fa82549c9492a6712d8cbd09e5e08e2d3914e09c47", func := "antiphon/antiphonlaw6.PduCodes", spec := "pduCodes", apart := false, narrowed := true }
def PduCodesUptoSaid : Prop := pduCodesUptoRow.holds Try.pinned (OpenSpec.upto pduCodesSpec)

/-- 'antiphonlaw6.PduAll', WHERE WHAT IT READS IS OF BULK AT MOST 1048576: true; the input reads as it did. -/
def pduAllUptoRow : OpenClaim := { program := "ytnmcoebjkfpmjaa", sum := "cf1b4f0a9b452951e257b7fa82549c9492a6712d8cbd09e5e08e2d3914e09c47", func := "antiphon/antiphonlaw6.PduAll", spec := "pduAll", apart := false, narrowed := true }
def PduAllUptoSaid : Prop := pduAllUptoRow.holds Try.pinned (OpenSpec.upto pduAllSpec)

/-- 'antiphonlaw6.PduKinds', WHERE WHAT IT READS IS OF BULK AT MOST 1048576: true; the input reads as it did. -/
def pduKindsUptoRow : OpenClaim := { program := "ytnmcoebjkfpmjaa", sum := "cf1b4f0a9b452951e257b7fa82549c9492a6712d8cbd09e5e08e2d3914e09c47", func := "antiphon/antiphonlaw6.PduKinds", spec := "pduKinds", apart := false, narrowed := true }
def PduKindsUptoSaid : Prop := pduKindsUptoRow.holds Try.pinned (OpenSpec.upto pduKindsSpec)

/-- 'antiphonlaw6.PduCuts', WHERE WHAT IT READS IS OF BULK AT MOST 1048576: true; the input reads as it did. -/
def pduCutsUptoRow : OpenClaim := { program := "ytnmcoebjkfpmjaa", sum := "cf1b4f0a9b452951e257b7fa82549c9492a6712d8cbd09e5e08e2d3914e09c47", func := "antiphon/antiphonlaw6.PduCuts", spec := "pduCuts", apart := false, narrowed := true }
def PduCutsUptoSaid : Prop := pduCutsUptoRow.holds Try.pinned (OpenSpec.upto pduCutsSpec)

/-- 'antiphonlaw6.PduBack', WHERE WHAT IT READS IS OF BULK AT MOST 1048576: true; the input reads as it did. -/
def pduBackUptoRow : OpenClaim := { program := "ytnmcoebjkfpmjaa", sum := "cf1b4f0a9b452951e257b7fa82549c9492a6712d8cbd09e5e08e2d3914e09c47", func := "antiphon/antiphonlaw6.PduBack", spec := "pduBack", apart := false, narrowed := true }
def PduBackUptoSaid : Prop := pduBackUptoRow.holds Try.pinned (OpenSpec.upto pduBackSpec)

/-- 'antiphonlaw6.PduSaps', WHERE WHAT IT READS IS OF BULK AT MOST 1048576: true; the input reads as it did. -/
def pduSapsUptoRow : OpenClaim := { program := "ytnmcoebjkfpmjaa", sum := "cf1b4f0a9b452951e257b7fa82549c9492a6712d8cbd09e5e08e2d3914e09c47", func := "antiphon/antiphonlaw6.PduSaps", spec := "pduSaps", apart := false, narrowed := true }
def PduSapsUptoSaid : Prop := pduSapsUptoRow.holds Try.pinned (OpenSpec.upto pduSapsSpec)

/-- 'antiphonlaw7.FieldKnown', WHERE WHAT IT READS IS OF BULK AT MOST 1048576: true; the input reads as it did. -/
def fieldKnownUptoRow : OpenClaim := { program := "ytnmcoebjkfpmjaa", sum := "cf1b4f0a9b452951e257b7fa82549c9492a6712d8cbd09e5e08e2d3914e09c47", func := "antiphon/antiphonlaw7.FieldKnown", spec := "fieldKnown", apart := false, narrowed := true }
def FieldKnownUptoSaid : Prop := fieldKnownUptoRow.holds Try.pinned (OpenSpec.upto fieldKnownSpec)

/-- 'antiphonlaw7.FieldClasses', WHERE WHAT IT READS IS OF BULK AT MOST 1048576: true; the input reads as it did. -/
def fieldClassesUptoRow : OpenClaim := { program := "ytnmcoebjkfpmjaa", sum := "cf1b4f0a9b452951e257b7fa82549c9492a6712d8cbd09e5e08e2d3914e09c47", func := "antiphon/antiphonlaw7.FieldClasses", spec := "fieldClasses", apart := false, narrowed := true }
def FieldClassesUptoSaid : Prop := fieldClassesUptoRow.holds Try.pinned (OpenSpec.upto fieldClassesSpec)

/-- 'antiphonlaw7.FieldBack', WHERE WHAT IT READS IS OF BULK AT MOST 1048576: true; the input reads as it did. -/
def fieldBackUptoRow : OpenClaim := { program := "ytnmcoebjkfpmjaa", sum := "cf1b4f0a9b452951e257b7fa82549c9492a6712d8cbd09e5e08e2d3914e09c47", func := "antiphon/antiphonlaw7.FieldBack", spec := "fieldBack", apart := false, narrowed := true }
def FieldBackUptoSaid : Prop := fieldBackUptoRow.holds Try.pinned (OpenSpec.upto fieldBackSpec)

/-- 'antiphonlaw7.FieldReasons', WHERE WHAT IT READS IS OF BULK AT MOST 1048576: true; the input reads as it did. -/
def fieldReasonsUptoRow : OpenClaim := { program := "ytnmcoebjkfpmjaa", sum := "cf1b4f0a9b452951e257b7fa82549c9492a6712d8cbd09e5e08e2d3914e09c47", func := "antiphon/antiphonlaw7.FieldReasons", spec := "fieldReasons", unfollowed := true, recurses := true, apart := false, narrowed := true }
def FieldReasonsUptoSaid : Prop := fieldReasonsUptoRow.holds Try.pinned (OpenSpec.upto fieldReasonsSpec)

/-- 'antiphonlaw8.TellKnown', WHERE WHAT IT READS IS OF BULK AT MOST 1048576: true; the input reads as it did. -/
def tellKnownUptoRow : OpenClaim := { program := "ytnmcoebjkfpmjaa", sum := "cf1b4f0a9b452951e257b7fa82549c9492a6712d8cbd09e5e08e2d3914e09c47", func := "antiphon/antiphonlaw8.TellKnown", spec := "tellKnown", apart := false, narrowed := true }
def TellKnownUptoSaid : Prop := tellKnownUptoRow.holds Try.pinned (OpenSpec.upto tellKnownSpec)

/-- 'antiphonlaw8.TellEvents', WHERE WHAT IT READS IS OF BULK AT MOST 1048576: true; the input reads as it did. -/
def tellEventsUptoRow : OpenClaim := { program := "ytnmcoebjkfpmjaa", sum := "cf1b4f0a9b452951e257b7fa82549c9492a6712d8cbd09e5e08e2d3914e09c47", func := "antiphon/antiphonlaw8.TellEvents", spec := "tellEvents", apart := false, narrowed := true }
def TellEventsUptoSaid : Prop := tellEventsUptoRow.holds Try.pinned (OpenSpec.upto tellEventsSpec)

/-- 'antiphonlaw8.TellParts', WHERE WHAT IT READS IS OF BULK AT MOST 1048576: true; the input reads as it did. -/
def tellPartsUptoRow : OpenClaim := { program := "ytnmcoebjkfpmjaa", sum := "cf1b4f0a9b452951e257b7fa82549c9492a6712d8cbd09e5e08e2d3914e09c47", func := "antiphon/antiphonlaw8.TellParts", spec := "tellParts", apart := false, narrowed := true }
def TellPartsUptoSaid : Prop := tellPartsUptoRow.holds Try.pinned (OpenSpec.upto tellPartsSpec)

/-- 'antiphonlaw8.TellRings', WHERE WHAT IT READS IS OF BULK AT MOST 1048576: true; the input reads as it did. -/
def tellRingsUptoRow : OpenClaim := { program := "ytnmcoebjkfpmjaa", sum := "cf1b4f0a9b452951e257b7fa82549c9492a6712d8cbd09e5e08e2d3914e09c47", func := "antiphon/antiphonlaw8.TellRings", spec := "tellRings", apart := false, narrowed := true }
def TellRingsUptoSaid : Prop := tellRingsUptoRow.holds Try.pinned (OpenSpec.upto tellRingsSpec)

/-- 'antiphonlaw8.TellTypes', WHERE WHAT IT READS IS OF BULK AT MOST 1048576: true; the input reads as it did. -/
def tellTypesUptoRow : OpenClaim := { program := "ytnmcoebjkfpmjaa", sum := "cf1b4f0a9b452951e257b7fa82549c9492a6712d8cbd09e5e08e2d3914e09c47", func := "antiphon/antiphonlaw8.TellTypes", spec := "tellTypes", apart := false, narrowed := true }
def TellTypesUptoSaid : Prop := tellTypesUptoRow.holds Try.pinned (OpenSpec.upto tellTypesSpec)

/-- 'antiphonlaw8.TellWindow', WHERE WHAT IT READS IS OF BULK AT MOST 1048576: true; the input reads as it did. -/
def tellWindowUptoRow : OpenClaim := { program := "ytnmcoebjkfpmjaa", sum := "cf1b4f0a9b452951e257b7fa82549c9492a6712d8cbd09e5e08e2d3914e09c47", func := "antiphon/antiphonlaw8.TellWindow", spec := "tellWindow", apart := false, narrowed := true }
def TellWindowUptoSaid : Prop := tellWindowUptoRow.holds Try.pinned (OpenSpec.upto tellWindowSpec)

/-- 'antiphonlaw14.TwinKnown', WHERE WHAT IT READS IS OF BULK AT MOST 1048576: true; the input reads as it did. -/
def twinKnownUptoRow : OpenClaim := { program := "ytnmcoebjkfpmjaa", sum := "cf1b4f0a9b452951e257b7fa82549c9492a6712d8cbd09e5e08e2d3914e09c47", func := "antiphon/antiphonlaw14.TwinKnown", spec := "twinKnown", unfollowed := true, recurses := true, apart := false, narrowed := true }
def TwinKnownUptoSaid : Prop := twinKnownUptoRow.holds Try.pinned (OpenSpec.upto twinKnownSpec)

/-- 'antiphonlaw14.TwinPlays', WHERE WHAT IT READS IS OF BULK AT MOST 1048576: true; the input reads as it did. -/
def twinPlaysUptoRow : OpenClaim := { program := "ytnmcoebjkfpmjaa", sum := "cf1b4f0a9b452951e257b7fa82549c9492a6712d8cbd09e5e08e2d3914e09c47", func := "antiphon/antiphonlaw14.TwinPlays", spec := "twinPlays", unfollowed := true, recurses := true, apart := false, narrowed := true }
def TwinPlaysUptoSaid : Prop := twinPlaysUptoRow.holds Try.pinned (OpenSpec.upto twinPlaysSpec)

/-- 'antiphonlaw14.TwinEnds', WHERE WHAT IT READS IS OF BULK AT MOST 1048576: true; the input reads as it did. -/
def twinEndsUptoRow : OpenClaim := { program := "ytnmcoebjkfpmjaa", sum := "cf1b4f0a9b452951e257b7fa82549c9492a6712d8cbd09e5e08e2d3914e09c47", func := "antiphon/antiphonlaw14.TwinEnds", spec := "twinEnds", unfollowed := true, recurses := true, apart := false, narrowed := true }
def TwinEndsUptoSaid : Prop := twinEndsUptoRow.holds Try.pinned (OpenSpec.upto twinEndsSpec)

/-- 'antiphonlaw14.TwinHears', WHERE WHAT IT READS IS OF BULK AT MOST 1048576: true; the input reads as it did. -/
def twinHearsUptoRow : OpenClaim := { program := "ytnmcoebjkfpmjaa", sum := "cf1b4f0a9b452951e257b7fa82549c9492a6712d8cbd09e5e08e2d3914e09c47", func := "antiphon/antiphonlaw14.TwinHears", spec := "twinHears", unfollowed := true, recurses := true, apart := false, narrowed := true }
def TwinHearsUptoSaid : Prop := twinHearsUptoRow.holds Try.pinned (OpenSpec.upto twinHearsSpec)

/-- 'antiphonlaw23.ClassTable', WHERE WHAT IT READS IS OF BULK AT MOST 1048576: true; the input reads as it did. -/
def classTableUptoRow : OpenClaim := { program := "ytnmcoebjkfpmjaa", sum := "cf1b4f0a9b452951e257b7fa82549c9492a6712d8cbd09e5e08e2d3914e09c47", func := "antiphon/antiphonlaw23.ClassTable", spec := "classTable", apart := false, narrowed := true }
def ClassTableUptoSaid : Prop := classTableUptoRow.holds Try.pinned (OpenSpec.upto classTableSpec)

/-- 'antiphonlaw23.ClassKnown', WHERE WHAT IT READS IS OF BULK AT MOST 1048576: true; the input reads as it did. -/
def classKnownUptoRow : OpenClaim := { program := "ytnmcoebjkfpmjaa", sum := "cf1b4f0a9b452951e257b7fa82549c9492a6712d8cbd09e5e08e2d3914e09c47", func := "antiphon/antiphonlaw23.ClassKnown", spec := "classKnown", apart := false, narrowed := true }
def ClassKnownUptoSaid : Prop := classKnownUptoRow.holds Try.pinned (OpenSpec.upto classKnownSpec)

/-- 'antiphonlaw23.ClassRefuses', WHERE WHAT IT READS IS OF BULK AT MOST 1048576: true; the input reads as it did. -/
def classRefusesUptoRow : OpenClaim := { program := "ytnmcoebjkfpmjaa", sum := "cf1b4f0a9b452951e257b7fa82549c9492a6712d8cbd09e5e08e2d3914e09c47", func := "antiphon/antiphonlaw23.ClassRefuses", spec := "classRefuses", apart := false, narrowed := true }
def ClassRefusesUptoSaid : Prop := classRefusesUptoRow.holds Try.pinned (OpenSpec.upto classRefusesSpec)

/-- 'antiphonlaw23.ClassAnswers', WHERE WHAT IT READS IS OF BULK AT MOST 1048576: true; the input reads as it did. -/
def classAnswersUptoRow : OpenClaim := { program := "ytnmcoebjkfpmjaa", sum := "cf1b4f0a9b452951e257b7fa82549c9492a6712d8cbd09e5e08e2d3914e09c47", func := "antiphon/antiphonlaw23.ClassAnswers", spec := "classAnswers", apart := false, narrowed := true }
def ClassAnswersUptoSaid : Prop := classAnswersUptoRow.holds Try.pinned (OpenSpec.upto classAnswersSpec)

end Rows
end Go.Proofs.Ytnmcoebjkfpmjaa
