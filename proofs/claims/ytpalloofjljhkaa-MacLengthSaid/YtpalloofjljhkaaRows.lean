/-
  No cell of these rows narrows 'for every input' (looked for: loops, veiled, ifaces, maps, wideKeys, modest, calm, conditions, laid).
  DERIVED. THE GIVEN ROWS OF THIS SEAT. 16 by the template 'for every input the law returns true; each argument reads behind the call as it read before'; 0 by the template 'total and deterministic' (their statements: YtpalloofjljhkaaTotals.lean).
  GIVEN WITH THE SEED: the statements are not yours to turn. If you find one false, say at which input.
  Laid BY PROGRAM, IN A SANDBOX (cutbox-rows.mjs): the forced cells as the released guide's own fill.sh prints them over the translation 964c712000baaa83… (all of the seat's roots in one cut). By AI agents, Wed Nov 11 2026. No macro, syntax, notation, axiom, sorry.
-/
import Derived.Test.YtpalloofjljhkaaChecked
import GoSem.Claim
import GoSem.ClaimJoined
import GoSem.ClaimMapViews
import Derived.JoinedTies
import Derived.KernelRfl
namespace Go.Proofs.Ytpalloofjljhkaa
/- THE CELL 'sum', in the pinned program and in every row, IS THE sha256 OF THE DUMP (.gsa) THAT YtpalloofjljhkaaProg.lean LOADS. Nothing in Lean hashes anything: it is a label: what it is worth is what the hold of that sum in a sandbox is worth. -/
noncomputable def Try.pinned : Pinned := { name := "ytpalloofjljhkaa", sum := "964c712000baaa831388d8dd5cf1ec0ea8577ebad4ae3dbe1d04dfe6e1811265", checked := Try.checked }
namespace Rows
def none {H : Type} : Left H := { results := [], args := [] }

/-- 'antiphonlaw2.CrcZero': WHATEVER THE INPUT: true; the input reads as it did. -/
def crcZeroSpec : ChangeSpec := { name := "crcZero", fn := fun _ => fun
  | [d] => { results := [.lit (.bool true)], args := [d] }
  | _ => none }
def crcZeroRow : OpenClaim := { program := "ytpalloofjljhkaa", sum := "964c712000baaa831388d8dd5cf1ec0ea8577ebad4ae3dbe1d04dfe6e1811265", func := "antiphon/antiphonlaw2.CrcZero", spec := "crcZero", apart := false }
def CrcZeroSaid : Prop := crcZeroRow.holds Try.pinned (OpenSpec.ofChange crcZeroSpec)

/-- ITS FALSE NEIGHBOUR: 'it returns false'. Refute it at one input. -/
def crcZeroWrong : ChangeSpec := { name := "crcZero", fn := fun _ => fun
  | [d] => { results := [.lit (.bool false)], args := [d] }
  | _ => none }
def CrcZeroWrongFalsely : Prop := crcZeroRow.holds Try.pinned (OpenSpec.ofChange crcZeroWrong)

/-- 'antiphonlaw2.CrcLinear': WHATEVER THE INPUT: true; the input reads as it did. -/
def crcLinearSpec : ChangeSpec := { name := "crcLinear", fn := fun _ => fun
  | [d1, d2, d3] => { results := [.lit (.bool true)], args := [d1, d2, d3] }
  | _ => none }
def crcLinearRow : OpenClaim := { program := "ytpalloofjljhkaa", sum := "964c712000baaa831388d8dd5cf1ec0ea8577ebad4ae3dbe1d04dfe6e1811265", func := "antiphon/antiphonlaw2.CrcLinear", spec := "crcLinear", apart := false }
def CrcLinearSaid : Prop := crcLinearRow.holds Try.pinned (OpenSpec.ofChange crcLinearSpec)

/-- ITS FALSE NEIGHBOUR: 'it returns false'. Refute it at one input. -/
def crcLinearWrong : ChangeSpec := { name := "crcLinear", fn := fun _ => fun
  | [d1, d2, d3] => { results := [.lit (.bool false)], args := [d1, d2, d3] }
  | _ => none }
def CrcLinearWrongFalsely : Prop := crcLinearRow.holds Try.pinned (OpenSpec.ofChange crcLinearWrong)

/-- 'antiphonlaw2.CrcParts': WHATEVER THE INPUT: true; the input reads as it did. -/
def crcPartsSpec : ChangeSpec := { name := "crcParts", fn := fun _ => fun
  | [d] => { results := [.lit (.bool true)], args := [d] }
  | _ => none }
def crcPartsRow : OpenClaim := { program := "ytpalloofjljhkaa", sum := "964c712000baaa831388d8dd5cf1ec0ea8577ebad4ae3dbe1d04dfe6e1811265", func := "antiphon/antiphonlaw2.CrcParts", spec := "crcParts", apart := false }
def CrcPartsSaid : Prop := crcPartsRow.holds Try.pinned (OpenSpec.ofChange crcPartsSpec)

/-- ITS FALSE NEIGHBOUR: 'it returns false'. Refute it at one input. -/
def crcPartsWrong : ChangeSpec := { name := "crcParts", fn := fun _ => fun
  | [d] => { results := [.lit (.bool false)], args := [d] }
  | _ => none }
def CrcPartsWrongFalsely : Prop := crcPartsRow.holds Try.pinned (OpenSpec.ofChange crcPartsWrong)

/-- 'antiphonlaw2.CrcUnlike': WHATEVER THE INPUT: true; the input reads as it did. -/
def crcUnlikeSpec : ChangeSpec := { name := "crcUnlike", fn := fun _ => fun
  | [d1, d2, d3] => { results := [.lit (.bool true)], args := [d1, d2, d3] }
  | _ => none }
def crcUnlikeRow : OpenClaim := { program := "ytpalloofjljhkaa", sum := "964c712000baaa831388d8dd5cf1ec0ea8577ebad4ae3dbe1d04dfe6e1811265", func := "antiphon/antiphonlaw2.CrcUnlike", spec := "crcUnlike", apart := false }
def CrcUnlikeSaid : Prop := crcUnlikeRow.holds Try.pinned (OpenSpec.ofChange crcUnlikeSpec)

/-- ITS FALSE NEIGHBOUR: 'it returns false'. Refute it at one input. -/
def crcUnlikeWrong : ChangeSpec := { name := "crcUnlike", fn := fun _ => fun
  | [d1, d2, d3] => { results := [.lit (.bool false)], args := [d1, d2, d3] }
  | _ => none }
def CrcUnlikeWrongFalsely : Prop := crcUnlikeRow.holds Try.pinned (OpenSpec.ofChange crcUnlikeWrong)

/-- 'antiphonlaw2.CrcBursts': WHATEVER THE INPUT: true; the input reads as it did. -/
def crcBurstsSpec : ChangeSpec := { name := "crcBursts", fn := fun _ => fun
  | [d1, d2, d3] => { results := [.lit (.bool true)], args := [d1, d2, d3] }
  | _ => none }
def crcBurstsRow : OpenClaim := { program := "ytpalloofjljhkaa", sum := "964c712000baaa831388d8dd5cf1ec0ea8577ebad4ae3dbe1d04dfe6e1811265", func := "antiphon/antiphonlaw2.CrcBursts", spec := "crcBursts", apart := false }
def CrcBurstsSaid : Prop := crcBurstsRow.holds Try.pinned (OpenSpec.ofChange crcBurstsSpec)

/-- ITS FALSE NEIGHBOUR: 'it returns false'. Refute it at one input. -/
def crcBurstsWrong : ChangeSpec := { name := "crcBursts", fn := fun _ => fun
  | [d1, d2, d3] => { results := [.lit (.bool false)], args := [d1, d2, d3] }
  | _ => none }
def CrcBurstsWrongFalsely : Prop := crcBurstsRow.holds Try.pinned (OpenSpec.ofChange crcBurstsWrong)

/-- 'antiphonlaw2.CrcKnown': WHATEVER THE INPUT: true; the input reads as it did. -/
def crcKnownSpec : ChangeSpec := { name := "crcKnown", fn := fun _ => fun
  | [] => { results := [.lit (.bool true)], args := [] }
  | _ => none }
def crcKnownRow : OpenClaim := { program := "ytpalloofjljhkaa", sum := "964c712000baaa831388d8dd5cf1ec0ea8577ebad4ae3dbe1d04dfe6e1811265", func := "antiphon/antiphonlaw2.CrcKnown", spec := "crcKnown", apart := false }
def CrcKnownSaid : Prop := crcKnownRow.holds Try.pinned (OpenSpec.ofChange crcKnownSpec)

/-- ITS FALSE NEIGHBOUR: 'it returns false'. Refute it at one input. -/
def crcKnownWrong : ChangeSpec := { name := "crcKnown", fn := fun _ => fun
  | [] => { results := [.lit (.bool false)], args := [] }
  | _ => none }
def CrcKnownWrongFalsely : Prop := crcKnownRow.holds Try.pinned (OpenSpec.ofChange crcKnownWrong)

/-- 'antiphonlaw2.CrcSums': WHATEVER THE INPUT: true; the input reads as it did. -/
def crcSumsSpec : ChangeSpec := { name := "crcSums", fn := fun _ => fun
  | [d1, d2] => { results := [.lit (.bool true)], args := [d1, d2] }
  | _ => none }
def crcSumsRow : OpenClaim := { program := "ytpalloofjljhkaa", sum := "964c712000baaa831388d8dd5cf1ec0ea8577ebad4ae3dbe1d04dfe6e1811265", func := "antiphon/antiphonlaw2.CrcSums", spec := "crcSums", apart := false }
def CrcSumsSaid : Prop := crcSumsRow.holds Try.pinned (OpenSpec.ofChange crcSumsSpec)

/-- ITS FALSE NEIGHBOUR: 'it returns false'. Refute it at one input. -/
def crcSumsWrong : ChangeSpec := { name := "crcSums", fn := fun _ => fun
  | [d1, d2] => { results := [.lit (.bool false)], args := [d1, d2] }
  | _ => none }
def CrcSumsWrongFalsely : Prop := crcSumsRow.holds Try.pinned (OpenSpec.ofChange crcSumsWrong)

/-- 'antiphonlaw3.MacFrames': WHATEVER THE INPUT: true; the input reads as it did. -/
def macFramesSpec : ChangeSpec := { name := "macFrames", fn := fun _ => fun
  | [d1, d2] => { results := [.lit (.bool true)], args := [d1, d2] }
  | _ => none }
def macFramesRow : OpenClaim := { program := "ytpalloofjljhkaa", sum := "964c712000baaa831388d8dd5cf1ec0ea8577ebad4ae3dbe1d04dfe6e1811265", func := "antiphon/antiphonlaw3.MacFrames", spec := "macFrames", apart := false }
def MacFramesSaid : Prop := macFramesRow.holds Try.pinned (OpenSpec.ofChange macFramesSpec)

/-- ITS FALSE NEIGHBOUR: 'it returns false'. Refute it at one input. -/
def macFramesWrong : ChangeSpec := { name := "macFrames", fn := fun _ => fun
  | [d1, d2] => { results := [.lit (.bool false)], args := [d1, d2] }
  | _ => none }
def MacFramesWrongFalsely : Prop := macFramesRow.holds Try.pinned (OpenSpec.ofChange macFramesWrong)

/-- 'antiphonlaw3.MacBack': WHATEVER THE INPUT: true; the input reads as it did. -/
def macBackSpec : ChangeSpec := { name := "macBack", fn := fun _ => fun
  | [d1, d2] => { results := [.lit (.bool true)], args := [d1, d2] }
  | _ => none }
def macBackRow : OpenClaim := { program := "ytpalloofjljhkaa", sum := "964c712000baaa831388d8dd5cf1ec0ea8577ebad4ae3dbe1d04dfe6e1811265", func := "antiphon/antiphonlaw3.MacBack", spec := "macBack", apart := false }
def MacBackSaid : Prop := macBackRow.holds Try.pinned (OpenSpec.ofChange macBackSpec)

/-- ITS FALSE NEIGHBOUR: 'it returns false'. Refute it at one input. -/
def macBackWrong : ChangeSpec := { name := "macBack", fn := fun _ => fun
  | [d1, d2] => { results := [.lit (.bool false)], args := [d1, d2] }
  | _ => none }
def MacBackWrongFalsely : Prop := macBackRow.holds Try.pinned (OpenSpec.ofChange macBackWrong)

/-- 'antiphonlaw3.MacPads': WHATEVER THE INPUT: true; the input reads as it did. -/
def macPadsSpec : ChangeSpec := { name := "macPads", fn := fun _ => fun
  | [d] => { results := [.lit (.bool true)], args := [d] }
  | _ => none }
def macPadsRow : OpenClaim := { program := "ytpalloofjljhkaa", sum := "964c712000baaa831388d8dd5cf1ec0ea8577ebad4ae3dbe1d04dfe6e1811265", func := "antiphon/antiphonlaw3.MacPads", spec := "macPads", apart := false }
def MacPadsSaid : Prop := macPadsRow.holds Try.pinned (OpenSpec.ofChange macPadsSpec)

/-- ITS FALSE NEIGHBOUR: 'it returns false'. Refute it at one input. -/
def macPadsWrong : ChangeSpec := { name := "macPads", fn := fun _ => fun
  | [d] => { results := [.lit (.bool false)], args := [d] }
  | _ => none }
def MacPadsWrongFalsely : Prop := macPadsRow.holds Try.pinned (OpenSpec.ofChange macPadsWrong)

/-- 'antiphonlaw3.MacCuts': WHATEVER THE INPUT: true; the input reads as it did. -/
def macCutsSpec : ChangeSpec := { name := "macCuts", fn := fun _ => fun
  | [d1, d2, d3] => { results := [.lit (.bool true)], args := [d1, d2, d3] }
  | _ => none }
def macCutsRow : OpenClaim := { program := "ytpalloofjljhkaa", sum := "964c712000baaa831388d8dd5cf1ec0ea8577ebad4ae3dbe1d04dfe6e1811265", func := "antiphon/antiphonlaw3.MacCuts", spec := "macCuts", apart := false }
def MacCutsSaid : Prop := macCutsRow.holds Try.pinned (OpenSpec.ofChange macCutsSpec)

/-- ITS FALSE NEIGHBOUR: 'it returns false'. Refute it at one input. -/
def macCutsWrong : ChangeSpec := { name := "macCuts", fn := fun _ => fun
  | [d1, d2, d3] => { results := [.lit (.bool false)], args := [d1, d2, d3] }
  | _ => none }
def MacCutsWrongFalsely : Prop := macCutsRow.holds Try.pinned (OpenSpec.ofChange macCutsWrong)

/-- 'antiphonlaw3.MacLength': WHATEVER THE INPUT: true; the input reads as it did. -/
def macLengthSpec : ChangeSpec := { name := "macLength", fn := fun _ => fun
  | [d1, d2, d3] => { results := [.lit (.bool true)], args := [d1, d2, d3] }
  | _ => none }
def macLengthRow : OpenClaim := { program := "ytpalloofjljhkaa", sum := "964c712000baaa831388d8dd5cf1ec0ea8577ebad4ae3dbe1d04dfe6e1811265", func := "antiphon/antiphonlaw3.MacLength", spec := "macLength", apart := false }
def MacLengthSaid : Prop := macLengthRow.holds Try.pinned (OpenSpec.ofChange macLengthSpec)

/-- ITS FALSE NEIGHBOUR: 'it returns false'. Refute it at one input. -/
def macLengthWrong : ChangeSpec := { name := "macLength", fn := fun _ => fun
  | [d1, d2, d3] => { results := [.lit (.bool false)], args := [d1, d2, d3] }
  | _ => none }
def MacLengthWrongFalsely : Prop := macLengthRow.holds Try.pinned (OpenSpec.ofChange macLengthWrong)

/-- 'antiphonlaw3.MacNumbers': WHATEVER THE INPUT: true; the input reads as it did. -/
def macNumbersSpec : ChangeSpec := { name := "macNumbers", fn := fun _ => fun
  | [d1, d2, d3] => { results := [.lit (.bool true)], args := [d1, d2, d3] }
  | _ => none }
def macNumbersRow : OpenClaim := { program := "ytpalloofjljhkaa", sum := "964c712000baaa831388d8dd5cf1ec0ea8577ebad4ae3dbe1d04dfe6e1811265", func := "antiphon/antiphonlaw3.MacNumbers", spec := "macNumbers", apart := false }
def MacNumbersSaid : Prop := macNumbersRow.holds Try.pinned (OpenSpec.ofChange macNumbersSpec)

/-- ITS FALSE NEIGHBOUR: 'it returns false'. Refute it at one input. -/
def macNumbersWrong : ChangeSpec := { name := "macNumbers", fn := fun _ => fun
  | [d1, d2, d3] => { results := [.lit (.bool false)], args := [d1, d2, d3] }
  | _ => none }
def MacNumbersWrongFalsely : Prop := macNumbersRow.holds Try.pinned (OpenSpec.ofChange macNumbersWrong)

/-- 'antiphonlaw3.MacKnown': WHATEVER THE INPUT: true; the input reads as it did. -/
def macKnownSpec : ChangeSpec := { name := "macKnown", fn := fun _ => fun
  | [] => { results := [.lit (.bool true)], args := [] }
  | _ => none }
def macKnownRow : OpenClaim := { program := "ytpalloofjljhkaa", sum := "964c712000baaa831388d8dd5cf1ec0ea8577ebad4ae3dbe1d04dfe6e1811265", func := "antiphon/antiphonlaw3.MacKnown", spec := "macKnown", apart := false }
def MacKnownSaid : Prop := macKnownRow.holds Try.pinned (OpenSpec.ofChange macKnownSpec)

/-- ITS FALSE NEIGHBOUR: 'it returns false'. Refute it at one input. -/
def macKnownWrong : ChangeSpec := { name := "macKnown", fn := fun _ => fun
  | [] => { results := [.lit (.bool false)], args := [] }
  | _ => none }
def MacKnownWrongFalsely : Prop := macKnownRow.holds Try.pinned (OpenSpec.ofChange macKnownWrong)

/-- 'antiphonlaw3.MacTakes': WHATEVER THE INPUT: true; the input reads as it did. -/
def macTakesSpec : ChangeSpec := { name := "macTakes", fn := fun _ => fun
  | [d1, d2, d3] => { results := [.lit (.bool true)], args := [d1, d2, d3] }
  | _ => none }
def macTakesRow : OpenClaim := { program := "ytpalloofjljhkaa", sum := "964c712000baaa831388d8dd5cf1ec0ea8577ebad4ae3dbe1d04dfe6e1811265", func := "antiphon/antiphonlaw3.MacTakes", spec := "macTakes", apart := false }
def MacTakesSaid : Prop := macTakesRow.holds Try.pinned (OpenSpec.ofChange macTakesSpec)

/-- ITS FALSE NEIGHBOUR: 'it returns false'. Refute it at one input. -/
def macTakesWrong : ChangeSpec := { name := "macTakes", fn := fun _ => fun
  | [d1, d2, d3] => { results := [.lit (.bool false)], args := [d1, d2, d3] }
  | _ => none }
def MacTakesWrongFalsely : Prop := macTakesRow.holds Try.pinned (OpenSpec.ofChange macTakesWrong)

/-- 'antiphonlaw3.MacGroups': WHATEVER THE INPUT: true; the input reads as it did. -/
def macGroupsSpec : ChangeSpec := { name := "macGroups", fn := fun _ => fun
  | [d1, d2, d3] => { results := [.lit (.bool true)], args := [d1, d2, d3] }
  | _ => none }
def macGroupsRow : OpenClaim := { program := "ytpalloofjljhkaa", sum := "964c712000baaa831388d8dd5cf1ec0ea8577ebad4ae3dbe1d04dfe6e1811265", func := "antiphon/antiphonlaw3.MacGroups", spec := "macGroups", apart := false }
def MacGroupsSaid : Prop := macGroupsRow.holds Try.pinned (OpenSpec.ofChange macGroupsSpec)

/-- ITS FALSE NEIGHBOUR: 'it returns false'. Refute it at one input. -/
def macGroupsWrong : ChangeSpec := { name := "macGroups", fn := fun _ => fun
  | [d1, d2, d3] => { results := [.lit (.bool false)], args := [d1, d2, d3] }
  | _ => none }
def MacGroupsWrongFalsely : Prop := macGroupsRow.holds Try.pinned (OpenSpec.ofChange macGroupsWrong)

/- THE SECOND FORM. 'bulk': how many values and letters a reading holds, each counted each time it is reached (what is shared counts as often as it is met; a slice's spare places count too). A statement '..UptoSaid' is the law's where the arguments, and the package variables that the reading takes, are together of bulk at most 1048576: NARROWER than '..Said'. Prove '..Said' where nothing that the law and all that it calls make is longer than what came in: it says more and counts as full. Else prove '..UptoSaid'. A law counts once. -/
mutual
def uptoBulk {H : Type} : DataW H → Nat
  | .lit (.string bytes) => bytes.length + 1
  | .lit _ => 1
  | .nil => 1
  | .ptr d => uptoBulk d + 1
  | .slice elems spare => uptoBulkAll elems + uptoBulkAll spare + 1
  | .agg parts => uptoBulkAll parts + 1
  | .iface _ d => uptoBulk d + 1
  | .map entries => uptoBulkEntries entries + 1
  | .held _ => 1
def uptoBulkAll {H : Type} : List (DataW H) → Nat
  | [] => 0
  | d :: r => uptoBulk d + uptoBulkAll r
def uptoBulkEntries {H : Type} : List (Lit × DataW H) → Nat
  | [] => 0
  | x :: r => uptoBulkEntry x + uptoBulkEntries r
def uptoBulkEntry {H : Type} : Lit × DataW H → Nat
  | (.string bytes, d) => bytes.length + uptoBulk d + 1
  | (_, d) => uptoBulk d + 1
 end
def uptoSmall : (H : Type) → List (DataW H) → Bool := fun _ ds => decide (uptoBulkAll ds ≤ 1048576)
def OpenSpec.upto (s : _root_.Go.ChangeSpec) : _root_.Go.OpenSpec := { _root_.Go.OpenSpec.ofChange s with cond := some uptoSmall }

/-- 'antiphonlaw2.CrcZero', WHERE WHAT IT READS IS OF BULK AT MOST 1048576: true; the input reads as it did. -/
def crcZeroUptoRow : OpenClaim := { program := "ytpalloofjljhkaa", sum := "964c712000baaa831388d8dd5cf1ec0ea8577ebad4ae3dbe1d04dfe6e1811265", func := "antiphon/antiphonlaw2.CrcZero", spec := "crcZero", apart := false, narrowed := true }
def CrcZeroUptoSaid : Prop := crcZeroUptoRow.holds Try.pinned (OpenSpec.upto crcZeroSpec)

/-- 'antiphonlaw2.CrcLinear', WHERE WHAT IT READS IS OF BULK AT MOST 1048576: true; the input reads as it did. -/
def crcLinearUptoRow : OpenClaim := { program := "ytpalloofjljhkaa", sum := "964c712000baaa831388d8dd5cf1ec0ea8577ebad4ae3dbe1d04dfe6e1811265", func := "antiphon/antiphonlaw2.CrcLinear", spec := "crcLinear", apart := false, narrowed := true }
def CrcLinearUptoSaid : Prop := crcLinearUptoRow.holds Try.pinned (OpenSpec.upto crcLinearSpec)

/-- 'antiphonlaw2.CrcParts', WHERE WHAT IT READS IS OF BULK AT MOST 1048576: true; the input reads as it did. -/
def crcPartsUptoRow : OpenClaim := { program := "ytpalloofjljhkaa", sum := "964c712000baaa831388d8dd5cf1ec0ea8577ebad4ae3dbe1d04dfe6e1811265", func := "antiphon/antiphonlaw2.CrcParts", spec := "crcParts", apart := false, narrowed := true }
def CrcPartsUptoSaid : Prop := crcPartsUptoRow.holds Try.pinned (OpenSpec.upto crcPartsSpec)

/-- 'antiphonlaw2.CrcUnlike', WHERE WHAT IT READS IS OF BULK AT MOST 1048576: true; the input reads as it did. -/
def crcUnlikeUptoRow : OpenClaim := { program := "ytpalloofjljhkaa", sum := "964c712000baaa831388d8dd5cf1ec0ea8577ebad4ae3dbe1d04dfe6e1811265", func := "antiphon/antiphonlaw2.CrcUnlike", spec := "crcUnlike", apart := false, narrowed := true }
def CrcUnlikeUptoSaid : Prop := crcUnlikeUptoRow.holds Try.pinned (OpenSpec.upto crcUnlikeSpec)

/-- 'antiphonlaw2.CrcBursts', WHERE WHAT IT READS IS OF BULK AT MOST 1048576: true; the input reads as it did. -/
def crcBurstsUptoRow : OpenClaim := { program := "ytpalloofjljhkaa", sum := "964c712000baaa831388d8dd5cf1ec0ea8577ebad4ae3dbe1d04dfe6e1811265", func := "antiphon/antiphonlaw2.CrcBursts", spec := "crcBursts", apart := false, narrowed := true }
def CrcBurstsUptoSaid : Prop := crcBurstsUptoRow.holds Try.pinned (OpenSpec.upto crcBurstsSpec)

/-- 'antiphonlaw2.CrcKnown', WHERE WHAT IT READS IS OF BULK AT MOST 1048576: true; the input reads as it did. -/
def crcKnownUptoRow : OpenClaim := { program := "ytpalloofjljhkaa", sum := "964c712000baaa831388d8dd5cf1ec0ea8577ebad4ae3dbe1d04dfe6e1811265", func := "antiphon/antiphonlaw2.CrcKnown", spec := "crcKnown", apart := false, narrowed := true }
def CrcKnownUptoSaid : Prop := crcKnownUptoRow.holds Try.pinned (OpenSpec.upto crcKnownSpec)

/-- 'antiphonlaw2.CrcSums', WHERE WHAT IT READS IS OF BULK AT MOST 1048576: true; the input reads as it did. -/
def crcSumsUptoRow : OpenClaim := { program := "ytpalloofjljhkaa", sum := "964c712000baaa831388d8dd5cf1ec0ea8577ebad4ae3dbe1d04dfe6e1811265", func := "antiphon/antiphonlaw2.CrcSums", spec := "crcSums", apart := false, narrowed := true }
def CrcSumsUptoSaid : Prop := crcSumsUptoRow.holds Try.pinned (OpenSpec.upto crcSumsSpec)

/-- 'antiphonlaw3.MacFrames', WHERE WHAT IT READS IS OF BULK AT MOST 1048576: true; the input reads as it did. -/
def macFramesUptoRow : OpenClaim := { program := "ytpalloofjljhkaa", sum := "964c712000baaa831388d8dd5cf1ec0ea8577ebad4ae3dbe1d04dfe6e1811265", func := "antiphon/antiphonlaw3.MacFrames", spec := "macFrames", apart := false, narrowed := true }
def MacFramesUptoSaid : Prop := macFramesUptoRow.holds Try.pinned (OpenSpec.upto macFramesSpec)

/-- 'antiphonlaw3.MacBack', WHERE WHAT IT READS IS OF BULK AT MOST 1048576: true; the input reads as it did. -/
def macBackUptoRow : OpenClaim := { program := "ytpalloofjljhkaa", sum := "964c712000baaa831388d8dd5cf1ec0ea8577ebad4ae3dbe1d04dfe6e1811265", func := "antiphon/antiphonlaw3.MacBack", spec := "macBack", apart := false, narrowed := true }
def MacBackUptoSaid : Prop := macBackUptoRow.holds Try.pinned (OpenSpec.upto macBackSpec)

/-- 'antiphonlaw3.MacPads', WHERE WHAT IT READS IS OF BULK AT MOST 1048576: true; the input reads as it did. -/
def macPadsUptoRow : OpenClaim := { program := "ytpalloofjljhkaa", sum := "964c712000baaa831388d8dd5cf1ec0ea8577ebad4ae3dbe1d04dfe6e1811265", func := "antiphon/antiphonlaw3.MacPads", spec := "macPads", apart := false, narrowed := true }
def MacPadsUptoSaid : Prop := macPadsUptoRow.holds Try.pinned (OpenSpec.upto macPadsSpec)

/-- 'antiphonlaw3.MacCuts', WHERE WHAT IT READS IS OF BULK AT MOST 1048576: true; the input reads as it did. -/
def macCutsUptoRow : OpenClaim := { program := "ytpalloofjljhkaa", sum := "964c712000baaa831388d8dd5cf1ec0ea8577ebad4ae3dbe1d04dfe6e1811265", func := "antiphon/antiphonlaw3.MacCuts", spec := "macCuts", apart := false, narrowed := true }
def MacCutsUptoSaid : Prop := macCutsUptoRow.holds Try.pinned (OpenSpec.upto macCutsSpec)

/-- 'antiphonlaw3.MacLength', WHERE WHAT IT READS IS OF BULK AT MOST 1048576: true; the input reads as it did. -/
def macLengthUptoRow : OpenClaim := { program := "ytpalloofjljhkaa", sum := "964c712000baaa831388d8dd5cf1ec0ea8577ebad4ae3dbe1d04dfe6e1811265", func := "antiphon/antiphonlaw3.MacLength", spec := "macLength", apart := false, narrowed := true }
def MacLengthUptoSaid : Prop := macLengthUptoRow.holds Try.pinned (OpenSpec.upto macLengthSpec)

/-- 'antiphonlaw3.MacNumbers', WHERE WHAT IT READS IS OF BULK AT MOST 1048576: true; the input reads as it did. -/
def macNumbersUptoRow : OpenClaim := { program := "ytpalloofjljhkaa", sum := "964c712000baaa831388d8dd5cf1ec0ea8577ebad4ae3dbe1d04dfe6e1811265", func := "antiphon/antiphonlaw3.MacNumbers", spec := "macNumbers", apart := false, narrowed := true }
def MacNumbersUptoSaid : Prop := macNumbersUptoRow.holds Try.pinned (OpenSpec.upto macNumbersSpec)

/-- 'antiphonlaw3.MacKnown', WHERE WHAT IT READS IS OF BULK AT MOST 1048576: true; the input reads as it did. -/
def macKnownUptoRow : OpenClaim := { program := "ytpalloofjljhkaa", sum := "964c712000baaa831388d8dd5cf1ec0ea8577ebad4ae3dbe1d04dfe6e1811265", func := "antiphon/antiphonlaw3.MacKnown", spec := "macKnown", apart := false, narrowed := true }
def MacKnownUptoSaid : Prop := macKnownUptoRow.holds Try.pinned (OpenSpec.upto macKnownSpec)

/-- 'antiphonlaw3.MacTakes', WHERE WHAT IT READS IS OF BULK AT MOST 1048576: true; the input reads as it did. -/
def macTakesUptoRow : OpenClaim := { program := "ytpalloofjljhkaa", sum := "964c712000baaa831388d8dd5cf1ec0ea8577ebad4ae3dbe1d04dfe6e1811265", func := "antiphon/antiphonlaw3.MacTakes", spec := "macTakes", apart := false, narrowed := true }
def MacTakesUptoSaid : Prop := macTakesUptoRow.holds Try.pinned (OpenSpec.upto macTakesSpec)

/-- 'antiphonlaw3.MacGroups', WHERE WHAT IT READS IS OF BULK AT MOST 1048576: true; the input reads as it did. -/
def macGroupsUptoRow : OpenClaim := { program := "ytpalloofjljhkaa", sum := "964c712000baaa831388d8dd5cf1ec0ea8577ebad4ae3dbe1d04dfe6e1811265", func := "antiphon/antiphonlaw3.MacGroups", spec := "macGroups", apart := false, narrowed := true }
def MacGroupsUptoSaid : Prop := macGroupsUptoRow.holds Try.pinned (OpenSpec.upto macGroupsSpec)

end Rows
end Go.Proofs.Ytpalloofjljhkaa
