-- Laid by a program of this session (wip/print2).
import Derived.Test.YtngahjgbeekldaaPx7
import Derived.Test.YtngahjgbeekldaaOpens
namespace Go.Proofs.Ytngahjgbeekldaa.P
open Go.RowKit Go.Proofs.YtngahjgbeekldaaW.PrintWords Go.Proofs.YtngahjgbeekldaaW.PrintLast Go.Proofs.YtngahjgbeekldaaW.PrintMore
set_option linter.unusedVariables false
def antiphonlaw1_OctetKnown.Pure : Prop := antiphonlaw1_OctetKnown.f  = some true
theorem antiphonlaw1_OctetKnown.walk (P : antiphonlaw1_OctetKnown.Pure)  (w : World)  :
    Calls Try.prog 6 #[] w fun e w' => e = .returned (.bool true) ∧ Below w.heap.size w w' := by
  have h := P  
  refine (antiphonlaw1_OctetKnown.calls true w h).mono ?_
  rintro e w' ⟨rfl, hd⟩
  exact ⟨rfl, hd⟩
end Go.Proofs.Ytngahjgbeekldaa.P
