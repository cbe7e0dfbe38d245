-- Laid by a program of this session (wip/print2).
import Derived.Test.YtpalloofjljhkaaPx9
import Derived.Test.YtpalloofjljhkaaOpens
namespace Go.Proofs.Ytpalloofjljhkaa.P
open Go.RowKit Go.Proofs.YtpalloofjljhkaaW.PrintWords Go.Proofs.YtpalloofjljhkaaW.PrintLast Go.Proofs.YtpalloofjljhkaaW.PrintMore
set_option linter.unusedVariables false
def antiphonlaw2_CrcKnown.Pure : Prop := antiphonlaw2_CrcKnown.f  = some true
theorem antiphonlaw2_CrcKnown.walk (P : antiphonlaw2_CrcKnown.Pure)  (w : World)  :
    Calls Try.prog 8 #[] w fun e w' => e = .returned (.bool true) ∧ Below w.heap.size w w' := by
  have h := P  
  refine (antiphonlaw2_CrcKnown.calls true w h).mono ?_
  rintro e w' ⟨rfl, hd⟩
  exact ⟨rfl, hd⟩
end Go.Proofs.Ytpalloofjljhkaa.P
