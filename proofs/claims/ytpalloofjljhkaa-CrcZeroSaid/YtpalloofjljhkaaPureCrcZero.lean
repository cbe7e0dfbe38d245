/- A table that nobody made sums by noughts, and hears of no other one. -/
import Derived.Test.YtpalloofjljhkaaWalkCrcZero
import Derived.Test.YtpalloofjljhkaaOLib
namespace Go.Proofs.Ytpalloofjljhkaa.Pure
open Go.RowKit Go.Proofs.Ytpalloofjljhkaa Go.Proofs.Ytpalloofjljhkaa.P Go.Proofs.YtpalloofjljhkaaW.PrintWords Go.Proofs.YtpalloofjljhkaaW.PrintLast

theorem CrcZero : antiphonlaw2_CrcZero.Pure := by
  intro l0 _ _ hw
  unfold antiphonlaw2_CrcZero.f
  rw [if_pos fun c hc => Lib.u8_wf (hw c hc)]

end Go.Proofs.Ytpalloofjljhkaa.Pure
