/- Of three rows of one length the sum of all, xor'd, is the sums of all, xor'd. -/
import Derived.Test.YtpalloofjljhkaaWalkCrcLinear
import Derived.Test.YtpalloofjljhkaaOLib
namespace Go.Proofs.Ytpalloofjljhkaa.Pure
open Go.RowKit Go.Proofs.Ytpalloofjljhkaa Go.Proofs.Ytpalloofjljhkaa.P Go.Proofs.YtpalloofjljhkaaW.PrintWords Go.Proofs.YtpalloofjljhkaaW.PrintLast

theorem CrcLinear : antiphonlaw2_CrcLinear.Pure := by
  intro l0 l1 l2 _ _ hw _ _ hw1 _ _ hw2
  unfold antiphonlaw2_CrcLinear.f
  rw [if_pos ⟨fun c hc => Lib.u8_wf (hw c hc), fun c hc => Lib.u8_wf (hw1 c hc), fun c hc => Lib.u8_wf (hw2 c hc)⟩]

end Go.Proofs.Ytpalloofjljhkaa.Pure
