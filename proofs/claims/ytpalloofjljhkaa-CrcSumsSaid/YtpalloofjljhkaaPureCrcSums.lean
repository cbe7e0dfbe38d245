/- Of any bytes the sum, by the table and bit by bit, in one piece or in two; sealed and opened. -/
import Derived.Test.YtpalloofjljhkaaWalkCrcSums
import Derived.Test.YtpalloofjljhkaaOLib
namespace Go.Proofs.Ytpalloofjljhkaa.Pure
open Go.RowKit Go.Proofs.Ytpalloofjljhkaa Go.Proofs.Ytpalloofjljhkaa.P Go.Proofs.YtpalloofjljhkaaW.PrintWords Go.Proofs.YtpalloofjljhkaaW.PrintLast

theorem CrcSums : antiphonlaw2_CrcSums.Pure := by
  intro l0 a1 _ _ hw hi
  have h := Lib.i64_wf hi
  unfold antiphonlaw2_CrcSums.f
  rw [if_pos ⟨fun c hc => Lib.u8_wf (hw c hc), h⟩]

end Go.Proofs.Ytpalloofjljhkaa.Pure
