/- Summed in whatever parts it is the sum of the whole; a part of nothing changes nothing. -/
import Derived.Test.YtpalloofjljhkaaWalkCrcParts
import Derived.Test.YtpalloofjljhkaaOLib
namespace Go.Proofs.Ytpalloofjljhkaa.Pure
open Go.RowKit Go.Proofs.Ytpalloofjljhkaa Go.Proofs.Ytpalloofjljhkaa.P Go.Proofs.YtpalloofjljhkaaW.PrintWords Go.Proofs.YtpalloofjljhkaaW.PrintLast

theorem CrcParts : antiphonlaw2_CrcParts.Pure := by
  intro l0 _ hw
  unfold antiphonlaw2_CrcParts.f
  rw [if_pos fun b hb c hc => Lib.u8_wf (hw b hb c hc)]

end Go.Proofs.Ytpalloofjljhkaa.Pure
