/- Two rows of one length that are unlike in a few bits that lie close have unlike sums; what is sealed is four bytes longer. -/
import Derived.Test.YtpalloofjljhkaaWalkCrcUnlike
import Derived.Test.YtpalloofjljhkaaOLib
namespace Go.Proofs.Ytpalloofjljhkaa.Pure
open Go.RowKit Go.Proofs.Ytpalloofjljhkaa Go.Proofs.Ytpalloofjljhkaa.P Go.Proofs.YtpalloofjljhkaaW.PrintWords Go.Proofs.YtpalloofjljhkaaW.PrintLast

theorem CrcUnlike : antiphonlaw2_CrcUnlike.Pure := by
  intro l0 a1 a2 _ _ hw hi hu
  have h := Lib.i64_wf hi
  have h2 : 0 ≤ a2 ∧ a2 < 4294967296 := by simp [Lit.wf, IntKind.min, IntKind.max, IntKind.signed, IntKind.bits] at hu; omega
  unfold antiphonlaw2_CrcUnlike.f
  rw [if_pos ⟨fun c hc => Lib.u8_wf (hw c hc), h, h2⟩]

end Go.Proofs.Ytpalloofjljhkaa.Pure
