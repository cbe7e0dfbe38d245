/- A row of at most 32 bits that are turned is told, wherever it stands; what was sealed is opened. -/
import Derived.Test.YtpalloofjljhkaaWalkCrcBursts
import Derived.Test.YtpalloofjljhkaaOLib
namespace Go.Proofs.Ytpalloofjljhkaa.Pure
open Go.RowKit Go.Proofs.Ytpalloofjljhkaa Go.Proofs.Ytpalloofjljhkaa.P Go.Proofs.YtpalloofjljhkaaW.PrintWords Go.Proofs.YtpalloofjljhkaaW.PrintLast

theorem CrcBursts : antiphonlaw2_CrcBursts.Pure := by
  intro l0 a1 a2 _ _ hw hi hu
  have h := Lib.i64_wf hi
  have h2 : 0 ≤ a2 ∧ a2 < 4294967296 := by simp [Lit.wf, IntKind.min, IntKind.max, IntKind.signed, IntKind.bits] at hu; omega
  unfold antiphonlaw2_CrcBursts.f
  rw [if_pos ⟨fun c hc => Lib.u8_wf (hw c hc), h, h2⟩]

end Go.Proofs.Ytpalloofjljhkaa.Pure
