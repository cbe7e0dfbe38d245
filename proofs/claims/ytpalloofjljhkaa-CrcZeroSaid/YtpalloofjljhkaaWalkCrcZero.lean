-- Laid by a program of this session (wip/print2).
import Derived.Test.YtpalloofjljhkaaPx4
import Derived.Test.YtpalloofjljhkaaOpens
namespace Go.Proofs.Ytpalloofjljhkaa.P
open Go.RowKit Go.Proofs.YtpalloofjljhkaaW.PrintWords Go.Proofs.YtpalloofjljhkaaW.PrintLast Go.Proofs.YtpalloofjljhkaaW.PrintMore
set_option linter.unusedVariables false
def antiphonlaw2_CrcZero.Pure : Prop := ∀ (l0 : List Int), l0.length ≤ maxLen → l0.length * 1 ≤ 140737488351232 → (∀ x ∈ l0, (Lit.int .u8 x).wf = true) → antiphonlaw2_CrcZero.f l0 = some true
theorem antiphonlaw2_CrcZero.walk (P : antiphonlaw2_CrcZero.Pure) (a0 : Option Addr) (n0 c0 : Nat) (z0 : List Int) (w : World) (w0 : Open.IsRow .u8 w a0 n0 c0 z0) (y0 : n0 * 1 ≤ 140737488351232) :
    Calls Try.prog 3 #[.slice a0 n0 c0] w fun e w' => e = .returned (.bool true) ∧ Below w.heap.size w w' := by
  obtain ⟨l0, rfl, hr0, hm0, hw0, hc0⟩ := ReadsInt.ofRowC w0
  have h := P l0 hm0 y0 hw0
  refine (antiphonlaw2_CrcZero.calls _ _ l0 true w (Kd.C_of_reads (d := (0 : Int)) (h1 := fun _ => rfl) hr0) hc0 h).mono ?_
  rintro e w' ⟨rfl, hd⟩
  exact ⟨rfl, hd⟩
end Go.Proofs.Ytpalloofjljhkaa.P
