-- Laid by a program of this session (wip/print2).
import Derived.Test.YtpalloofjljhkaaPx6
namespace Go.Proofs.Ytpalloofjljhkaa.P
open Go.RowKit Go.Proofs.YtpalloofjljhkaaW.PrintWords Go.Proofs.YtpalloofjljhkaaW.PrintLast Go.Proofs.YtpalloofjljhkaaW.PrintMore
def antiphonlaw2_CrcParts.Pure : Prop := ∀ (l0 : List (List Int)), l0.length ≤ 9223372036854775807 → (∀ yl0 ∈ l0, ∀ yyl0 ∈ yl0, (Lit.int .u8 yyl0).wf = true) → antiphonlaw2_CrcParts.f l0 = some true
end Go.Proofs.Ytpalloofjljhkaa.P
