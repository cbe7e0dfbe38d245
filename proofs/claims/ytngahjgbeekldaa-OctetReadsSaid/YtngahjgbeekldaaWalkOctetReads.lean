-- Laid by a program of this session (wip/print2).
import Derived.Test.YtngahjgbeekldaaPx8
namespace Go.Proofs.Ytngahjgbeekldaa.P
open Go.RowKit Go.Proofs.YtngahjgbeekldaaW.PrintWords Go.Proofs.YtngahjgbeekldaaW.PrintLast Go.Proofs.YtngahjgbeekldaaW.PrintMore
def antiphonlaw1_OctetReads.Pure : Prop := ∀ (l0 : List Int) (l1 : List (Int × Int)), l0.length ≤ 9223372036854775807 → (∀ yl0 ∈ l0, (Lit.int .u8 yl0).wf = true) → l1.length ≤ 9223372036854775807 → (∀ yl1 ∈ l1, ((Lit.int .i64 yl1.1).wf = true) ∧ ((Lit.int .i64 yl1.2).wf = true)) → antiphonlaw1_OctetReads.f l0 l1 = some true
end Go.Proofs.Ytngahjgbeekldaa.P
