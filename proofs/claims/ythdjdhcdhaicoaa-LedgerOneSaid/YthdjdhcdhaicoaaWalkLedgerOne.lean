-- Laid by a program of this session (wip/print2).
import Derived.Test.YthdjdhcdhaicoaaPx8
namespace Go.Proofs.Ythdjdhcdhaicoaa.P
open Go.RowKit Go.Proofs.YthdjdhcdhaicoaaW.PrintWords Go.Proofs.YthdjdhcdhaicoaaW.PrintLast Go.Proofs.YthdjdhcdhaicoaaW.PrintMore
def antiphonlaw26_LedgerOne.Pure : Prop := ∀ (l0 : List (List Int)) (a1 : Int) (a2 : Int), l0.length ≤ 9223372036854775807 → (∀ yl0 ∈ l0, ∀ yyl0 ∈ yl0, (Lit.int .u8 yyl0).wf = true) → (Lit.int .u8 a1).wf = true → (Lit.int .u8 a2).wf = true → antiphonlaw26_LedgerOne.f l0 a1 a2 = some true
end Go.Proofs.Ythdjdhcdhaicoaa.P
