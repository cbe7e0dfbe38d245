-- Laid by a program of this session (wip/print2).
import Derived.Test.YthdjdhcdhaicoaaPx4
namespace Go.Proofs.Ythdjdhcdhaicoaa.P
open Go.RowKit Go.Proofs.YthdjdhcdhaicoaaW.PrintWords Go.Proofs.YthdjdhcdhaicoaaW.PrintLast Go.Proofs.YthdjdhcdhaicoaaW.PrintMore
def antiphonlaw26_LedgerParts.Pure : Prop := ∀ (l0 : List (List Int)) (l1 : List (List Int)) (a2_0 : Int) (a2_1 : Int) (a2_2 : Int), l0.length ≤ 9223372036854775807 → (∀ yl0 ∈ l0, ∀ yyl0 ∈ yl0, (Lit.int .u8 yyl0).wf = true) → l1.length ≤ 9223372036854775807 → (∀ yl1 ∈ l1, ∀ yyl1 ∈ yl1, (Lit.int .u8 yyl1).wf = true) → (Lit.int .u8 a2_0).wf = true → (Lit.int .u8 a2_1).wf = true → (Lit.int .u8 a2_2).wf = true → antiphonlaw26_LedgerParts.f l0 l1 a2_0 a2_1 a2_2 = some true
end Go.Proofs.Ythdjdhcdhaicoaa.P
