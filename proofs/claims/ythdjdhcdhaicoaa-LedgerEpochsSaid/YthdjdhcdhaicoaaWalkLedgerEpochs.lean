-- Laid by a program of this session (wip/print2).
import Derived.Test.YthdjdhcdhaicoaaPx5
namespace Go.Proofs.Ythdjdhcdhaicoaa.P
open Go.RowKit Go.Proofs.YthdjdhcdhaicoaaW.PrintWords Go.Proofs.YthdjdhcdhaicoaaW.PrintLast Go.Proofs.YthdjdhcdhaicoaaW.PrintMore
def antiphonlaw26_LedgerEpochs.Pure : Prop := ∀ (l0 : List S46), l0.length ≤ 9223372036854775807 → (l0.length ≤ 140737488351232 ∧ ∀ yl0 ∈ l0, ((Lit.int .i64 yl0.f0).wf = true) ∧ ((Lit.int .i64 yl0.f1).wf = true) ∧ (((Lit.int .i64 yl0.f2.f0).wf = true) ∧ ((Lit.int .i64 yl0.f2.f1).wf = true) ∧ ((Lit.int .i64 yl0.f2.f2).wf = true) ∧ (((Lit.int .u8 yl0.f2.f3.f0).wf = true) ∧ ((Lit.int .u8 yl0.f2.f3.f1).wf = true) ∧ ((Lit.int .u8 yl0.f2.f3.f2).wf = true) ∧ ((Lit.int .u8 yl0.f2.f3.f3).wf = true) ∧ ((Lit.int .u8 yl0.f2.f3.f4).wf = true) ∧ ((Lit.int .u8 yl0.f2.f3.f5).wf = true)) ∧ (yl0.f2.f4.length ≤ 140737488351232 ∧ ∀ yyl0f2f4 ∈ yl0.f2.f4, (Lit.int .u8 yyl0f2f4).wf = true) ∧ ((Lit.int .i64 yl0.f2.f5).wf = true))) → ∃ k, antiphonlaw26_LedgerEpochs.f k l0 = some true
end Go.Proofs.Ythdjdhcdhaicoaa.P
