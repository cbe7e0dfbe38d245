-- Laid by a program of this session (wip/print2).
import Derived.Test.YthdjdhcdhaicoaaPx7
namespace Go.Proofs.Ythdjdhcdhaicoaa.P
open Go.RowKit Go.Proofs.YthdjdhcdhaicoaaW.PrintWords Go.Proofs.YthdjdhcdhaicoaaW.PrintLast Go.Proofs.YthdjdhcdhaicoaaW.PrintMore
def antiphonlaw26_LedgerKnown.Pure : Prop := antiphonlaw26_LedgerKnown.f  = some true
end Go.Proofs.Ythdjdhcdhaicoaa.P
