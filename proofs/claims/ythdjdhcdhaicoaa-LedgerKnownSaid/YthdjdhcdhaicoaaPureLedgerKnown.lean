/- Chapter 26's example, and rows of nothing: the statement is true. -/
import Derived.Test.YthdjdhcdhaicoaaWalkLedgerKnown
namespace Go.Proofs.Ythdjdhcdhaicoaa.Pure
open Go.RowKit Go.Proofs.Ythdjdhcdhaicoaa.P Go.Proofs.YthdjdhcdhaicoaaW.PrintWords Go.Proofs.YthdjdhcdhaicoaaW.PrintLast

theorem LedgerKnown : antiphonlaw26_LedgerKnown.Pure := rfl

end Go.Proofs.Ythdjdhcdhaicoaa.Pure
