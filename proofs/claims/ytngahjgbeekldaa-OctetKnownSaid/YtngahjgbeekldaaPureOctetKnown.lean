/- Chapter 1's examples: the walk has shown them; the law has no argument. -/
import Derived.Test.YtngahjgbeekldaaWalkOctetKnown
namespace Go.Proofs.Ytngahjgbeekldaa.Pure
open Go.RowKit Go.Proofs.Ytngahjgbeekldaa.P

theorem OctetKnown : antiphonlaw1_OctetKnown.Pure := rfl

end Go.Proofs.Ytngahjgbeekldaa.Pure
