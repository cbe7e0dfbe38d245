/- Chapter 2's example, and sums that are none. -/
import Derived.Test.YtpalloofjljhkaaWalkCrcKnown
import Derived.Test.YtpalloofjljhkaaOLib
namespace Go.Proofs.Ytpalloofjljhkaa.Pure
open Go.RowKit Go.Proofs.Ytpalloofjljhkaa Go.Proofs.Ytpalloofjljhkaa.P Go.Proofs.YtpalloofjljhkaaW.PrintWords Go.Proofs.YtpalloofjljhkaaW.PrintLast

theorem CrcKnown : antiphonlaw2_CrcKnown.Pure := rfl

end Go.Proofs.Ytpalloofjljhkaa.Pure
