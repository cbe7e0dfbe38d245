/- Chapter 14's example, and an answer. -/
import Derived.Test.YtnmcoebjkfpmjaaWalkTwinKnown
namespace Go.Proofs.Ytnmcoebjkfpmjaa.Pure
open Go.RowKit Go.Proofs.Ytnmcoebjkfpmjaa.P Go.Proofs.YtnmcoebjkfpmjaaW.PrintWords Go.Proofs.YtnmcoebjkfpmjaaW.PrintLast

theorem TwinKnown : antiphonlaw14_TwinKnown.Pure := rfl

end Go.Proofs.Ytnmcoebjkfpmjaa.Pure
