/- Chapter 8's examples: the events and types of the given PDUs are the ones that the chapter says; the law has no argument, so there is no condition. -/
import Derived.Test.YtnmcoebjkfpmjaaPx15
namespace Go.Proofs.Ytnmcoebjkfpmjaa.Pure
open Go.RowKit Go.Proofs.Ytnmcoebjkfpmjaa.P Go.Proofs.YtnmcoebjkfpmjaaW.PrintWords Go.Proofs.YtnmcoebjkfpmjaaW.PrintLast

theorem TellKnown : antiphonlaw8_TellKnown.Pure := ⟨40, by decide +kernel⟩

end Go.Proofs.Ytnmcoebjkfpmjaa.Pure
