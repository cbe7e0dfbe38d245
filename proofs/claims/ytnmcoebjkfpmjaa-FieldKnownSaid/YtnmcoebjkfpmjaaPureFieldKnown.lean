/- Chapter 7's example, and what is refused: a class, a reason, a status and a number go as the chapter says; the law has no argument, so there is no condition. -/
import Derived.Test.YtnmcoebjkfpmjaaPx11
namespace Go.Proofs.Ytnmcoebjkfpmjaa.Pure
open Go.RowKit Go.Proofs.Ytnmcoebjkfpmjaa.P Go.Proofs.YtnmcoebjkfpmjaaW.PrintWords Go.Proofs.YtnmcoebjkfpmjaaW.PrintLast

theorem FieldKnown : antiphonlaw7_FieldKnown.Pure := ⟨40, by decide +kernel⟩

end Go.Proofs.Ytnmcoebjkfpmjaa.Pure
