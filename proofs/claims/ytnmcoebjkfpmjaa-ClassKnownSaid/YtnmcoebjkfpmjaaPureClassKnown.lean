/- Chapter 23's example: class.Refuse answers a Sabme to a class-1 SAP by a Dm with its number, answers nothing at class 2, and class 9 takes no type; the law has no argument, so there is no condition. -/
import Derived.Test.YtnmcoebjkfpmjaaPx26
namespace Go.Proofs.Ytnmcoebjkfpmjaa.Pure
open Go.RowKit Go.Proofs.Ytnmcoebjkfpmjaa.P Go.Proofs.YtnmcoebjkfpmjaaW.PrintWords Go.Proofs.YtnmcoebjkfpmjaaW.PrintLast

theorem ClassKnown : antiphonlaw23_ClassKnown.Pure := ⟨40, by decide +kernel⟩

end Go.Proofs.Ytnmcoebjkfpmjaa.Pure
