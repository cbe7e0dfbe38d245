-- Laid by a program of this session (wip/print2).
import Derived.Test.YtnmcoebjkfpmjaaOpen
namespace Go.Proofs.Ytnmcoebjkfpmjaa.Open
open Go.ChangeShapes Go.WideShapes Go.RowKit Go.Deep
open Go.Proofs.YtnmcoebjkfpmjaaW.PrintWords
set_option linter.unusedVariables false
end Go.Proofs.Ytnmcoebjkfpmjaa.Open
