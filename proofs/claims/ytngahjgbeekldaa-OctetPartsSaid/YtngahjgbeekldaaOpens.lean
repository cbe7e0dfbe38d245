-- Laid by a program of this session (wip/print2).
import Derived.Test.YtngahjgbeekldaaOpen
namespace Go.Proofs.Ytngahjgbeekldaa.Open
open Go.ChangeShapes Go.WideShapes Go.RowKit Go.Deep
open Go.Proofs.YtngahjgbeekldaaW.PrintWords
set_option linter.unusedVariables false
end Go.Proofs.Ytngahjgbeekldaa.Open
