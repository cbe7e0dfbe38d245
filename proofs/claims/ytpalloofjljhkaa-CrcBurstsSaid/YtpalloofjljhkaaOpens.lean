-- Laid by a program of this session (wip/print2).
import Derived.Test.YtpalloofjljhkaaOpen
namespace Go.Proofs.Ytpalloofjljhkaa.Open
open Go.ChangeShapes Go.WideShapes Go.RowKit Go.Deep
open Go.Proofs.YtpalloofjljhkaaW.PrintWords
set_option linter.unusedVariables false
end Go.Proofs.Ytpalloofjljhkaa.Open
