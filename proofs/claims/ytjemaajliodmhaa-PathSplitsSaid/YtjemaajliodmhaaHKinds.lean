-- Printed by a program of this session (mp.py): what a reading gives of the kinds that are arguments.
import Derived.Test.YtjemaajliodmhaaHOpen
namespace Go.Proofs.Ytjemaajliodmhaa.Z
open Go.ChangeShapes Go.WideShapes Go.ChangeAt Go.RowKit Go.Deep Go.Proofs.YtjemaajliodmhaaW.PrintWords
set_option linter.unusedVariables false
end Go.Proofs.Ytjemaajliodmhaa.Z
