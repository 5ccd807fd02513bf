-- Printed by a program of this session (mp.py) out of the translation.
import Derived.Test.YtjemaajliodmhaaProg
import Derived.Below
import Derived.Deep.Draws
import Derived.Deep.AppendLies
import Derived.Maps.AppendAt
import Derived.OwnWalk
import Derived.Laws.BytesArg
import Derived.Laws.MakeOwn
import Derived.Laws.OwnMore
import Derived.Deep.OwnRows
import Derived.Tactics
import Derived.Lib.ConvBytes
import Derived.Laws.Slices
import Derived.WalkKit
import Derived.KernelRfl
import Derived.RowKit3
import Derived.Deep.LoopGhost
import Derived.Deep.QuietTactic
import Derived.BigQuiet
import Derived.WideLaws
import Derived.Deep.DeepCutAuto
import Derived.Deep.CutBlock
import Derived.Deep.RegionHeld3
import Derived.Laws.Rows
import Derived.Lib.AppendStr
import Derived.ArgAppend
import Derived.Laws.IdiomCopy
import Derived.OrdersHeld
import Derived.Laws.BitsLemmas
import Derived.RowKit
import Derived.Test.YtjemaajliodmhaaWWords
import Derived.Test.YtjemaajliodmhaaWLast
import Derived.Test.YtjemaajliodmhaaWTab
import Derived.Test.YtjemaajliodmhaaWFour
import Derived.Test.YtjemaajliodmhaaWQPut
import Derived.Test.YtjemaajliodmhaaWApart
import Derived.Test.YtjemaajliodmhaaWArr
import Derived.Test.YtjemaajliodmhaaWZeros
import Derived.Test.YtjemaajliodmhaaWFoot
import Derived.Test.YtjemaajliodmhaaWKept
import Derived.Test.YtjemaajliodmhaaWShare
import Derived.Test.YtjemaajliodmhaaWN
import Derived.Test.YtjemaajliodmhaaWFootNe
import Derived.Test.YtjemaajliodmhaaWAt
import Derived.Test.YtjemaajliodmhaaWEqStruct
import Derived.Test.YtjemaajliodmhaaWRepsOne
import Derived.Test.YtjemaajliodmhaaWInv
import Derived.Test.YtjemaajliodmhaaWInvWords
import Derived.Test.YtjemaajliodmhaaWGuard
import Derived.Test.YtjemaajliodmhaaWNEv
import Derived.Test.YtjemaajliodmhaaWMore
namespace Go.Proofs.Ytjemaajliodmhaa.Z
open Go.RowKit Go.Proofs.YtjemaajliodmhaaW.PrintWords Go.Proofs.YtjemaajliodmhaaW.PrintLast Go.Proofs.YtjemaajliodmhaaW.PrintMore
attribute [local go_sem] max2_int min2_int max_two min_two max_three min_three max_four min_four   -- for this text's walks alone
set_option linter.unusedVariables false
set_option linter.unusedSimpArgs false



def errW : Option Int → Value
  | none => .nilIface
  | some c => .iface 0 (.int .i64 c)
theorem errW_none : errW none = .nilIface := rfl
theorem errW_some (c : Int) : errW (some c) = .iface 0 (.int .i64 c) := rfl

theorem info9 : (Try.prog.info? 9).map (fun i => (i.zero, i.size, i.bytes)) = some (some (.string ⟨#[]⟩), 1, 16) := by kernel_rfl
-- the values' own types

end Go.Proofs.Ytjemaajliodmhaa.Z
