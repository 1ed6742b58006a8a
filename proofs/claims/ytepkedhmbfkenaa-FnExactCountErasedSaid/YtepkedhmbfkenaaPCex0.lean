-- Written for this claim by a program of this session (wip/tpl/patchprint.py), not by print.sh.
import Derived.Test.YtepkedhmbfkenaaProg
import Derived.Below
import Derived.Deep.Draws
import Derived.Deep.AppendLies
import Derived.Maps.AppendAt
import Derived.OwnWalk
import Derived.Laws.BytesArg
import Derived.Laws.MakeOwn
import Derived.Laws.OwnMore
import Derived.Deep.OwnRows
import Derived.Tactics
import Derived.Lib.ConvBytes
import Derived.Laws.Slices
import Derived.WalkKit
import Derived.KernelRfl
import Derived.RowKit3
import Derived.Deep.LoopGhost
import Derived.Deep.QuietTactic
import Derived.BigQuiet
import Derived.WideLaws
import Derived.Deep.DeepCutAuto
import Derived.Deep.CutBlock
import Derived.Deep.RegionHeld3
import Derived.Laws.Rows
import Derived.Lib.AppendStr
import Derived.ArgAppend
import Derived.Laws.IdiomCopy
import Derived.OrdersHeld
import Derived.Laws.BitsLemmas
import Derived.RowKit
import Derived.Lib.LazyBuf
import Derived.Test.YtepkedhmbfkenaaLib
import Derived.Test.YtepkedhmbfkenaaMp
import Derived.Test.YtepkedhmbfkenaaZp
import Derived.Test.YtepkedhmbfkenaaWWords
import Derived.Test.YtepkedhmbfkenaaWLast
import Derived.Test.YtepkedhmbfkenaaWTab
import Derived.Test.YtepkedhmbfkenaaWFour
import Derived.Test.YtepkedhmbfkenaaWQPut
import Derived.Test.YtepkedhmbfkenaaWApart
import Derived.Test.YtepkedhmbfkenaaWArr
import Derived.Test.YtepkedhmbfkenaaWZeros
import Derived.Test.YtepkedhmbfkenaaWFoot
import Derived.Test.YtepkedhmbfkenaaWKept
import Derived.Test.YtepkedhmbfkenaaWShare
import Derived.Test.YtepkedhmbfkenaaWN
import Derived.Test.YtepkedhmbfkenaaWFootNe
import Derived.Test.YtepkedhmbfkenaaWAt
import Derived.Test.YtepkedhmbfkenaaWEqStruct
import Derived.Test.YtepkedhmbfkenaaWRepsOne
import Derived.Test.YtepkedhmbfkenaaWInv
import Derived.Test.YtepkedhmbfkenaaWInvWords
import Derived.Test.YtepkedhmbfkenaaWGuard
import Derived.Test.YtepkedhmbfkenaaWNEv
import Derived.Test.YtepkedhmbfkenaaWMore
namespace Go.Proofs.Ytepkedhmbfkenaa.PCe
open Go.RowKit Go.Proofs.YtepkedhmbfkenaaW.PrintWords Go.Proofs.YtepkedhmbfkenaaW.PrintLast Go.Proofs.YtepkedhmbfkenaaW.PrintMore
attribute [local go_sem] max2_int min2_int max_two min_two max_three min_three max_four min_four   -- for this text's walks alone
set_option linter.unusedVariables false
set_option linter.unusedSimpArgs false



def errW : Option Int → Value
  | none => .nilIface
  | some c => .iface 0 (.int .i64 c)
theorem errW_none : errW none = .nilIface := rfl
theorem errW_some (c : Int) : errW (some c) = .iface 0 (.int .i64 c) := rfl

theorem info9 : (Try.prog.info? 9).map (fun i => (i.zero, i.size, i.bytes)) = some (some (.string ⟨#[]⟩), 1, 16) := by kernel_rfl
-- the values' own types

end Go.Proofs.Ytepkedhmbfkenaa.PCe
