-- Printed by this session's program myprint.py.
import Derived.Test.YtppkommlmloenabProg
import Derived.Below
import Derived.Deep.Draws
import Derived.Deep.AppendLies
import Derived.Maps.AppendAt
import Derived.OwnWalk
import Derived.Laws.BytesArg
import Derived.Laws.MakeOwn
import Derived.Laws.OwnMore
import Derived.Deep.OwnRows
import Derived.Tactics
import Derived.Lib.ConvBytes
import Derived.Laws.Slices
import Derived.WalkKit
import Derived.KernelRfl
import Derived.RowKit3
import Derived.Deep.LoopGhost
import Derived.Deep.QuietTactic
import Derived.BigQuiet
import Derived.WideLaws
import Derived.Deep.DeepCutAuto
import Derived.Deep.CutBlock
import Derived.Deep.RegionHeld3
import Derived.Laws.Rows
import Derived.Lib.AppendStr
import Derived.ArgAppend
import Derived.Laws.IdiomCopy
import Derived.OrdersHeld
import Derived.Laws.BitsLemmas
import Derived.RowKit
import Derived.Sort.OwnSortedInts
import Derived.Test.YtppkommlmloenabSort
import Derived.Sort.OwnSortedInts
import Derived.Test.YtppkommlmloenabSort
import Derived.Sort.OwnSortedInts
import Derived.Test.YtppkommlmloenabSort
import Derived.Sort.OwnSortedInts
import Derived.Test.YtppkommlmloenabSort
import Derived.Sort.OwnSortedInts
import Derived.Test.YtppkommlmloenabSort
import Derived.Sort.OwnSortedInts
import Derived.Test.YtppkommlmloenabSort
import Derived.Sort.OwnSortedInts
import Derived.Test.YtppkommlmloenabSort
import Derived.Sort.OwnSortedInts
import Derived.Test.YtppkommlmloenabSort
import Derived.Lib.Walk
import Derived.Shelf.Abstract
import Derived.Test.YtppkommlmloenabOwn
import Derived.Test.YtppkommlmloenabWWords
import Derived.Test.YtppkommlmloenabWLast
import Derived.Test.YtppkommlmloenabWTab
import Derived.Test.YtppkommlmloenabWFour
import Derived.Test.YtppkommlmloenabWQPut
import Derived.Test.YtppkommlmloenabWApart
import Derived.Test.YtppkommlmloenabWArr
import Derived.Test.YtppkommlmloenabWZeros
import Derived.Test.YtppkommlmloenabWFoot
import Derived.Test.YtppkommlmloenabWKept
import Derived.Test.YtppkommlmloenabWShare
import Derived.Test.YtppkommlmloenabWN
import Derived.Test.YtppkommlmloenabWFootNe
import Derived.Test.YtppkommlmloenabWAt
import Derived.Test.YtppkommlmloenabWEqStruct
import Derived.Test.YtppkommlmloenabWRepsOne
import Derived.Test.YtppkommlmloenabWInv
import Derived.Test.YtppkommlmloenabWInvWords
import Derived.Test.YtppkommlmloenabWGuard
import Derived.Test.YtppkommlmloenabWNEv
import Derived.Test.YtppkommlmloenabWMore
namespace Go.Proofs.Ytppkommlmloenab.PFnExactRunTime
open Go.RowKit Go.Proofs.Ytppkommlmloenab.Own Go.Proofs.YtppkommlmloenabW.PrintWords Go.Proofs.YtppkommlmloenabW.PrintLast Go.Proofs.YtppkommlmloenabW.PrintMore
attribute [local go_sem] max2_int min2_int max_two min_two max_three min_three max_four min_four   -- for this text's walks alone
set_option linter.unusedVariables false
set_option linter.unusedSimpArgs false



def errW : Option Int → Value
  | none => .nilIface
  | some c => .iface 0 (.int .i64 c)
theorem errW_none : errW none = .nilIface := rfl
theorem errW_some (c : Int) : errW (some c) = .iface 0 (.int .i64 c) := rfl

theorem info3 : (Try.prog.info? 3).map (fun i => (i.zero, i.size, i.bytes)) = some (some (.int .i64 0), 1, 8) := by kernel_rfl
-- the values' own types

end Go.Proofs.Ytppkommlmloenab.PFnExactRunTime
