-- Written by a program of this project (xprint.py) out of the translation; Lean checks it.
import Derived.Test.YtcmlledlhknbpaaProg
import Derived.Below
import Derived.Deep.Draws
import Derived.Deep.AppendLies
import Derived.Maps.AppendAt
import Derived.OwnWalk
import Derived.Laws.BytesArg
import Derived.Laws.MakeOwn
import Derived.Laws.OwnMore
import Derived.Deep.OwnRows
import Derived.Tactics
import Derived.Lib.ConvBytes
import Derived.Laws.Slices
import Derived.WalkKit
import Derived.KernelRfl
import Derived.RowKit3
import Derived.Deep.LoopGhost
import Derived.Deep.QuietTactic
import Derived.BigQuiet
import Derived.WideLaws
import Derived.Deep.DeepCutAuto
import Derived.Deep.CutBlock
import Derived.Deep.RegionHeld3
import Derived.Laws.Rows
import Derived.Lib.AppendStr
import Derived.ArgAppend
import Derived.Laws.IdiomCopy
import Derived.OrdersHeld
import Derived.Laws.BitsLemmas
import Derived.RowKit
import Derived.Shelf.Abstract
import Derived.Stop.RegionWithIn
import Derived.RangeFuncBox
import Derived.RangeFuncLeaves
import Derived.RangeFuncNested
import Derived.OwnWalkIn
import Derived.TacticsInMore
import Derived.LoopNIn
import Derived.LoopIn
import Derived.Sort.OwnSorted
import Derived.Lib.SlKeysI
import Derived.Lib.SliceRun
import Derived.Shelf.Spec.SlicesInsertGrow
import Derived.Test.YtcmlledlhknbpaaShelf
import Derived.Test.YtcmlledlhknbpaaWWords
import Derived.Test.YtcmlledlhknbpaaWLast
import Derived.Test.YtcmlledlhknbpaaWTab
import Derived.Test.YtcmlledlhknbpaaWFour
import Derived.Test.YtcmlledlhknbpaaWQPut
import Derived.Test.YtcmlledlhknbpaaWApart
import Derived.Test.YtcmlledlhknbpaaWArr
import Derived.Test.YtcmlledlhknbpaaWZeros
import Derived.Test.YtcmlledlhknbpaaWFoot
import Derived.Test.YtcmlledlhknbpaaWKept
import Derived.Test.YtcmlledlhknbpaaWShare
import Derived.Test.YtcmlledlhknbpaaWN
import Derived.Test.YtcmlledlhknbpaaWFootNe
import Derived.Test.YtcmlledlhknbpaaWAt
import Derived.Test.YtcmlledlhknbpaaWEqStruct
import Derived.Test.YtcmlledlhknbpaaWRepsOne
import Derived.Test.YtcmlledlhknbpaaWInv
import Derived.Test.YtcmlledlhknbpaaWInvWords
import Derived.Test.YtcmlledlhknbpaaWGuard
import Derived.Test.YtcmlledlhknbpaaWNEv
import Derived.Test.YtcmlledlhknbpaaWMore
namespace Go.Proofs.Ytcmlledlhknbpaa.PFnExactTouchLru
open Go.RowKit Go.Proofs.YtcmlledlhknbpaaW.PrintWords Go.Proofs.YtcmlledlhknbpaaW.PrintLast Go.Proofs.YtcmlledlhknbpaaW.PrintMore
attribute [local go_sem] max2_int min2_int max_two min_two max_three min_three max_four min_four   -- for this text's walks alone
set_option linter.unusedVariables false
set_option linter.unusedSimpArgs false



def errW : Option Int → Value
  | none => .nilIface
  | some c => .iface 0 (.int .i64 c)
theorem errW_none : errW none = .nilIface := rfl
theorem errW_some (c : Int) : errW (some c) = .iface 0 (.int .i64 c) := rfl

theorem info3 : (Try.prog.info? 3).map (fun i => (i.zero, i.size, i.bytes)) = some (some (.int .i64 0), 1, 8) := by kernel_rfl
-- the values' own types

end Go.Proofs.Ytcmlledlhknbpaa.PFnExactTouchLru
