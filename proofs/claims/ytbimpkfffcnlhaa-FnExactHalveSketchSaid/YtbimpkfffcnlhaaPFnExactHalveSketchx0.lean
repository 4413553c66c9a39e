-- Written by a program of this project (xprint.py) out of the translation; Lean checks it.
import Derived.Test.YtbimpkfffcnlhaaProg
import Derived.Below
import Derived.Deep.Draws
import Derived.Deep.AppendLies
import Derived.Maps.AppendAt
import Derived.OwnWalk
import Derived.Laws.BytesArg
import Derived.Laws.MakeOwn
import Derived.Laws.OwnMore
import Derived.Deep.OwnRows
import Derived.Tactics
import Derived.Lib.ConvBytes
import Derived.Laws.Slices
import Derived.WalkKit
import Derived.KernelRfl
import Derived.RowKit3
import Derived.Deep.LoopGhost
import Derived.Deep.QuietTactic
import Derived.BigQuiet
import Derived.WideLaws
import Derived.Deep.DeepCutAuto
import Derived.Deep.CutBlock
import Derived.Deep.RegionHeld3
import Derived.Laws.Rows
import Derived.Lib.AppendStr
import Derived.ArgAppend
import Derived.Laws.IdiomCopy
import Derived.OrdersHeld
import Derived.Laws.BitsLemmas
import Derived.RowKit
import Derived.Shelf.Abstract
import Derived.Stop.RegionWithIn
import Derived.RangeFuncBox
import Derived.RangeFuncLeaves
import Derived.RangeFuncNested
import Derived.OwnWalkIn
import Derived.TacticsInMore
import Derived.LoopNIn
import Derived.LoopIn
import Derived.Sort.OwnSorted
import Derived.Lib.SlKeysI
import Derived.Lib.SliceRun
import Derived.Test.YtbimpkfffcnlhaaWWords
import Derived.Test.YtbimpkfffcnlhaaWLast
import Derived.Test.YtbimpkfffcnlhaaWTab
import Derived.Test.YtbimpkfffcnlhaaWFour
import Derived.Test.YtbimpkfffcnlhaaWQPut
import Derived.Test.YtbimpkfffcnlhaaWApart
import Derived.Test.YtbimpkfffcnlhaaWArr
import Derived.Test.YtbimpkfffcnlhaaWZeros
import Derived.Test.YtbimpkfffcnlhaaWFoot
import Derived.Test.YtbimpkfffcnlhaaWKept
import Derived.Test.YtbimpkfffcnlhaaWShare
import Derived.Test.YtbimpkfffcnlhaaWN
import Derived.Test.YtbimpkfffcnlhaaWFootNe
import Derived.Test.YtbimpkfffcnlhaaWAt
import Derived.Test.YtbimpkfffcnlhaaWEqStruct
import Derived.Test.YtbimpkfffcnlhaaWRepsOne
import Derived.Test.YtbimpkfffcnlhaaWInv
import Derived.Test.YtbimpkfffcnlhaaWInvWords
import Derived.Test.YtbimpkfffcnlhaaWGuard
import Derived.Test.YtbimpkfffcnlhaaWNEv
import Derived.Test.YtbimpkfffcnlhaaWMore
namespace Go.Proofs.Ytbimpkfffcnlhaa.PFnExactHalveSketch
open Go.RowKit Go.Proofs.YtbimpkfffcnlhaaW.PrintWords Go.Proofs.YtbimpkfffcnlhaaW.PrintLast Go.Proofs.YtbimpkfffcnlhaaW.PrintMore
attribute [local go_sem] max2_int min2_int max_two min_two max_three min_three max_four min_four   -- for this text's walks alone
set_option linter.unusedVariables false
set_option linter.unusedSimpArgs false



def errW : Option Int → Value
  | none => .nilIface
  | some c => .iface 0 (.int .i64 c)
theorem errW_none : errW none = .nilIface := rfl
theorem errW_some (c : Int) : errW (some c) = .iface 0 (.int .i64 c) := rfl

theorem info3 : (Try.prog.info? 3).map (fun i => (i.zero, i.size, i.bytes)) = some (some (.int .i64 0), 1, 8) := by kernel_rfl
-- the values' own types

end Go.Proofs.Ytbimpkfffcnlhaa.PFnExactHalveSketch
