-- Written by a program of this project (xprint.py) out of the translation; Lean checks it.
import Derived.Test.YtgkoclacdmmkiaaProg
import Derived.Below
import Derived.Deep.Draws
import Derived.Deep.AppendLies
import Derived.Maps.AppendAt
import Derived.OwnWalk
import Derived.Laws.BytesArg
import Derived.Laws.MakeOwn
import Derived.Laws.OwnMore
import Derived.Deep.OwnRows
import Derived.Tactics
import Derived.Lib.ConvBytes
import Derived.Laws.Slices
import Derived.WalkKit
import Derived.KernelRfl
import Derived.RowKit3
import Derived.Deep.LoopGhost
import Derived.Deep.QuietTactic
import Derived.BigQuiet
import Derived.WideLaws
import Derived.Deep.DeepCutAuto
import Derived.Deep.CutBlock
import Derived.Deep.RegionHeld3
import Derived.Laws.Rows
import Derived.Lib.AppendStr
import Derived.ArgAppend
import Derived.Laws.IdiomCopy
import Derived.OrdersHeld
import Derived.Laws.BitsLemmas
import Derived.RowKit
import Derived.Shelf.Abstract
import Derived.Lib.SliceRun
import Derived.Test.YtgkoclacdmmkiaaShelf
import Derived.Test.YtgkoclacdmmkiaaWWords
import Derived.Test.YtgkoclacdmmkiaaWLast
import Derived.Test.YtgkoclacdmmkiaaWTab
import Derived.Test.YtgkoclacdmmkiaaWFour
import Derived.Test.YtgkoclacdmmkiaaWQPut
import Derived.Test.YtgkoclacdmmkiaaWApart
import Derived.Test.YtgkoclacdmmkiaaWArr
import Derived.Test.YtgkoclacdmmkiaaWZeros
import Derived.Test.YtgkoclacdmmkiaaWFoot
import Derived.Test.YtgkoclacdmmkiaaWKept
import Derived.Test.YtgkoclacdmmkiaaWShare
import Derived.Test.YtgkoclacdmmkiaaWN
import Derived.Test.YtgkoclacdmmkiaaWFootNe
import Derived.Test.YtgkoclacdmmkiaaWAt
import Derived.Test.YtgkoclacdmmkiaaWEqStruct
import Derived.Test.YtgkoclacdmmkiaaWRepsOne
import Derived.Test.YtgkoclacdmmkiaaWInv
import Derived.Test.YtgkoclacdmmkiaaWInvWords
import Derived.Test.YtgkoclacdmmkiaaWGuard
import Derived.Test.YtgkoclacdmmkiaaWNEv
import Derived.Test.YtgkoclacdmmkiaaWMore
namespace Go.Proofs.Ytgkoclacdmmkiaa.PFnExactHitsOf
open Go.RowKit Go.Proofs.YtgkoclacdmmkiaaW.PrintWords Go.Proofs.YtgkoclacdmmkiaaW.PrintLast Go.Proofs.YtgkoclacdmmkiaaW.PrintMore
attribute [local go_sem] max2_int min2_int max_two min_two max_three min_three max_four min_four   -- for this text's walks alone
set_option linter.unusedVariables false
set_option linter.unusedSimpArgs false



def errW : Option Int → Value
  | none => .nilIface
  | some c => .iface 0 (.int .i64 c)
theorem errW_none : errW none = .nilIface := rfl
theorem errW_some (c : Int) : errW (some c) = .iface 0 (.int .i64 c) := rfl

theorem info3 : (Try.prog.info? 3).map (fun i => (i.zero, i.size, i.bytes)) = some (some (.int .i64 0), 1, 8) := by kernel_rfl
-- the values' own types

end Go.Proofs.Ytgkoclacdmmkiaa.PFnExactHitsOf
