/-
  No cell of these rows narrows 'for every input' (looked for: loops, veiled, ifaces, maps, wideKeys, modest, calm, conditions, laid).
  DERIVED. THE GIVEN ROWS OF THIS SEAT. 8 by the template 'for every input the law returns true; each argument reads behind the call as it read before'; 0 by the template 'total and deterministic' (their statements: YtbimpkfffcnlhaaTotals.lean).
  GIVEN WITH THE SEED: the statements are not yours to turn. If you find one false, say at which input.
  Laid BY PROGRAM, IN A SANDBOX (cutbox-rows.mjs): the forced cells as the released guide's own fill.sh prints them over the translation 67cd019e1584b86c… (all of the seat's roots in one cut). By AI agents, Wed Nov 11 2026. No macro, syntax, notation, axiom, sorry.
-/
import Derived.Test.YtbimpkfffcnlhaaChecked
import GoSem.Claim
import GoSem.ClaimJoined
import GoSem.ClaimMapViews
import Derived.JoinedTies
import Derived.KernelRfl
namespace Go.Proofs.Ytbimpkfffcnlhaa
/- THE CELL 'sum', in the pinned program and in every row, IS THE sha256 OF THE DUMP (.gsa) THAT YtbimpkfffcnlhaaProg.lean LOADS. Nothing in Lean hashes anything: it is a label: what it is worth is what the hold of that sum in a sandbox is worth. -/
noncomputable def Try.pinned : Pinned := { name := "ytbimpkfffcnlhaa", sum := "67cd019e1584b86c38bdbb3c5edef4fbb1582c98ea0ed8a37e10ed919f3f6f65", checked := Try.checked }
namespace Rows
def none {H : Type} : Left H := { results := [], args := [] }

/-- 'laws.FnExactNewSketch': WHATEVER THE INPUT: true; the input reads as it did. -/
def fnExactNewSketchSpec : ChangeSpec := { name := "fnExactNewSketch", fn := fun _ => fun
  | [] => { results := [.lit (.bool true)], args := [] }
  | _ => none }
def fnExactNewSketchRow : OpenClaim := { program := "ytbimpkfffcnlhaa", sum := "67cd019e1584b86c38bdbb3c5edef4fbb1582c98ea0ed8a37e10ed919f3f6f65", func := "loop.example/g00256/laws.FnExactNewSketch", spec := "fnExactNewSketch", apart := false }
def FnExactNewSketchSaid : Prop := fnExactNewSketchRow.holds Try.pinned (OpenSpec.ofChange fnExactNewSketchSpec)

/-- ITS FALSE NEIGHBOUR: 'it returns false'. Refute it at one input. -/
def fnExactNewSketchWrong : ChangeSpec := { name := "fnExactNewSketch", fn := fun _ => fun
  | [] => { results := [.lit (.bool false)], args := [] }
  | _ => none }
def FnExactNewSketchWrongFalsely : Prop := fnExactNewSketchRow.holds Try.pinned (OpenSpec.ofChange fnExactNewSketchWrong)

/-- 'laws.FnExactCellsOf': WHATEVER THE INPUT: true; the input reads as it did. -/
def fnExactCellsOfSpec : ChangeSpec := { name := "fnExactCellsOf", fn := fun _ => fun
  | [d] => { results := [.lit (.bool true)], args := [d] }
  | _ => none }
def fnExactCellsOfRow : OpenClaim := { program := "ytbimpkfffcnlhaa", sum := "67cd019e1584b86c38bdbb3c5edef4fbb1582c98ea0ed8a37e10ed919f3f6f65", func := "loop.example/g00256/laws.FnExactCellsOf", spec := "fnExactCellsOf", apart := false }
def FnExactCellsOfSaid : Prop := fnExactCellsOfRow.holds Try.pinned (OpenSpec.ofChange fnExactCellsOfSpec)

/-- ITS FALSE NEIGHBOUR: 'it returns false'. Refute it at one input. -/
def fnExactCellsOfWrong : ChangeSpec := { name := "fnExactCellsOf", fn := fun _ => fun
  | [d] => { results := [.lit (.bool false)], args := [d] }
  | _ => none }
def FnExactCellsOfWrongFalsely : Prop := fnExactCellsOfRow.holds Try.pinned (OpenSpec.ofChange fnExactCellsOfWrong)

/-- 'laws.FnExactGoodSketch': WHATEVER THE INPUT: true; the input reads as it did. -/
def fnExactGoodSketchSpec : ChangeSpec := { name := "fnExactGoodSketch", fn := fun _ => fun
  | [d] => { results := [.lit (.bool true)], args := [d] }
  | _ => none }
def fnExactGoodSketchRow : OpenClaim := { program := "ytbimpkfffcnlhaa", sum := "67cd019e1584b86c38bdbb3c5edef4fbb1582c98ea0ed8a37e10ed919f3f6f65", func := "loop.example/g00256/laws.FnExactGoodSketch", spec := "fnExactGoodSketch", unfollowed := true, recurses := true, apart := false }
def FnExactGoodSketchSaid : Prop := fnExactGoodSketchRow.holds Try.pinned (OpenSpec.ofChange fnExactGoodSketchSpec)

/-- ITS FALSE NEIGHBOUR: 'it returns false'. Refute it at one input. -/
def fnExactGoodSketchWrong : ChangeSpec := { name := "fnExactGoodSketch", fn := fun _ => fun
  | [d] => { results := [.lit (.bool false)], args := [d] }
  | _ => none }
def FnExactGoodSketchWrongFalsely : Prop := fnExactGoodSketchRow.holds Try.pinned (OpenSpec.ofChange fnExactGoodSketchWrong)

/-- 'laws.FnExactAdmitsKey': WHATEVER THE INPUT: true; the input reads as it did. -/
def fnExactAdmitsKeySpec : ChangeSpec := { name := "fnExactAdmitsKey", fn := fun _ => fun
  | [d1, d2, d3] => { results := [.lit (.bool true)], args := [d1, d2, d3] }
  | _ => none }
def fnExactAdmitsKeyRow : OpenClaim := { program := "ytbimpkfffcnlhaa", sum := "67cd019e1584b86c38bdbb3c5edef4fbb1582c98ea0ed8a37e10ed919f3f6f65", func := "loop.example/g00256/laws.FnExactAdmitsKey", spec := "fnExactAdmitsKey", unfollowed := true, recurses := true, apart := false }
def FnExactAdmitsKeySaid : Prop := fnExactAdmitsKeyRow.holds Try.pinned (OpenSpec.ofChange fnExactAdmitsKeySpec)

/-- ITS FALSE NEIGHBOUR: 'it returns false'. Refute it at one input. -/
def fnExactAdmitsKeyWrong : ChangeSpec := { name := "fnExactAdmitsKey", fn := fun _ => fun
  | [d1, d2, d3] => { results := [.lit (.bool false)], args := [d1, d2, d3] }
  | _ => none }
def FnExactAdmitsKeyWrongFalsely : Prop := fnExactAdmitsKeyRow.holds Try.pinned (OpenSpec.ofChange fnExactAdmitsKeyWrong)

/-- 'laws.FnExactEstimateOf': WHATEVER THE INPUT: true; the input reads as it did. -/
def fnExactEstimateOfSpec : ChangeSpec := { name := "fnExactEstimateOf", fn := fun _ => fun
  | [d1, d2] => { results := [.lit (.bool true)], args := [d1, d2] }
  | _ => none }
def fnExactEstimateOfRow : OpenClaim := { program := "ytbimpkfffcnlhaa", sum := "67cd019e1584b86c38bdbb3c5edef4fbb1582c98ea0ed8a37e10ed919f3f6f65", func := "loop.example/g00256/laws.FnExactEstimateOf", spec := "fnExactEstimateOf", unfollowed := true, recurses := true, apart := false }
def FnExactEstimateOfSaid : Prop := fnExactEstimateOfRow.holds Try.pinned (OpenSpec.ofChange fnExactEstimateOfSpec)

/-- ITS FALSE NEIGHBOUR: 'it returns false'. Refute it at one input. -/
def fnExactEstimateOfWrong : ChangeSpec := { name := "fnExactEstimateOf", fn := fun _ => fun
  | [d1, d2] => { results := [.lit (.bool false)], args := [d1, d2] }
  | _ => none }
def FnExactEstimateOfWrongFalsely : Prop := fnExactEstimateOfRow.holds Try.pinned (OpenSpec.ofChange fnExactEstimateOfWrong)

/-- 'laws.FnExactJoinSketches': WHATEVER THE INPUT: true; the input reads as it did. -/
def fnExactJoinSketchesSpec : ChangeSpec := { name := "fnExactJoinSketches", fn := fun _ => fun
  | [d1, d2] => { results := [.lit (.bool true)], args := [d1, d2] }
  | _ => none }
def fnExactJoinSketchesRow : OpenClaim := { program := "ytbimpkfffcnlhaa", sum := "67cd019e1584b86c38bdbb3c5edef4fbb1582c98ea0ed8a37e10ed919f3f6f65", func := "loop.example/g00256/laws.FnExactJoinSketches", spec := "fnExactJoinSketches", unfollowed := true, recurses := true, apart := false }
def FnExactJoinSketchesSaid : Prop := fnExactJoinSketchesRow.holds Try.pinned (OpenSpec.ofChange fnExactJoinSketchesSpec)

/-- ITS FALSE NEIGHBOUR: 'it returns false'. Refute it at one input. -/
def fnExactJoinSketchesWrong : ChangeSpec := { name := "fnExactJoinSketches", fn := fun _ => fun
  | [d1, d2] => { results := [.lit (.bool false)], args := [d1, d2] }
  | _ => none }
def FnExactJoinSketchesWrongFalsely : Prop := fnExactJoinSketchesRow.holds Try.pinned (OpenSpec.ofChange fnExactJoinSketchesWrong)

/-- 'laws.FnExactHalveSketch': WHATEVER THE INPUT: true; the input reads as it did. -/
def fnExactHalveSketchSpec : ChangeSpec := { name := "fnExactHalveSketch", fn := fun _ => fun
  | [d] => { results := [.lit (.bool true)], args := [d] }
  | _ => none }
def fnExactHalveSketchRow : OpenClaim := { program := "ytbimpkfffcnlhaa", sum := "67cd019e1584b86c38bdbb3c5edef4fbb1582c98ea0ed8a37e10ed919f3f6f65", func := "loop.example/g00256/laws.FnExactHalveSketch", spec := "fnExactHalveSketch", unfollowed := true, recurses := true, apart := false }
def FnExactHalveSketchSaid : Prop := fnExactHalveSketchRow.holds Try.pinned (OpenSpec.ofChange fnExactHalveSketchSpec)

/-- ITS FALSE NEIGHBOUR: 'it returns false'. Refute it at one input. -/
def fnExactHalveSketchWrong : ChangeSpec := { name := "fnExactHalveSketch", fn := fun _ => fun
  | [d] => { results := [.lit (.bool false)], args := [d] }
  | _ => none }
def FnExactHalveSketchWrongFalsely : Prop := fnExactHalveSketchRow.holds Try.pinned (OpenSpec.ofChange fnExactHalveSketchWrong)

/-- 'laws.FnExactCountIn': WHATEVER THE INPUT: true; the input reads as it did. -/
def fnExactCountInSpec : ChangeSpec := { name := "fnExactCountIn", fn := fun _ => fun
  | [d1, d2, d3] => { results := [.lit (.bool true)], args := [d1, d2, d3] }
  | _ => none }
def fnExactCountInRow : OpenClaim := { program := "ytbimpkfffcnlhaa", sum := "67cd019e1584b86c38bdbb3c5edef4fbb1582c98ea0ed8a37e10ed919f3f6f65", func := "loop.example/g00256/laws.FnExactCountIn", spec := "fnExactCountIn", unfollowed := true, recurses := true, apart := false }
def FnExactCountInSaid : Prop := fnExactCountInRow.holds Try.pinned (OpenSpec.ofChange fnExactCountInSpec)

/-- ITS FALSE NEIGHBOUR: 'it returns false'. Refute it at one input. -/
def fnExactCountInWrong : ChangeSpec := { name := "fnExactCountIn", fn := fun _ => fun
  | [d1, d2, d3] => { results := [.lit (.bool false)], args := [d1, d2, d3] }
  | _ => none }
def FnExactCountInWrongFalsely : Prop := fnExactCountInRow.holds Try.pinned (OpenSpec.ofChange fnExactCountInWrong)

/- THE SECOND FORM. 'bulk': how many values and letters a reading holds, each counted each time it is reached (what is shared counts as often as it is met; a slice's spare places count too). A statement '..UptoSaid' is the law's where the arguments, and the package variables that the reading takes, are together of bulk at most 1048576: NARROWER than '..Said'. Prove '..Said' where nothing that the law and all that it calls make is longer than what came in: it says more and counts as full. Else prove '..UptoSaid'. A law counts once. -/
mutual
def uptoBulk {H : Type} : DataW H → Nat
  | .lit (.string bytes) => bytes.length + 1
  | .lit _ => 1
  | .nil => 1
  | .ptr d => uptoBulk d + 1
  | .slice elems spare => uptoBulkAll elems + uptoBulkAll spare + 1
  | .agg parts => uptoBulkAll parts + 1
  | .iface _ d => uptoBulk d + 1
  | .map entries => uptoBulkEntries entries + 1
  | .held _ => 1
def uptoBulkAll {H : Type} : List (DataW H) → Nat
  | [] => 0
  | d :: r => uptoBulk d + uptoBulkAll r
def uptoBulkEntries {H : Type} : List (Lit × DataW H) → Nat
  | [] => 0
  | x :: r => uptoBulkEntry x + uptoBulkEntries r
def uptoBulkEntry {H : Type} : Lit × DataW H → Nat
  | (.string bytes, d) => bytes.length + uptoBulk d + 1
  | (_, d) => uptoBulk d + 1
 end
def uptoSmall : (H : Type) → List (DataW H) → Bool := fun _ ds => decide (uptoBulkAll ds ≤ 1048576)
def OpenSpec.upto (s : _root_.Go.ChangeSpec) : _root_.Go.OpenSpec := { _root_.Go.OpenSpec.ofChange s with cond := some uptoSmall }

/-- 'laws.FnExactNewSketch', WHERE WHAT IT READS IS OF BULK AT MOST 1048576: true; the input reads as it did. -/
def fnExactNewSketchUptoRow : OpenClaim := { program := "ytbimpkfffcnlhaa", sum := "67cd019e1584b86c38bdbb3c5edef4fbb1582c98ea0ed8a37e10ed919f3f6f65", func := "loop.example/g00256/laws.FnExactNewSketch", spec := "fnExactNewSketch", apart := false, narrowed := true }
def FnExactNewSketchUptoSaid : Prop := fnExactNewSketchUptoRow.holds Try.pinned (OpenSpec.upto fnExactNewSketchSpec)

/-- 'laws.FnExactCellsOf', WHERE WHAT IT READS IS OF BULK AT MOST 1048576: true; the input reads as it did. -/
def fnExactCellsOfUptoRow : OpenClaim := { program := "ytbimpkfffcnlhaa", sum := "67cd019e1584b86c38bdbb3c5edef4fbb1582c98ea0ed8a37e10ed919f3f6f65", func := "loop.example/g00256/laws.FnExactCellsOf", spec := "fnExactCellsOf", apart := false, narrowed := true }
def FnExactCellsOfUptoSaid : Prop := fnExactCellsOfUptoRow.holds Try.pinned (OpenSpec.upto fnExactCellsOfSpec)

/-- 'laws.FnExactGoodSketch', WHERE WHAT IT READS IS OF BULK AT MOST 1048576: true; the input reads as it did. -/
def fnExactGoodSketchUptoRow : OpenClaim := { program := "ytbimpkfffcnlhaa", sum := "67cd019e1584b86c38bdbb3c5edef4fbb1582c98ea0ed8a37e10ed919f3f6f65", func := "loop.example/g00256/laws.FnExactGoodSketch", spec := "fnExactGoodSketch", unfollowed := true, recurses := true, apart := false, narrowed := true }
def FnExactGoodSketchUptoSaid : Prop := fnExactGoodSketchUptoRow.holds Try.pinned (OpenSpec.upto fnExactGoodSketchSpec)

/-- 'laws.FnExactAdmitsKey', WHERE WHAT IT READS IS OF BULK AT MOST 1048576: true; the input reads as it did. -/
def fnExactAdmitsKeyUptoRow : OpenClaim := { program := "ytbimpkfffcnlhaa", sum := "67cd019e1584b86c38bdbb3c5edef4fbb1582c98ea0ed8a37e10ed919f3f6f65", func := "loop.example/g00256/laws.FnExactAdmitsKey", spec := "fnExactAdmitsKey", unfollowed := true, recurses := true, apart := false, narrowed := true }
def FnExactAdmitsKeyUptoSaid : Prop := fnExactAdmitsKeyUptoRow.holds Try.pinned (OpenSpec.upto fnExactAdmitsKeySpec)

/-- 'laws.FnExactEstimateOf', WHERE WHAT IT READS IS OF BULK AT MOST 1048576: true; the input reads as it did. -/
def fnExactEstimateOfUptoRow : OpenClaim := { program := "ytbimpkfffcnlhaa", sum := "67cd019e1584b86c38bdbb3c5edef4fbb1582c98ea0ed8a37e10ed919f3f6f65", func := "loop.example/g00256/laws.FnExactEstimateOf", spec := "fnExactEstimateOf", unfollowed := true, recurses := true, apart := false, narrowed := true }
def FnExactEstimateOfUptoSaid : Prop := fnExactEstimateOfUptoRow.holds Try.pinned (OpenSpec.upto fnExactEstimateOfSpec)

/-- 'laws.FnExactJoinSketches', WHERE WHAT IT READS IS OF BULK AT MOST 1048576: true; the input reads as it did. -/
def fnExactJoinSketchesUptoRow : OpenClaim := { program := "ytbimpkfffcnlhaa", sum := "67cd019e1584b86c38bdbb3c5edef4fbb1582c98ea0ed8a37e10ed919f3f6f65", func := "loop.example/g00256/laws.FnExactJoinSketches", spec := "fnExactJoinSketches", unfollowed := true, recurses := true, apart := false, narrowed := true }
def FnExactJoinSketchesUptoSaid : Prop := fnExactJoinSketchesUptoRow.holds Try.pinned (OpenSpec.upto fnExactJoinSketchesSpec)

/-- 'laws.FnExactHalveSketch', WHERE WHAT IT READS IS OF BULK AT MOST 1048576: true; the input reads as it did. -/
def fnExactHalveSketchUptoRow : OpenClaim := { program := "ytbimpkfffcnlhaa", sum := "67cd019e1584b86c38bdbb3c5edef4fbb1582c98ea0ed8a37e10ed919f3f6f65", func := "loop.example/g00256/laws.FnExactHalveSketch", spec := "fnExactHalveSketch", unfollowed := true, recurses := true, apart := false, narrowed := true }
def FnExactHalveSketchUptoSaid : Prop := fnExactHalveSketchUptoRow.holds Try.pinned (OpenSpec.upto fnExactHalveSketchSpec)

/-- 'laws.FnExactCountIn', WHERE WHAT IT READS IS OF BULK AT MOST 1048576: true; the input reads as it did. -/
def fnExactCountInUptoRow : OpenClaim := { program := "ytbimpkfffcnlhaa", sum := "67cd019e1584b86c38bdbb3c5edef4fbb1582c98ea0ed8a37e10ed919f3f6f65", func := "loop.example/g00256/laws.FnExactCountIn", spec := "fnExactCountIn", unfollowed := true, recurses := true, apart := false, narrowed := true }
def FnExactCountInUptoSaid : Prop := fnExactCountInUptoRow.holds Try.pinned (OpenSpec.upto fnExactCountInSpec)

end Rows
end Go.Proofs.Ytbimpkfffcnlhaa
