/-
  No cell of these rows narrows 'for every input' (looked for: loops, veiled, ifaces, maps, wideKeys, modest, calm, conditions, laid).
  DERIVED. THE GIVEN ROWS OF THIS SEAT. 6 by the template 'for every input the law returns true; each argument reads behind the call as it read before'; 0 by the template 'total and deterministic' (their statements: YtomigaddkehhiaaTotals.lean).
  GIVEN WITH THE SEED: the statements are not yours to turn. If you find one false, say at which input.
  Laid BY PROGRAM, IN A SANDBOX (cutbox-rows.mjs): the forced cells as the released guide's own fill.sh prints them over the translation 2b141e647cf8510a… (all of the seat's roots in one cut). By AI agents, Wed Nov 11 2026. No macro, syntax, notation, axiom, sorry.
-/
import Derived.Test.YtomigaddkehhiaaChecked
import GoSem.Claim
import GoSem.ClaimJoined
import GoSem.ClaimMapViews
import Derived.JoinedTies
import Derived.KernelRfl
namespace Go.Proofs.Ytomigaddkehhiaa
/- THE CELL 'sum', in the pinned program and in every row, IS THE sha256 OF THE DUMP (.gsa) THAT YtomigaddkehhiaaProg.lean LOADS. Nothing in Lean hashes anything: it is a label: what it is worth is what the hold of that sum in a sandbox is worth. -/
noncomputable def Try.pinned : Pinned := { name := "ytomigaddkehhiaa", sum := "2b141e647cf8510afbea53da1ee65dc228af3a0c762d240a9b88c8aebdddae9b", checked := Try.checked }
namespace Rows
def none {H : Type} : Left H := { results := [], args := [] }

/-- 'laws.FnExactHashOf': WHATEVER THE INPUT: true; the input reads as it did. -/
def fnExactHashOfSpec : ChangeSpec := { name := "fnExactHashOf", fn := fun _ => fun
  | [d] => { results := [.lit (.bool true)], args := [d] }
  | _ => none }
def fnExactHashOfRow : OpenClaim := { program := "ytomigaddkehhiaa", sum := "2b141e647cf8510afbea53da1ee65dc228af3a0c762d240a9b88c8aebdddae9b", func := "loop.example/g00256/laws.FnExactHashOf", spec := "fnExactHashOf", apart := false }
def FnExactHashOfSaid : Prop := fnExactHashOfRow.holds Try.pinned (OpenSpec.ofChange fnExactHashOfSpec)

/-- ITS FALSE NEIGHBOUR: 'it returns false'. Refute it at one input. -/
def fnExactHashOfWrong : ChangeSpec := { name := "fnExactHashOf", fn := fun _ => fun
  | [d] => { results := [.lit (.bool false)], args := [d] }
  | _ => none }
def FnExactHashOfWrongFalsely : Prop := fnExactHashOfRow.holds Try.pinned (OpenSpec.ofChange fnExactHashOfWrong)

/-- 'laws.FnExactGoodRefs': WHATEVER THE INPUT: true; the input reads as it did. -/
def fnExactGoodRefsSpec : ChangeSpec := { name := "fnExactGoodRefs", fn := fun _ => fun
  | [d] => { results := [.lit (.bool true)], args := [d] }
  | _ => none }
def fnExactGoodRefsRow : OpenClaim := { program := "ytomigaddkehhiaa", sum := "2b141e647cf8510afbea53da1ee65dc228af3a0c762d240a9b88c8aebdddae9b", func := "loop.example/g00256/laws.FnExactGoodRefs", spec := "fnExactGoodRefs", unfollowed := true, recurses := true, apart := false }
def FnExactGoodRefsSaid : Prop := fnExactGoodRefsRow.holds Try.pinned (OpenSpec.ofChange fnExactGoodRefsSpec)

/-- ITS FALSE NEIGHBOUR: 'it returns false'. Refute it at one input. -/
def fnExactGoodRefsWrong : ChangeSpec := { name := "fnExactGoodRefs", fn := fun _ => fun
  | [d] => { results := [.lit (.bool false)], args := [d] }
  | _ => none }
def FnExactGoodRefsWrongFalsely : Prop := fnExactGoodRefsRow.holds Try.pinned (OpenSpec.ofChange fnExactGoodRefsWrong)

/-- 'laws.FnExactNewSketch': WHATEVER THE INPUT: true; the input reads as it did. -/
def fnExactNewSketchSpec : ChangeSpec := { name := "fnExactNewSketch", fn := fun _ => fun
  | [] => { results := [.lit (.bool true)], args := [] }
  | _ => none }
def fnExactNewSketchRow : OpenClaim := { program := "ytomigaddkehhiaa", sum := "2b141e647cf8510afbea53da1ee65dc228af3a0c762d240a9b88c8aebdddae9b", func := "loop.example/g00256/laws.FnExactNewSketch", spec := "fnExactNewSketch", apart := false }
def FnExactNewSketchSaid : Prop := fnExactNewSketchRow.holds Try.pinned (OpenSpec.ofChange fnExactNewSketchSpec)

/-- ITS FALSE NEIGHBOUR: 'it returns false'. Refute it at one input. -/
def fnExactNewSketchWrong : ChangeSpec := { name := "fnExactNewSketch", fn := fun _ => fun
  | [] => { results := [.lit (.bool false)], args := [] }
  | _ => none }
def FnExactNewSketchWrongFalsely : Prop := fnExactNewSketchRow.holds Try.pinned (OpenSpec.ofChange fnExactNewSketchWrong)

/-- 'laws.FnExactMissesOf': WHATEVER THE INPUT: true; the input reads as it did. -/
def fnExactMissesOfSpec : ChangeSpec := { name := "fnExactMissesOf", fn := fun _ => fun
  | [d1, d2, d3] => { results := [.lit (.bool true)], args := [d1, d2, d3] }
  | _ => none }
def fnExactMissesOfRow : OpenClaim := { program := "ytomigaddkehhiaa", sum := "2b141e647cf8510afbea53da1ee65dc228af3a0c762d240a9b88c8aebdddae9b", func := "loop.example/g00256/laws.FnExactMissesOf", spec := "fnExactMissesOf", unfollowed := true, recurses := true, apart := false }
def FnExactMissesOfSaid : Prop := fnExactMissesOfRow.holds Try.pinned (OpenSpec.ofChange fnExactMissesOfSpec)

/-- ITS FALSE NEIGHBOUR: 'it returns false'. Refute it at one input. -/
def fnExactMissesOfWrong : ChangeSpec := { name := "fnExactMissesOf", fn := fun _ => fun
  | [d1, d2, d3] => { results := [.lit (.bool false)], args := [d1, d2, d3] }
  | _ => none }
def FnExactMissesOfWrongFalsely : Prop := fnExactMissesOfRow.holds Try.pinned (OpenSpec.ofChange fnExactMissesOfWrong)

/-- 'laws.FnExactCellsOf': WHATEVER THE INPUT: true; the input reads as it did. -/
def fnExactCellsOfSpec : ChangeSpec := { name := "fnExactCellsOf", fn := fun _ => fun
  | [d] => { results := [.lit (.bool true)], args := [d] }
  | _ => none }
def fnExactCellsOfRow : OpenClaim := { program := "ytomigaddkehhiaa", sum := "2b141e647cf8510afbea53da1ee65dc228af3a0c762d240a9b88c8aebdddae9b", func := "loop.example/g00256/laws.FnExactCellsOf", spec := "fnExactCellsOf", apart := false }
def FnExactCellsOfSaid : Prop := fnExactCellsOfRow.holds Try.pinned (OpenSpec.ofChange fnExactCellsOfSpec)

/-- ITS FALSE NEIGHBOUR: 'it returns false'. Refute it at one input. -/
def fnExactCellsOfWrong : ChangeSpec := { name := "fnExactCellsOf", fn := fun _ => fun
  | [d] => { results := [.lit (.bool false)], args := [d] }
  | _ => none }
def FnExactCellsOfWrongFalsely : Prop := fnExactCellsOfRow.holds Try.pinned (OpenSpec.ofChange fnExactCellsOfWrong)

/-- 'laws.FnExactNextUse': WHATEVER THE INPUT: true; the input reads as it did. -/
def fnExactNextUseSpec : ChangeSpec := { name := "fnExactNextUse", fn := fun _ => fun
  | [d1, d2, d3] => { results := [.lit (.bool true)], args := [d1, d2, d3] }
  | _ => none }
def fnExactNextUseRow : OpenClaim := { program := "ytomigaddkehhiaa", sum := "2b141e647cf8510afbea53da1ee65dc228af3a0c762d240a9b88c8aebdddae9b", func := "loop.example/g00256/laws.FnExactNextUse", spec := "fnExactNextUse", unfollowed := true, recurses := true, apart := false }
def FnExactNextUseSaid : Prop := fnExactNextUseRow.holds Try.pinned (OpenSpec.ofChange fnExactNextUseSpec)

/-- ITS FALSE NEIGHBOUR: 'it returns false'. Refute it at one input. -/
def fnExactNextUseWrong : ChangeSpec := { name := "fnExactNextUse", fn := fun _ => fun
  | [d1, d2, d3] => { results := [.lit (.bool false)], args := [d1, d2, d3] }
  | _ => none }
def FnExactNextUseWrongFalsely : Prop := fnExactNextUseRow.holds Try.pinned (OpenSpec.ofChange fnExactNextUseWrong)

/- THE SECOND FORM. 'bulk': how many values and letters a reading holds, each counted each time it is reached (what is shared counts as often as it is met; a slice's spare places count too). A statement '..UptoSaid' is the law's where the arguments, and the package variables that the reading takes, are together of bulk at most 1048576: NARROWER than '..Said'. Prove '..Said' where nothing that the law and all that it calls make is longer than what came in: it says more and counts as full. Else prove '..UptoSaid'. A law counts once. -/
mutual
def uptoBulk {H : Type} : DataW H → Nat
  | .lit (.string bytes) => bytes.length + 1
  | .lit _ => 1
  | .nil => 1
  | .ptr d => uptoBulk d + 1
  | .slice elems spare => uptoBulkAll elems + uptoBulkAll spare + 1
  | .agg parts => uptoBulkAll parts + 1
  | .iface _ d => uptoBulk d + 1
  | .map entries => uptoBulkEntries entries + 1
  | .held _ => 1
def uptoBulkAll {H : Type} : List (DataW H) → Nat
  | [] => 0
  | d :: r => uptoBulk d + uptoBulkAll r
def uptoBulkEntries {H : Type} : List (Lit × DataW H) → Nat
  | [] => 0
  | x :: r => uptoBulkEntry x + uptoBulkEntries r
def uptoBulkEntry {H : Type} : Lit × DataW H → Nat
  | (.string bytes, d) => bytes.length + uptoBulk d + 1
  | (_, d) => uptoBulk d + 1
 end
def uptoSmall : (H : Type) → List (DataW H) → Bool := fun _ ds => decide (uptoBulkAll ds ≤ 1048576)
def OpenSpec.upto (s : _root_.Go.ChangeSpec) : _root_.Go.OpenSpec := { _root_.Go.OpenSpec.ofChange s with cond := some uptoSmall }

/-- 'laws.FnExactHashOf', WHERE WHAT IT READS IS OF BULK AT MOST 1048576: true; the input reads as it did. -/
def fnExactHashOfUptoRow : OpenClaim := { program := "ytomigaddkehhiaa", sum := "2b141e647cf8510afbea53da1ee65dc228af3a0c762d240a9b88c8aebdddae9b", func := "loop.example/g00256/laws.FnExactHashOf", spec := "fnExactHashOf", apart := false, narrowed := true }
def FnExactHashOfUptoSaid : Prop := fnExactHashOfUptoRow.holds Try.pinned (OpenSpec.upto fnExactHashOfSpec)

/-- 'laws.FnExactGoodRefs', WHERE WHAT IT READS IS OF BULK AT MOST 1048576: true; the input reads as it did. -/
def fnExactGoodRefsUptoRow : OpenClaim := { program := "ytomigaddkehhiaa", sum := "2b141e647cf8510afbea53da1ee65dc228af3a0c762d240a9b88c8aebdddae9b", func := "loop.example/g00256/laws.FnExactGoodRefs", spec := "fnExactGoodRefs", unfollowed := true, recurses := true, apart := false, narrowed := true }
def FnExactGoodRefsUptoSaid : Prop := fnExactGoodRefsUptoRow.holds Try.pinned (OpenSpec.upto fnExactGoodRefsSpec)

/-- 'laws.FnExactNewSketch', WHERE WHAT IT READS IS OF BULK AT MOST 1048576: true; the input reads as it did. -/
def fnExactNewSketchUptoRow : OpenClaim := { program := "ytomigaddkehhiaa", sum := "2b141e647cf8510afbea53da1ee65dc228af3a0c762d240a9b88c8aebdddae9b", func := "loop.example/g00256/laws.FnExactNewSketch", spec := "fnExactNewSketch", apart := false, narrowed := true }
def FnExactNewSketchUptoSaid : Prop := fnExactNewSketchUptoRow.holds Try.pinned (OpenSpec.upto fnExactNewSketchSpec)

/-- 'laws.FnExactMissesOf', WHERE WHAT IT READS IS OF BULK AT MOST 1048576: true; the input reads as it did. -/
def fnExactMissesOfUptoRow : OpenClaim := { program := "ytomigaddkehhiaa", sum := "2b141e647cf8510afbea53da1ee65dc228af3a0c762d240a9b88c8aebdddae9b", func := "loop.example/g00256/laws.FnExactMissesOf", spec := "fnExactMissesOf", unfollowed := true, recurses := true, apart := false, narrowed := true }
def FnExactMissesOfUptoSaid : Prop := fnExactMissesOfUptoRow.holds Try.pinned (OpenSpec.upto fnExactMissesOfSpec)

/-- 'laws.FnExactCellsOf', WHERE WHAT IT READS IS OF BULK AT MOST 1048576: true; the input reads as it did. -/
def fnExactCellsOfUptoRow : OpenClaim := { program := "ytomigaddkehhiaa", sum := "2b141e647cf8510afbea53da1ee65dc228af3a0c762d240a9b88c8aebdddae9b", func := "loop.example/g00256/laws.FnExactCellsOf", spec := "fnExactCellsOf", apart := false, narrowed := true }
def FnExactCellsOfUptoSaid : Prop := fnExactCellsOfUptoRow.holds Try.pinned (OpenSpec.upto fnExactCellsOfSpec)

/-- 'laws.FnExactNextUse', WHERE WHAT IT READS IS OF BULK AT MOST 1048576: true; the input reads as it did. -/
def fnExactNextUseUptoRow : OpenClaim := { program := "ytomigaddkehhiaa", sum := "2b141e647cf8510afbea53da1ee65dc228af3a0c762d240a9b88c8aebdddae9b", func := "loop.example/g00256/laws.FnExactNextUse", spec := "fnExactNextUse", unfollowed := true, recurses := true, apart := false, narrowed := true }
def FnExactNextUseUptoSaid : Prop := fnExactNextUseUptoRow.holds Try.pinned (OpenSpec.upto fnExactNextUseSpec)

end Rows
end Go.Proofs.Ytomigaddkehhiaa
