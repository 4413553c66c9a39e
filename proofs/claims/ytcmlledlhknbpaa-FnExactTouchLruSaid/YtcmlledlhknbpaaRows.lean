/-
  No cell of these rows narrows 'for every input' (looked for: loops, veiled, ifaces, maps, wideKeys, modest, calm, conditions, laid).
  DERIVED. THE GIVEN ROWS OF THIS SEAT. 5 by the template 'for every input the law returns true; each argument reads behind the call as it read before'; 0 by the template 'total and deterministic' (their statements: YtcmlledlhknbpaaTotals.lean).
  GIVEN WITH THE SEED: the statements are not yours to turn. If you find one false, say at which input.
  Laid BY PROGRAM, IN A SANDBOX (cutbox-rows.mjs): the forced cells as the released guide's own fill.sh prints them over the translation c405c9b1762823b9… (all of the seat's roots in one cut). By AI agents, Wed Nov 11 2026. No macro, syntax, notation, axiom, sorry.
-/
import Derived.Test.YtcmlledlhknbpaaChecked
import GoSem.Claim
import GoSem.ClaimJoined
import GoSem.ClaimMapViews
import Derived.JoinedTies
import Derived.KernelRfl
namespace Go.Proofs.Ytcmlledlhknbpaa
/- THE CELL 'sum', in the pinned program and in every row, IS THE sha256 OF THE DUMP (.gsa) THAT YtcmlledlhknbpaaProg.lean LOADS. Nothing in Lean hashes anything: it is a label: what it is worth is what the hold of that sum in a sandbox is worth. -/
noncomputable def Try.pinned : Pinned := { name := "ytcmlledlhknbpaa", sum := "c405c9b1762823b9d6386526146b84e2b0e383244245c2dab825e21f8a223555", checked := Try.checked }
namespace Rows
def none {H : Type} : Left H := { results := [], args := [] }

/-- 'laws.FnExactPlayChoices': WHATEVER THE INPUT: true; the input reads as it did. -/
def fnExactPlayChoicesSpec : ChangeSpec := { name := "fnExactPlayChoices", fn := fun _ => fun
  | [d1, d2, d3] => { results := [.lit (.bool true)], args := [d1, d2, d3] }
  | _ => none }
def fnExactPlayChoicesRow : OpenClaim := { program := "ytcmlledlhknbpaa", sum := "c405c9b1762823b9d6386526146b84e2b0e383244245c2dab825e21f8a223555", func := "loop.example/g00256/laws.FnExactPlayChoices", spec := "fnExactPlayChoices", inPlace := ["slices.overlaps[int]"], unfollowed := true, recurses := true, apart := false }
def FnExactPlayChoicesSaid : Prop := fnExactPlayChoicesRow.holds Try.pinned (OpenSpec.ofChange fnExactPlayChoicesSpec)

/-- ITS FALSE NEIGHBOUR: 'it returns false'. Refute it at one input. -/
def fnExactPlayChoicesWrong : ChangeSpec := { name := "fnExactPlayChoices", fn := fun _ => fun
  | [d1, d2, d3] => { results := [.lit (.bool false)], args := [d1, d2, d3] }
  | _ => none }
def FnExactPlayChoicesWrongFalsely : Prop := fnExactPlayChoicesRow.holds Try.pinned (OpenSpec.ofChange fnExactPlayChoicesWrong)

/-- 'laws.FnExactPlayOpt': WHATEVER THE INPUT: true; the input reads as it did. -/
def fnExactPlayOptSpec : ChangeSpec := { name := "fnExactPlayOpt", fn := fun _ => fun
  | [d1, d2] => { results := [.lit (.bool true)], args := [d1, d2] }
  | _ => none }
def fnExactPlayOptRow : OpenClaim := { program := "ytcmlledlhknbpaa", sum := "c405c9b1762823b9d6386526146b84e2b0e383244245c2dab825e21f8a223555", func := "loop.example/g00256/laws.FnExactPlayOpt", spec := "fnExactPlayOpt", inPlace := ["slices.overlaps[int]"], unfollowed := true, recurses := true, apart := false }
def FnExactPlayOptSaid : Prop := fnExactPlayOptRow.holds Try.pinned (OpenSpec.ofChange fnExactPlayOptSpec)

/-- ITS FALSE NEIGHBOUR: 'it returns false'. Refute it at one input. -/
def fnExactPlayOptWrong : ChangeSpec := { name := "fnExactPlayOpt", fn := fun _ => fun
  | [d1, d2] => { results := [.lit (.bool false)], args := [d1, d2] }
  | _ => none }
def FnExactPlayOptWrongFalsely : Prop := fnExactPlayOptRow.holds Try.pinned (OpenSpec.ofChange fnExactPlayOptWrong)

/-- 'laws.FnExactColdOf': WHATEVER THE INPUT: true; the input reads as it did. -/
def fnExactColdOfSpec : ChangeSpec := { name := "fnExactColdOf", fn := fun _ => fun
  | [d] => { results := [.lit (.bool true)], args := [d] }
  | _ => none }
def fnExactColdOfRow : OpenClaim := { program := "ytcmlledlhknbpaa", sum := "c405c9b1762823b9d6386526146b84e2b0e383244245c2dab825e21f8a223555", func := "loop.example/g00256/laws.FnExactColdOf", spec := "fnExactColdOf", unfollowed := true, recurses := true, apart := false }
def FnExactColdOfSaid : Prop := fnExactColdOfRow.holds Try.pinned (OpenSpec.ofChange fnExactColdOfSpec)

/-- ITS FALSE NEIGHBOUR: 'it returns false'. Refute it at one input. -/
def fnExactColdOfWrong : ChangeSpec := { name := "fnExactColdOf", fn := fun _ => fun
  | [d] => { results := [.lit (.bool false)], args := [d] }
  | _ => none }
def FnExactColdOfWrongFalsely : Prop := fnExactColdOfRow.holds Try.pinned (OpenSpec.ofChange fnExactColdOfWrong)

/-- 'laws.FnExactWorkingSet': WHATEVER THE INPUT: true; the input reads as it did. -/
def fnExactWorkingSetSpec : ChangeSpec := { name := "fnExactWorkingSet", fn := fun _ => fun
  | [d1, d2] => { results := [.lit (.bool true)], args := [d1, d2] }
  | _ => none }
def fnExactWorkingSetRow : OpenClaim := { program := "ytcmlledlhknbpaa", sum := "c405c9b1762823b9d6386526146b84e2b0e383244245c2dab825e21f8a223555", func := "loop.example/g00256/laws.FnExactWorkingSet", spec := "fnExactWorkingSet", unfollowed := true, recurses := true, apart := false }
def FnExactWorkingSetSaid : Prop := fnExactWorkingSetRow.holds Try.pinned (OpenSpec.ofChange fnExactWorkingSetSpec)

/-- ITS FALSE NEIGHBOUR: 'it returns false'. Refute it at one input. -/
def fnExactWorkingSetWrong : ChangeSpec := { name := "fnExactWorkingSet", fn := fun _ => fun
  | [d1, d2] => { results := [.lit (.bool false)], args := [d1, d2] }
  | _ => none }
def FnExactWorkingSetWrongFalsely : Prop := fnExactWorkingSetRow.holds Try.pinned (OpenSpec.ofChange fnExactWorkingSetWrong)

/-- 'laws.FnExactTouchLru': WHATEVER THE INPUT: true; the input reads as it did. -/
def fnExactTouchLruSpec : ChangeSpec := { name := "fnExactTouchLru", fn := fun _ => fun
  | [d1, d2, d3] => { results := [.lit (.bool true)], args := [d1, d2, d3] }
  | _ => none }
def fnExactTouchLruRow : OpenClaim := { program := "ytcmlledlhknbpaa", sum := "c405c9b1762823b9d6386526146b84e2b0e383244245c2dab825e21f8a223555", func := "loop.example/g00256/laws.FnExactTouchLru", spec := "fnExactTouchLru", unfollowed := true, recurses := true, apart := false }
def FnExactTouchLruSaid : Prop := fnExactTouchLruRow.holds Try.pinned (OpenSpec.ofChange fnExactTouchLruSpec)

/-- ITS FALSE NEIGHBOUR: 'it returns false'. Refute it at one input. -/
def fnExactTouchLruWrong : ChangeSpec := { name := "fnExactTouchLru", fn := fun _ => fun
  | [d1, d2, d3] => { results := [.lit (.bool false)], args := [d1, d2, d3] }
  | _ => none }
def FnExactTouchLruWrongFalsely : Prop := fnExactTouchLruRow.holds Try.pinned (OpenSpec.ofChange fnExactTouchLruWrong)

/- THE SECOND FORM. 'bulk': how many values and letters a reading holds, each counted each time it is reached (what is shared counts as often as it is met; a slice's spare places count too). A statement '..UptoSaid' is the law's where the arguments, and the package variables that the reading takes, are together of bulk at most 1048576: NARROWER than '..Said'. Prove '..Said' where nothing that the law and all that it calls make is longer than what came in: it says more and counts as full. Else prove '..UptoSaid'. A law counts once. -/
mutual
def uptoBulk {H : Type} : DataW H → Nat
  | .lit (.string bytes) => bytes.length + 1
  | .lit _ => 1
  | .nil => 1
  | .ptr d => uptoBulk d + 1
  | .slice elems spare => uptoBulkAll elems + uptoBulkAll spare + 1
  | .agg parts => uptoBulkAll parts + 1
  | .iface _ d => uptoBulk d + 1
  | .map entries => uptoBulkEntries entries + 1
  | .held _ => 1
def uptoBulkAll {H : Type} : List (DataW H) → Nat
  | [] => 0
  | d :: r => uptoBulk d + uptoBulkAll r
def uptoBulkEntries {H : Type} : List (Lit × DataW H) → Nat
  | [] => 0
  | x :: r => uptoBulkEntry x + uptoBulkEntries r
def uptoBulkEntry {H : Type} : Lit × DataW H → Nat
  | (.string bytes, d) => bytes.length + uptoBulk d + 1
  | (_, d) => uptoBulk d + 1
 end
def uptoSmall : (H : Type) → List (DataW H) → Bool := fun _ ds => decide (uptoBulkAll ds ≤ 1048576)
def OpenSpec.upto (s : _root_.Go.ChangeSpec) : _root_.Go.OpenSpec := { _root_.Go.OpenSpec.ofChange s with cond := some uptoSmall }

/-- 'laws.FnExactPlayChoices', WHERE WHAT IT READS IS OF BULK AT MOST 1048576: true; the input reads as it did. -/
def fnExactPlayChoicesUptoRow : OpenClaim := { program := "ytcmlledlhknbpaa", sum := "c405c9b1762823b9d6386526146b84e2b0e383244245c2dab825e21f8a223555", func := "loop.example/g00256/laws.FnExactPlayChoices", spec := "fnExactPlayChoices", inPlace := ["slices.overlaps[int]"], unfollowed := true, recurses := true, apart := false, narrowed := true }
def FnExactPlayChoicesUptoSaid : Prop := fnExactPlayChoicesUptoRow.holds Try.pinned (OpenSpec.upto fnExactPlayChoicesSpec)

/-- 'laws.FnExactPlayOpt', WHERE WHAT IT READS IS OF BULK AT MOST 1048576: true; the input reads as it did. -/
def fnExactPlayOptUptoRow : OpenClaim := { program := "ytcmlledlhknbpaa", sum := "c405c9b1762823b9d6386526146b84e2b0e383244245c2dab825e21f8a223555", func := "loop.example/g00256/laws.FnExactPlayOpt", spec := "fnExactPlayOpt", inPlace := ["slices.overlaps[int]"], unfollowed := true, recurses := true, apart := false, narrowed := true }
def FnExactPlayOptUptoSaid : Prop := fnExactPlayOptUptoRow.holds Try.pinned (OpenSpec.upto fnExactPlayOptSpec)

/-- 'laws.FnExactColdOf', WHERE WHAT IT READS IS OF BULK AT MOST 1048576: true; the input reads as it did. -/
def fnExactColdOfUptoRow : OpenClaim := { program := "ytcmlledlhknbpaa", sum := "c405c9b1762823b9d6386526146b84e2b0e383244245c2dab825e21f8a223555", func := "loop.example/g00256/laws.FnExactColdOf", spec := "fnExactColdOf", unfollowed := true, recurses := true, apart := false, narrowed := true }
def FnExactColdOfUptoSaid : Prop := fnExactColdOfUptoRow.holds Try.pinned (OpenSpec.upto fnExactColdOfSpec)

/-- 'laws.FnExactWorkingSet', WHERE WHAT IT READS IS OF BULK AT MOST 1048576: true; the input reads as it did. -/
def fnExactWorkingSetUptoRow : OpenClaim := { program := "ytcmlledlhknbpaa", sum := "c405c9b1762823b9d6386526146b84e2b0e383244245c2dab825e21f8a223555", func := "loop.example/g00256/laws.FnExactWorkingSet", spec := "fnExactWorkingSet", unfollowed := true, recurses := true, apart := false, narrowed := true }
def FnExactWorkingSetUptoSaid : Prop := fnExactWorkingSetUptoRow.holds Try.pinned (OpenSpec.upto fnExactWorkingSetSpec)

/-- 'laws.FnExactTouchLru', WHERE WHAT IT READS IS OF BULK AT MOST 1048576: true; the input reads as it did. -/
def fnExactTouchLruUptoRow : OpenClaim := { program := "ytcmlledlhknbpaa", sum := "c405c9b1762823b9d6386526146b84e2b0e383244245c2dab825e21f8a223555", func := "loop.example/g00256/laws.FnExactTouchLru", spec := "fnExactTouchLru", unfollowed := true, recurses := true, apart := false, narrowed := true }
def FnExactTouchLruUptoSaid : Prop := fnExactTouchLruUptoRow.holds Try.pinned (OpenSpec.upto fnExactTouchLruSpec)

end Rows
end Go.Proofs.Ytcmlledlhknbpaa
