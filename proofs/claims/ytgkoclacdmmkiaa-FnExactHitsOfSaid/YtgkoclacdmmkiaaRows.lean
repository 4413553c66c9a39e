/-
  No cell of these rows narrows 'for every input' (looked for: loops, veiled, ifaces, maps, wideKeys, modest, calm, conditions, laid).
  DERIVED. THE GIVEN ROWS OF THIS SEAT. 8 by the template 'for every input the law returns true; each argument reads behind the call as it read before'; 0 by the template 'total and deterministic' (their statements: YtgkoclacdmmkiaaTotals.lean).
  GIVEN WITH THE SEED: the statements are not yours to turn. If you find one false, say at which input.
  Laid BY PROGRAM, IN A SANDBOX (cutbox-rows.mjs): the forced cells as the released guide's own fill.sh prints them over the translation 549fd192c9f087a9… (all of the seat's roots in one cut). By AI agents, Wed Nov 11 2026. No macro, syntax, notation, axiom, sorry.
-/
import Derived.Test.YtgkoclacdmmkiaaChecked
import GoSem.Claim
import GoSem.ClaimJoined
import GoSem.ClaimMapViews
import Derived.JoinedTies
import Derived.KernelRfl
namespace Go.Proofs.Ytgkoclacdmmkiaa
/- THE CELL 'sum', in the pinned program and in every row, IS THE sha256 OF THE DUMP (.gsa) THAT YtgkoclacdmmkiaaProg.lean LOADS. Nothing in Lean hashes anything: it is a label: what it is worth is what the hold of that sum in a sandbox is worth. -/
noncomputable def Try.pinned : Pinned := { name := "ytgkoclacdmmkiaa", sum := "549fd192c9f087a98208e5299d84d4f78ddda4dd79f0c228f30d9d841b0df925", checked := Try.checked }
namespace Rows
def none {H : Type} : Left H := { results := [], args := [] }

/-- 'laws.FnExactGoodRefs': WHATEVER THE INPUT: true; the input reads as it did. -/
def fnExactGoodRefsSpec : ChangeSpec := { name := "fnExactGoodRefs", fn := fun _ => fun
  | [d] => { results := [.lit (.bool true)], args := [d] }
  | _ => none }
def fnExactGoodRefsRow : OpenClaim := { program := "ytgkoclacdmmkiaa", sum := "549fd192c9f087a98208e5299d84d4f78ddda4dd79f0c228f30d9d841b0df925", func := "loop.example/g00256/laws.FnExactGoodRefs", spec := "fnExactGoodRefs", unfollowed := true, recurses := true, apart := false }
def FnExactGoodRefsSaid : Prop := fnExactGoodRefsRow.holds Try.pinned (OpenSpec.ofChange fnExactGoodRefsSpec)

/-- ITS FALSE NEIGHBOUR: 'it returns false'. Refute it at one input. -/
def fnExactGoodRefsWrong : ChangeSpec := { name := "fnExactGoodRefs", fn := fun _ => fun
  | [d] => { results := [.lit (.bool false)], args := [d] }
  | _ => none }
def FnExactGoodRefsWrongFalsely : Prop := fnExactGoodRefsRow.holds Try.pinned (OpenSpec.ofChange fnExactGoodRefsWrong)

/-- 'laws.FnExactMissesOf': WHATEVER THE INPUT: true; the input reads as it did. -/
def fnExactMissesOfSpec : ChangeSpec := { name := "fnExactMissesOf", fn := fun _ => fun
  | [d1, d2, d3] => { results := [.lit (.bool true)], args := [d1, d2, d3] }
  | _ => none }
def fnExactMissesOfRow : OpenClaim := { program := "ytgkoclacdmmkiaa", sum := "549fd192c9f087a98208e5299d84d4f78ddda4dd79f0c228f30d9d841b0df925", func := "loop.example/g00256/laws.FnExactMissesOf", spec := "fnExactMissesOf", unfollowed := true, recurses := true, apart := false }
def FnExactMissesOfSaid : Prop := fnExactMissesOfRow.holds Try.pinned (OpenSpec.ofChange fnExactMissesOfSpec)

/-- ITS FALSE NEIGHBOUR: 'it returns false'. Refute it at one input. -/
def fnExactMissesOfWrong : ChangeSpec := { name := "fnExactMissesOf", fn := fun _ => fun
  | [d1, d2, d3] => { results := [.lit (.bool false)], args := [d1, d2, d3] }
  | _ => none }
def FnExactMissesOfWrongFalsely : Prop := fnExactMissesOfRow.holds Try.pinned (OpenSpec.ofChange fnExactMissesOfWrong)

/-- 'laws.FnExactNextUse': WHATEVER THE INPUT: true; the input reads as it did. -/
def fnExactNextUseSpec : ChangeSpec := { name := "fnExactNextUse", fn := fun _ => fun
  | [d1, d2, d3] => { results := [.lit (.bool true)], args := [d1, d2, d3] }
  | _ => none }
def fnExactNextUseRow : OpenClaim := { program := "ytgkoclacdmmkiaa", sum := "549fd192c9f087a98208e5299d84d4f78ddda4dd79f0c228f30d9d841b0df925", func := "loop.example/g00256/laws.FnExactNextUse", spec := "fnExactNextUse", unfollowed := true, recurses := true, apart := false }
def FnExactNextUseSaid : Prop := fnExactNextUseRow.holds Try.pinned (OpenSpec.ofChange fnExactNextUseSpec)

/-- ITS FALSE NEIGHBOUR: 'it returns false'. Refute it at one input. -/
def fnExactNextUseWrong : ChangeSpec := { name := "fnExactNextUse", fn := fun _ => fun
  | [d1, d2, d3] => { results := [.lit (.bool false)], args := [d1, d2, d3] }
  | _ => none }
def FnExactNextUseWrongFalsely : Prop := fnExactNextUseRow.holds Try.pinned (OpenSpec.ofChange fnExactNextUseWrong)

/-- 'laws.FnExactDistancesOf': WHATEVER THE INPUT: true; the input reads as it did. -/
def fnExactDistancesOfSpec : ChangeSpec := { name := "fnExactDistancesOf", fn := fun _ => fun
  | [d] => { results := [.lit (.bool true)], args := [d] }
  | _ => none }
def fnExactDistancesOfRow : OpenClaim := { program := "ytgkoclacdmmkiaa", sum := "549fd192c9f087a98208e5299d84d4f78ddda4dd79f0c228f30d9d841b0df925", func := "loop.example/g00256/laws.FnExactDistancesOf", spec := "fnExactDistancesOf", unfollowed := true, recurses := true, apart := false }
def FnExactDistancesOfSaid : Prop := fnExactDistancesOfRow.holds Try.pinned (OpenSpec.ofChange fnExactDistancesOfSpec)

/-- ITS FALSE NEIGHBOUR: 'it returns false'. Refute it at one input. -/
def fnExactDistancesOfWrong : ChangeSpec := { name := "fnExactDistancesOf", fn := fun _ => fun
  | [d] => { results := [.lit (.bool false)], args := [d] }
  | _ => none }
def FnExactDistancesOfWrongFalsely : Prop := fnExactDistancesOfRow.holds Try.pinned (OpenSpec.ofChange fnExactDistancesOfWrong)

/-- 'laws.FnExactPlayFifo': WHATEVER THE INPUT: true; the input reads as it did. -/
def fnExactPlayFifoSpec : ChangeSpec := { name := "fnExactPlayFifo", fn := fun _ => fun
  | [d1, d2] => { results := [.lit (.bool true)], args := [d1, d2] }
  | _ => none }
def fnExactPlayFifoRow : OpenClaim := { program := "ytgkoclacdmmkiaa", sum := "549fd192c9f087a98208e5299d84d4f78ddda4dd79f0c228f30d9d841b0df925", func := "loop.example/g00256/laws.FnExactPlayFifo", spec := "fnExactPlayFifo", unfollowed := true, recurses := true, apart := false }
def FnExactPlayFifoSaid : Prop := fnExactPlayFifoRow.holds Try.pinned (OpenSpec.ofChange fnExactPlayFifoSpec)

/-- ITS FALSE NEIGHBOUR: 'it returns false'. Refute it at one input. -/
def fnExactPlayFifoWrong : ChangeSpec := { name := "fnExactPlayFifo", fn := fun _ => fun
  | [d1, d2] => { results := [.lit (.bool false)], args := [d1, d2] }
  | _ => none }
def FnExactPlayFifoWrongFalsely : Prop := fnExactPlayFifoRow.holds Try.pinned (OpenSpec.ofChange fnExactPlayFifoWrong)

/-- 'laws.FnExactStackAfter': WHATEVER THE INPUT: true; the input reads as it did. -/
def fnExactStackAfterSpec : ChangeSpec := { name := "fnExactStackAfter", fn := fun _ => fun
  | [d] => { results := [.lit (.bool true)], args := [d] }
  | _ => none }
def fnExactStackAfterRow : OpenClaim := { program := "ytgkoclacdmmkiaa", sum := "549fd192c9f087a98208e5299d84d4f78ddda4dd79f0c228f30d9d841b0df925", func := "loop.example/g00256/laws.FnExactStackAfter", spec := "fnExactStackAfter", unfollowed := true, recurses := true, apart := false }
def FnExactStackAfterSaid : Prop := fnExactStackAfterRow.holds Try.pinned (OpenSpec.ofChange fnExactStackAfterSpec)

/-- ITS FALSE NEIGHBOUR: 'it returns false'. Refute it at one input. -/
def fnExactStackAfterWrong : ChangeSpec := { name := "fnExactStackAfter", fn := fun _ => fun
  | [d] => { results := [.lit (.bool false)], args := [d] }
  | _ => none }
def FnExactStackAfterWrongFalsely : Prop := fnExactStackAfterRow.holds Try.pinned (OpenSpec.ofChange fnExactStackAfterWrong)

/-- 'laws.FnExactPlayLru': WHATEVER THE INPUT: true; the input reads as it did. -/
def fnExactPlayLruSpec : ChangeSpec := { name := "fnExactPlayLru", fn := fun _ => fun
  | [d1, d2] => { results := [.lit (.bool true)], args := [d1, d2] }
  | _ => none }
def fnExactPlayLruRow : OpenClaim := { program := "ytgkoclacdmmkiaa", sum := "549fd192c9f087a98208e5299d84d4f78ddda4dd79f0c228f30d9d841b0df925", func := "loop.example/g00256/laws.FnExactPlayLru", spec := "fnExactPlayLru", unfollowed := true, recurses := true, apart := false }
def FnExactPlayLruSaid : Prop := fnExactPlayLruRow.holds Try.pinned (OpenSpec.ofChange fnExactPlayLruSpec)

/-- ITS FALSE NEIGHBOUR: 'it returns false'. Refute it at one input. -/
def fnExactPlayLruWrong : ChangeSpec := { name := "fnExactPlayLru", fn := fun _ => fun
  | [d1, d2] => { results := [.lit (.bool false)], args := [d1, d2] }
  | _ => none }
def FnExactPlayLruWrongFalsely : Prop := fnExactPlayLruRow.holds Try.pinned (OpenSpec.ofChange fnExactPlayLruWrong)

/-- 'laws.FnExactHitsOf': WHATEVER THE INPUT: true; the input reads as it did. -/
def fnExactHitsOfSpec : ChangeSpec := { name := "fnExactHitsOf", fn := fun _ => fun
  | [d] => { results := [.lit (.bool true)], args := [d] }
  | _ => none }
def fnExactHitsOfRow : OpenClaim := { program := "ytgkoclacdmmkiaa", sum := "549fd192c9f087a98208e5299d84d4f78ddda4dd79f0c228f30d9d841b0df925", func := "loop.example/g00256/laws.FnExactHitsOf", spec := "fnExactHitsOf", unfollowed := true, recurses := true, apart := false }
def FnExactHitsOfSaid : Prop := fnExactHitsOfRow.holds Try.pinned (OpenSpec.ofChange fnExactHitsOfSpec)

/-- ITS FALSE NEIGHBOUR: 'it returns false'. Refute it at one input. -/
def fnExactHitsOfWrong : ChangeSpec := { name := "fnExactHitsOf", fn := fun _ => fun
  | [d] => { results := [.lit (.bool false)], args := [d] }
  | _ => none }
def FnExactHitsOfWrongFalsely : Prop := fnExactHitsOfRow.holds Try.pinned (OpenSpec.ofChange fnExactHitsOfWrong)

/- THE SECOND FORM. 'bulk': how many values and letters a reading holds, each counted each time it is reached (what is shared counts as often as it is met; a slice's spare places count too). A statement '..UptoSaid' is the law's where the arguments, and the package variables that the reading takes, are together of bulk at most 1048576: NARROWER than '..Said'. Prove '..Said' where nothing that the law and all that it calls make is longer than what came in: it says more and counts as full. Else prove '..UptoSaid'. A law counts once. -/
mutual
def uptoBulk {H : Type} : DataW H → Nat
  | .lit (.string bytes) => bytes.length + 1
  | .lit _ => 1
  | .nil => 1
  | .ptr d => uptoBulk d + 1
  | .slice elems spare => uptoBulkAll elems + uptoBulkAll spare + 1
  | .agg parts => uptoBulkAll parts + 1
  | .iface _ d => uptoBulk d + 1
  | .map entries => uptoBulkEntries entries + 1
  | .held _ => 1
def uptoBulkAll {H : Type} : List (DataW H) → Nat
  | [] => 0
  | d :: r => uptoBulk d + uptoBulkAll r
def uptoBulkEntries {H : Type} : List (Lit × DataW H) → Nat
  | [] => 0
  | x :: r => uptoBulkEntry x + uptoBulkEntries r
def uptoBulkEntry {H : Type} : Lit × DataW H → Nat
  | (.string bytes, d) => bytes.length + uptoBulk d + 1
  | (_, d) => uptoBulk d + 1
 end
def uptoSmall : (H : Type) → List (DataW H) → Bool := fun _ ds => decide (uptoBulkAll ds ≤ 1048576)
def OpenSpec.upto (s : _root_.Go.ChangeSpec) : _root_.Go.OpenSpec := { _root_.Go.OpenSpec.ofChange s with cond := some uptoSmall }

/-- 'laws.FnExactGoodRefs', WHERE WHAT IT READS IS OF BULK AT MOST 1048576: true; the input reads as it did. -/
def fnExactGoodRefsUptoRow : OpenClaim := { program := "ytgkoclacdmmkiaa", sum := "549fd192c9f087a98208e5299d84d4f78ddda4dd79f0c228f30d9d841b0df925", func := "loop.example/g00256/laws.FnExactGoodRefs", spec := "fnExactGoodRefs", unfollowed := true, recurses := true, apart := false, narrowed := true }
def FnExactGoodRefsUptoSaid : Prop := fnExactGoodRefsUptoRow.holds Try.pinned (OpenSpec.upto fnExactGoodRefsSpec)

/-- 'laws.FnExactMissesOf', WHERE WHAT IT READS IS OF BULK AT MOST 1048576: true; the input reads as it did. -/
def fnExactMissesOfUptoRow : OpenClaim := { program := "ytgkoclacdmmkiaa", sum := "549fd192c9f087a98208e5299d84d4f78ddda4dd79f0c228f30d9d841b0df925", func := "loop.example/g00256/laws.FnExactMissesOf", spec := "fnExactMissesOf", unfollowed := true, recurses := true, apart := false, narrowed := true }
def FnExactMissesOfUptoSaid : Prop := fnExactMissesOfUptoRow.holds Try.pinned (OpenSpec.upto fnExactMissesOfSpec)

/-- 'laws.FnExactNextUse', WHERE WHAT IT READS IS OF BULK AT MOST 1048576: true; the input reads as it did. -/
def fnExactNextUseUptoRow : OpenClaim := { program := "ytgkoclacdmmkiaa", sum := "549fd192c9f087a98208e5299d84d4f78ddda4dd79f0c228f30d9d841b0df925", func := "loop.example/g00256/laws.FnExactNextUse", spec := "fnExactNextUse", unfollowed := true, recurses := true, apart := false, narrowed := true }
def FnExactNextUseUptoSaid : Prop := fnExactNextUseUptoRow.holds Try.pinned (OpenSpec.upto fnExactNextUseSpec)

/-- 'laws.FnExactDistancesOf', WHERE WHAT IT READS IS OF BULK AT MOST 1048576: true; the input reads as it did. -/
def fnExactDistancesOfUptoRow : OpenClaim := { program := "ytgkoclacdmmkiaa", sum := "549fd192c9f087a98208e5299d84d4f78ddda4dd79f0c228f30d9d841b0df925", func := "loop.example/g00256/laws.FnExactDistancesOf", spec := "fnExactDistancesOf", unfollowed := true, recurses := true, apart := false, narrowed := true }
def FnExactDistancesOfUptoSaid : Prop := fnExactDistancesOfUptoRow.holds Try.pinned (OpenSpec.upto fnExactDistancesOfSpec)

/-- 'laws.FnExactPlayFifo', WHERE WHAT IT READS IS OF BULK AT MOST 1048576: true; the input reads as it did. -/
def fnExactPlayFifoUptoRow : OpenClaim := { program := "ytgkoclacdmmkiaa", sum := "549fd192c9f087a98208e5299d84d4f78ddda4dd79f0c228f30d9d841b0df925", func := "loop.example/g00256/laws.FnExactPlayFifo", spec := "fnExactPlayFifo", unfollowed := true, recurses := true, apart := false, narrowed := true }
def FnExactPlayFifoUptoSaid : Prop := fnExactPlayFifoUptoRow.holds Try.pinned (OpenSpec.upto fnExactPlayFifoSpec)

/-- 'laws.FnExactStackAfter', WHERE WHAT IT READS IS OF BULK AT MOST 1048576: true; the input reads as it did. -/
def fnExactStackAfterUptoRow : OpenClaim := { program := "ytgkoclacdmmkiaa", sum := "549fd192c9f087a98208e5299d84d4f78ddda4dd79f0c228f30d9d841b0df925", func := "loop.example/g00256/laws.FnExactStackAfter", spec := "fnExactStackAfter", unfollowed := true, recurses := true, apart := false, narrowed := true }
def FnExactStackAfterUptoSaid : Prop := fnExactStackAfterUptoRow.holds Try.pinned (OpenSpec.upto fnExactStackAfterSpec)

/-- 'laws.FnExactPlayLru', WHERE WHAT IT READS IS OF BULK AT MOST 1048576: true; the input reads as it did. -/
def fnExactPlayLruUptoRow : OpenClaim := { program := "ytgkoclacdmmkiaa", sum := "549fd192c9f087a98208e5299d84d4f78ddda4dd79f0c228f30d9d841b0df925", func := "loop.example/g00256/laws.FnExactPlayLru", spec := "fnExactPlayLru", unfollowed := true, recurses := true, apart := false, narrowed := true }
def FnExactPlayLruUptoSaid : Prop := fnExactPlayLruUptoRow.holds Try.pinned (OpenSpec.upto fnExactPlayLruSpec)

/-- 'laws.FnExactHitsOf', WHERE WHAT IT READS IS OF BULK AT MOST 1048576: true; the input reads as it did. -/
def fnExactHitsOfUptoRow : OpenClaim := { program := "ytgkoclacdmmkiaa", sum := "549fd192c9f087a98208e5299d84d4f78ddda4dd79f0c228f30d9d841b0df925", func := "loop.example/g00256/laws.FnExactHitsOf", spec := "fnExactHitsOf", unfollowed := true, recurses := true, apart := false, narrowed := true }
def FnExactHitsOfUptoSaid : Prop := fnExactHitsOfUptoRow.holds Try.pinned (OpenSpec.upto fnExactHitsOfSpec)

end Rows
end Go.Proofs.Ytgkoclacdmmkiaa
