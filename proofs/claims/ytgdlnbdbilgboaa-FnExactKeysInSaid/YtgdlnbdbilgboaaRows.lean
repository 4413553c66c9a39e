/-
  No cell of these rows narrows 'for every input' (looked for: loops, veiled, ifaces, maps, wideKeys, modest, calm, conditions, laid).
  DERIVED. THE GIVEN ROWS OF THIS SEAT. 4 by the template 'for every input the law returns true; each argument reads behind the call as it read before'; 0 by the template 'total and deterministic' (their statements: YtgdlnbdbilgboaaTotals.lean).
  GIVEN WITH THE SEED: the statements are not yours to turn. If you find one false, say at which input.
  Laid BY PROGRAM, IN A SANDBOX (cutbox-rows.mjs): the forced cells as the released guide's own fill.sh prints them over the translation b353d8f5e13e16e1… (all of the seat's roots in one cut). By AI agents, Wed Nov 11 2026. No macro, syntax, notation, axiom, sorry.
-/
import Derived.Test.YtgdlnbdbilgboaaChecked
import GoSem.Claim
import GoSem.ClaimJoined
import GoSem.ClaimMapViews
import Derived.JoinedTies
import Derived.KernelRfl
namespace Go.Proofs.Ytgdlnbdbilgboaa
/- THE CELL 'sum', in the pinned program and in every row, IS THE sha256 OF THE DUMP (.gsa) THAT YtgdlnbdbilgboaaProg.lean LOADS. Nothing in Lean hashes anything: it is a label: what it is worth is what the hold of that sum in a sandbox is worth. -/
noncomputable def Try.pinned : Pinned := { name := "ytgdlnbdbilgboaa", sum := "b353d8f5e13e16e1e35333b5d91c25c858dad1514392356eaa4d22b93a606a28", checked := Try.checked }
namespace Rows
def none {H : Type} : Left H := { results := [], args := [] }

/-- 'laws.FnExactNewSegmented': WHATEVER THE INPUT: true; the input reads as it did. -/
def fnExactNewSegmentedSpec : ChangeSpec := { name := "fnExactNewSegmented", fn := fun _ => fun
  | [d1, d2] => { results := [.lit (.bool true)], args := [d1, d2] }
  | _ => none }
def fnExactNewSegmentedRow : OpenClaim := { program := "ytgdlnbdbilgboaa", sum := "b353d8f5e13e16e1e35333b5d91c25c858dad1514392356eaa4d22b93a606a28", func := "loop.example/g00256/laws.FnExactNewSegmented", spec := "fnExactNewSegmented", apart := false }
def FnExactNewSegmentedSaid : Prop := fnExactNewSegmentedRow.holds Try.pinned (OpenSpec.ofChange fnExactNewSegmentedSpec)

/-- ITS FALSE NEIGHBOUR: 'it returns false'. Refute it at one input. -/
def fnExactNewSegmentedWrong : ChangeSpec := { name := "fnExactNewSegmented", fn := fun _ => fun
  | [d1, d2] => { results := [.lit (.bool false)], args := [d1, d2] }
  | _ => none }
def FnExactNewSegmentedWrongFalsely : Prop := fnExactNewSegmentedRow.holds Try.pinned (OpenSpec.ofChange fnExactNewSegmentedWrong)

/-- 'laws.FnExactGoodSegmented': WHATEVER THE INPUT: true; the input reads as it did. -/
def fnExactGoodSegmentedSpec : ChangeSpec := { name := "fnExactGoodSegmented", fn := fun _ => fun
  | [d] => { results := [.lit (.bool true)], args := [d] }
  | _ => none }
def fnExactGoodSegmentedRow : OpenClaim := { program := "ytgdlnbdbilgboaa", sum := "b353d8f5e13e16e1e35333b5d91c25c858dad1514392356eaa4d22b93a606a28", func := "loop.example/g00256/laws.FnExactGoodSegmented", spec := "fnExactGoodSegmented", unfollowed := true, recurses := true, apart := false }
def FnExactGoodSegmentedSaid : Prop := fnExactGoodSegmentedRow.holds Try.pinned (OpenSpec.ofChange fnExactGoodSegmentedSpec)

/-- ITS FALSE NEIGHBOUR: 'it returns false'. Refute it at one input. -/
def fnExactGoodSegmentedWrong : ChangeSpec := { name := "fnExactGoodSegmented", fn := fun _ => fun
  | [d] => { results := [.lit (.bool false)], args := [d] }
  | _ => none }
def FnExactGoodSegmentedWrongFalsely : Prop := fnExactGoodSegmentedRow.holds Try.pinned (OpenSpec.ofChange fnExactGoodSegmentedWrong)

/-- 'laws.FnExactBytesIn': WHATEVER THE INPUT: true; the input reads as it did. -/
def fnExactBytesInSpec : ChangeSpec := { name := "fnExactBytesIn", fn := fun _ => fun
  | [d] => { results := [.lit (.bool true)], args := [d] }
  | _ => none }
def fnExactBytesInRow : OpenClaim := { program := "ytgdlnbdbilgboaa", sum := "b353d8f5e13e16e1e35333b5d91c25c858dad1514392356eaa4d22b93a606a28", func := "loop.example/g00256/laws.FnExactBytesIn", spec := "fnExactBytesIn", unfollowed := true, recurses := true, apart := false }
def FnExactBytesInSaid : Prop := fnExactBytesInRow.holds Try.pinned (OpenSpec.ofChange fnExactBytesInSpec)

/-- ITS FALSE NEIGHBOUR: 'it returns false'. Refute it at one input. -/
def fnExactBytesInWrong : ChangeSpec := { name := "fnExactBytesIn", fn := fun _ => fun
  | [d] => { results := [.lit (.bool false)], args := [d] }
  | _ => none }
def FnExactBytesInWrongFalsely : Prop := fnExactBytesInRow.holds Try.pinned (OpenSpec.ofChange fnExactBytesInWrong)

/-- 'laws.FnExactKeysIn': WHATEVER THE INPUT: true; the input reads as it did. -/
def fnExactKeysInSpec : ChangeSpec := { name := "fnExactKeysIn", fn := fun _ => fun
  | [d] => { results := [.lit (.bool true)], args := [d] }
  | _ => none }
def fnExactKeysInRow : OpenClaim := { program := "ytgdlnbdbilgboaa", sum := "b353d8f5e13e16e1e35333b5d91c25c858dad1514392356eaa4d22b93a606a28", func := "loop.example/g00256/laws.FnExactKeysIn", spec := "fnExactKeysIn", unfollowed := true, recurses := true, apart := false }
def FnExactKeysInSaid : Prop := fnExactKeysInRow.holds Try.pinned (OpenSpec.ofChange fnExactKeysInSpec)

/-- ITS FALSE NEIGHBOUR: 'it returns false'. Refute it at one input. -/
def fnExactKeysInWrong : ChangeSpec := { name := "fnExactKeysIn", fn := fun _ => fun
  | [d] => { results := [.lit (.bool false)], args := [d] }
  | _ => none }
def FnExactKeysInWrongFalsely : Prop := fnExactKeysInRow.holds Try.pinned (OpenSpec.ofChange fnExactKeysInWrong)

/- THE SECOND FORM. 'bulk': how many values and letters a reading holds, each counted each time it is reached (what is shared counts as often as it is met; a slice's spare places count too). A statement '..UptoSaid' is the law's where the arguments, and the package variables that the reading takes, are together of bulk at most 1048576: NARROWER than '..Said'. Prove '..Said' where nothing that the law and all that it calls make is longer than what came in: it says more and counts as full. Else prove '..UptoSaid'. A law counts once. -/
mutual
def uptoBulk {H : Type} : DataW H → Nat
  | .lit (.string bytes) => bytes.length + 1
  | .lit _ => 1
  | .nil => 1
  | .ptr d => uptoBulk d + 1
  | .slice elems spare => uptoBulkAll elems + uptoBulkAll spare + 1
  | .agg parts => uptoBulkAll parts + 1
  | .iface _ d => uptoBulk d + 1
  | .map entries => uptoBulkEntries entries + 1
  | .held _ => 1
def uptoBulkAll {H : Type} : List (DataW H) → Nat
  | [] => 0
  | d :: r => uptoBulk d + uptoBulkAll r
def uptoBulkEntries {H : Type} : List (Lit × DataW H) → Nat
  | [] => 0
  | x :: r => uptoBulkEntry x + uptoBulkEntries r
def uptoBulkEntry {H : Type} : Lit × DataW H → Nat
  | (.string bytes, d) => bytes.length + uptoBulk d + 1
  | (_, d) => uptoBulk d + 1
 end
def uptoSmall : (H : Type) → List (DataW H) → Bool := fun _ ds => decide (uptoBulkAll ds ≤ 1048576)
def OpenSpec.upto (s : _root_.Go.ChangeSpec) : _root_.Go.OpenSpec := { _root_.Go.OpenSpec.ofChange s with cond := some uptoSmall }

/-- 'laws.FnExactNewSegmented', WHERE WHAT IT READS IS OF BULK AT MOST 1048576: true; the input reads as it did. -/
def fnExactNewSegmentedUptoRow : OpenClaim := { program := "ytgdlnbdbilgboaa", sum := "b353d8f5e13e16e1e35333b5d91c25c858dad1514392356eaa4d22b93a606a28", func := "loop.example/g00256/laws.FnExactNewSegmented", spec := "fnExactNewSegmented", apart := false, narrowed := true }
def FnExactNewSegmentedUptoSaid : Prop := fnExactNewSegmentedUptoRow.holds Try.pinned (OpenSpec.upto fnExactNewSegmentedSpec)

/-- 'laws.FnExactGoodSegmented', WHERE WHAT IT READS IS OF BULK AT MOST 1048576: true; the input reads as it did. -/
def fnExactGoodSegmentedUptoRow : OpenClaim := { program := "ytgdlnbdbilgboaa", sum := "b353d8f5e13e16e1e35333b5d91c25c858dad1514392356eaa4d22b93a606a28", func := "loop.example/g00256/laws.FnExactGoodSegmented", spec := "fnExactGoodSegmented", unfollowed := true, recurses := true, apart := false, narrowed := true }
def FnExactGoodSegmentedUptoSaid : Prop := fnExactGoodSegmentedUptoRow.holds Try.pinned (OpenSpec.upto fnExactGoodSegmentedSpec)

/-- 'laws.FnExactBytesIn', WHERE WHAT IT READS IS OF BULK AT MOST 1048576: true; the input reads as it did. -/
def fnExactBytesInUptoRow : OpenClaim := { program := "ytgdlnbdbilgboaa", sum := "b353d8f5e13e16e1e35333b5d91c25c858dad1514392356eaa4d22b93a606a28", func := "loop.example/g00256/laws.FnExactBytesIn", spec := "fnExactBytesIn", unfollowed := true, recurses := true, apart := false, narrowed := true }
def FnExactBytesInUptoSaid : Prop := fnExactBytesInUptoRow.holds Try.pinned (OpenSpec.upto fnExactBytesInSpec)

/-- 'laws.FnExactKeysIn', WHERE WHAT IT READS IS OF BULK AT MOST 1048576: true; the input reads as it did. -/
def fnExactKeysInUptoRow : OpenClaim := { program := "ytgdlnbdbilgboaa", sum := "b353d8f5e13e16e1e35333b5d91c25c858dad1514392356eaa4d22b93a606a28", func := "loop.example/g00256/laws.FnExactKeysIn", spec := "fnExactKeysIn", unfollowed := true, recurses := true, apart := false, narrowed := true }
def FnExactKeysInUptoSaid : Prop := fnExactKeysInUptoRow.holds Try.pinned (OpenSpec.upto fnExactKeysInSpec)

end Rows
end Go.Proofs.Ytgdlnbdbilgboaa
