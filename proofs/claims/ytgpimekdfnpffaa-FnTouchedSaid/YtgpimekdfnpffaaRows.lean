/-
  No cell of these rows narrows 'for every input' (looked for: loops, veiled, ifaces, maps, wideKeys, modest, calm, conditions, laid).
  DERIVED. THE GIVEN ROWS OF THIS SEAT. 5 by the template 'for every input the law returns true; each argument reads behind the call as it read before'; 0 by the template 'total and deterministic' (their statements: YtgpimekdfnpffaaTotals.lean).
  GIVEN WITH THE SEED: the statements are not yours to turn. If you find one false, say at which input.
  Laid BY PROGRAM, IN A SANDBOX (cutbox-rows.mjs): the forced cells as the released guide's own fill.sh prints them over the translation e3be933424887f7a… (all of the seat's roots in one cut). By AI agents, Wed Nov 11 2026. No macro, syntax, notation, axiom, sorry.
-/
import Derived.Test.YtgpimekdfnpffaaChecked
import GoSem.Claim
import GoSem.ClaimJoined
import GoSem.ClaimMapViews
import Derived.JoinedTies
import Derived.KernelRfl
namespace Go.Proofs.Ytgpimekdfnpffaa
/- THE CELL 'sum', in the pinned program and in every row, IS THE sha256 OF THE DUMP (.gsa) THAT YtgpimekdfnpffaaProg.lean LOADS. Nothing in Lean hashes anything: it is a label: what it is worth is what the hold of that sum in a sandbox is worth. -/
noncomputable def Try.pinned : Pinned := { name := "ytgpimekdfnpffaa", sum := "e3be933424887f7a78d3bbfa08a51fbb76b4ef7889d1af16bffbb1b2d13630d3", checked := Try.checked }
namespace Rows
def none {H : Type} : Left H := { results := [], args := [] }

/-- 'laws.FnInclusion': WHATEVER THE INPUT: true; the input reads as it did. -/
def fnInclusionSpec : ChangeSpec := { name := "fnInclusion", fn := fun _ => fun
  | [d] => { results := [.lit (.bool true)], args := [d] }
  | _ => none }
def fnInclusionRow : OpenClaim := { program := "ytgpimekdfnpffaa", sum := "e3be933424887f7a78d3bbfa08a51fbb76b4ef7889d1af16bffbb1b2d13630d3", func := "loop.example/g00256/laws.FnInclusion", spec := "fnInclusion", unfollowed := true, recurses := true, apart := false }
def FnInclusionSaid : Prop := fnInclusionRow.holds Try.pinned (OpenSpec.ofChange fnInclusionSpec)

/-- ITS FALSE NEIGHBOUR: 'it returns false'. Refute it at one input. -/
def fnInclusionWrong : ChangeSpec := { name := "fnInclusion", fn := fun _ => fun
  | [d] => { results := [.lit (.bool false)], args := [d] }
  | _ => none }
def FnInclusionWrongFalsely : Prop := fnInclusionRow.holds Try.pinned (OpenSpec.ofChange fnInclusionWrong)

/-- 'laws.FnHits': WHATEVER THE INPUT: true; the input reads as it did. -/
def fnHitsSpec : ChangeSpec := { name := "fnHits", fn := fun _ => fun
  | [d] => { results := [.lit (.bool true)], args := [d] }
  | _ => none }
def fnHitsRow : OpenClaim := { program := "ytgpimekdfnpffaa", sum := "e3be933424887f7a78d3bbfa08a51fbb76b4ef7889d1af16bffbb1b2d13630d3", func := "loop.example/g00256/laws.FnHits", spec := "fnHits", unfollowed := true, recurses := true, apart := false }
def FnHitsSaid : Prop := fnHitsRow.holds Try.pinned (OpenSpec.ofChange fnHitsSpec)

/-- ITS FALSE NEIGHBOUR: 'it returns false'. Refute it at one input. -/
def fnHitsWrong : ChangeSpec := { name := "fnHits", fn := fun _ => fun
  | [d] => { results := [.lit (.bool false)], args := [d] }
  | _ => none }
def FnHitsWrongFalsely : Prop := fnHitsRow.holds Try.pinned (OpenSpec.ofChange fnHitsWrong)

/-- 'laws.FnTouched': WHATEVER THE INPUT: true; the input reads as it did. -/
def fnTouchedSpec : ChangeSpec := { name := "fnTouched", fn := fun _ => fun
  | [d1, d2] => { results := [.lit (.bool true)], args := [d1, d2] }
  | _ => none }
def fnTouchedRow : OpenClaim := { program := "ytgpimekdfnpffaa", sum := "e3be933424887f7a78d3bbfa08a51fbb76b4ef7889d1af16bffbb1b2d13630d3", func := "loop.example/g00256/laws.FnTouched", spec := "fnTouched", unfollowed := true, recurses := true, apart := false }
def FnTouchedSaid : Prop := fnTouchedRow.holds Try.pinned (OpenSpec.ofChange fnTouchedSpec)

/-- ITS FALSE NEIGHBOUR: 'it returns false'. Refute it at one input. -/
def fnTouchedWrong : ChangeSpec := { name := "fnTouched", fn := fun _ => fun
  | [d1, d2] => { results := [.lit (.bool false)], args := [d1, d2] }
  | _ => none }
def FnTouchedWrongFalsely : Prop := fnTouchedRow.holds Try.pinned (OpenSpec.ofChange fnTouchedWrong)

/-- 'laws.FnBelady': WHATEVER THE INPUT: true; the input reads as it did. -/
def fnBeladySpec : ChangeSpec := { name := "fnBelady", fn := fun _ => fun
  | [d1, d2] => { results := [.lit (.bool true)], args := [d1, d2] }
  | _ => none }
def fnBeladyRow : OpenClaim := { program := "ytgpimekdfnpffaa", sum := "e3be933424887f7a78d3bbfa08a51fbb76b4ef7889d1af16bffbb1b2d13630d3", func := "loop.example/g00256/laws.FnBelady", spec := "fnBelady", inPlace := ["slices.overlaps[int]"], unfollowed := true, recurses := true, apart := false }
def FnBeladySaid : Prop := fnBeladyRow.holds Try.pinned (OpenSpec.ofChange fnBeladySpec)

/-- ITS FALSE NEIGHBOUR: 'it returns false'. Refute it at one input. -/
def fnBeladyWrong : ChangeSpec := { name := "fnBelady", fn := fun _ => fun
  | [d1, d2] => { results := [.lit (.bool false)], args := [d1, d2] }
  | _ => none }
def FnBeladyWrongFalsely : Prop := fnBeladyRow.holds Try.pinned (OpenSpec.ofChange fnBeladyWrong)

/-- 'laws.FnCompetitive': WHATEVER THE INPUT: true; the input reads as it did. -/
def fnCompetitiveSpec : ChangeSpec := { name := "fnCompetitive", fn := fun _ => fun
  | [d1, d2] => { results := [.lit (.bool true)], args := [d1, d2] }
  | _ => none }
def fnCompetitiveRow : OpenClaim := { program := "ytgpimekdfnpffaa", sum := "e3be933424887f7a78d3bbfa08a51fbb76b4ef7889d1af16bffbb1b2d13630d3", func := "loop.example/g00256/laws.FnCompetitive", spec := "fnCompetitive", inPlace := ["slices.overlaps[int]"], unfollowed := true, recurses := true, apart := false }
def FnCompetitiveSaid : Prop := fnCompetitiveRow.holds Try.pinned (OpenSpec.ofChange fnCompetitiveSpec)

/-- ITS FALSE NEIGHBOUR: 'it returns false'. Refute it at one input. -/
def fnCompetitiveWrong : ChangeSpec := { name := "fnCompetitive", fn := fun _ => fun
  | [d1, d2] => { results := [.lit (.bool false)], args := [d1, d2] }
  | _ => none }
def FnCompetitiveWrongFalsely : Prop := fnCompetitiveRow.holds Try.pinned (OpenSpec.ofChange fnCompetitiveWrong)

/- THE SECOND FORM. 'bulk': how many values and letters a reading holds, each counted each time it is reached (what is shared counts as often as it is met; a slice's spare places count too). A statement '..UptoSaid' is the law's where the arguments, and the package variables that the reading takes, are together of bulk at most 1048576: NARROWER than '..Said'. Prove '..Said' where nothing that the law and all that it calls make is longer than what came in: it says more and counts as full. Else prove '..UptoSaid'. A law counts once. -/
mutual
def uptoBulk {H : Type} : DataW H → Nat
  | .lit (.string bytes) => bytes.length + 1
  | .lit _ => 1
  | .nil => 1
  | .ptr d => uptoBulk d + 1
  | .slice elems spare => uptoBulkAll elems + uptoBulkAll spare + 1
  | .agg parts => uptoBulkAll parts + 1
  | .iface _ d => uptoBulk d + 1
  | .map entries => uptoBulkEntries entries + 1
  | .held _ => 1
def uptoBulkAll {H : Type} : List (DataW H) → Nat
  | [] => 0
  | d :: r => uptoBulk d + uptoBulkAll r
def uptoBulkEntries {H : Type} : List (Lit × DataW H) → Nat
  | [] => 0
  | x :: r => uptoBulkEntry x + uptoBulkEntries r
def uptoBulkEntry {H : Type} : Lit × DataW H → Nat
  | (.string bytes, d) => bytes.length + uptoBulk d + 1
  | (_, d) => uptoBulk d + 1
 end
def uptoSmall : (H : Type) → List (DataW H) → Bool := fun _ ds => decide (uptoBulkAll ds ≤ 1048576)
def OpenSpec.upto (s : _root_.Go.ChangeSpec) : _root_.Go.OpenSpec := { _root_.Go.OpenSpec.ofChange s with cond := some uptoSmall }

/-- 'laws.FnInclusion', WHERE WHAT IT READS IS OF BULK AT MOST 1048576: true; the input reads as it did. -/
def fnInclusionUptoRow : OpenClaim := { program := "ytgpimekdfnpffaa", sum := "e3be933424887f7a78d3bbfa08a51fbb76b4ef7889d1af16bffbb1b2d13630d3", func := "loop.example/g00256/laws.FnInclusion", spec := "fnInclusion", unfollowed := true, recurses := true, apart := false, narrowed := true }
def FnInclusionUptoSaid : Prop := fnInclusionUptoRow.holds Try.pinned (OpenSpec.upto fnInclusionSpec)

/-- 'laws.FnHits', WHERE WHAT IT READS IS OF BULK AT MOST 1048576: true; the input reads as it did. -/
def fnHitsUptoRow : OpenClaim := { program := "ytgpimekdfnpffaa", sum := "e3be933424887f7a78d3bbfa08a51fbb76b4ef7889d1af16bffbb1b2d13630d3", func := "loop.example/g00256/laws.FnHits", spec := "fnHits", unfollowed := true, recurses := true, apart := false, narrowed := true }
def FnHitsUptoSaid : Prop := fnHitsUptoRow.holds Try.pinned (OpenSpec.upto fnHitsSpec)

/-- 'laws.FnTouched', WHERE WHAT IT READS IS OF BULK AT MOST 1048576: true; the input reads as it did. -/
def fnTouchedUptoRow : OpenClaim := { program := "ytgpimekdfnpffaa", sum := "e3be933424887f7a78d3bbfa08a51fbb76b4ef7889d1af16bffbb1b2d13630d3", func := "loop.example/g00256/laws.FnTouched", spec := "fnTouched", unfollowed := true, recurses := true, apart := false, narrowed := true }
def FnTouchedUptoSaid : Prop := fnTouchedUptoRow.holds Try.pinned (OpenSpec.upto fnTouchedSpec)

/-- 'laws.FnBelady', WHERE WHAT IT READS IS OF BULK AT MOST 1048576: true; the input reads as it did. -/
def fnBeladyUptoRow : OpenClaim := { program := "ytgpimekdfnpffaa", sum := "e3be933424887f7a78d3bbfa08a51fbb76b4ef7889d1af16bffbb1b2d13630d3", func := "loop.example/g00256/laws.FnBelady", spec := "fnBelady", inPlace := ["slices.overlaps[int]"], unfollowed := true, recurses := true, apart := false, narrowed := true }
def FnBeladyUptoSaid : Prop := fnBeladyUptoRow.holds Try.pinned (OpenSpec.upto fnBeladySpec)

/-- 'laws.FnCompetitive', WHERE WHAT IT READS IS OF BULK AT MOST 1048576: true; the input reads as it did. -/
def fnCompetitiveUptoRow : OpenClaim := { program := "ytgpimekdfnpffaa", sum := "e3be933424887f7a78d3bbfa08a51fbb76b4ef7889d1af16bffbb1b2d13630d3", func := "loop.example/g00256/laws.FnCompetitive", spec := "fnCompetitive", inPlace := ["slices.overlaps[int]"], unfollowed := true, recurses := true, apart := false, narrowed := true }
def FnCompetitiveUptoSaid : Prop := fnCompetitiveUptoRow.holds Try.pinned (OpenSpec.upto fnCompetitiveSpec)

end Rows
end Go.Proofs.Ytgpimekdfnpffaa
