/-
  DERIVED. GIVEN WITH THE SEED: THE CARDS: each row of YtjkpomphkfecmaaGreatDoorRows.lean that lists a variable, with what it lists TIED to the program's text (the seventh form; the later family's looks); each row that meets fmt, with fmt's text TOLD by the authors' own Lean function (tested against real Go, not proved from fmt's source: count such statements apart). THE CARD IS WHAT COUNTS. Prove the row's statement (the work); the ties are given (YtjkpomphkfecmaaGreatDoorTie.lean); close each card by the builder's one call (the guide's Derived/Test/ToyasCard.lean, 'card_holds'). Laid BY PROGRAM, IN A SANDBOX (cutbox-door.mjs). By AI agents, Wed Nov 11 2026. No macro, syntax, notation, axiom, sorry.
-/
import Derived.Test.YtjkpomphkfecmaaGreatDoorRows
import GoSem.ClaimSeven
namespace Go.Proofs.YtjkpomphkfecmaaGreatDoor
namespace Rows

/-- THE TIED CARD OF 'laws.FnChoices'. -/
def fnChoicesCard : Claim7 := { stood := { row := fnChoicesRow, standIns := [], harness := (true, "d297d7dcb7c6a4a562036372a41f20b3dd4241b09c16f3d3134124384ffd9d19"), looks := true }, kinds := [], alts := [], laidByText := true, laidKinds := [.data, .data, .data, .data, .sentinel, .sentinel, .pinned], laidTests := true, laidLooks := .later }
def FnChoicesCardSaid : Prop := Claim7.holds Tryz.pinned (.plain (OpenSpec.ofChange fnChoicesSpec)) fnChoicesCard

/-- THE TIED CARD OF 'laws.FnRanges'. -/
def fnRangesCard : Claim7 := { stood := { row := fnRangesRow, standIns := [], harness := (true, "d297d7dcb7c6a4a562036372a41f20b3dd4241b09c16f3d3134124384ffd9d19"), looks := true }, kinds := [], alts := [], laidByText := true, laidKinds := [.data, .data, .data, .data, .sentinel, .sentinel, .pinned], laidTests := true, laidLooks := .later }
def FnRangesCardSaid : Prop := Claim7.holds Tryz.pinned (.plain (OpenSpec.ofChange fnRangesSpec)) fnRangesCard

/-- THE SECOND FORM's CARD OF 'laws.FnChoices'. -/
def fnChoicesUptoCard : Claim7 := { stood := { row := fnChoicesUptoRow, standIns := [], harness := (true, "d297d7dcb7c6a4a562036372a41f20b3dd4241b09c16f3d3134124384ffd9d19"), looks := true }, kinds := [], alts := [], laidByText := true, laidKinds := [.data, .data, .data, .data, .sentinel, .sentinel, .pinned], laidTests := true, laidLooks := .later }
def FnChoicesUptoCardSaid : Prop := Claim7.holds Tryz.pinned (.plain (OpenSpec.upto fnChoicesSpec)) fnChoicesUptoCard

/-- THE SECOND FORM's CARD OF 'laws.FnRanges'. -/
def fnRangesUptoCard : Claim7 := { stood := { row := fnRangesUptoRow, standIns := [], harness := (true, "d297d7dcb7c6a4a562036372a41f20b3dd4241b09c16f3d3134124384ffd9d19"), looks := true }, kinds := [], alts := [], laidByText := true, laidKinds := [.data, .data, .data, .data, .sentinel, .sentinel, .pinned], laidTests := true, laidLooks := .later }
def FnRangesUptoCardSaid : Prop := Claim7.holds Tryz.pinned (.plain (OpenSpec.upto fnRangesSpec)) fnRangesUptoCard
end Rows
end Go.Proofs.YtjkpomphkfecmaaGreatDoor
