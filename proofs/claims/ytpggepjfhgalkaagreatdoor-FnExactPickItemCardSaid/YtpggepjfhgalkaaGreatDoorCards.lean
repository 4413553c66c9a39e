/-
  DERIVED. GIVEN WITH THE SEED: THE CARDS: each row of YtpggepjfhgalkaaGreatDoorRows.lean that lists a variable, with what it lists TIED to the program's text (the seventh form; the later family's looks); each row that meets fmt, with fmt's text TOLD by the authors' own Lean function (tested against real Go, not proved from fmt's source: count such statements apart). THE CARD IS WHAT COUNTS. Prove the row's statement (the work); the ties are given (YtpggepjfhgalkaaGreatDoorTie.lean); close each card by the builder's one call (the guide's Derived/Test/ToyasCard.lean, 'card_holds'). Laid BY PROGRAM, IN A SANDBOX (cutbox-door.mjs). By AI agents, Wed Nov 11 2026. No macro, syntax, notation, axiom, sorry.
-/
import Derived.Test.YtpggepjfhgalkaaGreatDoorRows
import GoSem.ClaimSeven
namespace Go.Proofs.YtpggepjfhgalkaaGreatDoor
namespace Rows

/-- THE TIED CARD OF 'laws.FnExactKeyOf'. -/
def fnExactKeyOfCard : Claim7 := { stood := { row := fnExactKeyOfRow, standIns := [], harness := (true, "2baceba6c6ffafae52b74166132f75144a555e9e96eed4aafac37d19b8ed01a7"), looks := true }, kinds := [], alts := [], laidByText := true, laidKinds := [.data, .data, .data, .data, .sentinel, .sentinel, .pinned], laidTests := true, laidLooks := .later }
def FnExactKeyOfCardSaid : Prop := Claim7.holds Tryz.pinned (.plain (OpenSpec.ofChange fnExactKeyOfSpec)) fnExactKeyOfCard

/-- THE TIED CARD OF 'laws.FnExactPickItem'. -/
def fnExactPickItemCard : Claim7 := { stood := { row := fnExactPickItemRow, standIns := [], harness := (true, "2baceba6c6ffafae52b74166132f75144a555e9e96eed4aafac37d19b8ed01a7"), looks := true }, kinds := [], alts := [], laidByText := true, laidKinds := [.data, .data, .data, .data, .sentinel, .sentinel, .pinned], laidTests := true, laidLooks := .later }
def FnExactPickItemCardSaid : Prop := Claim7.holds Tryz.pinned (.plain (OpenSpec.ofChange fnExactPickItemSpec)) fnExactPickItemCard

/-- THE TIED CARD OF 'laws.FnExactVaryOf'. -/
def fnExactVaryOfCard : Claim7 := { stood := { row := fnExactVaryOfRow, standIns := [], harness := (true, "2baceba6c6ffafae52b74166132f75144a555e9e96eed4aafac37d19b8ed01a7"), looks := true }, kinds := [], alts := [], laidByText := true, laidKinds := [.data, .data, .data, .data, .sentinel, .sentinel, .pinned], laidTests := true, laidLooks := .later }
def FnExactVaryOfCardSaid : Prop := Claim7.holds Tryz.pinned (.plain (OpenSpec.ofChange fnExactVaryOfSpec)) fnExactVaryOfCard

/-- THE TIED CARD OF 'laws.FnExactMatches'. -/
def fnExactMatchesCard : Claim7 := { stood := { row := fnExactMatchesRow, standIns := [], harness := (true, "2baceba6c6ffafae52b74166132f75144a555e9e96eed4aafac37d19b8ed01a7"), looks := true }, kinds := [], alts := [], laidByText := true, laidKinds := [.data, .data, .data, .data, .sentinel, .sentinel, .pinned], laidTests := true, laidLooks := .later }
def FnExactMatchesCardSaid : Prop := Claim7.holds Tryz.pinned (.plain (OpenSpec.ofChange fnExactMatchesSpec)) fnExactMatchesCard

/-- THE SECOND FORM's CARD OF 'laws.FnExactKeyOf'. -/
def fnExactKeyOfUptoCard : Claim7 := { stood := { row := fnExactKeyOfUptoRow, standIns := [], harness := (true, "2baceba6c6ffafae52b74166132f75144a555e9e96eed4aafac37d19b8ed01a7"), looks := true }, kinds := [], alts := [], laidByText := true, laidKinds := [.data, .data, .data, .data, .sentinel, .sentinel, .pinned], laidTests := true, laidLooks := .later }
def FnExactKeyOfUptoCardSaid : Prop := Claim7.holds Tryz.pinned (.plain (OpenSpec.upto fnExactKeyOfSpec)) fnExactKeyOfUptoCard

/-- THE SECOND FORM's CARD OF 'laws.FnExactPickItem'. -/
def fnExactPickItemUptoCard : Claim7 := { stood := { row := fnExactPickItemUptoRow, standIns := [], harness := (true, "2baceba6c6ffafae52b74166132f75144a555e9e96eed4aafac37d19b8ed01a7"), looks := true }, kinds := [], alts := [], laidByText := true, laidKinds := [.data, .data, .data, .data, .sentinel, .sentinel, .pinned], laidTests := true, laidLooks := .later }
def FnExactPickItemUptoCardSaid : Prop := Claim7.holds Tryz.pinned (.plain (OpenSpec.upto fnExactPickItemSpec)) fnExactPickItemUptoCard

/-- THE SECOND FORM's CARD OF 'laws.FnExactVaryOf'. -/
def fnExactVaryOfUptoCard : Claim7 := { stood := { row := fnExactVaryOfUptoRow, standIns := [], harness := (true, "2baceba6c6ffafae52b74166132f75144a555e9e96eed4aafac37d19b8ed01a7"), looks := true }, kinds := [], alts := [], laidByText := true, laidKinds := [.data, .data, .data, .data, .sentinel, .sentinel, .pinned], laidTests := true, laidLooks := .later }
def FnExactVaryOfUptoCardSaid : Prop := Claim7.holds Tryz.pinned (.plain (OpenSpec.upto fnExactVaryOfSpec)) fnExactVaryOfUptoCard

/-- THE SECOND FORM's CARD OF 'laws.FnExactMatches'. -/
def fnExactMatchesUptoCard : Claim7 := { stood := { row := fnExactMatchesUptoRow, standIns := [], harness := (true, "2baceba6c6ffafae52b74166132f75144a555e9e96eed4aafac37d19b8ed01a7"), looks := true }, kinds := [], alts := [], laidByText := true, laidKinds := [.data, .data, .data, .data, .sentinel, .sentinel, .pinned], laidTests := true, laidLooks := .later }
def FnExactMatchesUptoCardSaid : Prop := Claim7.holds Tryz.pinned (.plain (OpenSpec.upto fnExactMatchesSpec)) fnExactMatchesUptoCard
end Rows
end Go.Proofs.YtpggepjfhgalkaaGreatDoor
