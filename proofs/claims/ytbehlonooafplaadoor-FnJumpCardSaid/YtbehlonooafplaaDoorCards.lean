/-
  DERIVED. GIVEN WITH THE SEED: THE CARDS: each row of YtbehlonooafplaaDoorRows.lean that lists a variable, with what it lists TIED to the program's text (the seventh form; the later family's looks); each row that meets fmt, with fmt's text TOLD by the authors' own Lean function (tested against real Go, not proved from fmt's source: count such statements apart). THE CARD IS WHAT COUNTS. Prove the row's statement (the work); the ties are given (YtbehlonooafplaaDoorTie.lean); close each card by the builder's one call (the guide's Derived/Test/ToyasCard.lean, 'card_holds'). Laid BY PROGRAM, IN A SANDBOX (cutbox-door.mjs). By AI agents, Wed Nov 11 2026. No macro, syntax, notation, axiom, sorry.
-/
import Derived.Test.YtbehlonooafplaaDoorRows
import GoSem.ClaimSeven
namespace Go.Proofs.YtbehlonooafplaaDoor
namespace Rows

/-- THE TIED CARD OF 'laws.FnExactJumpOf'. -/
def fnExactJumpOfCard : Claim7 := { stood := { row := fnExactJumpOfRow, standIns := [], harness := (true, "5551efef3764048602a2599f087ddbb686f4cfa05568f0c198d178c0657d0247"), looks := false }, kinds := [], alts := [], laidByText := true, laidKinds := [.data, .data, .data], laidTests := true, laidLooks := .later }
def FnExactJumpOfCardSaid : Prop := Claim7.holds Tryd.pinned (.plain (OpenSpec.ofChange fnExactJumpOfSpec)) fnExactJumpOfCard

/-- THE TIED CARD OF 'laws.FnJump'. -/
def fnJumpCard : Claim7 := { stood := { row := fnJumpRow, standIns := [], harness := (true, "5551efef3764048602a2599f087ddbb686f4cfa05568f0c198d178c0657d0247"), looks := false }, kinds := [], alts := [], laidByText := true, laidKinds := [.data, .data, .data], laidTests := true, laidLooks := .later }
def FnJumpCardSaid : Prop := Claim7.holds Tryd.pinned (.plain (OpenSpec.ofChange fnJumpSpec)) fnJumpCard

/-- THE SECOND FORM's CARD OF 'laws.FnExactJumpOf'. -/
def fnExactJumpOfUptoCard : Claim7 := { stood := { row := fnExactJumpOfUptoRow, standIns := [], harness := (true, "5551efef3764048602a2599f087ddbb686f4cfa05568f0c198d178c0657d0247"), looks := false }, kinds := [], alts := [], laidByText := true, laidKinds := [.data, .data, .data], laidTests := true, laidLooks := .later }
def FnExactJumpOfUptoCardSaid : Prop := Claim7.holds Tryd.pinned (.plain (OpenSpec.upto fnExactJumpOfSpec)) fnExactJumpOfUptoCard

/-- THE SECOND FORM's CARD OF 'laws.FnJump'. -/
def fnJumpUptoCard : Claim7 := { stood := { row := fnJumpUptoRow, standIns := [], harness := (true, "5551efef3764048602a2599f087ddbb686f4cfa05568f0c198d178c0657d0247"), looks := false }, kinds := [], alts := [], laidByText := true, laidKinds := [.data, .data, .data], laidTests := true, laidLooks := .later }
def FnJumpUptoCardSaid : Prop := Claim7.holds Tryd.pinned (.plain (OpenSpec.upto fnJumpSpec)) fnJumpUptoCard
end Rows
end Go.Proofs.YtbehlonooafplaaDoor
