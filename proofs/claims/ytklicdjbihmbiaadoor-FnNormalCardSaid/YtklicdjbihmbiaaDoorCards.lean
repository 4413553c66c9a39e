/-
  DERIVED. GIVEN WITH THE SEED: THE CARDS: each row of YtklicdjbihmbiaaDoorRows.lean that lists a variable, with what it lists TIED to the program's text (the seventh form; the later family's looks); each row that meets fmt, with fmt's text TOLD by the authors' own Lean function (tested against real Go, not proved from fmt's source: count such statements apart). THE CARD IS WHAT COUNTS. Prove the row's statement (the work); the ties are given (YtklicdjbihmbiaaDoorTie.lean); close each card by the builder's one call (the guide's Derived/Test/ToyasCard.lean, 'card_holds'). Laid BY PROGRAM, IN A SANDBOX (cutbox-door.mjs). By AI agents, Wed Nov 11 2026. No macro, syntax, notation, axiom, sorry.
-/
import Derived.Test.YtklicdjbihmbiaaDoorRows
import GoSem.ClaimSeven
namespace Go.Proofs.YtklicdjbihmbiaaDoor
namespace Rows

/-- THE TIED CARD OF 'laws.FnNormal'. -/
def fnNormalCard : Claim7 := { stood := { row := fnNormalRow, standIns := [], harness := (true, "d8417583247b21192be882e7c243039869ca8a00594154a03f04030cb46bd99b"), looks := true }, kinds := [], alts := [], laidByText := true, laidKinds := [.data, .data, .data, .data, .pinned], laidTests := true, laidLooks := .later }
def FnNormalCardSaid : Prop := Claim7.holds Tryd.pinned (.plain (OpenSpec.ofChange fnNormalSpec)) fnNormalCard

/-- THE TIED CARD OF 'laws.FnUrls'. -/
def fnUrlsCard : Claim7 := { stood := { row := fnUrlsRow, standIns := [], harness := (true, "d8417583247b21192be882e7c243039869ca8a00594154a03f04030cb46bd99b"), looks := true }, kinds := [], alts := [], laidByText := true, laidKinds := [.data, .data, .data, .sentinel, .sentinel], laidTests := true, laidLooks := .later }
def FnUrlsCardSaid : Prop := Claim7.holds Tryd.pinned (.plain (OpenSpec.ofChange fnUrlsSpec)) fnUrlsCard

/-- THE SECOND FORM's CARD OF 'laws.FnNormal'. -/
def fnNormalUptoCard : Claim7 := { stood := { row := fnNormalUptoRow, standIns := [], harness := (true, "d8417583247b21192be882e7c243039869ca8a00594154a03f04030cb46bd99b"), looks := true }, kinds := [], alts := [], laidByText := true, laidKinds := [.data, .data, .data, .data, .pinned], laidTests := true, laidLooks := .later }
def FnNormalUptoCardSaid : Prop := Claim7.holds Tryd.pinned (.plain (OpenSpec.upto fnNormalSpec)) fnNormalUptoCard

/-- THE SECOND FORM's CARD OF 'laws.FnUrls'. -/
def fnUrlsUptoCard : Claim7 := { stood := { row := fnUrlsUptoRow, standIns := [], harness := (true, "d8417583247b21192be882e7c243039869ca8a00594154a03f04030cb46bd99b"), looks := true }, kinds := [], alts := [], laidByText := true, laidKinds := [.data, .data, .data, .sentinel, .sentinel], laidTests := true, laidLooks := .later }
def FnUrlsUptoCardSaid : Prop := Claim7.holds Tryd.pinned (.plain (OpenSpec.upto fnUrlsSpec)) fnUrlsUptoCard
end Rows
end Go.Proofs.YtklicdjbihmbiaaDoor
