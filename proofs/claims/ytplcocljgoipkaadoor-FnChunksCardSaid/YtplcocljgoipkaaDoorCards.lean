/-
  DERIVED. GIVEN WITH THE SEED: THE CARDS: each row of YtplcocljgoipkaaDoorRows.lean that lists a variable, with what it lists TIED to the program's text (the seventh form; the later family's looks); each row that meets fmt, with fmt's text TOLD by the authors' own Lean function (tested against real Go, not proved from fmt's source: count such statements apart). THE CARD IS WHAT COUNTS. Prove the row's statement (the work); the ties are given (YtplcocljgoipkaaDoorTie.lean); close each card by the builder's one call (the guide's Derived/Test/ToyasCard.lean, 'card_holds'). Laid BY PROGRAM, IN A SANDBOX (cutbox-door.mjs). By AI agents, Wed Nov 11 2026. No macro, syntax, notation, axiom, sorry.
-/
import Derived.Test.YtplcocljgoipkaaDoorRows
import GoSem.ClaimSeven
namespace Go.Proofs.YtplcocljgoipkaaDoor
namespace Rows

/-- THE TIED CARD OF 'laws.FnChunks'. -/
def fnChunksCard : Claim7 := { stood := { row := fnChunksRow, standIns := [], harness := (true, "ba0827be3ed0bc4faf7772e265027f63bc4959fe6bf92018afba220eb973433a"), looks := false }, kinds := [], alts := [], laidByText := true, laidKinds := [.data, .data, .data], laidTests := true, laidLooks := .later }
def FnChunksCardSaid : Prop := Claim7.holds Tryd.pinned (.plain (OpenSpec.ofChange fnChunksSpec)) fnChunksCard

/-- THE TIED CARD OF 'laws.FnTags'. -/
def fnTagsCard : Claim7 := { stood := { row := fnTagsRow, standIns := [], harness := (true, "ba0827be3ed0bc4faf7772e265027f63bc4959fe6bf92018afba220eb973433a"), looks := false }, kinds := [], alts := [], laidByText := true, laidKinds := [.data, .pinned], laidTests := true, laidLooks := .later }
def FnTagsCardSaid : Prop := Claim7.holds Tryd.pinned (.plain (OpenSpec.ofChange fnTagsSpec)) fnTagsCard

/-- THE SECOND FORM's CARD OF 'laws.FnChunks'. -/
def fnChunksUptoCard : Claim7 := { stood := { row := fnChunksUptoRow, standIns := [], harness := (true, "ba0827be3ed0bc4faf7772e265027f63bc4959fe6bf92018afba220eb973433a"), looks := false }, kinds := [], alts := [], laidByText := true, laidKinds := [.data, .data, .data], laidTests := true, laidLooks := .later }
def FnChunksUptoCardSaid : Prop := Claim7.holds Tryd.pinned (.plain (OpenSpec.upto fnChunksSpec)) fnChunksUptoCard

/-- THE SECOND FORM's CARD OF 'laws.FnTags'. -/
def fnTagsUptoCard : Claim7 := { stood := { row := fnTagsUptoRow, standIns := [], harness := (true, "ba0827be3ed0bc4faf7772e265027f63bc4959fe6bf92018afba220eb973433a"), looks := false }, kinds := [], alts := [], laidByText := true, laidKinds := [.data, .pinned], laidTests := true, laidLooks := .later }
def FnTagsUptoCardSaid : Prop := Claim7.holds Tryd.pinned (.plain (OpenSpec.upto fnTagsSpec)) fnTagsUptoCard
end Rows
end Go.Proofs.YtplcocljgoipkaaDoor
