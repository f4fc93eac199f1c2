/-
  DERIVED. GIVEN WITH THE SEED: THE CARDS: each row of YtgdddkffkmcmcaaGreatDoorRows.lean that lists a variable, with what it lists TIED to the program's text (the seventh form; the later family's looks); each row that meets fmt, with fmt's text TOLD by the authors' own Lean function (tested against real Go, not proved from fmt's source: count such statements apart). THE CARD IS WHAT COUNTS. Prove the row's statement (the work); the ties are given (YtgdddkffkmcmcaaGreatDoorTie.lean); close each card by the builder's one call (the guide's Derived/Test/ToyasCard.lean, 'card_holds'). Laid BY PROGRAM, IN A SANDBOX (cutbox-door.mjs). By AI agents, Wed Nov 11 2026. No macro, syntax, notation, axiom, sorry.
-/
import Derived.Test.YtgdddkffkmcmcaaGreatDoorRows
import GoSem.ClaimSeven
namespace Go.Proofs.YtgdddkffkmcmcaaGreatDoor
namespace Rows

/-- THE TIED CARD OF 'litmuslaw26.TagsOne'. -/
def tagsOneCard : Claim7 := { stood := { row := tagsOneRow, standIns := [], harness := (true, "163731ae83c221271b78e84b2596d5f1210ed9c5456eb9b364938a8ecfc37f85"), looks := false }, kinds := [], alts := [], laidByText := true, laidKinds := [.data, .data, .data, .data, .pinned], laidTests := true, laidLooks := .later }
def TagsOneCardSaid : Prop := Claim7.holds Tryz.pinned (.plain (OpenSpec.ofChange tagsOneSpec)) tagsOneCard

/-- THE SECOND FORM's CARD OF 'litmuslaw26.TagsOne'. -/
def tagsOneUptoCard : Claim7 := { stood := { row := tagsOneUptoRow, standIns := [], harness := (true, "163731ae83c221271b78e84b2596d5f1210ed9c5456eb9b364938a8ecfc37f85"), looks := false }, kinds := [], alts := [], laidByText := true, laidKinds := [.data, .data, .data, .data, .pinned], laidTests := true, laidLooks := .later }
def TagsOneUptoCardSaid : Prop := Claim7.holds Tryz.pinned (.plain (OpenSpec.upto tagsOneSpec)) tagsOneUptoCard
end Rows
end Go.Proofs.YtgdddkffkmcmcaaGreatDoor
