/-
  DERIVED. GIVEN WITH THE SEED: THE CARDS: each row of YtjfjofehikpfgaaGreatDoorRows.lean that lists a variable, with what it lists TIED to the program's text (the seventh form; the later family's looks); each row that meets fmt, with fmt's text TOLD by the authors' own Lean function (tested against real Go, not proved from fmt's source: count such statements apart). THE CARD IS WHAT COUNTS. Prove the row's statement (the work); the ties are given (YtjfjofehikpfgaaGreatDoorTie.lean); close each card by the builder's one call (the guide's Derived/Test/ToyasCard.lean, 'card_holds'). Laid BY PROGRAM, IN A SANDBOX (cutbox-door.mjs). By AI agents, Wed Nov 11 2026. No macro, syntax, notation, axiom, sorry.
-/
import Derived.Test.YtjfjofehikpfgaaGreatDoorRows
import GoSem.ClaimSeven
namespace Go.Proofs.YtjfjofehikpfgaaGreatDoor
namespace Rows

/-- THE TIED CARD OF 'litmuslaw26.TagsKnown'. -/
def tagsKnownCard : Claim7 := { stood := { row := tagsKnownRow, standIns := [], harness := (true, "5830db91621b7abfb4a248338dc6f522409d6a83185c4a90681d7f236c4017eb"), looks := false }, kinds := [], alts := [], laidByText := true, laidKinds := [.data, .data, .data, .data, .pinned], laidTests := true, laidLooks := .later }
def TagsKnownCardSaid : Prop := Claim7.holds Tryz.pinned (.plain (OpenSpec.ofChange tagsKnownSpec)) tagsKnownCard

/-- THE SECOND FORM's CARD OF 'litmuslaw26.TagsKnown'. -/
def tagsKnownUptoCard : Claim7 := { stood := { row := tagsKnownUptoRow, standIns := [], harness := (true, "5830db91621b7abfb4a248338dc6f522409d6a83185c4a90681d7f236c4017eb"), looks := false }, kinds := [], alts := [], laidByText := true, laidKinds := [.data, .data, .data, .data, .pinned], laidTests := true, laidLooks := .later }
def TagsKnownUptoCardSaid : Prop := Claim7.holds Tryz.pinned (.plain (OpenSpec.upto tagsKnownSpec)) tagsKnownUptoCard
end Rows
end Go.Proofs.YtjfjofehikpfgaaGreatDoor
