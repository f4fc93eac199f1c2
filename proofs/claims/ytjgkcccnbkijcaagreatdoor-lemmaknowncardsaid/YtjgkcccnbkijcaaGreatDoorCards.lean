/-
  DERIVED. GIVEN WITH THE SEED: THE CARDS: each row of YtjgkcccnbkijcaaGreatDoorRows.lean that lists a variable, with what it lists TIED to the program's text (the seventh form; the later family's looks); each row that meets fmt, with fmt's text TOLD by the authors' own Lean function (tested against real Go, not proved from fmt's source: count such statements apart). THE CARD IS WHAT COUNTS. Prove the row's statement (the work); the ties are given (YtjgkcccnbkijcaaGreatDoorTie.lean); close each card by the builder's one call (the guide's Derived/Test/ToyasCard.lean, 'card_holds'). Laid BY PROGRAM, IN A SANDBOX (cutbox-door.mjs). By AI agents, Wed Nov 11 2026. No macro, syntax, notation, axiom, sorry.
-/
import Derived.Test.YtjgkcccnbkijcaaGreatDoorRows
import GoSem.ClaimSeven
namespace Go.Proofs.YtjgkcccnbkijcaaGreatDoor
namespace Rows

/-- THE TIED CARD OF 'litmuslaw28.LemmaKnown'. -/
def lemmaKnownCard : Claim7 := { stood := { row := lemmaKnownRow, standIns := [], harness := (true, "ea5971714f11d8d38d81fec4ad267587f2aa75d763fad4fb4ee4dc2794848937"), looks := false }, kinds := [], alts := [], laidByText := true, laidKinds := [.data, .data, .data, .data, .pinned], laidTests := true, laidLooks := .later }
def LemmaKnownCardSaid : Prop := Claim7.holds Tryz.pinned (.plain (OpenSpec.ofChange lemmaKnownSpec)) lemmaKnownCard

/-- THE SECOND FORM's CARD OF 'litmuslaw28.LemmaKnown'. -/
def lemmaKnownUptoCard : Claim7 := { stood := { row := lemmaKnownUptoRow, standIns := [], harness := (true, "ea5971714f11d8d38d81fec4ad267587f2aa75d763fad4fb4ee4dc2794848937"), looks := false }, kinds := [], alts := [], laidByText := true, laidKinds := [.data, .data, .data, .data, .pinned], laidTests := true, laidLooks := .later }
def LemmaKnownUptoCardSaid : Prop := Claim7.holds Tryz.pinned (.plain (OpenSpec.upto lemmaKnownSpec)) lemmaKnownUptoCard
end Rows
end Go.Proofs.YtjgkcccnbkijcaaGreatDoor
