/-
  DERIVED. GIVEN WITH THE SEED: THE CARDS: each row of YtiaiokablpndjaaGreatDoorRows.lean that lists a variable, with what it lists TIED to the program's text (the seventh form; the later family's looks); each row that meets fmt, with fmt's text TOLD by the authors' own Lean function (tested against real Go, not proved from fmt's source: count such statements apart). THE CARD IS WHAT COUNTS. Prove the row's statement (the work); the ties are given (YtiaiokablpndjaaGreatDoorTie.lean); close each card by the builder's one call (the guide's Derived/Test/ToyasCard.lean, 'card_holds'). Laid BY PROGRAM, IN A SANDBOX (cutbox-door.mjs). By AI agents, Wed Nov 11 2026. No macro, syntax, notation, axiom, sorry.
-/
import Derived.Test.YtiaiokablpndjaaGreatDoorRows
import GoSem.ClaimSeven
namespace Go.Proofs.YtiaiokablpndjaaGreatDoor
namespace Rows

/-- THE TIED CARD OF 'litmuslaw30.ProofKnown'. -/
def proofKnownCard : Claim7 := { stood := { row := proofKnownRow, standIns := [], harness := (true, "b8c6eca47961c9e30ca24dd796d5ef44493ec671dbf93571e219ee242f40aca2"), looks := true }, kinds := [], alts := [], laidByText := true, laidKinds := [.data, .data, .data, .data, .handle, .pinned], laidTests := true, laidLooks := .later }
def ProofKnownCardSaid : Prop := Claim7.holds Tryz.pinned (.plain (OpenSpec.ofChange proofKnownSpec)) proofKnownCard

/-- THE SECOND FORM's CARD OF 'litmuslaw30.ProofKnown'. -/
def proofKnownUptoCard : Claim7 := { stood := { row := proofKnownUptoRow, standIns := [], harness := (true, "b8c6eca47961c9e30ca24dd796d5ef44493ec671dbf93571e219ee242f40aca2"), looks := true }, kinds := [], alts := [], laidByText := true, laidKinds := [.data, .data, .data, .data, .handle, .pinned], laidTests := true, laidLooks := .later }
def ProofKnownUptoCardSaid : Prop := Claim7.holds Tryz.pinned (.plain (OpenSpec.upto proofKnownSpec)) proofKnownUptoCard
end Rows
end Go.Proofs.YtiaiokablpndjaaGreatDoor
