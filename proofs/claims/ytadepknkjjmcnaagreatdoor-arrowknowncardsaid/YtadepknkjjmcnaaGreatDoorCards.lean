/-
  DERIVED. GIVEN WITH THE SEED: THE CARDS: each row of YtadepknkjjmcnaaGreatDoorRows.lean that lists a variable, with what it lists TIED to the program's text (the seventh form; the later family's looks); each row that meets fmt, with fmt's text TOLD by the authors' own Lean function (tested against real Go, not proved from fmt's source: count such statements apart). THE CARD IS WHAT COUNTS. Prove the row's statement (the work); the ties are given (YtadepknkjjmcnaaGreatDoorTie.lean); close each card by the builder's one call (the guide's Derived/Test/ToyasCard.lean, 'card_holds'). Laid BY PROGRAM, IN A SANDBOX (cutbox-door.mjs). By AI agents, Wed Nov 11 2026. No macro, syntax, notation, axiom, sorry.
-/
import Derived.Test.YtadepknkjjmcnaaGreatDoorRows
import GoSem.ClaimSeven
namespace Go.Proofs.YtadepknkjjmcnaaGreatDoor
namespace Rows

/-- THE TIED CARD OF 'litmuslaw32.ArrowKnown'. -/
def arrowKnownCard : Claim7 := { stood := { row := arrowKnownRow, standIns := [], harness := (true, "0e34f400dbd2c175ca2ea87450dc4981f40eec5a243c8eec21f9c56ac10df36c"), looks := true }, kinds := [], alts := [], laidByText := true, laidKinds := [.pinned, .data, .data, .data, .data, .handle], laidTests := true, laidLooks := .later }
def ArrowKnownCardSaid : Prop := Claim7.holds Tryz.pinned (.plain (OpenSpec.ofChange arrowKnownSpec)) arrowKnownCard

/-- THE SECOND FORM's CARD OF 'litmuslaw32.ArrowKnown'. -/
def arrowKnownUptoCard : Claim7 := { stood := { row := arrowKnownUptoRow, standIns := [], harness := (true, "0e34f400dbd2c175ca2ea87450dc4981f40eec5a243c8eec21f9c56ac10df36c"), looks := true }, kinds := [], alts := [], laidByText := true, laidKinds := [.pinned, .data, .data, .data, .data, .handle], laidTests := true, laidLooks := .later }
def ArrowKnownUptoCardSaid : Prop := Claim7.holds Tryz.pinned (.plain (OpenSpec.upto arrowKnownSpec)) arrowKnownUptoCard
end Rows
end Go.Proofs.YtadepknkjjmcnaaGreatDoor
