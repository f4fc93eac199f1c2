/-
  DERIVED. GIVEN WITH THE SEED: THE CARDS: each row of YtaadbnppakcjnaaGreatDoorRows.lean that lists a variable, with what it lists TIED to the program's text (the seventh form; the later family's looks); each row that meets fmt, with fmt's text TOLD by the authors' own Lean function (tested against real Go, not proved from fmt's source: count such statements apart). THE CARD IS WHAT COUNTS. Prove the row's statement (the work); the ties are given (YtaadbnppakcjnaaGreatDoorTie.lean); close each card by the builder's one call (the guide's Derived/Test/ToyasCard.lean, 'card_holds'). Laid BY PROGRAM, IN A SANDBOX (cutbox-door.mjs). By AI agents, Wed Nov 11 2026. No macro, syntax, notation, axiom, sorry.
-/
import Derived.Test.YtaadbnppakcjnaaGreatDoorRows
import GoSem.ClaimSeven
namespace Go.Proofs.YtaadbnppakcjnaaGreatDoor
namespace Rows

/-- THE TIED CARD OF 'litmuslaw29.SolveKnown'. -/
def solveKnownCard : Claim7 := { stood := { row := solveKnownRow, standIns := [], harness := (true, "491504245433f9eb2cbe8959432485b64bcb63c45d21540b2c3405381ec777e0"), looks := true }, kinds := [], alts := [], laidByText := true, laidKinds := [.data, .data, .data, .data, .pinned], laidTests := true, laidLooks := .later }
def SolveKnownCardSaid : Prop := Claim7.holds Tryz.pinned (.plain (OpenSpec.ofChange solveKnownSpec)) solveKnownCard

/-- THE SECOND FORM's CARD OF 'litmuslaw29.SolveKnown'. -/
def solveKnownUptoCard : Claim7 := { stood := { row := solveKnownUptoRow, standIns := [], harness := (true, "491504245433f9eb2cbe8959432485b64bcb63c45d21540b2c3405381ec777e0"), looks := true }, kinds := [], alts := [], laidByText := true, laidKinds := [.data, .data, .data, .data, .pinned], laidTests := true, laidLooks := .later }
def SolveKnownUptoCardSaid : Prop := Claim7.holds Tryz.pinned (.plain (OpenSpec.upto solveKnownSpec)) solveKnownUptoCard
end Rows
end Go.Proofs.YtaadbnppakcjnaaGreatDoor
