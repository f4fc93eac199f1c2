/-
  DERIVED. GIVEN WITH THE SEED: THE CARDS: each row of YtplbfhhacobghaaGreatDoorRows.lean that lists a variable, with what it lists TIED to the program's text (the seventh form; the later family's looks); each row that meets fmt, with fmt's text TOLD by the authors' own Lean function (tested against real Go, not proved from fmt's source: count such statements apart). THE CARD IS WHAT COUNTS. Prove the row's statement (the work); the ties are given (YtplbfhhacobghaaGreatDoorTie.lean); close each card by the builder's one call (the guide's Derived/Test/ToyasCard.lean, 'card_holds'). Laid BY PROGRAM, IN A SANDBOX (cutbox-door.mjs). By AI agents, Wed Nov 11 2026. No macro, syntax, notation, axiom, sorry.
-/
import Derived.Test.YtplbfhhacobghaaGreatDoorRows
import GoSem.ClaimSeven
namespace Go.Proofs.YtplbfhhacobghaaGreatDoor
namespace Rows

/-- THE TIED CARD OF 'litmuslaw22.EqualKnown'. -/
def equalKnownCard : Claim7 := { stood := { row := equalKnownRow, standIns := [], harness := (true, "542651474285ba9c3b2476212bb2e11e03c12d673da8270a6b560cf84a08254d"), looks := false }, kinds := [], alts := [], laidByText := true, laidKinds := [.data, .data, .data, .data, .pinned], laidTests := true, laidLooks := .later }
def EqualKnownCardSaid : Prop := Claim7.holds Tryz.pinned (.plain (OpenSpec.ofChange equalKnownSpec)) equalKnownCard

/-- THE SECOND FORM's CARD OF 'litmuslaw22.EqualKnown'. -/
def equalKnownUptoCard : Claim7 := { stood := { row := equalKnownUptoRow, standIns := [], harness := (true, "542651474285ba9c3b2476212bb2e11e03c12d673da8270a6b560cf84a08254d"), looks := false }, kinds := [], alts := [], laidByText := true, laidKinds := [.data, .data, .data, .data, .pinned], laidTests := true, laidLooks := .later }
def EqualKnownUptoCardSaid : Prop := Claim7.holds Tryz.pinned (.plain (OpenSpec.upto equalKnownSpec)) equalKnownUptoCard
end Rows
end Go.Proofs.YtplbfhhacobghaaGreatDoor
