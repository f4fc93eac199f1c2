/-
  DERIVED. GIVEN WITH THE SEED: THE CARDS: each row of YtlbdbieoodakeaaGreatDoorRows.lean that lists a variable, with what it lists TIED to the program's text (the seventh form; the later family's looks); each row that meets fmt, with fmt's text TOLD by the authors' own Lean function (tested against real Go, not proved from fmt's source: count such statements apart). THE CARD IS WHAT COUNTS. Prove the row's statement (the work); the ties are given (YtlbdbieoodakeaaGreatDoorTie.lean); close each card by the builder's one call (the guide's Derived/Test/ToyasCard.lean, 'card_holds'). Laid BY PROGRAM, IN A SANDBOX (cutbox-door.mjs). By AI agents, Wed Nov 11 2026. No macro, syntax, notation, axiom, sorry.
-/
import Derived.Test.YtlbdbieoodakeaaGreatDoorRows
import GoSem.ClaimSeven
namespace Go.Proofs.YtlbdbieoodakeaaGreatDoor
namespace Rows

/-- THE TIED CARD OF 'litmuslaw24.FarkasKnown'. -/
def farkasKnownCard : Claim7 := { stood := { row := farkasKnownRow, standIns := [], harness := (true, "4af1d062fdfb58af45745d210123e42861bb55834f99331d7400549f74da24e8"), looks := false }, kinds := [], alts := [], laidByText := true, laidKinds := [.data, .data, .data, .data, .pinned], laidTests := true, laidLooks := .later }
def FarkasKnownCardSaid : Prop := Claim7.holds Tryz.pinned (.plain (OpenSpec.ofChange farkasKnownSpec)) farkasKnownCard

/-- THE SECOND FORM's CARD OF 'litmuslaw24.FarkasKnown'. -/
def farkasKnownUptoCard : Claim7 := { stood := { row := farkasKnownUptoRow, standIns := [], harness := (true, "4af1d062fdfb58af45745d210123e42861bb55834f99331d7400549f74da24e8"), looks := false }, kinds := [], alts := [], laidByText := true, laidKinds := [.data, .data, .data, .data, .pinned], laidTests := true, laidLooks := .later }
def FarkasKnownUptoCardSaid : Prop := Claim7.holds Tryz.pinned (.plain (OpenSpec.upto farkasKnownSpec)) farkasKnownUptoCard
end Rows
end Go.Proofs.YtlbdbieoodakeaaGreatDoor
