import Derived.Test.YtaadbnppakcjnaaGreatDoorPAll
import Derived.Test.YtaadbnppakcjnaaGreatDoorCard
/- SolveKnown answers true, whatever the world in which it is called; its card, tied. Conditions: none beyond the row (the listed variables are as the card ties them). -/
namespace Go.Proofs.YtaadbnppakcjnaaGreatDoor
open Go.Eng Go.RowKit
set_option maxRecDepth 1000000
theorem solveKnown_law (w : World) (hG : GWorld Tryz.prog w) : Calls Tryz.prog 3 #[] w fun e w' => e = .returned (.bool true) ∧ Below w.heap.size w w' :=
  (callsI_true TryzP.evOk Tryz.plainly Tryz.func3 rfl TryzP.rROOT w hG).mono fun _ _ ⟨he, hb, hs, ht, ho, hu⟩ => ⟨he, ho, ht, hu, hs, hb⟩
theorem solveKnown_proved : Rows.SolveKnownCardSaid := card_holds solveKnown_law
#print axioms solveKnown_proved
end Go.Proofs.YtaadbnppakcjnaaGreatDoor
