import Derived.Test.YtadepknkjjmcnaaGreatDoorPAll
import Derived.Test.YtadepknkjjmcnaaGreatDoorCard
/- ArrowKnown answers true, whatever the world in which it is called; its card, tied. Conditions: none beyond the row (the listed variables are as the card ties them). -/
namespace Go.Proofs.YtadepknkjjmcnaaGreatDoor
open Go.Eng Go.RowKit
set_option maxRecDepth 1000000
theorem arrowKnown_law (w : World) (hG : GWorld Tryz.prog w) : Calls Tryz.prog 3 #[] w fun e w' => e = .returned (.bool true) ∧ Below w.heap.size w w' :=
  (callsI_true TryzP.evOk Tryz.plainly Tryz.func3 rfl TryzP.rROOT w hG).mono fun _ _ ⟨he, hb, hs, ht, ho, hu⟩ => ⟨he, ho, ht, hu, hs, hb⟩
theorem arrowKnown_proved : Rows.ArrowKnownCardSaid := card_holds arrowKnown_law
#print axioms arrowKnown_proved
end Go.Proofs.YtadepknkjjmcnaaGreatDoor
