import Derived.Test.YtnfejffknenkeaaGreatDoorPRunA
import Derived.Test.YtnfejffknenkeaaGreatDoorPRunB
import Derived.Test.YtnfejffknenkeaaGreatDoorPRunC
import Derived.Test.YtnfejffknenkeaaGreatDoorPRunM
import Derived.Test.YtnfejffknenkeaaGreatDoorCard
/- ShareKnown answers true, whatever the world in which it is called; its card, tied. Conditions: none beyond the row (the listed variables are as the card ties them). -/
namespace Go.Proofs
open Go.Eng
set_option maxRecDepth 1000000
theorem TryzP.all : ∀ e ∈ TryzP.tab, EntryOk Tryz.prog e := fun e h => by
  simp only [TryzP.tab, List.mem_cons, List.not_mem_nil, or_false] at h
  rcases h with rfl | rfl | rfl | rfl | rfl
  · exact TryzP.ok_A1
  · exact TryzP.ok_A2
  · exact TryzP.ok_A3
  · exact TryzP.ok_S1
  · exact TryzP.ok_W
end Go.Proofs
namespace Go.Proofs.YtnfejffknenkeaaGreatDoor
open Go.Eng Go.RowKit
set_option maxRecDepth 1000000
theorem shareKnown_law (w : World) (hG : GWorld Tryz.prog w) : Calls Tryz.prog 3 #[] w fun e w' => e = .returned (.bool true) ∧ Below w.heap.size w w' :=
  (callsI_true (Tryz.evOk TryzP.all) Tryz.plainly Tryz.func3 rfl TryzP.main w hG).mono fun e w' ⟨he, hb, hs, ht, ho, hu⟩ => ⟨he, ho, ht, hu, hs, hb⟩
theorem shareKnown_proved : Rows.ShareKnownCardSaid := card_holds shareKnown_law
#print axioms shareKnown_proved
end Go.Proofs.YtnfejffknenkeaaGreatDoor
