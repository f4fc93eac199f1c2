import Derived.Test.YtiaiokablpndjaaGreatDoorPRunA
import Derived.Test.YtiaiokablpndjaaGreatDoorPRunB
import Derived.Test.YtiaiokablpndjaaGreatDoorPRunC
import Derived.Test.YtiaiokablpndjaaGreatDoorPRunM
import Derived.Test.YtiaiokablpndjaaGreatDoorCard
/- ProofKnown answers true, whatever the world in which it is called; its card, tied. Conditions: none beyond the row (the listed variables are as the card ties them). -/
namespace Go.Proofs
open Go.Eng
set_option maxRecDepth 1000000
theorem TryzP.all : ∀ e ∈ TryzP.tab, EntryOk Tryz.prog e := fun e h => by
  simp only [TryzP.tab, List.mem_cons, List.not_mem_nil, or_false] at h
  rcases h with rfl | rfl | rfl | rfl | rfl | rfl
  · exact TryzP.ok_A0
  · exact TryzP.ok_A4
  · exact TryzP.ok_A1
  · exact TryzP.ok_A3
  · exact TryzP.ok_B1
  · exact TryzP.ok_C1
end Go.Proofs
namespace Go.Proofs.YtiaiokablpndjaaGreatDoor
open Go.Eng Go.RowKit
set_option maxRecDepth 1000000
theorem proofKnown_law (w : World) (hG : GWorld Tryz.prog w) : Calls Tryz.prog 3 #[] w fun e w' => e = .returned (.bool true) ∧ Below w.heap.size w w' :=
  (callsI_true (Tryz.evOk TryzP.all) Tryz.plainly Tryz.func3 rfl TryzP.main w hG).mono fun e w' ⟨he, hb, hs, ht, ho, hu⟩ => ⟨he, ho, ht, hu, hs, hb⟩
theorem proofKnown_proved : Rows.ProofKnownCardSaid := card_holds proofKnown_law
#print axioms proofKnown_proved
end Go.Proofs.YtiaiokablpndjaaGreatDoor
