import Derived.Test.YtplbfhhacobghaaGreatDoorPRunA
import Derived.Test.YtplbfhhacobghaaGreatDoorPRunB
import Derived.Test.YtplbfhhacobghaaGreatDoorPRunC
import Derived.Test.YtplbfhhacobghaaGreatDoorPRunM
import Derived.Test.YtplbfhhacobghaaGreatDoorRow
/- EqualKnown answers true, whatever the world in which it is called; its card, tied. Conditions: none beyond the row (the listed variables are as the card ties them). -/
namespace Go.Proofs
open Go.Eng
set_option maxRecDepth 1000000
theorem TryzP.all : ∀ e ∈ TryzP.tab, EntryOk Tryz.prog e := fun e h => by
  simp only [TryzP.tab, List.mem_cons, List.not_mem_nil, or_false] at h
  rcases h with rfl | rfl | rfl | rfl | rfl | rfl | rfl | rfl | rfl | rfl | rfl | rfl | rfl | rfl | rfl | rfl | rfl | rfl | rfl | rfl | rfl | rfl | rfl | rfl | rfl | rfl | rfl | rfl | rfl
  · exact TryzP.ok_W
  · exact TryzP.ok_D1
  · exact TryzP.ok_D2
  · exact TryzP.ok_D3
  · exact TryzP.ok_D4
  · exact TryzP.ok_D5
  · exact TryzP.ok_K0
  · exact TryzP.ok_K1
  · exact TryzP.ok_A1
  · exact TryzP.ok_A2
  · exact TryzP.ok_A3
  · exact TryzP.ok_A4
  · exact TryzP.ok_A5
  · exact TryzP.ok_A6
  · exact TryzP.ok_A7
  · exact TryzP.ok_A8
  · exact TryzP.ok_A9
  · exact TryzP.ok_A10
  · exact TryzP.ok_A11
  · exact TryzP.ok_A12
  · exact TryzP.ok_A13
  · exact TryzP.ok_A14
  · exact TryzP.ok_A15
  · exact TryzP.ok_A16
  · exact TryzP.ok_A17
  · exact TryzP.ok_A18
  · exact TryzP.ok_A19
  · exact TryzP.ok_A20
  · exact TryzP.ok_A21
end Go.Proofs
namespace Go.Proofs.YtplbfhhacobghaaGreatDoor
open Go.Eng Go.RowKit
set_option maxRecDepth 1000000
theorem equalKnown_law (w : World) : Calls Tryz.prog 3 #[] w fun e w' => e = .returned (.bool true) ∧ Below w.heap.size w w' :=
  (calls_true (Tryz.cfgOk TryzP.all) Tryz.func3 rfl TryzP.main w).mono fun e w' ⟨he, hb, hs, ht, ho, hu⟩ => ⟨he, ho, ht, hu, hs, hb⟩
theorem equalKnown_proved : Rows.EqualKnownCardSaid := card_holds equalKnown_law
#print axioms equalKnown_proved
end Go.Proofs.YtplbfhhacobghaaGreatDoor
