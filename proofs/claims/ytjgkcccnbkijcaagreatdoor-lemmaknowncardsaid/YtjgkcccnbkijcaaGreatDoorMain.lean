import Derived.Test.YtjgkcccnbkijcaaGreatDoorPRunA
import Derived.Test.YtjgkcccnbkijcaaGreatDoorPRunM
import Derived.Test.YtjgkcccnbkijcaaGreatDoorCard
/- LemmaKnown answers true, whatever the world in which it is called; its card, tied. Conditions: none beyond the row (the listed variables are as the card ties them). -/
namespace Go.Proofs
open Go.Eng
set_option maxRecDepth 1000000
theorem TryzP.all : ∀ e ∈ TryzP.tab, EntryOk Tryz.prog e := fun e h => by
  simp only [TryzP.tab, List.mem_cons, List.not_mem_nil, or_false] at h
  subst h
  exact TryzP.ok_W
end Go.Proofs
namespace Go.Proofs.YtjgkcccnbkijcaaGreatDoor
open Go.Eng Go.RowKit
set_option maxRecDepth 1000000
theorem lemmaKnown_law (w : World) (hG : GWorld Tryz.prog w) : Calls Tryz.prog 3 #[] w fun e w' => e = .returned (.bool true) ∧ Below w.heap.size w w' :=
  (callsI_true (Tryz.evOk TryzP.all) Tryz.plainly Tryz.func3 rfl TryzP.main w hG).mono fun e w' ⟨he, hb, hs, ht, ho, hu⟩ => ⟨he, ho, ht, hu, hs, hb⟩
theorem lemmaKnown_proved : Rows.LemmaKnownCardSaid := card_holds lemmaKnown_law
#print axioms lemmaKnown_proved
end Go.Proofs.YtjgkcccnbkijcaaGreatDoor
