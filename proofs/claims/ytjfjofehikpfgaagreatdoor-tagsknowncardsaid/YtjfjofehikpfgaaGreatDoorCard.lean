import Derived.Test.YtjfjofehikpfgaaGreatDoorCards
import Derived.Test.YtjfjofehikpfgaaGreatDoorTie
import Derived.ProofKit
import Derived.Lay
import Derived.LaidOnce
import Derived.SevenTiedAt
import Derived.Test.YtjfjofehikpfgaaGreatDoorRow
import Derived.Test.YtjfjofehikpfgaaGreatDoorFac
/- The card of TagsKnown, given that the call answers true and turns nothing that lay before it. -/
namespace Go.Proofs.YtjfjofehikpfgaaGreatDoor
open Go.ChangeShapes Go.WideShapes Go.ChangeAt Go.RowKit
theorem card_holds (law : ∀ w : World, Go.Eng.GWorld Tryz.prog w → Calls Tryz.prog 3 #[] w fun e w' => e = .returned (.bool true) ∧ Below w.heap.size w w') : Rows.TagsKnownCardSaid :=
  Claim7.holds_tied_plain_at .later [] [.data, .data, .data, .data, .pinned] true (true, "5830db91621b7abfb4a248338dc6f522409d6a83185c4a90681d7f236c4017eb") false (row_holds law) (fun _ h => by cases h) rowWf (fun _ h => by cases h) tagsKnown_row_tie rfl ⟨rfl, rfl⟩ (by kernel_rfl) rfl
    (fun f fn hf hfn => by
      obtain rfl : f = 3 := Option.some.inj ((show Tryz.prog.funcNamed Tryz.f3.name = some 3 by kernel_rfl).symm.trans hf) |>.symm
      obtain rfl : fn = Tryz.f3 := (Option.some.inj (Tryz.func3.symm.trans hfn)).symm
      exact ⟨rowLooks, fun j t ht => by
        rw [Tryz.params3] at ht
        simp at ht⟩)
    rowGoes
end Go.Proofs.YtjfjofehikpfgaaGreatDoor
