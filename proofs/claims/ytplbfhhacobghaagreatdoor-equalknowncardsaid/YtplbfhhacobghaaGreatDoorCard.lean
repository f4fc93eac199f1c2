import Derived.Test.YtplbfhhacobghaaGreatDoorCards
import Derived.Test.YtplbfhhacobghaaGreatDoorTie
import Derived.ProofKit
import Derived.Lay
import Derived.LaidOnce
import Derived.SevenTiedAt
import Derived.Test.YtplbfhhacobghaaGreatDoorRow
import Derived.Test.YtplbfhhacobghaaGreatDoorFac
/- The card of EqualKnown, given that the call answers true and turns nothing that lay before it. -/
namespace Go.Proofs.YtplbfhhacobghaaGreatDoor
open Go.ChangeShapes Go.WideShapes Go.ChangeAt Go.RowKit
theorem card_holds (law : ∀ w : World, Go.Eng.GWorld Tryz.prog w → Calls Tryz.prog 3 #[] w fun e w' => e = .returned (.bool true) ∧ Below w.heap.size w w') : Rows.EqualKnownCardSaid :=
  Claim7.holds_tied_plain_at .later [] [.data, .data, .data, .data, .pinned] true (true, "542651474285ba9c3b2476212bb2e11e03c12d673da8270a6b560cf84a08254d") false (row_holds law) (fun _ h => by cases h) rowWf (fun _ h => by cases h) equalKnown_row_tie rfl ⟨rfl, rfl⟩ (by kernel_rfl) rfl
    (fun f fn hf hfn => by
      obtain rfl : f = 3 := Option.some.inj ((show Tryz.prog.funcNamed Tryz.f3.name = some 3 by kernel_rfl).symm.trans hf) |>.symm
      obtain rfl : fn = Tryz.f3 := (Option.some.inj (Tryz.func3.symm.trans hfn)).symm
      exact ⟨rowLooks, fun j t ht => by
        rw [Tryz.params3] at ht
        simp at ht⟩)
    rowGoes
end Go.Proofs.YtplbfhhacobghaaGreatDoor
