import Derived.Test.YtnfejffknenkeaaGreatDoorCards
import Derived.Test.YtnfejffknenkeaaGreatDoorTie
import Derived.ProofKit
import Derived.Lay
import Derived.LaidOnce
import Derived.SevenTiedAt
import Derived.Test.YtnfejffknenkeaaGreatDoorRow
import Derived.Test.YtnfejffknenkeaaGreatDoorFac
/- The card of ShareKnown, given that the call answers true and turns nothing that lay before it. -/
namespace Go.Proofs.YtnfejffknenkeaaGreatDoor
open Go.ChangeShapes Go.WideShapes Go.ChangeAt Go.RowKit
theorem card_holds (law : ∀ w : World, Go.Eng.GWorld Tryz.prog w → Calls Tryz.prog 3 #[] w fun e w' => e = .returned (.bool true) ∧ Below w.heap.size w w') : Rows.ShareKnownCardSaid :=
  Claim7.holds_tied_plain_at .later [] [.data, .data, .data, .data, .pinned] true (true, "af9436baad148d3d9e915097835fe7ae92cd08b67f1cbbfbea2e731b957dc854") true (row_holds law) (fun _ h => by cases h) rowWf (fun _ h => by cases h) shareKnown_row_tie rfl ⟨rfl, rfl⟩ (by kernel_rfl) rfl
    (fun f fn hf hfn => by
      obtain rfl : f = 3 := Option.some.inj ((show Tryz.prog.funcNamed Tryz.f3.name = some 3 by kernel_rfl).symm.trans hf) |>.symm
      obtain rfl : fn = Tryz.f3 := (Option.some.inj (Tryz.func3.symm.trans hfn)).symm
      exact ⟨rowLooks, fun j t ht => by
        rw [Tryz.params3] at ht
        simp at ht⟩)
    rowGoes
end Go.Proofs.YtnfejffknenkeaaGreatDoor
