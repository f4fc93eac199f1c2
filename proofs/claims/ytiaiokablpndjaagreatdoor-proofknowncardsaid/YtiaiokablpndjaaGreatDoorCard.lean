import Derived.Test.YtiaiokablpndjaaGreatDoorCards
import Derived.Test.YtiaiokablpndjaaGreatDoorTie
import Derived.ProofKit
import Derived.Lay
import Derived.LaidOnce
import Derived.SevenTiedAt
import Derived.LaidMore
import Derived.LaidHandle
import Derived.OpenShut
import Derived.Stop.Joined
import Derived.Test.YtiaiokablpndjaaGreatDoorRow
import Derived.Test.YtiaiokablpndjaaGreatDoorFac
/- The card of ProofKnown, given that the call answers true and turns nothing that lay before it. -/
namespace Go.Proofs.YtiaiokablpndjaaGreatDoor
open Go.ChangeShapes Go.WideShapes Go.ChangeAt Go.RowKit
theorem card_holds (law : ∀ w : World, Go.Eng.GWorld Tryz.prog w → Calls Tryz.prog 3 #[] w fun e w' => e = .returned (.bool true) ∧ Below w.heap.size w w') : Rows.ProofKnownCardSaid :=
  Claim7.holds_tied_plain_at .later [] [.data, .data, .data, .data, .handle, .pinned] true (true, "b8c6eca47961c9e30ca24dd796d5ef44493ec671dbf93571e219ee242f40aca2") true (row_holds law) (fun _ h => by cases h) rowWf (fun _ h => by cases h) proofKnown_row_tie rfl ⟨rfl, rfl⟩ (by kernel_rfl) rfl
    (fun f fn hf hfn => by
      obtain rfl : f = 3 := Option.some.inj ((show Tryz.prog.funcNamed Tryz.f3.name = some 3 by kernel_rfl).symm.trans hf) |>.symm
      obtain rfl : fn = Tryz.f3 := (Option.some.inj (Tryz.func3.symm.trans hfn)).symm
      exact ⟨rowLooks, fun j t ht => by
        rw [Tryz.params3] at ht
        simp at ht⟩)
    rowGoes
end Go.Proofs.YtiaiokablpndjaaGreatDoor
