import Derived.Test.YtadepknkjjmcnaaGreatDoorCards
import Derived.Test.YtadepknkjjmcnaaGreatDoorTies
import Derived.ProofKit
import Derived.Lay
import Derived.LaidOnce
import Derived.SevenTiedAt
import Derived.LaidMore
import Derived.LaidHandle
import Derived.OpenShut
import Derived.Stop.Joined
import Derived.Test.YtadepknkjjmcnaaGreatDoorRow
import Derived.Test.YtadepknkjjmcnaaGreatDoorFac
/- The card of ArrowKnown, given that the call answers true. -/
namespace Go.Proofs.YtadepknkjjmcnaaGreatDoor
open Go.ChangeShapes Go.WideShapes Go.ChangeAt Go.RowKit
theorem card_holds (law : ∀ w : World, Go.Eng.GWorld Tryz.prog w → Calls Tryz.prog 3 #[] w fun e w' => e = .returned (.bool true) ∧ Below w.heap.size w w') : Rows.ArrowKnownCardSaid :=
  Claim7.holds_tied_plain_at .later [] [.pinned, .data, .data, .data, .data, .handle] true (true, "0e34f400dbd2c175ca2ea87450dc4981f40eec5a243c8eec21f9c56ac10df36c") true (row_holds law) (fun _ h => by cases h) rowWf (fun _ h => by cases h) arrowKnown_row_tie rfl ⟨rfl, rfl⟩ (by kernel_rfl) rfl
    (fun f fn hf hfn => by
      obtain rfl : f = 3 := Option.some.inj ((show Tryz.prog.funcNamed Tryz.f3.name = some 3 by kernel_rfl).symm.trans hf) |>.symm
      obtain rfl : fn = Tryz.f3 := (Option.some.inj (Tryz.func3.symm.trans hfn)).symm
      exact ⟨rowLooks, fun j t ht => by
        rw [Tryz.params3] at ht
        simp at ht⟩)
    rowGoes
end Go.Proofs.YtadepknkjjmcnaaGreatDoor
