import Derived.Test.YtaadbnppakcjnaaGreatDoorCards
import Derived.Test.YtaadbnppakcjnaaGreatDoorTie
import Derived.ProofKit
import Derived.Lay
import Derived.LaidOnce
import Derived.SevenTiedAt
import Derived.Test.YtaadbnppakcjnaaGreatDoorRow
import Derived.Test.YtaadbnppakcjnaaGreatDoorFac
/- The card of SolveKnown, given that the call answers true and turns nothing that lay before it. -/
namespace Go.Proofs.YtaadbnppakcjnaaGreatDoor
open Go.ChangeShapes Go.WideShapes Go.ChangeAt Go.RowKit
theorem card_holds (law : ∀ w : World, Go.Eng.GWorld Tryz.prog w → Calls Tryz.prog 3 #[] w fun e w' => e = .returned (.bool true) ∧ Below w.heap.size w w') : Rows.SolveKnownCardSaid :=
  Claim7.holds_tied_plain_at .later [] [.data, .data, .data, .data, .pinned] true (true, "491504245433f9eb2cbe8959432485b64bcb63c45d21540b2c3405381ec777e0") true (row_holds law) (fun _ h => by cases h) rowWf (fun _ h => by cases h) solveKnown_row_tie rfl ⟨rfl, rfl⟩ (by kernel_rfl) rfl
    (fun f fn hf hfn => by
      obtain rfl : f = 3 := Option.some.inj ((show Tryz.prog.funcNamed Tryz.f3.name = some 3 by kernel_rfl).symm.trans hf) |>.symm
      obtain rfl : fn = Tryz.f3 := (Option.some.inj (Tryz.func3.symm.trans hfn)).symm
      exact ⟨rowLooks, fun j t ht => by
        rw [Tryz.params3] at ht
        simp at ht⟩)
    rowGoes
end Go.Proofs.YtaadbnppakcjnaaGreatDoor
