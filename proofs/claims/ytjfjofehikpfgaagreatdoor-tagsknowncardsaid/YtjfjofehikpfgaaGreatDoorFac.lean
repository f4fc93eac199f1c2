import Derived.Test.YtjfjofehikpfgaaGreatDoorCards
import Derived.Test.YtjfjofehikpfgaaGreatDoorTie
import Derived.ProofKit
import Derived.JoinedOf
import Derived.SevenTiedAt
/- Part of the proof of TagsKnown. -/
namespace Go.Proofs.YtjfjofehikpfgaaGreatDoor
open Go
set_option maxRecDepth 100000
theorem fac1 : (Rows.tagsKnownRow.inPlace == Tryz.prog.inPlace 3) = true := by kernel_rfl
theorem fac2 : (Rows.tagsKnownRow.unfollowed == Tryz.prog.unfollowed 3) = true := by kernel_rfl
theorem fac3 : (Rows.tagsKnownRow.recurses == Tryz.prog.recurses 3) = true := by kernel_rfl
theorem fac4 : (Rows.tagsKnownRow.named == Tryz.prog.varsNamed 3) = true := by kernel_rfl
theorem fac5 : Tryz.prog.stopsHeard = true := by kernel_rfl
theorem fac6 : Tryz.prog.mayEnter = true := by kernel_rfl
theorem fac7 : laidOutB Tryz.prog = true := by kernel_rfl
theorem fac8 : mapsRowed Tryz.prog = true := by kernel_rfl
theorem fac9 : (Rows.tagsKnownRow.lifted == Tryz.prog.liftsFinal) = true := by kernel_rfl
theorem rowClosed : joinedFacts Tryz.prog 3 Tryz.f3 Rows.tagsKnownSpec Rows.tagsKnownRow = true := by
  unfold joinedFacts
  rw [fac1, fac2, fac3, fac4, fac5, fac6, fac7, fac8, fac9]
  kernel_rfl
theorem rowWf : Rows.tagsKnownRow.wfByText (OpenSpec.ofChange Rows.tagsKnownSpec) = true := by kernel_rfl
theorem rowLooks : false = Tryz.prog.looks [] := by kernel_rfl
theorem rowGoes : false = Rows.tagsKnownRow.goesBy Tryz.prog := by kernel_rfl
end Go.Proofs.YtjfjofehikpfgaaGreatDoor
