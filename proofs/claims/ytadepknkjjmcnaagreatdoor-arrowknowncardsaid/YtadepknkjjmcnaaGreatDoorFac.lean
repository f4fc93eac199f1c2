import Derived.Test.YtadepknkjjmcnaaGreatDoorCards
import Derived.Test.YtadepknkjjmcnaaGreatDoorTies
import Derived.Test.YtadepknkjjmcnaaGreatDoorFacB
import Derived.ProofKit
import Derived.JoinedOf
import Derived.SevenTiedAt
/- Part of the proof. -/
namespace Go.Proofs.YtadepknkjjmcnaaGreatDoor
open Go
set_option maxRecDepth 100000
theorem fac1 : (Rows.arrowKnownRow.inPlace == Tryz.prog.inPlace 3) = true := by kernel_rfl
theorem fac2 : (Rows.arrowKnownRow.unfollowed == Tryz.prog.unfollowed 3) = true := by kernel_rfl
theorem fac3 : (Rows.arrowKnownRow.recurses == Tryz.prog.recurses 3) = true := by kernel_rfl
theorem fac5 : Tryz.prog.stopsHeard = true := by kernel_rfl
theorem fac6 : Tryz.prog.mayEnter = true := by kernel_rfl
theorem fac7 : laidOutB Tryz.prog = true := by kernel_rfl
theorem fac8 : mapsRowed Tryz.prog = true := by kernel_rfl
theorem fac9 : (Rows.arrowKnownRow.lifted == Tryz.prog.liftsFinal) = true := by kernel_rfl
theorem rowClosed : joinedFacts Tryz.prog 3 Tryz.f3 Rows.arrowKnownSpec Rows.arrowKnownRow = true := by
  unfold joinedFacts
  rw [fac1, fac2, fac3, fac4, fac5, fac6, fac7, fac8, fac9]
  kernel_rfl
theorem rowWf : Rows.arrowKnownRow.wfByText (OpenSpec.ofChange Rows.arrowKnownSpec) = true := by kernel_rfl
theorem rowLooks : true = Tryz.prog.looks [] := by kernel_rfl
theorem noGo : Tryz.prog.funcs.any Func.goes = false := by kernel_rfl
theorem noGoes (f : FuncId) : Tryz.prog.goes f = false := by
  have h1 : ∀ g : FuncId, (Tryz.prog.funcs[g]?).any Func.goes = false := fun g => by
    cases hg : Tryz.prog.funcs[g]? with
    | none => rfl
    | some fn =>
      obtain ⟨hlt, he⟩ := Array.getElem?_eq_some_iff.1 hg
      have := Array.any_eq_false.1 noGo g hlt
      rw [he] at this
      simpa using this
  unfold Program.goes
  rw [noGo, Bool.and_false, Bool.or_false, List.any_eq_false]
  exact fun g _ h => by rw [h1 g] at h; cases h
theorem rowGoes : false = Rows.arrowKnownRow.goesBy Tryz.prog := by
  have h1 : ∀ o : Option FuncId, o.any Tryz.prog.goes = false := fun o => by cases o <;> simp [noGoes]
  have h2 : ∀ l : List FuncId, l.any Tryz.prog.goes = false := fun l => by rw [List.any_eq_false]; exact fun g _ h => by rw [noGoes] at h; cases h
  unfold OpenClaim.goesBy Program.goesAt Program.goesFrom
  rw [h1, h2]
  split <;> rfl
end Go.Proofs.YtadepknkjjmcnaaGreatDoor
