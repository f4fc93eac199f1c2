import Derived.Test.YtiaiokablpndjaaGreatDoorPEnt
/- Part of the proof of ProofKnown. -/
namespace Go.Proofs
open Go Go.Eng
set_option maxRecDepth 1000000
noncomputable def TryzP.tab : List Entry := [TryzP.A0, TryzP.A4, TryzP.A1, TryzP.A3, TryzP.B1, TryzP.C1]
theorem TryzP.main : outV (.bool true) (Tryz.ev TryzP.tab (.func (.func 3) #[] #[]) [] ⟨roomH .e, 0, 0⟩) = true := by kernel_rfl
end Go.Proofs
