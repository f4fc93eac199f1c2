import Derived.Test.YtnfejffknenkeaaGreatDoorPEnt
/- Part of the proof of ShareKnown. -/
namespace Go.Proofs
open Go Go.Eng
set_option maxRecDepth 1000000
noncomputable def TryzP.tab : List Entry := [TryzP.A1, TryzP.A2, TryzP.A3, TryzP.S1, TryzP.W]
theorem TryzP.main : outV (.bool true) (Tryz.ev TryzP.tab (.func (.func 3) #[] #[]) [] ⟨roomH .e, 0, 0⟩) = true := by kernel_rfl
end Go.Proofs
