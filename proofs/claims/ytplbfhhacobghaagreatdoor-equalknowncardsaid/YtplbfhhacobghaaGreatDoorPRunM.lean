import Derived.Test.YtplbfhhacobghaaGreatDoorPEnt
/- Part of the proof of EqualKnown. -/
namespace Go.Proofs
open Go.Eng
set_option maxRecDepth 1000000
noncomputable def TryzP.tab : List Entry := [TryzP.W, TryzP.D1, TryzP.D2, TryzP.D3, TryzP.D4, TryzP.D5, TryzP.K0, TryzP.K1, TryzP.A1, TryzP.A2, TryzP.A3, TryzP.A4, TryzP.A5, TryzP.A6, TryzP.A7, TryzP.A8, TryzP.A9, TryzP.A10, TryzP.A11, TryzP.A12, TryzP.A13, TryzP.A14, TryzP.A15, TryzP.A16, TryzP.A17, TryzP.A18, TryzP.A19, TryzP.A20, TryzP.A21]
theorem TryzP.main : outV (.bool true) (eval Tryz.prog (Go.Eng.Tryz.mkX TryzP.tab) 200 (.func (.func 3) #[] #[]) [] ⟨roomH .e, 0, 0⟩) = true := by kernel_rfl
end Go.Proofs
