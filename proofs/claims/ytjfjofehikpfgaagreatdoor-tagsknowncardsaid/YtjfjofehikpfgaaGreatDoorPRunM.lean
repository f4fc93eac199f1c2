import Derived.Test.YtjfjofehikpfgaaGreatDoorPEnt
/- Part of the proof of TagsKnown. -/
namespace Go.Proofs
open Go Go.Eng
set_option maxRecDepth 1000000
noncomputable def TryzP.tab : List Entry := [TryzP.W, TryzP.A1, TryzP.A3, TryzP.A4, TryzP.A5]
theorem TryzP.main : outV (.bool true) (Tryz.ev TryzP.tab (.func (.func 3) #[] #[]) [] ⟨roomH .e, 0, 0⟩) = true := by kernel_rfl
end Go.Proofs
