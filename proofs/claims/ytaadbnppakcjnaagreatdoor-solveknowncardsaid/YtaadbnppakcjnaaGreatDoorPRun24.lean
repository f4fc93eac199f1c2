import Derived.Test.YtaadbnppakcjnaaGreatDoorPEnt
/- Part of the proof of SolveKnown. -/
namespace Go.Proofs
open Go Go.Eng
set_option maxRecDepth 1000000
namespace TryzP
theorem rE95 : outIs E95 (Tryz.evT [E97, E108, E110, E111, E112] Tryz.preB (.func (.func E95.f) #[] #[]) E95.args ⟨roomH E95.hin, E95.nx, 0⟩) = true := by kernel_rfl
theorem rE1 : outIs E1 (Tryz.evT [E2, E68, E95] Tryz.preB (.func (.func E1.f) #[] #[]) E1.args ⟨roomH E1.hin, E1.nx, 0⟩) = true := by kernel_rfl
theorem rROOT : PD (.bool true) (Tryz.evT [E1] Tryz.preB (.func (.func 3) #[] #[]) [] ⟨roomH .e, 0, 0⟩) = true := by kernel_rfl
end TryzP
end Go.Proofs
