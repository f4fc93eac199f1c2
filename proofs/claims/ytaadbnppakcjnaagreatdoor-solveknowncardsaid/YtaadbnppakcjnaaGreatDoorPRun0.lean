import Derived.Test.YtaadbnppakcjnaaGreatDoorPEnt
/- Part of the proof of SolveKnown. -/
namespace Go.Proofs
open Go Go.Eng
set_option maxRecDepth 1000000
namespace TryzP
theorem rE7 : outIs E7 (Tryz.evT [] Tryz.preB (.func (.func E7.f) #[] #[]) E7.args ⟨roomH E7.hin, E7.nx, 0⟩) = true := by kernel_rfl
theorem rE6 : outIs E6 (Tryz.evT [E7] Tryz.preB (.func (.func E6.f) #[] #[]) E6.args ⟨roomH E6.hin, E6.nx, 0⟩) = true := by kernel_rfl
theorem rE10 : outIs E10 (Tryz.evT [] Tryz.preB (.func (.func E10.f) #[] #[]) E10.args ⟨roomH E10.hin, E10.nx, 0⟩) = true := by kernel_rfl
end TryzP
end Go.Proofs
