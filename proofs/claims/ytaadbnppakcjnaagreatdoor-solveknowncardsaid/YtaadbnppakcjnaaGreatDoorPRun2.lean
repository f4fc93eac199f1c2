import Derived.Test.YtaadbnppakcjnaaGreatDoorPEnt
/- Part of the proof of SolveKnown. -/
namespace Go.Proofs
open Go Go.Eng
set_option maxRecDepth 1000000
namespace TryzP
theorem rE15 : outIs E15 (Tryz.evT [E17] Tryz.preB (.func (.func E15.f) #[] #[]) E15.args ⟨roomH E15.hin, E15.nx, 0⟩) = true := by kernel_rfl
theorem rE23 : outIs E23 (Tryz.evT [] Tryz.preB (.func (.func E23.f) #[] #[]) E23.args ⟨roomH E23.hin, E23.nx, 0⟩) = true := by kernel_rfl
theorem rE24 : outIs E24 (Tryz.evT [] Tryz.preB (.func (.func E24.f) #[] #[]) E24.args ⟨roomH E24.hin, E24.nx, 0⟩) = true := by kernel_rfl
end TryzP
end Go.Proofs
