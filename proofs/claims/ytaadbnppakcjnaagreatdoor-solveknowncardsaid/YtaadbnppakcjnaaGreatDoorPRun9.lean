import Derived.Test.YtaadbnppakcjnaaGreatDoorPEnt
/- Part of the proof of SolveKnown. -/
namespace Go.Proofs
open Go Go.Eng
set_option maxRecDepth 1000000
namespace TryzP
theorem rE53 : outIs E53 (Tryz.evT [] Tryz.preB (.func (.func E53.f) #[] #[]) E53.args ⟨roomH E53.hin, E53.nx, 0⟩) = true := by kernel_rfl
theorem rE47 : outIs E47 (Tryz.evT [E49, E53] Tryz.preB (.func (.func E47.f) #[] #[]) E47.args ⟨roomH E47.hin, E47.nx, 0⟩) = true := by kernel_rfl
theorem rE59 : outIs E59 (Tryz.evT [] Tryz.preB (.func (.func E59.f) #[] #[]) E59.args ⟨roomH E59.hin, E59.nx, 0⟩) = true := by kernel_rfl
end TryzP
end Go.Proofs
