import Derived.Test.YtaadbnppakcjnaaGreatDoorPEnt
/- Part of the proof of SolveKnown. -/
namespace Go.Proofs
open Go Go.Eng
set_option maxRecDepth 1000000
namespace TryzP
theorem rE64 : outIs E64 (Tryz.evT [E65] Tryz.preB (.func (.func E64.f) #[] #[]) E64.args ⟨roomH E64.hin, E64.nx, 0⟩) = true := by kernel_rfl
theorem rE66 : outIs E66 (Tryz.evT [] Tryz.preB (.func (.func E66.f) #[] #[]) E66.args ⟨roomH E66.hin, E66.nx, 0⟩) = true := by kernel_rfl
theorem rE62 : outIs E62 (Tryz.evT [E64, E66] Tryz.preB (.func (.func E62.f) #[] #[]) E62.args ⟨roomH E62.hin, E62.nx, 0⟩) = true := by kernel_rfl
end TryzP
end Go.Proofs
