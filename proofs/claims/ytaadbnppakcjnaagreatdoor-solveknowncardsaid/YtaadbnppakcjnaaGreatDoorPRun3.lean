import Derived.Test.YtaadbnppakcjnaaGreatDoorPEnt
/- Part of the proof of SolveKnown. -/
namespace Go.Proofs
open Go Go.Eng
set_option maxRecDepth 1000000
namespace TryzP
theorem rE20 : outIs E20 (Tryz.evT [E23, E24] Tryz.preB (.func (.func E20.f) #[] #[]) E20.args ⟨roomH E20.hin, E20.nx, 0⟩) = true := by kernel_rfl
theorem rE19 : outIs E19 (Tryz.evT [E20] Tryz.preB (.func (.func E19.f) #[] #[]) E19.args ⟨roomH E19.hin, E19.nx, 0⟩) = true := by kernel_rfl
theorem rE27 : outIs E27 (Tryz.evT [] Tryz.preB (.func (.func E27.f) #[] #[]) E27.args ⟨roomH E27.hin, E27.nx, 0⟩) = true := by kernel_rfl
end TryzP
end Go.Proofs
