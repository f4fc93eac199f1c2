import Derived.Test.YtaadbnppakcjnaaGreatDoorPEnt
/- Part of the proof of SolveKnown. -/
namespace Go.Proofs
open Go Go.Eng
set_option maxRecDepth 1000000
namespace TryzP
theorem rE33 : outIs E33 (Tryz.evT [] Tryz.preB (.func (.func E33.f) #[] #[]) E33.args ⟨roomH E33.hin, E33.nx, 0⟩) = true := by kernel_rfl
theorem rE3 : outIs E3 (Tryz.evT [E6, E10, E12, E15, E19, E26, E30, E32, E33] Tryz.preB (.func (.func E3.f) #[] #[]) E3.args ⟨roomH E3.hin, E3.nx, 0⟩) = true := by kernel_rfl
theorem rE38 : outIs E38 (Tryz.evT [] Tryz.preB (.func (.func E38.f) #[] #[]) E38.args ⟨roomH E38.hin, E38.nx, 0⟩) = true := by kernel_rfl
end TryzP
end Go.Proofs
