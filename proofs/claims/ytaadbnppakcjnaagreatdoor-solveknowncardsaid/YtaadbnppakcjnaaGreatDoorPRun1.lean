import Derived.Test.YtaadbnppakcjnaaGreatDoorPEnt
/- Part of the proof of SolveKnown. -/
namespace Go.Proofs
open Go Go.Eng
set_option maxRecDepth 1000000
namespace TryzP
theorem rE13 : outIs E13 (Tryz.evT [] Tryz.preB (.func (.func E13.f) #[] #[]) E13.args ⟨roomH E13.hin, E13.nx, 0⟩) = true := by kernel_rfl
theorem rE12 : outIs E12 (Tryz.evT [E13] Tryz.preB (.func (.func E12.f) #[] #[]) E12.args ⟨roomH E12.hin, E12.nx, 0⟩) = true := by kernel_rfl
theorem rE17 : outIs E17 (Tryz.evT [] Tryz.preB (.func (.func E17.f) #[] #[]) E17.args ⟨roomH E17.hin, E17.nx, 0⟩) = true := by kernel_rfl
end TryzP
end Go.Proofs
