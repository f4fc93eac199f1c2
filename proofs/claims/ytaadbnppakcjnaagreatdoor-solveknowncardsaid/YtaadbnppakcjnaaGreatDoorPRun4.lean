import Derived.Test.YtaadbnppakcjnaaGreatDoorPEnt
/- Part of the proof of SolveKnown. -/
namespace Go.Proofs
open Go Go.Eng
set_option maxRecDepth 1000000
namespace TryzP
theorem rE26 : outIs E26 (Tryz.evT [E27] Tryz.preB (.func (.func E26.f) #[] #[]) E26.args ⟨roomH E26.hin, E26.nx, 0⟩) = true := by kernel_rfl
theorem rE30 : outIs E30 (Tryz.evT [] Tryz.preB (.func (.func E30.f) #[] #[]) E30.args ⟨roomH E30.hin, E30.nx, 0⟩) = true := by kernel_rfl
theorem rE32 : outIs E32 (Tryz.evT [] Tryz.preB (.func (.func E32.f) #[] #[]) E32.args ⟨roomH E32.hin, E32.nx, 0⟩) = true := by kernel_rfl
end TryzP
end Go.Proofs
