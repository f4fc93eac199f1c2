import Derived.Test.YtaadbnppakcjnaaGreatDoorPEnt
/- Part of the proof of SolveKnown. -/
namespace Go.Proofs
open Go Go.Eng
set_option maxRecDepth 1000000
namespace TryzP
theorem rE88 : outIs E88 (Tryz.evT [] (Tryz.preL 22 249 [E89] Tryz.preB) (.func (.func E88.f) #[] #[]) E88.args ⟨roomH E88.hin, E88.nx, 0⟩) = true := by kernel_rfl
theorem rE84 : outIs E84 (Tryz.evT [E88] (Tryz.preL 20 5 [E86] Tryz.preB) (.func (.func E84.f) #[] #[]) E84.args ⟨roomH E84.hin, E84.nx, 0⟩) = true := by kernel_rfl
theorem rE93 : outIs E93 (Tryz.evT [] Tryz.preB (.func (.func E93.f) #[] #[]) E93.args ⟨roomH E93.hin, E93.nx, 0⟩) = true := by kernel_rfl
end TryzP
end Go.Proofs
