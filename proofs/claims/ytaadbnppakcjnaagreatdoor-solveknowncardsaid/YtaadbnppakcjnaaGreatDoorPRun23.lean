import Derived.Test.YtaadbnppakcjnaaGreatDoorPEnt
/- Part of the proof of SolveKnown. -/
namespace Go.Proofs
open Go Go.Eng
set_option maxRecDepth 1000000
namespace TryzP
theorem rE110 : outIs E110 (Tryz.evT [] Tryz.preB (.func (.func E110.f) #[] #[]) E110.args ⟨roomH E110.hin, E110.nx, 0⟩) = true := by kernel_rfl
theorem rE111 : outIs E111 (Tryz.evT [] Tryz.preB (.func (.func E111.f) #[] #[]) E111.args ⟨roomH E111.hin, E111.nx, 0⟩) = true := by kernel_rfl
theorem rE112 : outIs E112 (Tryz.evT [] Tryz.preB (.func (.func E112.f) #[] #[]) E112.args ⟨roomH E112.hin, E112.nx, 0⟩) = true := by kernel_rfl
end TryzP
end Go.Proofs
