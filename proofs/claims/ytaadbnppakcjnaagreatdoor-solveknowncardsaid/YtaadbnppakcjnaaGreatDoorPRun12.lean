import Derived.Test.YtaadbnppakcjnaaGreatDoorPEnt
/- Part of the proof of SolveKnown. -/
namespace Go.Proofs
open Go Go.Eng
set_option maxRecDepth 1000000
namespace TryzP
theorem rE67 : outIs E67 (Tryz.evT [] Tryz.preB (.func (.func E67.f) #[] #[]) E67.args ⟨roomH E67.hin, E67.nx, 0⟩) = true := by kernel_rfl
theorem rE2 : outIs E2 (Tryz.evT [E3, E35, E47, E55, E62, E67] Tryz.preB (.func (.func E2.f) #[] #[]) E2.args ⟨roomH E2.hin, E2.nx, 0⟩) = true := by kernel_rfl
theorem rE77 : lOutIs E77 (fLoopT [] (loopF Tryz.prog Go.Eng.Tryz.X0 20 5) (Tryz.evT [] Tryz.preB) E77.tm ⟨roomH E77.hin, E77.nx, 0⟩) = true := by kernel_rfl
end TryzP
end Go.Proofs
