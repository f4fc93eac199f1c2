import Derived.Test.YtaadbnppakcjnaaGreatDoorPEnt
/- Part of the proof of SolveKnown. -/
namespace Go.Proofs
open Go Go.Eng
set_option maxRecDepth 1000000
namespace TryzP
theorem rE92 : outIs E92 (Tryz.evT [E93] Tryz.preB (.func (.func E92.f) #[] #[]) E92.args ⟨roomH E92.hin, E92.nx, 0⟩) = true := by kernel_rfl
theorem rE68 : outIs E68 (Tryz.evT [E70, E84, E92] Tryz.preB (.func (.func E68.f) #[] #[]) E68.args ⟨roomH E68.hin, E68.nx, 0⟩) = true := by kernel_rfl
theorem rE100 : lOutIs E100 (fLoopT [] (loopF Tryz.prog Go.Eng.Tryz.X0 5 507) (Tryz.evT [] Tryz.preB) E100.tm ⟨roomH E100.hin, E100.nx, 0⟩) = true := by kernel_rfl
end TryzP
end Go.Proofs
