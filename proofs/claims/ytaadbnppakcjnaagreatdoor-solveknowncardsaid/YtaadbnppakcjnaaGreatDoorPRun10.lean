import Derived.Test.YtaadbnppakcjnaaGreatDoorPEnt
/- Part of the proof of SolveKnown. -/
namespace Go.Proofs
open Go Go.Eng
set_option maxRecDepth 1000000
namespace TryzP
theorem rE56 : lOutIs E56 (fLoopT [] (loopF Tryz.prog Go.Eng.Tryz.X0 5 507) (Tryz.evT [E59] Tryz.preB) E56.tm ⟨roomH E56.hin, E56.nx, 0⟩) = true := by kernel_rfl
theorem rE55 : outIs E55 (Tryz.evT [] (Tryz.preL 5 507 [E56] Tryz.preB) (.func (.func E55.f) #[] #[]) E55.args ⟨roomH E55.hin, E55.nx, 0⟩) = true := by kernel_rfl
theorem rE65 : outIs E65 (Tryz.evT [] Tryz.preB (.func (.func E65.f) #[] #[]) E65.args ⟨roomH E65.hin, E65.nx, 0⟩) = true := by kernel_rfl
end TryzP
end Go.Proofs
