import Derived.Test.YtaadbnppakcjnaaGreatDoorPEnt
/- Part of the proof of SolveKnown. -/
namespace Go.Proofs
open Go Go.Eng
set_option maxRecDepth 1000000
namespace TryzP
theorem rE82 : lOutIs E82 (fLoopT [] (loopF Tryz.prog Go.Eng.Tryz.X0 5 507) (Tryz.evT [] Tryz.preB) E82.tm ⟨roomH E82.hin, E82.nx, 0⟩) = true := by kernel_rfl
theorem rE70 : outIs E70 (Tryz.evT [E78] (Tryz.preL 5 507 [E82] (Tryz.preL 20 5 [E72] Tryz.preB)) (.func (.func E70.f) #[] #[]) E70.args ⟨roomH E70.hin, E70.nx, 0⟩) = true := by kernel_rfl
theorem rE87 : lOutIs E87 (fLoopT [] (loopF Tryz.prog Go.Eng.Tryz.X0 20 5) (Tryz.evT [] Tryz.preB) E87.tm ⟨roomH E87.hin, E87.nx, 0⟩) = true := by kernel_rfl
end TryzP
end Go.Proofs
