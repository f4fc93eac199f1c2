import Derived.Test.YtaadbnppakcjnaaGreatDoorPEnt
/- Part of the proof of SolveKnown. -/
namespace Go.Proofs
open Go Go.Eng
set_option maxRecDepth 1000000
namespace TryzP
theorem rE99 : lOutIs E99 (fLoopT [E100] (loopF Tryz.prog Go.Eng.Tryz.X0 5 507) (Tryz.evT [] Tryz.preB) E99.tm ⟨roomH E99.hin, E99.nx, 0⟩) = true := by kernel_rfl
theorem rE98 : lOutIs E98 (fLoopT [E99] (loopF Tryz.prog Go.Eng.Tryz.X0 5 507) (Tryz.evT [] Tryz.preB) E98.tm ⟨roomH E98.hin, E98.nx, 0⟩) = true := by kernel_rfl
theorem rE103 : lOutIs E103 (fLoopT [] (loopF Tryz.prog Go.Eng.Tryz.X0 20 5) (Tryz.evT [] Tryz.preB) E103.tm ⟨roomH E103.hin, E103.nx, 0⟩) = true := by kernel_rfl
end TryzP
end Go.Proofs
