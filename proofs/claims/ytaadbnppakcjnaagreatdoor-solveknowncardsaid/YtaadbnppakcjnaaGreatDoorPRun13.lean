import Derived.Test.YtaadbnppakcjnaaGreatDoorPEnt
/- Part of the proof of SolveKnown. -/
namespace Go.Proofs
open Go Go.Eng
set_option maxRecDepth 1000000
namespace TryzP
theorem rE76 : lOutIs E76 (fLoopT [E77] (loopF Tryz.prog Go.Eng.Tryz.X0 20 5) (Tryz.evT [] Tryz.preB) E76.tm ⟨roomH E76.hin, E76.nx, 0⟩) = true := by kernel_rfl
theorem rE75 : lOutIs E75 (fLoopT [E76] (loopF Tryz.prog Go.Eng.Tryz.X0 20 5) (Tryz.evT [] Tryz.preB) E75.tm ⟨roomH E75.hin, E75.nx, 0⟩) = true := by kernel_rfl
theorem rE74 : lOutIs E74 (fLoopT [E75] (loopF Tryz.prog Go.Eng.Tryz.X0 20 5) (Tryz.evT [] Tryz.preB) E74.tm ⟨roomH E74.hin, E74.nx, 0⟩) = true := by kernel_rfl
end TryzP
end Go.Proofs
