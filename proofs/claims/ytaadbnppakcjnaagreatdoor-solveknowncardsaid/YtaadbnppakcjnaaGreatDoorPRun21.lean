import Derived.Test.YtaadbnppakcjnaaGreatDoorPEnt
/- Part of the proof of SolveKnown. -/
namespace Go.Proofs
open Go Go.Eng
set_option maxRecDepth 1000000
namespace TryzP
theorem rE102 : lOutIs E102 (fLoopT [E103] (loopF Tryz.prog Go.Eng.Tryz.X0 20 5) (Tryz.evT [] Tryz.preB) E102.tm ⟨roomH E102.hin, E102.nx, 0⟩) = true := by kernel_rfl
theorem rE106 : lOutIs E106 (fLoopT [] (loopF Tryz.prog Go.Eng.Tryz.X0 22 249) (Tryz.evT [] Tryz.preB) E106.tm ⟨roomH E106.hin, E106.nx, 0⟩) = true := by kernel_rfl
theorem rE105 : lOutIs E105 (fLoopT [E106] (loopF Tryz.prog Go.Eng.Tryz.X0 22 249) (Tryz.evT [] Tryz.preB) E105.tm ⟨roomH E105.hin, E105.nx, 0⟩) = true := by kernel_rfl
end TryzP
end Go.Proofs
