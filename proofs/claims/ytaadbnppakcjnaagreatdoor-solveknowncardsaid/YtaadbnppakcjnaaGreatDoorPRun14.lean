import Derived.Test.YtaadbnppakcjnaaGreatDoorPEnt
/- Part of the proof of SolveKnown. -/
namespace Go.Proofs
open Go Go.Eng
set_option maxRecDepth 1000000
namespace TryzP
theorem rE73 : lOutIs E73 (fLoopT [E74] (loopF Tryz.prog Go.Eng.Tryz.X0 20 5) (Tryz.evT [] Tryz.preB) E73.tm ⟨roomH E73.hin, E73.nx, 0⟩) = true := by kernel_rfl
theorem rE72 : lOutIs E72 (fLoopT [E73] (loopF Tryz.prog Go.Eng.Tryz.X0 20 5) (Tryz.evT [] Tryz.preB) E72.tm ⟨roomH E72.hin, E72.nx, 0⟩) = true := by kernel_rfl
theorem rE81 : lOutIs E81 (fLoopT [] (loopF Tryz.prog Go.Eng.Tryz.X0 22 249) (Tryz.evT [] Tryz.preB) E81.tm ⟨roomH E81.hin, E81.nx, 0⟩) = true := by kernel_rfl
end TryzP
end Go.Proofs
