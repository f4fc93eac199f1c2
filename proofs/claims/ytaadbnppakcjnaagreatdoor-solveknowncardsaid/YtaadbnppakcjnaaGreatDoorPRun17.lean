import Derived.Test.YtaadbnppakcjnaaGreatDoorPEnt
/- Part of the proof of SolveKnown. -/
namespace Go.Proofs
open Go Go.Eng
set_option maxRecDepth 1000000
namespace TryzP
theorem rE86 : lOutIs E86 (fLoopT [E87] (loopF Tryz.prog Go.Eng.Tryz.X0 20 5) (Tryz.evT [] Tryz.preB) E86.tm ⟨roomH E86.hin, E86.nx, 0⟩) = true := by kernel_rfl
theorem rE90 : lOutIs E90 (fLoopT [] (loopF Tryz.prog Go.Eng.Tryz.X0 22 249) (Tryz.evT [] Tryz.preB) E90.tm ⟨roomH E90.hin, E90.nx, 0⟩) = true := by kernel_rfl
theorem rE89 : lOutIs E89 (fLoopT [E90] (loopF Tryz.prog Go.Eng.Tryz.X0 22 249) (Tryz.evT [] Tryz.preB) E89.tm ⟨roomH E89.hin, E89.nx, 0⟩) = true := by kernel_rfl
end TryzP
end Go.Proofs
