import Derived.Test.YtaadbnppakcjnaaGreatDoorPEnt
/- Part of the proof of SolveKnown. -/
namespace Go.Proofs
open Go Go.Eng
set_option maxRecDepth 1000000
namespace TryzP
theorem rE80 : lOutIs E80 (fLoopT [E81] (loopF Tryz.prog Go.Eng.Tryz.X0 22 249) (Tryz.evT [] Tryz.preB) E80.tm ⟨roomH E80.hin, E80.nx, 0⟩) = true := by kernel_rfl
theorem rE79 : lOutIs E79 (fLoopT [E80] (loopF Tryz.prog Go.Eng.Tryz.X0 22 249) (Tryz.evT [] Tryz.preB) E79.tm ⟨roomH E79.hin, E79.nx, 0⟩) = true := by kernel_rfl
theorem rE78 : outIs E78 (Tryz.evT [] (Tryz.preL 22 249 [E79] Tryz.preB) (.func (.func E78.f) #[] #[]) E78.args ⟨roomH E78.hin, E78.nx, 0⟩) = true := by kernel_rfl
end TryzP
end Go.Proofs
