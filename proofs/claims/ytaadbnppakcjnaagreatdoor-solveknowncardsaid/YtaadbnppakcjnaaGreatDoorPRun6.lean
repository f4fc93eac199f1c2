import Derived.Test.YtaadbnppakcjnaaGreatDoorPEnt
/- Part of the proof of SolveKnown. -/
namespace Go.Proofs
open Go Go.Eng
set_option maxRecDepth 1000000
namespace TryzP
theorem rE37 : outIs E37 (Tryz.evT [E38] Tryz.preB (.func (.func E37.f) #[] #[]) E37.args ⟨roomH E37.hin, E37.nx, 0⟩) = true := by kernel_rfl
theorem rE41 : lOutIs E41 (fLoopT [] (loopF Tryz.prog Go.Eng.Tryz.X0 5 507) (Tryz.evT [] Tryz.preB) E41.tm ⟨roomH E41.hin, E41.nx, 0⟩) = true := by kernel_rfl
theorem rE40 : lOutIs E40 (fLoopT [E41] (loopF Tryz.prog Go.Eng.Tryz.X0 5 507) (Tryz.evT [] Tryz.preB) E40.tm ⟨roomH E40.hin, E40.nx, 0⟩) = true := by kernel_rfl
end TryzP
end Go.Proofs
