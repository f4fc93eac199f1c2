import Derived.Test.YtaadbnppakcjnaaGreatDoorPEnt
/- Part of the proof of SolveKnown. -/
namespace Go.Proofs
open Go Go.Eng
set_option maxRecDepth 1000000
namespace TryzP
theorem rE39 : lOutIs E39 (fLoopT [E40] (loopF Tryz.prog Go.Eng.Tryz.X0 5 507) (Tryz.evT [] Tryz.preB) E39.tm ⟨roomH E39.hin, E39.nx, 0⟩) = true := by kernel_rfl
theorem rE44 : lOutIs E44 (fLoopT [] (loopF Tryz.prog Go.Eng.Tryz.X0 22 249) (Tryz.evT [] Tryz.preB) E44.tm ⟨roomH E44.hin, E44.nx, 0⟩) = true := by kernel_rfl
theorem rE45 : outIs E45 (Tryz.evT [] Tryz.preB (.func (.func E45.f) #[] #[]) E45.args ⟨roomH E45.hin, E45.nx, 0⟩) = true := by kernel_rfl
end TryzP
end Go.Proofs
