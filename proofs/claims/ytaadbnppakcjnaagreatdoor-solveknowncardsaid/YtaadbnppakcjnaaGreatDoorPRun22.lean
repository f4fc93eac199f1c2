import Derived.Test.YtaadbnppakcjnaaGreatDoorPEnt
/- Part of the proof of SolveKnown. -/
namespace Go.Proofs
open Go Go.Eng
set_option maxRecDepth 1000000
namespace TryzP
theorem rE97 : outIs E97 (Tryz.evT [] (Tryz.preL 22 249 [E105] (Tryz.preL 20 5 [E102] (Tryz.preL 5 507 [E98] Tryz.preB))) (.func (.func E97.f) #[] #[]) E97.args ⟨roomH E97.hin, E97.nx, 0⟩) = true := by kernel_rfl
theorem rE109 : lOutIs E109 (fLoopT [] (loopF Tryz.prog Go.Eng.Tryz.X0 5 507) (Tryz.evT [] Tryz.preB) E109.tm ⟨roomH E109.hin, E109.nx, 0⟩) = true := by kernel_rfl
theorem rE108 : outIs E108 (Tryz.evT [] (Tryz.preL 5 507 [E109] Tryz.preB) (.func (.func E108.f) #[] #[]) E108.args ⟨roomH E108.hin, E108.nx, 0⟩) = true := by kernel_rfl
end TryzP
end Go.Proofs
