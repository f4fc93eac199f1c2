import Derived.Test.YtaadbnppakcjnaaGreatDoorPEnt
/- Part of the proof of SolveKnown. -/
namespace Go.Proofs
open Go Go.Eng
set_option maxRecDepth 1000000
namespace TryzP
theorem rE35 : outIs E35 (Tryz.evT [E37, E45] (Tryz.preL 22 249 [E44] (Tryz.preL 5 507 [E39] Tryz.preB)) (.func (.func E35.f) #[] #[]) E35.args ⟨roomH E35.hin, E35.nx, 0⟩) = true := by kernel_rfl
theorem rE51 : outIs E51 (Tryz.evT [] Tryz.preB (.func (.func E51.f) #[] #[]) E51.args ⟨roomH E51.hin, E51.nx, 0⟩) = true := by kernel_rfl
theorem rE49 : outIs E49 (Tryz.evT [E51] Tryz.preB (.func (.func E49.f) #[] #[]) E49.args ⟨roomH E49.hin, E49.nx, 0⟩) = true := by kernel_rfl
end TryzP
end Go.Proofs
