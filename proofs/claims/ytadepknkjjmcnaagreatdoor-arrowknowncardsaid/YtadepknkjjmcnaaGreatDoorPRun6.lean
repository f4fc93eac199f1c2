import Derived.Test.YtadepknkjjmcnaaGreatDoorPMem
/- Part of the proof. -/
namespace Go.Proofs
open Go Go.Eng Tryz
set_option maxRecDepth 1000000
namespace TryzP
theorem rE11:rl 332 25 [E12] E11 (eT [] (pM [N514819_0] pB))=true:=by kernel_rfl
theorem rE233:rl 332 25 [E13] E233 (eT [] (pM [N514819_0] pB))=true:=by kernel_rfl
theorem rE12:rl 332 25 [E233] E12 (eT [] (pM [N514819_0] pB))=true:=by kernel_rfl
theorem rE10:rl 332 25 [E11] E10 (eT [] pB)=true:=by kernel_rfl
theorem rE9:rl 332 25 [E10] E9 (eT [] pB)=true:=by kernel_rfl
theorem rE8:rl 332 25 [E9] E8 (eT [] pB)=true:=by kernel_rfl
end TryzP
end Go.Proofs
