import Derived.Test.YtadepknkjjmcnaaGreatDoorPMem
/- Part of the proof. -/
namespace Go.Proofs
open Go Go.Eng Tryz
set_option maxRecDepth 1000000
namespace TryzP
theorem rE219:rc E219 (eT [E223] pB)=true:=by kernel_rfl
theorem rE122:rl 161 5 [] E122 (eT [] pB)=true:=by kernel_rfl
theorem rE121:rl 161 5 [E122] E121 (eT [] pB)=true:=by kernel_rfl
theorem rE125:rc E125 (eT [] pB)=true:=by kernel_rfl
theorem rE124:rc E124 (eT [E125] pB)=true:=by kernel_rfl
theorem rE126:rc E126 (eT [] pB)=true:=by kernel_rfl
end TryzP
end Go.Proofs
