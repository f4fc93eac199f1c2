import Derived.Test.YtadepknkjjmcnaaGreatDoorPMem
/- Part of the proof. -/
namespace Go.Proofs
open Go Go.Eng Tryz
set_option maxRecDepth 1000000
namespace TryzP
theorem rE131:rl 161 5 [] E131 (eT [] pB)=true:=by kernel_rfl
theorem rE130:rl 161 5 [E131] E130 (eT [] pB)=true:=by kernel_rfl
theorem rE134:rc E134 (eT [] pB)=true:=by kernel_rfl
theorem rE133:rc E133 (eT [E134] pB)=true:=by kernel_rfl
theorem rE128:rc E128 (eT [E133] (pL 161 5 [E130] pB))=true:=by kernel_rfl
theorem rE137:rl 96 507 [] E137 (eT [] pB)=true:=by kernel_rfl
end TryzP
end Go.Proofs
