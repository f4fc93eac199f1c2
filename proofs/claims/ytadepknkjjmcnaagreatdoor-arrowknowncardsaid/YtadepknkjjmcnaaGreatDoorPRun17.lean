import Derived.Test.YtadepknkjjmcnaaGreatDoorPMem
/- Part of the proof. -/
namespace Go.Proofs
open Go Go.Eng Tryz
set_option maxRecDepth 1000000
namespace TryzP
theorem rE182:rc E182 (eT [] pB)=true:=by kernel_rfl
theorem rE180:rc E180 (eT [E182] (pL 96 507 [E181] pB))=true:=by kernel_rfl
theorem rE185:rl 96 507 [] E185 (eT [] pB)=true:=by kernel_rfl
theorem rE186:rc E186 (eT [] pB)=true:=by kernel_rfl
theorem rE184:rc E184 (eT [E186] (pL 96 507 [E185] pB))=true:=by kernel_rfl
theorem rE191:rl 96 507 [] E191 (eT [] pB)=true:=by kernel_rfl
end TryzP
end Go.Proofs
