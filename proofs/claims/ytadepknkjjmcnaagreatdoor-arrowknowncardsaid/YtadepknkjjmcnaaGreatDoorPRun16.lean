import Derived.Test.YtadepknkjjmcnaaGreatDoorPMem
/- Part of the proof. -/
namespace Go.Proofs
open Go Go.Eng Tryz
set_option maxRecDepth 1000000
namespace TryzP
theorem rE172:rc E172 (eT [] pB)=true:=by kernel_rfl
theorem rE170:rc E170 (eT [E172] (pL 96 507 [E171] pB))=true:=by kernel_rfl
theorem rE175:rl 96 507 [] E175 (eT [] pB)=true:=by kernel_rfl
theorem rE176:rc E176 (eT [] pB)=true:=by kernel_rfl
theorem rE174:rc E174 (eT [E176] (pL 96 507 [E175] pB))=true:=by kernel_rfl
theorem rE181:rl 96 507 [] E181 (eT [] pB)=true:=by kernel_rfl
end TryzP
end Go.Proofs
