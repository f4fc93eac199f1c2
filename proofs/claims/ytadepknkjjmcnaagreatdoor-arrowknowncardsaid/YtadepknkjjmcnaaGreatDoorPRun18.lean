import Derived.Test.YtadepknkjjmcnaaGreatDoorPMem
/- Part of the proof. -/
namespace Go.Proofs
open Go Go.Eng Tryz
set_option maxRecDepth 1000000
namespace TryzP
theorem rE192:rc E192 (eT [] pB)=true:=by kernel_rfl
theorem rE190:rc E190 (eT [E192] (pL 96 507 [E191] pB))=true:=by kernel_rfl
theorem rE195:rl 96 507 [] E195 (eT [] pB)=true:=by kernel_rfl
theorem rE194:rc E194 (eT [] (pL 96 507 [E195] pB))=true:=by kernel_rfl
theorem rE225:rl 96 507 [] E225 (eT [] pB)=true:=by kernel_rfl
theorem rE150:rc E150 (eT [E164,E170,E174,E180,E184,E190,E194] (pL 96 507 [E225] pB))=true:=by kernel_rfl
end TryzP
end Go.Proofs
