import Derived.Test.YtadepknkjjmcnaaGreatDoorPMem
/- Part of the proof. -/
namespace Go.Proofs
open Go Go.Eng Tryz
set_option maxRecDepth 1000000
namespace TryzP
theorem rE204:rl 332 25 [] E204 (eT [] (pM [N13354_0,N13805_0] pB))=true:=by kernel_rfl
theorem rE203:rl 332 25 [E204] E203 (eT [] (pM [N8879_0] pB))=true:=by kernel_rfl
theorem rE227:rl 96 507 [] E227 (eT [] pB)=true:=by kernel_rfl
theorem rE198:rc E198 (eT [] (pL 96 507 [E227] (pL 332 25 [E203] pB)))=true:=by kernel_rfl
theorem rE211:rl 96 507 [] E211 (eT [] pB)=true:=by kernel_rfl
theorem rE210:rc E210 (eT [] (pL 96 507 [E211] pB))=true:=by kernel_rfl
end TryzP
end Go.Proofs
