import Derived.Test.YtadepknkjjmcnaaGreatDoorPMem
/- Part of the proof. -/
namespace Go.Proofs
open Go Go.Eng Tryz
set_option maxRecDepth 1000000
namespace TryzP
theorem rE138:rc E138 (eT [] pB)=true:=by kernel_rfl
theorem rE136:rc E136 (eT [E138] (pL 96 507 [E137] pB))=true:=by kernel_rfl
theorem rE147:rl 332 25 [] E147 (eT [] (pM [N181677_4] pB))=true:=by kernel_rfl
theorem rE146:rl 332 25 [E147] E146 (eT [] (pM [N175753_4,N181146_4] pB))=true:=by kernel_rfl
theorem rE145:rl 332 25 [E146] E145 (eT [] (pM [N168608_0,N172921_0,N173380_0,N175753_4] pB))=true:=by kernel_rfl
theorem rE144:rl 332 25 [E145] E144 (eT [] (pM [N168608_0] pB))=true:=by kernel_rfl
end TryzP
end Go.Proofs
