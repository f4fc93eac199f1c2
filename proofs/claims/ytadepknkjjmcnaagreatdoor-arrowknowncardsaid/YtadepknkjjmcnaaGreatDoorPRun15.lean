import Derived.Test.YtadepknkjjmcnaaGreatDoorPMem
/- Part of the proof. -/
namespace Go.Proofs
open Go Go.Eng Tryz
set_option maxRecDepth 1000000
namespace TryzP
theorem rE149:rc E149 (eT [] (pM [N187426_0] pB))=true:=by kernel_rfl
theorem rE148:rc E148 (eT [E149] pB)=true:=by kernel_rfl
theorem rE165:rl 96 507 [] E165 (eT [] pB)=true:=by kernel_rfl
theorem rE166:rc E166 (eT [] pB)=true:=by kernel_rfl
theorem rE164:rc E164 (eT [E166] (pL 96 507 [E165] pB))=true:=by kernel_rfl
theorem rE171:rl 96 507 [] E171 (eT [] pB)=true:=by kernel_rfl
end TryzP
end Go.Proofs
