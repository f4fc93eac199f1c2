import Derived.Test.YtadepknkjjmcnaaGreatDoorPMem
/- Part of the proof. -/
namespace Go.Proofs
open Go Go.Eng Tryz
set_option maxRecDepth 1000000
namespace TryzP
theorem rE95:rl 161 5 [E96] E95 (eT [] pB)=true:=by kernel_rfl
theorem rE94:rl 161 5 [E95] E94 (eT [] pB)=true:=by kernel_rfl
theorem rE104:rl 163 249 [] E104 (eT [] pB)=true:=by kernel_rfl
theorem rE103:rl 163 249 [E104] E103 (eT [] pB)=true:=by kernel_rfl
theorem rE102:rc E102 (eT [] (pL 163 249 [E103] pB))=true:=by kernel_rfl
theorem rE72:rc E72 (eT [E74,E78,E81,E84,E87,E90,E102] (pL 161 5 [E94] pB))=true:=by kernel_rfl
end TryzP
end Go.Proofs
