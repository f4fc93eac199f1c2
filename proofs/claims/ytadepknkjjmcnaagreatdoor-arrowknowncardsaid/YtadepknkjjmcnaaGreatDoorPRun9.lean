import Derived.Test.YtadepknkjjmcnaaGreatDoorPMem
/- Part of the proof. -/
namespace Go.Proofs
open Go Go.Eng Tryz
set_option maxRecDepth 1000000
namespace TryzP
theorem rE57:rc E57 (eT [E58] pB)=true:=by kernel_rfl
theorem rE61:rc E61 (eT [] pB)=true:=by kernel_rfl
theorem rE60:rc E60 (eT [E61] pB)=true:=by kernel_rfl
theorem rE64:rc E64 (eT [] pB)=true:=by kernel_rfl
theorem rE52:rl 96 507 [] E52 (eT [E53,E57,E60,E64] pB)=true:=by kernel_rfl
theorem rE69:rl 163 249 [] E69 (eT [] pB)=true:=by kernel_rfl
end TryzP
end Go.Proofs
