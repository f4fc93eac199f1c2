import Derived.Test.YtadepknkjjmcnaaGreatDoorPMem
/- Part of the proof. -/
namespace Go.Proofs
open Go Go.Eng Tryz
set_option maxRecDepth 1000000
namespace TryzP
theorem rE51:rl 161 5 [] E51 (eT [] pB)=true:=by kernel_rfl
theorem rE50:rl 161 5 [E51] E50 (eT [] pB)=true:=by kernel_rfl
theorem rE49:rl 161 5 [E50] E49 (eT [] pB)=true:=by kernel_rfl
theorem rE48:rl 161 5 [E49] E48 (eT [] pB)=true:=by kernel_rfl
theorem rE47:rl 161 5 [E48] E47 (eT [] pB)=true:=by kernel_rfl
theorem rE46:rl 161 5 [E47] E46 (eT [] pB)=true:=by kernel_rfl
end TryzP
end Go.Proofs
