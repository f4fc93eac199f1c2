import Derived.Test.YtadepknkjjmcnaaGreatDoorPMem
/- Part of the proof. -/
namespace Go.Proofs
open Go Go.Eng Tryz
set_option maxRecDepth 1000000
namespace TryzP
theorem rE45:rl 161 5 [E46] E45 (eT [] pB)=true:=by kernel_rfl
theorem rE44:rl 161 5 [E45] E44 (eT [] pB)=true:=by kernel_rfl
theorem rE54:rc E54 (eT [] pB)=true:=by kernel_rfl
theorem rE55:rc E55 (eT [] pB)=true:=by kernel_rfl
theorem rE53:rc E53 (eT [E54,E55] pB)=true:=by kernel_rfl
theorem rE58:rc E58 (eT [] pB)=true:=by kernel_rfl
end TryzP
end Go.Proofs
