import Derived.Test.YtadepknkjjmcnaaGreatDoorPMem
/- Part of the proof. -/
namespace Go.Proofs
open Go Go.Eng Tryz
set_option maxRecDepth 1000000
namespace TryzP
theorem rE101:rl 161 5 [] E101 (eT [] pB)=true:=by kernel_rfl
theorem rE100:rl 161 5 [E101] E100 (eT [] pB)=true:=by kernel_rfl
theorem rE99:rl 161 5 [E100] E99 (eT [] pB)=true:=by kernel_rfl
theorem rE98:rl 161 5 [E99] E98 (eT [] pB)=true:=by kernel_rfl
theorem rE97:rl 161 5 [E98] E97 (eT [] pB)=true:=by kernel_rfl
theorem rE96:rl 161 5 [E97] E96 (eT [] pB)=true:=by kernel_rfl
end TryzP
end Go.Proofs
