import Derived.Test.YtadepknkjjmcnaaGreatDoorPMem
/- Part of the proof. -/
namespace Go.Proofs
open Go Go.Eng Tryz
set_option maxRecDepth 1000000
namespace TryzP
theorem rE74:rc E74 (eT [E75,E76] pB)=true:=by kernel_rfl
theorem rE79:rc E79 (eT [] pB)=true:=by kernel_rfl
theorem rE78:rc E78 (eT [E79] pB)=true:=by kernel_rfl
theorem rE82:rc E82 (eT [] pB)=true:=by kernel_rfl
theorem rE81:rc E81 (eT [E82] pB)=true:=by kernel_rfl
theorem rE85:rc E85 (eT [] pB)=true:=by kernel_rfl
end TryzP
end Go.Proofs
