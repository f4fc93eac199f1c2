import Derived.Test.YtadepknkjjmcnaaGreatDoorPMem
/- Part of the proof. -/
namespace Go.Proofs
open Go Go.Eng Tryz
set_option maxRecDepth 1000000
namespace TryzP
theorem rE84:rc E84 (eT [E85] pB)=true:=by kernel_rfl
theorem rE88:rc E88 (eT [] pB)=true:=by kernel_rfl
theorem rE87:rc E87 (eT [E88] pB)=true:=by kernel_rfl
theorem rE92:rc E92 (eT [] pB)=true:=by kernel_rfl
theorem rE91:rc E91 (eT [E92] pB)=true:=by kernel_rfl
theorem rE90:rc E90 (eT [E91] pB)=true:=by kernel_rfl
end TryzP
end Go.Proofs
