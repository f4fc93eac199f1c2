import Derived.Test.YtadepknkjjmcnaaGreatDoorPMem
/- Part of the proof. -/
namespace Go.Proofs
open Go Go.Eng Tryz
set_option maxRecDepth 1000000
namespace TryzP
theorem rE205:rc E205 (eT [E210] pB)=true:=by kernel_rfl
theorem rE214:rc E214 (eT [] (pM [N30574_0] pB))=true:=by kernel_rfl
theorem rE213:rc E213 (eT [E214] pB)=true:=by kernel_rfl
theorem rE217:rc E217 (eT [] (pM [N19741_0] pB))=true:=by kernel_rfl
theorem rE196:rc E196 (eT [E198,E205,E213,E217] pB)=true:=by kernel_rfl
theorem rE223:rc E223 (eT [] (pM [N825615_0] pB))=true:=by kernel_rfl
end TryzP
end Go.Proofs
