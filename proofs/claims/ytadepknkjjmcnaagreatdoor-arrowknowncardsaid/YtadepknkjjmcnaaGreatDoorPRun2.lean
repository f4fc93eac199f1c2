import Derived.Test.YtadepknkjjmcnaaGreatDoorPMem
/- Part of the proof. -/
namespace Go.Proofs
open Go Go.Eng Tryz
set_option maxRecDepth 1000000
namespace TryzP
theorem rE30:rl 332 25 [E31] E30 (eT [] (pM [N601830_19,N601830_20,N601830_41] pB))=true:=by kernel_rfl
theorem rE29:rl 332 25 [E30] E29 (eT [] (pM [N600841_18,N588556_41] pB))=true:=by kernel_rfl
theorem rE28:rl 332 25 [E29] E28 (eT [] (pM [N588556_41] pB))=true:=by kernel_rfl
theorem rE27:rl 332 25 [E28] E27 (eT [] (pM [N588556_41] pB))=true:=by kernel_rfl
theorem rE230:rc E230 (eT [] (pM [N585208_19,N585208_20,N585208_40] pB))=true:=by kernel_rfl
theorem rE26:rl 332 25 [E27] E26 (eT [E230] pB)=true:=by kernel_rfl
end TryzP
end Go.Proofs
