import Derived.Test.YtadepknkjjmcnaaGreatDoorPMem
/- Part of the proof. -/
namespace Go.Proofs
open Go Go.Eng Tryz
set_option maxRecDepth 1000000
namespace TryzP
theorem rE17:rl 332 25 [E18] E17 (eT [] (pM [N543090_19,N543090_20,N543090_35] pB))=true:=by kernel_rfl
theorem rE16:rl 332 25 [E17] E16 (eT [] (pM [N534424_35,N542389_18] pB))=true:=by kernel_rfl
theorem rE13:rl 332 25 [E14] E13 (eT [] (pM [N524128_1] pB))=true:=by kernel_rfl
theorem rE15:rl 332 25 [E16] E15 (eT [] (pM [N534424_35] pB))=true:=by kernel_rfl
theorem rE228:rl 332 25 [E15] E228 (eT [] (pM [N531021_1,N531652_1] pB))=true:=by kernel_rfl
theorem rE14:rl 332 25 [E228] E14 (eT [] (pM [N524128_1] pB))=true:=by kernel_rfl
end TryzP
end Go.Proofs
