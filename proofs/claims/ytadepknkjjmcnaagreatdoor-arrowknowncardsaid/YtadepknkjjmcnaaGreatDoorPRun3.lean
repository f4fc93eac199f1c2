import Derived.Test.YtadepknkjjmcnaaGreatDoorPMem
/- Part of the proof. -/
namespace Go.Proofs
open Go Go.Eng Tryz
set_option maxRecDepth 1000000
namespace TryzP
theorem rE232:rc E232 (eT [] (pM [N584291_18,N573086_40] pB))=true:=by kernel_rfl
theorem rE25:rl 332 25 [E26] E25 (eT [E232] (pM [N573086_40] pB))=true:=by kernel_rfl
theorem rE24:rl 332 25 [E25] E24 (eT [] (pM [N573086_40] pB))=true:=by kernel_rfl
theorem rE231:rc E231 (eT [] (pM [N569882_19,N569882_20,N569882_38] pB))=true:=by kernel_rfl
theorem rE23:rl 332 25 [E24] E23 (eT [E231] pB)=true:=by kernel_rfl
theorem rE22:rl 332 25 [E23] E22 (eT [] (pM [N558912_38,N569037_18] pB))=true:=by kernel_rfl
end TryzP
end Go.Proofs
