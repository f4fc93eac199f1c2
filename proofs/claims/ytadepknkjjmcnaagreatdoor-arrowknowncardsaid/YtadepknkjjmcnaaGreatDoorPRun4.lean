import Derived.Test.YtadepknkjjmcnaaGreatDoorPMem
/- Part of the proof. -/
namespace Go.Proofs
open Go Go.Eng Tryz
set_option maxRecDepth 1000000
namespace TryzP
theorem rE21:rl 332 25 [E22] E21 (eT [] (pM [N558912_38] pB))=true:=by kernel_rfl
theorem rE234:rc E234 (eT [] (pM [N555852_19,N555852_20,N555852_37] pB))=true:=by kernel_rfl
theorem rE20:rl 332 25 [E21] E20 (eT [E234] pB)=true:=by kernel_rfl
theorem rE229:rc E229 (eT [] (pM [N555077_18,N555077_37] pB))=true:=by kernel_rfl
theorem rE19:rl 332 25 [E20] E19 (eT [E229] (pM [N546024_37] pB))=true:=by kernel_rfl
theorem rE18:rl 332 25 [E19] E18 (eT [] (pM [N546024_37] pB))=true:=by kernel_rfl
end TryzP
end Go.Proofs
