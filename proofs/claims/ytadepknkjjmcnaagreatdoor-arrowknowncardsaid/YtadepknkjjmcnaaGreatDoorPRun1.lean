import Derived.Test.YtadepknkjjmcnaaGreatDoorPMem
/- Part of the proof. -/
namespace Go.Proofs
open Go Go.Eng Tryz
set_option maxRecDepth 1000000
namespace TryzP
theorem rE35:rl 332 25 [E36] E35 (eT [] (pM [N623534_43] pB))=true:=by kernel_rfl
theorem rE34:rl 332 25 [E35] E34 (eT [] (pM [N619823_19,N619823_20,N619823_42] pB))=true:=by kernel_rfl
theorem rE33:rl 332 25 [E34] E33 (eT [] (pM [N605397_42,N618762_18] pB))=true:=by kernel_rfl
theorem rE224:rl 332 25 [E33] E224 (eT [] (pM [N605397_42] pB))=true:=by kernel_rfl
theorem rE32:rl 332 25 [E224] E32 (eT [] (pM [N605397_42] pB))=true:=by kernel_rfl
theorem rE31:rl 332 25 [E32] E31 (eT [] (pM [N605397_42] pB))=true:=by kernel_rfl
end TryzP
end Go.Proofs
