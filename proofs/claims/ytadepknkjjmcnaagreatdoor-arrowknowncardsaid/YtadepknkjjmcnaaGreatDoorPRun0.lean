import Derived.Test.YtadepknkjjmcnaaGreatDoorPMem
/- Part of the proof. -/
namespace Go.Proofs
open Go Go.Eng Tryz
set_option maxRecDepth 1000000
namespace TryzP
theorem rE37:rl 332 25 [E38] E37 (eT [] (pM [N623534_43] pB))=true:=by kernel_rfl
theorem rE41:rl 332 25 [] E41 (eT [] pB)=true:=by kernel_rfl
theorem rE40:rl 332 25 [E41] E40 (eT [] pB)=true:=by kernel_rfl
theorem rE39:rl 332 25 [E40] E39 (eT [] (pM [N639112_19,N639112_20,N639112_43] pB))=true:=by kernel_rfl
theorem rE38:rl 332 25 [E39] E38 (eT [] (pM [N637979_18,N623534_43] pB))=true:=by kernel_rfl
theorem rE36:rl 332 25 [E37] E36 (eT [] (pM [N623534_43] pB))=true:=by kernel_rfl
end TryzP
end Go.Proofs
