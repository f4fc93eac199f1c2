import Derived.Test.YtadepknkjjmcnaaGreatDoorPMem
/- Part of the proof. -/
namespace Go.Proofs
open Go Go.Eng Tryz
set_option maxRecDepth 1000000
namespace TryzP
theorem rE141:rc E141 (eT [] (pL 332 25 [E144] pB))=true:=by kernel_rfl
theorem rE139:rc E139 (eT [E141] pB)=true:=by kernel_rfl
theorem rE226:rc E226 (eT [E124,E126,E128,E136,E139] (pL 161 5 [E121] pB))=true:=by kernel_rfl
theorem rE1:rc E1 (eT [E42,E72,E148,E150,E196,E219,E226] (pL 332 25 [E8] pB))=true:=by kernel_rfl
theorem rROOT : outV (.bool true) ((eT [E1] pB) (.func (.func 3) #[] #[]) [] ⟨ofL [], 0, 0⟩) = true := by kernel_rfl
end TryzP
end Go.Proofs
