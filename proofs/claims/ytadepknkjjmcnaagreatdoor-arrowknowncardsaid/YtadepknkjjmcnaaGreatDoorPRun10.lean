import Derived.Test.YtadepknkjjmcnaaGreatDoorPMem
/- Part of the proof. -/
namespace Go.Proofs
open Go Go.Eng Tryz
set_option maxRecDepth 1000000
namespace TryzP
theorem rE68:rl 163 249 [E69] E68 (eT [] pB)=true:=by kernel_rfl
theorem rE67:rl 163 249 [E68] E67 (eT [] pB)=true:=by kernel_rfl
theorem rE66:rc E66 (eT [] (pL 163 249 [E67] pB))=true:=by kernel_rfl
theorem rE42:rc E42 (eT [E66] (pL 96 507 [E52] (pL 161 5 [E44] pB)))=true:=by kernel_rfl
theorem rE75:rc E75 (eT [] pB)=true:=by kernel_rfl
theorem rE76:rc E76 (eT [] pB)=true:=by kernel_rfl
end TryzP
end Go.Proofs
