import Derived.Test.YtadepknkjjmcnaaGreatDoorCfg
import Derived.Test.YtadepknkjjmcnaaGreatDoorProg
/- Part of the proof. -/
namespace Go.Proofs
open Go Go.Eng
noncomputable def TryzF.W (f:Nat) {o} (h:mkFn Tryz.prog Go.Eng.Tryz.X0 f=o) : PreE Tryz.prog Go.Eng.Tryz.X0 := ⟨f,o,h⟩
end Go.Proofs
