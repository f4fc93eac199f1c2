import Derived.Test.YtadepknkjjmcnaaGreatDoorPre
/- Part of the proof. -/
namespace Go.Proofs
open Go Go.Eng
set_option maxRecDepth 10000000
set_option maxHeartbeats 4000000 in
noncomputable def TryzD.G : {o : Option FF // mkDefer Tryz.prog Go.Eng.Tryz.X0 28 = o} := by
  apply Subtype.mk
  conv => lhs; whnf
noncomputable def TryzD.F : FF := Option.rec (motive := fun _ => FF) (fun _ _ _ => .no) (fun F => F) TryzD.G.1
end Go.Proofs
