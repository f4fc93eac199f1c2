import Derived.Test.YtadepknkjjmcnaaGreatDoorPre
import Derived.Test.YtadepknkjjmcnaaGreatDoorDf
/- Part of the proof. -/
namespace Go.Proofs
open Go.Eng
set_option maxRecDepth 100000
noncomputable def Tryz.B0 : Ev := evalQ Tryz.prog Go.Eng.Tryz.X0 TryzF.pre [] 60
noncomputable def Tryz.L0 : List (Nat × Ev) := lstB Go.Eng.Tryz.fl0 Tryz.B0 []
noncomputable def Tryz.B1 : Ev := evalQ Tryz.prog Go.Eng.Tryz.X0 TryzF.pre Tryz.L0 60
noncomputable def Tryz.L1 : List (Nat × Ev) := lstB Go.Eng.Tryz.fl1 Tryz.B1 Tryz.L0
noncomputable def Tryz.B2 : Ev := evalQ Tryz.prog Go.Eng.Tryz.X0 TryzF.pre Tryz.L1 60
noncomputable def Tryz.L2 : List (Nat × Ev) := lstB Go.Eng.Tryz.fl2 Tryz.B2 Tryz.L1
noncomputable def Tryz.ev (tab : List Entry) : Ev := evalQ Tryz.prog (Go.Eng.Tryz.mkX tab) TryzF.pre Tryz.L2 200
noncomputable def Tryz.eT (tab : List Entry) (pre : T (Option FF)) : Ev := evalQ Tryz.prog (Go.Eng.Tryz.mkX tab) pre Tryz.L2 200
noncomputable def Tryz.getF (pre : T (Option FF)) (g : Nat) : FF := match T.get pre g with | some (some F) => F | _ => fun _ _ _ => .no
noncomputable def Tryz.preW (g : Nat) (B : Ev) (pre : T (Option FF)) : T (Option FF) := preWith g (isoWFF B g (Tryz.getF pre g)) pre
noncomputable def Tryz.preD : T (Option FF) := preWith 28 TryzD.F TryzF.pre
noncomputable def Tryz.W0 : Ev := Tryz.eT [] Tryz.preD
noncomputable def Tryz.pre1 : T (Option FF) := (Tryz.preW 566 Tryz.W0 Tryz.preD)
noncomputable def Tryz.W1 : Ev := Tryz.eT [] Tryz.pre1
noncomputable def Tryz.pre2 : T (Option FF) := (Tryz.preW 538 Tryz.W1 (Tryz.preW 539 Tryz.W1 Tryz.pre1))
noncomputable def Tryz.pB : T (Option FF) := Tryz.pre2
noncomputable def Tryz.Bm : Ev := Tryz.eT [] Tryz.pB
noncomputable def Tryz.pM (l : List Foot) (pre : T (Option FF)) : T (Option FF) := preWith 522 (memFF Tryz.Bm 522 l (Tryz.getF pre 522)) pre
noncomputable def Tryz.pL (f p : Nat) (es : List LEntry) (pre : T (Option FF)) : T (Option FF) := preWith f (fnL Tryz.prog Go.Eng.Tryz.X0 f p es) pre
noncomputable def Tryz.rc (e : Entry) (ev : Ev) : Bool := outIs e (ev (.func (.func e.f) #[] #[]) e.args ⟨ofL e.hin, e.nx, 0⟩)
noncomputable def Tryz.rl (f p : Nat) (es : List LEntry) (e : LEntry) (ev : Ev) : Bool := lOutIs e (fLoopT es (loopF Tryz.prog Go.Eng.Tryz.X0 f p) ev e.tm ⟨ofL e.hin, e.nx, 0⟩)
end Go.Proofs
