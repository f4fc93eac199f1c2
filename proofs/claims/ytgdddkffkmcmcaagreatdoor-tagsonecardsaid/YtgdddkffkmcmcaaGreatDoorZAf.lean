import Derived.Test.YtgdddkffkmcmcaaGreatDoorZAe
/- Part of the proof that TagsOne answers true. -/
set_option linter.all false
set_option maxRecDepth 100000
noncomputable section
namespace Go.Eng
open Go Go.Proofs Go.Proofs.Tryz
def Ot (fuel n:Nat) (acc:List UInt8):List UInt8:=match fuel with
 |0=>acc
 |fuel+1=>if n<10 then UInt8.ofNat (48+n)::acc else Ot fuel (n/10) (UInt8.ofNat (48+n%10)::acc)
def gg (n:Nat):List UInt8:=Ot 20 n []
def LX (k:Nat):Bool:=nR Bool true (λi ih=>aD ih (Rn (.string ⟨⟨gg i⟩⟩) (eval prog cC 60 (dJ 116) [aw (.ofNat i)] ⟨lQ 20,0,0⟩)) false) k
def Nh:LX 200=true:=by kernel_rfl
