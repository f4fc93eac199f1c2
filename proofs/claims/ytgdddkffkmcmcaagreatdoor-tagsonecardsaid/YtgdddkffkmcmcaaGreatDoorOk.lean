import Derived.Test.YtgdddkffkmcmcaaGreatDoorZBj
import Derived.Test.YtgdddkffkmcmcaaGreatDoorSums
/- Part of the proof that TagsOne answers true. -/
set_option linter.all false
set_option maxRecDepth 100000
noncomputable section
namespace Go.Eng
open Go Go.Proofs Go.Proofs.Tryz
variable {s s' s0:AS} {v u y x v' x':Value} {n t b i k f a r p q j et ck nt kt e ty off:Nat} {w w':World} {o:Option Nat} {l vs l':LVal} {rows R els:List LVal} {tm tm':T Value} {es:List (Value×Value×Nat)} {ts:Array TypeId} {lo:Lo} {X:QJ} {P:Program} {F:Fence} {S:List Nat} {ρ ρ':Ren} {m:TM n} {σ:List cx} {φ fj:List dA} {d d':LV}
def QF:vO prog 209 .cmp:=⟨_,func209,by kernel_rfl,by kernel_rfl,by kernel_rfl⟩
def QG:vO prog 219 .same:=⟨_,func219,by kernel_rfl,by kernel_rfl,by kernel_rfl⟩
def QH:vO prog 271 (.makeNoZero 5):=⟨Tryz.f271,Tryz.f271.params,22,func271,by kernel_rfl,by kernel_rfl,by kernel_rfl,underlying22⟩
def QI:vO prog 308 .kP:=⟨_,func308,by kernel_rfl,by kernel_rfl,by kernel_rfl⟩
def CV:kz prog:=Tv (by kernel_rfl)
def mG:Ab prog ai:=
 apF CV (by kernel_rfl)
  (λp hp=>by
   have hp:p∈([(209,Ext.cmp),(219,Ext.same),(271,Ext.makeNoZero 5),(308,Ext.kP)]:List (Nat×Ext)):=hp;simp only[bu,aX,db]at hp;rcases hp with rfl|rfl|rfl|rfl
   ·exact QF
   ·exact QG
   ·exact QH
   ·exact QI)
  (λp hp=>by
   have hp:p∈([(83,.copy 3),(130,.alt (.sorted 187 3 3) (.alt (.sorted 189 3 3) (.sorted 195 3 3)))]:List (Nat×Sum)):=hp;simp only[bu,aX,db]at hp;rcases hp with rfl|rfl
   ·exact agG JH
   ·exact abL (DE El) (abL (DE Em) (DE En)))
def Le:∀p∈Hf,mj prog p.2:=vP (Cj mG mG TryzF.UB (λp hp=>by cases hp) 60) (λp hp=>by cases hp) _
def Lf:∀p∈Hg,mj prog p.2:=vP (Cj mG mG TryzF.UB Le 60) Le _
def Im:mj prog qP:=Cj mG mG TryzF.UB Lf 100
def YY:∀p∈PH,mj prog p.2:=vP Im Lf _
def YZ:∀p∈ga,mj prog p.2:=vP (agD mG 60) (vP (Cj mG mG TryzF.UB YY 200) (vP Im (λp hp=>by cases hp) _) _) _
def Y0 (n:Nat):mj prog (aE n):=ada mG YZ n
