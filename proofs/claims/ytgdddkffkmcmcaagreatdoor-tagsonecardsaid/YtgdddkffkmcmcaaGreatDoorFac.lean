import Derived.Test.YtgdddkffkmcmcaaGreatDoorCards
import Derived.Test.YtgdddkffkmcmcaaGreatDoorTie
import Derived.ProofKit
import Derived.JoinedOf
import Derived.SevenTiedAt
/- Part of the proof that TagsOne answers true. -/
set_option linter.all false
namespace Go.Proofs.YtgdddkffkmcmcaaGreatDoor
open Go
set_option maxRecDepth 100000
theorem aL3:(Rows.tagsOneRow.inPlace==Tryz.prog.inPlace 3)=true:=by kernel_rfl
theorem aL4:(Rows.tagsOneRow.unfollowed==Tryz.prog.unfollowed 3)=true:=by kernel_rfl
theorem aL5:(Rows.tagsOneRow.recurses==Tryz.prog.recurses 3)=true:=by kernel_rfl
theorem aL6:(Rows.tagsOneRow.named==Tryz.prog.varsNamed 3)=true:=by kernel_rfl
theorem aL7:Tryz.prog.stopsHeard=true:=by kernel_rfl
theorem aL8:Tryz.prog.mayEnter=true:=by kernel_rfl
theorem aL9:laidOutB Tryz.prog=true:=by kernel_rfl
theorem aMa:mapsRowed Tryz.prog=true:=by kernel_rfl
theorem aMb:(Rows.tagsOneRow.lifted==Tryz.prog.liftsFinal)=true:=by kernel_rfl
theorem YC:joinedFacts Tryz.prog 3 Tryz.f3 Rows.tagsOneSpec Rows.tagsOneRow=true:=by
 unfold joinedFacts
 rw[aL3,aL4,aL5,aL6,aL7,aL8,aL9,aMa,aMb]
 kernel_rfl
theorem aEp:Rows.tagsOneRow.wfByText (OpenSpec.ofChange Rows.tagsOneSpec)=true:=by kernel_rfl
theorem aek:false=Tryz.prog.looks []:=by kernel_rfl
theorem ayE:Tryz.prog.funcs.any Func.goes=false:=by kernel_rfl
theorem acD (f:FuncId):Tryz.prog.goes f=false:=by
 have h1:∀g:FuncId,(Tryz.prog.funcs[g]?).any Func.goes=false:=fun g=>by
  cases hg:Tryz.prog.funcs[g]? with
  |none=>rfl
  |some fn=>
   obtain⟨cS,he⟩:=Array.getElem?_eq_some_iff.1 hg
   have:=Array.any_eq_false.1 ayE g cS
   rw[he]at this
   simpa using this
 unfold Program.goes
 rw[ayE,Bool.and_false,Bool.or_false,List.any_eq_false]
 exact fun g _ h=>by rw[h1 g]at h;cases h
theorem ajO:false=Rows.tagsOneRow.goesBy Tryz.prog:=by
 have h1:∀o:Option FuncId,o.any Tryz.prog.goes=false:=fun o=>by cases o<;>simp[acD]
 have h2:∀l:List FuncId,l.any Tryz.prog.goes=false:=fun l=>by rw[List.any_eq_false];exact fun g _ h=>by rw[acD]at h;cases h
 unfold OpenClaim.goesBy Program.goesAt Program.goesFrom
 rw[h1,h2]
 split<;>rfl
end Go.Proofs.YtgdddkffkmcmcaaGreatDoor
