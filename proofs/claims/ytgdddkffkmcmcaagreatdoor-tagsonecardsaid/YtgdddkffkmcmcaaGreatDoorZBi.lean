import Derived.Test.YtgdddkffkmcmcaaGreatDoorZBh
/- Part of the proof that TagsOne answers true. -/
set_option linter.all false
set_option maxRecDepth 100000
noncomputable section
namespace Go.Eng
open Go Go.Proofs Go.Proofs.Tryz
def isT (o:Out):Bool:=match o with| .val (.bool b) _=>b|_=>false
set_option maxHeartbeats 40000000 in
theorem Yy:isT (lO B7 4 [] W0)=true:=by kernel_rfl
def aEm:(iN prog cC 4).isSome=true:=by kernel_rfl
def aeg (n:Nat) {s:AS} (hg:Good s):∃s',aE (n+1) (dJ 4) [] s= .val (.bool true) s'∧Grown s.nx s s':=by
 have hr:=Yy;unfold isT at hr;split at hr
 ·rename_i b W' h;subst hr;obtain⟨F,hm⟩:∃F,iN prog cC 4=some F:=by
   have hm:=aEm;cases hq:iN prog cC 4 with
   |none=>rw[hq]at hm;cases hm
   |some F=>exact⟨F,rfl⟩
  obtain⟨ρ',v,s',h1,h2,h3,h4,h5,h6,h7,h8⟩:=KA My hg (Su hg) (args:= []) (args':= []) rfl h;refine⟨s',?_,h5⟩;have hv:v= .bool true:=(bh h2).symm;subst hv;have hl:lr 4 ga=some B7:=by rfl
  have hmI:pK prog cC ga 4=some (uv B7 4 F):=by unfold pK;rw[hm,cg,hl]
  have h0:aE (n+1) (dJ 4) [] s=uv B7 4 F (aE n) (app [] (app [] [])) s:=by show oR Out .no (λF=>F (jH prog cC ga n) (app [] (app [] [])) s) (pK prog cC ga 4)=_;rw[hmI];rfl
  rw[h0];unfold uv;rw[show app [] (app [] [])=([]:LVal)from rfl,h1];rfl
 ·cases hr
