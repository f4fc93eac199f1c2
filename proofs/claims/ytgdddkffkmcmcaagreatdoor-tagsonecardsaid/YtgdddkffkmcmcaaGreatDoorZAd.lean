import Derived.Test.YtgdddkffkmcmcaaGreatDoorZAc
import Derived.Test.YtgdddkffkmcmcaaGreatDoorProg
/- Part of the proof that TagsOne answers true. -/
set_option linter.all false
set_option maxRecDepth 100000
noncomputable section
namespace Go.Eng
open Go Go.Proofs Go.Proofs.Tryz
variable {s s' s0:AS} {v u y x v' x':Value} {n t b i k f a r p q j et ck nt kt e ty off:Nat} {w w':World} {o:Option Nat} {l vs l':LVal} {rows R els:List LVal} {tm tm':T Value} {es:List (Value×Value×Nat)} {ts:Array TypeId} {lo:Lo} {X:QJ} {P:Program} {F:Fence} {S:List Nat} {ρ ρ':Ren}
def uM {r:Value->bQ}:∀ {t t':T LVal},ju r t=some t'->∀i,(t.get i=none∧t'.get i=none)∨∃l l',t.get i=some l∧t'.get i=some l'∧dj r l=some l'
 | .e,t',h,i=>by have h:some T.e=some t':=h;cases h;exact .inl ⟨T.ur i,T.ur i⟩
 | .n v l r0,t',h,i=>by
  have h:(ob (ju r l) λl=>ob (ju r r0) λr'=>oR (Option (T LVal)) (some (.n none l r')) (λc=>ob (dj r c) λc'=>some (.n (some c') l r')) v)=some t':=h;replace h:=ak h;obtain⟨l1,h1,h⟩:=h;replace h:=ak h;obtain⟨r1,h2,h⟩:=h;cases v with
  |none=>
   have h:some (T.n none l1 r1)=some t':=h;cases h;rcases dN i with rfl|⟨m,rfl⟩|⟨m,rfl⟩
   ·exact .inl ⟨T.nW ..,T.nW ..⟩
   ·rw[T.gX,T.gX];exact uM h1 m
   ·rw[T.fQ,T.fQ];exact uM h2 m
  |some c=>
   have h:(ob (dj r c) λc'=>some (T.n (some c') l1 r1))=some t':=h;replace h:=ak h;obtain⟨c1,h3,h⟩:=h;cases h;rcases dN i with rfl|⟨m,rfl⟩|⟨m,rfl⟩
   ·exact .inr ⟨c,c1,T.nW ..,T.nW ..,h3⟩
   ·rw[T.gX,T.gX];exact uM h1 m
   ·rw[T.fQ,T.fQ];exact uM h2 m
def OY {km oM:Ren} {φ:Nat->Option Nat} (h:∀a b x,φ a=some b->km a=some x->oM b=some x) {k k':eX} {x:Loc} (hk:kr (dV φ n) k=some k') (hb:qX P km x w k):qX P oM x w k':=by
 unfold kr at hk;split at hk
 ·rename_i c sz m et;replace hk:=ak hk;obtain⟨c',hc,hk⟩:=hk;simp only[bD]at hk;cases hk;refine⟨λi l' e=>?_,hb.all,hb.free,hb.shape,hb.mult,hb.pin⟩;rcases uM hc i with ⟨_,e2⟩|⟨l,l1,e1,e2,hl⟩
  ·rw[e2]at e;cases e
  ·rw[e2]at e;cases e;obtain⟨q1,q2,q3⟩:=hb.cell i l e1;obtain⟨r1,r2⟩:=OW hl;refine⟨q1,by rw[r1];exact q2,λj v' hj=>?_⟩;obtain⟨v,hv,hr⟩:=r2 j v' hj;obtain⟨u,hu,hvu⟩:=q3 j v hv;exact⟨u,hu,yf h n _ _ _ hr hvu⟩
 ·cases hk
def BT:∀(i:Nat) (l:List Nat),Lk i l=l[i]?
 |0,[]=>rfl
 |0,_::_=>rfl
 |i+1,[]=>rfl
 |i+1,_::t=>by show Lk i t=_;rw[BT i t];simp
def DF:∀ {l:List Nat} {a i j:Nat},my l a i=some j->∃q,j=i+q∧l[q]? =some a
 | [],a,i,j,h=>by cases h
 |x::t,a,i,j,h=>by
  have h:aD (Nat.beq x a) (cG i λi=>some i) (my t a (Nat.succ i))=some j:=h;rw[bW]at h;split at h
  ·rename_i hb;rw[bD]at h;cases h;exact⟨0,rfl,by simp[au hb]⟩
  ·obtain⟨q,h1,h2⟩:=DF h;exact⟨q+1,by omega,by simpa using h2⟩
def yg {r:Value->bQ} {h:T eX}:∀ {l:List Nat} {i:Nat} {t t':T eX},lH r h l i t=some t'->∀j,
  (j<i->t'.get j=t.get j)∧(i+l.length<=j->t'.get j=t.get j)∧
  (∀q a,l[q]? =some a->(h.get a=none∧t'.get (i+q)=none)∨∃b b',h.get a=some b∧kr r b=some b'∧t'.get (i+q)=some b')
 | [],i,t,t',e,j=>by cases e;exact⟨λ_=>rfl,λ_=>rfl,λq a ha=>by simp at ha⟩
 |a::l,i,t,t',e,j=>by
  have fP:∃(x:Option eX) (t1:T eX),T.put x t i=some t1∧lH r h l (Nat.succ i) t1=some t'∧((h.get a=none∧x=none)∨∃b b',h.get a=some b∧kr r b=some b'∧x=some b'):=by
   have e:oR (Option (T eX)) (ob (T.put none t i) λt'=>lH r h l (Nat.succ i) t') (λb=>ob (kr r b) λb'=>ob (T.put (some b') t i) λt'=>lH r h l (Nat.succ i) t') (h.get a)=some t':=e;cases hg:h.get a with
   |none=>rw[hg]at e;replace e:=ak e;obtain⟨t1,e1,e2⟩:=e;exact⟨none,t1,e1,e2,.inl ⟨rfl,rfl⟩⟩
   |some b=>rw[hg]at e;replace e:=ak e;obtain⟨b',e0,e⟩:=e;replace e:=ak e;obtain⟨t1,e1,e2⟩:=e;exact⟨some b',t1,e1,e2,.inr ⟨b,b',rfl,e0,rfl⟩⟩
  obtain⟨x,t1,e1,e2,hx⟩:=fP;have hg:=T.jw x t i t1 e1;have ih:= λj=>yg e2 j;refine⟨λhj=>?_,λhj=>?_,λq a' hq=>?_⟩
  ·rw[(ih j).1 (by omega),hg,aC (by omega)]
  ·rw[(ih j).2.1 (by simp at hj;omega),hg,aC (by simp at hj;omega)]
  ·cases q with
   |zero=>
    simp at hq;subst hq;have:t'.get i=x:=by rw[(ih i).1 (by omega),hg,aU rfl]
    rcases hx with ⟨h1,h2⟩|⟨b,b',h1,h2,h3⟩
    ·exact .inl ⟨h1,by show t'.get (i+0)=none;rw[ji,this,h2]⟩
    ·exact .inr ⟨b,b',h1,h2,by show t'.get (i+0)=_;rw[ji,this,h3]⟩
   |succ q=>simp at hq;have:=(ih 0).2.2 q a' hq;rw[show i.succ+q=i+(q+1) by omega]at this;exact this
def BU {r:Value->bQ} {k k':eX} (h:kr r k=some k'):Ga k=false∧Ga k'=false:=by
 unfold kr at h;split at h
 ·replace h:=ak h;obtain⟨c',hc,h⟩:=h;simp only[bD]at h;cases h;exact⟨rfl,rfl⟩
 ·cases h
def OZ {o:Option (Value×AS)} (h:lM o= .val v s):o=some (v,s):=by
 cases o with
 |none=>cases h
 |some p=>obtain⟨a,b⟩:=p;cases h;rfl
def G1:∀ {l:List Nat},l.Nodup->∀ {i j a:Nat},l[i]? =some a->l[j]? =some a->i=j
 | [],_,i,j,a,h,_=>by simp at h
 |x::t,hn,0,0,a,_,_=>rfl
 |x::t,hn,0,j+1,a,h1,h2=>by simp at h1 h2;subst h1;exact absurd (cY h2) (List.nodup_cons.1 hn).1
 |x::t,hn,i+1,0,a,h1,h2=>by simp at h1 h2;subst h2;exact absurd (cY h1) (List.nodup_cons.1 hn).1
 |x::t,hn,i+1,j+1,a,h1,h2=>by simp at h1 h2;rw[G1 (List.nodup_cons.1 hn).2 h1 h2]
def apG {B:Ev} (hB:mj P B) {args args':LVal} (h:lO B f args s= .val v s') (hR:Rel P ρ s w) (ha:bJ ρ args args'):
  jx P (callFunc f args'.toArray) w λu w'=>∃ρ',bN ρ' v u∧Rel P ρ' s' w'∧je ρ s w ρ' s' w':=by
 unfold lO at h;cases hl:(ob (pg (pY 0 12) args []) λl=>mg s.h 0 12 200 0 l)with
 |none=>rw[hl]at h;cases h
 |some l=>
 rw[hl]at h;have h:aD (aD (fA l) (zZ s.nx l) false) (oR Out .no (λargs'=>
    oR Out .no (λh=>xE (len l) λk=>pI s l k (B (.func (.func f) #[] #[]) args' ⟨h,k,k⟩))
     (lH (dV (λa=>my l a 0) 12) s.h l 0 (lQ 20))) (dj (dV (λa=>my l a 0) 12) args)) .no= .val v s':=h
 rw[bW]at h;split at h
 case isFalse=>cases h
 rename_i hc;obtain⟨Dl,cS⟩:=jF hc;replace Dl:=sc Dl;replace cS:=DA cS;cases uu:dj (dV (λa=>my l a 0) 12) args with
 |none=>rw[uu]at h;cases h
 |some a1=>
 rw[uu]at h;cases anY:lH (dV (λa=>my l a 0) 12) s.h l 0 (lQ 20)with
 |none=>rw[anY]at h;cases h
 |some gP=>
 rw[anY]at h;have h:xE (len l) (λk=>pI s l k (B (.func (.func f) #[] #[]) a1 ⟨gP,k,k⟩))= .val v s':=h;have hfn:∀(n:Nat) (k:Nat->Out),xE n k=k n:= λn k=>by cases n<;>rfl
 rw[hfn,dQ]at h;cases ho:B (.func (.func f) #[] #[]) a1 ⟨gP,l.length,l.length⟩with
 |no=>rw[ho]at h;cases h
 |code=>rw[ho]at h;cases h
 |val v1 s1=>
 rw[ho]at h;have h:lM (ob (ob (pY l.length 12 v1 []) λm=>mg s1.h l.length 12 200 0 m) λm=>aD (aD (fA m) (Er l.length m) false)
   (ob (dV (lU l m l.length s.nx) 12 v1) λv'=>ob (lH (dV (lU l m l.length s.nx) 12) s1.h m s.nx s.h) λh=>cG (Nat.add s.nx (len m)) λnx=>cG s.lim λlm=>some (v',⟨h,nx,lm⟩)) none)= .val v s':=h
 replace h:=OZ h;obtain⟨m,hm,h⟩:=ak h;rw[bW]at h;split at h
 case isFalse=>cases h
 rename_i Dj;obtain⟨hmd,afQ⟩:=jF Dj;replace hmd:=sc hmd;replace afQ:=Km afQ;obtain⟨v2,oo,h⟩:=ak h;obtain⟨xo,azj,h⟩:=ak h;rw[bD,bD,dQ]at h;cases h;have VQ:= λj=>yg anY j;have hφ:∀a j,my l a 0=some j->l[j]? =some a:= λa j e=>by obtain⟨q,h1,h2⟩:=DF e;rw[h1,aG];exact h2
 have afR:∃km:Ren,km= λj=>match l[j]? with|some a=>ρ a|none=>none:=⟨_,rfl⟩
 obtain⟨km,afR⟩:=afR;have J0:∀j a,l[j]? =some a->km j=ρ a:= λj a e=>by rw[afR];show(match l[j]? with|some a=>ρ a|none=>none)=_;rw[e]
 have azk:∀j,l.length<=j->km j=none:= λj e=>by rw[afR];show(match l[j]? with|some a=>ρ a|none=>none)=_;rw[eD e]
 have awL:∀a b x,my l a 0=some b->ρ a=some x->km b=some x:= λa b x e1 e2=>by rw[J0 b a (hφ a b e1),e2]
 have rK:∀j k',gP.get j=some k'->j<l.length∧∃a k,l[j]? =some a∧s.h.get a=some k∧kr (dV (λa=>my l a 0) 12) k=some k':= λj k' e=>by
  by_cases hj:j<l.length
  ·refine⟨hj,l[j],?_⟩;rcases(VQ 0).2.2 j l[j] (by simp[hj])with ⟨_,e2⟩|⟨k,k1,e1,e2,e3⟩
   ·rw[aG,e]at e2;cases e2
   ·rw[aG,e]at e3;cases e3;exact⟨k,by simp[hj],e1,e2⟩
  ·rw[(VQ j).2.1 (by omega),oU]at e;cases e
 have xa:Rel P km ⟨gP,l.length,l.length⟩ w:=by
  refine⟨λa ha=>azk a ha,λa ha=>?_,λa k x e e'=>?_,af _,λa a' k k' x x' ed e1 e2 r1 r2 hb=>?_,λg gl vs g1 g2=>?_⟩
  rotate_right
  ·obtain⟨c1,c2,c3⟩:=hR.gl g gl vs g1 g2;refine⟨c1,?_,c3⟩;rintro⟨j,k,x,e,e',hb⟩;obtain⟨_,b,k0,q1,q2,_⟩:=rK j k e;rw[J0 j b q1]at e';exact c2 ⟨b,k0,x,q2,e',hb⟩
  ·cases e:gP.get a with
   |none=>rfl
   |some k=>have:=(rK a k e).1;have ha:l.length<=a:=ha;omega
  ·obtain⟨hj,b,k0,q1,q2,q3⟩:=rK a k e;rw[J0 a b q1]at e';obtain⟨b1,b2⟩:=hR.jI b k0 x q2 e';exact⟨b1,OY awL q3 b2⟩
  ·obtain⟨_,b,k0,q1,q2,q3⟩:=rK a k e1;obtain⟨_,b',k0',q1',q2',q3'⟩:=rK a' k' e2;rw[J0 a b q1]at r1;rw[J0 a' b' q1']at r2;have so:b≠b':= λhe=>by
    subst he;exact ed (G1 Dl q1 q1')
   have:=(hR.pc b b' k0 k0' x x' so q2 q2' r1 r2 hb).1;rw[(BU q3).1]at this;cases this
 have ha1:bJ km a1 args':=GZ (Dz (λv v' u=>yf awL 12 v v' u) uu (GY ha));have dK:=hB _ _ _ _ _ ho km w (.func (.func f) #[] #[]) args' xa (.func f .nil .nil) ha1;have ry:mX (.func (.func f) #[] #[]) args'=callFunc f args'.toArray:=by unfold mX;simp only[Deferred.ofValue,akr,invoke];congr 1;apply eh;simp
 rw[ry]at dK;refine dK.mono λu w' ⟨oM,hv,BJ,hS⟩=>?_;have qz:s1.lim=l.length:=hS.lim;have aJg:∀j,j<l.length->s1.h.get j=gP.get j:= λj hj=>hS.low j hj;have akK:∀j,j<l.length->oM j=km j:= λj hj=>hS.Nq j hj;have aaL:∀b,b<w.heap.size->w'.heap[b]? =w.heap[b]?:= λb hb=>by
  by_cases hh:xl km ⟨gP,l.length,l.length⟩ b
  ·obtain⟨j,k,x,e1,e2,e3⟩:=hh;obtain⟨hj,a,k0,q1,q2,q3⟩:=rK j k e1;rw[<-e3];exact hS.Lh j k x hj hj e1 (BU q3).2 e2
  ·exact(hS.frame b hb hh).1
 have lG:∀j k x,l.length<=j->s1.h.get j=some k->Ga k=false->oM j=some x->x.b<w.heap.size->False:= λj k x hj e1 ero e2 hb=>by
  by_cases hh:xl km ⟨gP,l.length,l.length⟩ x.b
  ·obtain⟨j0,k0,x0,f1,f2,f3⟩:=hh;obtain⟨Nw,a,kk,q1,q2,q3⟩:=rK j0 k0 f1;have:=BJ.pc j j0 k k0 x x0 (by omega) e1 (by rw[aJg j0 Nw];exact f1) e2 (by rw[akK j0 Nw];exact f2) f3.symm;rw[ero]at this;cases this.1
  ·exact(hS.frame x.b hb hh).2 ⟨j,k,x,e1,e2,rfl⟩
 have ZE:∃rW:Ren,rW= λa=>if a<s.nx then ρ a else match m[a-s.nx]? with|some j=>oM j|none=>none:=⟨_,rfl⟩
 obtain⟨rW,ZE⟩:=ZE;have Ex:∀a,a<s.nx->rW a=ρ a:= λa ha=>by rw[ZE];simp[ha]
 have Gu:∀q j,m[q]? =some j->rW (s.nx+q)=oM j:= λq j e=>by
  rw[ZE];have e1:¬(s.nx+q<s.nx):=by omega
  have e2:s.nx+q-s.nx=q:=by omega
  simp only[e1,eG,e2,e]
 have azl:∀a,s.nx+m.length<=a->rW a=none:= λa ha=>by
  rw[ZE];have e1:¬(a<s.nx):=by omega
  have e2:m[a-s.nx]? =none:=eD (by omega);simp only[e1,eG,e2]
 have hle:gq ρ rW:= λa x e=>by
  by_cases ha:a<s.nx
  ·rw[Ex a ha,e]
  ·rw[hR.uz a (by omega)]at e;cases e
 have Om:∀j a x,lU l m l.length s.nx j=some a->oM j=some x->rW a=some x:= λj a x e e2=>by
  unfold lU at e;rw[bW]at e;split at e
  ·rename_i hj;have hj:j<l.length:=by have:=aO hj;omega
   obtain⟨a',e0,e⟩:=ak e;rw[bD]at e;cases e;rw[BT]at e0;rw[akK j hj,J0 j a e0]at e2;exact hle a x e2
  ·obtain⟨q,h1,h2⟩:=DF e;rw[h1,Gu q j h2,e2]
 have Ci:= λj=>yg azj j;have pU:∀a,a<s.nx->xo.get a=s.h.get a:= λa ha=>(Ci a).1 ha;have uN:∀a k,s.nx<=a->xo.get a=some k->∃q j k0,a=s.nx+q∧m[q]? =some j∧s1.h.get j=some k0∧kr (dV (lU l m l.length s.nx) 12) k0=some k:= λa k ha e=>by
  by_cases hq:a-s.nx<m.length
  ·refine⟨a-s.nx,m[a-s.nx],?_⟩;rcases(Ci 0).2.2 (a-s.nx) m[a-s.nx] (by simp[hq])with ⟨_,e2⟩|⟨k0,k1,e1,e2,e3⟩
   ·rw[show s.nx+(a-s.nx)=a by omega,e]at e2;cases e2
   ·rw[show s.nx+(a-s.nx)=a by omega,e]at e3;cases e3;exact⟨k0,by omega,by simp[hq],e1,e2⟩
  ·rw[(Ci a).2.1 (by omega),hR.top a ha]at e;cases e
 refine⟨rW,yf Om 12 _ _ _ oo hv,?_,?_⟩
 ·refine⟨λa ha=>azl a ha,λa ha=>?_,λa k x e e'=>?_,di hR.lim (Nat.le_add_right _ _),λa a' k k' x x' ed e1 e2 r1 r2 hb=>?_,λg gl vs g1 g2=>?_⟩
  rotate_right
  ·obtain⟨c1,c2,c3⟩:=BJ.gl g gl vs g1 g2;refine⟨c1,?_,c3⟩;rintro⟨a,k,x,e,e',hb⟩;have e:xo.get a=some k:=e;by_cases ha:a<s.nx
   ·rw[pU a ha]at e;rw[Ex a ha]at e';exact(hR.gl g gl vs g1 g2).2.1 ⟨a,k,x,e,e',hb⟩
   ·obtain⟨q,j,k0,rfl,f1,f2,_⟩:=uN a k (by omega) e;rw[Gu q j f1]at e';exact c2 ⟨j,k0,x,f2,e',hb⟩
  ·have ha:s.nx+m.length<=a:=ha;show xo.get a=none;rw[(Ci a).2.1 ha,hR.top a (by omega)]
  ·by_cases ha:a<s.nx
   ·have e:xo.get a=some k:=e;rw[pU a ha]at e;rw[Ex a ha]at e';obtain⟨b1,b2⟩:=hR.jI a k x e e';exact⟨bC b1 hS.size,(b2.congr (aaL _ b1)).mono hle⟩
   ·obtain⟨q,j,k0,rfl,f1,f2,f3⟩:=uN a k (by omega) e;rw[Gu q j f1]at e';obtain⟨b1,b2⟩:=BJ.jI j k0 x f2 e';exact⟨b1,OY Om f3 b2⟩
  ·have key:∀a a' k k' x x',a<s.nx->s.nx<=a'->xo.get a=some k->xo.get a'=some k'->rW a=some x->rW a'=some x'->x.b=x'.b->False:= λa a' k k' x x' ha sT e1 e2 r1 r2 hb=>by
    obtain⟨q,j,k0,rfl,f1,f2,f3⟩:=uN a' k' sT e2;rw[pU a ha]at e1;rw[Ex a ha]at r1;rw[Gu q j f1]at r2;have:=(hR.jI a k x e1 r1).1;exact lG j k0 x' (afQ j (cY f1)) f2 (BU f3).1 r2 (by rw[<-hb];exact this)
   by_cases ha:a<s.nx
   ·by_cases sT:a'<s.nx
    ·have e1:xo.get a=some k:=e1;have e2:xo.get a'=some k':=e2;rw[pU a ha]at e1;rw[pU a' sT]at e2;rw[Ex a ha]at r1;rw[Ex a' sT]at r2;exact hR.pc a a' k k' x x' ed e1 e2 r1 r2 hb
    ·exact(key a a' k k' x x' ha (by omega) e1 e2 r1 r2 hb).elim
   ·by_cases sT:a'<s.nx
    ·exact(key a' a k' k x' x sT (by omega) e2 e1 r2 r1 hb.symm).elim
    ·obtain⟨q,j,k0,rfl,f1,f2,f3⟩:=uN a k (by omega) e1;obtain⟨q',j',k0',rfl,f1',f2',f3'⟩:=uN a' k' (by omega) e2;rw[Gu q j f1]at r1;rw[Gu q' j' f1']at r2;have so:j≠j':= λhe=>by
      subst he;exact ed (by rw[G1 hmd f1 f1'])
     have:=(BJ.pc j j' k0 k0' x x' so f2 f2' r1 r2 hb).1;rw[(BU f3).1]at this;cases this
 ·refine⟨λa ha=>Ex a ha,Nat.le_add_right _ _,hS.tape,hS.os,hS.out,hS.size,λb hb hn=>⟨aaL b hb,?_⟩,λa ha hn=> .inl (pU a ha),hS.lp,rfl,λa ha=>pU a (bC ha hR.lim),λa k x ha sT e ero e'=>aaL _ (hR.jI a k x e e').1⟩;rintro⟨a,k,x,e1,e2,e3⟩;by_cases ha:a<s.nx
  ·have e1:xo.get a=some k:=e1;rw[pU a ha]at e1;rw[Ex a ha]at e2;exact hn ⟨a,k,x,e1,e2,e3⟩
  ·obtain⟨q,j,k0,rfl,f1,f2,f3⟩:=uN a k (by omega) e1;rw[Gu q j f1]at e2;exact lG j k0 x (afQ j (cY f1)) f2 (BU f3).1 e2 (by rw[e3];exact hb)
def O0 {B:Ev} (hB:mj P B) {F:FF} (hF:yW P f F):yW P f (uv B f F):=by
 intro ev j7 args s v s' hr ρ w args' hR ha;have hr:akJ (lO B f args s) (F ev args s)= .val v s':=hr;cases hi:lO B f args s with
 |no=>rw[hi]at hr;exact hF ev j7 args s v s' hr ρ w args' hR ha
 |code=>rw[hi]at hr;exact hF ev j7 args s v s' hr ρ w args' hR ha
 |val v1 s1=>rw[hi]at hr;cases hr;exact apG hB hi hR ha
def yF {f:Nat} {e:Ev}:∀ {l:List (Nat×Ev)},lr f l=some e->∃p∈l,p.2=e
 | [],h=>by cases h
 |p::l,h=>by
  have h:aD (Nat.beq f p.1) (some p.2) (lr f l)=some e:=h;rw[bW]at h;split at h
  ·cases h;exact⟨p,by simp,rfl⟩
  ·obtain⟨q,h1,h2⟩:=yF h;exact⟨q,by simp[h1],h2⟩
def O1 (hX:Ab P X) {L:List (Nat×Ev)} (hL:∀p∈L,mj P p.2) {F:FF} (h:pK P X L f=some F):yW P f F:=by
 obtain⟨F0,h0,h⟩:=ak h;cases hb:lr f L with
 |none=>rw[hb]at h;cases h;exact FN hX h0
 |some B=>rw[hb]at h;cases h;obtain⟨p,hp,rfl⟩:=yF hb;exact O0 (hL p hp) (FN hX h0)
def ada (hX:Ab P X) {L:List (Nat×Ev)} (hL:∀p∈L,mj P p.2) (n:Nat):mj P (jH P X L n):=Cf (λ_ _ h=>O1 hX hL h) hX.plain hX.mixed n
def vP {B:Ev} (hB:mj P B) {r:List (Nat×Ev)} (hr:∀p∈r,mj P p.2):∀l:List Nat,∀p∈NL l B r,mj P p.2
 | [],p,hp=>hr p hp
 |f::l,p,hp=>by
  have hp:p∈(f,B)::NL l B r:=hp;rcases List.mem_cons.1 hp with rfl|hp
  ·exact hB
  ·exact vP hB hr l p hp
def CP {n:String} {g g':Nat} {gl:Global} (h:P.globalNamed n=some g) (hg:P.globals[g']? =some gl) (hn:gl.name=n):g'=g:=by
 unfold Program.globalNamed at h;split at h
 ·rename_i a ha;cases h;have hm:g'∈(List.range P.globals.size).filter λg=>(P.globals[g]?).any (·.name==n):=by
   rw[acF];refine⟨List.mem_range.2 (Array.getElem?_eq_some_iff.1 hg).1,?_⟩;rw[hg];simp[hn]
  rw[ha]at hm;simpa using hm
 ·cases h
def qU {w:World}:∀ {l:List (String×DataW Unit)} {ps:List MemPlace} {n:String} {d:DataW Unit},DataW.LaidVars P w l ps->(n,d)∈l->
  ∃g t cs fuel p,P.globalNamed n=some g∧(P.globals[g]?).map (·.type)=some t∧w.var? P n=some cs∧DataW.trod (λ_=>()) P w 0 (λ_=>true) false fuel t cs.toList=some (d,p)
 | [],_,_,_,_,h=>by cases h
 |(n',d')::l,ps,n,d,h,hm=>by
  obtain⟨g,t,cs,fuel,p,q,h1,h2,h3,h4,h5,_⟩:=h;rcases List.mem_cons.1 hm with e|hm
  ·cases e;exact⟨g,t,cs,fuel,p,h1,h2,h3,h4⟩
  ·exact qU h5 hm
def adb {n:String} {g:Nat} {cs:Array Value} (h1:P.globalNamed n=some g) (h3:w.var? P n=some cs):g<w.heap.size:=by
 unfold World.var? at h3;rw[h1]at h3;simp only[pB]at h3;split at h3
 ·rename_i hh;exact(Array.getElem?_eq_some_iff.1 hh).1
 ·cases h3
def AG:DataW Unit:= .agg ((List.range 20).map λi=> .lit (.int .u64 (10^i:Nat)))
def JG {l:List (String×DataW Unit)} (hl:laidMetH P l w) (hm:("internal/strconv.uint64pow10",AG)∈l) (ht:∀g,P.globalNamed "internal/strconv.uint64pow10"=some g->(P.globals[g]?).map (·.type)=some t) (hu:P.underlying t=some (.array 20 e)) (he:P.underlying e=some (.int .u64)) (hc:P.cellsOf e=1) {g:Nat} {gl:Global} (hg:P.globals[g]? =some gl) (hb:gl.name= "internal/strconv.uint64pow10"):
  g<w.heap.size∧∀(i:Nat) (v:Value),((List.range 20).map λi=>Value.int .u64 (10^i:Nat))[i]? =some v->w.cell? ⟨g,i,none⟩=some v:=by
 obtain⟨⟨ps,hl,_,_⟩,_⟩:=laidMetH_iff.1 hl;have zJ:("internal/strconv.uint64pow10",AG)∈l.filter λx=>x.2.handleName?.isNone:=List.mem_filter.2 ⟨hm,rfl⟩;obtain⟨g1,t1,cs,fuel,p,h1,h2,h3,h4⟩:=qU hl zJ;have hgg:=CP h1 hg hb;subst hgg;have:=ht _ h1;rw[h2]at this;injection this with this
 subst this;obtain⟨xs,m,rfl,hx,hlen,hn,Nr⟩:=DataW.trod_array hu h4;have jG:=World.var?_cell h1 h3;refine⟨adb h1 h3,λi v hiv=>?_⟩;rw[iB]at hiv;have hi:i<20:=by
  rcases mH i 20 with h|h
  ·exact h
  ·rw[eD (by simpa using h)]at hiv;cases hiv
 rw[MJ hi]at hiv;injection hiv with hiv
 subst hiv;have pQ:=Nr i hi;rw[hc,qZ]at pQ;have hxi:xs[i]? =some xs[i]:=by rw[ba (by omega)]
 rw[hxi]at pQ;obtain⟨k,e1,e2,_⟩:=DataW.trod_int he pQ;have hd:xs.map (·.1)=(List.range 20).map λi=>(.lit (.int .u64 (10^i:Nat)):DataW Unit):=by
  have:=congrArg Prod.fst hx;simp only[AG]at this;injection this with this
  exact this.symm
 have hdi:(xs.map (·.1))[i]? =((List.range 20).map λi=>(.lit (.int .u64 (10^i:Nat)):DataW Unit))[i]?:=by rw[hd]
 rw[iB,iB,hxi,MJ hi,e2]at hdi;simp only[FX,Option.some.injEq,DataW.lit.injEq,Lit.int.injEq,vH]at hdi;rw[jG];have hci:cs.toList[i]? =some (.int .u64 k):=by
  have:((cs.toList.drop i).take 1)[0]? =some (.int .u64 k):=by rw[e1];rfl
  rw[kj]at this;simpa using this
 rw[uk]at hci;rw[hci,hdi]
def XT {l:List (String×DataW Unit)} (hl:laidMetH P l w) (hm:("internal/strconv.uint64pow10",AG)∈l) (ht:∀g,P.globalNamed "internal/strconv.uint64pow10"=some g->(P.globals[g]?).map (·.type)=some t) (hu:P.underlying t=some (.array 20 e)) (he:P.underlying e=some (.int .u64)) (hc:P.cellsOf e=1):Sh P w:=by
 intro g gl vs hg mu;unfold lh at mu;cases hb:(gl.name== "internal/strconv.uint64pow10")with
 |false=>rw[hb]at mu;cases mu
 |true=>
  rw[hb]at mu;have mu:some ((List.range 20).map λi=>Value.int .u64 (10^i:Nat))=some vs:=mu;injection mu with mu
  subst mu;exact JG hl hm ht hu he hc hg (by simpa using hb)
structure aB (P:Program) (X:QJ)where
 f:Nat
 o:Option FF
 h:iN P X f=o
def anZ (l:List (aB P X)):Option (T (Option FF)):=
 lR (Option (T (Option FF))) (some (xR 11)) (λp _ ih=>ob ih λt=>T.put (some p.o) t p.f) l
structure aUv (P:Program) (X:QJ)where
 t:T (Option FF)
 h:∀f o,T.get t f=some o->iN P X f=o
def VR {X:QJ}:∀ {l:List (aB P X)} {t:T (Option FF)},anZ l=some t->∀f o,T.get t f=some o->iN P X f=o
 | [],t,h,f,o,hg=>by have h:some (xR 11)=some t:=h;cases h;rw[wu]at hg;cases hg
 |p::l,t,h,f,o,hg=>by
  have h:ob (anZ l) (λt=>T.put (some p.o) t p.f)=some t:=h;obtain⟨t0,h0,h⟩:=ak h;rw[T.jw _ _ _ _ h]at hg;by_cases hf:f=p.f
  ·rw[aU hf]at hg;cases hg;rw[hf];exact p.h
  ·rw[aC hf]at hg;exact VR h0 f o hg
def aaM (P:Program) (X:QJ) (pre:T (Option FF)) (L:List (Nat×Ev)) (f:Nat):Option FF:=
 oR (Option FF) (pK P X L f)
  (λo=>oR (Option FF) none (λF=>oR (Option FF) (some F) (λB=>some (uv B f F)) (lr f L)) o) (T.get pre f)
def On (P:Program) (X:QJ) (pre:T (Option FF)) (L:List (Nat×Ev)) (n:Nat):Ev:=Uo P (aaM P X pre L) n
def ade {X0:QJ} (hX:Ab P X) (hX0:Ab P X0) {pre:T (Option FF)} (hp:∀f o,T.get pre f=some o->iN P X0 f=o) {L:List (Nat×Ev)} (hL:∀p∈L,mj P p.2) {F:FF} (h:aaM P X pre L f=some F):yW P f F:=by
 unfold aaM at h;cases hg:T.get pre f with
 |none=>rw[hg]at h;exact O1 hX hL h
 |some o=>
  rw[hg]at h;cases o with
  |none=>cases h
  |some F0=>
   have h0:=hp f _ hg;have hF:yW P f F0:=FN hX0 h0;have h:oR (Option FF) (some (F0)) (λB=>some (uv B f (F0))) (lr f L)=some F:=h;cases hb:lr f L with
   |none=>rw[hb]at h;cases h;exact hF
   |some B=>rw[hb]at h;cases h;obtain⟨p,ED,rfl⟩:=yF hb;exact O0 (hL p ED) hF
def Cj {X0:QJ} (hX:Ab P X) (hX0:Ab P X0) {pre:T (Option FF)} (hp:∀f o,T.get pre f=some o->iN P X0 f=o) {L:List (Nat×Ev)} (hL:∀p∈L,mj P p.2) (n:Nat):mj P (On P X pre L n):=Cf (λ_ _ h=>ade hX hX0 hp hL h) hX.plain hX.mixed n
section aJh
variable {α:Type}
def T.up (t:T α) (k:Nat) (x:α):T α:=(T.put (some x) t k).getD t
def Shape (n:Nat) (t:T α):Prop:=∀k,k<n->∀x,(T.put x t k).isSome=true
def T.zp (x y:Option α):∀(t t':T α) (k j:Nat),T.put x t k=some t'->(T.put y t j).isSome=true->(T.put y t' j).isSome=true
 | .e,t',k,j,h,hj=>by
  rw[T.Up]at h hj;split at h
  ·cases h;split at hj
   ·rename_i e;subst e;rfl
   ·cases hj
  ·cases h
 | .n v l r,t',k,j,h,hj=>by
  rcases dN k with rfl|⟨m,rfl⟩|⟨m,rfl⟩
  ·rw[T.Sa]at h;cases h;rcases dN j with rfl|⟨q,rfl⟩|⟨q,rfl⟩
   ·rfl
   ·rw[T.ta]at hj⊢;simpa using hj
   ·rw[T.pS]at hj⊢;simpa using hj
  ·rw[T.ta]at h;cases hl:T.put x l m with
   |none=>rw[hl]at h;cases h
   |some l'=>
    rw[hl]at h;cases h;rcases dN j with rfl|⟨q,rfl⟩|⟨q,rfl⟩
    ·rfl
    ·rw[T.ta]at hj⊢;have:=T.zp x y l l' m q hl (by simpa using hj);simpa using this
    ·rw[T.pS]at hj⊢;simpa using hj
  ·rw[T.pS]at h;cases hr:T.put x r m with
   |none=>rw[hr]at h;cases h
   |some r'=>
    rw[hr]at h;cases h;rcases dN j with rfl|⟨q,rfl⟩|⟨q,rfl⟩
    ·rfl
    ·rw[T.ta]at hj⊢;simpa using hj
    ·rw[T.pS]at hj⊢;have:=T.zp x y r r' m q hr (by simpa using hj);simpa using this
def Sj {t:T α} {x:α} (h:Shape n t) (hk:k<n):T.put (some x) t k=some (t.up k x):=by
 unfold T.up;have:=h k hk (some x);cases e:T.put (some x) t k with
 |none=>rw[e]at this;cases this
 |some t'=>rfl
def apH {t:T α} {x:α} (h:Shape n t) (hk:k<n):(t.up k x).get j=if j=k then some x else t.get j:=
 T.jw _ _ _ _ (Sj h hk) j
def adf {t:T α} {x:α} (h:Shape n t) (hk:k<n):Shape n (t.up k x):= λj hj y=>T.zp _ _ _ _ _ _ (Sj h hk) (h j hj y)
def T.has:T α->Nat->Prop
 | .e,_=>False
 | .n _ l r,k=>k=0∨(k%2=1∧l.has ((k-1)/2))∨(k%2=0∧k≠0∧r.has ((k-2)/2))
def T.abM (v:Option α) (l r:T α):(T.n v l r).has 0:= .inl rfl
def T.te (v:Option α) (l r:T α) (m:Nat):(T.n v l r).has (2*m+1)↔l.has m:=by
 show(_∨_)↔_;constructor
 ·rintro(h|⟨_,h⟩|⟨h,_⟩)
  ·omega
  ·rwa[show(2*m+1-1)/2=m by omega]at h
  ·omega
 ·intro h;exact .inr (.inl ⟨by omega,by rwa[show(2*m+1-1)/2=m by omega]⟩)
def T.pV (v:Option α) (l r:T α) (m:Nat):(T.n v l r).has (2*m+2)↔r.has m:=by
 show(_∨_)↔_;constructor
 ·rintro(h|⟨h,_⟩|⟨_,_,h⟩)
  ·omega
  ·omega
  ·rwa[show(2*m+2-2)/2=m by omega]at h
 ·intro h;exact .inr (.inr ⟨by omega,by omega,by rwa[show(2*m+2-2)/2=m by omega]⟩)
def T.od (x:Option α):∀(t:T α) (k:Nat),(∀j,j<k->t.has j)->(T.put x t k).isSome=true
 | .e,k,h=>by
  rw[T.Up];split
  ·rfl
  ·exact(h 0 (by omega)).elim
 | .n v l r,k,h=>by
  rcases dN k with rfl|⟨m,rfl⟩|⟨m,rfl⟩
  ·rfl
  ·rw[T.ta];simpa using T.od x l m λj hj=>(T.te v l r j).1 (h _ (by omega))
  ·rw[T.pS];simpa using T.od x r m λj hj=>(T.pV v l r j).1 (h _ (by omega))
def T.qO {x:Option α}:∀ {t t':T α} {k:Nat},T.put x t k=some t'->t'.has k∧∀j,t.has j->t'.has j
 | .e,t',k,h=>by
  rw[T.Up]at h;split at h
  ·rename_i e;subst e;cases h;exact⟨.inl rfl,λj hj=>hj.elim⟩
  ·cases h
 | .n v l r,t',k,h=>by
  rcases dN k with rfl|⟨m,rfl⟩|⟨m,rfl⟩
  ·rw[T.Sa]at h;cases h;refine⟨.inl rfl,λj hj=>?_⟩;rcases dN j with rfl|⟨q,rfl⟩|⟨q,rfl⟩
   ·exact .inl rfl
   ·rwa[T.te]at hj⊢
   ·rwa[T.pV]at hj⊢
  ·rw[T.ta]at h;cases hl:T.put x l m with
   |none=>rw[hl]at h;cases h
   |some l'=>
    rw[hl]at h;cases h;obtain⟨h1,h2⟩:=T.qO hl;refine⟨(T.te ..).2 h1,λj hj=>?_⟩;rcases dN j with rfl|⟨q,rfl⟩|⟨q,rfl⟩
    ·exact .inl rfl
    ·rw[T.te]at hj⊢;exact h2 q hj
    ·rwa[T.pV]at hj⊢
  ·rw[T.pS]at h;cases hr:T.put x r m with
   |none=>rw[hr]at h;cases h
   |some r'=>
    rw[hr]at h;cases h;obtain⟨h1,h2⟩:=T.qO hr;refine⟨(T.pV ..).2 h1,λj hj=>?_⟩;rcases dN j with rfl|⟨q,rfl⟩|⟨q,rfl⟩
    ·exact .inl rfl
    ·rwa[T.te]at hj⊢
    ·rw[T.pV]at hj⊢;exact h2 q hj
def T.th {x:Option α}:∀ {t:T α} {k:Nat},t.has k->(T.put x t k).isSome=true
 | .e,k,h=>h.elim
 | .n v l r,k,h=>by
  rcases dN k with rfl|⟨m,rfl⟩|⟨m,rfl⟩
  ·rfl
  ·rw[T.ta];simpa using T.th (x:=x) ((T.te ..).1 h)
  ·rw[T.pS];simpa using T.th (x:=x) ((T.pV ..).1 h)
def zq:∀(n:Nat) (t:T α),IN n=some t->Shape n t∧∀j,j<n->t.has j
 |0,t,h=>⟨λk hk=>absurd hk (iK k),λk hk=>absurd hk (iK k)⟩
 |n+1,t,h=>by
  have h:oR (Option (T α)) none (λt=>T.put none t n) (IN n)=some t:=h;cases e:IN (α:=α) n with
  |none=>rw[e]at h;cases h
  |some t0=>
   rw[e]at h;obtain⟨_,h2⟩:=zq n t0 e;obtain⟨h3,h4⟩:=T.qO h;have iO:∀j,j<n+1->t.has j:= λj hj=>by
    by_cases e:j=n
    ·rw[e];exact h3
    ·exact h4 j (h2 j (by omega))
   exact⟨λk hk x=>T.th (iO k hk),iO⟩
end aJh
def Gv (l:LVal):bQ:=lR bQ none (λv _ _=>some v) l
def ld1 (s:AS) (v:Value):bQ:=VA.rec (motive:= λ_=>bQ) none (λa=>ob (kJ s a.block a.off 1) Gv) (toA v)
def jK (n:Nat) (s:AS) (a v:Value):Option (Value×AS):=VA.rec (motive:= λ_=>Option (Value×AS)) none (λa=>aD (Nat.beq (len v.cells.toList) n) (ob (ij s a.block a.off v.cells.toList) λs'=>some (.tuple #[],s')) none) (toA a)
def ct (k:Nat) (v:Value):bQ:=VA.rec (motive:= λ_=>bQ) none (λa=>cG (Nat.add a.off k) λo=>some (.pointer (some ⟨a.block,o,none⟩))) (toA v)
def WG (k:Nat) (v:Value):bQ:=match v with| .agg cs=>ob (nQ k cs.toList) Gv|_=>none
def an0 (k n:Nat) (v:Value):bQ:=match v with| .agg cs=>ob (nQ k cs.toList) λl=>ob (ov n l) λr=>some (.agg ⟨r⟩)|_=>none
def elA (sz:Nat) (a:Addr) (n:Nat) (i:Int):bQ:=ob (indexOf i n) λi=>cG (Nat.add a.off (Nat.mul i sz)) λo=>some (.pointer (some ⟨a.block,o,none⟩))
def ki (P:Program) (t sz:Nat) (x i:Value):bQ:=VI.rec (motive:= λ_=>bQ) none (λ_ n=>VS.rec (motive:= λ_=>bQ) (rN P (P.underlying t) x i) (λa m _=>elA sz a m n) (toS x)) (toI i)
def dH (l:LVal):bQ:=match l with| [.slice _ n _]=>some (.int .i64 (.ofNat n))|_=>none
def Gw (l:LVal):bQ:=match l with| [.string b]=>cG (len b.data.toList) λn=>some (.int .i64 (.ofNat n))|_=>none
def tB (t:TypeId) (z:LVal):SF:= λ_ _ s=>vI s t z
def AH (k:TypeId):SF:= λ_ _ s=>ob (s.new (.map k [] 0)) λs'=>some (.map (some s.nx),s')
def mh (f:Nat) (a b:List iD):VF:= λlo tm _=>ob (si a lo tm) λa=>ob (si b lo tm) λb=>some (.func (.func f) ⟨a⟩ ⟨b⟩)
def vj (e:TypeId) (sz:Nat) (s:AS) (l:LVal):Option (Value×AS):=match l with| [x,y]=>ob (lenOf y) λn=>ob (dG s sz y n) λels=>qM s e sz n els x|_=>none
def agH {an:Nat} {fn:Func} {body:Code} {rs:List ResultVar} {b:CF} (h1:qN f X.sum=none) (h2:P.funcs[f]? =some fn) (h3:fn.body=some body) (h4:fn.ntmps=nt) (h5:Df X f=an) (h6:fn.results.toList=rs) (h8:il P f nt an body=some b):iN P X f=some (fFn P an ((IN nt).getD .e) rs b):=by
 subst h4 h5 h6;have ht:∃t:T Value,IN fn.ntmps=some t:=by
  generalize fn.ntmps=n;induction n with
  |zero=>exact⟨.e,rfl⟩
  |succ n ih=>
   obtain⟨t,ht⟩:=ih;have h:=T.od none t n (λj hj=>(zq n t ht).2 j hj);show∃t',oR (Option (T Value)) none (λt=>T.put none t n) (IN n)=some t';rw[ht];cases e:T.put none t n with
   |none=>rw[e]at h;cases h
   |some t'=>exact⟨t',e⟩
 obtain⟨t,ht⟩:=ht;unfold iN;rw[h1];show(match P.funcs[f]? with|some fn=>_|none=>_)=_;rw[h2];show(match fn.body with|some body=>_|none=>_)=_;rw[h3];show ob (IN fn.ntmps) _=_;rw[ht];show ob (il P f fn.ntmps (Df X f) body) _=_;rw[h8];show some (fFn P (Df X f) t fn.results.toList b)=_;rfl
abbrev dJ (f:Nat):Value:= .func (.func f) #[] #[]
abbrev aw (n:Int):Value:= .int .i64 n
noncomputable abbrev b2 (op:BinOp) (k:EK) (c:Bool):Value->Value->bQ:= λa b=>eJ op k c b a
noncomputable abbrev bz (a d:Nat):CI:= .v (v1 (aH a) some) (.t d)
noncomputable abbrev NM (a d:Nat):CI:= .v (v1 (aH a) some) (.l d)
noncomputable abbrev jP (a d:Nat):CI:= .v (v1 (aK a) some) (.t d)
noncomputable abbrev bT (a d:Nat):CI:= .v (v1 (aK a) some) (.l d)
noncomputable abbrev ei (a:Nat) (k:Value->bQ) (d:Nat):CI:= .v (v1 (aH a) k) (.l d)
noncomputable abbrev kO (a:Nat) (k:Value->bQ) (d:Nat):CI:= .v (v1 (aK a) k) (.l d)
noncomputable abbrev gM (a:Nat) (k:AS->Value->bQ) (d:Nat):CI:= .v (r1 (aH a) k) (.l d)
noncomputable abbrev oN (a:Nat) (k:AS->Value->bQ) (d:Nat):CI:= .v (r1 (aK a) k) (.l d)
noncomputable abbrev cN (x y:iD) (k:Value->Value->bQ) (d:Nat):CI:= .v (v2 x y k) (.l d)
noncomputable abbrev dF (f:Nat) (as':List iD) (d:Nat):CI:= .c (bq (dJ f)) as' (.l d)
section
structure TM (n:Nat)where
 t:T Value
 sh:Shape n t
namespace TM
def get (m:TM n) (k:Nat):bQ:=m.t.get k
def set (m:TM n) (k:Nat) (v:Value):TM n:=if h:k<n then⟨m.t.up k v,adf m.sh h⟩else m
def iT (m:TM n) (k j:Nat) (v:Value) (h:k<n):(m.set k v).get j=if j=k then some v else m.get j:=by unfold set get;rw[dif_pos h];exact apH m.sh h
def BV (m:TM n) (k:Nat) (v:Value) (h:k<n):T.put (some v) m.t k=some (m.set k v).t:=by unfold set;rw[dif_pos h];exact Sj m.sh h
end TM
variable {ev:Ev}
def Vq {α:Type} (o:Option α) (k:α->Prop):Prop:=∃a,o=some a∧k a
def WH (o:Out) (k:Value->AS->Prop):Prop:=∃v s',o= .val v s'∧k v s'
def uw (b:Bool) (p q:Prop):Prop:=if b then p else q
@[congr] theorem Vq.congr {α:Type} {o o':Option α} {k:α->Prop} (h:o=o'):Vq o k=Vq o' k:=by rw[h]
@[congr] theorem WH.congr {o o':Out} {k:Value->AS->Prop} (h:o=o'):WH o k=WH o' k:=by rw[h]
@[congr] theorem uw.congr {b b':Bool} {p q:Prop} (h:b=b'):uw b p q=uw b' p q:=by rw[h]
theorem aaN {α:Type} (a:α) (k:α->Prop):Vq (some a) k=k a:=by simp[Vq]
def abN (v:Value) (s:AS) (k:Value->AS->Prop):WH (.val v s) k=k v s:=by simp only[WH,eq_iff_iff];exact⟨λ⟨_,_,e,h⟩=>by cases e;exact h,λh=>⟨_,_,rfl,h⟩⟩
def VU (p q:Prop):uw true p q=p:=by simp[uw]
def VV (p q:Prop):uw false p q=q:=by simp[uw]
def I7 (d:DI) (v:Value) (K:Lo->TM n->AS->Prop) (lo:Lo) (m:TM n) (s:AS):Prop:=
 match d with
 | .no=>K lo m s
 | .l t=>K (.cons t v lo) m s
 | .t t=>t<n∧K lo (m.set t v) s
def W1 (ev:Ev):CI->(Lo->TM n->AS->Prop)->Lo->TM n->AS->Prop
 | .v f d,K,lo,m,s=>Vq (f lo m.t s) λv=>I7 d v K lo m s
 | .s f d,K,lo,m,s=>Vq (f lo m.t s) λp=>I7 d p.1 K lo m p.2
 | .c f atz d,K,lo,m,s=>Vq (si atz lo m.t) λvs=>Vq (f lo m.t) λfv=>WH (ev fv vs s) λv s'=>I7 d v K lo m s'
 | .gd g want d c,K,lo,m,s=>Vq (pJ want (g lo m.t)) λb=>uw b (W1 ev c K lo m s) (I7 d (.tuple #[]) K lo m s)
def WL (ev:Ev):List CI->(TM n->AS->Prop)->Lo->TM n->AS->Prop
 | [],K,_,m,s=>K m s
 |c::l,K,lo,m,s=>W1 ev c (WL ev l K) lo m s
def J1 {d:DI} {k:Eng.K} {R:Lo->TM n->AS->Prop} {Z:Out->Prop} (h:∀lo m s,R lo m s->Z (k lo m.t s)) {m:TM n} (hw:I7 d v R lo m s):Z (m9 d v k lo m.t s):=by
 cases d with
 |no=>exact h _ _ _ hw
 |l t=>exact h _ _ _ hw
 |t t=>show Z (oR Out .no (λtm'=>k lo tm' s) (T.put (some v) m.t t));rw[TM.BV _ _ _ hw.1];exact h _ _ _ hw.2
def Uy {k:Eng.K} {R:Lo->TM n->AS->Prop} {Z:Out->Prop} (h:∀lo m s,R lo m s->Z (k lo m.t s)):∀(c:CI) {lo:Lo} {m:TM n} {s:AS},W1 ev c R lo m s->Z (lP ev c k lo m.t s)
 | .v f d,lo,m,s,⟨v,hf,hw⟩=>by show Z (oR Out .no (λv=>m9 d v k lo m.t s) (f lo m.t s));rw[hf];exact J1 h hw
 | .s f d,lo,m,s,⟨p,hf,hw⟩=>by show Z (oR Out .no (λp=>m9 d p.1 k lo m.t p.2) (f lo m.t s));rw[hf];exact J1 h hw
 | .c f atz d,lo,m,s,⟨vs,h1,fv,h2,v,s',h3,hw⟩=>by show Z (oR Out .no (λl=>oR Out .no (λf=>uR d k lo m.t (ev f l s)) (f lo m.t)) (si atz lo m.t));rw[h1,h2];show Z (uR d k lo m.t (ev fv vs s));rw[h3];exact J1 h hw
 | .gd g want d c,lo,m,s,⟨b,hb,hw⟩=>by
  show Z (ifO (pJ want (g lo m.t)) (lP ev c k lo m.t s) (m9 d (.tuple #[]) k lo m.t s));rw[hb];cases b with
  |true=>exact Uy h c (by simpa[uw]using hw)
  |false=>exact J1 h (by simpa[uw]using hw)
def aaO {R:TM n->AS->Prop} {Z:Out->Prop} (h:∀m s,R m s->Z (.code .normal m.t s)):∀(l:List CI) {lo:Lo} {m:TM n} {s:AS},WL ev l R lo m s->Z (nV ev l tY lo m.t s)
 | [],_,_,_,hw=>h _ _ hw
 |c::l,lo,m,s,hw=>by show Z (lP ev c (nV ev l tY) lo m.t s);exact Uy (λlo m s h'=>aaO h l h') c hw
def WC (ev:Ev) (cf:CF) (Q:cZ->TM n->AS->Prop) (m:TM n) (s:AS):Prop:=∃x m' s',cf ev m.t s= .code x (TM.t m') s'∧Q x m' s'
@[congr] theorem WC.congr {cf:CF} {Q:cZ->TM n->AS->Prop} {m:TM n}:WC ev cf Q m s=WC ev cf Q m s:=rfl
def ar {l:List CI} {Q:cZ->TM n->AS->Prop} {m:TM n} (h:WL ev l (Q .normal) .nil m s):WC ev (aa l) Q m s:=
 aaO (Z:= λo=>∃x m' s',o= .code x (TM.t m') s'∧Q x m' s') (λm s h=>⟨_,_,_,rfl,h⟩) l h
def aR {x:cZ} {Q:cZ->TM n->AS->Prop} {m:TM n} (h:Q x m s):WC ev (aQ x) Q m s:=⟨_,_,_,rfl,h⟩
def Seq (ev:Ev) (g:CF) (Q:cZ->TM n->AS->Prop) (x:cZ) (m:TM n) (s:AS):Prop:=match x with| .normal=>WC ev g Q m s|x=>Q x m s
def aT {f g:CF} {Q:cZ->TM n->AS->Prop} {m:TM n} (h:WC ev f (Seq ev g Q) m s):WC ev (ah f g) Q m s:=by
 obtain⟨x,m',s',h1,h2⟩:=h;unfold WC;show∃x m' s',tG (g ev) (f ev m.t s)= .code x (TM.t m') s'∧Q x m' s';rw[h1];cases x with
 |normal=>exact h2
 |exit i=>exact⟨_,_,_,rfl,h2⟩
 |goto l=>exact⟨_,_,_,rfl,h2⟩
 |ret=>exact⟨_,_,_,rfl,h2⟩
def cK {c:iD} {f g:CF} {Q:cZ->TM n->AS->Prop} {m:TM n} (b:Bool) (hc:c .nil m.t=some (.bool b)) (h:if b then WC ev f Q m s else WC ev g Q m s):WC ev (bw c f g) Q m s:=by
 unfold WC;show∃x m' s',Un (c .nil m.t) (f ev m.t s) (g ev m.t s)= .code x (TM.t m') s'∧Q x m' s';rw[hc];cases b with
 |true=>exact h
 |false=>exact h
def yX (id:Nat) (Q:cZ->TM n->AS->Prop) (x:cZ) (m:TM n) (s:AS):Prop:=match x with| .exit i=>if i=id then Q .normal m s else Q (.exit i) m s|x=>Q x m s
def bY {id:Nat} {f:CF} {Q:cZ->TM n->AS->Prop} {m:TM n} (h:WC ev f (yX id Q) m s):WC ev (bP id f) Q m s:=by
 obtain⟨x,m',s',h1,h2⟩:=h;unfold WC;show∃x m' s',pR id (f ev m.t s)= .code x (TM.t m') s'∧Q x m' s';rw[h1];cases x with
 |normal=>exact⟨_,_,_,rfl,h2⟩
 |exit i=>
  show∃x m1 s1,aD (Nat.beq i id) (Out.code .normal m'.t s') (Out.code (.exit i) m'.t s')= .code x (TM.t m1) s1∧Q x m1 s1;have h2:if i=id then Q .normal m' s' else Q (.exit i) m' s':=h2
  by_cases e:i=id
  ·rw[aU e]at h2;rw[show Nat.beq i id=true from by rw[e];exact bj id];exact⟨_,_,_,rfl,h2⟩
  ·rw[aC e]at h2;rw[show Nat.beq i id=false from by cases hb:Nat.beq i id with|false=>rfl|true=>exact(e (au hb)).elim];exact⟨_,_,_,rfl,h2⟩
 |goto l=>exact⟨_,_,_,rfl,h2⟩
 |ret=>exact⟨_,_,_,rfl,h2⟩
def Round (I:TM n->AS->Prop) (μ:TM n->AS->Nat) (k:Nat) (Q:cZ->TM n->AS->Prop) (x:cZ) (m:TM n) (s:AS):Prop:=match x with| .normal=>I m s∧μ m s<k|x=>Q x m s
def eW {f:CF} {Q:cZ->TM n->AS->Prop} {m:TM n} (I:TM n->AS->Prop) (μ:TM n->AS->Nat) (hI:I m s) (hμ:μ m s<1000000) (step:∀m s,I m s->WC ev f (Round I μ (μ m s) Q) m s):WC ev (fM f) Q m s:=by
 have key:∀(N:Nat) (m:TM n) (s:AS),μ m s<N->I m s->∃x m' s',Oi (f ev) N m.t s= .code x (TM.t m') s'∧Q x m' s':=by
  intro N;induction N with
  |zero=>intro m s h;omega
  |succ N ih=>
   intro m s hN hI;obtain⟨x,m',s',h1,h2⟩:=step m s hI;show∃x m' s',tG (Oi (f ev) N) (f ev m.t s)= .code x (TM.t m') s'∧Q x m' s';rw[h1];cases x with
   |normal=>exact ih m' s' (by have:=h2.2;omega) h2.1
   |exit i=>exact⟨_,_,_,rfl,h2⟩
   |goto l=>exact⟨_,_,_,rfl,h2⟩
   |ret=>exact⟨_,_,_,rfl,h2⟩
 exact key 1000000 m s hμ hI
def WC.mono {f:CF} {Q Q':cZ->TM n->AS->Prop} {m:TM n} (h:WC ev f Q m s) (hq:∀x m s,Q x m s->Q' x m s):WC ev f Q' m s:=by obtain⟨x,m',s',h1,h2⟩:=h;exact⟨x,m',s',h1,hq _ _ _ h2⟩
def cp (o:Out) (R:Value->AS->Prop):Prop:=∃v s',o= .val v s'∧R v s'
def XU (nt:Nat):Shape nt ((IN nt:Option (T Value)).getD .e)∧∀j,((IN nt:Option (T Value)).getD .e).get j=none:=by
 have ht:∃t:T Value,IN nt=some t:=by
  induction nt with
  |zero=>exact⟨.e,rfl⟩
  |succ n ih=>
   obtain⟨t,ht⟩:=ih;have h:=T.od none t n (λj hj=>(zq n t ht).2 j hj);show∃t',oR (Option (T Value)) none (λt=>T.put none t n) (IN n)=some t';rw[ht];cases e:T.put none t n with
   |none=>rw[e]at h;cases h
   |some t'=>exact⟨t',e⟩
 obtain⟨t,ht⟩:=ht;rw[ht];exact⟨(zq nt t ht).1,λj=>Me nt t ht j⟩
def AQ {an:Nat}:∀(l:LVal) (i:Nat) (m:TM n),i+l.length<=n->∃m':TM n,pG an l i m.t=some m'.t∧∀j,m'.get j=if i<=j∧j<i+l.length∧kept an j=true then l[j-i]? else m.get j
 | [],i,m,h=>⟨m,rfl,λj=>by rw[aC];rintro⟨h1,h2,_⟩;simp at h2;omega⟩
 |v::l,i,m,h=>by
  have hlen:(v::l).length=l.length+1:=rfl;rw[hlen]at h;have h0:pG an (v::l) i m.t=ob (aD (kept an i) (T.put (some v) m.t i) (some m.t)) (λt'=>pG an l (Nat.succ i) t'):=rfl;by_cases hk:kept an i=true
  ·obtain⟨m',h1,h2⟩:=AQ l (i+1) (m.set i v) (by omega);refine⟨m',?_,λj=>?_⟩
   ·rw[h0,hk,aS,TM.BV _ _ _ (by omega)];exact h1
   ·rw[h2,TM.iT _ _ _ _ (by omega),hlen];by_cases e:j=i
    ·subst e;rw[aC (by omega),aU rfl,aU ⟨af _,by omega,hk⟩];simp
    ·by_cases hc:i+1<=j∧j<i+1+l.length∧kept an j=true
     ·rw[aU hc,aU ⟨by omega,by omega,hc.2.2⟩];rw[show j-i=(j-(i+1))+1 by omega];simp
     ·rw[aC hc,aC e,aC (λhh=>hc ⟨by omega,by omega,hh.2.2⟩)]
  ·obtain⟨m',h1,h2⟩:=AQ l (i+1) m (by omega);have oL:kept an i=false:=by simpa using hk
   refine⟨m',?_,λj=>?_⟩
   ·rw[h0,oL,de];exact h1
   ·rw[h2,hlen];by_cases e:j=i
    ·subst e;rw[aC (by omega),aC (by simp[oL])]
    ·by_cases hc:i+1<=j∧j<i+1+l.length∧kept an j=true
     ·rw[aU hc,aU ⟨by omega,by omega,hc.2.2⟩];rw[show j-i=(j-(i+1))+1 by omega];simp
     ·rw[aC hc,aC (λhh=>hc ⟨by omega,by omega,hh.2.2⟩)]
def Bq (P:Program) (rs:List ResultVar) (R:Value->AS->Prop) (x:cZ) (m:TM n) (s:AS):Prop:=(x= .normal∨x= .ret)∧cp (xS P rs m.t s) R
def bG {an:Nat} {rs:List ResultVar} {b:CF} {args:LVal} {R:Value->AS->Prop} (hlen:args.length<=n) (h:∀m:TM n,(∀j,m.get j=if j<args.length∧kept an j=true then args[j]? else none)->WC ev b (Bq P rs R) m s):cp (fFn P an ((IN n).getD .e) rs b ev args s) R:=by
 obtain⟨hs,hg⟩:=XU n;obtain⟨m',h1,h2⟩:=AQ (an:=an) args 0 ⟨_,hs⟩ (by omega);obtain⟨x,m1,s1,h3,h4,h5⟩:=h m' (λj=>by
  rw[h2];simp only[gS,vH,aG,yo];split
  ·rfl
  ·exact hg j)
 unfold cp fFn;show∃v s',oR Out .no (λtm=>uS P rs (b ev tm s)) (pG an args 0 ((IN n).getD .e))= .val v s'∧R v s';have h1:pG an args 0 ((IN n).getD .e)=some m'.t:=h1;rw[h1];show∃v s',uS P rs (b ev m'.t s)= .val v s'∧R v s';rw[h3];rcases h4 with rfl|rfl
 ·exact h5
 ·exact h5
def aJi {R:Value->AS->Prop} {m:TM n} (hv:m.get t=some v) (h:R v s):cp (xS P [.tmp t] m.t s) R:=by refine⟨v,s,?_,h⟩;show oR Out .no (λvs=>match vs with| [v]=> .val v s|vs=> .val (.tuple ⟨vs⟩) s) (ob (m.t.get t) λv=>ob (some []) λl=>some (v::l))=_;have hv:m.t.get t=some v:=hv;rw[hv];rfl
theorem Oo {g:CF} {Q:cZ->TM n->AS->Prop} {m:TM n} {s:AS}:Seq ev g Q .normal m s=WC ev g Q m s:=rfl
theorem pL {g:CF} {Q:cZ->TM n->AS->Prop} {m:TM n} {s:AS}:Seq ev g Q .ret m s=Q .ret m s:=rfl
theorem azm {g:CF} {Q:cZ->TM n->AS->Prop} {m:TM n} {s:AS} {i:Nat}:Seq ev g Q (.exit i) m s=Q (.exit i) m s:=rfl
theorem Sk {id:Nat} {Q:cZ->TM n->AS->Prop} {m:TM n} {s:AS}:yX id Q .normal m s=Q .normal m s:=rfl
theorem mY {id:Nat} {Q:cZ->TM n->AS->Prop} {m:TM n} {s:AS}:yX id Q .ret m s=Q .ret m s:=rfl
theorem abO {id i:Nat} {Q:cZ->TM n->AS->Prop} {m:TM n} {s:AS}:yX id Q (.exit i) m s=if i=id then Q .normal m s else Q (.exit i) m s:=rfl
theorem agI {I:TM n->AS->Prop} {μ:TM n->AS->Nat} {k:Nat} {Q:cZ->TM n->AS->Prop} {m:TM n} {s:AS}:Round I μ k Q .normal m s=(I m s∧μ m s<k):=rfl
theorem agJ {I:TM n->AS->Prop} {μ:TM n->AS->Nat} {k:Nat} {Q:cZ->TM n->AS->Prop} {m:TM n} {s:AS}:Round I μ k Q .ret m s=Q .ret m s:=rfl
theorem agK {I:TM n->AS->Prop} {μ:TM n->AS->Nat} {k i:Nat} {Q:cZ->TM n->AS->Prop} {m:TM n} {s:AS}:Round I μ k Q (.exit i) m s=Q (.exit i) m s:=rfl
def b6 {R:Value->AS->Prop} {x:cZ} {m:TM n} (hx:x= .normal∨x= .ret) (hv:m.get t=some v) (h:R v s):Bq P [.tmp t] R x m s:=⟨hx,aJi hv h⟩
def adg {R:Value->AS->Prop} {m:TM n} (hu:m.get a=some u) (hv:xG P t s u=some v) (h:R v s):cp (xS P [.cell a t] m.t s) R:=by refine⟨v,s,?_,h⟩;show oR Out .no (λvs=>match vs with| [v]=> .val v s|vs=> .val (.tuple ⟨vs⟩) s) (ob (ob (m.t.get a) λa=>xG P t s a) λv=>ob (some []) λl=>some (v::l))=_;have hu:m.t.get a=some u:=hu;rw[hu];show oR Out .no (λvs=>match vs with| [v]=> .val v s|vs=> .val (.tuple ⟨vs⟩) s) (ob (xG P t s u) λv=>ob (some []) λl=>some (v::l))=_;rw[hv];rfl
def tM {R:Value->AS->Prop} {x:cZ} {m:TM n} (hx:x= .normal∨x= .ret) (hu:m.get a=some u) (hv:xG P t s u=some v) (h:R v s):Bq P [.cell a t] R x m s:=⟨hx,adg hu hv h⟩
end
variable {m:TM n}
section
theorem cg {α β:Type} (a:α) (k:α->Option β):ob (some a) k=k a:=rfl
theorem akL {n:Nat} (k:Nat) (lo:Lo) (m:TM n):aK k lo (TM.t m)=m.get k:=rfl
theorem azn (v:Value) (lo:Lo) (tm:T Value):bq v lo tm=some v:=rfl
def azo (t t':Nat) (v:Value) (lo:Lo) (tm:T Value):aH t (.cons t' v lo) tm=if t=t' then some v else aH t lo tm:=by
 show aD (Nat.beq t t') (some v) (Lo.get t lo)=_;rw[bW];by_cases h:t=t'
 ·rw[aU h,h,bj];rfl
 ·rw[aC h,aC];·rfl
  intro h';exact h (au h')
theorem aJj (x:iD) (k:Value->bQ) (lo:Lo) (tm:T Value) (s:AS):v1 x k lo tm s=ob (x lo tm) k:=rfl
theorem aJk (x y:iD) (k:Value->Value->bQ) (lo:Lo) (tm:T Value) (s:AS):v2 x y k lo tm s=ob (x lo tm) λa=>ob (y lo tm) λb=>k a b:=rfl
theorem aJl (x:iD) (k:AS->Value->bQ) (lo:Lo) (tm:T Value) (s:AS):r1 x k lo tm s=ob (x lo tm) (k s):=rfl
theorem aJm (x y:iD) (k:AS->Value->Value->bQ) (lo:Lo) (tm:T Value) (s:AS):r2 x y k lo tm s=ob (x lo tm) λa=>ob (y lo tm) λb=>k s a b:=rfl
theorem aJn (x:iD) (k:AS->Value->Option (Value×AS)) (lo:Lo) (tm:T Value) (s:AS):s1 x k lo tm s=ob (x lo tm) (k s):=rfl
theorem aJo (x y:iD) (k:AS->Value->Value->Option (Value×AS)) (lo:Lo) (tm:T Value) (s:AS):s2 x y k lo tm s=ob (x lo tm) λa=>ob (y lo tm) λb=>k s a b:=rfl
theorem aJp (x y z:iD) (k:AS->Value->Value->Value->Option (Value×AS)) (lo:Lo) (tm:T Value) (s:AS):s3 x y z k lo tm s=ob (x lo tm) λa=>ob (y lo tm) λb=>ob (z lo tm) λc=>k s a b c:=rfl
theorem aJq (xs:List iD) (k:LVal->bQ) (lo:Lo) (tm:T Value) (s:AS):vl xs k lo tm s=ob (si xs lo tm) k:=rfl
theorem aJr (xs:List iD) (k:AS->LVal->bQ) (lo:Lo) (tm:T Value) (s:AS):rl xs k lo tm s=ob (si xs lo tm) (k s):=rfl
theorem aJs (xs:List iD) (k:AS->LVal->Option (Value×AS)) (lo:Lo) (tm:T Value) (s:AS):sl xs k lo tm s=ob (si xs lo tm) (k s):=rfl
theorem apI (lo:Lo) (tm:T Value):si [] lo tm=some []:=rfl
theorem apJ (x:iD) (xs:List iD) (lo:Lo) (tm:T Value):si (x::xs) lo tm=ob (x lo tm) λv=>ob (si xs lo tm) λr=>some (v::r):=rfl
theorem agL (c a b:iD) (lo:Lo) (tm:T Value) (s:AS):iS c a b lo tm s=ob (c lo tm) λc=>Uk a b c lo tm:=rfl
def apK (a b:iD) (x:Bool) (lo:Lo) (tm:T Value):Uk a b (.bool x) lo tm=if x then a lo tm else b lo tm:=by cases x<;>rfl
def apL (b:Bool):pJ true (some (.bool b))=some b:=by cases b<;>rfl
def apM (b:Bool):pJ false (some (.bool b))=some (!b):=by cases b<;>rfl
variable {e:EK} {c:Bool}
def agM (k:IntKind) (a b:Int):eJ .add e c (.int k b) (.int k a)=some (.int k (k.wrap (a+b))):=by show aD (tz k k) (mo k (Int.add a b)) none=_;rw[iu,aS,jZ];rfl
def agN (k:IntKind) (a b:Int):eJ .sub e c (.int k b) (.int k a)=some (.int k (k.wrap (a-b))):=by show aD (tz k k) (mo k (Int.sub a b)) none=_;rw[iu,aS,jZ];rfl
def agO (k:IntKind) (a b:Int):eJ .mul e c (.int k b) (.int k a)=some (.int k (k.wrap (a*b))):=by show aD (tz k k) (mo k (Int.mul a b)) none=_;rw[iu,aS,jZ];rfl
def agP (k:IntKind) (a b:Int):eJ .lss e c (.int k b) (.int k a)=some (.bool (decide (a<b))):=by show aD (tz k k) (fG (Fl a b)) none=_;rw[iu,aS,fy,qo]
def agQ (k:IntKind) (a b:Int):eJ .gtr e c (.int k b) (.int k a)=some (.bool (decide (b<a))):=by show aD (tz k k) (fG (Fl b a)) none=_;rw[iu,aS,fy,qo]
def Ks (a b:Int):(!decide (b<a))=decide (a<=b):=by
 by_cases h:b<a
 ·rw[aL h,az (by omega)];rfl
 ·rw[az h,aL (by omega)];rfl
def agR (k:IntKind) (a b:Int):eJ .leq e c (.int k b) (.int k a)=some (.bool (decide (a<=b))):=by show aD (tz k k) (fG (lF (Fl b a))) none=_;rw[iu,aS,fy,lq,qo,Ks]
def agS (k:IntKind) (a b:Int):eJ .geq e c (.int k b) (.int k a)=some (.bool (decide (b<=a))):=by show aD (tz k k) (fG (lF (Fl a b))) none=_;rw[iu,aS,fy,lq,qo,Ks]
def agT (k:IntKind) (a b:Int):eJ .eql e c (.int k b) (.int k a)=some (.bool (decide (a=b))):=by show aD (tz k k) (fG (FY a b)) none=_;rw[iu,aS,fy,oH]
def agU (k:IntKind) (a b:Int):eJ .neq e c (.int k b) (.int k a)=some (.bool (!decide (a=b))):=by show aD (tz k k) (fG (lF (FY a b))) none=_;rw[iu,aS,fy,lq,oH]
def azp (b:Bool):JI .not (.bool b)=some (.bool (!b)):=by cases b<;>rfl
theorem VW (b:Option Addr) (n c:Nat):dH [.slice b n c]=some (.int .i64 n):=rfl
def wrap_i64 {n:Int} (h: -9223372036854775808<=n∧n<9223372036854775808):IntKind.i64.wrap n=n:=wrap_small ⟨h.1,by show n<=9223372036854775807;omega⟩
structure Good (s:AS):Prop where
 lim:s.lim=0
 room:∀j,j<s.nx->s.h.has j
 none:∀j,s.nx<=j->s.h.get j=none
def AS.add (s:AS) (b:eX):AS:=⟨(T.put (some b) s.h s.nx).getD s.h,s.nx+1,s.lim⟩
def AS.wr (s:AS) (i:Nat) (b:Option eX):AS:=⟨(T.put b s.h i).getD s.h,s.nx,s.lim⟩
section
def zd (h:Good s) (b:eX):s.new b=some (s.add b):=by
 have hp:=T.od (some b) s.h s.nx h.room;show oR (Option AS) none (λh=>cG (Nat.succ s.nx) λn=>cG s.lim λl=>some ⟨h,n,l⟩) (T.put (some b) s.h s.nx)=_;unfold AS.add;cases e:T.put (some b) s.h s.nx with
 |none=>rw[e]at hp;cases hp
 |some t=>simp only[bD,gT]
def gF (h:Good s) (b:eX) (j:Nat):(s.add b).h.get j=if j=s.nx then some b else s.h.get j:=(AS.ql (zd h b)).2 j
theorem ep (s:AS) (b:eX):(s.add b).nx=s.nx+1:=rfl
def fW (h:Good s) (b:eX):Good (s.add b):=by
 have hp:=T.od (some b) s.h s.nx h.room;refine⟨h.lim,λj hj=>?_,λj hj=>?_⟩
 ·unfold AS.add;cases e:T.put (some b) s.h s.nx with
  |none=>rw[e]at hp;cases hp
  |some t=>
   obtain⟨h1,h2⟩:=T.qO e;have hj:j<s.nx+1:=hj;by_cases ej:j=s.nx
   ·rw[ej];exact h1
   ·exact h2 j (h.room j (by omega))
 ·have hj:s.nx+1<=j:=hj;rw[gF h,aC (by omega)];exact h.none j (by omega)
def qs (h:Good s) (hi:i<s.nx) (b:Option eX):s.set i b=some (s.wr i b):=by
 have hp:=T.th (x:=b) (h.room i hi);show Bool.rec (motive:= λ_=>Option AS) (oR (Option AS) none (λh=>cG s.nx λn=>cG s.lim λl=>some ⟨h,n,l⟩) (T.put b s.h i)) none (Nat.blt i s.lim)=_;rw[show Nat.blt i s.lim=false from by rw[h.lim];cases hb:Nat.blt i 0 with|false=>rfl|true=>exact absurd (aO hb) (aIB i)];unfold AS.wr;cases e:T.put b s.h i with
 |none=>rw[e]at hp;cases hp
 |some t=>simp only[bD,gT]
def cj (h:Good s) (hi:i<s.nx) (b:Option eX) (j:Nat):(s.wr i b).h.get j=if j=i then b else s.h.get j:=(AS.tK (qs h hi b)).2 j
theorem rz (s:AS) (i:Nat) (b:Option eX):(s.wr i b).nx=s.nx:=rfl
def bZ (h:Good s) (hi:i<s.nx) (b:Option eX):Good (s.wr i b):=by
 have hp:=T.th (x:=b) (h.room i hi);refine⟨h.lim,λj hj=>?_,λj hj=>?_⟩
 ·unfold AS.wr;cases e:T.put b s.h i with
  |none=>rw[e]at hp;cases hp
  |some t=>exact(T.qO e).2 j (h.room j hj)
 ·have hj:s.nx<=j:=hj;rw[cj h hi,aC (by omega)];exact h.none j hj
end
structure Grown (n:Nat) (s s':AS):Prop where
 bt:Good s'
 nx:s.nx<=s'.nx
 eb:∀j,j<n->s'.h.get j=s.h.get j
def Grown.refl (h:Good s) (n:Nat):Grown n s s:=⟨h,af _,λ_ _=>rfl⟩
def Grown.trans {n:Nat} {s s' j9:AS} (h:Grown n s s') (h':Grown n s' j9):Grown n s j9:=⟨h'.bt,di h.nx h'.nx,λj hj=>(h'.eb j hj).trans (h.eb j hj)⟩
def Grown.le {m:Nat} (h:Grown n s s') (hm:m<=n):Grown m s s':=⟨h.bt,h.nx,λj hj=>h.eb j (by omega)⟩
def Grown.add {n:Nat} {s s':AS} (h:Grown n s s') (hn:n<=s'.nx) (b:eX):Grown n s (s'.add b):=
 ⟨fW h.bt b,di h.nx (by rw[ep];omega),λj hj=>by rw[gF h.bt,aC (by omega)];exact h.eb j hj⟩
def Grown.wr {n i:Nat} {s s':AS} (h:Grown n s s') (hn:n<=i) (hi:i<s'.nx) (b:Option eX):Grown n s (s'.wr i b):=
 ⟨bZ h.bt hi b,h.nx,λj hj=>by rw[cj h.bt hi,aC (by omega)];exact h.eb j hj⟩
structure bE (s:AS) (b et sz:Nat) (ro:Bool) (R:List LVal):Prop where
 row:∃c,s.h.get b=some (.cells c sz R.length ro et)∧∀i (h:i<R.length),c.get i=some R[i]
def bE.ext {sz:Nat} {ro:Bool} (h:bE s b et sz ro R) (he:s'.h.get b=s.h.get b):bE s' b et sz ro R:=by obtain⟨c,h1,h2⟩:=h.row;exact⟨c,he.trans h1,h2⟩
def bE.lt (hg:Good s) {sz:Nat} {ro:Bool} (h:bE s b et sz ro R):b<s.nx:=by obtain⟨c,h1,h2⟩:=h.row;refine dg λhle=>?_;rw[hg.none b hle]at h1;cases h1
inductive Sl (n:Nat) (s:AS) (et sz:Nat):Value->List LVal->Prop where
 |nil:Sl n s et sz (.slice none 0 0) []
 |mk {b o c:Nat} {ro:Bool} {R rows:List LVal} (hb:b<n) (h:bE s b et sz ro R) (hl:o+rows.length<=R.length) (hr:rows=(R.drop o).take rows.length) (hc:rows.length<=c/512) (hx:c%2=1∨c%2=0∧oz c=sz):Sl n s et sz (.slice (some ⟨b,o*sz,none⟩) rows.length c) rows
def Sl.ext {n:Nat} {s s':AS} {et sz:Nat} {v:Value} {rows:List LVal} (h:Sl n s et sz v rows) (he:∀j,j<n->s'.h.get j=s.h.get j):Sl n s' et sz v rows:=by
 cases h with
 |nil=>exact .nil
 |mk hb h hl hr hc hx=>exact .mk hb (h.ext (he _ hb)) hl hr hc hx
def Sl.le {n':Nat} {sz:Nat} (h:Sl n s et sz v rows) (hn:n<=n'):Sl n' s et sz v rows:=by
 cases h with
 |nil=>exact .nil
 |mk hb h hl hr hc hx=>exact .mk (by omega) h hl hr hc hx
def Sl.len {sz:Nat} (h:Sl n s et sz v rows):dH [v]=some (.int .i64 (rows.length:Nat)):=by
 cases h with
 |nil=>rfl
 |mk hb h hl hr hc hx=>rfl
def wR (sz:Nat) (v:Value) (i:Nat):Value:=match v with| .slice (some a) _ _=> .pointer (some ⟨a.block,a.off+i*sz,none⟩)|_=> .pointer none
def AR (h:i<n):indexOf (i:Int) n=some i:=by show aD (Nat.blt i n) (some i) none=some i;rw[show Nat.blt i n=true from bg h];rfl
def Sl.ix {sz:Nat} (h:Sl n s et sz v rows) (hi:i<rows.length) {k:IntKind}:ki P t sz v (.int k (i:Int))=some (wR sz v i):=by
 cases h with
 |nil=>exact absurd hi (iK i)
 | @mk b o c ro R _ hb h hl hr hc hx=>show elA sz ⟨b,o*sz,none⟩ rows.length (i:Int)=_;unfold elA;rw[AR hi,cg,bD];rfl
def Sl.row {n:Nat} {s:AS} {et sz:Nat} {v:Value} {rows:List LVal} (h:Sl n s et sz v rows) {i:Nat} (hi:i<rows.length):∃b o c R ro,wR sz v i= .pointer (some ⟨b,(o+i)*sz,none⟩)∧s.h.get b=some (.cells c sz R ro et)∧c.get (o+i)=some rows[i]∧b<n:=by
 cases h with
 |nil=>exact absurd hi (iK i)
 | @mk b o c ro R _ hb h hl hr hc hx=>
  obtain⟨cc,h1,h2⟩:=h.row;refine⟨b,o,cc,_,ro,?_,h1,?_,hb⟩
  ·show Value.pointer (some ⟨b,o*sz+i*sz,none⟩)=_;rw[dy]
  ·rw[h2 (o+i) (by omega)];congr 1;have:rows[i]=((R.drop o).take rows.length)[i]'(by rw[<-hr];exact hi):=by
    congr 1
   rw[this,Bu,S3]
def HQ {sz m:Nat} {ro:Bool} {c:T LVal} {r:LVal} (h:s.h.get b=some (.cells c sz m ro et)) (hc:c.get i=some r) (eR:0<sz):kJ s b (i*sz) sz=some r:=by show gI (s.h.get b) _=_;rw[h];show oR (Option LVal) none (λl=>aD (Nat.beq sz sz) (aD (Nat.beq (Nat.mod (i*sz) sz) 0) (some l) none) (oR (Option LVal) none (λl'=>ov sz l') (nQ (Nat.mod (i*sz) sz) l))) (c.get (Nat.div (i*sz) sz))=_;rw[show Nat.div (i*sz) sz=i from Nat.mul_div_cancel i eR,hc,bj,show Nat.mod (i*sz) sz=0 from Nat.mul_mod_left i sz];rfl
def Mr (ha:isAgg P t=some false) (s:AS) (a:Addr):aM P t s (.pointer (some a))=ob (kJ s a.block a.off 1) Gv:=by show ob (isAgg P t) (λb=>aD b (ob (dc P t) λn=>ob (kJ s a.block a.off n) λl=>some (.agg ⟨l⟩)) (ob (kJ s a.block a.off 1) λl=>lR bQ none (λv _ _=>some v) l))=_;rw[ha];rfl
def Sl.ld (h:Sl n s et 1 v rows) (ha:isAgg P t=some false) (hi:i<rows.length) (hx:rows[i]= [x]):aM P t s (wR 1 v i)=some x:=by obtain⟨b,o,c,R,ro,h1,h2,h3,_⟩:=h.row hi;rw[h1,qZ,Mr ha];show ob (kJ s b (o+i) 1) Gv=_;have:=HQ h2 h3 (by omega);rw[qZ]at this;rw[this,hx];rfl
def Sl.eA {sz:Nat} (h:Sl n s et sz v rows) (ha:isAgg P t=some true) (hs:dc P t=some sz) (h0:0<sz) (hi:i<rows.length):aM P t s (wR sz v i)=some (.agg ⟨rows[i]⟩):=by obtain⟨b,o,c,R,ro,h1,h2,h3,_⟩:=h.row hi;rw[h1];show ob (isAgg P t) (λb'=>aD b' (ob (dc P t) λn=>ob (kJ s b ((o+i)*sz) n) λl=>some (.agg ⟨l⟩)) (ob (kJ s b ((o+i)*sz) 1) λl=>lR bQ none (λv _ _=>some v) l))=_;rw[ha,cg,aS,hs,cg,HQ h2 h3 h0,cg]
def Kt:∀(ls:List LVal) (i:Nat) (t:T LVal),(∀j,j<i->t.has j)->∃t',C0 ls i t=some t'∧∀j,t'.get j=if i<=j∧j<i+ls.length then ls[j-i]? else t.get j
 | [],i,t,_=>⟨t,rfl,λj=>by rw[aC];simp only[gH];omega⟩
 |l::ls,i,t,h=>by
  have hp:=T.od (some l) t i h;cases e:T.put (some l) t i with
  |none=>rw[e]at hp;cases hp
  |some t1=>
   obtain⟨h1,h2⟩:=T.qO e;obtain⟨t',h3,_⟩:=Kt ls (i+1) t1 (λj hj=>by
    by_cases ej:j=i
    ·rw[ej];exact h1
    ·exact h2 j (h j (by omega)))
   have h0:C0 (l::ls) i t=some t':=by show oR (Option (T LVal)) none (λt'=>C0 ls (Nat.succ i) t') (T.put (some l) t i)=_;rw[e];exact h3
   exact⟨t',h0,λj=>uK _ _ _ _ h0 j⟩
def rowOf (els:List LVal):T LVal:=(C0 els 0 .e).getD .e
def G2 (els:List LVal):C0 els 0 .e=some (rowOf els):=by obtain⟨t,h,_⟩:=Kt els 0 .e (λj hj=>absurd hj (iK j));unfold rowOf;rw[h];rfl
def Ku (els:List LVal) (h:i<els.length):(rowOf els).get i=some els[i]:=by rw[uK _ _ _ _ (G2 els) i,aU ⟨gS _,by omega⟩];simp[h]
def AS.row (s:AS) (et sz:Nat) (els:List LVal):AS:=s.add (.cells (rowOf els) sz els.length false et)
def bE.new (h:Good s) (et sz:Nat) (els:List LVal):bE (s.row et sz els) s.nx et sz false els:=
 ⟨_,by unfold AS.row;rw[gF h,aU rfl],λ_ h=>Ku els h⟩
def vQ (h:Good s) (et sz:Nat) (els:List LVal) (hj:j<s.nx):(s.row et sz els).h.get j=s.h.get j:=by unfold AS.row;rw[gF h,aC (by omega)]
def Grown.row {n:Nat} {s s':AS} (h:Grown n s s') (hn:n<=s'.nx) (et sz:Nat) (els:List LVal):Grown n s (s'.row et sz els):=h.add hn _
theorem tN (s:AS) (et sz:Nat) (els:List LVal):(s.row et sz els).nx=s.nx+1:=rfl
def HR {sz:Nat}:∀ {els:List LVal},(∀l∈els,l.length=sz)->y8 sz els=true
 | [],_=>rfl
 |l::els,h=>by show aD (Nat.beq (len l) sz) (y8 sz els) false=true;rw[dQ,h l (by simp),bj,aS];exact HR λl hl=>h l (by simp[hl])
def HT {β:Type} (h:Good s) (et sz:Nat) (hl:∀l∈els,l.length=sz) (k:Nat->AS->Option β):sY s et sz els els.length k=k s.nx (s.row et sz els):=by show aD (Nat.beq (len els) els.length) (aD (y8 sz els) (oR (Option β) none (λt=>oR (Option β) none (λs'=>k s.nx s') (s.new (.cells t sz els.length false et))) (C0 els 0 .e)) none) none=_;rw[dQ,bj,aS,HR hl,aS,G2];show oR (Option β) none (λs'=>k s.nx s') (s.new (.cells (rowOf els) sz els.length false et))=_;rw[zd h];rfl
def VX (b n c:Nat) (s:AS):Wn b n c s=some (.slice (some ⟨b,0,none⟩) n c,s):=by unfold Wn;rw[bD,bD]
def uO (h:Good s) (et sz:Nat) (hl:∀l∈els,l.length=sz) (eR:sz<256):jk s et sz els els.length=some (.slice (some ⟨s.nx,0,none⟩) els.length (cq els.length sz),s.row et sz els):=by unfold jk;rw[show Nat.blt sz 256=true from bg eR,aS,HT h et sz hl,VX]
def oe (h:Good s) (et sz l:Nat) (hl:∀l∈els,l.length=sz):jr s et sz els l els.length=some (.slice (some ⟨s.nx,0,none⟩) l (bH els.length),s.row et sz els):=by unfold jr;rw[HT h et sz hl,VX]
def j1 (n sz:Nat) (h:sz<256):cq n sz/512=n∧cq n sz%2=0∧oz (cq n sz)=sz:=by unfold oz cq;show(512*n+2*sz)/512=n∧(512*n+2*sz)%2=0∧((512*n+2*sz)%512)/2=sz;omega
def cR (n:Nat):bH n/512=n∧bH n%2=1:=by unfold bH;show(512*n+1)/512=n∧(512*n+1)%2=1;omega
def Sl.full {sz c:Nat} {ro:Bool} (hb:b<n) (h:bE s b et sz ro R) (hc:R.length<=c/512) (hx:c%2=1∨c%2=0∧oz c=sz):Sl n s et sz (.slice (some ⟨b,0,none⟩) R.length c) R:=by have:=Sl.mk (o:=0) (rows:=R) hb h (by omega) (by simp) hc hx;rwa[oX]at this
def G3 {c:T LVal}:∀(l:List LVal) (i:Nat),(∀j (h:j<l.length),c.get (i+j)=some l[j])->elems c l.length i=some l
 | [],_,_=>rfl
 |a::l,i,h=>by
  show oR (Option (List LVal)) none (λx=>oR (Option (List LVal)) none (λr=>some (x::r)) (elems c l.length (Nat.succ i))) (c.get i)=_;have h0:c.get i=some a:=by have:=h 0 (by simp);simpa using this
  rw[h0];show oR (Option (List LVal)) none (λr=>some (a::r)) (elems c l.length (Nat.succ i))=_;rw[G3 l (i+1) (λj hj=>by have:=h (j+1) (by simp;omega);rw[show i+1+j=i+(j+1) by omega];simpa using this)]
def Sl.elems {n:Nat} {s:AS} {et sz:Nat} {v:Value} {rows:List LVal} (h:Sl n s et sz v rows) (eR:0<sz):dG s sz v rows.length=some rows:=by
 cases h with
 |nil=>rfl
 | @mk b o c ro R _ hb h hl hr hc hx=>
  obtain⟨cc,h1,h2⟩:=h.row;show nR (Option (List LVal)) (some []) (λ_ _=>uF (s.h.get b) sz (o*sz) rows.length) rows.length=_;cases hn:rows.length with
  |zero=>have:rows= []:=Y4 hn;rw[this];rfl
  |succ q=>
   show uF (s.h.get b) sz (o*sz) (q+1)=_;rw[h1,<-hn];show aD (Nat.beq sz 0) none (aD (Nat.beq sz sz) (aD (Nat.beq (Nat.mod (o*sz) sz) 0) (Go.Eng.elems cc rows.length (Nat.div (o*sz) sz)) none) _)=_;rw[show Nat.beq sz 0=false from by cases sz with|zero=>omega|succ=>rfl,de,bj,aS,show Nat.mod (o*sz) sz=0 from Nat.mul_mod_left o sz,show Nat.div (o*sz) sz=o from Nat.mul_div_cancel o eR];show Go.Eng.elems cc rows.length o=_;refine G3 rows o λj hj=>?_;rw[h2 (o+j) (by omega)];congr 1;have:rows[j]=((R.drop o).take rows.length)[j]'(by rw[<-hr];exact hj):=by congr 1
   rw[this,Bu,S3]
def Sl.lenOf {n:Nat} {s:AS} {et sz:Nat} {v:Value} {rows:List LVal} (h:Sl n s et sz v rows):lenOf v=some rows.length:=by
 cases h with
 |nil=>rfl
 |mk hb h hl hr hc hx=>rfl
inductive Own (n:Nat) (s:AS) (et sz:Nat):Value->List LVal->Option Nat->Prop where
 |nil:Own n s et sz (.slice none 0 0) [] none
 |ex {b:Nat} {R:List LVal} (hb:n<=b) (h:bE s b et sz false R):Own n s et sz (.slice (some ⟨b,0,none⟩) R.length (bH R.length)) R (some b)
 |lb {b:Nat} {R:List LVal} (hb:n<=b) (h:bE s b et sz false R):Own n s et sz (.slice (some ⟨b,0,none⟩) R.length (cq R.length sz)) R (some b)
def Own.ext {n:Nat} {s s':AS} {et sz:Nat} {v:Value} {R:List LVal} {ob':Option Nat} (h:Own n s et sz v R ob') (hg:Good s) (he:∀j,j<s.nx->(∀b,ob'=some b->j=b->s'.h.get j=s.h.get j)):Own n s' et sz v R ob':=by
 cases h with
 |nil=>exact .nil
 |ex hb h=>exact .ex hb (h.ext (he _ (h.lt hg) _ rfl rfl))
 |lb hb h=>exact .lb hb (h.ext (he _ (h.lt hg) _ rfl rfl))
def cW (s:AS) (v:Value):AS:=match v with| .slice (some a) _ c=>if c%2=1 then s else s.wr a.block none|_=>s
def wJ:∀ {els:List LVal},(∀l∈els,cP l=true)->nq els=true
 | [],_=>rfl
 |l::els,h=>by show aD (cP l) (nq els) false=true;rw[h l (by simp),aS];exact wJ λl hl=>h l (by simp[hl])
def Own.append {sz:Nat} {ob':Option Nat} (h:Own n s et sz v R ob') (hg:Good s) (eR:0<sz) (yU:sz<256) (hR:∀l∈R,l.length=sz) (he:∀l∈els,l.length=sz) (vp:∀l∈els,cP l=true) (hlen:R.length+els.length<=1000000) (NH:0<els.length):
  qM s et sz els.length els v=some (.slice (some ⟨s.nx,0,none⟩) (R++els).length (cq (R++els).length sz),(cW s v).row et sz (R++els)):=by
 have iO:∀l∈R++els,l.length=sz:= λl hl=>by
  rcases List.mem_append.1 hl with h|h
  ·exact hR l h
  ·exact he l h
 have ND:Nat.ble (Nat.add R.length els.length) 1000000=true:=bg hlen;have hnm:Nat.add R.length els.length=(R++els).length:=by rw[bL];rfl
 cases h with
 |nil=>
  show aD (Nat.ble (Nat.add 0 els.length) 0) _ (aD (Nat.ble (Nat.add 0 els.length) 1000000) (ob (dG s sz (.slice none 0 0) 0) λeb=>ob (Ae eb els) λall=>aD (xF none 0) (jk s et sz all (Nat.add 0 els.length)) _) none)=_;have hz:Nat.add 0 els.length=els.length:=aG _;rw[hz,show Nat.ble els.length 0=false from by cases hb:Nat.ble els.length 0 with|false=>rfl|true=>have:=aO hb;omega,de,
   show Nat.ble els.length 1000000=true from bg (by omega),aS]
  show ob (some []) _=_;rw[cg,pH,cg];show jk s et sz els els.length=_;rw[uO hg et sz he yU];rfl
 | @ex b _ hb h=>
  obtain⟨d1,d2⟩:=cR R.length;have hS:Sl s.nx s et sz (.slice (some ⟨b,0,none⟩) R.length (bH R.length)) R:=Sl.full (h.lt hg) h (by omega) (.inl d2);show aD (Nat.ble (Nat.add R.length els.length) (Nat.div (bH R.length) 512)) _ (aD (Nat.ble (Nat.add R.length els.length) 1000000) (ob (dG s sz (.slice (some ⟨b,0,none⟩) R.length (bH R.length)) R.length) λeb=>ob (Ae eb els) λall=>aD (Nat.beq (Nat.mod (bH R.length) 2) 1) (jk s et sz all (Nat.add R.length els.length)) _) none)=_;rw[show Nat.div (bH R.length) 512=R.length from d1,show Nat.ble (Nat.add R.length els.length) R.length=false from by cases hb:Nat.ble (Nat.add R.length els.length) R.length with|false=>rfl|true=>have:R.length+els.length<=R.length:=aO hb;omega,de,ND,aS,hS.elems eR,cg,pH,cg,
   show Nat.mod (bH R.length) 2=1 from d2]
  show jk s et sz (R++els) (Nat.add R.length els.length)=_;rw[hnm,uO hg et sz iO yU];unfold cW;simp only[d2,jQ]
 | @lb b _ hb h=>
  obtain⟨d1,d2,d3⟩:=j1 R.length sz yU;have hS:Sl s.nx s et sz (.slice (some ⟨b,0,none⟩) R.length (cq R.length sz)) R:=Sl.full (h.lt hg) h (by omega) (.inr ⟨d2,d3⟩);obtain⟨cc,h1,h2⟩:=h.row;show aD (Nat.ble (Nat.add R.length els.length) (Nat.div (cq R.length sz) 512)) _ (aD (Nat.ble (Nat.add R.length els.length) 1000000) (ob (dG s sz (.slice (some ⟨b,0,none⟩) R.length (cq R.length sz)) R.length) λeb=>ob (Ae eb els) λall=>aD (Nat.beq (Nat.mod (cq R.length sz) 2) 1) (jk s et sz all (Nat.add R.length els.length)) (aD (nq els) (uG s et sz (some ⟨b,0,none⟩) R.length (Nat.add R.length els.length) (cq R.length sz) all) none)) none)=_;rw[show Nat.div (cq R.length sz) 512=R.length from d1,show Nat.ble (Nat.add R.length els.length) R.length=false from by cases hb:Nat.ble (Nat.add R.length els.length) R.length with|false=>rfl|true=>have:R.length+els.length<=R.length:=aO hb;omega,de,ND,aS,hS.elems eR,cg,pH,cg,
   show Nat.mod (cq R.length sz) 2=0 from d2,wJ vp]
  show uG s et sz (some ⟨b,0,none⟩) R.length (Nat.add R.length els.length) (cq R.length sz) (R++els)=_;show aD (Nat.beq (oz (cq R.length sz)) sz) (gI (s.h.get b) λcc vV m ro RH=>aD ro none (aD (Nat.beq sz vV) (aD (Nat.beq et RH) (aD (Nat.beq (Nat.mod 0 sz) 0) (ob (s.set b none) λs1=>jk s1 et sz (R++els) (Nat.add R.length els.length)) none) none) none)) none=_;rw[d3,bj,aS,h1];show aD (Nat.beq sz sz) (aD (Nat.beq et et) (aD (Nat.beq (Nat.mod 0 sz) 0) (ob (s.set b none) λs1=>jk s1 et sz (R++els) (Nat.add R.length els.length)) none) none) none=_;rw[bj,aS,bj,aS,show Nat.mod 0 sz=0 from ayH sz];show ob (s.set b none) _=_;rw[qs hg (h.lt hg),cg,hnm,uO (bZ hg (h.lt hg) _) et sz iO yU];unfold cW;simp only[d2];rfl
def HU {sz:Nat} {base:Option Addr} {m c:Nat} (h:Sl n s et sz (.slice base m c) rows) {l:Nat} (hl:l<=k) (hk:k<=rows.length) (lo hi:bQ) (e1:jT 0 lo=some l) (e2:jT m hi=some k):
  ∃v,vJ sz base m c lo hi none=some v∧Sl n s et sz v ((rows.take k).drop l):=by
 show∃v,ob (jT 0 lo) (λl=>ob (jT m hi) λh=>aD (mM l h (mq base c)) (match base with
     |none=>some (.slice none 0 0)
     |some a=>aD (xF base c) (mkSlice a (Nat.add a.off (Nat.mul l sz)) (Nat.sub h l) (bH (Nat.sub (Nat.div c 512) l)))
       (aD (Nat.beq (oz c) sz) (mkSlice a (Nat.add a.off (Nat.mul l sz)) (Nat.sub h l) (cq (Nat.sub (Nat.div c 512) l) sz)) none)) none)=some v∧_
 rw[e1,cg,e2,cg];cases h with
 |nil=>
  have I8:k=0:=by simpa using hk
  have NZ:l=0:=by omega
  subst I8 NZ;exact⟨_,rfl,.nil⟩
 | @mk b o _ ro R _ hb h hle hr hc hx=>
  have ug:mM l k (mq (some ⟨b,o*sz,none⟩) c)=true:=by show aD (Nat.ble l k) (Nat.ble k (c/512)) false=true;rw[bg hl,aS];exact bg (by omega)
  rw[ug,aS];have hlen:((rows.take k).drop l).length=k-l:=by simp;omega
  have fL:(rows.take k).drop l=(R.drop (o+l)).take ((rows.take k).drop l).length:=by
   rw[hlen]
   conv=>lhs;rw[hr]
   rw[List.take_take,show min k rows.length=k from by omega,List.drop_take,fS]
  show∃v,aD (Nat.beq (Nat.mod c 2) 1) (mkSlice ⟨b,o*sz,none⟩ (o*sz+l*sz) (k-l) (bH (c/512-l))) (aD (Nat.beq (oz c) sz) (mkSlice ⟨b,o*sz,none⟩ (o*sz+l*sz) (k-l) (cq (c/512-l) sz)) none)=some v∧_;have It:∀q,mkSlice ⟨b,o*sz,none⟩ (o*sz+l*sz) (k-l) q=some (.slice (some ⟨b,(o+l)*sz,none⟩) ((rows.take k).drop l).length q):= λq=>by unfold mkSlice;rw[bD,bD,bD,hlen,dy]
  rw[It,It];rcases hx with hx|⟨hx,hz⟩
  ·rw[show Nat.mod c 2=1 from hx];obtain⟨d1,d2⟩:=cR (c/512-l);exact⟨_,rfl,.mk hb h (by rw[hlen];omega) fL (by rw[hlen,d1];omega) (.inl d2)⟩
  ·rw[show Nat.mod c 2=0 from hx,hz,bj];by_cases hs:sz<256
   ·obtain⟨d1,d2,d3⟩:=j1 (c/512-l) sz hs;exact⟨_,rfl,.mk hb h (by rw[hlen];omega) fL (by rw[hlen,d1];omega) (.inr ⟨d2,d3⟩)⟩
   ·have:oz c<256:=by unfold oz;show c%512/2<256;omega
    omega
theorem agV (k:IntKind) (d n:Nat):jT d (some (.int k (n:Int)))=some n:=rfl
theorem agW (d:Nat):jT d none=some d:=rfl
def DG {e sz:Nat} (he:P.underlying t=some (.slice e)) (eR:dc P e=some sz) (base:Option Addr) (m c:Nat) (lo hi mx:bQ):tC P (P.underlying t) (.slice base m c) lo hi mx=vJ sz base m c lo hi mx:=by rw[he];show ob (dc P e) (λsz=>vJ sz base m c lo hi mx)=_;rw[eR];rfl
def vR:Value->Bool| .slice none _ _=>true|_=>false
def agX {c:Bool} (base:Option Addr) (m q:Nat):eJ .eql .slice c (.slice none 0 0) (.slice base m q)=some (.bool (vR (.slice base m q))):=by cases base<;>rfl
def Sl.akM {sz:Nat} (h:Sl n s et sz v rows) {c:Bool}:eJ .eql .slice c (.slice none 0 0) v=some (.bool (vR v)):=by
 cases h with
 |nil=>rfl
 |mk hb h hl hr hc hx=>rfl
def Sl.WI {sz:Nat} (h:Sl n s et sz v rows):∃base m c,v= .slice base m c:=by
 cases h with
 |nil=>exact⟨_,_,_,rfl⟩
 |mk hb h hl hr hc hx=>exact⟨_,_,_,rfl⟩
def Sl.agY {sz:Nat} (h:Sl n s et sz v rows) (hn:vR v=true):v= .slice none 0 0∧rows= []:=by
 cases h with
 |nil=>exact⟨rfl,rfl⟩
 |mk hb h hl hr hc hx=>cases hn
def apN {e sz:Nat} {z:LVal} (hg:Good s) (he:fu P t=some e) (hi:dW P e=some (sz,z)):bF P t 0 [] s []=some (.slice (some ⟨s.nx,0,none⟩) 0 (bH 0),s.row e sz []):=by show ob (fu P t) (λe=>ob (dW P e) λi=>aD (Nat.ble (Nat.mul 0 i.1) 16000000) (ob (some []) λtX=>ob (some tX) λels=>jr s e i.1 els 0 0) none)=_;rw[he,cg,hi,cg,show Nat.mul 0 sz=0 from oX sz];show jr s e sz [] 0 0=_;exact oe (els:= []) hg e sz 0 (λl hl=>by cases hl)
def oV (h:v.cells= #[v]):len v.cells.toList=1:=by rw[h];rfl
def qt {e:Nat} {z:Value} (hg:Good s) (he:fu P t=some e) (hi:dW P e=some (1,[z])) (hv:v.cells= #[v]):bF P t 1 [0] s [v]=some (.slice (some ⟨s.nx,0,none⟩) 1 (bH 1),s.row e 1 [[v]]):=by show ob (fu P t) (λe=>ob (dW P e) λi=>aD (Nat.ble (Nat.mul 1 i.1) 16000000) (ob (tW i.2 1) λtX=>ob (iL i.1 [(0,v)] tX) λels=>jr s e i.1 els 1 1) none)=_;rw[he,cg,hi,cg];show ob (aD (Nat.beq (len v.cells.toList) 1) (ob (jE v.cells.toList 0 [[z]]) λr=>some r) none) (λels=>jr s e 1 els 1 1)=_;rw[oV hv,hv];exact oe (els:= [[v]]) hg e 1 1 (λl hl=>by simp at hl;subst hl;rfl)
def vG {e:Nat} {z:Value} (hg:Good s) (he:fu P t=some e) (hi:dW P e=some (1,[z])) (hv:v.cells= #[v]) (hu:u.cells= #[u]):bF P t 2 [0,1] s [v,u]=some (.slice (some ⟨s.nx,0,none⟩) 2 (bH 2),s.row e 1 [[v],[u]]):=by show ob (fu P t) (λe=>ob (dW P e) λi=>aD (Nat.ble (Nat.mul 2 i.1) 16000000) (ob (tW i.2 2) λtX=>ob (iL i.1 [(0,v),(1,u)] tX) λels=>jr s e i.1 els 2 2) none)=_;rw[he,cg,hi,cg];show ob (aD (Nat.beq (len v.cells.toList) 1) (ob (jE v.cells.toList 0 [[z],[z]]) λr=>aD (Nat.beq (len u.cells.toList) 1) (ob (jE u.cells.toList 1 r) λr=>some r) none) none) (λels=>jr s e 1 els 2 2)=_;rw[oV hv,oV hu,hv,hu];exact oe (els:= [[v],[u]]) hg e 1 2 (λl hl=>by simp at hl;rcases hl with rfl|rfl<;>rfl)
def ze {m:Nat} {sz:Nat} {ob':Option Nat} (h:Own n s et sz v R ob') (hy:Sl m s et sz y els) (hg:Good s) (eR:0<sz) (yU:sz<256) (hR:∀l∈R,l.length=sz) (he:∀l∈els,l.length=sz) (vp:∀l∈els,cP l=true) (hlen:R.length+els.length<=1000000) (NH:0<els.length):
  vj et sz s [v,y]=some (.slice (some ⟨s.nx,0,none⟩) (R++els).length (cq (R++els).length sz),(cW s v).row et sz (R++els)):=by
 show ob (lenOf y) (λn=>ob (dG s sz y n) λels=>qM s et sz n els v)=_;rw[hy.lenOf,cg,hy.elems eR,cg];exact h.append hg eR yU hR he vp hlen NH
def Own.sl {sz:Nat} {ob':Option Nat} (hg:Good s) (eR:sz<256) (h:Own n s et sz v R ob'):Sl s.nx s et sz v R:=by
 cases h with
 |nil=>exact .nil
 |ex hb h=>exact Sl.full (h.lt hg) h (by rw[(cR _).1];exact af _) (.inl (cR _).2)
 |lb hb h=>exact Sl.full (h.lt hg) h (by rw[(j1 _ _ eR).1];exact af _) (.inr ⟨(j1 _ _ eR).2.1,(j1 _ _ eR).2.2⟩)
def Grown.drop {sz:Nat} {ob':Option Nat} (h:Grown n s s') (ho:Own n s' et sz v R ob'):Grown n s (cW s' v):=by
 cases ho with
 |nil=>exact h
 |ex hb hr=>unfold cW;simp only[(cR _).2,jQ];exact h
 | @lb b _ hb hr=>
  unfold cW;show Grown n s (if cq R.length sz%2=1 then s' else s'.wr b none);split
  ·exact h
  ·exact h.wr hb (hr.lt h.bt) _
def BW (s:AS) (v:Value):(cW s v).nx=s.nx:=by
 unfold cW;split
 ·split
  ·rfl
  ·rfl
 ·rfl
end
section
variable {ev:Ev}
abbrev KD (n:Nat):=List BI->Lo->TM n->AS->Prop
def WR (f:VF) (d:DI) (hi:Nat) (K:KD n) (cs:List BI) (lo:Lo) (m:TM n) (s:AS):Prop:=Vq (f lo m.t s) λv=>I7 d v (K ((hi,λs'=>EH v (f lo m.t s'))::cs)) lo m s
def WX (ev:Ev):DR->KD n->KD n
 | .pa c,K,cs,lo,m,s=>W1 ev c (K cs) lo m s
 | .rd f d hi,K,cs,lo,m,s=>WR f d hi K cs lo m s
 | .gr g want f d hi,K,cs,lo,m,s=>Vq (pJ want (g lo m.t)) λb=>uw b (WR f d hi K cs lo m s) (I7 d (.tuple #[]) (K cs) lo m s)
def WXs (ev:Ev):List DR->KD n->KD n
 | [],K,cs,lo,m,s=>K cs lo m s
 |x::l,K,cs,lo,m,s=>WX ev x (WXs ev l K) cs lo m s
def C9 (k:Nat) (s:AS):List BI->Prop
 | []=>True
 |c::l=>(k<=c.1->c.2 s=true)∧C9 k s l
def WSt (ev:Ev) (last:List DR) (R:TM n->AS->Prop):Nat->List zY->KD n
 |k,[],cs,lo,m,s=>WXs ev last (λcs _ m s=>C9 k s cs∧R m s) cs lo m s
 |k,st::l,cs,lo,m,s=>WXs ev st.pre (λcs lo m s=>C9 k s cs∧W1 ev st.w (WSt ev last R (k+1) l cs) lo m s) cs lo m s
def FO {k:Nat} {s:AS}:∀ {l:List BI},C9 k s l->mc k s l=true
 | [],_=>rfl
 |c::l,⟨h1,h2⟩=>by
  show aD (Nat.ble k c.1) (aD (c.2 s) (mc k s l) false) (mc k s l)=true;by_cases h:k<=c.1
  ·rw[bg h,aS,h1 h,aS];exact FO h2
  ·rw[show Nat.ble k c.1=false from by cases hb:Nat.ble k c.1 with|false=>rfl|true=>exact(h (aO hb)).elim,de];exact FO h2
def akN {k:KC} {K:KD n} {Z:Out->Prop} (h:∀cs lo m s,K cs lo m s->Z (k cs lo m.t s)) {f:VF} {d:DI} {hi:Nat} {cs:List BI} (hw:WR f d hi K cs lo m s):Z (rdStep f d hi k cs lo m.t s):=by obtain⟨v,hf,hw⟩:=hw;show Z (oR Out .no (λv=>m9 d v (k ((hi,λs'=>EH v (f lo m.t s'))::cs)) lo m.t s) (f lo m.t s));rw[hf];exact J1 (λlo m s h'=>h _ lo m s h') hw
def azq {k:KC} {K:KD n} {Z:Out->Prop} (h:∀cs lo m s,K cs lo m s->Z (k cs lo m.t s)):∀(x:DR) {cs:List BI} {lo:Lo} {m:TM n} {s:AS},WX ev x K cs lo m s->Z (Oh ev x k cs lo m.t s)
 | .pa c,cs,lo,m,s,hw=>Uy (λlo m s h'=>h cs lo m s h') c hw
 | .rd f d hi,cs,lo,m,s,hw=>akN h hw
 | .gr g want f d hi,cs,lo,m,s,⟨b,hb,hw⟩=>by
  show Z (ifO (pJ want (g lo m.t)) (rdStep f d hi k cs lo m.t s) (m9 d (.tuple #[]) (k cs) lo m.t s));rw[hb];cases b with
  |true=>exact akN h (by simpa[uw]using hw)
  |false=>exact J1 (λlo m s h'=>h cs lo m s h') (by simpa[uw]using hw)
def Sm {k:KC} {K:KD n} {Z:Out->Prop} (h:∀cs lo m s,K cs lo m s->Z (k cs lo m.t s)):∀(l:List DR) {cs:List BI} {lo:Lo} {m:TM n} {s:AS},WXs ev l K cs lo m s->Z (tE ev l k cs lo m.t s)
 | [],_,_,_,_,hw=>h _ _ _ _ hw
 |x::l,cs,lo,m,s,hw=>by show Z (Oh ev x (tE ev l k) cs lo m.t s);exact azq (λcs lo m s h'=>Sm h l h') x hw
def abP {last:List DR} {R:TM n->AS->Prop} {Z:Out->Prop} (h:∀m s,R m s->Z (.code .normal m.t s)):∀(l:List zY) (k:Nat) {cs:List BI} {lo:Lo} {m:TM n} {s:AS},WSt ev last R k l cs lo m s->Z (j4 ev l last tY k cs lo m.t s)
 | [],k,cs,lo,m,s,hw=>by show Z (tE ev last (rI k λ_=>tY) cs lo m.t s);refine Sm (K:= λcs _ m s=>C9 k s cs∧R m s) (λcs lo m s h'=>?_) last hw;show Z (aD (mc k s cs) (tY lo m.t s) .no);rw[FO h'.1];exact h _ _ h'.2
 |st::l,k,cs,lo,m,s,hw=>by show Z (tE ev st.pre (rI k λcs=>lP ev st.w (j4 ev l last tY (Nat.succ k) cs)) cs lo m.t s);refine Sm (K:= λcs lo m s=>C9 k s cs∧W1 ev st.w (WSt ev last R (k+1) l cs) lo m s) (λcs lo m s h'=>?_) st.pre hw;show Z (aD (mc k s cs) (lP ev st.w (j4 ev l last tY (Nat.succ k) cs) lo m.t s) .no);rw[FO h'.1];exact Uy (λlo m s h''=>abP h l (k+1) h'') st.w h'.2
def gY {st:List zY} {last:List DR} {Q:cZ->TM n->AS->Prop} (h:WSt ev last (Q .normal) 0 st [] .nil m s):WC ev (fe st last) Q m s:=
 abP (Z:= λo=>∃x m' s',o= .code x (TM.t m') s'∧Q x m' s') (λm s h=>⟨_,_,_,rfl,h⟩) st 0 h
@[congr] theorem C9.congr {l:List BI}:C9 k s l=C9 k s l:=rfl
theorem apO (k:Nat) (s:AS):C9 k s []=True:=rfl
def apP (k i:Nat) (s:AS) (v:Value) (f:AS->bQ) (l:List BI):C9 k s ((i,λs'=>EH v (f s'))::l)=((k<=i->Vq (f s) λu=>qQ 12 v u=true)∧C9 k s l):=by
 show((k<=i->EH v (f s)=true)∧C9 k s l)=_;congr 1;refine propext ⟨λh hk=>?_,λh hk=>?_⟩
 ·have:=h hk;cases e:f s with
  |none=>rw[e]at this;cases this
  |some u=>rw[e]at this;exact⟨u,rfl,this⟩
 ·obtain⟨u,hu,hv⟩:=h hk;rw[hu];exact hv
def jg (v:Value):Prop:=∀d,3<=d->qQ d v v=true
def cB (h:jg v):qQ 12 v v=true:=h 12 (by decide)
def adh (k:IntKind) (a:Int):jg (.int k a):= λd hd=>by
 obtain⟨d,rfl⟩:∃e,d=e+1:=⟨d-1,by omega⟩
 show aD (tz k k) (FY a a) false=true;rw[iu,aS,oH];simp
def XV (b:Bool):jg (.bool b):= λd hd=>by
 obtain⟨d,rfl⟩:∃e,d=e+1:=⟨d-1,by omega⟩
 cases b<;>rfl
def Ck (b:ByteArray):jg (.string b):= λd hd=>by
 obtain⟨d,rfl⟩:∃e,d=e+1:=⟨d-1,by omega⟩
 show NY b.data.toList b.data.toList=true;rw[tL];simp
def jB (b o:Nat):nZ ⟨b,o,none⟩ ⟨b,o,none⟩=true:=by show aD (Nat.beq b b) (Nat.beq o o) false=true;rw[bj,bj];rfl
def adi (b o:Nat):jg (.pointer (some ⟨b,o,none⟩)):= λd hd=>by
 obtain⟨d,rfl⟩:∃e,d=e+1:=⟨d-1,by omega⟩
 exact jB b o
def adj:jg (.pointer none):= λd hd=>by
 obtain⟨d,rfl⟩:∃e,d=e+1:=⟨d-1,by omega⟩
 rfl
def FP (b o m c:Nat):jg (.slice (some ⟨b,o,none⟩) m c):= λd hd=>by
 obtain⟨d,rfl⟩:∃e,d=e+1:=⟨d-1,by omega⟩
 show aD (nZ ⟨b,o,none⟩ ⟨b,o,none⟩) (aD (Nat.beq m m) (Nat.beq c c) false) false=true;rw[jB,bj,bj];rfl
def AT:jg (.slice none 0 0):= λd hd=>by
 obtain⟨d,rfl⟩:∃e,d=e+1:=⟨d-1,by omega⟩
 rfl
def adk (b:Nat):jg (.map (some b)):= λd hd=>by
 obtain⟨d,rfl⟩:∃e,d=e+1:=⟨d-1,by omega⟩
 show Nat.beq b b=true;rw[bj]
def Sl.same {sz:Nat} (h:Sl k s et sz v rows):jg v:=by
 cases h with
 |nil=>exact AT
 |mk hb h hl hr hc hx=>exact FP _ _ _ _
def Flat (v:Value):Prop:=∀d,2<=d->qQ d v v=true
def G4 {f:Value->Value->Bool}:∀ {l:LVal},(∀v∈l,f v v=true)->vh f l l=true
 | [],_=>rfl
 |v::l,h=>by show aD (f v v) (vh f l l) false=true;rw[h v (by simp),aS];exact G4 λu hu=>h u (by simp[hu])
def gj (h:∀v∈l,Flat v):jg (.agg ⟨l⟩):= λd hd=>by
 obtain⟨d,rfl⟩:∃e,d=e+1:=⟨d-1,by omega⟩
 show vh (qQ d) l l=true;exact G4 λv hv=>h v hv d (by omega)
def ca (t:TypeId) (vs:LVal):eX:= .cells (.n (some vs) .e .e) vs.length 1 false t
def iH (h:Good s) (t:TypeId) (vs:LVal):vI s t vs=some (.pointer (some ⟨s.nx,0,none⟩),s.add (ca t vs)):=by show cG (len vs) (λsz=>oR (Option (Value×AS)) none (λs'=>some (.pointer (some ⟨s.nx,0,none⟩),s')) (s.new (.cells (.n (some vs) .e .e) sz 1 false t)))=_;rw[bD,dQ,zd h];rfl
def ay (s:AS) (b:Nat) (t:TypeId) (vs:LVal):Prop:=s.h.get b=some (ca t vs)
def ay.lt (h:ay s b t vs) (hg:Good s):b<s.nx:=by refine dg λhle=>?_;unfold ay at h;rw[hg.none b hle]at h;cases h
def ay.new (hg:Good s) (t:TypeId) (vs:LVal):ay (s.add (ca t vs)) s.nx t vs:=by unfold ay;rw[gF hg,aU rfl]
def ay.add {s:AS} {b t:Nat} {vs:LVal} (h:ay s b t vs) (hg:Good s) (k:eX):ay (s.add k) b t vs:=by unfold ay;rw[gF hg,aC (fK (h.lt hg))];exact h
def ay.row {s:AS} {b t:Nat} {vs:LVal} (h:ay s b t vs) (hg:Good s) (et sz:Nat) (els:List LVal):ay (s.row et sz els) b t vs:=h.add hg _
def ay.wr {s:AS} {b t i:Nat} {vs:LVal} (h:ay s b t vs) (hg:Good s) (hi:i<s.nx) (hb:b≠i) (k:Option eX):ay (s.wr i k) b t vs:=by unfold ay;rw[cj hg hi,aC hb];exact h
def ay.set (hg:Good s) (hi:i<s.nx) (t:TypeId) (vs:LVal):ay (s.wr i (some (ca t vs))) i t vs:=by unfold ay;rw[cj hg hi,aU rfl]
def ay.eq (h:ay s b t vs) (he:s'.h.get b=s.h.get b):ay s' b t vs:=by unfold ay;rw[he];exact h
def ay.grown (h:ay s b t vs) (hg:Grown k s s') (hb:b<k):ay s' b t vs:=h.eq (hg.eb b hb)
def Cl:∀ {n:Nat} {l:LVal},n<=l.length->ov n l=some (l.take n)
 |0,_,_=>rfl
 |n+1,[],h=>by simp at h
 |n+1,v::l,h=>by show oR (Option LVal) none (λr=>some (v::r)) (ov n l)=_;rw[Cl (by simpa using h)];rfl
def yh:∀ {n:Nat} {l:LVal},n<=l.length->nQ n l=some (l.drop n)
 |0,_,_=>rfl
 |n+1,[],h=>by simp at h
 |n+1,v::l,h=>by show nQ n l=_;rw[yh (by simpa using h)];rfl
def ay.kJ {s:AS} {b t:Nat} {vs:LVal} (h:ay s b t vs) {o k:Nat} (hk:o+k<=vs.length) (I8:0<k):kJ s b o k=some ((vs.drop o).take k):=by
 show gI (s.h.get b) _=_;unfold ay at h;rw[h];have hd:Nat.div o vs.length=0:=Xy (by omega);have hm:Nat.mod o vs.length=o:=Xz (by omega);show oR (Option LVal) none (λl=>aD (Nat.beq k vs.length) (aD (Nat.beq (Nat.mod o vs.length) 0) (some l) none) (oR (Option LVal) none (λl'=>ov k l') (nQ (Nat.mod o vs.length) l))) ((T.n (some vs) .e .e).get (Nat.div o vs.length))=_;rw[hd,hm];show aD (Nat.beq k vs.length) (aD (Nat.beq o 0) (some vs) none) (oR (Option LVal) none (λl'=>ov k l') (nQ o vs))=_;by_cases e:k=vs.length
 ·have ho:o=0:=by omega
  subst e ho;rw[bj];simp[aD]
 ·rw[show Nat.beq k vs.length=false from by cases hb:Nat.beq k vs.length with|false=>rfl|true=>exact(e (au hb)).elim,de,yh (by omega)];exact Cl (by simp;omega)
def ay.ld (h:ay s b t vs) (ha:isAgg P ty=some false) {o:Nat} (ho:o<vs.length):aM P ty s (.pointer (some ⟨b,o,none⟩))=some vs[o]:=by rw[Mr ha];show ob (Go.Eng.kJ s b o 1) Gv=_;rw[h.kJ (by omega) (by omega),cg];rw[A3 ho];rfl
def ay.eA (h:ay s b t vs) (ha:isAgg P ty=some true) (hs:dc P ty=some k) {o:Nat} (hk:o+k<=vs.length) (I8:0<k):aM P ty s (.pointer (some ⟨b,o,none⟩))=some (.agg ⟨(vs.drop o).take k⟩):=by show ob (isAgg P ty) (λb'=>aD b' (ob (dc P ty) λn=>ob (Go.Eng.kJ s b o n) λl=>some (.agg ⟨l⟩)) (ob (Go.Eng.kJ s b o 1) λl=>lR bQ none (λv _ _=>some v) l))=_;rw[ha,cg,aS,hs,cg,h.kJ hk I8,cg]
def O2:∀(vs l:LVal),vs.length<=l.length->Gl vs l=some (vs++l.drop vs.length)
 | [],l,_=>rfl
 |v::vs,[],h=>by simp at h
 |v::vs,u::l,h=>by show oR (Option LVal) none (λr=>some (v::r)) (Gl vs l)=_;rw[O2 vs l (by simpa using h)];rfl
def Ms (vs:LVal):∀(l:LVal) (o:Nat),o+vs.length<=l.length->Bi vs l o=some (l.take o++vs++l.drop (o+vs.length))
 |l,0,h=>by show Gl vs l=_;rw[O2 vs l (by omega)];simp
 | [],o+1,h=>by simp at h
 |v::l,o+1,h=>by show oR (Option LVal) none (λr=>some (v::r)) (Bi vs l o)=_;rw[Ms vs l o (by simp at h;omega)];simp[show o+1+vs.length=(o+vs.length)+1 by omega]
def ay.ij {s:AS} {b t:Nat} {vs us:LVal} (h:ay s b t vs) (hg:Good s) {o:Nat} (hk:o+us.length<=vs.length) (hv:0<vs.length) (h1:cP us=true) (ho:o<vs.length):ij s b o us=some (s.wr b (some (ca t (vs.take o++us++vs.drop (o+us.length))))):=by show aD (cP us) (gI (s.h.get b) _) none=_;have hh:=h;unfold ay at h;rw[h1,aS,h];have hd:Nat.div o vs.length=0:=Xy ho;have hm:Nat.mod o vs.length=o:=Xz ho;show oR (Option AS) none (λl=>oR (Option AS) none (λl'=>oR (Option AS) none (λc'=>AS.set s b (some (.cells c' vs.length 1 false t))) (T.put (some l') (.n (some vs) .e .e) (Nat.div o vs.length))) (Bi us l (Nat.mod o vs.length))) ((T.n (some vs) .e .e).get (Nat.div o vs.length))=_;rw[hd,hm];show oR (Option AS) none (λl'=>oR (Option AS) none (λc'=>AS.set s b (some (.cells c' vs.length 1 false t))) (T.put (some l') (.n (some vs) .e .e) 0)) (Bi us vs o)=_;rw[Ms us vs o hk];show AS.set s b (some (.cells (.n (some (vs.take o++us++vs.drop (o+us.length))) .e .e) vs.length 1 false t))=_;rw[qs hg (hh.lt hg)];congr 3;unfold ca;congr 1;simp;omega
def ay.Fu (h:ay s b t vs) (hg:Good s) {o:Nat} (ho:o<vs.length) (hv:v.cells= #[v]) (h1:dZ v=true):jK 1 s (.pointer (some ⟨b,o,none⟩)) v=some (.tuple #[],s.wr b (some (ca t (vs.set o v)))):=by show aD (Nat.beq (len v.cells.toList) 1) (ob (Go.Eng.ij s b o v.cells.toList) λs'=>some (Value.tuple #[],s')) none=_;rw[oV hv,hv];show ob (Go.Eng.ij s b o [v]) (λs'=>some (Value.tuple #[],s'))=_;rw[h.ij hg (us:= [v]) (by simp;omega) (by omega) (by show aD (dZ v) true false=true;rw[h1];rfl) ho,cg];congr 5;rw[Rg,aU ho];simp
def ay.kU {us:LVal} (h:ay s b t vs) (hg:Good s) (hu:us.length=vs.length) (hk:k=us.length) (h0:0<k) (h1:cP us=true):jK k s (.pointer (some ⟨b,0,none⟩)) (.agg ⟨us⟩)=some (.tuple #[],s.wr b (some (ca t us))):=by show aD (Nat.beq (len us) k) (ob (Go.Eng.ij s b 0 us) λs'=>some (Value.tuple #[],s')) none=_;rw[dQ,hk,bj,aS,h.ij hg (by omega) (by omega) h1 (by omega),cg];simp[hu]
def bO (k b o:Nat):ct k (.pointer (some ⟨b,o,none⟩))=some (.pointer (some ⟨b,o+k,none⟩)):=by show cG (Nat.add o k) (λo=>some (Value.pointer (some ⟨b,o,none⟩)))=_;rw[bD];rfl
theorem cH (a:Addr):dt (.pointer (some a))=some (.pointer (some a)):=rfl
def pM (h:Good s) (t:TypeId) (z:LVal) (lo:Lo) (tm:T Value):tB t z lo tm s=some (.pointer (some ⟨s.nx,0,none⟩),s.add (ca t z)):=iH h t z
def ez (h:Good s) (t:TypeId) (v:Value):ia t s v=some (.pointer (some ⟨s.nx,0,none⟩),s.add (ca t v.cells.toList)):=iH h t _
def oW {c:Bool} (a:Option Addr):eJ .eql .ptr c (.pointer none) (.pointer a)=some (.bool a.isNone):=by cases a<;>rfl
theorem vS (t:TypeId) (s:AS) (a:Addr):xG P t s (.pointer (some a))=aM P t s (.pointer (some a)):=rfl
def HV (h:∀v∈l,Flat v):jg (.tuple ⟨l⟩):= λd hd=>by
 obtain⟨d,rfl⟩:∃e,d=e+1:=⟨d-1,by omega⟩
 show vh (qQ d) l l=true;exact G4 λv hv=>h v hv d (by omega)
def Sn (k:IntKind) (a:Int):qQ 12 (.int k a) (.int k a)=true:=cB (adh k a)
def VY (b:Bool):qQ 12 (.bool b) (.bool b)=true:=cB (XV b)
def Sq (b:ByteArray):qQ 12 (.string b) (.string b)=true:=cB (Ck b)
def tO (b o:Nat):qQ 12 (.pointer (some ⟨b,o,none⟩)) (.pointer (some ⟨b,o,none⟩))=true:=cB (adi b o)
def apQ:qQ 12 (.pointer none) (.pointer none)=true:=cB adj
def apR (b:Nat):qQ 12 (.map (some b)) (.map (some b))=true:=cB (adk b)
def gk (k:IntKind) (a:Int):Flat (.int k a):= λd hd=>by
 obtain⟨d,rfl⟩:∃e,d=e+1:=⟨d-1,by omega⟩
 show aD (tz k k) (FY a a) false=true;rw[iu,aS,oH];simp
def q8 (b:Bool):Flat (.bool b):= λd hd=>by
 obtain⟨d,rfl⟩:∃e,d=e+1:=⟨d-1,by omega⟩
 cases b<;>rfl
def rL (b:ByteArray):Flat (.string b):= λd hd=>by
 obtain⟨d,rfl⟩:∃e,d=e+1:=⟨d-1,by omega⟩
 show NY b.data.toList b.data.toList=true;rw[tL];simp
def adl (b:Nat):Flat (.map (some b)):= λd hd=>by
 obtain⟨d,rfl⟩:∃e,d=e+1:=⟨d-1,by omega⟩
 show Nat.beq b b=true;rw[bj]
theorem XW (a b:Value):fB 0 (.tuple #[a,b])=some a:=rfl
theorem XY (a b:Value):fB 1 (.tuple #[a,b])=some b:=rfl
end
def yG:∀(d i:Nat),i<2^d-1->(pD d).has i
 |0,i,h=>by simp at h
 |d+1,i,h=>by
  have e:pD (d+1)= .n none (pD d) (pD d):=rfl;rw[e];have hp:2^(d+1)=2*2^d:=by rw[ayI];omega
  rcases dN i with rfl|⟨m,rfl⟩|⟨m,rfl⟩
  ·exact T.abM _ _ _
  ·exact(T.te _ _ _ _).2 (yG d m (by omega))
  ·exact(T.pV _ _ _ _).2 (yG d m (by omega))
def O3:∀(es:List xk),∃t,idx es=some t∧∀i,i<2047->t.has i
 | []=>⟨_,rfl,λi hi=>yG 11 i hi⟩
 |e::es=>by
  obtain⟨t,ht,hh⟩:=O3 es;have cS:ixV e.1<2047:=by unfold ixV;have:Nat.mod (hV e.1) 1021<1021:=uE _ (by decide);omega
  have hp:=T.th (x:=some (e::bucket t (ixV e.1))) (hh _ cS);cases hq:T.put (some (e::bucket t (ixV e.1))) t (ixV e.1)with
  |none=>rw[hq]at hp;cases hp
  |some t'=>refine⟨t',?_,λi hi=>(T.qO hq).2 i (hh i hi)⟩;show oR (Option (T (List xk))) none (λt=>JT e t) (idx es)=_;rw[ht];show JT e t=_;unfold JT;rw[bD];exact hq
def AU {k:Value} {d:Nat}:∀(es:List (Value×Value×Nat)),(∀p∈es,∃b,vn d k p.1=some b)->∃o,zX (vn d k) es=some o
 | [],_=>⟨none,rfl⟩
 |p::es,h=>by
  obtain⟨b,hb⟩:=h p (by simp);obtain⟨o,ho⟩:=AU es λq hq=>h q (by simp[hq]);have e:zX (vn d k) (p::es)=oR (Option (Option (Value×Nat))) none (λb=>aD b (some (some p.2)) (zX (vn d k) es)) (vn d k p.1):=rfl;rw[e,hb];cases b with
  |true=>exact⟨_,rfl⟩
  |false=>exact⟨o,ho⟩
def HW {k:Value} (h:∀p∈es,∃b,vn 8 k p.1=some b):∃o,jj k es=some o:=by
 have h2:(jj k es=zX (vn 8 k) es)∨jj k es=Oe k es:=by unfold jj;cases k<;>first|exact .inl rfl|exact .inr rfl
 rcases h2 with e|e
 ·rw[e];exact AU es h
 ·rw[e];obtain⟨t,ht,_⟩:=O3 es;unfold Oe;rw[bD,ht,cg];exact AU _ λp hp=>h p ((GQ ht _ _).1 hp).1
def Keys (k:Value) (es:List (Value×Value×Nat)):Prop:=∀p∈es,∃b,vn 8 k p.1=some b
def uV {k:Value} (h:Keys k es) (hn:∀p∈es,p.1≠k):jj k es=some none:=by
 obtain⟨o,ho⟩:=HW h;rcases wm ho with ⟨v,h1,h2⟩|⟨h1,_⟩
 ·exact(hn _ h2 rfl).elim
 ·rw[ho,h1]
def Cm {k:Value} (h:Keys k es) (hd:(es.map (·.1)).Nodup) (hm:(k,v,b)∈es):jj k es=some (some (v,b)):=by
 obtain⟨o,ho⟩:=HW h;rcases wm ho with ⟨u,h1,h2⟩|⟨_,h2⟩
 ·rw[ho,h1];congr 2;have:∀ {es:List (Value×Value×Nat)},(es.map (·.1)).Nodup->∀ {u w:Value×Nat},(k,u)∈es->(k,w)∈es->u=w:=by
   intro es;induction es with
   |nil=>intro _ u w hu;cases hu
   |cons p es ih=>
    intro hd u w hu hw;rw[br,xh]at hd;rcases List.mem_cons.1 hu with e|zI
    ·rcases List.mem_cons.1 hw with e'|xb
     ·rw[<-e]at e';injection e' with _ e';exact e'.symm
     ·exact(hd.1 (by rw[<-e];exact List.mem_map.2 ⟨_,xb,rfl⟩)).elim
    ·rcases List.mem_cons.1 hw with e'|xb
     ·exact(hd.1 (by rw[<-e'];exact List.mem_map.2 ⟨_,zI,rfl⟩)).elim
     ·exact ih hd.2 zI xb
  exact this hd h2 hm
 ·exact(h2 _ hm rfl).elim
def ly (d:Nat) (k:IntKind) (a b:Int):vn (d+1) (.int k a) (.int k b)=some (decide (a=b)):=by show aD (tz k k) (some (FY a b)) none=_;rw[iu,aS,oH]
def VZ (d:Nat) (a b:ByteArray):vn (d+1) (.string a) (.string b)=some (a.data.toList==b.data.toList):=by show some (NY a.data.toList b.data.toList)=_;rw[tL]
def Mu {d:Nat}:∀ {l l':LVal},l.length=l'.length->(∀i (h:i<l.length) (h':i<l'.length),∃b,vn d l[i] l'[i]=some b)->∃b,mL (mapM' (vn d) l) l'=some b
 | [],[],_,_=>⟨true,rfl⟩
 | [],_::_,h,_=>by simp at h
 |_::_,[],h,_=>by simp at h
 |v::l,v'::l',h,hh=>by
  obtain⟨b,hb⟩:=hh 0 (by simp) (by simp);obtain⟨c,hc⟩:=Mu (d:=d) (l:=l) (l':=l') (by simpa using h) (λi h1 h2=>by have:=hh (i+1) (by simp;omega) (by simp;omega);simpa using this);have e:mL (mapM' (vn d) (v::l)) (v'::l')=oR (Option Bool) none (λb=>aD b (mL (mapM' (vn d) l) l') (some false)) (vn d v v'):=rfl;have hb:vn d v v'=some b:=hb;rw[e,hb];cases b with
  |true=>exact⟨c,hc⟩
  |false=>exact⟨_,rfl⟩
def V0 {d:Nat} (h:∃b,mL (mapM' (vn d) l) l'=some b):∃b,vn (d+1) (.agg ⟨l⟩) (.agg ⟨l'⟩)=some b:=h
def cy (s:AS) (r:Nat) (kt:TypeId) (es:List (Value×Value×Nat)) (ck:Nat):Prop:=s.h.get r=some (.map kt es ck)
def cy.lt (h:cy s r kt es ck) (hg:Good s):r<s.nx:=by refine dg λhle=>?_;unfold cy at h;rw[hg.none r hle]at h;cases h
def cy.eq (h:cy s r kt es ck) (he:s'.h.get r=s.h.get r):cy s' r kt es ck:=by unfold cy;rw[he];exact h
def Cn {k:Value} (h:cy s r kt es ck) (hk:keyOf P t=some (kt,et)) (hf:eB P kt k=true) (Lv:jj k es=some (some (v,b))):
  jR P s t true k (.map (some r))=some (.tuple #[v,.bool true])∧jR P s t false k (.map (some r))=some v:=by
 have key:∀ok,jR P s t ok k (.map (some r))=ob (jj k es) (λq=>mN P et ok q):= λok=>by show ob (keyOf P t) (λke=>aD (eB P ke.1 k) (mapOf (s.h.get r) λkt es _=>aD (Nat.beq kt ke.1) (ob (jj k es) λr=>mN P ke.2 ok r) none) none)=_;rw[hk,cg];show aD (eB P kt k) _ none=_;rw[hf,aS];unfold cy at h;rw[h];show aD (Nat.beq kt kt) (ob (jj k es) λr=>mN P et ok r) none=_;rw[bj,aS]
 constructor<;>rw[key,Lv]<;>rfl
def zr {k z:Value} (h:cy s r kt es ck) (hk:keyOf P t=some (kt,et)) (hf:eB P kt k=true) (Lv:jj k es=some none) (hz:mU P et=some z):
  jR P s t true k (.map (some r))=some (.tuple #[z,.bool false])∧jR P s t false k (.map (some r))=some z:=by
 have key:∀ok,jR P s t ok k (.map (some r))=ob (jj k es) (λq=>mN P et ok q):= λok=>by show ob (keyOf P t) (λke=>aD (eB P ke.1 k) (mapOf (s.h.get r) λkt es _=>aD (Nat.beq kt ke.1) (ob (jj k es) λr=>mN P ke.2 ok r) none) none)=_;rw[hk,cg];show aD (eB P kt k) _ none=_;rw[hf,aS];unfold cy at h;rw[h];show aD (Nat.beq kt kt) (ob (jj k es) λr=>mN P et ok r) none=_;rw[bj,aS]
 constructor<;>rw[key,Lv,cg]<;>show ob (mU P et) _=_<;>rw[hz]<;>rfl
def BX {k:Value} (hg:Good s) (h:cy s r kt es ck) (hk:keyOf P t=some (kt,et)) (hf:eB P kt k=true) (Lv:jj k es=some none):
  iF P t s (.map (some r)) k v=some (.tuple #[],s.wr r (some (.map kt ((k,v,ck+1)::es) (ck+1)))):=by
 have hh:=h;show ob (keyOf P t) _=_;rw[hk,cg];show aD (eB P kt k) _ none=_;rw[hf,aS];unfold cy at h;show mapOf (s.h.get r) _=_;rw[h];show aD (Nat.beq kt kt) (ob (jj k es) λo=>match o with
   |some _=>ob (qW k v (Nat.succ ck) es) λig=>ob (s.set r (some (.map kt ig ck))) λs'=>some (Value.tuple #[],s')
   |none=>cG (Nat.succ ck) λmT=>ob (s.set r (some (.map kt ((k,v,mT)::es) mT))) λs'=>some (Value.tuple #[],s')) none=_
 rw[bj,aS,Lv,cg];show cG (Nat.succ ck) (λmT=>ob (s.set r (some (.map kt ((k,v,mT)::es) mT))) λs'=>some (Value.tuple #[],s'))=_;rw[bD,qs hg (hh.lt hg)];rfl
def ints (l:List Nat):List LVal:=l.map λn=> [.int .i64 (Int.ofNat n)]
def Ey (l:List Nat):LVal:=l.map λn=> .int .i64 (Int.ofNat n)
def dE (l:List Nat):(ints l).length=l.length:=by unfold ints;simp
def gJ {l:List Nat} (h:i<l.length):(ints l)[i]'(by rw[dE];exact h)= [.int .i64 (Int.ofNat l[i])]:=by unfold ints;simp
def kN (l:List Nat):∀r∈ints l,r.length=1:= λr h=>by obtain⟨n,_,rfl⟩:=List.mem_map.1 h;rfl
def O4 (l:List Nat):∀r∈ints l,cP r=true:= λr h=>by obtain⟨n,_,rfl⟩:=List.mem_map.1 h;rfl
def yS {t b:Nat}:∀(l:List Nat) {s:AS} {vs:LVal} (hg:Good s) (h:ay s b t vs) (o:Nat),o+l.length<=vs.length->0<vs.length->
  ∃s',jh 1 b (ints l) s o=some s'∧Good s'∧s'.nx=s.nx∧ay s' b t (vs.take o++Ey l++vs.drop (o+l.length))∧∀j,j≠b->s'.h.get j=s.h.get j
 | [],s,vs,hg,h,o,_,_=>⟨s,rfl,hg,rfl,by simpa[Ey]using h,λ_ _=>rfl⟩
 |x::l,s,vs,hg,h,o,hl,h0=>by
  have N1:o+l.length+1<=vs.length:=by simpa[gx]using hl
  have fU:=h.ij hg (us:= [.int .i64 (Int.ofNat x)]) (o:=o) (by simp;omega) h0 rfl (by omega);have hb:=h.lt hg;obtain⟨s',e1,e2,e3,e4,e5⟩:=yS l (bZ hg hb _) (ay.set hg hb t _) (o+1) (vs:=vs.take o++ [.int .i64 (Int.ofNat x)]++vs.drop (o+1)) (by simp;omega) (by simp;omega);refine⟨s',?_,e2,e3,?_,λj hj=>by rw[e5 j hj,cj hg hb,aC hj]⟩
  ·show ob (ij s b o [.int .i64 (Int.ofNat x)]) (λs'=>jh 1 b (ints l) s' (Nat.add o 1))=_;rw[fU,cg];exact e1
  ·have:(vs.take o++ [Value.int .i64 (Int.ofNat x)]++vs.drop (o+1)).take (o+1)++Ey l++(vs.take o++ [Value.int .i64 (Int.ofNat x)]++vs.drop (o+1)).drop (o+1+l.length)=vs.take o++Ey (x::l)++vs.drop (o+(x::l).length):=by
    have hA:(vs.take o++ [Value.int .i64 (Int.ofNat x)]).length=o+1:=by simp;omega
    rw[acH hA,Xw,ayK (by rw[hA];omega),hA,fS,jD];simp only[Ey,br,bU,ey,pA,jD];rw[show o+1+(o+1+l.length-(o+1))=o+(l.length+1) by omega]
   rw[this]at e4;exact e4
def Ap (sz:Nat) (b o n:Nat):jX sz ⟨b,o,none⟩ n none none none=some (.slice (some ⟨b,o,none⟩) n (bH n)):=by
 show aD (mM 0 n n) (mkSlice ⟨b,o,none⟩ (Nat.add o (Nat.mul 0 sz)) (Nat.sub n 0) (bH (Nat.sub n 0))) none=_;have h1:mM 0 n n=true:=by show aD (Nat.ble 0 n) (Nat.ble n n) false=true;rw[bg (gS n),aS];exact bg (af n)
 rw[h1,aS];unfold mkSlice;rw[bD,bD,bD,show Nat.add o (Nat.mul 0 sz)=o from by show o+0*sz=o;omega];rfl
def Kv {o dl m:Nat} {l:List Nat} (hg:Good s) (he:tD P ts=some e) (hs:dc P e=some 1) (h:ay s b t vs) {c:Nat} (hy:Sl m s k 1 y (ints l)) (hl:l.length<=dl) (ho:o+dl<=vs.length) (h0:0<vs.length):
  ∃s',xH P ts s [.slice (some ⟨b,o,none⟩) dl c,y]=some (.int .i64 (l.length:Int),s')∧Good s'∧s'.nx=s.nx∧ay s' b t (vs.take o++Ey l++vs.drop (o+l.length))∧∀j,j≠b->s'.h.get j=s.h.get j:=by
 obtain⟨s',e1,e2,e3,e4,e5⟩:=yS l hg h o (by omega) h0;refine⟨s',?_,e2,e3,e4,e5⟩;show ob (tD P ts) (λe=>ob (dc P e) λsz=>ob (lenOf y) λn=>cG (Nat.min n dl) λm=>ob (dG s sz y m) λels=>ob (jh sz b els s o) λs'=>some (Value.int .i64 (.ofNat m),s'))=_;have Nr:=hy.elems (by decide);rw[dE]at Nr;rw[he,cg,hs,cg,hy.lenOf,cg,bD,dE,show Nat.min l.length dl=l.length from Nat.min_eq_left hl,Nr,cg,e1,cg];rfl
def LR (k:IntKind) (a b:Int):Gn (.int k a) (.int k b)=some (.int k (min a b)):=by
 show some (Value.int k (aD (Fl b a) b a))=_;rw[qo,bW];congr 2;by_cases h:b<a
 ·rw[aU (by simpa using h)];omega
 ·rw[aC (by simpa using h)];omega
theorem FQ (f:Value->Value->bQ) (x y:Value):Eo f [x,y]=ob (f x y) some:=rfl
def V1 {sz:Nat} {z:LVal} (hg:Good s) (he:fu P t=some e) (hi:dW P e=some (sz,z)) (eR:sz<=1000000) (hv:v.cells.toList.length=sz):bF P t 1 [0] s [v]=some (.slice (some ⟨s.nx,0,none⟩) 1 (bH 1),s.row e sz [v.cells.toList]):=by show ob (fu P t) (λe=>ob (dW P e) λi=>aD (Nat.ble (Nat.mul 1 i.1) 16000000) (ob (tW i.2 1) λtX=>ob (iL i.1 [(0,v)] tX) λels=>jr s e i.1 els 1 1) none)=_;rw[he,cg,hi,cg];show aD (Nat.ble (Nat.mul 1 sz) 16000000) (ob (aD (Nat.beq (len v.cells.toList) sz) (ob (jE v.cells.toList 0 [z]) λr=>some r) none) (λels=>jr s e sz els 1 1)) none=_;rw[show Nat.ble (Nat.mul 1 sz) 16000000=true from bg (by show 1*sz<=_;omega),aS,dQ,hv,bj];exact oe (els:= [v.cells.toList]) hg e sz 1 (λl hl=>by simp at hl;subst hl;exact hv)
def abQ {z w:Value} (hg:Good s) (he:fu P t=some e) (hi:dW P e=some (1,[z])) (hv:v.cells= #[v]) (hu:u.cells= #[u]) (hw:w.cells= #[w]):bF P t 3 [0,1,2] s [v,u,w]=some (.slice (some ⟨s.nx,0,none⟩) 3 (bH 3),s.row e 1 [[v],[u],[w]]):=by show ob (fu P t) (λe=>ob (dW P e) λi=>aD (Nat.ble (Nat.mul 3 i.1) 16000000) (ob (tW i.2 3) λtX=>ob (iL i.1 [(0,v),(1,u),(2,w)] tX) λels=>jr s e i.1 els 3 3) none)=_;rw[he,cg,hi,cg];show ob (aD (Nat.beq (len v.cells.toList) 1) (ob (jE v.cells.toList 0 [[z],[z],[z]]) λr=>aD (Nat.beq (len u.cells.toList) 1) (ob (jE u.cells.toList 1 r) λr=>aD (Nat.beq (len w.cells.toList) 1) (ob (jE w.cells.toList 2 r) λr=>some r) none) none) none) (λels=>jr s e 1 els 3 3)=_;rw[oV hv,oV hu,oV hw,hv,hu,hw];exact oe (els:= [[v],[u],[w]]) hg e 1 3 (λl hl=>by simp at hl;rcases hl with rfl|rfl|rfl<;>rfl)
def fD {is:List Nat} {z r:LVal} (hf:ir P t=true) (hz:qB P t=some z) (hr:jq (dB P t) (F9 is vs) z=some r):cA P t is vs=some (.agg ⟨r⟩):=by unfold cA;rw[hf,aS,hz,cg,hr,cg]
theorem jV (place:Nat->Option (Nat×Nat)) (l:LVal):jq place [] l=some l:=rfl
def eV {place:Nat->Option (Nat×Nat)} {o:Nat} {ps:List (Nat×Value)} (hp:place i=some (o,k)) (hv:v.cells.toList.length=k) (hl:o+k<=l.length):jq place ((i,v)::ps) l=jq place ps (l.take o++v.cells.toList++l.drop (o+k)):=by show ob (place i) (λq=>aD (Nat.beq (len v.cells.toList) q.2) (ob (Bi v.cells.toList l q.1) (jq place ps)) none)=_;rw[hp,cg];show aD (Nat.beq (len v.cells.toList) k) (ob (Bi v.cells.toList l o) (jq place ps)) none=_;rw[dQ,hv,bj,aS,Ms _ _ _ (by omega),cg,hv]
theorem O5 (t:TypeId) (x:iD) (l h m:Option iD) (lo:Lo) (tm:T Value) (s:AS):vy P t x l h m lo tm s=ob (x lo tm) λx=>ob (Lg l lo tm) λl=>ob (Lg h lo tm) λh=>ob (Lg m lo tm) λm=>tC P (P.underlying t) x l h m:=rfl
theorem apS (lo:Lo) (tm:T Value):Lg none lo tm=some none:=rfl
theorem apT (x:iD) (lo:Lo) (tm:T Value):Lg (some x) lo tm=ob (x lo tm) λv=>some (some v):=rfl
theorem dn (l:LVal):(Value.agg ⟨l⟩).cells.toList=l:=rfl
def BC (sz:Nat) (v:Value) (i k:Nat):Value:=match v with| .slice (some a) _ _=> .pointer (some ⟨a.block,a.off+i*sz+k,none⟩)|_=> .pointer none
def Sl.ct {n:Nat} {s:AS} {et sz:Nat} {v:Value} {rows:List LVal} (h:Sl n s et sz v rows) {i:Nat} (hi:i<rows.length) (k:Nat):ct k (wR sz v i)=some (BC sz v i k):=by
 cases h with
 |nil=>exact absurd hi (iK i)
 |mk hb h hl hr hc hx=>exact bO _ _ _
def Sl.fld {sz:Nat} (h:Sl n s et sz v rows) (ha:isAgg P t=some false) (h1:1<sz) (hi:i<rows.length) (hk:k<sz) {row:LVal} (oK:rows[i]=row) (oL:k<row.length) (xu:row[k]=x):aM P t s (BC sz v i k)=some x:=by
 cases h with
 |nil=>exact absurd hi (iK i)
 | @mk b o c ro R _ hb h hl hr hc hx=>
  obtain⟨cc,e1,e2⟩:=h.row;show aM P t s (.pointer (some ⟨b,o*sz+i*sz+k,none⟩))=_;rw[Mr ha];show ob (kJ s b (o*sz+i*sz+k) 1) Gv=_;have vi:cc.get (o+i)=some rows[i]:=by
   rw[e2 (o+i) (by omega)];congr 1;have:rows[i]=((R.drop o).take rows.length)[i]'(by rw[<-hr];exact hi):=by congr 1
   rw[this,Bu,S3]
  have hdv:(o*sz+i*sz+k)/sz=o+i:=by rw[<-dy,gE,Nat.mul_add_div (by omega),Xy hk,ji]
  have hmd:(o*sz+i*sz+k)%sz=k:=by rw[<-dy,gE,Nat.mul_add_mod,Xz hk]
  have Aa:kJ s b (o*sz+i*sz+k) 1=some [x]:=by show gI (s.h.get b) _=_;rw[e1];show oR (Option LVal) none (λl=>aD (Nat.beq 1 sz) (aD (Nat.beq (Nat.mod (o*sz+i*sz+k) sz) 0) (some l) none) (oR (Option LVal) none (λl'=>ov 1 l') (nQ (Nat.mod (o*sz+i*sz+k) sz) l))) (cc.get (Nat.div (o*sz+i*sz+k) sz))=_;rw[show Nat.div (o*sz+i*sz+k) sz=o+i from hdv,show Nat.mod (o*sz+i*sz+k) sz=k from hmd,vi,oK];show aD (Nat.beq 1 sz) _ (oR (Option LVal) none (λl'=>ov 1 l') (nQ k row))=_;rw[show Nat.beq 1 sz=false from by cases iR:Nat.beq 1 sz with|false=>rfl|true=>have:=au iR;omega,de,yh (by omega)];show ov 1 (row.drop k)=_;rw[Cl (by simp;omega),A3 oL,xu];rfl
  rw[Aa];rfl
def iA (es:List (Value×Value×Nat)):Prop:=∀x∈es,∃k:Int,x.1= .int .i64 k
def O6 {k:Int} {v:Value} {ck:Nat}:∀ {es:List (Value×Value×Nat)},iA es->∃ig,qW (.int .i64 k) v ck es=some ig∧iA ig
 | [],_=>⟨_,rfl,λx hx=>by simp at hx;subst hx;exact⟨k,rfl⟩⟩
 |e::es,h=>by
  obtain⟨a,ha⟩:=h e (by simp);obtain⟨ig,h1,h2⟩:=O6 (k:=k) (v:=v) (ck:=ck) (es:=es) λx hx=>h x (by simp[hx]);have e0:qW (.int .i64 k) v ck (e::es)=oR (Option (List (Value×Value×Nat))) none (λb=>aD b (some ((.int .i64 k,v,e.2.2)::es)) (ob (qW (.int .i64 k) v ck es) λr=>some (e::r))) (vn 8 (.int .i64 k) e.1):=rfl;rw[e0,ha,ly];by_cases hk:k=a
  ·refine⟨(.int .i64 k,v,e.2.2)::es,by simp[hk,aD],λx hx=>?_⟩;rcases List.mem_cons.1 hx with rfl|hx
   ·exact⟨k,rfl⟩
   ·exact h x (by simp[hx])
  ·refine⟨e::ig,by simp[hk,aD,h1,ob],λx hx=>?_⟩;rcases List.mem_cons.1 hx with rfl|hx
   ·exact⟨a,ha⟩
   ·exact h2 x hx
def HX:∀ {es d:List (Value×Value×Nat)},iA es->iA d->∃d',AE es d=some d'∧iA d'
 | [],d,_,hd=>⟨d,rfl,hd⟩
 |e::es,d,h,hd=>by obtain⟨a,ha⟩:=h e (by simp);obtain⟨d1,h1,h2⟩:=O6 (k:=a) (v:=e.2.1) (ck:=0) hd;obtain⟨d',h3,h4⟩:=HX (es:=es) (λx hx=>h x (by simp[hx])) h2;refine⟨d',?_,h4⟩;show ob (qW e.1 e.2.1 0 d) (λd=>AE es d)=_;rw[ha,h1,cg,h3]
def XZ {d mT:Nat} {ig:List (Value×Value×Nat)} (hg:Good s) (hd:cy s d kt ig ck) (hr:cy s r kt es mT) (ed:d≠r) (h:iA es) (h':iA ig):
  ∃rU ck2,Gr (.copy kt) (λ_ _ _=> .no) [.map (some d),.map (some r)] s= .val (.tuple #[]) (s.wr d (some (.map kt rU ck2)))∧iA rU:=by
 obtain⟨rU,h1,h2⟩:=HX h h';refine⟨rU,Nat.add ck (Nat.sub (len rU) (len ig)),?_,h2⟩;have hd0:=hd;unfold cy at hd hr;show lM (aD (Nat.beq d r) none (mapOf (s.h.get r) λkt1 es _=>aD (Nat.beq kt1 kt) (mapOf (s.h.get d) λkt2 ig ck=>aD (Nat.beq kt2 kt) (ob (AE es ig) λrU=>cG (Nat.add ck (Nat.sub (len rU) (len ig))) λmT=>ob (s.set d (some (.map kt2 rU mT))) λs'=>some (Value.tuple #[],s')) none) none))=_;rw[show Nat.beq d r=false from by cases hb:Nat.beq d r with|false=>rfl|true=>exact(ed (au hb)).elim,de,hr];show lM (aD (Nat.beq kt kt) (mapOf (s.h.get d) _) none)=_;rw[bj,aS,hd];show lM (aD (Nat.beq kt kt) (ob (AE es ig) λrU=>cG (Nat.add ck (Nat.sub (len rU) (len ig))) λmT=>ob (s.set d (some (.map kt rU mT))) λs'=>some (Value.tuple #[],s')) none)=_;rw[bj,aS,h1,cg,bD,qs hg (hd0.lt hg),cg];rfl
def G5 {sz:Nat} {ob':Option Nat} (h:Own n s et sz v R ob') (hg:Good s) (j:Nat) (hj:∀b,ob'=some b->j≠b):(cW s v).h.get j=s.h.get j:=by
 cases h with
 |nil=>rfl
 |ex hb h=>unfold cW;simp only[(cR _).2,jQ]
 | @lb b _ hb h=>
  show(if cq R.length sz%2=1 then s else s.wr b none).h.get j=_;split
  ·rfl
  ·rw[cj hg (h.lt hg),aC (hj b rfl)]
def Kw {sz:Nat} {ob':Option Nat} (h:Own n s et sz v R ob') (hg:Good s):Good (cW s v):=by
 cases h with
 |nil=>exact hg
 |ex hb h=>unfold cW;simp only[(cR _).2,jQ];exact hg
 | @lb b _ hb h=>
  show Good (if cq R.length sz%2=1 then s else s.wr b none);split
  ·exact hg
  ·exact bZ hg (h.lt hg) _
def Own.len {sz:Nat} {ob':Option Nat} (h:Own n s et sz v R ob'):dH [v]=some (.int .i64 (R.length:Int)):=by
 cases h with
 |nil=>rfl
 |ex hb h=>rfl
 |lb hb h=>rfl
def G6 {L:List (Nat×Ev)} {F:FF} (hl:lr f L=none) (h:iN P X f=some F) (args:LVal) (s:AS):jH P X L (n+1) (.func (.func f) #[] #[]) args s=F (jH P X L n) args s:=by
 have hm:pK P X L f=some F:=by unfold pK;rw[h,cg,hl]
 show oR Out .no (λF=>F (jH P X L n) (app [] (app args [])) s) (pK P X L f)=_;rw[hm,mW,mW];simp
def Kx {L:List (Nat×Ev)} {e:Sum} (hl:lr f L=none) (h:qN f X.sum=some e) (args:LVal) (s:AS):jH P X L (n+1) (.func (.func f) #[] #[]) args s=Gr e (jH P X L n) args s:=
 G6 hl (by unfold iN;rw[h]) args s
def LU (l:LVal):Prop:=pg (pY 0 12) l []=some []∧dj (dV (λa=>my [] a 0) 12) l=some l
def akO (v:Value):Prop:=pY 0 12 v []=some []∧∀nx,dV (lU [] [] 0 nx) 12 v=some v
def wy {L:List (Nat×Ev)} {B:Ev} {F:FF} {args:LVal} (hl:lr f L=some B) (h:iN P X f=some F) (ha:LU args) (hv:akO v) (hb:∃s1,B (.func (.func f) #[] #[]) args ⟨lQ 20,0,0⟩= .val v s1) (s:AS):
  jH P X L (n+1) (.func (.func f) #[] #[]) args s= .val v s:=by
 obtain⟨s1,hb⟩:=hb;have hm:pK P X L f=some (uv B f F):=by unfold pK;rw[h,cg,hl]
 have h1:jH P X L (n+1) (.func (.func f) #[] #[]) args s=uv B f F (jH P X L n) (app [] (app args [])) s:=by show oR Out .no (λF=>F (jH P X L n) (app [] (app args [])) s) (pK P X L f)=_;rw[hm]
 have oA:app [] (app args [])=args:=by rw[mW,mW];simp
 rw[h1,oA];have hc:lO B f args s= .val v s:=by
  unfold lO;rw[ha.1,cg];show oR Out .no (λargs'=>oR Out .no (λh=>xE 0 λk=>pI s [] k (B (.func (.func f) #[] #[]) args' ⟨h,k,k⟩)) (some (lQ 20))) (dj (dV (λa=>my [] a 0) 12) args)=_;rw[ha.2];show pI s [] 0 (B (.func (.func f) #[] #[]) args ⟨lQ 20,0,0⟩)=_;rw[hb];show lM (ob (ob (pY 0 12 v []) λm=>mg s1.h 0 12 200 0 m) λm=>aD (aD (fA m) (Er 0 m) false)
   (ob (dV (lU [] m 0 s.nx) 12 v) λv'=>ob (lH (dV (lU [] m 0 s.nx) 12) s1.h m s.nx s.h) λh=>cG (Nat.add s.nx (len m)) λnx=>cG s.lim λlm=>some (v',⟨h,nx,lm⟩)) none)=_
  rw[hv.1,cg];show lM (ob (dV (lU [] [] 0 s.nx) 12 v) λv'=>ob (some s.h) λh=>cG (Nat.add s.nx 0) λnx=>cG s.lim λlm=>some (v',(⟨h,nx,lm⟩:AS)))=_;rw[hv.2,cg,cg,bD,bD];rfl
 unfold uv;rw[hc];rfl
def dL (l:List UInt8):List LVal:=l.map λb=> [.int .u8 (Int.ofNat b.toNat)]
def eo (l:List UInt8):(dL l).length=l.length:=by unfold dL;simp
def HY (a b:List UInt8):dL (a++b)=dL a++dL b:=by unfold dL;simp
def wz (l:List UInt8):∀r∈dL l,r.length=1:= λr h=>by obtain⟨n,_,rfl⟩:=List.mem_map.1 h;rfl
def HZ (l:List UInt8):∀r∈dL l,cP r=true:= λr h=>by obtain⟨n,_,rfl⟩:=List.mem_map.1 h;rfl
def CQ:∀(l:List UInt8),byteCells l=some (dL l)
 | []=>rfl
 |b::l=>by show cG b.toNat (λn=>ob (byteCells l) λr=>some ([Value.int .u8 (.ofNat n)]::r))=_;rw[bD,CQ l];rfl
def CR:∀(l:List UInt8),ns (dL l)=some l
 | []=>rfl
 |b::l=>by show aD (tz .u8 .u8) (ob (um (Int.ofNat b.toNat)) λn=>aD (Nat.blt n 256) (ob (ns (dL l)) λr=>some (UInt8.ofNat n::r)) none) none=_;rw[iu,aS,CR l];show aD (Nat.blt b.toNat 256) (some (UInt8.ofNat b.toNat::l)) none=_;rw[show Nat.blt b.toNat 256=true from bg b.toNat_lt,aS];simp
def Ky:∀(l:List UInt8),Gm l.length l=some l
 | []=>rfl
 |a::l=>by show ob (Gm l.length l) (λr=>some (a::r))=_;rw[Ky l];rfl
def Mv (l:List UInt8):Gw [.string ⟨⟨l⟩⟩]=some (.int .i64 (l.length:Int)):=by show cG (len l) (λn=>some (Value.int .i64 (.ofNat n)))=_;rw[bD,dQ];rfl
def X2 (l:List UInt8):lenOf (.string ⟨⟨l⟩⟩)=some l.length:=by show some (len l)=_;rw[dQ]
def X3 (s:AS) (l:List UInt8):dG s 1 (.string ⟨⟨l⟩⟩) l.length=some (dL l):=by show aD (Nat.beq 1 1) (ob (Gm l.length l) byteCells) none=_;rw[Ky];exact CQ l
def gZ {e:EK} {c:Bool} (a b:List UInt8) (h:a.length+b.length<=1000000000):eJ .add e c (.string ⟨⟨b⟩⟩) (.string ⟨⟨a⟩⟩)=some (.string ⟨⟨a++b⟩⟩):=by show ob (Ae a b) (λl=>aD (Nat.ble (len l) 1000000000) (some (Value.string ⟨⟨l⟩⟩)) none)=_;rw[pH,cg,dQ,show Nat.ble (a++b).length 1000000000=true from bg (by rw[bL];exact h),aS]
def V2 {e:EK} {c:Bool} (k:IntKind) (a b:Int) (h:b≠0):eJ .quo e c (.int k b) (.int k a)=some (.int k (k.wrap (a.tdiv b))):=by show aD (tz k k) (aD (FY b (.ofNat 0)) none (mo k (Int.tdiv a b))) none=_;rw[iu,aS,oH,show decide (b=Int.ofNat 0)=false from az h,de,jZ]
def T.Mw {α:Type}:∀ {t:T α} {k:Nat} {x:α},t.get k=some x->t.has k
 | .e,k,x,h=>by rw[T.ur]at h;cases h
 | .n v l r,k,x,h=>by
  rcases dN k with rfl|⟨m,rfl⟩|⟨m,rfl⟩
  ·exact T.abM _ _ _
  ·rw[T.gX]at h;exact(T.te _ _ _ _).2 (T.Mw h)
  ·rw[T.fQ]at h;exact(T.pV _ _ _ _).2 (T.Mw h)
def bE.put {s:AS} {b et o:Nat} {R:List LVal} {x:Value} (h:bE s b et 1 false R) (hg:Good s) (ho:o<R.length) (hr:R[o].length=1) (hx:dZ x=true):
  ∃s',ij s b o [x]=some s'∧Good s'∧s'.nx=s.nx∧bE s' b et 1 false (R.set o [x])∧∀j,j≠b->s'.h.get j=s.h.get j:=by
 have hb:=h.lt hg;obtain⟨c,h1,h2⟩:=h.row;have hp:=T.th (x:=some [x]) (T.Mw (h2 o ho));cases hc:T.put (some [x]) c o with
 |none=>rw[hc]at hp;cases hp
 |some c'=>
  refine⟨s.wr b (some (.cells c' 1 R.length false et)),?_,bZ hg hb _,rfl,?_,λj hj=>by rw[cj hg hb,aC hj]⟩
  ·show aD (cP [x]) (gI (s.h.get b) _) none=_;rw[show cP [x]=true from by show aD (dZ x) true false=true;rw[hx];rfl,aS,h1];show oR (Option AS) none (λl=>oR (Option AS) none (λl'=>oR (Option AS) none (λc'=>AS.set s b (some (.cells c' 1 R.length false et))) (T.put (some l') c (Nat.div o 1))) (Bi [x] l (Nat.mod o 1))) (c.get (Nat.div o 1))=_;rw[show Nat.div o 1=o from Nat.div_one o,h2 o ho,show Nat.mod o 1=0 from Nat.mod_one o];obtain⟨y,hy⟩:∃y,R[o]= [y]:=List.length_eq_one_iff.1 hr;rw[hy];show oR (Option AS) none (λc'=>AS.set s b (some (.cells c' 1 R.length false et))) (T.put (some [x]) c o)=_;rw[hc];exact qs hg hb _
  ·refine⟨c',?_,λi hi=>?_⟩
   ·rw[cj hg hb,aU rfl];simp
   ·have hi:i<R.length:=by simpa using hi
    rw[T.jw _ _ _ _ hc i];by_cases e:i=o
    ·subst e;simp
    ·rw[aC e,h2 i hi];simp[jd e]
def yT {b et:Nat}:∀(els:List LVal) {s:AS} {R:List LVal} (_:Good s) (_:bE s b et 1 false R) (o:Nat),o+els.length<=R.length->(∀r∈R,r.length=1)->(∀r∈els,r.length=1)->(∀r∈els,cP r=true)->
  ∃s',jh 1 b els s o=some s'∧Good s'∧s'.nx=s.nx∧bE s' b et 1 false (R.take o++els++R.drop (o+els.length))∧∀j,j≠b->s'.h.get j=s.h.get j
 | [],s,R,hg,h,o,_,_,_,_=>⟨s,rfl,hg,rfl,by simpa using h,λ_ _=>rfl⟩
 |x::els,s,R,hg,h,o,hl,hR,he,h1=>by
  have N1:o+els.length+1<=R.length:=by simpa[gx]using hl
  obtain⟨y,rfl⟩:∃y,x= [y]:=List.length_eq_one_iff.1 (he x (by simp));have hy:dZ y=true:=by
   have:=h1 [y] (by simp);cases hc:dZ y with
   |true=>rfl
   |false=>exact absurd (show aD (dZ y) true false=true from this) (by rw[hc];simp[aD])
  obtain⟨s1,e1,g1,n1,r1,f1⟩:=h.put hg (o:=o) (x:=y) (by omega) (hR _ (aV _)) hy;obtain⟨s',e2,g2,n2,r2,f2⟩:=yT els g1 r1 (o+1) (by simp;omega) (λr hr=>by
   rcases List.mem_or_eq_of_mem_set hr with h|h
   ·exact hR r h
   ·rw[h];rfl) (λr hr=>he r (by simp[hr])) (λr hr=>h1 r (by simp[hr]))
  refine⟨s',?_,g2,n2.trans n1,?_,λj hj=>(f2 j hj).trans (f1 j hj)⟩
  ·show ob (ij s b o [y]) (λs'=>jh 1 b els s' (Nat.add o 1))=_;rw[e1,cg];exact e2
  ·have:(R.set o [y]).take (o+1)++els++(R.set o [y]).drop (o+1+els.length)=R.take o++([y]::els)++R.drop (o+([y]::els).length):=by
    have hA:(R.take o++ [[y]]).length=o+1:=by simp;omega
    have xp:R.set o [y]=R.take o++ [[y]]++R.drop (o+1):=by rw[Rg,aU (by omega)];simp
    rw[xp,acH hA,Xw,ayK (by rw[hA];omega),hA,fS,jD];simp only[bU,ey,pA,jD];rw[show o+1+(o+1+els.length-(o+1))=o+(els.length+1) by omega]
   rw[this]at r2;exact r2
inductive Dp (n:Nat) (s:AS):Value->List UInt8->Option Nat->Prop where
 |nil:Dp n s (.slice none 0 0) [] none
 |mk {b:Nat} {R:List LVal} {l:List UInt8} (hb:n<=b) (h:bE s b 5 1 false R) (hR:∀r∈R,r.length=1) (hl:l.length<=R.length) (h0:0<R.length) (ht:R.take l.length=dL l):Dp n s (.slice (some ⟨b,0,none⟩) l.length (cq R.length 1)) l (some b)
def Dp.ext {n:Nat} {s s':AS} {v:Value} {l:List UInt8} {o:Option Nat} (h:Dp n s v l o) (he:∀b,o=some b->s'.h.get b=s.h.get b):Dp n s' v l o:=by
 cases h with
 |nil=>exact .nil
 |mk hb h hR hl h0 ht=>exact .mk hb (h.ext (he _ rfl)) hR hl h0 ht
def Dp.lt {n:Nat} {s:AS} {v:Value} {l:List UInt8} {b:Nat} (h:Dp n s v l (some b)) (hg:Good s):n<=b∧b<s.nx:=by
 cases h with
 |mk hb h hR hl h0 ht=>exact⟨hb,h.lt hg⟩
def Dp.dH {n:Nat} {s:AS} {v:Value} {l:List UInt8} {o:Option Nat} (h:Dp n s v l o):dH [v]=some (.int .i64 (l.length:Int)):=by
 cases h with
 |nil=>rfl
 |mk hb h hR hl h0 ht=>rfl
def Dp.append {l:List UInt8} (h:Dp n s v l o) (hg:Good s) (hn:n<=s.nx) (k:List UInt8) (hk:l.length+k.length<=1000000):
  ∃v' s' o',vj 5 1 s [v,.string ⟨⟨k⟩⟩]=some (v',s')∧Dp n s' v' (l++k) o'∧Good s'∧s.nx<=s'.nx∧(∀j,j<s.nx->some j≠o->s'.h.get j=s.h.get j)∧(∀b,o'=some b->o=some b∨s.nx<=b):=by
 have hE:∀v,vj 5 1 s [v,.string ⟨⟨k⟩⟩]=qM s 5 1 k.length (dL k) v:= λv=>by show ob (lenOf (.string ⟨⟨k⟩⟩)) (λn=>ob (dG s 1 (.string ⟨⟨k⟩⟩) n) λels=>qM s 5 1 n els v)=_;rw[X2,cg,X3,cg]
 rw[hE];have abR:∀(s1:AS),Good s1->s1.nx=s.nx->(∀j,j<s.nx->some j≠o->s1.h.get j=s.h.get j)->0<(l++k).length->∃v' s' o',jk s1 5 1 (dL (l++k)) (l++k).length=some (v',s')∧Dp n s' v' (l++k) o'∧Good s'∧s.nx<=s'.nx∧(∀j,j<s.nx->some j≠o->s'.h.get j=s.h.get j)∧(∀b,o'=some b->o=some b∨s.nx<=b):=by intro s1 g1 n1 f1 h0;have hr:=uO g1 5 1 (els:=dL (l++k)) (wz _) (by decide);rw[eo]at hr;refine⟨_,_,some s1.nx,hr,?_,fW g1 _,by rw[tN];omega,λj hj ho=>by rw[vQ g1 _ _ _ (by omega)];exact f1 j hj ho,λb hb=> .inr (by injection hb with hb;omega)⟩;have hR:bE (s1.row 5 1 (dL (l++k))) s1.nx 5 1 false (dL (l++k)):=bE.new g1 _ _ _;have:=Dp.mk (n:=n) (l:=l++k) (by omega) hR (wz _) (by rw[eo];omega) (by rw[eo];omega) (by rw[<-eo];exact lY);rwa[eo]at this
 cases h with
 |nil=>
  by_cases I8:k= []
  ·subst I8;exact⟨_,_,none,rfl,.nil,hg,af _,λ_ _ _=>rfl,λb hb=>by cases hb⟩
  ·have hp:0<k.length:=List.length_pos_iff.2 I8;obtain⟨v',s',o',e,hh⟩:=abR s hg rfl (λ_ _ _=>rfl) (by simpa using hp);refine⟨v',s',o',?_,hh⟩;have hz:Nat.add 0 k.length=k.length:=aG _;have h1:Nat.ble k.length 0=false:=by
    cases hc:Nat.ble k.length 0 with
    |false=>rfl
    |true=>have:=aO hc;omega
   show aD (Nat.ble (Nat.add 0 k.length) 0) _ (aD (Nat.ble (Nat.add 0 k.length) 1000000) (ob (dG s 1 (.slice none 0 0) 0) λeb=>ob (Ae eb (dL k)) λall=>aD (xF none 0) (jk s 5 1 all (Nat.add 0 k.length)) _) none)=_;rw[hz,h1,de,show Nat.ble k.length 1000000=true from bg (by simpa using hk),aS];show ob (some []) _=_;rw[cg,pH,cg];exact e
 | @mk b R _ hb h hR hl h0 ht=>
  obtain⟨d1,d2,d3⟩:=j1 R.length 1 (by decide);have cS:=h.lt hg;by_cases Uz:l.length+k.length<=R.length
  ·obtain⟨s',e1,e2,e3,e4,e5⟩:=yT (dL k) hg h l.length (by rw[eo];exact Uz) hR (wz _) (HZ _);refine⟨.slice (some ⟨b,0,none⟩) (l++k).length (cq R.length 1),s',some b,?_,?_,e2,ayG e3.symm,λj _ hj=>e5 j (λe=>hj (by rw[e])),λb hb=> .inl hb⟩
   ·show aD (Nat.ble (Nat.add l.length k.length) (Nat.div (cq R.length 1) 512)) (ob (jh 1 b (dL k) s (Nat.add 0 (Nat.mul l.length 1))) λs'=>cG (Nat.add l.length k.length) λnm=>some (Value.slice (some ⟨b,0,none⟩) nm (cq R.length 1),s')) _=_;rw[show Nat.div (cq R.length 1) 512=R.length from d1,show Nat.ble (Nat.add l.length k.length) R.length=true from bg Uz,aS,show Nat.add 0 (Nat.mul l.length 1)=l.length from by show 0+l.length*1=_;omega,e1,cg,bD,bL];rfl
   ·rw[eo]at e4;have an1:(R.take l.length++dL k++R.drop (l.length+k.length)).length=R.length:=by simp[eo];omega
    have:=Dp.mk (n:=n) (l:=l++k) hb e4 (λr hr=>by
     rcases List.mem_append.1 hr with hr|hr
     ·rcases List.mem_append.1 hr with hr|hr
      ·exact hR r (gV hr)
      ·exact wz _ r hr
     ·exact hR r (List.mem_of_mem_drop hr)) (by rw[an1];simpa using Uz) (by rw[an1];exact h0) (by rw[ht,<-HY,show(l++k).length=(dL (l++k)).length from(eo _).symm];exact acH rfl)
    rwa[an1]at this
  ·have qK:Nat.ble (Nat.add l.length k.length) R.length=false:=by
    cases hc:Nat.ble (Nat.add l.length k.length) R.length with
    |false=>rfl
    |true=>exact(Uz (aO hc)).elim
   have hS:dG s 1 (.slice (some ⟨b,0,none⟩) l.length (cq R.length 1)) l.length=some (dL l):=by have hSl:Sl s.nx s 5 1 (.slice (some ⟨b,0*1,none⟩) (dL l).length (cq R.length 1)) (dL l):=Sl.mk (o:=0) (rows:=dL l) cS h (by rw[eo];omega) (by rw[bK,eo,ht]) (by rw[eo,d1];exact hl) (.inr ⟨d2,d3⟩);have:=hSl.elems (by decide);rwa[eo]at this
   obtain⟨c,h1,h2⟩:=h.row;obtain⟨v',s',o',e,hh⟩:=abR (s.wr b none) (bZ hg cS _) rfl (λj _ hj=>by rw[cj hg cS,aC (λe=>hj (by rw[e]))]) (by rw[bL];omega);refine⟨v',s',o',?_,hh⟩;show aD (Nat.ble (Nat.add l.length k.length) (Nat.div (cq R.length 1) 512)) _ (aD (Nat.ble (Nat.add l.length k.length) 1000000) (ob (dG s 1 (.slice (some ⟨b,0,none⟩) l.length (cq R.length 1)) l.length) λeb=>ob (Ae eb (dL k)) λall=>aD (Nat.beq (Nat.mod (cq R.length 1) 2) 1) (jk s 5 1 all (Nat.add l.length k.length)) (aD (nq (dL k)) (uG s 5 1 (some ⟨b,0,none⟩) l.length (Nat.add l.length k.length) (cq R.length 1) all) none)) none)=_;rw[show Nat.div (cq R.length 1) 512=R.length from d1,qK,de,show Nat.ble (Nat.add l.length k.length) 1000000=true from bg hk,aS,hS,cg,pH,cg,show Nat.mod (cq R.length 1) 2=0 from d2,wJ (HZ k)];show aD (Nat.beq (oz (cq R.length 1)) 1) (gI (s.h.get b) λcc vV m ro RH=>aD ro none (aD (Nat.beq 1 vV) (aD (Nat.beq 5 RH) (aD (Nat.beq (Nat.mod 0 1) 0) (ob (s.set b none) λs1=>jk s1 5 1 (dL l++dL k) (Nat.add l.length k.length)) none) none) none)) none=_;rw[d3,bj,aS,h1];show ob (s.set b none) (λs1=>jk s1 5 1 (dL l++dL k) (Nat.add l.length k.length))=_;rw[qs hg cS,cg,<-HY,show Nat.add l.length k.length=(l++k).length from by rw[bL];rfl,e]
def agZ {c:T LVal} (R:List LVal) (h:∀i (h:i<R.length),c.get i=some R[i]) (m:Nat) (hm:m<=R.length):elems c m 0=some (R.take m):=by
 have:=G3 (c:=c) (R.take m) 0 (λj hj=>by
  have Vg:j<R.length:=by simp at hj;omega
  rw[aG,h j Vg,Bu])
 rwa[show(R.take m).length=m from by simp;omega]at this
def awM (v:Value):Value:=match v with| .slice a _ _=> .pointer a|_=> .pointer none
def Dp.data {l:List UInt8} (h:Dp n s v l o):Og [v]=some (awM v):=by
 cases h with
 |nil=>rfl
 | @mk b R _ hb h hR hl h0 ht=>obtain⟨d1,d2,d3⟩:=j1 R.length 1 (by decide);show aD (Nat.blt 0 (Nat.div (cq R.length 1) 512)) (some (Value.pointer (some ⟨b,0,none⟩))) none=_;rw[show Nat.div (cq R.length 1) 512=R.length from d1,show Nat.blt 0 R.length=true from bg h0];rfl
def Dp.same {l:List UInt8} (h:Dp n s v l o):jg v:=by
 cases h with
 |nil=>exact AT
 |mk hb h hR hl h0 ht=>exact FP _ _ _ _
def Dp.str {l:List UInt8} (h:Dp n s v l o) (hg:Good s) (ha:sj P ts 0=some (.pointer 5)) (h5:dc P 5=some 1) (hl:l.length<1000000):
  ∃s',Wp P ts s [awM v,.int .i64 (l.length:Int)]=some (.string ⟨⟨l⟩⟩,s')∧Good s'∧s'.nx=s.nx∧(∀j,some j≠o->s'.h.get j=s.h.get j):=by
 unfold Wp;rw[ha];cases h with
 |nil=>exact⟨s,rfl,hg,rfl,λ_ _=>rfl⟩
 | @mk b R _ hb h hR hle h0 ht=>have cS:=h.lt hg;obtain⟨c,h1,h2⟩:=h.row;refine⟨s.wr b (some (.cells c 1 R.length true 5)),?_,bZ hg cS _,rfl,λj hj=>by rw[cj hg cS,aC (λe=>hj (by rw[e]))]⟩;show gI (s.h.get b) (λc sz m ro et=>aD ro none (aD (Nat.beq et 5) (aD (Nat.beq sz 1) (aD (Nat.beq ((dc P 5).getD 0) 1) (aD (Nat.blt l.length 1000000) (ob (elems c l.length 0) λels=>ob (ns els) λl=>ob (s.set b (some (.cells c sz m true et))) λs'=>some (Value.string ⟨⟨l⟩⟩,s')) none) none) none) none))=_;rw[h1,h5];show aD (Nat.blt l.length 1000000) (ob (elems c l.length 0) λels=>ob (ns els) λl=>ob (s.set b (some (.cells c 1 R.length true 5))) λs'=>some (Value.string ⟨⟨l⟩⟩,s')) none=_;rw[show Nat.blt l.length 1000000=true from bg hl,aS,agZ R h2 _ hle,ht,cg,CR,cg,qs hg cS,cg]
def abS (z:LVal):∀(n:Nat),tW z n=some (List.replicate n z)
 |0=>rfl
 |n+1=>by show ob (tW z n) (λr=>some (z::r))=_;rw[abS z n];rfl
def ag0 (hg:Good s) (h:n<=1000000):IS s (.makeNoZero 5) [.int .i64 (n:Int)]=some (.slice (some ⟨s.nx,0,none⟩) n (cq n 1),s.row 5 1 (List.replicate n [.complex .f32 0 0])):=by show aD (Nat.ble n 1000000) (ob (tW [.complex .f32 0 0] n) λels=>jk s 5 1 els n) none=_;have hr:=uO hg 5 1 (els:=List.replicate n [Value.complex .f32 0 0]) (λl hl=>by rw[apo hl];rfl) (by decide);rw[Hl]at hr;rw[bg h,aS,abS,cg,hr]
def DH {L:List (Nat×Ev)} {e:Ext} {fn:Func} (hl:lr f L=none) (hs:qN f X.sum=none) (hf:P.funcs[f]? =some fn) (hb:fn.body=none) (h:BQ f X.ext=some e) (args:LVal) (s:AS):jH P X L (n+1) (.func (.func f) #[] #[]) args s=lM (IS s e args):=
 G6 (F:= λ_ args s=>lM (IS s e args)) hl (by unfold iN;rw[hs];simp only[hf,hb,h,cg]) args s
theorem apU (v:Value) (s:AS):lM (some (v,s))= .val v s:=rfl
def O7 (h:ay s b t vs) {back:Bool} (hs:dc P t=some vs.length) (h0:0<vs.length):Gp P t back s (.pointer (some ⟨b,0,none⟩))=some (.pointer (some ⟨b,0,none⟩)):=by show ob (dc P t) (λn=>gI (s.h.get b) λc sz _ _ et=>aD (Nat.blt 0 n) (aD (Nat.beq (Nat.mod 0 sz) 0) (aD (Nat.beq n sz) (ob (c.get (Nat.div 0 sz)) λ_=>aD (aD back (Nat.beq et t) true) (some (Value.pointer (some ⟨b,0,none⟩))) none) none) none) none)=_;unfold ay at h;rw[hs,cg,h];show aD (Nat.blt 0 vs.length) (aD (Nat.beq (Nat.mod 0 vs.length) 0) (aD (Nat.beq vs.length vs.length) (ob ((T.n (some vs) .e .e).get (Nat.div 0 vs.length)) λ_=>aD (aD back (Nat.beq t t) true) (some (Value.pointer (some ⟨b,0,none⟩))) none) none) none) none=_;rw[show Nat.blt 0 vs.length=true from bg h0,aS,show Nat.mod 0 vs.length=0 from ayH _,show Nat.div 0 vs.length=0 from Nat.zero_div _,bj,bj,bj];cases back<;>rfl
def apV {c:Bool} (b o:Nat):eJ .neq .ptr c (.pointer (some ⟨b,o,none⟩)) (.pointer (some ⟨b,o,none⟩))=some (.bool false):=by show ob (Ui ⟨b,o,none⟩ ⟨b,o,none⟩) (λb=>fG (lF b))=_;show ob (aD (Nat.beq b b) (aD (Nat.beq o o) (some true) none) none) _=_;rw[bj,bj];rfl
theorem lz {c:Bool} (a:Addr):eJ .eql .ptr c (.pointer none) (.pointer (some a))=some (.bool false):=rfl
theorem ag1 {c:Bool}:eJ .eql .ptr c (.pointer none) (.pointer none)=some (.bool true):=rfl
def aJt {R:Value->AS->Prop} (h:R (.tuple #[]) s):cp (xS P [] m.t s) R:=⟨_,s,rfl,h⟩
def mZ {R:Value->AS->Prop} {x:cZ} (hx:x= .normal∨x= .ret) (h:R (.tuple #[]) s):Bq P [] R x m s:=⟨hx,aJt h⟩
def Dg {u:Nat} {R:Value->AS->Prop} {x:cZ} {w:Value} (hx:x= .normal∨x= .ret) (hv:m.get t=some v) (hw:m.get u=some w) (h:R (.tuple #[v,w]) s):Bq P [.tmp t,.tmp u] R x m s:=by refine⟨hx,.tuple #[v,w],s,?_,h⟩;show oR Out .no (λvs=>match vs with| [v]=> .val v s|vs=> .val (.tuple ⟨vs⟩) s) (ob (m.t.get t) λv=>ob (ob (m.t.get u) λv=>ob (some []) λl=>some (v::l)) λl=>some (v::l))=_;have hv:m.t.get t=some v:=hv;have hw:m.t.get u=some w:=hw;rw[hv,hw];rfl
def adm (ha:sj P ts 0=some (.slice t)):Wo (sj P ts 0) [.slice none 0 0]=some (.int .i64 0):=by rw[ha];rfl
structure Reads (k:Nat) (s:AS) (sz:Nat) (v:Value) (rows:List LVal):Prop where
 sl:∃base m c,v= .slice base m c
 len:lenOf v=some rows.length
 el:∀s':AS,(∀j,j<k->s'.h.get j=s.h.get j)->dG s' sz v rows.length=some rows
 nil:vR v=true->v= .slice none 0 0∧rows= []
def Sl.rd {sz:Nat} (h:Sl k s et sz v rows) (eR:0<sz):Reads k s sz v rows:=
 ⟨h.WI,h.lenOf,λ_ he=>(h.ext he).elems eR,h.agY⟩
def Reads.ext {sz:Nat} (h:Reads k s sz v rows) (he:∀j,j<k->s'.h.get j=s.h.get j):Reads k s' sz v rows:=
 ⟨h.sl,h.len,λj9 h'=>h.el j9 λj hj=>(h' j hj).trans (he j hj),h.nil⟩
def Reads.elems {sz:Nat} (h:Reads k s sz v rows):dG s sz v rows.length=some rows:=h.el s λ_ _=>rfl
def Reads.akM {sz:Nat} (h:Reads k s sz v rows) {c:Bool}:eJ .eql .slice c (.slice none 0 0) v=some (.bool (vR v)):=by obtain⟨base,m,c,rfl⟩:=h.sl;exact agX _ _ _
def Reads.dH {k:Nat} {s:AS} {sz:Nat} {v:Value} {rows:List LVal} (h:Reads k s sz v rows):dH [v]=some (.int .i64 (rows.length:Int)):=by obtain⟨base,m,c,rfl⟩:=h.sl;have e:=h.len;have e:some m=some rows.length:=e;rw[Go.Eng.VW,bh e]
def FR {m:Nat} {sz:Nat} {ob':Option Nat} (h:Own n s et sz v R ob') (hy:Reads m s sz y els) (hg:Good s) (eR:0<sz) (yU:sz<256) (hR:∀l∈R,l.length=sz) (he:∀l∈els,l.length=sz) (vp:∀l∈els,cP l=true) (hlen:R.length+els.length<=1000000) (NH:0<els.length):
  vj et sz s [v,y]=some (.slice (some ⟨s.nx,0,none⟩) (R++els).length (cq (R++els).length sz),(cW s v).row et sz (R++els)):=by
 show ob (lenOf y) (λn=>ob (dG s sz y n) λels=>qM s et sz n els v)=_;rw[hy.len,cg,hy.elems,cg];exact h.append hg eR yU hR he vp hlen NH
def adn {m:Nat} {sz:Nat} (hy:Reads m s sz y []) (c:Nat):vj et sz s [.slice (some ⟨b,0,none⟩) 0 c,y]=some (.slice (some ⟨b,0,none⟩) 0 c,s):=by show ob (lenOf y) (λn=>ob (dG s sz y n) λels=>qM s et sz n els (.slice (some ⟨b,0,none⟩) 0 c))=_;rw[hy.len,cg,hy.elems,cg];rfl
def Qc (sz b o n m:Nat) (h:m<=n):jX sz ⟨b,o,none⟩ n none (some (.int .i64 (m:Int))) none=some (.slice (some ⟨b,o,none⟩) m (bH n)):=by
 show aD (mM 0 m n) (mkSlice ⟨b,o,none⟩ (Nat.add o (Nat.mul 0 sz)) (Nat.sub m 0) (bH (Nat.sub n 0))) none=_;have h1:mM 0 m n=true:=by show aD (Nat.ble 0 m) (Nat.ble m n) false=true;rw[bg (gS m),aS];exact bg h
 rw[h1,aS];unfold mkSlice;rw[bD,bD,bD,show Nat.add o (Nat.mul 0 sz)=o from by show o+0*sz=o;omega];rfl
section
variable {ev:Ev}
def EO:List Nat->Code->Code
 | [],c=>c
 |i::l,c=>match c with
  | .seq a b=>EO l (match i with|0=>a|_=>b)
  | .cond _ a b=>EO l (match i with|0=>a|_=>b)
  | .rangeFunc _ _ a b=>EO l (match i with|0=>a|_=>b)
  | .block _ a=>EO l a
  | .loop a=>EO l a
  | .scope a=>EO l a
  |c=>c
def azr (Q:cZ->TM n->AS->Prop) (pend:Option Code) (m:TM n) (s:AS):Prop:=match pend with
 |none=>Q .normal m s
 |some .ret=>Q .ret m s
 |some (.exit id)=>Q (.exit id) m s
 |some _=>False
def uW (hg:Good s) (hi:i<s.nx) (b:eX) (k:AS->Out):ik s i b k=k (s.wr i (some b)):=by unfold ik;rw[qs hg hi]
def AV {fn kp:Nat} {f:iD} {ps:List Tmp} {ac bd:Code} {Q:cZ->TM n->AS->Prop} {fv:Value} (hg:Good s) (hf:f .nil m.t=some fv) (hb:mO P fv=true) (h:cp (ev fv [.func (.yield s.nx) #[] #[]] (s.add (.loop .ready none fn nt kp m.t ps ac bd))) λ_ s2=>Good s2∧s.nx<s2.nx∧∃st pend,s2.h.get s.nx=some (.loop st pend fn nt kp m.t ps ac bd)∧st≠.busy∧azr Q pend m (s2.wr s.nx (some (.loop .exhausted pend fn nt kp m.t ps ac bd)))):
  WC ev (lJ P fn nt kp f ps ac bd) Q m s:=by
 obtain⟨v,s2,e,dI,cS,st,pend,hl,fU,ha⟩:=h;unfold WC;show∃x m' s',oR Out .no (λfv=>aD (mO P fv) (oR Out .no (λs1=>oQ s.nx m.t (ev fv [.func (.yield s.nx) #[] #[]] s1)) (s.new (.loop .ready none fn nt kp m.t ps ac bd))) .no) (f .nil m.t)= .code x (TM.t m') s'∧Q x m' s';rw[hf];show∃x m' s',aD (mO P fv) (oR Out .no (λs1=>oQ s.nx m.t (ev fv [.func (.yield s.nx) #[] #[]] s1)) (s.new (.loop .ready none fn nt kp m.t ps ac bd))) .no= .code x (TM.t m') s'∧Q x m' s';rw[hb,aS,zd hg];show∃x m' s',oQ s.nx m.t (ev fv [.func (.yield s.nx) #[] #[]] (s.add (.loop .ready none fn nt kp m.t ps ac bd)))= .code x (TM.t m') s'∧Q x m' s';rw[e];show∃x m' s',oG (s2.h.get s.nx) (λst pend fn' nt' kp' tm' QK as' bd'=>match st with
   | .busy=> .no
   |_=>ik s2 s.nx (.loop .exhausted pend fn' nt' kp' tm' QK as' bd') λs3=>match pend with
    |none=> .code .normal m.t s3
    |some c=>vK c m.t s3)= .code x (TM.t m') s'∧Q x m' s'
 rw[hl];have key:∃x m' s',(ik s2 s.nx (.loop .exhausted pend fn nt kp m.t ps ac bd) λs3=>match pend with
    |none=> .code .normal m.t s3
    |some c=>vK c m.t s3)= .code x (TM.t m') s'∧Q x m' s':=by
  rw[uW dI cS];cases pend with
  |none=>exact⟨_,m,_,rfl,ha⟩
  |some c=>
   cases c with
   |ret=>exact⟨_,m,_,rfl,ha⟩
   |exit id=>exact⟨_,m,_,rfl,ha⟩
   |_=>exact ha.elim
 cases st with
 |busy=>exact(fU rfl).elim
 |ready=>exact key
 |done=>exact key
 |exhausted=>exact key
def an2 (l fn nt kp:Nat) (tm:T Value) (ps:List Tmp) (ac bd:Code) (R:Value->AS->Prop) (x:cZ) (_m:TM n) (s:AS):Prop:=
 Good s∧l<s.nx∧∃st pend,s.h.get l=some (.loop st pend fn nt kp tm ps ac bd)∧match x with
  | .normal=>R (.bool true) (s.wr l (some (.loop .ready none fn nt kp tm ps ac bd)))
  | .ret=>R (.bool false) (s.wr l (some (.loop .done (some .ret) fn nt kp tm ps ac bd)))
  | .exit id=>R (.bool false) (s.wr l (some (.loop .done (some (.exit id)) fn nt kp tm ps ac bd)))
  | .goto _=>False
def DJ {L:List (Nat×Ev)} {l fn kp:Nat} {args:LVal} {R:Value->AS->Prop} {pend:Option Code} {ps:List Tmp} {ac bd:Code} {A B:CF} {m1:TM n} (hl:s.h.get l=some (.loop .ready pend fn nt kp m.t ps ac bd)) (hA:il P fn nt kp ac=some A) (hB:il P fn nt kp bd=some B) (hp:nu kp ps args m.t=some m1.t) (h:WC (jH P X L k) A (λx m2 s2=>x= .normal∧Good s2∧l<s2.nx∧∃Eu,s2.h.get l=some (.loop .ready Eu fn nt kp m.t ps ac bd)∧WC (jH P X L k) B (an2 l fn nt kp m.t ps ac bd R) m2 (s2.wr l (some (.loop .busy Eu fn nt kp m.t ps ac bd)))) m1 s):
  cp (jH P X L (k+1) (.func (.yield l) #[] #[]) args s) R:=by
 obtain⟨x,m2,s2,e1,rfl,dI,nM,Eu,Xd,x',m3,s4,e2,iI,pZ,st,aPu,hl4,hR⟩:=h;have h0:jH P X L (k+1) (.func (.yield l) #[] #[]) args s=zj P (jH P X L k) l args s:=rfl;rw[h0];unfold zj;rw[hl];show cp (oR Out .no (λeP=>beginRound (jH P X L k) l (il P fn nt kp bd) (lI (jH P X L k) (il P fn nt kp ac) eP s)) (nu kp ps args m.t)) R;rw[hp,hA,hB];show cp (beginRound (jH P X L k) l (some B) (A (jH P X L k) m1.t s)) R;rw[e1];show cp (oG (s2.h.get l) λst pend fn nt kp tm ps assign body=>match st with
   | .ready=>ik s2 l (.loop .busy pend fn nt kp tm ps assign body) λs3=>endRound l (lI (jH P X L k) (some B) m2.t s3)
   |_=> .no) R
 rw[Xd];show cp (ik s2 l (.loop .busy Eu fn nt kp m.t ps ac bd) λs3=>endRound l (B (jH P X L k) m2.t s3)) R;rw[uW dI nM,e2];cases x' with
 |normal=>show cp (oG (s4.h.get l) λ_ _ fn nt kp tm ps ac bd=>ik s4 l (.loop .ready none fn nt kp tm ps ac bd) λs5=> .val (.bool true) s5) R;rw[hl4];show cp (ik s4 l (.loop .ready none fn nt kp m.t ps ac bd) λs5=> .val (.bool true) s5) R;rw[uW iI pZ];exact⟨_,_,rfl,hR⟩
 |ret=>show cp (oG (s4.h.get l) λ_ _ fn nt kp tm ps ac bd=>ik s4 l (.loop .done (some .ret) fn nt kp tm ps ac bd) λs5=> .val (.bool false) s5) R;rw[hl4];show cp (ik s4 l (.loop .done (some .ret) fn nt kp m.t ps ac bd) λs5=> .val (.bool false) s5) R;rw[uW iI pZ];exact⟨_,_,rfl,hR⟩
 |exit id=>show cp (oG (s4.h.get l) λ_ _ fn nt kp tm ps ac bd=>ik s4 l (.loop .done (some (.exit id)) fn nt kp tm ps ac bd) λs5=> .val (.bool false) s5) R;rw[hl4];show cp (ik s4 l (.loop .done (some (.exit id)) fn nt kp m.t ps ac bd) λs5=> .val (.bool false) s5) R;rw[uW iI pZ];exact⟨_,_,rfl,hR⟩
 |goto _=>exact hR.elim
def yH {kp:Nat} (hk:kept kp p=true) (hp:p<n):nu kp [p] [v] m.t=some (m.set p v).t:=by show ob (vL kp p v m.t) (λt'=>some t')=_;unfold vL;rw[hk,aS,TM.BV _ _ _ hp];rfl
def TM.azs (m:TM n) (k:Nat) (hk:k<n):∃m':TM n,T.put none m.t k=some m'.t∧∀j,m'.get j=if j=k then none else m.get j:=by
 have h:=m.sh k hk none;cases e:T.put none m.t k with
 |none=>rw[e]at h;cases h
 |some t'=>exact⟨⟨t',λj hj x=>T.zp _ _ _ _ _ _ e (m.sh j hj x)⟩,rfl,λj=>T.jw _ _ _ _ e j⟩
def V3:∀(ws:List Nat) (m:TM n),(∀w∈ws,w<n)->∃m':TM n,Ep ws m.t=some m'.t∧∀j,m'.get j=if j∈ws then none else m.get j
 | [],m,_=>⟨m,rfl,λj=>by simp⟩
 |w::ws,m,h=>by
  obtain⟨m1,e1,g1⟩:=m.azs w (h w (by simp));obtain⟨m2,e2,g2⟩:=V3 ws m1 λx hx=>h x (by simp[hx]);refine⟨m2,?_,λj=>?_⟩
  ·show ob (T.put none m.t w) (λt=>Ep ws t)=_;rw[e1];exact e2
  ·rw[g2,g1];by_cases h1:j∈ws
   ·simp[h1]
   ·by_cases h2:j=w<;>simp[h1,h2]
def BY:∀(a b:T Value),(∀k v,a.get k=some v->∃v',b.get k=some v'∧qQ 12 v v'=true)->Ag a b=true
 | .e,_,_=>rfl
 | .n v l r,.e,h=>by
  have hv:v=none:=by
   cases v with
   |none=>rfl
   |some v=>obtain⟨v',h',_⟩:=h 0 v rfl;cases h'
  subst hv;have h1:=BY l .e (λk v hk=>by obtain⟨v',h',_⟩:=h (2*k+1) v (by rw[T.gX];exact hk);cases h');have h2:=BY r .e (λk v hk=>by obtain⟨v',h',_⟩:=h (2*k+2) v (by rw[T.fQ];exact hk);cases h');show aD (Ag l .e) (Ag r .e) false=true;rw[h1,h2];rfl
 | .n v l r,.n v' l' r',h=>by
  have h1:=BY l l' (λk v hk=>by have:=h (2*k+1) v (by rw[T.gX];exact hk);rwa[T.gX]at this);have h2:=BY r r' (λk v hk=>by have:=h (2*k+2) v (by rw[T.fQ];exact hk);rwa[T.fQ]at this);cases v with
  |none=>show aD (Ag l l') (Ag r r') false=true;rw[h1,h2];rfl
  |some v=>
   obtain⟨u,h',hu⟩:=h 0 v rfl;have h':v'=some u:=h';have hv:EH v v'=true:=by rw[h'];exact hu
   show aD (EH v v') (aD (Ag l l') (Ag r r') false) false=true;rw[hv,h1,h2];rfl
def ZF (m m':TM n):Prop:=∀k v,m.get k=some v->∃v',m'.get k=some v'∧qQ 12 v v'=true
def Tw {l:List CI} {Q:cZ->TM n->AS->Prop} (h:WL ev l (Q .normal) lo m s):WC ev (λev tm s=>nV ev l tY lo tm s) Q m s:=
 aaO (Z:= λo=>∃x m' s',o= .code x (TM.t m') s'∧Q x m' s') (λ_ _ h=>⟨_,_,_,rfl,h⟩) l h
def abT (ml:wO) (e:Value×Value):CF:= λev tm s=>nV ev ml.l2 tY (.cons ml.d2 (.tuple #[e.1,e.2]) .nil) tm s
def Tx {ml:wO} {Q:cZ->TM n->AS->Prop} {ib:Nat} (hg:Good s) (hw:∀w∈ml.ws,w<n) (h9:ml.t9<n) (uC:∀m0:TM n,(∀j,m0.get j=if j∈ml.ws then none else m.get j)->ml.it .nil m0.t=some (.pointer (some ⟨ib,0,none⟩))) (hib:s.h.get ib=some (.mapIter (some r) ck)) (hm:cy s r kt es ck) (hr:∀m0:TM n,(∀j,m0.get j=if j∈ml.ws then none else m.get j)->∀e∈es,∀lm,lm<=s.nx->WC ev (bP ml.b1 (ah (abT ml (e.1,e.2.1)) ml.c)) (λx m' _=>x= .normal∧ZF m0 m') (m0.set ml.t9 (.bool true)) ⟨(s.wr ib none).h,s.nx,lm⟩) (NJ:∀m0:TM n,(∀j,m0.get j=if j∈ml.ws then none else m.get j)->Q (.exit ml.b0) (m0.set ml.t9 (.bool false)) (s.wr ib none)):
  WC ev (GM ml) Q m s:=by
 obtain⟨m0,e0,g0⟩:=V3 ml.ws m hw;have uC:=uC m0 g0;have hr:=hr m0 g0;have NJ:=NJ m0 g0;have aJu:ib<s.nx:=by refine dg λhle=>?_;rw[hg.none ib hle]at hib;cases hib
 have GI:∀e∈es,∀lm,lm<=s.nx->∃m' s',jY ml ev (e.1,e.2.1) m0.t ⟨(s.wr ib none).h,s.nx,lm⟩= .code .normal (TM.t m') s'∧ZF m0 m':=by intro e he lm hlm;obtain⟨x,m',s',h1,rfl,h2⟩:=hr e he lm hlm;refine⟨m',s',?_,h2⟩;show oR Out .no (λeP=>pR ml.b1 (tG (ml.c ev) (nV ev ml.l2 tY (.cons ml.d2 (.tuple #[e.1,e.2.1]) .nil) eP ⟨(s.wr ib none).h,s.nx,lm⟩))) (T.put (some (.bool true)) m0.t ml.t9)=_;rw[TM.BV _ _ _ h9];exact h1
 have aJv:(s.wr ib none)=⟨(s.wr ib none).h,s.nx,0⟩:=by have:=hg.lim;unfold AS.wr;rw[this]
 have iO:∀(l:List (Value×Value×Nat)),(∀e∈l,e∈es)->fO ml ev m0.t (s.wr ib none) l none=some none:=by
  intro l;induction l with
  |nil=>intro _;rfl
  |cons e l ih=>
   intro hl;obtain⟨m1,s1,e1,q1⟩:=GI e (hl e (by simp)) 0 (gS _);obtain⟨m2,s2,e2,q2⟩:=GI e (hl e (by simp)) s.nx (af _);rw[<-aJv]at e1;show(match jY ml ev (e.1,e.2.1) m0.t (s.wr ib none)with
    | .code .normal _ _=>aD (xZ m0.t (jY ml ev (e.1,e.2.1) m0.t ⟨(s.wr ib none).h,(s.wr ib none).nx,(s.wr ib none).nx⟩)) (fO ml ev m0.t (s.wr ib none) l none) none
    | .code x eP s1=>fO ml ev m0.t (s.wr ib none) l (some (.code x eP s1))
    |_=>none)=_
   rw[e1];show aD (xZ m0.t (jY ml ev (e.1,e.2.1) m0.t ⟨(s.wr ib none).h,s.nx,s.nx⟩)) (fO ml ev m0.t (s.wr ib none) l none) none=_;rw[e2];show aD (Ag m0.t m2.t) _ none=_;rw[BY m0.t m2.t q2,aS];exact ih λe he=>hl e (by simp[he])
 unfold WC;show∃x m' s',oR Out .no (λrT=>match ml.it .nil rT with
  |some (.pointer (some ⟨ib,0,none⟩))=>oP (s.h.get ib) λr ck=>oR Out .no (λes=>oR Out .no (λs1=>tI ml rT s1 (fO ml ev rT s1 es none)) (s.set ib none)) (tH s r ck)
  |_=> .no) (Ep ml.ws m.t)= .code x (TM.t m') s'∧Q x m' s'
 rw[e0];show∃x m' s',(match ml.it .nil m0.t with
  |some (.pointer (some ⟨ib,0,none⟩))=>oP (s.h.get ib) λr ck=>oR Out .no (λes=>oR Out .no (λs1=>tI ml m0.t s1 (fO ml ev m0.t s1 es none)) (s.set ib none)) (tH s r ck)
  |_=> .no)= .code x (TM.t m') s'∧Q x m' s'
 rw[uC];show∃x m' s',oP (s.h.get ib) (λr ck=>oR Out .no (λes=>oR Out .no (λs1=>tI ml m0.t s1 (fO ml ev m0.t s1 es none)) (s.set ib none)) (tH s r ck))= .code x (TM.t m') s'∧Q x m' s'
 rw[hib];have xn:tH s (some r) ck=some es:=by unfold cy at hm;show mapOf (s.h.get r) (λ_ es mT=>aD (Nat.beq ck mT) (some es) none)=_;rw[hm];show aD (Nat.beq ck ck) (some es) none=_;rw[bj];rfl
 show∃x m' s',oR Out .no (λes=>oR Out .no (λs1=>tI ml m0.t s1 (fO ml ev m0.t s1 es none)) (s.set ib none)) (tH s (some r) ck)= .code x (TM.t m') s'∧Q x m' s';rw[xn,qs hg aJu];show∃x m' s',tI ml m0.t (s.wr ib none) (fO ml ev m0.t (s.wr ib none) es none)= .code x (TM.t m') s'∧Q x m' s';rw[iO es λ_ h=>h];refine⟨cZ.exit ml.b0,m0.set ml.t9 (.bool false),s.wr ib none,?_,NJ⟩;show oR Out .no (λeP=> .code (.exit ml.b0) eP (s.wr ib none)) (T.put (some (.bool false)) m0.t ml.t9)=_;rw[TM.BV _ _ _ h9]
end
section
def zt {q r t:Value->bQ} (h:∀v v',q v=some v'->r v'=t v):∀ {l l':LVal},dj q l=some l'->dj r l'=dj t l
 | [],l',hl=>by cases hl;rfl
 |v::l,l',hl=>by have hl:ob (q v) (λv'=>ob (dj q l) λl'=>some (v'::l'))=some l':=hl;obtain⟨v1,h1,hl⟩:=ak hl;obtain⟨l1,h2,hl⟩:=ak hl;cases hl;show ob (r v1) (λv'=>ob (dj r l1) λl'=>some (v'::l'))=ob (t v) (λv'=>ob (dj t l) λl'=>some (v'::l'));rw[h _ _ h1,zt h h2]
def DK {q r:Value->bQ} (h:∀v v',q v=some v'->∃u,r v'=some u):∀ {l l':LVal},dj q l=some l'->∃u,dj r l'=some u
 | [],l',hl=>by cases hl;exact⟨[],rfl⟩
 |v::l,l',hl=>by have hl:ob (q v) (λv'=>ob (dj q l) λl'=>some (v'::l'))=some l':=hl;obtain⟨v1,h1,hl⟩:=ak hl;obtain⟨l1,h2,hl⟩:=ak hl;cases hl;obtain⟨u,hu⟩:=h _ _ h1;obtain⟨w,hw⟩:=DK h h2;refine⟨u::w,?_⟩;show ob (r v1) (λv'=>ob (dj r l1) λl'=>some (v'::l'))=_;rw[hu,cg,hw,cg]
def zu {ψ φ χ:Nat->Option Nat} (h:∀a b,ψ a=some b->φ b=χ a):∀(n:Nat) (v v':Value),dV ψ n v=some v'->dV φ n v'=dV χ n v
 |0,v,v',hv=>by cases hv
 |n+1,v,v',hv=>by
  have sS:∀ {l l':LVal},dj (dV ψ n) l=some l'->dj (dV φ n) l'=dj (dV χ n) l:= λh1=>zt (λv v'=>zu h n v v') h1;cases v with
  |bool b=>cases b<;>(cases hv;rfl)
  |int k m=>have hv:m5 k m=some v':=hv;rw[fI]at hv;cases hv;rfl
  |float=>cases hv
  |complex k a b=>cases hv;rfl
  |string s=>cases hv;rfl
  |pointer p=>
   cases p with
   |none=>cases hv;rfl
   |some p=>
    obtain⟨b,o,sp⟩:=p;cases sp with
    |some _=>cases hv
    |none=>
     have hv:(ob (ψ b) λb'=>cG o λo'=>some (.pointer (some ⟨b',o',none⟩)))=some v':=hv;obtain⟨b',h1,hv⟩:=ak hv;rw[bD]at hv;cases hv;show(ob (φ b') λb'=>cG o λo'=>some (Value.pointer (some ⟨b',o',none⟩)))=(ob (χ b) λb'=>cG o λo'=>some (Value.pointer (some ⟨b',o',none⟩)))
     rw[h _ _ h1]
  |slice p m c=>
   cases p with
   |none=>
    cases m with
    |succ m=>cases hv
    |zero=>
     cases c with
     |succ c=>cases hv
     |zero=>cases hv;rfl
   |some p=>
    obtain⟨b,o,sp⟩:=p;cases sp with
    |some _=>cases hv
    |none=>
     have hv:(ob (ψ b) λb'=>cG o λo'=>cG m λm'=>cG c λc'=>some (.slice (some ⟨b',o',none⟩) m' c'))=some v':=hv;obtain⟨b',h1,hv⟩:=ak hv;simp only[bD]at hv;cases hv;show(ob (φ b') λb'=>cG o λo'=>cG m λm'=>cG c λc'=>some (Value.slice (some ⟨b',o',none⟩) m' c'))=(ob (χ b) λb'=>cG o λo'=>cG m λm'=>cG c λc'=>some (Value.slice (some ⟨b',o',none⟩) m' c'))
     rw[h _ _ h1]
  |map p=>
   cases p with
   |none=>cases hv;rfl
   |some b=>
    have hv:(ob (ψ b) λb'=>some (.map (some b')))=some v':=hv;obtain⟨b',h1,hv⟩:=ak hv;cases hv;show(ob (φ b') λb'=>some (Value.map (some b')))=(ob (χ b) λb'=>some (Value.map (some b')))
    rw[h _ _ h1]
  |chan=>cases hv
  |func f a b=>
   cases f with
   |func f=>
    have hv:(ob (dj (dV ψ n) a.toList) λa'=>ob (dj (dV ψ n) b.toList) λb'=>some (.func (.func f) ⟨a'⟩ ⟨b'⟩))=some v':=hv;obtain⟨a1,h1,hv⟩:=ak hv;obtain⟨b1,h2,hv⟩:=ak hv;cases hv;show(ob (dj (dV φ n) a1) λa'=>ob (dj (dV φ n) b1) λb'=>some (Value.func (.func f) ⟨a'⟩ ⟨b'⟩))=(ob (dj (dV χ n) a.toList) λa'=>ob (dj (dV χ n) b.toList) λb'=>some (Value.func (.func f) ⟨a'⟩ ⟨b'⟩))
    rw[sS h1,sS h2]
   |_=>cases hv
  |nilFunc=>cases hv;rfl
  |nilIface=>cases hv;rfl
  |iface t x=>
   have hv:(ob (dV ψ n x) λx'=>some (.iface t x'))=some v':=hv;obtain⟨x1,h1,hv⟩:=ak hv;cases hv;show(ob (dV φ n x1) λx'=>some (Value.iface t x'))=(ob (dV χ n x) λx'=>some (Value.iface t x'))
   rw[zu h n _ _ h1]
  |agg a=>
   have hv:(ob (dj (dV ψ n) a.toList) λa'=>some (.agg ⟨a'⟩))=some v':=hv;obtain⟨a1,h1,hv⟩:=ak hv;cases hv;show(ob (dj (dV φ n) a1) λa'=>some (Value.agg ⟨a'⟩))=(ob (dj (dV χ n) a.toList) λa'=>some (Value.agg ⟨a'⟩))
   rw[sS h1]
  |tuple a=>
   have hv:(ob (dj (dV ψ n) a.toList) λa'=>some (.tuple ⟨a'⟩))=some v':=hv;obtain⟨a1,h1,hv⟩:=ak hv;cases hv;show(ob (dj (dV φ n) a1) λa'=>some (Value.tuple ⟨a'⟩))=(ob (dj (dV χ n) a.toList) λa'=>some (Value.tuple ⟨a'⟩))
   rw[sS h1]
def DL {ψ φ:Nat->Option Nat} (h:∀a b,ψ a=some b->∃c,φ b=some c):∀(n:Nat) (v v':Value),dV ψ n v=some v'->∃u,dV φ n v'=some u
 |0,v,v',hv=>by cases hv
 |n+1,v,v',hv=>by
  have sS:∀ {l l':LVal},dj (dV ψ n) l=some l'->∃u,dj (dV φ n) l'=some u:= λh1=>DK (λv v'=>DL h n v v') h1;cases v with
  |bool b=>cases b<;>(cases hv;exact⟨_,rfl⟩)
  |int k m=>have hv:m5 k m=some v':=hv;rw[fI]at hv;cases hv;exact⟨_,fI k m⟩
  |float=>cases hv
  |complex k a b=>cases hv;exact⟨_,rfl⟩
  |string s=>cases hv;exact⟨_,rfl⟩
  |pointer p=>
   cases p with
   |none=>cases hv;exact⟨_,rfl⟩
   |some p=>
    obtain⟨b,o,sp⟩:=p;cases sp with
    |some _=>cases hv
    |none=>have hv:(ob (ψ b) λb'=>cG o λo'=>some (.pointer (some ⟨b',o',none⟩)))=some v':=hv;obtain⟨b',h1,hv⟩:=ak hv;rw[bD]at hv;cases hv;obtain⟨c,hc⟩:=h _ _ h1;refine⟨.pointer (some ⟨c,o,none⟩),?_⟩;show(ob (φ b') λb'=>cG o λo'=>some (Value.pointer (some ⟨b',o',none⟩)))=_;rw[hc,cg,bD]
  |slice p m c=>
   cases p with
   |none=>
    cases m with
    |succ m=>cases hv
    |zero=>
     cases c with
     |succ c=>cases hv
     |zero=>cases hv;exact⟨_,rfl⟩
   |some p=>
    obtain⟨b,o,sp⟩:=p;cases sp with
    |some _=>cases hv
    |none=>have hv:(ob (ψ b) λb'=>cG o λo'=>cG m λm'=>cG c λc'=>some (.slice (some ⟨b',o',none⟩) m' c'))=some v':=hv;obtain⟨b',h1,hv⟩:=ak hv;simp only[bD]at hv;cases hv;obtain⟨d,hd⟩:=h _ _ h1;refine⟨.slice (some ⟨d,o,none⟩) m c,?_⟩;show(ob (φ b') λb'=>cG o λo'=>cG m λm'=>cG c λc'=>some (Value.slice (some ⟨b',o',none⟩) m' c'))=_;rw[hd,cg];simp only[bD]
  |map p=>
   cases p with
   |none=>cases hv;exact⟨_,rfl⟩
   |some b=>have hv:(ob (ψ b) λb'=>some (.map (some b')))=some v':=hv;obtain⟨b',h1,hv⟩:=ak hv;cases hv;obtain⟨d,hd⟩:=h _ _ h1;refine⟨.map (some d),?_⟩;show(ob (φ b') λb'=>some (Value.map (some b')))=_;rw[hd,cg]
  |chan=>cases hv
  |func f a b=>
   cases f with
   |func f=>have hv:(ob (dj (dV ψ n) a.toList) λa'=>ob (dj (dV ψ n) b.toList) λb'=>some (.func (.func f) ⟨a'⟩ ⟨b'⟩))=some v':=hv;obtain⟨a1,h1,hv⟩:=ak hv;obtain⟨b1,h2,hv⟩:=ak hv;cases hv;obtain⟨a2,e1⟩:=sS h1;obtain⟨b2,e2⟩:=sS h2;refine⟨.func (.func f) ⟨a2⟩ ⟨b2⟩,?_⟩;show(ob (dj (dV φ n) a1) λa'=>ob (dj (dV φ n) b1) λb'=>some (Value.func (.func f) ⟨a'⟩ ⟨b'⟩))=_;rw[e1,cg,e2,cg]
   |_=>cases hv
  |nilFunc=>cases hv;exact⟨_,rfl⟩
  |nilIface=>cases hv;exact⟨_,rfl⟩
  |iface t x=>have hv:(ob (dV ψ n x) λx'=>some (.iface t x'))=some v':=hv;obtain⟨x1,h1,hv⟩:=ak hv;cases hv;obtain⟨u,hu⟩:=DL h n _ _ h1;refine⟨.iface t u,?_⟩;show(ob (dV φ n x1) λx'=>some (Value.iface t x'))=_;rw[hu,cg]
  |agg a=>have hv:(ob (dj (dV ψ n) a.toList) λa'=>some (.agg ⟨a'⟩))=some v':=hv;obtain⟨a1,h1,hv⟩:=ak hv;cases hv;obtain⟨a2,e1⟩:=sS h1;refine⟨.agg ⟨a2⟩,?_⟩;show(ob (dj (dV φ n) a1) λa'=>some (Value.agg ⟨a'⟩))=_;rw[e1,cg]
  |tuple a=>have hv:(ob (dj (dV ψ n) a.toList) λa'=>some (.tuple ⟨a'⟩))=some v':=hv;obtain⟨a1,h1,hv⟩:=ak hv;cases hv;obtain⟨a2,e1⟩:=sS h1;refine⟨.tuple ⟨a2⟩,?_⟩;show(ob (dj (dV φ n) a1) λa'=>some (Value.tuple ⟨a'⟩))=_;rw[e1,cg]
def zw {q r:Value->bQ} (h:∀v v',q v=some v'->r v=some v'):∀ {l l':LVal},dj q l=some l'->dj r l=some l'
 | [],l',hl=>by cases hl;rfl
 |v::l,l',hl=>by have hl:ob (q v) (λv'=>ob (dj q l) λl'=>some (v'::l'))=some l':=hl;obtain⟨v1,h1,hl⟩:=ak hl;obtain⟨l1,h2,hl⟩:=ak hl;cases hl;show ob (r v) (λv'=>ob (dj r l) λl'=>some (v'::l'))=_;rw[h _ _ h1,cg,zw h h2,cg]
def zx {ψ φ:Nat->Option Nat} (h:∀a b,ψ a=some b->φ a=some b):∀(n:Nat) (v v':Value),dV ψ n v=some v'->dV φ n v=some v'
 |0,v,v',hv=>by cases hv
 |n+1,v,v',hv=>by
  have sS:∀ {l l':LVal},dj (dV ψ n) l=some l'->dj (dV φ n) l=some l':= λh1=>zw (λv v'=>zx h n v v') h1;cases v with
  |bool b=>cases b<;>(cases hv;rfl)
  |int k m=>have hv:m5 k m=some v':=hv;rw[fI]at hv;cases hv;exact fI k m
  |float=>cases hv
  |complex k a b=>cases hv;rfl
  |string s=>cases hv;rfl
  |pointer p=>
   cases p with
   |none=>cases hv;rfl
   |some p=>
    obtain⟨b,o,sp⟩:=p;cases sp with
    |some _=>cases hv
    |none=>have hv:(ob (ψ b) λb'=>cG o λo'=>some (.pointer (some ⟨b',o',none⟩)))=some v':=hv;obtain⟨b',h1,hv⟩:=ak hv;rw[bD]at hv;cases hv;show(ob (φ b) λb'=>cG o λo'=>some (Value.pointer (some ⟨b',o',none⟩)))=_;rw[h _ _ h1,cg];simp only[bD]
  |slice p m c=>
   cases p with
   |none=>
    cases m with
    |succ m=>cases hv
    |zero=>
     cases c with
     |succ c=>cases hv
     |zero=>cases hv;rfl
   |some p=>
    obtain⟨b,o,sp⟩:=p;cases sp with
    |some _=>cases hv
    |none=>have hv:(ob (ψ b) λb'=>cG o λo'=>cG m λm'=>cG c λc'=>some (.slice (some ⟨b',o',none⟩) m' c'))=some v':=hv;obtain⟨b',h1,hv⟩:=ak hv;simp only[bD]at hv;cases hv;show(ob (φ b) λb'=>cG o λo'=>cG m λm'=>cG c λc'=>some (Value.slice (some ⟨b',o',none⟩) m' c'))=_;rw[h _ _ h1,cg];simp only[bD]
  |map p=>
   cases p with
   |none=>cases hv;rfl
   |some b=>have hv:(ob (ψ b) λb'=>some (.map (some b')))=some v':=hv;obtain⟨b',h1,hv⟩:=ak hv;cases hv;show(ob (φ b) λb'=>some (Value.map (some b')))=_;rw[h _ _ h1,cg]
  |chan=>cases hv
  |func f a b=>
   cases f with
   |func f=>have hv:(ob (dj (dV ψ n) a.toList) λa'=>ob (dj (dV ψ n) b.toList) λb'=>some (.func (.func f) ⟨a'⟩ ⟨b'⟩))=some v':=hv;obtain⟨a1,h1,hv⟩:=ak hv;obtain⟨b1,h2,hv⟩:=ak hv;cases hv;show(ob (dj (dV φ n) a.toList) λa'=>ob (dj (dV φ n) b.toList) λb'=>some (Value.func (.func f) ⟨a'⟩ ⟨b'⟩))=_;rw[sS h1,cg,sS h2,cg]
   |_=>cases hv
  |nilFunc=>cases hv;rfl
  |nilIface=>cases hv;rfl
  |iface t x=>have hv:(ob (dV ψ n x) λx'=>some (.iface t x'))=some v':=hv;obtain⟨x1,h1,hv⟩:=ak hv;cases hv;show(ob (dV φ n x) λx'=>some (Value.iface t x'))=_;rw[zx h n _ _ h1,cg]
  |agg a=>have hv:(ob (dj (dV ψ n) a.toList) λa'=>some (.agg ⟨a'⟩))=some v':=hv;obtain⟨a1,h1,hv⟩:=ak hv;cases hv;show(ob (dj (dV φ n) a.toList) λa'=>some (Value.agg ⟨a'⟩))=_;rw[sS h1,cg]
  |tuple a=>have hv:(ob (dj (dV ψ n) a.toList) λa'=>some (.tuple ⟨a'⟩))=some v':=hv;obtain⟨a1,h1,hv⟩:=ak hv;cases hv;show(ob (dj (dV φ n) a.toList) λa'=>some (Value.tuple ⟨a'⟩))=_;rw[sS h1,cg]
noncomputable abbrev QY (ρ:Nat->Nat) (n:Nat):Value->bQ:=dV (λb=>some (ρ b)) n
def DM {q r t:Value->bQ} (h:∀v v',q v=some v'->r v'=t v):∀ {c c':T LVal},ju q c=some c'->ju r c'=ju t c
 | .e,c',hc=>by have hc:some T.e=some c':=hc;cases hc;rfl
 | .n v l r0,c',hc=>by
  have hc:(ob (ju q l) λl=>ob (ju q r0) λr'=>Option.rec (motive:= λ_=>Option (T LVal)) (some (T.n none l r')) (λc=>ob (dj q c) λc'=>some (T.n (some c') l r')) v)=some c':=hc;obtain⟨l1,h1,hc⟩:=ak hc;obtain⟨r1,h2,hc⟩:=ak hc;have e1:=DM h h1;have e2:=DM h h2;cases v with
  |none=>
   have hc:some (T.n none l1 r1)=some c':=hc;cases hc;show(ob (ju r l1) λl=>ob (ju r r1) λr'=>some (T.n none l r'))=(ob (ju t l) λl=>ob (ju t r0) λr'=>some (T.n none l r'))
   rw[e1,e2]
  |some x=>
   have hc:(ob (dj q x) λc'=>some (T.n (some c') l1 r1))=some c':=hc;obtain⟨x1,h3,hc⟩:=ak hc;cases hc;show(ob (ju r l1) λl=>ob (ju r r1) λr'=>ob (dj r x1) λc'=>some (T.n (some c') l r'))=(ob (ju t l) λl=>ob (ju t r0) λr'=>ob (dj t x) λc'=>some (T.n (some c') l r'))
   rw[e1,e2,zt h h3]
def DN {q r:Value->bQ} (h:∀v v',q v=some v'->∃u,r v'=some u):∀ {c c':T LVal},ju q c=some c'->∃u,ju r c'=some u
 | .e,c',hc=>by have hc:some T.e=some c':=hc;cases hc;exact⟨_,rfl⟩
 | .n v l r0,c',hc=>by
  have hc:(ob (ju q l) λl=>ob (ju q r0) λr'=>Option.rec (motive:= λ_=>Option (T LVal)) (some (T.n none l r')) (λc=>ob (dj q c) λc'=>some (T.n (some c') l r')) v)=some c':=hc;obtain⟨l1,h1,hc⟩:=ak hc;obtain⟨r1,h2,hc⟩:=ak hc;obtain⟨u1,e1⟩:=DN h h1;obtain⟨u2,e2⟩:=DN h h2;cases v with
  |none=>have hc:some (T.n none l1 r1)=some c':=hc;cases hc;refine⟨.n none u1 u2,?_⟩;show(ob (ju r l1) λl=>ob (ju r r1) λr'=>some (T.n none l r'))=_;rw[e1,cg,e2,cg]
  |some x=>have hc:(ob (dj q x) λc'=>some (T.n (some c') l1 r1))=some c':=hc;obtain⟨x1,h3,hc⟩:=ak hc;cases hc;obtain⟨u3,e3⟩:=DK h h3;refine⟨.n (some u3) u1 u2,?_⟩;show(ob (ju r l1) λl=>ob (ju r r1) λr'=>ob (dj r x1) λc'=>some (T.n (some c') l r'))=_;rw[e1,cg,e2,cg,e3,cg]
def yi {q:Value->bQ} {b b':eX} (h:kr q b=some b'):∃c c' sz n et,b= .cells c sz n false et∧b'= .cells c' sz n false et∧ju q c=some c':=by
 unfold kr at h;split at h
 ·obtain⟨c',hc,h⟩:=ak h;simp only[bD]at h;cases h;exact⟨_,_,_,_,_,rfl,rfl,hc⟩
 ·cases h
def rR (q:Value->bQ) (c:T LVal) (sz n et:Nat):kr q (.cells c sz n false et)=ob (ju q c) λc'=>some (eX.cells c' sz n false et):=by show(ob (ju q c) λc'=>cG sz λvV=>cG n λn'=>cG et λRH=>some (eX.cells c' vV n' false RH))=_;simp only[bD]
def DO {q r t:Value->bQ} (h:∀v v',q v=some v'->r v'=t v) {b b':eX} (hb:kr q b=some b'):kr r b'=kr t b:=by obtain⟨c,c',sz,n,et,rfl,rfl,hc⟩:=yi hb;rw[rR,rR,DM h hc]
def X4 {q r:Value->bQ} (h:∀v v',q v=some v'->∃u,r v'=some u) {b b':eX} (hb:kr q b=some b'):∃u,kr r b'=some u:=by obtain⟨c,c',sz,n,et,rfl,rfl,hc⟩:=yi hb;obtain⟨u,hu⟩:=DN h hc;exact⟨_,by rw[rR,hu,cg]⟩
section
variable {ρ:Nat->Nat} (rE:∀i j,ρ i=ρ j->i=j)
include rE
def Mx (a b:Nat):Nat.beq (ρ a) (ρ b)=Nat.beq a b:=by
 cases h:Nat.beq a b with
 |true=>rw[au h];exact bj _
 |false=>
  cases h':Nat.beq (ρ a) (ρ b)with
  |false=>rfl
  |true=>have:=rE _ _ (au h');subst this;rw[bj]at h;cases h
def O8 (b:Nat):∀(l:List Nat),WD (ρ b) (l.map ρ)=(WD b l).map (List.map ρ)
 | []=>by show cG (ρ b) (λb=>some [b])=(cG b λb=>some [b]).map (List.map ρ);rw[bD,bD];rfl
 |x::t=>by
  show aD (Nat.beq (ρ x) (ρ b)) (some (ρ x::t.map ρ)) (ob (WD (ρ b) (t.map ρ)) λr=>some (ρ x::r))=(aD (Nat.beq x b) (some (x::t)) (ob (WD b t) λr=>some (x::r))).map (List.map ρ);rw[Mx rE,O8 b t];cases Nat.beq x b with
  |true=>rfl
  |false=>cases WD b t<;>rfl
def G7 (b:Nat) (l:List Nat):WE 0 (ρ b) (l.map ρ)=(WE 0 b l).map (List.map ρ):=by
 have h0:∀b,Nat.blt b 0=false:= λb=>by cases hb:Nat.blt b 0 with|false=>rfl|true=>exact absurd (aO hb) (aIB b)
 unfold WE;rw[h0,h0,de,de,O8 rE]
omit rE in
theorem Co {q:Value->bQ} {f:Value->List Nat->Option (List Nat)} (h:∀v v',q v=some v'->∀l,f v' (l.map ρ)=(f v l).map (List.map ρ)):∀ {vs QN:LVal},dj q vs=some QN->∀l,pg f QN (l.map ρ)=(pg f vs l).map (List.map ρ)
 | [],QN,hv,l=>by cases hv;rfl
 |v::vs,QN,hv,l=>by
  have hv:ob (q v) (λv'=>ob (dj q vs) λl'=>some (v'::l'))=some QN:=hv;obtain⟨v1,h1,hv⟩:=ak hv;obtain⟨l1,h2,hv⟩:=ak hv;cases hv;show ob (f v1 (l.map ρ)) (λl=>pg f l1 l)=(ob (f v l) (λl=>pg f vs l)).map (List.map ρ);rw[h _ _ h1];cases hf:f v l with
  |none=>rfl
  |some l2=>show pg f l1 (l2.map ρ)=(pg f vs l2).map (List.map ρ);exact Co h h2 l2
def Cp:∀(n:Nat) (v v':Value),QY ρ n v=some v'->∀l,pY 0 n v' (l.map ρ)=(pY 0 n v l).map (List.map ρ)
 |0,v,v',hv,l=>by cases hv
 |n+1,v,v',hv,l=>by
  have sS:∀ {vs QN:LVal},dj (QY ρ n) vs=some QN->∀l,pg (pY 0 n) QN (l.map ρ)=(pg (pY 0 n) vs l).map (List.map ρ):= λh1=>Co (λv v' h=>Cp n v v' h) h1;cases v with
  |bool b=>cases b<;>(cases hv;rfl)
  |int k m=>have hv:m5 k m=some v':=hv;rw[fI]at hv;cases hv;rfl
  |float=>cases hv
  |complex k a b=>cases hv;rfl
  |string s=>cases hv;rfl
  |pointer p=>
   cases p with
   |none=>cases hv;rfl
   |some p=>
    obtain⟨b,o,sp⟩:=p;cases sp with
    |some _=>cases hv
    |none=>have hv:(ob (some (ρ b)) λb'=>cG o λo'=>some (.pointer (some ⟨b',o',none⟩)))=some v':=hv;rw[cg,bD]at hv;cases hv;exact G7 rE b l
  |slice p m c=>
   cases p with
   |none=>
    cases m with
    |succ m=>cases hv
    |zero=>
     cases c with
     |succ c=>cases hv
     |zero=>cases hv;rfl
   |some p=>
    obtain⟨b,o,sp⟩:=p;cases sp with
    |some _=>cases hv
    |none=>have hv:(ob (some (ρ b)) λb'=>cG o λo'=>cG m λm'=>cG c λc'=>some (.slice (some ⟨b',o',none⟩) m' c'))=some v':=hv;rw[cg]at hv;simp only[bD]at hv;cases hv;exact G7 rE b l
  |map p=>
   cases p with
   |none=>cases hv;rfl
   |some b=>have hv:(ob (some (ρ b)) λb'=>some (.map (some b')))=some v':=hv;rw[cg]at hv;cases hv;exact G7 rE b l
  |chan=>cases hv
  |func f a b=>
   cases f with
   |func f=>
    have hv:(ob (dj (QY ρ n) a.toList) λa'=>ob (dj (QY ρ n) b.toList) λb'=>some (.func (.func f) ⟨a'⟩ ⟨b'⟩))=some v':=hv;obtain⟨a1,h1,hv⟩:=ak hv;obtain⟨b1,h2,hv⟩:=ak hv;cases hv;show(ob (pg (pY 0 n) a1 (l.map ρ)) λl=>pg (pY 0 n) b1 l)=(ob (pg (pY 0 n) a.toList l) λl=>pg (pY 0 n) b.toList l).map (List.map ρ);rw[sS h1];cases pg (pY 0 n) a.toList l with
    |none=>rfl
    |some l2=>exact sS h2 l2
   |_=>cases hv
  |nilFunc=>cases hv;rfl
  |nilIface=>cases hv;rfl
  |iface t x=>have hv:(ob (QY ρ n x) λx'=>some (.iface t x'))=some v':=hv;obtain⟨x1,h1,hv⟩:=ak hv;cases hv;exact Cp n _ _ h1 l
  |agg a=>have hv:(ob (dj (QY ρ n) a.toList) λa'=>some (.agg ⟨a'⟩))=some v':=hv;obtain⟨a1,h1,hv⟩:=ak hv;cases hv;exact sS h1 l
  |tuple a=>have hv:(ob (dj (QY ρ n) a.toList) λa'=>some (.tuple ⟨a'⟩))=some v':=hv;obtain⟨a1,h1,hv⟩:=ak hv;cases hv;exact sS h1 l
def G8 {n:Nat}:∀ {c c':T LVal},ju (QY ρ n) c=some c'->∀l,EN 0 n c' (l.map ρ)=(EN 0 n c l).map (List.map ρ)
 | .e,c',hc,l=>by have hc:some T.e=some c':=hc;cases hc;rfl
 | .n v cl cr,c',hc,l=>by
  have hc:(ob (ju (QY ρ n) cl) λl=>ob (ju (QY ρ n) cr) λr'=>Option.rec (motive:= λ_=>Option (T LVal)) (some (T.n none l r')) (λc=>ob (dj (QY ρ n) c) λc'=>some (T.n (some c') l r')) v)=some c':=hc;obtain⟨l1,h1,hc⟩:=ak hc;obtain⟨r1,h2,hc⟩:=ak hc;have two:∀l,(ob (EN 0 n l1 (l.map ρ)) λl=>EN 0 n r1 l)=(ob (EN 0 n cl l) λl=>EN 0 n cr l).map (List.map ρ):= λl=>by
   rw[G8 h1];cases EN 0 n cl l with
   |none=>rfl
   |some l2=>exact G8 h2 l2
  cases v with
  |none=>have hc:some (T.n none l1 r1)=some c':=hc;cases hc;exact two l
  |some x=>
   have hc:(ob (dj (QY ρ n) x) λc'=>some (T.n (some c') l1 r1))=some c':=hc;obtain⟨x1,h3,hc⟩:=ak hc;cases hc;show(ob (pg (pY 0 n) x1 (l.map ρ)) λl=>ob (EN 0 n l1 l) (EN 0 n r1))=(ob (pg (pY 0 n) x l) λl=>ob (EN 0 n cl l) (EN 0 n cr)).map (List.map ρ);rw[Co (λv v' h=>Cp rE n v v' h) h3];cases pg (pY 0 n) x l with
   |none=>rfl
   |some l2=>exact two l2
def ado {n:Nat} {b b':eX} (hb:kr (QY ρ n) b=some b') (l:List Nat):I6 0 n b' (l.map ρ)=(I6 0 n b l).map (List.map ρ):=by obtain⟨c,c',sz,m,et,rfl,rfl,hc⟩:=yi hb;exact G8 rE hc l
omit rE in
theorem O9 (i:Nat) (l:List Nat):Lk i (l.map ρ)=(Lk i l).map ρ:=by rw[BT,BT,iB]
def Pa (a:Nat):∀(l:List Nat) (i:Nat),my (l.map ρ) (ρ a) i=my l a i
 | [],_=>rfl
 |x::t,i=>by show aD (Nat.beq (ρ x) (ρ a)) (cG i λi=>some i) (my (t.map ρ) (ρ a) (Nat.succ i))=aD (Nat.beq x a) (cG i λi=>some i) (my t a (Nat.succ i));rw[Mx rE,Pa a t]
def CS:∀(l:List Nat),fA (l.map ρ)=fA l
 | []=>rfl
 |x::t=>by
  have h:∀(t:List Nat),(List.rec (motive:= λ_=>Bool) false (λy _ i=>aD (Nat.beq (ρ x) y) true i) (t.map ρ):Bool)=List.rec (motive:= λ_=>Bool) false (λy _ i=>aD (Nat.beq x y) true i) t:=by
   intro t;induction t with
   |nil=>rfl
   |cons y t ih=>show aD (Nat.beq (ρ x) (ρ y)) true _=aD (Nat.beq x y) true _;rw[Mx rE,ih]
  show aD (List.rec (motive:= λ_=>Bool) false (λy _ i=>aD (Nat.beq (ρ x) y) true i) (t.map ρ)) false (fA (t.map ρ))=aD (List.rec (motive:= λ_=>Bool) false (λy _ i=>aD (Nat.beq x y) true i) t) false (fA t);rw[h,CS t]
end
def DP {q r:Value->bQ} (h:∀v v',q v=some v'->r v=some v'):∀ {c c':T LVal},ju q c=some c'->ju r c=some c'
 | .e,c',hc=>by have hc:some T.e=some c':=hc;cases hc;rfl
 | .n v l r0,c',hc=>by
  have hc:(ob (ju q l) λl=>ob (ju q r0) λr'=>Option.rec (motive:= λ_=>Option (T LVal)) (some (.n none l r')) (λc=>ob (dj q c) λc'=>some (.n (some c') l r')) v)=some c':=hc;obtain⟨l1,h1,hc⟩:=ak hc;obtain⟨r1,h2,hc⟩:=ak hc;have e1:=DP h h1;have e2:=DP h h2;cases v with
  |none=>have hc:some (T.n none l1 r1)=some c':=hc;cases hc;show(ob (ju r l) λl=>ob (ju r r0) λr'=>some (T.n none l r'))=_;rw[e1,cg,e2,cg]
  |some x=>have hc:(ob (dj q x) λc'=>some (T.n (some c') l1 r1))=some c':=hc;obtain⟨x1,h3,hc⟩:=ak hc;cases hc;show(ob (ju r l) λl=>ob (ju r r0) λr'=>ob (dj r x) λc'=>some (T.n (some c') l r'))=_;rw[e1,cg,e2,cg,zw h h3,cg]
def ra {q r:Value->bQ} (h:∀v v',q v=some v'->r v=some v') {b b':eX} (hb:kr q b=some b'):kr r b=some b':=by obtain⟨c,c',sz,n,et,rfl,rfl,hc⟩:=yi hb;rw[rR,DP h hc,cg]
noncomputable abbrev oF (ρ:Nat->Nat) (K n:Nat):Value->bQ:=dV (λb=>if b<K then some (ρ b)else none) n
def akP {ρ:Nat->Nat} {K:Nat} (h:oF ρ K n v=some v'):QY ρ n v=some v':=
 zx (λa b jJ=>by
  split at jJ
  ·exact jJ
  ·cases jJ) n v v' h
def GJ {ρ ρ':Nat->Nat} {K K':Nat} (hK:K<=K') (hr:∀i,i<K->ρ' i=ρ i) (h:oF ρ K n v=some v'):oF ρ' K' n v=some v':=
 zx (λa b jJ=>by
  split at jJ
  ·rename_i ha;rw[aU (by omega),hr a ha];exact jJ
  ·cases jJ) n v v' h
structure Bf (ρ:Nat->Nat) (W s:AS):Prop where
 inj:∀i j,ρ i=ρ j->i=j
 lt:∀i,i<W.nx->ρ i<s.nx
 hi:∀i,W.nx<=i->s.nx<=ρ i
 jI:∀i,(W.h.get i=none∧s.h.get (ρ i)=none)∨∃b b',W.h.get i=some b∧s.h.get (ρ i)=some b'∧kr (oF ρ W.nx 12) b=some b'
def DQ {ρ:Nat->Nat} {W s:AS} (he:Bf ρ W s):∀(fuel i:Nat) (l:List Nat),mg s.h 0 12 fuel i (l.map ρ)=(mg W.h 0 12 fuel i l).map (List.map ρ)
 |0,_,_=>rfl
 |fuel+1,i,l=>by
  show(Option.rec (motive:= λ_=>Option (List Nat)) (some (l.map ρ)) (λb=>ob (Option.rec (motive:= λ_=>Option (List Nat)) (some (l.map ρ)) (λx=>I6 0 12 x (l.map ρ)) (s.h.get b)) λl=>mg s.h 0 12 fuel (Nat.succ i) l) (Lk i (l.map ρ)))=(Option.rec (motive:= λ_=>Option (List Nat)) (some l) (λb=>ob (Option.rec (motive:= λ_=>Option (List Nat)) (some l) (λx=>I6 0 12 x l) (W.h.get b)) λl=>mg W.h 0 12 fuel (Nat.succ i) l) (Lk i l)).map (List.map ρ);rw[O9];cases Lk i l with
  |none=>rfl
  |some b=>
   show(ob (Option.rec (motive:= λ_=>Option (List Nat)) (some (l.map ρ)) (λx=>I6 0 12 x (l.map ρ)) (s.h.get (ρ b))) λl=>mg s.h 0 12 fuel (Nat.succ i) l)=(ob (Option.rec (motive:= λ_=>Option (List Nat)) (some l) (λx=>I6 0 12 x l) (W.h.get b)) λl=>mg W.h 0 12 fuel (Nat.succ i) l).map (List.map ρ);rcases he.jI b with ⟨h1,h2⟩|⟨x,x',h1,h2,h3⟩
   ·rw[h1,h2];exact DQ he fuel (Nat.succ i) l
   ·rw[h1,h2];show(ob (I6 0 12 x' (l.map ρ)) λl=>mg s.h 0 12 fuel (Nat.succ i) l)=(ob (I6 0 12 x l) λl=>mg W.h 0 12 fuel (Nat.succ i) l).map (List.map ρ);rw[ado he.inj (ra (λv v' h=>akP h) h3)];cases I6 0 12 x l with
    |none=>rfl
    |some l2=>exact DQ he fuel (Nat.succ i) l2
def V4 {ρ:Nat->Nat} {W s:AS} (he:Bf ρ W s) {r r':Value->bQ} (hr:∀b b',kr (oF ρ W.nx 12) b=some b'->kr r' b'=kr r b):∀(l:List Nat) (i:Nat) (t:T eX),lH r' s.h (l.map ρ) i t=lH r W.h l i t
 | [],_,_=>rfl
 |a::l,i,t=>by
  show(Option.rec (motive:= λ_=>Option (T eX)) (ob (T.put none t i) λt'=>lH r' s.h (l.map ρ) (Nat.succ i) t') (λb=>ob (kr r' b) λb'=>ob (T.put (some b') t i) λt'=>lH r' s.h (l.map ρ) (Nat.succ i) t') (s.h.get (ρ a)))=(Option.rec (motive:= λ_=>Option (T eX)) (ob (T.put none t i) λt'=>lH r W.h l (Nat.succ i) t') (λb=>ob (kr r b) λb'=>ob (T.put (some b') t i) λt'=>lH r W.h l (Nat.succ i) t') (W.h.get a))
  have ih:=V4 he hr l (Nat.succ i);rcases he.jI a with ⟨h1,h2⟩|⟨x,x',h1,h2,h3⟩
  ·rw[h1,h2];show(ob (T.put none t i) λt'=>lH r' s.h (l.map ρ) (Nat.succ i) t')=(ob (T.put none t i) λt'=>lH r W.h l (Nat.succ i) t')
   congr 1;exact funext ih
  ·rw[h1,h2];show(ob (kr r' x') λb'=>ob (T.put (some b') t i) λt'=>lH r' s.h (l.map ρ) (Nat.succ i) t')=(ob (kr r x) λb'=>ob (T.put (some b') t i) λt'=>lH r W.h l (Nat.succ i) t')
   rw[hr _ _ h3];congr 1;funext b';congr 1;exact funext ih
def G9 {r:Value->bQ} {h:T eX}:∀ {l:List Nat} {i:Nat} {t t':T eX},lH r h l i t=some t'->(∀j,j<i->t.has j)->∀j,j<i+l.length->t'.has j
 | [],i,t,t',e,ht,j,hj=>by cases e;exact ht j (by simpa using hj)
 |a::l,i,t,t',e,ht,j,hj=>by
  have fP:∃(x:Option eX) (t1:T eX),T.put x t i=some t1∧lH r h l (Nat.succ i) t1=some t':=by
   have e:Option.rec (motive:= λ_=>Option (T eX)) (ob (T.put none t i) λt'=>lH r h l (Nat.succ i) t') (λb=>ob (kr r b) λb'=>ob (T.put (some b') t i) λt'=>lH r h l (Nat.succ i) t') (h.get a)=some t':=e;cases hg:h.get a with
   |none=>rw[hg]at e;obtain⟨t1,e1,e2⟩:=ak e;exact⟨none,t1,e1,e2⟩
   |some b=>rw[hg]at e;obtain⟨b',e0,e⟩:=ak e;obtain⟨t1,e1,e2⟩:=ak e;exact⟨some b',t1,e1,e2⟩
  obtain⟨x,t1,e1,e2⟩:=fP;obtain⟨p1,p2⟩:=T.qO e1;refine G9 e2 (λj hj=>?_) j (by simp at hj;omega);by_cases h0:j=i
  ·rw[h0];exact p1
  ·exact p2 j (ht j (by omega))
def Kz {r:Value->bQ} {h:T eX}:∀ {l:List Nat} {i:Nat} {t:T eX},(∀j,j<i->t.has j)->(∀a∈l,∀b,h.get a=some b->∃b',kr r b=some b')->∃t',lH r h l i t=some t'
 | [],i,t,ht,_=>⟨t,rfl⟩
 |a::l,i,t,ht,hb=>by
  have step:∀x:Option eX,∃t',(ob (T.put x t i) λt'=>lH r h l (Nat.succ i) t')=some t':= λx=>by
   have hp:=T.od x t i ht;cases e:T.put x t i with
   |none=>rw[e]at hp;cases hp
   |some t1=>
    obtain⟨p1,p2⟩:=T.qO e;exact Kz (λj hj=>by
     by_cases h0:j=i
     ·rw[h0];exact p1
     ·exact p2 j (ht j (by omega))) λa ha=>hb a (by simp[ha])
  show∃t',(Option.rec (motive:= λ_=>Option (T eX)) (ob (T.put none t i) λt'=>lH r h l (Nat.succ i) t') (λb=>ob (kr r b) λb'=>ob (T.put (some b') t i) λt'=>lH r h l (Nat.succ i) t') (h.get a))=some t';cases hg:h.get a with
  |none=>exact step none
  |some b=>obtain⟨b',e⟩:=hb a (by simp) b hg;show∃t',(ob (kr r b) λb'=>ob (T.put (some b') t i) λt'=>lH r h l (Nat.succ i) t')=some t';rw[e];exact step (some b')
def Pb (n:Nat) (k:Nat->Out):xE n k=k n:=by cases n<;>rfl
def KA {B:Ev} {args args':LVal} {ρ:Nat->Nat} {W W':AS} {wv:Value} (N7:Good W) (hg:Good s) (he:Bf ρ W s) (ha:dj (oF ρ W.nx 12) args=some args') (h:lO B f args W= .val wv W'):
  ∃ρ' v s',lO B f args' s= .val v s'∧oF ρ' W'.nx 12 wv=some v∧Bf ρ' W' s'∧Good W'∧Grown s.nx s s'∧(∀i,i<W.nx->ρ' i=ρ i)∧W.nx<=W'.nx∧(∀i,W.nx<=i->s.nx<=ρ' i):=by
 have haV:dj (QY ρ 12) args=some args':=zw (λv v' h=>akP h) ha;have hA:=Co (ρ:=ρ) (f:=pY 0 12) (λv v' h=>Cp he.inj 12 v v' h) haV [];unfold lO at h;cases NZ:pg (pY 0 12) args []with
 |none=>rw[NZ]at h;cases h
 |some l0=>
 rw[NZ,cg]at h;rw[NZ]at hA;have hR:=DQ he 200 0 l0;cases hl:mg W.h 0 12 200 0 l0 with
 |none=>rw[hl]at h;cases h
 |some l=>
 rw[hl]at h hR;have h:aD (aD (fA l) (zZ W.nx l) false) (Option.rec (motive:= λ_=>Out) .no (λargs'=>
    Option.rec (motive:= λ_=>Out) .no (λh=>xE (len l) λk=>pI W l k (B (.func (.func f) #[] #[]) args' ⟨h,k,k⟩))
     (lH (dV (λa=>my l a 0) 12) W.h l 0 (lQ 20))) (dj (dV (λa=>my l a 0) 12) args)) .no= .val wv W':=h
 cases hc:aD (fA l) (zZ W.nx l) false with
 |false=>rw[hc]at h;cases h
 |true=>
 rw[hc,aS]at h;have hd:fA l=true:=by cases e:fA l with|true=>rfl|false=>rw[e]at hc;cases hc
 rw[hd,aS]at hc;have cS:=DA hc;cases hr:dj (dV (λa=>my l a 0) 12) args with
 |none=>rw[hr]at h;cases h
 |some UA=>
 rw[hr]at h;have h:Option.rec (motive:= λ_=>Out) .no (λh=>xE (len l) λk=>pI W l k (B (.func (.func f) #[] #[]) UA ⟨h,k,k⟩)) (lH (dV (λa=>my l a 0) 12) W.h l 0 (lQ 20))= .val wv W':=h;cases hy:lH (dV (λa=>my l a 0) 12) W.h l 0 (lQ 20)with
 |none=>rw[hy]at h;cases h
 |some ch=>
 rw[hy]at h;have h:xE (len l) (λk=>pI W l k (B (.func (.func f) #[] #[]) UA ⟨ch,k,k⟩))= .val wv W':=h;rw[Pb,dQ]at h;generalize hk:l.length=k at h;generalize hB:B (.func (.func f) #[] #[]) UA ⟨ch,k,k⟩=o at h;cases o with
 |no=>cases h
 |code x tm s1=>cases h
 |val v s1=>
 have h:lM (ob (ob (pY k 12 v []) λm=>mg s1.h k 12 200 0 m) λm=>aD (aD (fA m) (Er k m) false)
   (ob (dV (lU l m k W.nx) 12 v) λv'=>ob (lH (dV (lU l m k W.nx) 12) s1.h m W.nx W.h) λh=>cG (Nat.add W.nx (len m)) λnx=>cG W.lim λlm=>some (v',(⟨h,nx,lm⟩:AS))) none)= .val wv W':=h
 have h:=OZ h;obtain⟨m,hm,h⟩:=ak h;cases Dj:aD (fA m) (Er k m) false with
 |false=>rw[Dj]at h;cases h
 |true=>
 rw[Dj,aS]at h;obtain⟨wv',hv,h⟩:=ak h;obtain⟨wh,hw,h⟩:=ak h;rw[bD,bD,dQ]at h;cases h;obtain⟨ρ',Gd⟩:∃ρ':Nat->Nat,ρ'= λi=>if i<W.nx then ρ i else s.nx+(i-W.nx):=⟨_,rfl⟩
 have r1:∀i,i<W.nx->ρ' i=ρ i:= λi hi=>by rw[Gd];simp[hi]
 have r2:∀i,W.nx<=i->ρ' i=s.nx+(i-W.nx):= λi hi=>by rw[Gd];simp[Nat.not_lt.2 hi]
 have hlen:∀i x,l[i]? =some x->x<W.nx:= λi x hx=>cS x (cY hx);have Om:∀a b,lU l m k W.nx a=some b->b<W.nx+m.length∧lU (l.map ρ) m k s.nx a=some (ρ' b):=by
  intro a b jJ;unfold lU at jJ⊢;cases hak:Nat.blt a k with
  |true=>rw[hak,aS]at jJ;rw[aS];rw[O9];obtain⟨x,hx,jJ⟩:=ak jJ;rw[bD]at jJ;have hxb:x=b:=bh jJ;rw[hxb]at hx;rw[hx];have Vf:b<W.nx:=hlen a b (by rw[<-BT];exact hx);refine⟨by omega,?_⟩;show cG (ρ b) (λa=>some a)=_;rw[bD,r1 b Vf]
  |false=>
   rw[hak,de]at jJ;rw[de];have key:∀(m:List Nat) (i i':Nat),my m a i=some b->∃q,b=i+q∧q<m.length∧my m a i'=some (i'+q):=by
    intro m;induction m with
    |nil=>intro i i' h;cases h
    |cons x t ih=>
     intro i i' h;have h:aD (Nat.beq x a) (cG i λi=>some i) (my t a (Nat.succ i))=some b:=h;show∃q,b=i+q∧q<(x::t).length∧aD (Nat.beq x a) (cG i' λi=>some i) (my t a (Nat.succ i'))=some (i'+q);cases hxa:Nat.beq x a with
     |true=>rw[hxa,aS,bD]at h;cases h;exact⟨0,rfl,by simp,by rw[aS,bD];rfl⟩
     |false=>rw[hxa,de]at h;obtain⟨q,e1,e2,e3⟩:=ih (Nat.succ i) (Nat.succ i') h;exact⟨q+1,by omega,by simp;omega,by rw[de,e3];congr 1;omega⟩
   obtain⟨q,e1,e2,e3⟩:=key m W.nx s.nx jJ;refine⟨by omega,?_⟩;rw[e3,r2 b (by omega)];congr 1;omega
 have Sr:= λ(v v':Value) (h:dV (lU l m k W.nx) 12 v=some v')=>zu (φ:= λb=>if b<W.nx+m.length then some (ρ' b)else none) (χ:=lU (l.map ρ) m k s.nx) (λa b jJ=>by obtain⟨q1,q2⟩:=Om a b jJ;rw[aU q1,q2]) 12 v v' h
 have abU:= λ(v v':Value) (h:dV (lU l m k W.nx) 12 v=some v')=>DL (φ:= λb=>if b<W.nx+m.length then some (ρ' b)else none) (λa b jJ=>by obtain⟨q1,q2⟩:=Om a b jJ;exact⟨_,aU q1⟩) 12 v v' h
 obtain⟨v2,oo⟩:=abU v wv hv;have BL:=Sr v wv hv;rw[oo]at BL;have dv:= λj=>yg hw j;obtain⟨sh,RK⟩:=Kz (r:=dV (lU (l.map ρ) m k s.nx) 12) (h:=s1.h) (l:=m) (i:=s.nx) (t:=s.h) hg.room (λa hma b hb=>by
  obtain⟨q,hq⟩:=List.getElem?_of_mem hma;rcases(dv 0).2.2 q a hq with ⟨h1,h2⟩|⟨b0,b1,h1,h2,h3⟩
  ·rw[h1]at hb;cases hb
  ·rw[h1]at hb;cases hb;obtain⟨u,hu⟩:=X4 abU h2;exact⟨u,by rw[<-DO Sr h2];exact hu⟩)
 have dI:= λj=>yg RK j;have apW:=G9 hw N7.room;have apX:=G9 RK hg.room;have aJw:Good ⟨wh,W.nx+m.length,W.lim⟩:=⟨N7.lim,apW,λj hj=>by have hj:W.nx+m.length<=j:=hj;rw[(dv j).2.1 hj];exact N7.none j (by omega)⟩
 have aJx:Good ⟨sh,s.nx+m.length,s.lim⟩:=⟨hg.lim,apX,λj hj=>by have hj:s.nx+m.length<=j:=hj;rw[(dI j).2.1 hj];exact hg.none j (by omega)⟩
 refine⟨ρ',v2,⟨sh,s.nx+m.length,s.lim⟩,?_,oo,⟨?_,?_,?_,?_⟩,aJw,⟨aJx,by show s.nx<=s.nx+m.length;omega,λj hj=>(dI j).1 hj⟩,r1,by show W.nx<=W.nx+m.length;omega,λi hi=>by rw[r2 i hi];omega⟩
 ·unfold lO;rw[show pg (pY 0 12) args' []=some (l0.map ρ)from hA,cg,hR];show aD (aD (fA (l.map ρ)) (zZ s.nx (l.map ρ)) false) (Option.rec (motive:= λ_=>Out) .no (λargs'=>
    Option.rec (motive:= λ_=>Out) .no (λh=>xE (len (l.map ρ)) λk=>pI s (l.map ρ) k (B (.func (.func f) #[] #[]) args' ⟨h,k,k⟩))
     (lH (dV (λa=>my (l.map ρ) a 0) 12) s.h (l.map ρ) 0 (lQ 20))) (dj (dV (λa=>my (l.map ρ) a 0) 12) args')) .no=_
  have iO:zZ s.nx (l.map ρ)=true:=by
   have:∀(t:List Nat),(∀x∈t,x<s.nx)->zZ s.nx t=true:=by
    intro t;induction t with
    |nil=>intro _;rfl
    |cons x t ih=>intro ht;show aD (Nat.blt x s.nx) (zZ s.nx t) false=true;rw[show Nat.blt x s.nx=true from bg (ht x (by simp)),aS];exact ih λy hy=>ht y (by simp[hy])
   refine this _ λx hx=>?_;obtain⟨y,hy,rfl⟩:=List.mem_map.1 hx;exact he.lt y (cS y hy)
  have Wv:∀v v',oF ρ W.nx 12 v=some v'->dV (λa=>my (l.map ρ) a 0) 12 v'=dV (λa=>my l a 0) 12 v:= λv v' h=>zu (λa b jJ=>by
   split at jJ
   ·cases jJ;exact Pa he.inj a l 0
   ·cases jJ) 12 v v' h
  rw[CS he.inj,hd,aS,iO,aS,zt Wv ha,hr,V4 he (λb b' hb=>DO Wv hb),hy];show xE (len (l.map ρ)) (λk=>pI s (l.map ρ) k (B (.func (.func f) #[] #[]) UA ⟨ch,k,k⟩))=_;rw[Pb,dQ,dP,hk,hB];show lM (ob (ob (pY k 12 v []) λm=>mg s1.h k 12 200 0 m) λm=>aD (aD (fA m) (Er k m) false)
   (ob (dV (lU (l.map ρ) m k s.nx) 12 v) λv'=>ob (lH (dV (lU (l.map ρ) m k s.nx) 12) s1.h m s.nx s.h) λh=>cG (Nat.add s.nx (len m)) λnx=>cG s.lim λlm=>some (v',(⟨h,nx,lm⟩:AS))) none)=_
  rw[hm,cg,Dj,aS,<-BL,cg,RK,cg,bD,bD,dQ];rfl
 ·intro i j zK;by_cases h1:i<W.nx<;>by_cases h2:j<W.nx
  ·rw[r1 i h1,r1 j h2]at zK;exact he.inj i j zK
  ·rw[r1 i h1,r2 j (by omega)]at zK;have:=he.lt i h1;omega
  ·rw[r2 i (by omega),r1 j h2]at zK;have:=he.lt j h2;omega
  ·rw[r2 i (by omega),r2 j (by omega)]at zK;omega
 ·intro i hi;have hi:i<W.nx+m.length:=hi;show ρ' i<s.nx+m.length;by_cases h1:i<W.nx
  ·rw[r1 i h1];have:=he.lt i h1;omega
  ·rw[r2 i (by omega)];omega
 ·intro i hi;have hi:W.nx+m.length<=i:=hi;show s.nx+m.length<=ρ' i;rw[r2 i (by omega)];omega
 ·intro i;show(wh.get i=none∧sh.get (ρ' i)=none)∨∃b b',wh.get i=some b∧sh.get (ρ' i)=some b'∧kr (oF ρ' (W.nx+m.length) 12) b=some b';by_cases h1:i<W.nx
  ·rw[(dv i).1 h1,r1 i h1,(dI (ρ i)).1 (he.lt i h1)];rcases he.jI i with hh|⟨b,b',e1,e2,e3⟩
   ·exact .inl hh
   ·exact .inr ⟨b,b',e1,e2,ra (λv v' h=>GJ (by omega) r1 h) e3⟩
  ·by_cases h2:i<W.nx+m.length
   ·have hq:m[i-W.nx]? =some (m[i-W.nx]'(by omega)):=ba (by omega);have e1:=(dv 0).2.2 _ _ hq;have e2:=(dI 0).2.2 _ _ hq;rw[r2 i (by omega)];rw[show W.nx+(i-W.nx)=i by omega]at e1;rcases e1 with ⟨p1,p2⟩|⟨b,b',p1,p2,p3⟩
    ·rcases e2 with ⟨_,q2⟩|⟨b,b',q1,_,_⟩
     ·exact .inl ⟨p2,q2⟩
     ·rw[p1]at q1;cases q1
    ·rcases e2 with ⟨q1,_⟩|⟨c,c',q1,q2,q3⟩
     ·rw[p1]at q1;cases q1
     ·rw[p1]at q1;cases q1;exact .inr ⟨b',c',p3,q3,by rw[DO Sr p2];exact q2⟩
   ·refine .inl ⟨by rw[(dv i).2.1 (by omega)];exact N7.none i (by omega),?_⟩;rw[r2 i (by omega),(dI _).2.1 (by omega)];exact hg.none _ (by omega)
end
def W0:AS:=⟨lQ 20,0,0⟩
def My:Good W0:=⟨rfl,λj hj=>absurd hj (iK j),λj _=>oU 20 j⟩
def Su (hg:Good s):Bf (λi=>s.nx+i) W0 s:=
 ⟨λi j h=>by have h:s.nx+i=s.nx+j:=h;omega,λi hi=>absurd hi (iK i),λi _=>by show s.nx<=s.nx+i;omega,λi=> .inl ⟨oU 20 i,hg.none _ (by omega)⟩⟩
def Bf.grown {ρ:Nat->Nat} {W:AS} (he:Bf ρ W s) (N7:Good W) (hg:Grown s.nx s s'):∃ρ',Bf ρ' W s'∧∀i,i<W.nx->ρ' i=ρ i:=by
 obtain⟨ρ',Gd⟩:∃ρ':Nat->Nat,ρ'= λi=>if i<W.nx then ρ i else s'.nx+(i-W.nx):=⟨_,rfl⟩
 have r1:∀i,i<W.nx->ρ' i=ρ i:= λi hi=>by rw[Gd];simp[hi]
 have r2:∀i,W.nx<=i->ρ' i=s'.nx+(i-W.nx):= λi hi=>by rw[Gd];simp[Nat.not_lt.2 hi]
 have hn:=hg.nx;refine⟨ρ',⟨λi j zK=>?_,λi hi=>by rw[r1 i hi];have:=he.lt i hi;omega,λi hi=>by rw[r2 i hi];omega,λi=>?_⟩,r1⟩
 ·by_cases h1:i<W.nx<;>by_cases h2:j<W.nx
  ·rw[r1 i h1,r1 j h2]at zK;exact he.inj i j zK
  ·rw[r1 i h1,r2 j (by omega)]at zK;have:=he.lt i h1;omega
  ·rw[r2 i (by omega),r1 j h2]at zK;have:=he.lt j h2;omega
  ·rw[r2 i (by omega),r2 j (by omega)]at zK;omega
 ·by_cases h1:i<W.nx
  ·rw[r1 i h1,hg.eb _ (he.lt i h1)];rcases he.jI i with hh|⟨b,b',e1,e2,e3⟩
   ·exact .inl hh
   ·exact .inr ⟨b,b',e1,e2,ra (λv v' h=>GJ (af _) r1 h) e3⟩
  ·exact .inl ⟨N7.none i (by omega),hg.bt.none _ (by rw[r2 i (by omega)];omega)⟩
def Bf.frame {ρ:Nat->Nat} {W:AS} (he:Bf ρ W s) (N7:Good W) (hn:s.nx<=s'.nx) (hg:Good s') (ho:∀i,i<W.nx->s'.h.get (ρ i)=s.h.get (ρ i)):∃ρ',Bf ρ' W s'∧∀i,i<W.nx->ρ' i=ρ i:=by
 obtain⟨ρ',Gd⟩:∃ρ':Nat->Nat,ρ'= λi=>if i<W.nx then ρ i else s'.nx+(i-W.nx):=⟨_,rfl⟩
 have r1:∀i,i<W.nx->ρ' i=ρ i:= λi hi=>by rw[Gd];simp[hi]
 have r2:∀i,W.nx<=i->ρ' i=s'.nx+(i-W.nx):= λi hi=>by rw[Gd];simp[Nat.not_lt.2 hi]
 refine⟨ρ',⟨λi j zK=>?_,λi hi=>by rw[r1 i hi];have:=he.lt i hi;omega,λi hi=>by rw[r2 i hi];omega,λi=>?_⟩,r1⟩
 ·by_cases h1:i<W.nx<;>by_cases h2:j<W.nx
  ·rw[r1 i h1,r1 j h2]at zK;exact he.inj i j zK
  ·rw[r1 i h1,r2 j (by omega)]at zK;have:=he.lt i h1;omega
  ·rw[r2 i (by omega),r1 j h2]at zK;have:=he.lt j h2;omega
  ·rw[r2 i (by omega),r2 j (by omega)]at zK;omega
 ·by_cases h1:i<W.nx
  ·rw[r1 i h1,ho i h1];rcases he.jI i with hh|⟨b,b',e1,e2,e3⟩
   ·exact .inl hh
   ·exact .inr ⟨b,b',e1,e2,ra (λv v' h=>GJ (af _) r1 h) e3⟩
  ·exact .inl ⟨N7.none i (by omega),hg.none _ (by rw[r2 i (by omega)];omega)⟩
def Bf.add {ρ:Nat->Nat} {W s:AS} (he:Bf ρ W s) (N7:Good W) (hg:Good s) {b b':eX} (hb:kr (oF ρ W.nx 12) b=some b'):∃ρ',Bf ρ' (W.add b) (s.add b')∧(∀i,i<W.nx->ρ' i=ρ i)∧ρ' W.nx=s.nx:=by
 obtain⟨ρ',Gd⟩:∃ρ':Nat->Nat,ρ'= λi=>if i<W.nx then ρ i else s.nx+(i-W.nx):=⟨_,rfl⟩
 have r1:∀i,i<W.nx->ρ' i=ρ i:= λi hi=>by rw[Gd];simp[hi]
 have r2:∀i,W.nx<=i->ρ' i=s.nx+(i-W.nx):= λi hi=>by rw[Gd];simp[Nat.not_lt.2 hi]
 refine⟨ρ',⟨λi j zK=>?_,λi hi=>?_,λi hi=>?_,λi=>?_⟩,r1,by rw[r2 _ (af _)];omega⟩
 ·by_cases h1:i<W.nx<;>by_cases h2:j<W.nx
  ·rw[r1 i h1,r1 j h2]at zK;exact he.inj i j zK
  ·rw[r1 i h1,r2 j (by omega)]at zK;have:=he.lt i h1;omega
  ·rw[r2 i (by omega),r1 j h2]at zK;have:=he.lt j h2;omega
  ·rw[r2 i (by omega),r2 j (by omega)]at zK;omega
 ·have hi:i<W.nx+1:=hi;show ρ' i<s.nx+1;by_cases h1:i<W.nx
  ·rw[r1 i h1];have:=he.lt i h1;omega
  ·rw[r2 i (by omega)];omega
 ·have hi:W.nx+1<=i:=hi;show s.nx+1<=ρ' i;rw[r2 i (by omega)];omega
 ·rw[gF N7,gF hg];by_cases h1:i<W.nx
  ·have:=he.lt i h1;rw[aC (by omega),r1 i h1,aC (by omega)];rcases he.jI i with hh|⟨c,c',e1,e2,e3⟩
   ·exact .inl hh
   ·exact .inr ⟨c,c',e1,e2,ra (λv v' h=>GJ (by rw[ep];omega) r1 h) e3⟩
  ·by_cases h2:i=W.nx
   ·rw[aU h2,aU (by rw[r2 i (by omega)];omega)];exact .inr ⟨b,b',rfl,rfl,ra (λv v' h=>GJ (by rw[ep];omega) r1 h) hb⟩
   ·rw[aC h2,aC (by rw[r2 i (by omega)];omega)];exact .inl ⟨N7.none i (by omega),hg.none _ (by rw[r2 i (by omega)];omega)⟩
def Bf.row {ρ:Nat->Nat} {W s:AS} (he:Bf ρ W s) {i et sz:Nat} {R R':List LVal} (hr:bE W i et sz false R) (hl:R'.length=R.length) (hR:∀j (h:j<R.length) (h':j<R'.length),dj (oF ρ W.nx 12) R[j]=some R'[j]):bE s (ρ i) et sz false R':=by
 obtain⟨c,h1,h2⟩:=hr.row;rcases he.jI i with ⟨e1,_⟩|⟨b,b',e1,e2,e3⟩
 ·rw[h1]at e1;cases e1
 ·rw[h1]at e1;cases e1;obtain⟨d,d',vV,n',RH,q1,rfl,q3⟩:=yi e3;injection q1 with a1 a2 a3 a4 a5
  subst a1 a2 a3 a5;refine⟨d',by rw[e2,hl],λj hj=>?_⟩;have Vg:j<R.length:=by omega
  rcases uM q3 j with ⟨p1,_⟩|⟨l,l',p1,p2,p3⟩
  ·rw[h2 j Vg]at p1;cases p1
  ·rw[h2 j Vg]at p1;cases p1;rw[p2,<-hR j Vg hj,p3]
def Sv (c:T LVal) (R:List LVal):Nat->Bool:=
 lR (Nat->Bool) (λ_=>true) (λr _ ih i=>aD (oR Bool false (λl=>vh (qQ 12) l r) (c.get i)) (ih (Nat.succ i)) false) R
def Gx (W:AS) (i et sz:Nat) (R:List LVal):Bool:=
 match W.h.get i with
 |some (.cells c vV n false RH)=>aD (Nat.beq sz vV) (aD (Nat.beq n (len R)) (aD (Nat.beq et RH) (Sv c R 0) false) false) false
 |_=>false
def CT {c:T LVal}:∀ {R:List LVal} {i:Nat},Sv c R i=true->∀j (h:j<R.length),c.get (i+j)=some R[j]
 | [],i,_,j,h=>by simp at h
 |r::R,i,h,j,hj=>by
  have h:aD (oR Bool false (λl=>vh (qQ 12) l r) (c.get i)) (Sv c R (Nat.succ i)) false=true:=h;have h1:(oR Bool false (λl=>vh (qQ 12) l r) (c.get i):Bool)=true:=by
   cases e:(oR Bool false (λl=>vh (qQ 12) l r) (c.get i):Bool)with
   |true=>rfl
   |false=>rw[e]at h;cases h
  rw[h1,aS]at h;cases j with
  |zero=>
   cases e:c.get i with
   |none=>rw[e]at h1;cases h1
   |some l=>rw[e]at h1;have:=apx h1;subst this;rfl
  |succ j=>have:=CT h j (by simpa using hj);rw[show i+(j+1)=Nat.succ i+j by omega];simpa using this
def qf {W:AS} {sz:Nat} (h:Gx W i et sz R=true):bE W i et sz false R:=by
 unfold Gx at h;split at h
 ·rename_i c vV n RH e;have an3:∀ {a b:Bool},aD a b false=true->a=true∧b=true:= λ {a b} h=>by cases a<;>simp_all[aD]
  obtain⟨h1,h⟩:=an3 h;obtain⟨h2,h⟩:=an3 h;obtain⟨h3,h4⟩:=an3 h;have h1:=au h1;have h2:=au h2;have h3:=au h3;rw[dQ]at h2;subst h1 h2 h3;refine⟨c,e,λj hj=>?_⟩;have:=CT h4 j hj;rwa[aG]at this
 ·cases h
section
abbrev a8 (b:Nat):Value:= .pointer (some ⟨b,0,none⟩)
def dO {α:Type} (a:α):∃x,x=a:=⟨a,rfl⟩
def cz {s1:AS} {b:eX} (e:s1=s.add b) (h:Good s):Good s1:=by rw[e];exact fW h b
def cM {s1:AS} {b:eX} (e:s1=s.add b) (h:Good s):Grown s.nx s s1:=by rw[e];exact(Grown.refl h _).add (af _) _
def jS {s1:AS} (e:s1=s.add (ca t vs)) (h:Good s):ay s1 s.nx t vs:=by rw[e];exact ay.new h t _
abbrev iq:=And.intro (And.intro @aaN @abN) (And.intro @VU @VV)
abbrev ag:=And.intro (And.intro (And.intro (And.intro (And.intro (And.intro @Oo (And.intro @pL @azm)) (And.intro @Sk (And.intro @mY @abO))) (And.intro (And.intro @agI (And.intro @agJ @agK)) (And.intro @WL.eq_1 (And.intro @WL.eq_2 @W1.eq_1)))) (And.intro (And.intro (And.intro @W1.eq_2 (And.intro @W1.eq_3 @W1.eq_4)) (And.intro @I7.eq_1 (And.intro @I7.eq_2 @I7.eq_3))) (And.intro (And.intro @aaN (And.intro @abN @VU)) (And.intro @VV (And.intro @aJj @aJk))))) (And.intro (And.intro (And.intro (And.intro @aJl (And.intro @aJm @aJn)) (And.intro @aJo (And.intro @aJp @aJq))) (And.intro (And.intro @aJr (And.intro @aJs @apI)) (And.intro @apJ (And.intro @akL @azn)))) (And.intro (And.intro (And.intro @azo (And.intro @agL @apK)) (And.intro @apL (And.intro @apM @cg))) (And.intro (And.intro @Option.some.injEq.{0} (And.intro @TM.iT @if_false.{1})) (And.intro @if_true.{1} (And.intro @vH @VW)))))) (And.intro (And.intro (And.intro (And.intro (And.intro @agM (And.intro @agN @agO)) (And.intro @agP (And.intro @agQ @agR))) (And.intro (And.intro @agS (And.intro @agT @agU)) (And.intro @azp (And.intro @WSt.eq_1 @WSt.eq_2)))) (And.intro (And.intro (And.intro @WXs.eq_1 (And.intro @WXs.eq_2 @WX.eq_1)) (And.intro @WX.eq_2 (And.intro @WX.eq_3 @WR.eq_1))) (And.intro (And.intro @apO (And.intro @apP @Sn)) (And.intro @VY (And.intro @Sq @tO))))) (And.intro (And.intro (And.intro (And.intro @apQ (And.intro @apR @XW)) (And.intro @XY (And.intro @af @gS))) (And.intro (And.intro (And.intro @forall_const.{0} @forall_const.{1}) (And.intro @true_implies @and_self)) (And.intro @zS (And.intro @aIB @false_implies)))) (And.intro (And.intro (And.intro @sM (And.intro @NB @O5)) (And.intro @apS (And.intro @apT @dn))) (And.intro (And.intro @cO (And.intro @gO @cE)) (And.intro @decide_true (And.intro @decide_false @Bool.true_eq_false))))))
section
variable {ev:Ev} {c:iD} {f g:CF} {l:List CI} {st:List zY} {last:List DR} {x:cZ} {Q:cZ->TM n->AS->Prop}
def iP (hc:c .nil m.t=some (.bool true)) (h:WC ev f Q m s):WC ev (bw c f g) Q m s:=cK true hc h
def nN (hc:c .nil m.t=some (.bool false)) (h:WC ev g Q m s):WC ev (bw c f g) Q m s:=cK false hc h
def dD (hc:c .nil m.t=some (.bool false)) (h:Q x m s):WC ev (bw c f (aQ x)) Q m s:=nN hc (aR h)
def aJ (h:WL ev l (Seq ev g Q .normal) .nil m s):WC ev (ah (aa l) g) Q m s:=aT (ar h)
def dh {e:CF} (h:WC ev e (Seq ev f (Seq ev g Q)) m s):WC ev (ah (ah e f) g) Q m s:=aT (aT h)
def kK (h:WC ev f (yX i (Seq ev g Q)) m s):WC ev (ah (bP i f) g) Q m s:=aT (bY h)
def lV (h:WSt ev last (Seq ev g Q .normal) 0 st [] .nil m s):WC ev (ah (fe st last) g) Q m s:=aT (gY h)
end
end
def YE:List (Nat×Ext):= [(209,.cmp),(219,.same),(271,.makeNoZero 5),(308,.kP)]
def TW:T Nat:=(.n (some 0) (.n (some 0) (.n (some 1210106699607009986871283) (.n (some 281749854749895) (.n (some 1099511644347) (.n (some 327) (.n (some 23) (.n (some 36023) (.n (some 13) .e .e) .e) (.n (some 2097283) (.n (some 0) .e .e) .e)) (.n (some 1) (.n (some 42535296023574879666274036850519702559) (.n (some 13) .e .e) .e) (.n (some 524307) .e .e))) (.n (some 51) (.n (some 563) (.n (some 7) (.n (some 0) .e .e) .e) (.n (some 277) (.n (some 0) .e .e) .e)) (.n (some 4712401207551) (.n (some 66483) (.n (some 19) .e .e) .e) (.n (some 19) .e .e)))) (.n (some 83) (.n (some 21) (.n (some 67232243) (.n (some 7) (.n (some 83087207854311395603287443752634311) .e .e) .e) (.n (some 17179886351) (.n (some 0) .e .e) .e)) (.n (some 604275) (.n (some 4298121469) (.n (some 275) .e .e) .e) (.n (some 19) .e .e))) (.n (some 1) (.n (some 15) (.n (some 495559) (.n (some 19) .e .e) .e) (.n (some 1941) .e .e)) (.n (some 247) (.n (some 5) (.n (some 0) .e .e) .e) (.n (some 4243) .e .e))))) (.n (some 19) (.n (some 83) (.n (some 19) (.n (some 1005) (.n (some 7) (.n (some 1074268103) .e .e) .e) (.n (some 8363) (.n (some 0) .e .e) .e)) (.n (some 19) (.n (some 23) (.n (some 71) .e .e) .e) (.n (some 8804682991559) .e .e))) (.n (some 127) (.n (some 691) (.n (some 550359860275) (.n (some 67240563) .e .e) .e) (.n (some 7) .e .e)) (.n (some 51) (.n (some 71) (.n (some 19) .e .e) .e) (.n (some 271) .e .e)))) (.n (some 8405301) (.n (some 7) (.n (some 4677219386055) (.n (some 13) (.n (some 4503668346913551) .e .e) .e) (.n (some 33543) (.n (some 0) .e .e) .e)) (.n (some 2015) (.n (some 5) (.n (some 21) .e .e) .e) (.n (some 563) .e .e))) (.n (some 5) (.n (some 9903595872164782512571711475) (.n (some 15) (.n (some 63) .e .e) .e) (.n (some 0) .e .e)) (.n (some 525) (.n (some 8363) (.n (some 0) .e .e) .e) (.n (some 5) .e .e)))))) (.n (some 3) (.n (some 19) (.n (some 1048667) (.n (some 32787) (.n (some 32787) (.n (some 19) (.n (some 20426010943356750102455122975) .e .e) .e) (.n (some 60817469) (.n (some 0) .e .e) .e)) (.n (some 7) (.n (some 19) (.n (some 5) .e .e) .e) (.n (some 1073746119) .e .e))) (.n (some 71) (.n (some 19) (.n (some 268443187) (.n (some 65555) .e .e) .e) (.n (some 0) .e .e)) (.n (some 7) (.n (some 524353) (.n (some 5) .e .e) .e) (.n (some 5) .e .e)))) (.n (some 1295) (.n (some 66108270849903) (.n (some 23) (.n (some 5) (.n (some 19023213622105999119) .e .e) .e) (.n (some 35218731966215) (.n (some 0) .e .e) .e)) (.n (some 7) (.n (some 31) (.n (some 316912838952437276284744179709) .e .e) .e) (.n (some 22458641409078797123448399039441150152463) .e .e))) (.n (some 8480604590834367) (.n (some 7) (.n (some 19) (.n (some 19) .e .e) .e) (.n (some 29) .e .e)) (.n (some 7895731) (.n (some 327) (.n (some 0) .e .e) .e) (.n (some 127) .e .e))))) (.n (some 21) (.n (some 1) (.n (some 327) (.n (some 7) (.n (some 43) (.n (some 20829169751433159) .e .e) .e) (.n (some 527) (.n (some 0) .e .e) .e)) (.n (some 17389) (.n (some 7) (.n (some 262927) .e .e) .e) (.n (some 8391) .e .e))) (.n (some 7) (.n (some 1965) (.n (some 19) (.n (some 925685) .e .e) .e) (.n (some 525) .e .e)) (.n (some 5) (.n (some 5) (.n (some 0) .e .e) .e) (.n (some 8211) .e .e)))) (.n (some 8389615) (.n (some 7) (.n (some 63) (.n (some 1) (.n (some 1055) .e .e) .e) (.n (some 1217485249602318769183) (.n (some 0) .e .e) .e)) (.n (some 8053063927) (.n (some 7) (.n (some 262927) .e .e) .e) (.n (some 2097279) .e .e))) (.n (some 19) (.n (some 3615) (.n (some 23) (.n (some 17180000511) .e .e) .e) (.n (some 18455751822720370415) .e .e)) (.n (some 126353567) (.n (some 8363) (.n (some 0) .e .e) .e) (.n (some 31) .e .e))))))) (.n (some 0) (.n (some 159) (.n (some 131091) (.n (some 5) (.n (some 7) (.n (some 385682695119438939564835770466207) (.n (some 504373101) (.n (some 2923003971560093291123168138537876760321514930163) .e .e) .e) (.n (some 51) (.n (some 0) .e .e) .e)) (.n (some 7) (.n (some 5) (.n (some 5) .e .e) .e) (.n (some 10384593871817177683247510831234831) .e .e))) (.n (some 7) (.n (some 7775) (.n (some 32781) (.n (some 19) .e .e) .e) (.n (some 16661) .e .e)) (.n (some 19) (.n (some 19) (.n (some 1037) .e .e) .e) (.n (some 288231475663604767) .e .e)))) (.n (some 327) (.n (some 7) (.n (some 2007) (.n (some 4031) (.n (some 19) .e .e) .e) (.n (some 8592039695) (.n (some 0) .e .e) .e)) (.n (some 65743) (.n (some 31) (.n (some 16784431) .e .e) .e) (.n (some 19023213622105999119) .e .e))) (.n (some 63) (.n (some 5) (.n (some 15475) (.n (some 1037) .e .e) .e) (.n (some 5) .e .e)) (.n (some 9007199263147647) (.n (some 65619) (.n (some 0) .e .e) .e) (.n (some 262771) .e .e))))) (.n (some 19) (.n (some 1076887743) (.n (some 3903) (.n (some 15) (.n (some 127) (.n (some 8804682991559) .e .e) .e) (.n (some 16071) (.n (some 0) .e .e) .e)) (.n (some 16883) (.n (some 23) (.n (some 1055) .e .e) .e) (.n (some 20829169751433159) .e .e))) (.n (some 63) (.n (some 143) (.n (some 16499) (.n (some 63) .e .e) .e) (.n (some 11) .e .e)) (.n (some 5) (.n (some 537399539) (.n (some 0) .e .e) .e) (.n (some 4159) .e .e)))) (.n (some 21) (.n (some 549755978175) (.n (some 652394405979164218749429503871) (.n (some 1) (.n (some 71) .e .e) .e) (.n (some 21268317252094917911888073248812900111) (.n (some 0) .e .e) .e)) (.n (some 7) (.n (some 7) (.n (some 21) .e .e) .e) (.n (some 17181970547) .e .e))) (.n (some 63) (.n (some 253626355) (.n (some 131583) (.n (some 23) .e .e) .e) (.n (some 17188391667) .e .e)) (.n (some 66483) (.n (some 579444775337679) (.n (some 0) .e .e) .e) (.n (some 8015) .e .e)))))) (.n (some 142971676659963) (.n (some 67175111) (.n (some 95) (.n (some 19) (.n (some 8590985071) (.n (some 13) (.n (some 1073746119) .e .e) .e) (.n (some 21) (.n (some 0) .e .e) .e)) (.n (some 7) (.n (some 5) (.n (some 4503668346913551) .e .e) .e) (.n (some 1074268103) .e .e))) (.n (some 55) (.n (some 16893035174953715) (.n (some 7) (.n (some 32915) .e .e) .e) (.n (some 23) .e .e)) (.n (some 8796663449405) (.n (some 5) (.n (some 0) .e .e) .e) (.n (some 5) .e .e)))) (.n (some 1043) (.n (some 137440788987) (.n (some 63) (.n (some 138351151749653378483) (.n (some 22458641409078797123448399039441150152463) .e .e) .e) (.n (some 1333065575601045263) (.n (some 0) .e .e) .e)) (.n (some 7295) (.n (some 31) (.n (some 15663183516433892416764882583213662997805349754095402995) .e .e) .e) (.n (some 19) .e .e))) (.n (some 19) (.n (some 16467) (.n (some 23) (.n (some 31) .e .e) .e) (.n (some 4194541) .e .e)) (.n (some 19) (.n (some 7) (.n (some 0) .e .e) .e) (.n (some 95) .e .e))))) (.n (some 83) (.n (some 443) (.n (some 7) (.n (some 5) (.n (some 11) (.n (some 8391) .e .e) .e) (.n (some 255) (.n (some 0) .e .e) .e)) (.n (some 19) (.n (some 527) (.n (some 281518060864637) .e .e) .e) (.n (some 83087207854311395603287443752634311) .e .e))) (.n (some 5) (.n (some 295) (.n (some 9447038808748504121843) (.n (some 4197407) .e .e) .e) (.n (some 2149585011) .e .e)) (.n (some 66483) (.n (some 127) (.n (some 0) .e .e) .e) (.n (some 66109) .e .e)))) (.n (some 2047) (.n (some 7) (.n (some 32787) (.n (some 134217981) (.n (some 5) .e .e) .e) (.n (some 22997644815212700899627017342834150232570911) (.n (some 0) .e .e) .e)) (.n (some 141) (.n (some 7) (.n (some 5) .e .e) .e) (.n (some 935923) .e .e))) (.n (some 8246842512879) (.n (some 631) (.n (some 7) (.n (some 5) .e .e) .e) (.n (some 524307) .e .e)) (.n (some 51) (.n (some 10384593871817177683247510831234831) (.n (some 0) .e .e) .e) (.n (some 21) .e .e))))))))
def YF:List (Nat×Sum):= [(83,.copy 3),(130,.alt (.sorted 187 3 3) (.alt (.sorted 189 3 3) (.sorted 195 3 3)))]
def ael:List Nat:= [86,88,90,91,92,96,110,142,143,144,147,148,149,150,153,156,166,167,193,196,216,238,239,251,253,277,285]
def aem:List Nat:= [43,45,46,54,94,95,97,98,108,165,168,169,197,215]
def aen:List Nat:= [16,44,50,52,53,55,77,85,106]
def ai:QJ:=⟨YE,YF,TW⟩
abbrev TPE:=aB Tryz.prog ai
set_option maxHeartbeats 4000000
def TryzF.f2:TPE:=by apply aB.mk 2;conv=>lhs;whnf
def TryzF.f6:TPE:=by apply aB.mk 6;conv=>lhs;whnf
def TryzF.f10:TPE:=by apply aB.mk 10;conv=>lhs;whnf
def TryzF.f14:TPE:=by apply aB.mk 14;conv=>lhs;whnf
def TryzF.f18:TPE:=by apply aB.mk 18;conv=>lhs;whnf
def TryzF.f22:TPE:=by apply aB.mk 22;conv=>lhs;whnf
def TryzF.f26:TPE:=by apply aB.mk 26;conv=>lhs;whnf
def TryzF.f30:TPE:=by apply aB.mk 30;conv=>lhs;whnf
def TryzF.f34:TPE:=by apply aB.mk 34;conv=>lhs;whnf
def TryzF.f38:TPE:=by apply aB.mk 38;conv=>lhs;whnf
def TryzF.f42:TPE:=by apply aB.mk 42;conv=>lhs;whnf
def TryzF.f46:TPE:=by apply aB.mk 46;conv=>lhs;whnf
def TryzF.f50:TPE:=by apply aB.mk 50;conv=>lhs;whnf
def TryzF.f54:TPE:=by apply aB.mk 54;conv=>lhs;whnf
def TryzF.f58:TPE:=by apply aB.mk 58;conv=>lhs;whnf
def TryzF.f62:TPE:=by apply aB.mk 62;conv=>lhs;whnf
def TryzF.f66:TPE:=by apply aB.mk 66;conv=>lhs;whnf
def TryzF.f70:TPE:=by apply aB.mk 70;conv=>lhs;whnf
def TryzF.f74:TPE:=by apply aB.mk 74;conv=>lhs;whnf
def TryzF.f78:TPE:=by apply aB.mk 78;conv=>lhs;whnf
def TryzF.f82:TPE:=by apply aB.mk 82;conv=>lhs;whnf
def TryzF.f86:TPE:=by apply aB.mk 86;conv=>lhs;whnf
def TryzF.f90:TPE:=by apply aB.mk 90;conv=>lhs;whnf
def TryzF.f94:TPE:=by apply aB.mk 94;conv=>lhs;whnf
def TryzF.f98:TPE:=by apply aB.mk 98;conv=>lhs;whnf
def TryzF.f102:TPE:=by apply aB.mk 102;conv=>lhs;whnf
def TryzF.f106:TPE:=by apply aB.mk 106;conv=>lhs;whnf
def TryzF.f110:TPE:=by apply aB.mk 110;conv=>lhs;whnf
def TryzF.f114:TPE:=by apply aB.mk 114;conv=>lhs;whnf
def TryzF.f118:TPE:=by apply aB.mk 118;conv=>lhs;whnf
def TryzF.f122:TPE:=by apply aB.mk 122;conv=>lhs;whnf
def TryzF.f126:TPE:=by apply aB.mk 126;conv=>lhs;whnf
def TryzF.f130:TPE:=by apply aB.mk 130;conv=>lhs;whnf
def TryzF.f134:TPE:=by apply aB.mk 134;conv=>lhs;whnf
def TryzF.f138:TPE:=by apply aB.mk 138;conv=>lhs;whnf
def TryzF.f142:TPE:=by apply aB.mk 142;conv=>lhs;whnf
def TryzF.f146:TPE:=by apply aB.mk 146;conv=>lhs;whnf
def TryzF.f150:TPE:=by apply aB.mk 150;conv=>lhs;whnf
def TryzF.f154:TPE:=by apply aB.mk 154;conv=>lhs;whnf
def TryzF.f158:TPE:=by apply aB.mk 158;conv=>lhs;whnf
def TryzF.f162:TPE:=by apply aB.mk 162;conv=>lhs;whnf
def TryzF.f166:TPE:=by apply aB.mk 166;conv=>lhs;whnf
def TryzF.f170:TPE:=by apply aB.mk 170;conv=>lhs;whnf
def TryzF.f174:TPE:=by apply aB.mk 174;conv=>lhs;whnf
def TryzF.f178:TPE:=by apply aB.mk 178;conv=>lhs;whnf
def TryzF.f182:TPE:=by apply aB.mk 182;conv=>lhs;whnf
def TryzF.f186:TPE:=by apply aB.mk 186;conv=>lhs;whnf
def TryzF.f190:TPE:=by apply aB.mk 190;conv=>lhs;whnf
def TryzF.f194:TPE:=by apply aB.mk 194;conv=>lhs;whnf
def TryzF.f198:TPE:=by apply aB.mk 198;conv=>lhs;whnf
def TryzF.f202:TPE:=by apply aB.mk 202;conv=>lhs;whnf
def TryzF.f206:TPE:=by apply aB.mk 206;conv=>lhs;whnf
def TryzF.f210:TPE:=by apply aB.mk 210;conv=>lhs;whnf
def TryzF.f214:TPE:=by apply aB.mk 214;conv=>lhs;whnf
def TryzF.f218:TPE:=by apply aB.mk 218;conv=>lhs;whnf
def TryzF.f222:TPE:=by apply aB.mk 222;conv=>lhs;whnf
def TryzF.f226:TPE:=by apply aB.mk 226;conv=>lhs;whnf
def TryzF.f230:TPE:=by apply aB.mk 230;conv=>lhs;whnf
def TryzF.f234:TPE:=by apply aB.mk 234;conv=>lhs;whnf
def TryzF.f238:TPE:=by apply aB.mk 238;conv=>lhs;whnf
def TryzF.f242:TPE:=by apply aB.mk 242;conv=>lhs;whnf
def TryzF.f246:TPE:=by apply aB.mk 246;conv=>lhs;whnf
def TryzF.f250:TPE:=by apply aB.mk 250;conv=>lhs;whnf
def TryzF.f254:TPE:=by apply aB.mk 254;conv=>lhs;whnf
def TryzF.f258:TPE:=by apply aB.mk 258;conv=>lhs;whnf
def TryzF.f262:TPE:=by apply aB.mk 262;conv=>lhs;whnf
def TryzF.f266:TPE:=by apply aB.mk 266;conv=>lhs;whnf
def TryzF.f270:TPE:=by apply aB.mk 270;conv=>lhs;whnf
def TryzF.f274:TPE:=by apply aB.mk 274;conv=>lhs;whnf
def TryzF.f278:TPE:=by apply aB.mk 278;conv=>lhs;whnf
def TryzF.f282:TPE:=by apply aB.mk 282;conv=>lhs;whnf
def TryzF.f286:TPE:=by apply aB.mk 286;conv=>lhs;whnf
def TryzF.f290:TPE:=by apply aB.mk 290;conv=>lhs;whnf
def TryzF.f294:TPE:=by apply aB.mk 294;conv=>lhs;whnf
def TryzF.f298:TPE:=by apply aB.mk 298;conv=>lhs;whnf
def TryzF.f302:TPE:=by apply aB.mk 302;conv=>lhs;whnf
def TryzF.f307:TPE:=by apply aB.mk 307;conv=>lhs;whnf
set_option maxHeartbeats 4000000
def TryzF.f3:TPE:=by apply aB.mk 3;conv=>lhs;whnf
def TryzF.f7:TPE:=by apply aB.mk 7;conv=>lhs;whnf
def TryzF.f11:TPE:=by apply aB.mk 11;conv=>lhs;whnf
def TryzF.f15:TPE:=by apply aB.mk 15;conv=>lhs;whnf
def TryzF.f19:TPE:=by apply aB.mk 19;conv=>lhs;whnf
def TryzF.f23:TPE:=by apply aB.mk 23;conv=>lhs;whnf
def TryzF.f27:TPE:=by apply aB.mk 27;conv=>lhs;whnf
def TryzF.f31:TPE:=by apply aB.mk 31;conv=>lhs;whnf
def TryzF.f35:TPE:=by apply aB.mk 35;conv=>lhs;whnf
def TryzF.f39:TPE:=by apply aB.mk 39;conv=>lhs;whnf
def TryzF.f43:TPE:=by apply aB.mk 43;conv=>lhs;whnf
def TryzF.f47:TPE:=by apply aB.mk 47;conv=>lhs;whnf
def TryzF.f51:TPE:=by apply aB.mk 51;conv=>lhs;whnf
def TryzF.f55:TPE:=by apply aB.mk 55;conv=>lhs;whnf
def TryzF.f59:TPE:=by apply aB.mk 59;conv=>lhs;whnf
def TryzF.f63:TPE:=by apply aB.mk 63;conv=>lhs;whnf
def TryzF.f67:TPE:=by apply aB.mk 67;conv=>lhs;whnf
def TryzF.f71:TPE:=by apply aB.mk 71;conv=>lhs;whnf
def TryzF.f75:TPE:=by apply aB.mk 75;conv=>lhs;whnf
def TryzF.f79:TPE:=by apply aB.mk 79;conv=>lhs;whnf
def TryzF.f83:TPE:=by apply aB.mk 83;conv=>lhs;whnf
def TryzF.f87:TPE:=by apply aB.mk 87;conv=>lhs;whnf
def TryzF.f91:TPE:=by apply aB.mk 91;conv=>lhs;whnf
def TryzF.f95:TPE:=by apply aB.mk 95;conv=>lhs;whnf
def TryzF.f99:TPE:=by apply aB.mk 99;conv=>lhs;whnf
def TryzF.f103:TPE:=by apply aB.mk 103;conv=>lhs;whnf
def TryzF.f107:TPE:=by apply aB.mk 107;conv=>lhs;whnf
def TryzF.f111:TPE:=by apply aB.mk 111;conv=>lhs;whnf
def TryzF.f115:TPE:=by apply aB.mk 115;conv=>lhs;whnf
def TryzF.f119:TPE:=by apply aB.mk 119;conv=>lhs;whnf
def TryzF.f123:TPE:=by apply aB.mk 123;conv=>lhs;whnf
def TryzF.f127:TPE:=by apply aB.mk 127;conv=>lhs;whnf
def TryzF.f131:TPE:=by apply aB.mk 131;conv=>lhs;whnf
def TryzF.f135:TPE:=by apply aB.mk 135;conv=>lhs;whnf
def TryzF.f139:TPE:=by apply aB.mk 139;conv=>lhs;whnf
def TryzF.f143:TPE:=by apply aB.mk 143;conv=>lhs;whnf
def TryzF.f147:TPE:=by apply aB.mk 147;conv=>lhs;whnf
def TryzF.f151:TPE:=by apply aB.mk 151;conv=>lhs;whnf
def TryzF.f155:TPE:=by apply aB.mk 155;conv=>lhs;whnf
def TryzF.f159:TPE:=by apply aB.mk 159;conv=>lhs;whnf
def TryzF.f163:TPE:=by apply aB.mk 163;conv=>lhs;whnf
def TryzF.f167:TPE:=by apply aB.mk 167;conv=>lhs;whnf
def TryzF.f171:TPE:=by apply aB.mk 171;conv=>lhs;whnf
def TryzF.f175:TPE:=by apply aB.mk 175;conv=>lhs;whnf
def TryzF.f179:TPE:=by apply aB.mk 179;conv=>lhs;whnf
def TryzF.f183:TPE:=by apply aB.mk 183;conv=>lhs;whnf
def TryzF.f187:TPE:=by apply aB.mk 187;conv=>lhs;whnf
def TryzF.f191:TPE:=by apply aB.mk 191;conv=>lhs;whnf
def TryzF.f195:TPE:=by apply aB.mk 195;conv=>lhs;whnf
def TryzF.f199:TPE:=by apply aB.mk 199;conv=>lhs;whnf
def TryzF.f203:TPE:=by apply aB.mk 203;conv=>lhs;whnf
def TryzF.f207:TPE:=by apply aB.mk 207;conv=>lhs;whnf
def TryzF.f211:TPE:=by apply aB.mk 211;conv=>lhs;whnf
def TryzF.f215:TPE:=by apply aB.mk 215;conv=>lhs;whnf
def TryzF.f219:TPE:=by apply aB.mk 219;conv=>lhs;whnf
def TryzF.f223:TPE:=by apply aB.mk 223;conv=>lhs;whnf
def TryzF.f227:TPE:=by apply aB.mk 227;conv=>lhs;whnf
def TryzF.f231:TPE:=by apply aB.mk 231;conv=>lhs;whnf
def TryzF.f235:TPE:=by apply aB.mk 235;conv=>lhs;whnf
def TryzF.f239:TPE:=by apply aB.mk 239;conv=>lhs;whnf
def TryzF.f243:TPE:=by apply aB.mk 243;conv=>lhs;whnf
def TryzF.f247:TPE:=by apply aB.mk 247;conv=>lhs;whnf
def TryzF.f251:TPE:=by apply aB.mk 251;conv=>lhs;whnf
def TryzF.f255:TPE:=by apply aB.mk 255;conv=>lhs;whnf
def TryzF.f259:TPE:=by apply aB.mk 259;conv=>lhs;whnf
def TryzF.f263:TPE:=by apply aB.mk 263;conv=>lhs;whnf
def TryzF.f267:TPE:=by apply aB.mk 267;conv=>lhs;whnf
def TryzF.f271:TPE:=by apply aB.mk 271;conv=>lhs;whnf
def TryzF.f275:TPE:=by apply aB.mk 275;conv=>lhs;whnf
def TryzF.f279:TPE:=by apply aB.mk 279;conv=>lhs;whnf
def TryzF.f283:TPE:=by apply aB.mk 283;conv=>lhs;whnf
def TryzF.f287:TPE:=by apply aB.mk 287;conv=>lhs;whnf
def TryzF.f291:TPE:=by apply aB.mk 291;conv=>lhs;whnf
def TryzF.f295:TPE:=by apply aB.mk 295;conv=>lhs;whnf
def TryzF.f299:TPE:=by apply aB.mk 299;conv=>lhs;whnf
def TryzF.f303:TPE:=by apply aB.mk 303;conv=>lhs;whnf
def TryzF.f308:TPE:=by apply aB.mk 308;conv=>lhs;whnf
set_option maxHeartbeats 4000000
def TryzF.f4:TPE:=by apply aB.mk 4;conv=>lhs;whnf
def TryzF.f8:TPE:=by apply aB.mk 8;conv=>lhs;whnf
def TryzF.f12:TPE:=by apply aB.mk 12;conv=>lhs;whnf
def TryzF.f16:TPE:=by apply aB.mk 16;conv=>lhs;whnf
def TryzF.f20:TPE:=by apply aB.mk 20;conv=>lhs;whnf
def TryzF.f24:TPE:=by apply aB.mk 24;conv=>lhs;whnf
def TryzF.f28:TPE:=by apply aB.mk 28;conv=>lhs;whnf
def TryzF.f32:TPE:=by apply aB.mk 32;conv=>lhs;whnf
def TryzF.f36:TPE:=by apply aB.mk 36;conv=>lhs;whnf
def TryzF.f40:TPE:=by apply aB.mk 40;conv=>lhs;whnf
def TryzF.f44:TPE:=by apply aB.mk 44;conv=>lhs;whnf
def TryzF.f48:TPE:=by apply aB.mk 48;conv=>lhs;whnf
def TryzF.f52:TPE:=by apply aB.mk 52;conv=>lhs;whnf
def TryzF.f56:TPE:=by apply aB.mk 56;conv=>lhs;whnf
def TryzF.f60:TPE:=by apply aB.mk 60;conv=>lhs;whnf
def TryzF.f64:TPE:=by apply aB.mk 64;conv=>lhs;whnf
def TryzF.f68:TPE:=by apply aB.mk 68;conv=>lhs;whnf
def TryzF.f72:TPE:=by apply aB.mk 72;conv=>lhs;whnf
def TryzF.f76:TPE:=by apply aB.mk 76;conv=>lhs;whnf
def TryzF.f80:TPE:=by apply aB.mk 80;conv=>lhs;whnf
def TryzF.f84:TPE:=by apply aB.mk 84;conv=>lhs;whnf
def TryzF.f88:TPE:=by apply aB.mk 88;conv=>lhs;whnf
def TryzF.f92:TPE:=by apply aB.mk 92;conv=>lhs;whnf
def TryzF.f96:TPE:=by apply aB.mk 96;conv=>lhs;whnf
def TryzF.f100:TPE:=by apply aB.mk 100;conv=>lhs;whnf
def TryzF.f104:TPE:=by apply aB.mk 104;conv=>lhs;whnf
def TryzF.f108:TPE:=by apply aB.mk 108;conv=>lhs;whnf
def TryzF.f112:TPE:=by apply aB.mk 112;conv=>lhs;whnf
def TryzF.f116:TPE:=by apply aB.mk 116;conv=>lhs;whnf
def TryzF.f120:TPE:=by apply aB.mk 120;conv=>lhs;whnf
def TryzF.f124:TPE:=by apply aB.mk 124;conv=>lhs;whnf
def TryzF.f128:TPE:=by apply aB.mk 128;conv=>lhs;whnf
def TryzF.f132:TPE:=by apply aB.mk 132;conv=>lhs;whnf
def TryzF.f136:TPE:=by apply aB.mk 136;conv=>lhs;whnf
def TryzF.f140:TPE:=by apply aB.mk 140;conv=>lhs;whnf
def TryzF.f144:TPE:=by apply aB.mk 144;conv=>lhs;whnf
def TryzF.f148:TPE:=by apply aB.mk 148;conv=>lhs;whnf
def TryzF.f152:TPE:=by apply aB.mk 152;conv=>lhs;whnf
def TryzF.f156:TPE:=by apply aB.mk 156;conv=>lhs;whnf
def TryzF.f160:TPE:=by apply aB.mk 160;conv=>lhs;whnf
def TryzF.f164:TPE:=by apply aB.mk 164;conv=>lhs;whnf
def TryzF.f168:TPE:=by apply aB.mk 168;conv=>lhs;whnf
def TryzF.f172:TPE:=by apply aB.mk 172;conv=>lhs;whnf
def TryzF.f176:TPE:=by apply aB.mk 176;conv=>lhs;whnf
def TryzF.f180:TPE:=by apply aB.mk 180;conv=>lhs;whnf
def TryzF.f184:TPE:=by apply aB.mk 184;conv=>lhs;whnf
def TryzF.f188:TPE:=by apply aB.mk 188;conv=>lhs;whnf
def TryzF.f192:TPE:=by apply aB.mk 192;conv=>lhs;whnf
def TryzF.f196:TPE:=by apply aB.mk 196;conv=>lhs;whnf
def TryzF.f200:TPE:=by apply aB.mk 200;conv=>lhs;whnf
def TryzF.f204:TPE:=by apply aB.mk 204;conv=>lhs;whnf
def TryzF.f208:TPE:=by apply aB.mk 208;conv=>lhs;whnf
def TryzF.f212:TPE:=by apply aB.mk 212;conv=>lhs;whnf
def TryzF.f216:TPE:=by apply aB.mk 216;conv=>lhs;whnf
def TryzF.f220:TPE:=by apply aB.mk 220;conv=>lhs;whnf
def TryzF.f224:TPE:=by apply aB.mk 224;conv=>lhs;whnf
def TryzF.f228:TPE:=by apply aB.mk 228;conv=>lhs;whnf
def TryzF.f232:TPE:=by apply aB.mk 232;conv=>lhs;whnf
def TryzF.f236:TPE:=by apply aB.mk 236;conv=>lhs;whnf
def TryzF.f240:TPE:=by apply aB.mk 240;conv=>lhs;whnf
def TryzF.f244:TPE:=by apply aB.mk 244;conv=>lhs;whnf
def TryzF.f248:TPE:=by apply aB.mk 248;conv=>lhs;whnf
def TryzF.f252:TPE:=by apply aB.mk 252;conv=>lhs;whnf
def TryzF.f256:TPE:=by apply aB.mk 256;conv=>lhs;whnf
def TryzF.f260:TPE:=by apply aB.mk 260;conv=>lhs;whnf
def TryzF.f264:TPE:=by apply aB.mk 264;conv=>lhs;whnf
def TryzF.f268:TPE:=by apply aB.mk 268;conv=>lhs;whnf
def TryzF.f272:TPE:=by apply aB.mk 272;conv=>lhs;whnf
def TryzF.f276:TPE:=by apply aB.mk 276;conv=>lhs;whnf
def TryzF.f280:TPE:=by apply aB.mk 280;conv=>lhs;whnf
def TryzF.f284:TPE:=by apply aB.mk 284;conv=>lhs;whnf
def TryzF.f288:TPE:=by apply aB.mk 288;conv=>lhs;whnf
def TryzF.f292:TPE:=by apply aB.mk 292;conv=>lhs;whnf
def TryzF.f296:TPE:=by apply aB.mk 296;conv=>lhs;whnf
def TryzF.f300:TPE:=by apply aB.mk 300;conv=>lhs;whnf
def TryzF.f304:TPE:=by apply aB.mk 304;conv=>lhs;whnf
def TryzF.f335:TPE:=by apply aB.mk 335;conv=>lhs;whnf
set_option maxHeartbeats 4000000
def TryzF.f5:TPE:=by apply aB.mk 5;conv=>lhs;whnf
def TryzF.f9:TPE:=by apply aB.mk 9;conv=>lhs;whnf
def TryzF.f13:TPE:=by apply aB.mk 13;conv=>lhs;whnf
def TryzF.f17:TPE:=by apply aB.mk 17;conv=>lhs;whnf
def TryzF.f21:TPE:=by apply aB.mk 21;conv=>lhs;whnf
def TryzF.f25:TPE:=by apply aB.mk 25;conv=>lhs;whnf
def TryzF.f29:TPE:=by apply aB.mk 29;conv=>lhs;whnf
def TryzF.f33:TPE:=by apply aB.mk 33;conv=>lhs;whnf
def TryzF.f37:TPE:=by apply aB.mk 37;conv=>lhs;whnf
def TryzF.f41:TPE:=by apply aB.mk 41;conv=>lhs;whnf
def TryzF.f45:TPE:=by apply aB.mk 45;conv=>lhs;whnf
def TryzF.f49:TPE:=by apply aB.mk 49;conv=>lhs;whnf
def TryzF.f53:TPE:=by apply aB.mk 53;conv=>lhs;whnf
def TryzF.f57:TPE:=by apply aB.mk 57;conv=>lhs;whnf
def TryzF.f61:TPE:=by apply aB.mk 61;conv=>lhs;whnf
def TryzF.f65:TPE:=by apply aB.mk 65;conv=>lhs;whnf
def TryzF.f69:TPE:=by apply aB.mk 69;conv=>lhs;whnf
def TryzF.f73:TPE:=by apply aB.mk 73;conv=>lhs;whnf
def TryzF.f77:TPE:=by apply aB.mk 77;conv=>lhs;whnf
def TryzF.f81:TPE:=by apply aB.mk 81;conv=>lhs;whnf
def TryzF.f85:TPE:=by apply aB.mk 85;conv=>lhs;whnf
def TryzF.f89:TPE:=by apply aB.mk 89;conv=>lhs;whnf
def TryzF.f93:TPE:=by apply aB.mk 93;conv=>lhs;whnf
def TryzF.f97:TPE:=by apply aB.mk 97;conv=>lhs;whnf
def TryzF.f101:TPE:=by apply aB.mk 101;conv=>lhs;whnf
def TryzF.f105:TPE:=by apply aB.mk 105;conv=>lhs;whnf
def TryzF.f109:TPE:=by apply aB.mk 109;conv=>lhs;whnf
def TryzF.f113:TPE:=by apply aB.mk 113;conv=>lhs;whnf
def TryzF.f117:TPE:=by apply aB.mk 117;conv=>lhs;whnf
def TryzF.f121:TPE:=by apply aB.mk 121;conv=>lhs;whnf
def TryzF.f125:TPE:=by apply aB.mk 125;conv=>lhs;whnf
def TryzF.f129:TPE:=by apply aB.mk 129;conv=>lhs;whnf
def TryzF.f133:TPE:=by apply aB.mk 133;conv=>lhs;whnf
def TryzF.f137:TPE:=by apply aB.mk 137;conv=>lhs;whnf
def TryzF.f141:TPE:=by apply aB.mk 141;conv=>lhs;whnf
def TryzF.f145:TPE:=by apply aB.mk 145;conv=>lhs;whnf
def TryzF.f149:TPE:=by apply aB.mk 149;conv=>lhs;whnf
def TryzF.f153:TPE:=by apply aB.mk 153;conv=>lhs;whnf
def TryzF.f157:TPE:=by apply aB.mk 157;conv=>lhs;whnf
def TryzF.f161:TPE:=by apply aB.mk 161;conv=>lhs;whnf
def TryzF.f165:TPE:=by apply aB.mk 165;conv=>lhs;whnf
def TryzF.f169:TPE:=by apply aB.mk 169;conv=>lhs;whnf
def TryzF.f173:TPE:=by apply aB.mk 173;conv=>lhs;whnf
def TryzF.f177:TPE:=by apply aB.mk 177;conv=>lhs;whnf
def TryzF.f181:TPE:=by apply aB.mk 181;conv=>lhs;whnf
def TryzF.f185:TPE:=by apply aB.mk 185;conv=>lhs;whnf
def TryzF.f189:TPE:=by apply aB.mk 189;conv=>lhs;whnf
def TryzF.f193:TPE:=by apply aB.mk 193;conv=>lhs;whnf
def TryzF.f197:TPE:=by apply aB.mk 197;conv=>lhs;whnf
def TryzF.f201:TPE:=by apply aB.mk 201;conv=>lhs;whnf
def TryzF.f205:TPE:=by apply aB.mk 205;conv=>lhs;whnf
def TryzF.f209:TPE:=by apply aB.mk 209;conv=>lhs;whnf
def TryzF.f213:TPE:=by apply aB.mk 213;conv=>lhs;whnf
def TryzF.f217:TPE:=by apply aB.mk 217;conv=>lhs;whnf
def TryzF.f221:TPE:=by apply aB.mk 221;conv=>lhs;whnf
def TryzF.f225:TPE:=by apply aB.mk 225;conv=>lhs;whnf
def TryzF.f229:TPE:=by apply aB.mk 229;conv=>lhs;whnf
def TryzF.f233:TPE:=by apply aB.mk 233;conv=>lhs;whnf
def TryzF.f237:TPE:=by apply aB.mk 237;conv=>lhs;whnf
def TryzF.f241:TPE:=by apply aB.mk 241;conv=>lhs;whnf
def TryzF.f245:TPE:=by apply aB.mk 245;conv=>lhs;whnf
def TryzF.f249:TPE:=by apply aB.mk 249;conv=>lhs;whnf
def TryzF.f253:TPE:=by apply aB.mk 253;conv=>lhs;whnf
def TryzF.f257:TPE:=by apply aB.mk 257;conv=>lhs;whnf
def TryzF.f261:TPE:=by apply aB.mk 261;conv=>lhs;whnf
def TryzF.f265:TPE:=by apply aB.mk 265;conv=>lhs;whnf
def TryzF.f269:TPE:=by apply aB.mk 269;conv=>lhs;whnf
def TryzF.f273:TPE:=by apply aB.mk 273;conv=>lhs;whnf
def TryzF.f277:TPE:=by apply aB.mk 277;conv=>lhs;whnf
def TryzF.f281:TPE:=by apply aB.mk 281;conv=>lhs;whnf
def TryzF.f285:TPE:=by apply aB.mk 285;conv=>lhs;whnf
def TryzF.f289:TPE:=by apply aB.mk 289;conv=>lhs;whnf
def TryzF.f293:TPE:=by apply aB.mk 293;conv=>lhs;whnf
def TryzF.f297:TPE:=by apply aB.mk 297;conv=>lhs;whnf
def TryzF.f301:TPE:=by apply aB.mk 301;conv=>lhs;whnf
def TryzF.f305:TPE:=by apply aB.mk 305;conv=>lhs;whnf
