import Derived.Test.YtgdddkffkmcmcaaGreatDoorZAf
/- Part of the proof that TagsOne answers true. -/
set_option linter.all false
set_option maxRecDepth 100000
noncomputable section
namespace Go.Eng
open Go Go.Proofs Go.Proofs.Tryz
variable {s s' s0:AS} {v u y x v' x':Value} {n t b i k f a r p q j et ck nt kt e ty off:Nat} {w w':World} {o:Option Nat} {l vs l':LVal} {rows R els:List LVal} {tm tm':T Value} {es:List (Value×Value×Nat)} {ts:Array TypeId} {lo:Lo} {X:QJ} {P:Program} {F:Fence} {S:List Nat} {ρ ρ':Ren} {m:TM n}
def YG:isAgg prog 30=some false:=by kernel_rfl
def YH:∃F,iN prog cC 56=some F:=by
 cases h:iN prog cC 56 with
 |none=>exact absurd h (by
   have:(iN prog cC 56).isSome=true:=by kernel_rfl
   intro h;rw[h]at this;cases this)
 |some F=>exact⟨F,rfl⟩
def YJ:∃F,iN prog cC 57=some F:=by
 cases h:iN prog cC 57 with
 |none=>exact absurd h (by
   have:(iN prog cC 57).isSome=true:=by kernel_rfl
   intro h;rw[h]at this;cases this)
 |some F=>exact⟨F,rfl⟩
def zy {o:Out} (h:Rn v o=true):∃s,o= .val v s:=by
 cases o with
 |no=>cases h
 |code=>cases h
 |val u s=>have h:qQ 12 v u=true:=h;exact⟨s,by rw[uT _ _ _ h]⟩
def cu (tag:Nat) (b:Bool) (num str:List UInt8):LVal:= [aw (tag:Int),.bool b,.string ⟨⟨num⟩⟩,.string ⟨⟨str⟩⟩,.slice none 0 0,.slice none 0 0,aw 0]
structure fZ (tag:Nat) (b:Bool) (num str text:List UInt8):Prop where
 lt:tag<5
 null:tag=0->text= [110,117,108,108]
 bool:tag=1->text=if b then [116,114,117,101]else [102,97,108,115,101]
 len:text.length<=64
 right:∀n s,aE (n+1) (dJ 56) [.agg ⟨cu tag b num str⟩] s= .val (.bool true) s
 text:∀n s,aE (n+1) (dJ 57) [.agg ⟨cu tag b num str⟩] s= .val (.string ⟨⟨text⟩⟩) s
def isConst {tag:Nat} {b:Bool} {num str text:List UInt8} (ht:tag<5) (hn:tag=0->text= [110,117,108,108]) (hbo:tag=1->text=if b then [116,114,117,101]else [102,97,108,115,101]) (hle:text.length<=64) (hr:LU [.agg ⟨cu tag b num str⟩]) (h1:Rn (.bool true) (eval prog cC 60 (dJ 56) [.agg ⟨cu tag b num str⟩] ⟨lQ 20,0,0⟩)=true) (h2:Rn (.string ⟨⟨text⟩⟩) (eval prog cC 60 (dJ 57) [.agg ⟨cu tag b num str⟩] ⟨lQ 20,0,0⟩)=true):fZ tag b num str text:=by
 obtain⟨F5,e5⟩:=YH;obtain⟨F6,e6⟩:=YJ;refine⟨ht,hn,hbo,hle,λn s=>?_,λn s=>?_⟩
 ·exact wy (L:=ga) (B:=eval prog cC 60) (by rfl) e5 hr ⟨rfl,λnx=>rfl⟩ (zy h1) s
 ·exact wy (L:=ga) (B:=eval prog cC 60) (by rfl) e6 hr ⟨rfl,λnx=>rfl⟩ (zy h2) s
def isNull:fZ 0 false [] [] [110,117,108,108]:=isConst (by decide) (by decide) (by decide) (by decide) ⟨rfl,rfl⟩ (by kernel_rfl) (by kernel_rfl)
def isTrue:fZ 1 true [] [] [116,114,117,101]:=isConst (by decide) (by decide) (by decide) (by decide) ⟨rfl,rfl⟩ (by kernel_rfl) (by kernel_rfl)
def isFalse:fZ 1 false [] [] [102,97,108,115,101]:=isConst (by decide) (by decide) (by decide) (by decide) ⟨rfl,rfl⟩ (by kernel_rfl) (by kernel_rfl)
def asI:fZ 2 false [48] [] [48]:=isConst (by decide) (by decide) (by decide) (by decide) ⟨rfl,rfl⟩ (by kernel_rfl) (by kernel_rfl)
def asJ:fZ 2 false [49] [] [49]:=isConst (by decide) (by decide) (by decide) (by decide) ⟨rfl,rfl⟩ (by kernel_rfl) (by kernel_rfl)
def aih:fZ 2 false [45,49] [] [45,49]:=isConst (by decide) (by decide) (by decide) (by decide) ⟨rfl,rfl⟩ (by kernel_rfl) (by kernel_rfl)
def asK:fZ 2 false [50] [] [50]:=isConst (by decide) (by decide) (by decide) (by decide) ⟨rfl,rfl⟩ (by kernel_rfl) (by kernel_rfl)
def asL:fZ 2 false [53] [] [53]:=isConst (by decide) (by decide) (by decide) (by decide) ⟨rfl,rfl⟩ (by kernel_rfl) (by kernel_rfl)
def asM:fZ 3 false [] [97] [34,97,34]:=isConst (by decide) (by decide) (by decide) (by decide) ⟨rfl,rfl⟩ (by kernel_rfl) (by kernel_rfl)
def asN:fZ 3 false [] [98] [34,98,34]:=isConst (by decide) (by decide) (by decide) (by decide) ⟨rfl,rfl⟩ (by kernel_rfl) (by kernel_rfl)
def asO:fZ 4 false [] [] [40,100,105,99,116,41]:=isConst (by decide) (by decide) (by decide) (by decide) ⟨rfl,rfl⟩ (by kernel_rfl) (by kernel_rfl)
def X5 (h:LX k=true):∀i,i<k->Rn (.string ⟨⟨gg i⟩⟩) (eval prog cC 60 (dJ 116) [aw (.ofNat i)] ⟨lQ 20,0,0⟩)=true:=by
 induction k with
 |zero=>intro i hi;omega
 |succ k ih=>
  have h:aD (LX k) (Rn (.string ⟨⟨gg k⟩⟩) (eval prog cC 60 (dJ 116) [aw (.ofNat k)] ⟨lQ 20,0,0⟩)) false=true:=h;cases hk:LX k with
  |false=>rw[hk]at h;cases h
  |true=>
   rw[hk,aS]at h;intro i hi;by_cases e:i=k
   ·subst e;exact h
   ·exact ih hk i (by omega)
def TX:∃F,iN prog cC 116=some F:=by
 cases h:iN prog cC 116 with
 |none=>exact absurd h (by
   have:(iN prog cC 116).isSome=true:=by kernel_rfl
   intro h;rw[h]at this;cases this)
 |some F=>exact⟨F,rfl⟩
def Ty (i:Nat):LU [aw (i:Int)]:=by refine⟨rfl,?_⟩;show oR (Option LVal) none _ (m5 .i64 (i:Int))=_;rw[fI];rfl
def Mz (hi:i<200) (n:Nat) (s:AS):aE (n+1) (dJ 116) [aw (i:Int)] s= .val (.string ⟨⟨gg i⟩⟩) s:=by obtain⟨F,e⟩:=TX;exact wy (L:=ga) (B:=eval prog cC 60) (by rfl) e (Ty i) ⟨rfl,λnx=>rfl⟩ (zy (X5 Nh i hi)) s
def KB:∀(f n:Nat) (acc:List UInt8),(Ot f n acc).length<=f+acc.length
 |0,n,acc=>by simp[Ot]
 |f+1,n,acc=>by
  unfold Ot;split
  ·simp;omega
  ·have:=KB f (n/10) (UInt8.ofNat (48+n%10)::acc);rw[bU]at this;omega
def ri (n:Nat):(gg n).length<=20:=by have:=KB 20 n [];simpa[gg]using this
def bM:isAgg prog 3=some false:=by kernel_rfl
def kH:isAgg prog 116=some false:=by kernel_rfl
def wC:isAgg prog 125=some true:=by kernel_rfl
def wD:dc prog 125=some 16:=by kernel_rfl
structure cx where
 kind:Nat
 id:Int
 p0:Nat
 p1:Nat
 p2:Nat
 text:ByteArray
 v:LVal
 many:Nat
 size:Nat
 vars:Nat
def cx.da (e:cx):LVal:= [aw (e.kind:Int),aw e.id,aw (e.p0:Int),aw (e.p1:Int),aw (e.p2:Int),.string e.text]
def cx.row (e:cx):LVal:=e.da++e.v++ [aw (e.many:Int),aw (e.size:Int),.map (some e.vars)]
def pN (l:LVal):Prop:=l.length=7∧cP l=true∧∀v∈l,Flat v
def kV (σ:List cx):List LVal:=σ.map cx.row
def oI:List cx->List (Value×Value×Nat)
 | []=> []
 |e::σ=>(.agg ⟨e.da⟩,aw (σ.length:Int),σ.length+1)::oI σ
def zeroV:LVal:= [aw 0,.bool false,.string ⟨⟨[]⟩⟩,.string ⟨⟨[]⟩⟩,.slice none 0 0,.slice none 0 0,aw 0]
def cx.parts (e:cx):List Nat:= [e.p0,e.p1,e.p2].take e.many
def dC (σ:List cx) (x:Nat):Nat:=(σ[x]?.map cx.size).getD 0
def Da (σ:List cx) (l:List Nat):Nat:=l.foldl (λz x=>min (z+dC σ x) 4097) 1
structure WFE (σ:List cx) (i:Nat) (e:cx):Prop where
 lt:∀x∈e.parts,x<i
 size:e.size=Da σ e.parts
 shape:(e.kind<=2∧e.many=0)∨(e.kind=3∧e.many=2)∨(e.kind=4∧e.many=3)
 text:e.text.data.toList.length<=64
 num:e.kind<=1->0<=e.id∧e.id<200
 con:e.kind=2->∃tag b num str,fZ tag b num str e.text.data.toList∧e.v=cu tag b num str
 plain:e.kind≠2->e.v=zeroV
def adr {σ τ:List cx} {l:List Nat} (h:∀x∈l,x<σ.length):Da (σ++τ) l=Da σ l:=by
 unfold Da;have key:∀(l:List Nat) (z:Nat),(∀x∈l,x<σ.length)->l.foldl (λz x=>min (z+dC (σ++τ) x) 4097) z=l.foldl (λz x=>min (z+dC σ x) 4097) z:=by
  intro l;induction l with
  |nil=>intro z _;rfl
  |cons x l ih=>
   intro z hx;rw[np,np];have e:dC (σ++τ) x=dC σ x:=by unfold dC;rw[cD (hx x (by simp))]
   rw[e];exact ih _ λy hy=>hx y (by simp[hy])
 exact key l 1 h
def X6 (σ:List cx) (l:List Nat) (x:Nat):Da σ (l++ [x])=min (Da σ l+dC σ x) 4097:=by unfold Da;rw[Bt];rfl
structure TS (s:AS) (p q:Nat) (v:Value) (σ:List cx):Prop where
 own:ay s p 118 [v,.map (some q)]
 rows:∃ob',Own 0 s 125 16 v (kV σ) ob'∧∀b,ob'=some b->b≠p∧b≠q
 found:cy s q 90 (oI σ.reverse) σ.length
 pq:p≠q
 ua:∀e∈σ,pN e.v
 Iv:σ.length<=900000
 nodup:(σ.map cx.da).Nodup
 vars:∀e∈σ,∃es ck,cy s e.vars 3 es ck∧iA es
 xL:∀e∈σ,1<=e.size∧e.size<=4097
 wf:∀i (hi:i<σ.length),WFE σ i σ[i]
def nw (σ:List cx):(kV σ).length=σ.length:=by unfold kV;simp
def SM (n:Nat) {σ:List cx} (hg:Good s) (h:TS s p q v σ):
  cp (aE (n+1) (dJ 28) [a8 p] s) (λr s'=>r=aw (σ.length:Int)∧s'=s):=by
 rw[aJz];refine bG (by simp) λm hm=>?_;have h0:m.get 0=some (a8 p):=by rw[hm];rfl
 clear hm;obtain⟨ob',ho,_⟩:=h.rows;have qh:=Own.sl hg (by decide) ho;have mi:=qh.len;rw[nw]at mi;unfold c28;apply aJ;simp+decide only[ag];apply dh;apply ar;simp+decide only[ag,h0,oW,ja];refine dD (by simp+decide only[ag]) ?_;apply aJ;simp+decide only[ag,h0,cH,bO,h.own.ld kH (o:=0) (by simp),ae,aG,mi];refine aR (b6 (.inr rfl) (by simp+decide only[ag]) ⟨rfl,rfl⟩)
def TS.ext {s s':AS} {p q:Nat} {v:Value} {σ:List cx} (h:TS s p q v σ) (hg:Good s) (he:∀j,j<s.nx->s'.h.get j=s.h.get j):TS s' p q v σ:=by
 obtain⟨ob',ho,hb⟩:=h.rows;exact⟨h.own.eq (he _ (h.own.lt hg)),⟨ob',ho.ext hg λj hj _ _ _=>he j hj,hb⟩,h.found.eq (he _ (h.found.lt hg)),h.pq,h.ua,h.Iv,h.nodup,λe hh=>by obtain⟨es,ck,h1,h2⟩:=h.vars e hh;exact⟨es,ck,h1.eq (he _ (h1.lt hg)),h2⟩,h.xL,h.wf⟩
def TS.sl {s:AS} {p q:Nat} {v:Value} {σ:List cx} (h:TS s p q v σ) (hg:Good s):Sl s.nx s 125 16 v (kV σ):=by obtain⟨ob',ho,_⟩:=h.rows;exact Own.sl hg (by decide) ho
def TS.len {s:AS} {p q:Nat} {v:Value} {σ:List cx} (h:TS s p q v σ) (hg:Good s):dH [v]=some (aw (σ.length:Int)):=by have:=(h.sl hg).len;rwa[nw]at this
def DU {σ:List cx} (h:i<σ.length):(kV σ)[i]'(by rw[nw];exact h)=σ[i].row:=by unfold kV;simp
def aii (hg:Good s) (b:eX):∀j,j<s.nx->(s.add b).h.get j=s.h.get j:= λj hj=>by rw[gF hg,aC (by omega)]
def cx.dT (e:cx) (h:pN e.v):e.row.length=16:=by unfold cx.row cx.da;simp[h.1]
def lX {a b:LVal} (ha:cP a=true) (hb:cP b=true):cP (a++b)=true:=by
 induction a with
 |nil=>exact hb
 |cons v a ih=>
  have ha:aD (dZ v) (cP a) false=true:=ha;obtain⟨h1,h2⟩:dZ v=true∧cP a=true:=by
   cases hv:dZ v with
   |true=>rw[hv]at ha;exact⟨rfl,ha⟩
   |false=>rw[hv]at ha;cases ha
  show aD (dZ v) (cP (a++b)) false=true;rw[h1,aS];exact ih h2
def cx.row_one (e:cx) (h:pN e.v):cP e.row=true:=lX (lX rfl h.2.1) rfl
def UP (n:Nat) {σ:List cx} (hg:Good s) (h:TS s p q v σ) (ht:t<σ.length):
  cp (aE (n+1) (dJ 79) [a8 p,aw (t:Int)] s) (λr s'=>r= .agg ⟨σ[t].row⟩∧Grown s.nx s s'):=by
 rw[aJA];refine bG (by simp) λm hm=>?_;have h0:m.get 0=some (a8 p):=by rw[hm];rfl
 have h1:m.get 1=some (aw (t:Int)):=by rw[hm];rfl
 clear hm;have eH:=h.ua σ[t] (aV ht);unfold c79;apply aJ;simp+decide only[ag,pM hg];generalize dm:s.add (ca 125 [aw 0,aw 0,aw 0,aw 0,aw 0,.string ⟨⟨[]⟩⟩,aw 0,.bool false,.string ⟨⟨[]⟩⟩,.string ⟨⟨[]⟩⟩,.slice none 0 0,.slice none 0 0,aw 0,aw 0,aw 0,.map none])=s1;have dv:Good s1:=by rw[<-dm];exact fW hg _
 have fN:Grown s.nx s s1:=by rw[<-dm];exact(Grown.refl hg _).add (af _) _
 obtain⟨vs,rV,Au⟩:∃vs,ay s1 s.nx 125 vs∧vs.length=16:=⟨_,by rw[<-dm];exact ay.new hg 125 _,rfl⟩
 have h':TS s1 p q v σ:=h.ext hg fN.eb;have mi:=h'.len dv;apply kK;apply aJ;simp+decide only[ag,h0,oW,ja];refine nN (by simp+decide only[ag]) ?_;have d1:decide ((t:Int)<0)=false:=az (by omega);have d2:decide ((σ.length:Int)<=(t:Int))=false:=az (by omega);apply aJ;simp+decide only[ag,h0,h1,d1,d2,cH,bO,h'.own.ld kH (o:=0) (by simp),ae,aG,mi,sM];refine dD (by simp+decide only[ag]) ?_;apply aJ;simp+decide only[ag,h0,h1,cH,bO,h'.own.ld kH (o:=0) (by simp),ae,aG,(h'.sl dv).ix (t:=116) (i:=t) (by rw[nw];exact ht),(h'.sl dv).eA wC wD (by decide) (i:=t) (by rw[nw];exact ht),DU ht,rV.kU dv (us:=σ[t].row) (k:=16) (by rw[σ[t].dT eH,Au]) (σ[t].dT eH).symm (by decide) (σ[t].row_one eH)];have oo:=ay.set dv (i:=s.nx) (rV.lt dv) 125 σ[t].row;refine aR (tM (u:=a8 s.nx) (.inr rfl) (by simp+decide only[ag]) ?_ ⟨rfl,fN.wr (af _) (rV.lt dv) _⟩);rw[vS,oo.eA wC wD (by have:=σ[t].dT eH;omega) (by decide)];rw[bK,aP (by have:=σ[t].dT eH;omega)]
def ea (kind:Nat) (id:Int) (p0 p1 p2:Nat) (text:ByteArray):LVal:= [aw (kind:Int),aw id,aw (p0:Int),aw (p1:Int),aw (p2:Int),.string text]
def aij (kind:Nat) (id:Int) (p0 p1 p2:Nat) (text:ByteArray) (aa9:Nat) (id':Int) (p0' p1' p2':Nat) (aDi:ByteArray):∃b,vn 8 (.agg ⟨ea kind id p0 p1 p2 text⟩) (.agg ⟨ea aa9 id' p0' p1' p2' aDi⟩)=some b:=by
 refine V0 (d:=7) (Mu rfl λi h h'=>?_);rcases i with _|_|_|_|_|_|i
 ·exact⟨_,ly 6 _ _ _⟩
 ·exact⟨_,ly 6 _ _ _⟩
 ·exact⟨_,ly 6 _ _ _⟩
 ·exact⟨_,ly 6 _ _ _⟩
 ·exact⟨_,ly 6 _ _ _⟩
 ·exact⟨_,VZ 6 _ _⟩
 ·simp[ea]at h;omega
def DV:∀ {τ:List cx} {x:Value×Value×Nat},x∈oI τ->∃e∈τ,x.1= .agg ⟨e.da⟩
 | [],x,h=>by cases h
 |e::τ,x,h=>by
  rcases List.mem_cons.1 h with rfl|h
  ·exact⟨e,by simp,rfl⟩
  ·obtain⟨e',h1,h2⟩:=DV h;exact⟨e',by simp[h1],h2⟩
def H2 (kind:Nat) (id:Int) (p0 p1 p2:Nat) (text:ByteArray) (τ:List cx):Keys (.agg ⟨ea kind id p0 p1 p2 text⟩) (oI τ):= λx hx=>by obtain⟨e,_,h⟩:=DV hx;rw[h];exact aij _ _ _ _ _ _ _ _ _ _ _ _
def KE:∀(τ:List cx),(oI τ).map (·.1)=τ.map λe=>Value.agg ⟨e.da⟩
 | []=>rfl
 |e::τ=>by rw[oI,br,br,KE τ]
def KF:∀(τ:List cx) (j:Nat) (h:j<τ.length),(Value.agg ⟨τ[j].da⟩,Value.int .i64 ((τ.length-1-j:Nat):Int),τ.length-j)∈oI τ
 | [],j,h=>by simp at h
 |e::τ,0,h=>by simp[oI]
 |e::τ,j+1,h=>by
  have hj:j<τ.length:=by simpa using h
  have:=KF τ j hj;refine cV _ ?_;have e1:(e::τ).length-1-(j+1)=τ.length-1-j:=by simp;omega
  have e2:(e::τ).length-(j+1)=τ.length-j:=by simp
  rw[e1,e2];exact this
def X9 {σ:List cx} (h:(σ.map cx.da).Nodup):((oI σ.reverse).map (·.1)).Nodup:=by
 rw[KE,List.map_reverse];refine(List.Perm.nodup_iff (List.reverse_perm _)).2 ?_;have:(σ.map λe=>Value.agg ⟨e.da⟩)=(σ.map cx.da).map λl=>Value.agg ⟨l⟩:=by simp
 rw[this];exact List.pairwise_map.2 (S4 (λjJ e=>jJ (by injection e with e;injection e)) h)
def Ya {σ:List cx} (h:(σ.map cx.da).Nodup) (hi:i<σ.length):jj (.agg ⟨σ[i].da⟩) (oI σ.reverse)=some (some (aw (i:Int),i+1)):=by
 have hm:=KF σ.reverse (σ.length-1-i) (by simp;omega);have e0:σ.reverse[σ.length-1-i]'(by simp;omega)=σ[i]:=by rw[List.getElem_reverse];congr 1;omega
 rw[e0]at hm;have e1:σ.reverse.length-1-(σ.length-1-i)=i:=by simp;omega
 have e2:σ.reverse.length-(σ.length-1-i)=i+1:=by simp;omega
 rw[e1,e2]at hm;exact Cm (H2 σ[i].kind σ[i].id σ[i].p0 σ[i].p1 σ[i].p2 σ[i].text _) (X9 h) hm
def H3 {σ:List cx} {kind:Nat} {id:Int} {p0 p1 p2:Nat} {text:ByteArray} (h:∀e∈σ,e.da≠ea kind id p0 p1 p2 text):jj (.agg ⟨ea kind id p0 p1 p2 text⟩) (oI σ.reverse)=some none:=
 uV (H2 _ _ _ _ _ _ _) λx hx e=>by
  obtain⟨e',h1,h2⟩:=DV hx;rw[h2]at e;injection e with e;injection e with e
  exact h e' (by simpa using h1) e
def uZ:isAgg prog 90=some true:=by kernel_rfl
def zC:dc prog 90=some 6:=by kernel_rfl
def oY:isAgg prog 33=some true:=by kernel_rfl
def oZ:dc prog 33=some 7:=by kernel_rfl
def A0:isAgg prog 115=some false:=by kernel_rfl
def yq:dc prog 3=some 1:=by kernel_rfl
def A1:keyOf prog 115=some (90,3):=by kernel_rfl
def K3:tD prog #[38,38]=some 3:=by kernel_rfl
def Hh:mU prog 3=some (aw 0):=by kernel_rfl
def YK:jv prog 5 90=some [.int .i64,.int .i64,.int .i64,.int .i64,.int .i64,.str]:=by kernel_rfl
def DW (kind:Nat) (id:Int) (p0 p1 p2:Nat) (text:ByteArray):eB prog 90 (.agg ⟨ea kind id p0 p1 p2 text⟩)=true:=by unfold eB;rw[YK];show m6 (isAgg prog 90) _ _=true;rw[uZ];rfl
def aik (b o:Nat):tC prog (prog.underlying 88) (.pointer (some ⟨b,o,none⟩)) none none none=some (.slice (some ⟨b,o,none⟩) 3 (bH 3)):=by rw[underlying88];show ob (dc prog 3) (λsz=>jX sz ⟨b,o,none⟩ 3 none none none)=_;rw[yq,cg,Ap]
def pj (kind:Nat) (id:Int) (l:List Nat) (text:ByteArray):LVal:=ea kind id (l.getD 0 0) (l.getD 1 0) (l.getD 2 0) text
def ail (kind:Nat) (id:Int) (text:ByteArray) {l:List Nat} (h:l.length<=3):(ea kind id 0 0 0 text).take 2++Ey l++(ea kind id 0 0 0 text).drop (2+l.length)=pj kind id l text:=by
 rcases l with _|⟨a,_|⟨b,_|⟨c,_|⟨d,l⟩⟩⟩⟩
 ·rfl
 ·rfl
 ·rfl
 ·rfl
 ·simp at h
def Pc (n:Nat) {σ:List cx} (hg:Good s) (h:TS s p q v σ) {kind:Nat} {id:Int} {text:ByteArray} {l:List Nat} {vc:LVal} (hl:l.length<=3) (hy:Sl s.nx s 3 1 y (ints l)) (F3:pN vc) {cf:CF} {Q:cZ->TM 100->AS->Prop} {m:TM 100} (h0:m.get 0=some (a8 p)) (h1:m.get 1=some (.agg ⟨ea kind id 0 0 0 text⟩)) (h2:m.get 2=some (.agg ⟨vc⟩)) (h3:m.get 3=some y) (hQ:∀(m:TM 100) (s2:AS),Grown s.nx s s2->s2.nx=s.nx+2->TS s2 p q v σ->ay s2 s.nx 90 (pj kind id l text)->ay s2 (s.nx+1) 33 vc->Sl s.nx s2 3 1 y (ints l)->
   m.get 0=some (a8 p)->m.get 3=some y->m.get 5=some (a8 s.nx)->m.get 6=some (a8 (s.nx+1))->WC (aE n) cf Q m s2):
  WC (aE n) (ah akQ (ah akR cf)) Q m s:=by
 apply aJ;simp+decide only[ag,h1,h2,ez hg,ez (fW hg _)];generalize dm:(s.add (ca 90 (ea kind id 0 0 0 text))).add (ca 33 vc)=s1;have Vp:=fW hg (ca 90 (ea kind id 0 0 0 text));have dv:Good s1:=by rw[<-dm];exact fW Vp _
 have QZ:s1.nx=s.nx+2:=by rw[<-dm];rfl
 have fN:Grown s.nx s s1:=by rw[<-dm];exact((Grown.refl hg _).add (af _) _).add (by rw[ep];omega) _
 have hk:ay s1 s.nx 90 (ea kind id 0 0 0 text):=by rw[<-dm];exact(ay.new hg 90 _).add Vp _
 have hv:ay s1 (s.nx+1) 33 vc:=by rw[<-dm];exact ay.new Vp 33 _
 have I9:=hy.ext fN.eb;apply aJ;obtain⟨s2,e1,e2,e3,e4,e5⟩:=Kv (o:=2) (dl:=3) (c:=bH 3) dv K3 yq hk I9 hl (by simp[ea]) (by simp[ea]);rw[ail _ _ _ hl]at e4;simp+decide only[ag,h3,bO,aG,aik,e1];have ic:Grown s.nx s s2:=⟨e2,by omega,λj hj=>by rw[e5 j (by omega)];exact fN.eb j hj⟩
 exact hQ _ s2 ic (by omega) (h.ext hg ic.eb) e4 (hv.eq (e5 _ (by omega))) (hy.ext ic.eb) (by simp+decide only[ag,h0]) (by simp+decide only[ag,h3]) (by simp+decide only[ag]) (by simp+decide only[ag,ep])
def Cq (kind:Nat) (id:Int) (p0 p1 p2:Nat) (text:ByteArray):∀v∈ea kind id p0 p1 p2 text,Flat v:= λv hv=>by
 simp only[ea,bu,aX,db]at hv;rcases hv with rfl|rfl|rfl|rfl|rfl|rfl
 ·exact gk _ _
 ·exact gk _ _
 ·exact gk _ _
 ·exact gk _ _
 ·exact gk _ _
 ·exact rL _
def aim (n:Nat) {σ:List cx} (hg:Good s) (h:TS s p q v σ) {kind:Nat} {id:Int} {text:ByteArray} {l:List Nat} {vc:LVal} (hl:l.length<=3) (hy:Sl s.nx s 3 1 y (ints l)) (F3:pN vc) (hi:i<σ.length) (hk:σ[i].da=pj kind id l text):
  cp (aE (n+1) (dJ 41) [a8 p,.agg ⟨ea kind id 0 0 0 text⟩,.agg ⟨vc⟩,y] s) (λr s'=>r=aw (i:Int)∧Grown s.nx s s'):=by
 rw[awN];refine bG (by simp) λm hm=>?_;have h0:m.get 0=some (a8 p):=by rw[hm];rfl
 have h1:m.get 1=some (.agg ⟨ea kind id 0 0 0 text⟩):=by rw[hm];rfl
 have h2:m.get 2=some (.agg ⟨vc⟩):=by rw[hm];rfl
 have h3:m.get 3=some y:=by rw[hm];rfl
 clear hm;unfold c41;refine Pc n hg h hl hy F3 h0 h1 h2 h3 λm s2 fN Q4 h' uA oo Xl g0 g3 g5 g6=>?_;have Lv:=Ya h'.nodup hi;rw[hk]at Lv;obtain⟨IU,_⟩:=Cn h'.found A1 (DW kind id (l.getD 0 0) (l.getD 1 0) (l.getD 2 0) text) Lv;have Zf:=cB (gj (Cq kind id (l.getD 0 0) (l.getD 1 0) (l.getD 2 0) text));have hta:qQ 12 (.tuple #[aw (i:Int),.bool true]) (.tuple #[aw (i:Int),.bool true])=true:=cB (HV λv hv=>by
  simp at hv;rcases hv with rfl|rfl
  ·exact gk _ _
  ·exact q8 _)
 have Aa:=uA.eA uZ zC (o:=0) (by simp[pj,ea]) (by decide);have zM:((pj kind id l text).drop 0).take 6=ea kind id (l.getD 0 0) (l.getD 1 0) (l.getD 2 0) text:=rfl;rw[zM]at Aa;refine aT (aT (gY ?_));simp+decide only[ag,g0,g5,cH,bO,aG,h'.own.ld A0 (o:=1) (by simp),aZ,ae,Aa,IU,Zf,hta];apply aJ;simp+decide only[ag];refine iP (by simp+decide only[ag]) ?_;apply aJ;simp+decide only[ag];exact aR (b6 (.inr rfl) (by simp+decide only[ag]) ⟨rfl,fN⟩)
def TY:keyOf prog 73=some (3,3):=by kernel_rfl
def A2:isAgg prog 73=some false:=by kernel_rfl
def aeo:jv prog 5 3=some [.int .i64]:=by kernel_rfl
def TZ:ir prog 125=true:=by kernel_rfl
def T0:qB prog 125=some [.int .i64 0,.int .i64 0,.int .i64 0,.int .i64 0,.int .i64 0,.string ⟨⟨[]⟩⟩,.int .i64 0,.bool false,.string ⟨⟨[]⟩⟩,.string ⟨⟨[]⟩⟩,.slice none 0 0,.slice none 0 0,.int .i64 0,.int .i64 0,.int .i64 0,.map none]:=by kernel_rfl
def Ni:dB prog 125 0=some (0,6):=by kernel_rfl
def Nj:dB prog 125 1=some (6,7):=by kernel_rfl
def Nk:dB prog 125 2=some (13,1):=by kernel_rfl
def Nl:dB prog 125 3=some (14,1):=by kernel_rfl
def Nm:dB prog 125 4=some (15,1):=by kernel_rfl
def og (a:Int):eB prog 3 (.int .i64 a)=true:=by unfold eB;rw[aeo];show m6 (isAgg prog 3) _ _=true;rw[bM];rfl
def seven (h:l.length=7):∃a b c d e f g,l= [a,b,c,d,e,f,g]:=by
 rcases l with _|⟨a,_|⟨b,_|⟨c,_|⟨d,_|⟨e,_|⟨f,_|⟨g,_|⟨x,l⟩⟩⟩⟩⟩⟩⟩⟩<;>simp at h
 exact⟨_,_,_,_,_,_,_,rfl⟩
def ads (kind:Nat) (id:Int) (p0 p1 p2:Nat) (text:ByteArray) (vc:LVal) (many size:Int) (r:Nat) (h:vc.length=7):
  cA prog 125 [0,1,2,3,4] [.agg ⟨ea kind id p0 p1 p2 text⟩,.agg ⟨vc⟩,.int .i64 many,.int .i64 size,.map (some r)]=some (.agg ⟨ea kind id p0 p1 p2 text++vc++ [.int .i64 many,.int .i64 size,.map (some r)]⟩):=by
 obtain⟨a,b,c,d,e,f,g,rfl⟩:=seven h;refine fD TZ T0 ?_;show jq (dB prog 125) [(0,.agg ⟨ea kind id p0 p1 p2 text⟩),(1,.agg ⟨[a,b,c,d,e,f,g]⟩),(2,.int .i64 many),(3,.int .i64 size),(4,.map (some r))] _=_;rw[eV Ni rfl (by simp),eV Nj rfl (by simp[ea,Value.cells]),eV Nk rfl (by simp[ea,Value.cells]),eV Nl rfl (by simp[ea,Value.cells]),eV Nm rfl (by simp[ea,Value.cells]),jV];rfl
def uP (hg:Good s) (k:TypeId) (lo:Lo) (tm:T Value):AH k lo tm s=some (.map (some s.nx),s.add (.map k [] 0)):=by show ob (s.new (.map k [] 0)) (λs'=>some (Value.map (some s.nx),s'))=_;rw[zd hg,cg]
def cy.add {s:AS} {r kt ck:Nat} {es:List (Value×Value×Nat)} (h:cy s r kt es ck) (hg:Good s) (b:eX):cy (s.add b) r kt es ck:=h.eq (aii hg b _ (h.lt hg))
def cy.new (hg:Good s) (k:TypeId):cy (s.add (.map k [] 0)) s.nx k [] 0:=by unfold cy;rw[gF hg,aU rfl]
def cy.wr {s:AS} {r kt ck i:Nat} {es:List (Value×Value×Nat)} (h:cy s r kt es ck) (hg:Good s) (hi:i<s.nx) (hr:r≠i) (b:Option eX):cy (s.wr i b) r kt es ck:=h.eq (by rw[cj hg hi,aC hr])
def cy.set (hg:Good s) (hi:i<s.nx) (kt:TypeId) (es:List (Value×Value×Nat)) (ck:Nat):cy (s.wr i (some (.map kt es ck))) i kt es ck:=by unfold cy;rw[cj hg hi,aU rfl]
structure ZJ (s s':AS) (p q:Nat) (v:Value) (σ:List cx) (kc vc:LVal) (l:List Nat) (y:Value) (z:Int):Prop where
 gr:Grown s.nx s s'
 nx:s'.nx=s.nx+4
 ts:TS s' p q v σ
 key:ay s' s.nx 90 kc
 ent:ay s' (s.nx+3) 125 (kc++vc++ [.int .i64 (l.length:Int),.int .i64 z,.map (some (s.nx+2))])
 map:∃es ck,cy s' (s.nx+2) 3 es ck∧iA es
 y:Sl s.nx s' 3 1 y (ints l)
def TS.lts {σ:List cx} (h:TS s p q v σ) (hg:Good s):p<s.nx∧q<s.nx:=⟨h.own.lt hg,h.found.lt hg⟩
def ais (n:Nat) {s2:AS} {σ:List cx} (hg:Good s) (h:TS s p q v σ) {kind:Nat} {id:Int} {p0 p1 p2:Nat} {text:ByteArray} {l:List Nat} {vc:LVal} (F3:pN vc) (fN:Grown s.nx s s2) (Q4:s2.nx=s.nx+2) (h':TS s2 p q v σ) (hk:ay s2 s.nx 90 (ea kind id p0 p1 p2 text)) (hv:ay s2 (s.nx+1) 33 vc) (hy:Sl s.nx s2 3 1 y (ints l)) {cf:CF} {Q:cZ->TM 100->AS->Prop} {m:TM 100} (h0:m.get 0=some (a8 p)) (h3:m.get 3=some y) (h5:m.get 5=some (a8 s.nx)) (h6:m.get 6=some (a8 (s.nx+1))) (hQ:∀(m:TM 100) (s':AS),ZJ s s' p q v σ (ea kind id p0 p1 p2 text) vc l y 1->m.get 0=some (a8 p)->m.get 3=some y->m.get 5=some (a8 s.nx)->m.get 11=some (a8 (s.nx+3))->WC (aE n) cf Q m s'):
  WC (aE n) (ah akS (ah (ah akT (bw (aK 37) akU (aQ cZ.normal))) cf)) Q m s2:=by
 have dI:=fN.bt;have hl7:=F3.1;apply aJ;have Aa:=hk.eA uZ zC (o:=0) (by simp[ea]) (by decide);have axL:=hv.eA oY oZ (o:=0) (by omega) (by decide);rw[bK,aP (by simp[ea])]at Aa;rw[bK,aP (by omega)]at axL;have mi:=hy.len;rw[dE]at mi;have gQ:=fW dI (.map 3 [] 0);simp+decide only[ag,h3,h5,h6,Aa,axL,mi,uP dI,pM gQ,ads kind id p0 p1 p2 text vc _ _ _ hl7];obtain⟨s4,jW⟩:∃s4,s4=(s2.add (eX.map 3 [] 0)).add (ca 125 [.int .i64 0,.int .i64 0,.int .i64 0,.int .i64 0,.int .i64 0,.string ⟨⟨[]⟩⟩,.int .i64 0,.bool false,.string ⟨⟨[]⟩⟩,.string ⟨⟨[]⟩⟩,.slice none 0 0,.slice none 0 0,.int .i64 0,.int .i64 0,.int .i64 0,.map none]):=⟨_,rfl⟩
 rw[<-jW];have Ze:(s2.add (eX.map 3 [] 0)).nx=s.nx+3:=by rw[ep];omega
 have iI:=cz jW gQ;have hn4:s4.nx=s.nx+4:=by rw[jW,ep,Ze]
 have qH:Grown s.nx s s4:=by rw[jW];exact(fN.add (by omega) _).add (by rw[Ze];omega) _
 have alW:∀j,j<s.nx+2->s4.h.get j=s2.h.get j:= λj hj=>by rw[jW,gF gQ,aC (by omega),gF dI,aC (by omega)]
 obtain⟨z4,hv4,hz4⟩:∃z4,ay s4 (s.nx+3) 125 z4∧z4.length=16:=⟨_,by rw[jW,<-Ze];exact ay.new gQ 125 _,rfl⟩
 have hm4:cy s4 (s.nx+2) 3 [] 0:=by rw[jW,<-Q4];exact(cy.new dI 3).add gQ _
 obtain⟨row,fL⟩:=dO (ea kind id p0 p1 p2 text++vc++ [.int .i64 (l.length:Int),.int .i64 1,.map (some (s.nx+2))]);have yN:row.length=16:=by rw[fL];simp[ea,hl7]
 have uh:cP row=true:=by rw[fL];exact lX (lX rfl F3.2.1) rfl
 have fU:=hv4.kU iI (us:=row) (k:=16) (by omega) yN.symm (by decide) uh;rw[Ze,Q4,<-fL,fU,aaN];have hi4:=hv4.lt iI;have jm:=bZ iI hi4 (some (ca 125 row));have hv5:ay (s4.wr (s.nx+3) (some (ca 125 row))) (s.nx+3) 125 row:=ay.set iI hi4 125 row;have Zg:ay (s4.wr (s.nx+3) (some (ca 125 row))) s.nx 90 (ea kind id p0 p1 p2 text):=(hk.eq (alW _ (by omega))).wr iI hi4 (by omega) _;have hm5:=hm4.wr iI hi4 (by omega) (some (ca 125 row));have p4:Grown s.nx s (s4.wr (s.nx+3) (some (ca 125 row))):=qH.wr (by omega) hi4 _;have hy5:Sl s.nx (s4.wr (s.nx+3) (some (ca 125 row))) 3 1 y (ints l):=hy.ext λj hj=>by rw[cj iI hi4,aC (by omega),alW j (by omega)]
 have aKt:=h.ext hg p4.eb;generalize oE:s4.wr (s.nx+3) (some (ca 125 row))=s5 at*;have hn5:s5.nx=s.nx+4:=by rw[<-oE];exact hn4
 apply dh;apply ar;simp+decide only[ag,h5,bO,aG,Zg.ld bM (o:=0) (by simp[ea]),ea,ae];by_cases I8:kind=0
 ·have hd:decide ((kind:Int)=0)=true:=aL (by omega);simp+decide only[ag,hd];refine iP (by simp+decide only[ag]) ?_;apply ar;have hup:=BX (v:= .int .i64 1) jm hm5 TY (og id) (uV (k:= .int .i64 id) (λx hx=>by cases hx) (λx hx=>by cases hx));have aKu:row[15]'(by omega)= .map (some (s.nx+2)):=by simp[fL,ea,hl7]
  simp+decide only[ag,h5,bO,aG,Zg.ld bM (o:=1) (by simp[ea]),ea,ae,aZ,hv5.ld A2 (o:=15) (by omega),aKu,hup];have hi5:s.nx+2<s5.nx:=by omega
  refine hQ _ _ ⟨p4.wr (by omega) hi5 _,hn5,h.ext hg (p4.wr (by omega) hi5 _).eb,Zg.wr jm hi5 (by omega) _,?_,⟨_,_,cy.set jm hi5 3 _ _,λx hx=>?_⟩,hy5.ext λj hj=>by rw[cj jm hi5,aC (by omega)]⟩ (by simp+decide only[ag,h0]) (by simp+decide only[ag,h3]) (by simp+decide only[ag,h5]) (by simp+decide only[ag])
  ·rw[<-fL];exact hv5.wr jm hi5 (by omega) _
  ·simp at hx;subst hx;exact⟨id,rfl⟩
 ·have hd:decide ((kind:Int)=0)=false:=az (by omega);simp+decide only[ag,hd];refine dD (by simp+decide only[ag]) ?_;simp+decide only[ag];exact hQ _ _ ⟨p4,hn5,aKt,Zg,by rw[<-fL];exact hv5,⟨_,_,hm5,λx hx=>by cases hx⟩,hy5⟩ (by simp+decide only[ag,h0]) (by simp+decide only[ag,h3]) (by simp+decide only[ag,h5]) (by simp+decide only[ag])
def T1:qN 83 cC.sum=some (.copy 3):=by kernel_rfl
def adt {e:cx} (h:pN e.v):∀v∈e.row,Flat v:= λv hv=>by
 unfold cx.row at hv;rcases List.mem_append.1 hv with hv|hv
 ·rcases List.mem_append.1 hv with hv|hv
  ·exact Cq _ _ _ _ _ _ v hv
  ·exact h.2.2 v hv
 ·simp at hv;rcases hv with rfl|rfl|rfl
  ·exact gk _ _
  ·exact gk _ _
  ·exact adl _
def cx.abd (e:cx) (h:pN e.v):e.row[14]'(by rw[e.dT h];decide)= .int .i64 (e.size:Int):=by have:=h.1;simp[cx.row,cx.da,this]
def cx.aDn (e:cx) (h:pN e.v):e.row[15]'(by rw[e.dT h];decide)= .map (some e.vars):=by have:=h.1;simp[cx.row,cx.da,this]
def adu (n:Nat) {σ:List cx} (hg:Good s) (h:TS s p q v σ) {kind:Nat} {id:Int} {p0 p1 p2:Nat} {text:ByteArray} {l:List Nat} {vc:LVal} (F3:pN vc) (hl:l.length<=3) (gP:∀x∈l,x<σ.length) (hI:ZJ s s' p q v σ (ea kind id p0 p1 p2 text) vc l y 1) {cf:CF} {Q:cZ->TM 100->AS->Prop} {m:TM 100} (h0:m.get 0=some (a8 p)) (h3:m.get 3=some y) (h5:m.get 5=some (a8 s.nx)) (h11:m.get 11=some (a8 (s.nx+3))) (hQ:∀(m:TM 100) (s':AS) (z:Nat),z=Da σ l->1<=z->z<=4097->ZJ s s' p q v σ (ea kind id p0 p1 p2 text) vc l y (z:Int)->m.get 0=some (a8 p)->m.get 5=some (a8 s.nx)->m.get 11=some (a8 (s.nx+3))->WC (aE (n+1)) cf Q m s'):
  WC (aE (n+1)) (ah (ah akV (bP 0 (fM (ah akW (ah (bw (aK 45) (aQ cZ.normal) (aQ (cZ.exit 0))) (ah (bP 1 (ah abV (ah abW abX))) abY)))))) cf) Q m s':=by
 have mi:=hI.y.len;rw[dE]at mi;apply dh;apply ar;simp+decide only[ag,h3,mi];refine bY (eW (λm s'=>∃(j z:Nat),j<=l.length∧z=Da σ (l.take j)∧1<=z∧z<=4097∧ZJ s s' p q v σ (ea kind id p0 p1 p2 text) vc l y (z:Int)∧m.get 0=some (a8 p)∧m.get 5=some (a8 s.nx)∧m.get 11=some (a8 (s.nx+3))∧m.get 42=some y∧m.get 43=some (.int .i64 (l.length:Int))∧m.get 44=some (.int .i64 (j:Int)))
  (λm _=>match m.get 44 with|some (.int _ j)=>(3-j).toNat|_=>0) ?_ ?_ ?_)
 ·exact⟨0,1,by omega,rfl,by omega,by omega,hI,by simp+decide only[ag,h0],by simp+decide only[ag,h5],by simp+decide only[ag,h11],by simp+decide only[ag],by simp+decide only[ag],by simp+decide only[ag,aW]⟩
 ·simp+decide only[ag]
 rintro m s' ⟨j,z,hj,hzs,hz1,hz2,hI,g0,g5,Dq,g42,g43,g44⟩;apply aJ;by_cases cS:j<l.length
 ·have hd:decide ((j:Int)<(l.length:Int))=true:=aL (by omega);simp+decide only[ag,g43,g44,hd];refine aT (cK true (by simp+decide only[ag]) ?_);simp+decide only[ag];apply aR;apply kK;apply aJ;have hx:=gP l[j] (aV cS);have Lx:=hI.gr.bt;have Az:j<(ints l).length:=by rw[dE];exact cS
  have F1:=hI.y.ld bM Az (gJ cS);rw[cO]at F1;simp+decide only[ag,g42,g44,hI.y.ix Az,F1];have eH:=h.ua σ[l[j]] (aV hx);have eR:=h.xL σ[l[j]] (aV hx);have yN:(ea kind id p0 p1 p2 text++vc++ [Value.int .i64 (l.length:Int),.int .i64 (z:Int),.map (some (s.nx+2))]).length=16:=by simp[ea,F3.1]
  have e14:(ea kind id p0 p1 p2 text++vc++ [Value.int .i64 (l.length:Int),.int .i64 (z:Int),.map (some (s.nx+2))])[14]'(by omega)= .int .i64 (z:Int):=by simp[ea,F3.1]
  have hxr:l[j]<(kV σ).length:=by rw[nw];exact hx
  have qh:=hI.ts.sl Lx;have hw:IntKind.i64.wrap ((z:Int)+(σ[l[j]].size:Int))=(z:Int)+(σ[l[j]].size:Int):=wrap_i64 (by omega);obtain⟨z',hz'⟩:∃z':Nat,(z':Int)=min ((z:Int)+(σ[l[j]].size:Int)) 4097:=⟨min (z+σ[l[j]].size) 4097,by omega⟩
  have fU:=hI.ent.Fu Lx (o:=14) (by omega) (v:= .int .i64 (z':Int)) rfl rfl;have hi3:=hI.ent.lt Lx;have Fo:=qh.same;apply lV;simp+decide only[ag,g0,Dq,cH,bO,aG,hI.ent.ld bM (o:=14) (by omega),e14,hI.ts.own.ld kH (o:=0) (by simp),ae,qh.ix (t:=116) hxr,qh.ct hxr 14,qh.fld bM (by decide) hxr (k:=14) (by decide) (DU hx) (by rw[σ[l[j]].dT eH];decide) (σ[l[j]].abd eH),hw,FQ,LR,<-hz',fU,cB Fo];have xp:(ea kind id p0 p1 p2 text++vc++ [Value.int .i64 (l.length:Int),.int .i64 (z:Int),.map (some (s.nx+2))]).set 14 (.int .i64 (z':Int))=ea kind id p0 p1 p2 text++vc++ [Value.int .i64 (l.length:Int),.int .i64 (z':Int),.map (some (s.nx+2))]:=by obtain⟨a,b,c,d,e,f,g,rfl⟩:=seven F3.1;rfl
  rw[xp]at fU⊢;have Ja:=bZ Lx hi3 (some (ca 125 (ea kind id p0 p1 p2 text++vc++ [Value.int .i64 (l.length:Int),.int .i64 (z':Int),.map (some (s.nx+2))])));have hvA:=ay.set Lx hi3 125 (ea kind id p0 p1 p2 text++vc++ [Value.int .i64 (l.length:Int),.int .i64 (z':Int),.map (some (s.nx+2))]);obtain⟨es,ck,hm,hik⟩:=hI.map;have hmA:=hm.wr Lx hi3 (by omega) (some (ca 125 (ea kind id p0 p1 p2 text++vc++ [Value.int .i64 (l.length:Int),.int .i64 (z':Int),.map (some (s.nx+2))])));have aod:=hI.gr.wr (i:=s.nx+3) (by omega) hi3 (some (ca 125 (ea kind id p0 p1 p2 text++vc++ [Value.int .i64 (l.length:Int),.int .i64 (z':Int),.map (some (s.nx+2))])));have hkA:=hI.key.wr Lx hi3 (by omega) (some (ca 125 (ea kind id p0 p1 p2 text++vc++ [Value.int .i64 (l.length:Int),.int .i64 (z':Int),.map (some (s.nx+2))])));have hnA:(s'.wr (s.nx+3) (some (ca 125 (ea kind id p0 p1 p2 text++vc++ [Value.int .i64 (l.length:Int),.int .i64 (z':Int),.map (some (s.nx+2))])))).nx=s.nx+4:=hI.nx;generalize qS:s'.wr (s.nx+3) (some (ca 125 (ea kind id p0 p1 p2 text++vc++ [Value.int .i64 (l.length:Int),.int .i64 (z':Int),.map (some (s.nx+2))])))=sA at*;have aoe:=h.ext hg aod.eb;have aof:=aoe.sl Ja;obtain⟨rU,ck2,hm2,aKv⟩:=aoe.vars σ[l[j]] (aV hx);have aUw:σ[l[j]].vars<s.nx:=by obtain⟨_,_,N5,_⟩:=h.vars σ[l[j]] (aV hx);exact N5.lt hg
  obtain⟨es3,ck3,hcp,aKw⟩:=XZ Ja hmA hm2 (by omega) aKv hik;have ry:aE (n+1) (dJ 83) [.map (some (s.nx+2)),.map (some σ[l[j]].vars)] sA= .val (.tuple #[]) (sA.wr (s.nx+2) (some (.map 3 es3 ck3))):=by exact(Kx (by kernel_rfl) T1 _ _).trans hcp
  have e15:(ea kind id p0 p1 p2 text++vc++ [Value.int .i64 (l.length:Int),.int .i64 (z':Int),.map (some (s.nx+2))])[15]'(by simp[ea,F3.1])= .map (some (s.nx+2)):=by simp[ea,F3.1]
  apply gY;simp+decide only[ag,g0,Dq,cH,bO,aG,hvA.ld A2 (o:=15) (by simp[ea,F3.1]),e15,aoe.own.ld kH (o:=0) (by simp),ae,aof.ix (t:=116) hxr,aof.ct hxr 15,aof.fld A2 (by decide) hxr (k:=15) (by decide) (DU hx) (by rw[σ[l[j]].dT eH];decide) (σ[l[j]].aDn eH),ry,cB Fo];apply ar;have JK:IntKind.i64.wrap ((j:Int)+1)=((j+1:Nat):Int):=by rw[wrap_i64 (by omega)];omega
  simp+decide only[ag,g44,JK];have hi2:s.nx+2<sA.nx:=by omega
  have aKx:z'=Da σ (l.take (j+1)):=by
   rw[cQ cS,X6,<-hzs];have e:dC σ l[j]=σ[l[j]].size:=by unfold dC;rw[ba hx];rfl
   rw[e];omega
  have aDo:∀i,i<s.nx->(sA.wr (s.nx+2) (some (.map 3 es3 ck3))).h.get i=sA.h.get i:= λi hi=>by rw[cj Ja hi2,aC (by omega)]
  refine⟨⟨j+1,z',by omega,aKx,by omega,by omega,⟨aod.wr (by omega) hi2 _,hnA,h.ext hg (aod.wr (by omega) hi2 _).eb,hkA.wr Ja hi2 (by omega) _,hvA.wr Ja hi2 (by omega) _,⟨es3,ck3,cy.set Ja hi2 3 _ _,aKw⟩,hI.y.ext λi hi=>?_⟩,by simp+decide only[ag,g0],by simp+decide only[ag,g5],by simp+decide only[ag,Dq],by simp+decide only[ag,g42],by simp+decide only[ag,g43],by simp+decide only[ag]⟩,by omega⟩;rw[aDo i hi,<-qS,cj Lx hi3,aC (by omega)]
 ·have hd:decide ((j:Int)<(l.length:Int))=false:=az (by omega);simp+decide only[ag,g43,g44,hd];refine aT (cK false (by simp+decide only[ag]) ?_);simp+decide only[ag];apply aR;simp+decide only[ag];exact hQ _ s' z (by rw[hzs,aP (by omega)]) hz1 hz2 hI (by simp+decide only[ag,g0]) (by simp+decide only[ag,g5]) (by simp+decide only[ag,Dq])
def T2:fu prog 116=some 125:=by kernel_rfl
def T3:dW prog 125=some (16,[aw 0,aw 0,aw 0,aw 0,aw 0,.string ⟨⟨[]⟩⟩,aw 0,.bool false,.string ⟨⟨[]⟩⟩,.string ⟨⟨[]⟩⟩,.slice none 0 0,.slice none 0 0,aw 0,aw 0,aw 0,.map none]):=by kernel_rfl
def Ou (s s':AS) (p q:Nat) (v:Value):Prop:=Good s'∧s.nx<=s'.nx∧∀j,j<s.nx->j≠p->j≠q->(∀a m c,v= .slice (some a) m c->j≠a.block)->s'.h.get j=s.h.get j
def adv {σ:List cx} (h:TS s p q v σ):∃ob',Own 0 s 125 16 v (kV σ) ob'∧(∀b,ob'=some b->b≠p∧b≠q)∧∀b,ob'=some b->∃a m c,v= .slice (some a) m c∧b=a.block:=by
 obtain⟨ob',ho,hb⟩:=h.rows;refine⟨ob',ho,hb,λb e=>?_⟩;generalize kV σ=R at ho;cases ho with
 |nil=>cases e
 |ex _ _=>cases e;exact⟨_,_,_,rfl,rfl⟩
 |lb _ _=>cases e;exact⟨_,_,_,rfl,rfl⟩
def adw (n:Nat) {σ:List cx} (hg:Good s) (h:TS s p q v σ) {kind:Nat} {id:Int} {p0 p1 p2:Nat} {text:ByteArray} {l:List Nat} {vc:LVal} {z:Nat} (F3:pN vc) (hz1:1<=z) (hz2:z<=4097) (fR:σ.length<900000) (Jb:WFE σ σ.length ⟨kind,id,p0,p1,p2,text,vc,l.length,z,s.nx+2⟩) (lG:∀e∈σ,e.da≠ea kind id p0 p1 p2 text) (hI:ZJ s s' p q v σ (ea kind id p0 p1 p2 text) vc l y (z:Int)) {m:TM 100} (h0:m.get 0=some (a8 p)) (h5:m.get 5=some (a8 s.nx)) (h11:m.get 11=some (a8 (s.nx+3))):
  WC (aE (n+1)) (ah abZ (ah ab0 (ah ab1 (aQ cZ.ret)))) (Bq prog [.tmp 8] λr j9=>r=aw (σ.length:Int)∧Ou s j9 p q v∧∃v',TS j9 p q v' (σ++ [⟨kind,id,p0,p1,p2,text,vc,l.length,z,s.nx+2⟩])) m s':=by
 have Lx:=hI.gr.bt;obtain⟨hp,hq⟩:=TS.lts h hg;obtain⟨e,he⟩:∃e:cx,e=⟨kind,id,p0,p1,p2,text,vc,l.length,z,s.nx+2⟩:=⟨_,rfl⟩
 have fL:ea kind id p0 p1 p2 text++vc++ [Value.int .i64 (l.length:Int),aw (z:Int),.map (some (s.nx+2))]=e.row:=by rw[he];rfl
 have j7:pN e.v:=by rw[he];exact F3
 have xn:=hI.ent;rw[fL]at xn;have ZK:=xn.eA wC wD (o:=0) (by have:=e.dT j7;omega) (by decide);rw[bK,aP (by have:=e.dT j7;omega)]at ZK;have qR:=V1 (t:=116) (v:= .agg ⟨e.row⟩) Lx T2 T3 (by decide) (e.dT j7);rw[dn]at qR;obtain⟨sB,BM⟩:=dO (s'.row 125 16 [e.row]);rw[<-BM]at qR;have Jc:=cz BM Lx;have BE:∀j,j<s'.nx->sB.h.get j=s'.h.get j:= λj hj=>by rw[BM];exact vQ Lx _ _ _ hj
 have Rq:Grown s.nx s sB:=⟨Jc,by rw[BM,tN];have:=hI.nx;omega,λj hj=>by rw[BE j (by have:=hI.nx;omega)];exact hI.gr.eb j hj⟩
 have hnB:sB.nx=s.nx+5:=by rw[BM,tN];have:=hI.nx;omega
 have Rr:=h.ext hg Rq.eb;have hyB:Sl sB.nx sB 125 16 (.slice (some ⟨s'.nx,0,none⟩) 1 (bH 1)) [e.row]:=by have:=bE.new Lx 125 16 [e.row];rw[<-BM]at this;exact Sl.full (R:= [e.row]) (this.lt Jc) this (by rw[(cR 1).1];exact af 1) (.inl (cR 1).2)
 obtain⟨ob',ho,EA,hbv⟩:=adv Rr;have yN:∀r∈kV σ,r.length=16:= λr hr=>by obtain⟨x,hx,rfl⟩:=List.mem_map.1 hr;exact x.dT (h.ua x hx)
 have oA:=ze ho hyB Jc (by decide) (by decide) yN (λr hr=>by simp at hr;subst hr;exact e.dT j7) (λr hr=>by simp at hr;subst hr;exact e.row_one j7) (by rw[nw];simp;omega) (by simp);have aDr:=xn.eq (BE _ (xn.lt Lx));have Ov:=aDr.eA wC wD (o:=0) (by have:=e.dT j7;omega) (by decide);rw[bK,aP (by have:=e.dT j7;omega)]at Ov;obtain⟨sC,AA⟩:∃sC,sC=(cW sB v).row 125 16 (kV σ++ [e.row]):=⟨_,rfl⟩
 rw[<-AA]at oA;have Bg:=Kw ho Jc;have hnD:(cW sB v).nx=s.nx+5:=by rw[BW];exact hnB
 have Fv:=cz AA Bg;have hnC:sC.nx=s.nx+6:=by rw[AA,tN,hnD]
 have Ow:∀j,j<s.nx+5->(∀b,ob'=some b->j≠b)->sC.h.get j=sB.h.get j:= λj hj hb=>by rw[AA,vQ Bg _ _ _ (by omega)];exact G5 ho Jc j hb
 have axN:∀b,ob'=some b->b<s.nx:= λb e1=>by
  obtain⟨ob1,ho1,_⟩:=h.rows;obtain⟨a,mm,c,e2,e3⟩:=hbv b e1;subst e2 e3;generalize kV σ=R at ho1;cases ho1 with
  |ex _ hr=>exact hr.lt hg
  |lb _ hr=>exact hr.lt hg
 have hpC:=Rr.own.eq (Ow p (by omega) λb e1=>jd (EA b e1).1);have fU:=hpC.Fu Fv (o:=0) (by simp) (v:= .slice (some ⟨sB.nx,0,none⟩) (kV σ++ [e.row]).length (cq (kV σ++ [e.row]).length 16)) rfl rfl;rw[dM]at fU;have JN:p<sC.nx:=by omega
 apply lV;simp+decide only[ag,h0,h11,cH,bO,aG,hI.ts.own.ld kH (o:=0) (by simp),ae,ZK,qR,Rr.own.ld kH (o:=0) (by simp),Ov,oA,fU,cB (gj (adt j7)),cB (h.sl hg).same];obtain⟨v',mu⟩:=dO (Value.slice (some ⟨sB.nx,0,none⟩) (kV σ++ [e.row]).length (cq (kV σ++ [e.row]).length 16));rw[<-mu];obtain⟨sE,CW⟩:=dO (sC.wr p (some (ca 118 [v',.map (some q)])));rw[<-CW];have EE:Good sE:=by rw[CW];exact bZ Fv JN _
 have hnE:sE.nx=s.nx+6:=by rw[CW];exact hnC
 have abe:∀j,j<s.nx+5->j≠p->(∀b,ob'=some b->j≠b)->sE.h.get j=sB.h.get j:= λj hj h1 h2=>by rw[CW,cj Fv JN,aC h1];exact Ow j hj h2
 have hpE:ay sE p 118 [v',.map (some q)]:=by rw[CW];exact ay.set Fv JN 118 _
 have hqE:=Rr.found.eq (abe q (by omega) (jd h.pq) λb e1=>jd (EA b e1).2);have hkB:ay sB s.nx 90 (ea kind id p0 p1 p2 text):=hI.key.eq (BE _ (by have:=hI.nx;omega));have hkE:=hkB.eq (abe s.nx (by omega) (by omega) λb e1=>by have:=axN b e1;omega);have ZL:=hkE.eA uZ zC (o:=0) (by simp[ea]) (by decide);rw[bK,aP (by simp[ea])]at ZL;have Zf:=cB (gj (Cq kind id p0 p1 p2 text));have hlv:dH [v']=some (aw ((σ.length+1:Nat):Int)):=by rw[mu];show some (Value.int .i64 (Int.ofNat (kV σ++ [e.row]).length))=_;simp[nw]
 have Vo:jg v':=by rw[mu];exact FP _ _ _ _
 have JK:IntKind.i64.wrap (((σ.length+1:Nat):Int)-1)=(σ.length:Int):=by rw[wrap_i64 (by omega)];omega
 have NK:=BX (v:=aw (σ.length:Int)) EE hqE A1 (DW kind id p0 p1 p2 text) (H3 lG);have Ge:q<sE.nx:=by omega
 apply lV;simp+decide only[ag,h0,h5,cH,bO,aG,hpE.ld A0 (o:=1) (by simp),hpE.ld kH (o:=0) (by simp),ae,aZ,ZL,Zf,hlv,JK,NK,cB Vo];obtain⟨sF,BN⟩:=dO (sE.wr q (some (.map 90 ((.agg ⟨ea kind id p0 p1 p2 text⟩,aw (σ.length:Int),σ.length+1)::oI σ.reverse) (σ.length+1))));rw[<-BN];have hgF:Good sF:=by rw[BN];exact bZ EE Ge _
 have abf:∀j,j<s.nx+5->j≠p->j≠q->(∀b,ob'=some b->j≠b)->sF.h.get j=sB.h.get j:= λj hj h1 h2 h3=>by rw[BN,cj EE Ge,aC h2];exact abe j hj h1 h3
 have hpF:ay sF p 118 [v',.map (some q)]:=by rw[BN];exact hpE.wr EE Ge h.pq _
 apply aJ;simp+decide only[ag,h0,cH,bO,aG,hpF.ld kH (o:=0) (by simp),ae,hlv,JK];refine aR (b6 (.inr rfl) (by simp+decide only[ag]) ⟨rfl,⟨hgF,by rw[BN];show s.nx<=sE.nx;omega,λj hj h1 h2 h3=>?_⟩,v',?_⟩)
 ·rw[abf j (by omega) h1 h2 λb e1=>by
   obtain⟨a,mm,c,e2,e3⟩:=hbv b e1;rw[e3];exact h3 a mm c e2]
  exact Rq.eb j hj
 rw[<-he];have aDs:kV (σ++ [e])=kV σ++ [e.row]:=by unfold kV;simp
 have xW:e.da=ea kind id p0 p1 p2 text:=by rw[he];rfl
 have ait:bE sF sB.nx 125 16 false (kV σ++ [e.row]):=by have h1:=bE.new Bg 125 16 (kV σ++ [e.row]);rw[<-AA,BW]at h1;refine h1.ext ?_;rw[BN,cj EE Ge,aC (by omega),CW,cj Fv JN,aC (by omega)]
 refine⟨hpF,⟨some sB.nx,?_,λb e1=>?_⟩,?_,h.pq,λx hx=>?_,by simp;omega,?_,λx hx=>?_,λx hx=>?_,λi hi=>?_⟩
 ·rw[aDs,mu];exact .lb (gS _) ait
 ·cases e1;exact⟨by omega,by omega⟩
 ·rw[List.reverse_append,ayL,aFG,oI,xW,gh,bL,iY,BN];exact cy.set EE Ge 90 _ _
 ·rcases List.mem_append.1 hx with hx|hx
  ·exact h.ua x hx
  ·simp at hx;subst hx;exact j7
 ·rw[bS,List.map_singleton,xW];refine List.nodup_append.2 ⟨h.nodup,by simp,λa ha b iR=>?_⟩;obtain⟨x,hx,rfl⟩:=List.mem_map.1 ha;simp at iR;subst iR;exact lG x hx
 ·rcases List.mem_append.1 hx with hx|hx
  ·obtain⟨es,ck,h1,h2⟩:=Rr.vars x hx;have cS:x.vars<s.nx:=by
    obtain⟨_,_,h3,_⟩:=h.vars x hx;exact h3.lt hg
   refine⟨es,ck,h1.eq (abf x.vars (by omega) (λe1=>?_) (λe1=>?_) λb e1 e2=>?_),h2⟩
   ·have h4:=Rr.own;unfold ay ca at h4;unfold cy at h1;rw[e1,h4]at h1;cases h1
   ·have h4:=Rr.found;unfold cy at h1 h4;rw[e1,h4]at h1;cases h1
   ·subst e2;generalize kV σ=R at ho;cases ho with
    |nil=>cases e1
    |ex _ hr=>cases e1;obtain⟨_,h4,_⟩:=hr.row;unfold cy at h1;rw[h4]at h1;cases h1
    |lb _ hr=>cases e1;obtain⟨_,h4,_⟩:=hr.row;unfold cy at h1;rw[h4]at h1;cases h1
  ·simp at hx;subst hx;obtain⟨es,ck,h1,h2⟩:=hI.map;refine⟨es,ck,?_,h2⟩;rw[he];exact(h1.eq (BE _ (by have:=hI.nx;omega))).eq (abf _ (by omega) (by omega) (by omega) λb e1=>by have:=axN b e1;omega)
 ·rcases List.mem_append.1 hx with hx|hx
  ·exact h.xL x hx
  ·simp at hx;subst hx;rw[he];exact⟨hz1,hz2⟩
 ·have key:∀(e:cx) (i:Nat),WFE σ i e->i<=σ.length->WFE (σ++ [⟨kind,id,p0,p1,p2,text,vc,l.length,z,s.nx+2⟩]) i e:= λe i hw hi=>⟨hw.lt,by rw[hw.size,adr λx hx=>bC (hw.lt x hx) hi],hw.shape,hw.text,hw.num,hw.con,hw.plain⟩
  subst he;by_cases cS:i<σ.length
  ·rw[eO cS];exact key _ i (h.wf i cS) (by omega)
  ·have hie:i=σ.length:=by simp at hi;omega
   subst hie;rw[pP (af _)];simp only[Fk,ae];exact key _ _ Jb (af _)
def aiu (n:Nat) {σ:List cx} (hg:Good s) (h:TS s p q v σ) {kind:Nat} {id:Int} {text:ByteArray} {l:List Nat} {vc:LVal} (hl:l.length<=3) (gP:∀x∈l,x<σ.length) (hy:Sl s.nx s 3 1 y (ints l)) (F3:pN vc) (RK:(kind<=2∧l.length=0)∨(kind=3∧l.length=2)∨(kind=4∧l.length=3)) (RP:text.data.toList.length<=64) (aog:kind<=1->0<=id∧id<200) (Jd:kind=2->∃tag b num str,fZ tag b num str text.data.toList∧vc=cu tag b num str) (JN:kind≠2->vc=zeroV) (fR:σ.length<900000) (lG:∀e∈σ,e.da≠pj kind id l text):
  cp (aE (n+2) (dJ 41) [a8 p,.agg ⟨ea kind id 0 0 0 text⟩,.agg ⟨vc⟩,y] s) (λr s'=>r=aw (σ.length:Int)∧Ou s s' p q v∧∃v' z,TS s' p q v' (σ++ [⟨kind,id,l.getD 0 0,l.getD 1 0,l.getD 2 0,text,vc,l.length,z,s.nx+2⟩])):=by
 rw[awN];refine bG (by simp) λm hm=>?_;have h0:m.get 0=some (a8 p):=by rw[hm];rfl
 have h1:m.get 1=some (.agg ⟨ea kind id 0 0 0 text⟩):=by rw[hm];rfl
 have h2:m.get 2=some (.agg ⟨vc⟩):=by rw[hm];rfl
 have h3:m.get 3=some y:=by rw[hm];rfl
 clear hm;unfold c41;refine Pc (n+1) hg h hl hy F3 h0 h1 h2 h3 λm s2 fN Q4 h' uA oo Xl g0 g3 g5 g6=>?_;have Lv:=H3 (σ:=σ) (kind:=kind) (id:=id) (p0:=l.getD 0 0) (p1:=l.getD 1 0) (p2:=l.getD 2 0) (text:=text) lG;obtain⟨IU,_⟩:=zr h'.found A1 (DW kind id (l.getD 0 0) (l.getD 1 0) (l.getD 2 0) text) Lv Hh;have Zf:=cB (gj (Cq kind id (l.getD 0 0) (l.getD 1 0) (l.getD 2 0) text));have hta:qQ 12 (.tuple #[aw 0,.bool false]) (.tuple #[aw 0,.bool false])=true:=rfl;have Aa:=uA.eA uZ zC (o:=0) (by simp[pj,ea]) (by decide);have zM:((pj kind id l text).drop 0).take 6=ea kind id (l.getD 0 0) (l.getD 1 0) (l.getD 2 0) text:=rfl;rw[zM]at Aa;refine aT (aT (gY ?_));simp+decide only[ag,g0,g5,cH,bO,aG,h'.own.ld A0 (o:=1) (by simp),aZ,ae,Aa,IU,Zf,hta];apply aJ;simp+decide only[ag];refine dD (by simp+decide only[ag]) ?_;simp+decide only[ag];refine ais (n+1) hg h F3 fN Q4 h' uA oo Xl (by simp+decide only[ag,g0]) (by simp+decide only[ag,g3]) (by simp+decide only[ag,g5]) (by simp+decide only[ag,g6]) λm s3 hI g0 g3 g5 Dq=>?_;refine adu n hg h F3 hl gP hI g0 g3 g5 Dq λm s4 z hzs hz1 hz2 hI g0 g5 Dq=>?_;have LY:cx.parts ⟨kind,id,l.getD 0 0,l.getD 1 0,l.getD 2 0,text,vc,l.length,z,s.nx+2⟩=l:=by
  rcases l with _|⟨a,_|⟨b,_|⟨c,_|⟨d,l⟩⟩⟩⟩
  ·rfl
  ·rfl
  ·rfl
  ·rfl
  ·simp at hl
 refine(adw n hg h F3 hz1 hz2 fR ⟨by rw[LY];exact gP,by rw[LY];exact hzs,RK,RP,aog,Jd,JN⟩ lG hI g0 g5 Dq).mono λx m s' ⟨hx,r,j9,e1,e2,e3,v',e4⟩=>⟨hx,r,j9,e1,e2,e3,v',z,e4⟩
inductive Q5 (s s':AS) (p q:Nat) (v:Value) (σ:List cx) (kind:Nat) (id:Int) (l:List Nat) (text:ByteArray) (vc:LVal):Nat->Prop where
 |uC {i:Nat} (hi:i<σ.length) (hk:σ[i].da=pj kind id l text) (fN:Grown s.nx s s'):Q5 s s' p q v σ kind id l text vc i
 |new {v':Value} {z b:Nat} (hn:∀e∈σ,e.da≠pj kind id l text) (ha:Ou s s' p q v) (h:TS s' p q v' (σ++ [⟨kind,id,l.getD 0 0,l.getD 1 0,l.getD 2 0,text,vc,l.length,z,b⟩])):Q5 s s' p q v σ kind id l text vc σ.length
def LZ (n:Nat) {σ:List cx} (hg:Good s) (h:TS s p q v σ) {kind:Nat} {id:Int} {text:ByteArray} {l:List Nat} {vc:LVal} (hl:l.length<=3) (gP:∀x∈l,x<σ.length) (hy:Sl s.nx s 3 1 y (ints l)) (F3:pN vc) (RK:(kind<=2∧l.length=0)∨(kind=3∧l.length=2)∨(kind=4∧l.length=3)) (RP:text.data.toList.length<=64) (aog:kind<=1->0<=id∧id<200) (Jd:kind=2->∃tag b num str,fZ tag b num str text.data.toList∧vc=cu tag b num str) (JN:kind≠2->vc=zeroV) (fR:σ.length<900000):
  cp (aE (n+2) (dJ 41) [a8 p,.agg ⟨ea kind id 0 0 0 text⟩,.agg ⟨vc⟩,y] s) (λr s'=>∃i,r=aw ((i:Nat):Int)∧Q5 s s' p q v σ kind id l text vc i):=by
 by_cases hh:∃i,∃hi:i<σ.length,σ[i].da=pj kind id l text
 ·obtain⟨i,hi,hk⟩:=hh;obtain⟨r,s',e1,e2,e3⟩:=aim (n+1) hg h hl hy F3 hi hk;exact⟨r,s',e1,i,e2,.uC hi hk e3⟩
 ·have lG:∀e∈σ,e.da≠pj kind id l text:= λe he hk=>by
   obtain⟨i,hi,rfl⟩:=List.mem_iff_getElem.1 he;exact hh ⟨i,hi,hk⟩
  obtain⟨r,s',e1,e2,e3,v',z,e4⟩:=aiu n hg h hl gP hy F3 RK RP aog Jd JN fR lG;exact⟨r,s',e1,_,e2,.new lG e3 e4⟩
def jL:Flat (.slice none 0 0):= λd hd=>by
 obtain⟨d,rfl⟩:∃e,d=e+1:=⟨d-1,by omega⟩
 rfl
def MA:pN zeroV:=⟨rfl,rfl,λv hv=>by
 simp only[zeroV,bu,aX,db]at hv;rcases hv with rfl|rfl|rfl|rfl|rfl|rfl|rfl
 ·exact gk _ _
 ·exact q8 _
 ·exact rL _
 ·exact rL _
 ·exact jL
 ·exact jL
 ·exact gk _ _⟩
def D5:ir prog 90=true:=by kernel_rfl
def D6:qB prog 90=some (ea 0 0 0 0 0 ⟨⟨[]⟩⟩):=by kernel_rfl
def yI:dB prog 90 0=some (0,1):=by kernel_rfl
def Qm:dB prog 90 1=some (1,1):=by kernel_rfl
def Qn:dB prog 90 3=some (5,1):=by kernel_rfl
def u5:ir prog 33=true:=by kernel_rfl
def u6:qB prog 33=some zeroV:=by kernel_rfl
def B3:cA prog 33 [] []=some (.agg ⟨zeroV⟩):=fD u5 u6 rfl
def Tz (kind id:Int):cA prog 90 [0,1] [aw kind,aw id]=some (.agg ⟨[aw kind,aw id,aw 0,aw 0,aw 0,.string ⟨⟨[]⟩⟩]⟩):=by refine fD D5 D6 ?_;show jq (dB prog 90) [(0,aw kind),(1,aw id)] _=_;rw[eV yI rfl (by simp[ea]),eV Qm rfl (by simp[ea,Value.cells]),jV];rfl
def KG (kind:Int):cA prog 90 [0] [aw kind]=some (.agg ⟨[aw kind,aw 0,aw 0,aw 0,aw 0,.string ⟨⟨[]⟩⟩]⟩):=by refine fD D5 D6 ?_;show jq (dB prog 90) [(0,aw kind)] _=_;rw[eV yI rfl (by simp[ea]),jV];rfl
def TA (kind:Int) (t:ByteArray):cA prog 90 [0,3] [aw kind,.string t]=some (.agg ⟨[aw kind,aw 0,aw 0,aw 0,aw 0,.string t]⟩):=by refine fD D5 D6 ?_;show jq (dB prog 90) [(0,aw kind),(3,.string t)] _=_;rw[eV yI rfl (by simp[ea]),eV Qn rfl (by simp[ea,Value.cells]),jV];rfl
def asR (n:Nat) {σ:List cx} (hg:Good s) (h:TS s p q v σ) (id:Int) (hid:0<=id∧id<200) (fR:σ.length<900000):
  cp (aE (n+3) (dJ 14) [a8 p,aw id] s) (λr s'=>∃i,r=aw ((i:Nat):Int)∧Q5 s s' p q v σ 0 id [] ⟨⟨[]⟩⟩ zeroV i):=by
 rw[aJC];refine bG (by simp) λm hm=>?_;have h0:m.get 0=some (a8 p):=by rw[hm];rfl
 have h1:m.get 1=some (aw id):=by rw[hm];rfl
 clear hm;obtain⟨r,s',e1,i,rfl,e3⟩:=LZ n hg h (kind:=0) (id:=id) (text:=⟨⟨[]⟩⟩) (l:= []) (vc:=zeroV) (by simp) (by simp) (Sl.nil (n:=s.nx) (s:=s) (et:=3) (sz:=1)) MA (by simp) (by simp) (λ_=>hid) (λh=>absurd h (by decide)) (λ_=>rfl) fR;unfold c14;apply aJ;simp+decide only[ag];apply dh;apply ar;simp+decide only[ag,h0,oW,ja];refine dD (by simp+decide only[ag]) ?_;apply aJ;simp only[ea,aW]at e1;simp+decide only[ag,h0,h1,Tz,B3,e1];exact aR (b6 (.inr rfl) (by simp+decide only[ag]) ⟨i,rfl,e3⟩)
def fm:fu prog 38=some 3:=by kernel_rfl
def fX:dW prog 3=some (1,[aw 0]):=by kernel_rfl
def adx {l:List Nat} (h:ints l= []):l= []:=by cases l with|nil=>rfl|cons=>cases h
def Yb (n:Nat) (s:AS) (v:Value) (l:List Nat) (hg:Good s) (hv:Reads s.nx s 1 v (ints l)) (hl:l.length<=900000):
  cp (aE (n+1) (dJ 39) [v] s) (λv' s'=>Grown s.nx s s'∧Sl s'.nx s' 3 1 v' (ints l)∧(l= []∨∃b,Own s.nx s' 3 1 v' (ints l) (some b))):=by
 rw[aJH];refine bG (by simp) λm hm=>?_;have h0:m.get 0=some v:=by rw[hm];rfl
 clear hm;unfold c39;apply aJ;simp+decide only[ag];apply dh;apply ar;simp+decide only[ag,h0,hv.akM];refine cK (vR v) (by simp+decide only[ag]) ?_;cases hn:vR v
 ·simp+decide only[ag];apply aR;apply aJ;have Vj:=apN (t:=38) hg fm fX;have dv:=fW hg (.cells (rowOf []) 1 0 false 3);have ho:Own s.nx (s.row 3 1 []) 3 1 (.slice (some ⟨s.nx,0,none⟩) 0 (bH 0)) [] (some s.nx):= .ex (R:= []) (af _) (bE.new hg 3 1 []);have rV:Reads s.nx (s.row 3 1 []) 1 v (ints l):=hv.ext λj hj=>vQ hg _ _ _ hj;have fN:Grown s.nx s (s.row 3 1 []):=(Grown.refl hg _).row (af _) _ _ _;cases l with
  |nil=>have ha:=adn (et:=3) (b:=s.nx) (show Reads s.nx (s.row 3 1 []) 1 v []from rV) (bH 0);simp+decide only[ag,h0,Vj,ha];exact aR (b6 (.inr rfl) (by simp+decide only[ag]) ⟨fN,(Own.sl dv (by decide) ho).le (af _),.inl (by simp)⟩)
  |cons x l=>have ha:=FR ho rV dv (by decide) (by decide) (λr h=>by cases h) (kN _) (O4 _) (by rw[dE];simp at hl⊢;omega) (by rw[dE];simp);have hd:cW (s.row 3 1 []) (.slice (some ⟨s.nx,0,none⟩) 0 (bH 0))=s.row 3 1 []:=rfl;rw[hd,jD]at ha;simp+decide only[ag,h0,Vj,ha];have N2:Own s.nx ((s.row 3 1 []).row 3 1 (ints (x::l))) 3 1 (.slice (some ⟨(s.row 3 1 []).nx,0,none⟩) (ints (x::l)).length (cq (ints (x::l)).length 1)) (ints (x::l)) (some (s.row 3 1 []).nx):= .lb (by rw[tN];omega) (bE.new dv 3 1 _);exact aR (b6 (.inr rfl) (by simp+decide only[ag]) ⟨fN.row (by rw[tN];omega) _ _ _,(Own.sl (fW dv _) (by decide) N2).le (af _),.inr ⟨_,N2⟩⟩)
 ·obtain⟨rfl,I5⟩:=hv.nil hn;have NZ:=adx I5;subst NZ;simp+decide only[ag];apply aJ;simp+decide only[ag];exact aR (b6 (.inr rfl) (by simp+decide only[ag]) ⟨Grown.refl hg _,.nil,.inl (by simp)⟩)
def KH (n:Nat) (s:AS) (v:Value) (l:List Nat) (hg:Good s) (hv:Sl s.nx s 3 1 v (ints l)) (hl:l.length<=900000):
  cp (aE (n+1) (dJ 39) [v] s) (λv' s'=>Grown s.nx s s'∧Sl s'.nx s' 3 1 v' (ints l)∧(l= []∨∃b,Own s.nx s' 3 1 v' (ints l) (some b))):=Yb n s v l hg (hv.rd (by decide)) hl
def Pd (n:Nat) {σ:List cx} (hg:Good s) (h:TS s p q v σ) {l:List Nat} (hy:Sl s.nx s 3 1 y (ints l)) (hl:l.length<=3) (gP:∀x∈l,x<σ.length):
  cp (aE (n+2) (dJ 71) [a8 p,y] s) (λr s'=>Grown s.nx s s'∧Sl s'.nx s' 3 1 r (ints l)):=by
 rw[aJD];refine bG (by simp) λm hm=>?_;have h0:m.get 0=some (a8 p):=by rw[hm];rfl
 have h1:m.get 1=some y:=by rw[hm];rfl
 clear hm;obtain⟨r0,s0,e1,er,es⟩:=SM n hg h;rw[er,es]at e1;obtain⟨w,s1,e2,fN,hw,_⟩:=KH n s y l hg hy (by omega);have mi:=hw.len;rw[dE]at mi;unfold c71;apply aJ;simp+decide only[ag];apply aJ;simp+decide only[ag,h0,e1];apply aJ;simp+decide only[ag,h1,e2];apply dh;apply ar;simp+decide only[ag,mi];refine bY (eW (λm s'=>s'=s1∧∃j:Nat,j<=l.length∧m.get 5=some (aw (σ.length:Int))∧m.get 6=some w∧m.get 13=some w∧m.get 14=some (aw (l.length:Int))∧m.get 15=some (aw (j:Int)))
  (λm _=>match m.get 15 with|some (.int _ j)=>(3-j).toNat|_=>0) ?_ ?_ ?_)
 ·exact⟨rfl,0,by omega,by simp+decide only[ag],by simp+decide only[ag],by simp+decide only[ag],by simp+decide only[ag],by simp+decide only[ag,aW]⟩
 ·simp+decide only[ag]
 rintro m s' ⟨rfl,j,hj,g5,g6,g13,g14,g15⟩;apply aJ;by_cases cS:j<l.length
 ·have hd:decide ((j:Int)<(l.length:Int))=true:=aL (by omega);simp+decide only[ag,g14,g15,hd];refine aT (cK true (by simp+decide only[ag]) ?_);simp+decide only[ag];apply aR;simp+decide only[ag];have Az:j<(ints l).length:=by rw[dE];exact cS
  have F1:=hw.ld bM Az (gJ cS);rw[cO]at F1;have hx:=gP l[j] (aV cS);have d1:decide ((l[j]:Int)<0)=false:=az (by omega);have d2:decide ((σ.length:Int)<=(l[j]:Int))=false:=az (by omega);apply kK;apply aJ;simp+decide only[ag,g13,g15,hw.ix Az,F1];apply aJ;simp+decide only[ag,g5,d1,d2];refine dD (by simp+decide only[ag]) ?_;apply ar;have JK:IntKind.i64.wrap ((j:Int)+1)=((j+1:Nat):Int):=by rw[wrap_i64 (by omega)];omega
  simp+decide only[ag,g15,JK];exact⟨⟨j+1,by omega,by simp+decide only[ag,g5],by simp+decide only[ag,g6],by simp+decide only[ag,g13],by simp+decide only[ag,g14],by simp+decide only[ag]⟩,by omega⟩
 ·have hd:decide ((j:Int)<(l.length:Int))=false:=az (by omega);simp+decide only[ag,g14,g15,hd];refine aT (cK false (by simp+decide only[ag]) ?_);simp+decide only[ag];apply aR;apply aJ;simp+decide only[ag,g6];exact aR (b6 (.inr rfl) (by simp+decide only[ag]) ⟨fN,hw⟩)
def Q5.before {s2:AS} {σ:List cx} {kind:Nat} {id:Int} {l:List Nat} {text:ByteArray} {vc:LVal} (fN:Grown s.nx s s2) (h:Q5 s2 s' p q v σ kind id l text vc i):Q5 s s' p q v σ kind id l text vc i:=by
 cases h with
 |uC hi hk hg=>exact .uC hi hk (fN.trans (hg.le fN.nx))
 |new hn ha h=>exact .new hn ⟨ha.1,di fN.nx ha.2.1,λj hj h1 h2 h3=>(ha.2.2 j (bC hj fN.nx) h1 h2 h3).trans (fN.eb j hj)⟩ h
def asS (n:Nat) {σ:List cx} (hg:Good s) (h:TS s p q v σ) (ha:a<σ.length) (hb:b<σ.length) (fR:σ.length<900000):
  cp (aE (n+3) (dJ 24) [a8 p,aw (a:Int),aw (b:Int)] s) (λr s'=>∃t,r=aw ((t:Nat):Int)∧Q5 s s' p q v σ 3 0 [a,b] ⟨⟨[]⟩⟩ zeroV t):=by
 rw[aJE];refine bG (by simp) λm hm=>?_;have h0:m.get 0=some (a8 p):=by rw[hm];rfl
 have h1:m.get 1=some (aw (a:Int)):=by rw[hm];rfl
 have h2:m.get 2=some (aw (b:Int)):=by rw[hm];rfl
 clear hm;have wV:=vG (t:=38) (v:=aw (a:Int)) (u:=aw (b:Int)) hg fm fX rfl rfl;obtain⟨s1,dm⟩:=dO (s.row 3 1 [[aw (a:Int)],[aw (b:Int)]]);rw[<-dm]at wV;have dv:=cz dm hg;have gz:Grown s.nx s s1:=by rw[dm];exact(Grown.refl hg _).row (af _) _ _ _
 have Rs:=h.ext hg gz.eb;have I9:Sl s1.nx s1 3 1 (.slice (some ⟨s.nx,0,none⟩) 2 (bH 2)) (ints [a,b]):=by
  have hr:=bE.new hg 3 1 (ints [a,b]);have hr:bE s1 s.nx 3 1 false (ints [a,b]):=by rw[dm];exact hr
  exact Sl.full (hr.lt dv) hr (by rw[(cR 2).1];exact af 2) (.inl (cR 2).2)
 have gP:∀x∈ [a,b],x<σ.length:=by simp[ha,hb]
 obtain⟨w,s2,e2,ic,hw⟩:=Pd n dv Rs I9 (by simp) gP;have aoj:=Rs.ext dv ic.eb;obtain⟨r,s',e1,t,rfl,e3⟩:=LZ n ic.bt aoj (kind:=3) (id:=0) (text:=⟨⟨[]⟩⟩) (l:= [a,b]) (vc:=zeroV) (by simp) gP hw MA (by simp) (by simp) (λh=>absurd h (by decide)) (λh=>absurd h (by decide)) (λ_=>rfl) fR;have fN:Grown s.nx s s2:=gz.trans (ic.le gz.nx);unfold c24;apply aJ;simp+decide only[ag];apply dh;apply ar;simp+decide only[ag,h0,oW,ja];refine dD (by simp+decide only[ag]) ?_;apply aJ;simp only[ea,aW,gO]at e1;simp+decide only[ag,h0,h1,h2,KG,B3,wV,e2,e1];exact aR (b6 (.inr rfl) (by simp+decide only[ag]) ⟨t,rfl,e3.before fN⟩)
def asT (n:Nat) {σ:List cx} (hg:Good s) (h:TS s p q v σ) {c:Nat} (ha:a<σ.length) (hb:b<σ.length) (hc:c<σ.length) (fR:σ.length<900000):
  cp (aE (n+3) (dJ 25) [a8 p,aw (a:Int),aw (b:Int),aw (c:Int)] s) (λr s'=>∃t,r=aw ((t:Nat):Int)∧Q5 s s' p q v σ 4 0 [a,b,c] ⟨⟨[]⟩⟩ zeroV t):=by
 rw[aJF];refine bG (by simp) λm hm=>?_;have h0:m.get 0=some (a8 p):=by rw[hm];rfl
 have h1:m.get 1=some (aw (a:Int)):=by rw[hm];rfl
 have h2:m.get 2=some (aw (b:Int)):=by rw[hm];rfl
 have h3:m.get 3=some (aw (c:Int)):=by rw[hm];rfl
 clear hm;have wV:=abQ (t:=38) (v:=aw (a:Int)) (u:=aw (b:Int)) (w:=aw (c:Int)) hg fm fX rfl rfl rfl;obtain⟨s1,dm⟩:=dO (s.row 3 1 [[aw (a:Int)],[aw (b:Int)],[aw (c:Int)]]);rw[<-dm]at wV;have dv:=cz dm hg;have gz:Grown s.nx s s1:=by rw[dm];exact(Grown.refl hg _).row (af _) _ _ _
 have Rs:=h.ext hg gz.eb;have I9:Sl s1.nx s1 3 1 (.slice (some ⟨s.nx,0,none⟩) 3 (bH 3)) (ints [a,b,c]):=by
  have hr:=bE.new hg 3 1 (ints [a,b,c]);have hr:bE s1 s.nx 3 1 false (ints [a,b,c]):=by rw[dm];exact hr
  exact Sl.full (hr.lt dv) hr (by rw[(cR 3).1];exact af 3) (.inl (cR 3).2)
 have gP:∀x∈ [a,b,c],x<σ.length:=by simp[ha,hb,hc]
 obtain⟨w,s2,e2,ic,hw⟩:=Pd n dv Rs I9 (by simp) gP;have aoj:=Rs.ext dv ic.eb;obtain⟨r,s',e1,t,rfl,e3⟩:=LZ n ic.bt aoj (kind:=4) (id:=0) (text:=⟨⟨[]⟩⟩) (l:= [a,b,c]) (vc:=zeroV) (by simp) gP hw MA (by simp) (by simp) (λh=>absurd h (by decide)) (λh=>absurd h (by decide)) (λ_=>rfl) fR;have fN:Grown s.nx s s2:=gz.trans (ic.le gz.nx);unfold c25;apply aJ;simp+decide only[ag];apply dh;apply ar;simp+decide only[ag,h0,oW,ja];refine dD (by simp+decide only[ag]) ?_;apply aJ;simp only[ea,aW,gO]at e1;simp+decide only[ag,h0,h1,h2,h3,KG,B3,wV,e2,e1];exact aR (b6 (.inr rfl) (by simp+decide only[ag]) ⟨t,rfl,e3.before fN⟩)
def Pe (tag:Nat) (b:Bool) (num str:List UInt8):pN (cu tag b num str):=⟨rfl,rfl,λv hv=>by
 simp only[cu,bu,aX,db]at hv;rcases hv with rfl|rfl|rfl|rfl|rfl|rfl|rfl
 ·exact gk _ _
 ·exact q8 _
 ·exact rL _
 ·exact rL _
 ·exact jL
 ·exact jL
 ·exact gk _ _⟩
def Pf (n:Nat) {σ:List cx} (hg:Good s) (h:TS s p q v σ) {tag:Nat} {b:Bool} {num str text:List UInt8} (hc:fZ tag b num str text) (fR:σ.length<900000):
  cp (aE (n+3) (dJ 17) [a8 p,.agg ⟨cu tag b num str⟩] s) (λr s'=>∃t,r=aw ((t:Nat):Int)∧Q5 s s' p q v σ 2 0 [] ⟨⟨text⟩⟩ (cu tag b num str) t):=by
 rw[aJG];refine bG (by simp) λm hm=>?_;have h0:m.get 0=some (a8 p):=by rw[hm];rfl
 have h1:m.get 1=some (.agg ⟨cu tag b num str⟩):=by rw[hm];rfl
 clear hm;obtain⟨s1,dm⟩:=dO (s.add (ca 33 (cu tag b num str)));have dv:=cz dm hg;have fN:=cM dm hg;have rV:=jS dm hg;have Rs:=h.ext hg fN.eb;obtain⟨r,s',e1,t,rfl,e3⟩:=LZ n dv Rs (kind:=2) (id:=0) (text:=⟨⟨text⟩⟩) (l:= []) (vc:=cu tag b num str) (by simp) (by simp) (Sl.nil (n:=s1.nx) (s:=s1) (et:=3) (sz:=1)) (Pe _ _ _ _) (by simp) hc.len (λh=>absurd h (by decide)) (λ_=>⟨tag,b,num,str,hc,rfl⟩) (λh=>absurd rfl h) fR;have Aa:=rV.eA oY oZ (o:=0) (by simp[cu]) (by decide);rw[bK,aP (by simp[cu])]at Aa;have Ah:=rV.ld bM (o:=0) (by simp[cu]);have JZ:=rV.ld YG (o:=4) (by simp[cu]);simp only[cu,ae,aZ]at Ah JZ;have IU:dH [.slice none 0 0]=some (aw 0):=rfl;have d5:decide ((tag:Int)=5)=false:=az (by have:=hc.lt;omega);have d0:decide ((0:Int)<0)=false:=by decide
 have Ew:=cB (gj (Pe tag b num str).2.2);unfold c17;apply aJ;simp+decide only[ag,h1,ez hg,<-dm];apply dh;apply ar;simp+decide only[ag,h0,oW,ja];refine dD (by simp+decide only[ag]) ?_;apply dh;apply ar;simp+decide only[ag,Aa,hc.right,bO,aG,Ah,JZ,d5,d0,IU];refine dD (by simp+decide only[ag]) ?_;apply lV;simp only[ea,aW,gO]at e1;simp+decide only[ag,h0,Aa,hc.text,TA,e1,Ew];exact aR (b6 (.inr rfl) (by simp+decide only[ag]) ⟨t,rfl,e3.before fN⟩)
def ace {cs:LVal} (h:k<cs.length):WG k (.agg ⟨cs⟩)=some cs[k]:=by show ob (nQ k cs) Gv=_;rw[yh (by omega),cg,A3 h];rfl
def acf {cs:LVal} (h:k+j<=cs.length):an0 k j (.agg ⟨cs⟩)=some (.agg ⟨(cs.drop k).take j⟩):=by show ob (nQ k cs) (λl=>ob (ov j l) λr=>some (Value.agg ⟨r⟩))=_;rw[yh (by omega),cg,Cl (by simp;omega),cg]
def vU (n:Nat) {σ:List cx} (hg:Good s) (h:TS s p q v σ) (ht:t<σ.length):
  cp (aE (n+2) (dJ 34) [a8 p,aw (t:Int)] s) (λr s'=>r=aw (σ[t].kind:Int)∧Grown s.nx s s'):=by
 rw[aJB];refine bG (by simp) λm hm=>?_;have h0:m.get 0=some (a8 p):=by rw[hm];rfl
 have h1:m.get 1=some (aw (t:Int)):=by rw[hm];rfl
 clear hm;obtain⟨r,s',e1,rfl,fN⟩:=UP n hg h ht;have hl:=σ[t].dT (h.ua _ (aV ht));have hf:=acf (k:=0) (j:=6) (cs:=σ[t].row) (by omega);have hk:((σ[t].row).drop 0).take 6=σ[t].da:=rfl;rw[hk]at hf;have Xm:WG 0 (.agg ⟨σ[t].da⟩)=some (aw (σ[t].kind:Int)):=rfl;unfold c34;apply aJ;simp+decide only[ag];apply aJ;simp+decide only[ag,h0,h1,e1,hf,Xm];exact aR (b6 (.inr rfl) (by simp+decide only[ag]) ⟨rfl,fN⟩)
def V5 (n:Nat) {σ:List cx} (hg:Good s) (h:TS s p q v σ) (ht:t<σ.length):
  cp (aE (n+2) (dJ 81) [a8 p,aw (t:Int)] s) (λr s'=>r=aw (σ[t].size:Int)∧Grown s.nx s s'):=by
 rw[aJI];refine bG (by simp) λm hm=>?_;have h0:m.get 0=some (a8 p):=by rw[hm];rfl
 have h1:m.get 1=some (aw (t:Int)):=by rw[hm];rfl
 clear hm;obtain⟨r,s',e1,rfl,fN⟩:=UP n hg h ht;have eH:=h.ua _ (aV ht);have hl:=σ[t].dT eH;have hf:=ace (k:=14) (cs:=σ[t].row) (by omega);rw[σ[t].abd eH]at hf;unfold c81;apply aJ;simp+decide only[ag];apply aJ;simp+decide only[ag,h0,h1,e1,hf];exact aR (b6 (.inr rfl) (by simp+decide only[ag]) ⟨rfl,fN⟩)
def T4:isAgg prog 162=some false:=by kernel_rfl
def wE:isAgg prog 22=some false:=by kernel_rfl
def Ie:dc prog 164=some 2:=by kernel_rfl
def Cz:dc prog 5=some 1:=by kernel_rfl
def T5:sj prog #[22] 0=some (.slice 5):=by kernel_rfl
def T6:sj prog #[222,3] 0=some (.pointer 5):=by kernel_rfl
def Ig:prog.underlying 22=some (.slice 5):=by kernel_rfl
def T7 (n:Nat) (v:Value) (s:AS):aE (n+1) (dJ 219) [v] s= .val v s:=
 DH (e:= .same) (fn:=Tryz.f219) (by kernel_rfl) (by kernel_rfl) func219 (by kernel_rfl) (by kernel_rfl) [v] s
def T8 (n:Nat) (args:LVal) (s:AS):aE (n+1) (dJ 271) args s=lM (IS s (.makeNoZero 5) args):=
 DH (e:= .makeNoZero 5) (fn:=Tryz.f271) (by kernel_rfl) (by kernel_rfl) func271 (by kernel_rfl) (by kernel_rfl) args s
structure N8 (n:Nat) (s:AS) (b:Nat) (a:Value) (l:List UInt8) (o:Option Nat):Prop where
 lo:n<=b
 ad:a= .pointer none∨a=a8 b
 buf:∃v,ay s b 164 [a,v]∧Dp n s v l o
 ne:o≠some b
def CU (n:Nat) {a:Value} {l:List UInt8} (hg:Good s) (h:N8 k s b a l o):
  cp (aE (n+2) (dJ 177) [a8 b] s) (λr s'=>r= .tuple #[]∧N8 k s' b (a8 b) l o∧Good s'∧s'.nx=s.nx∧∀j,j≠b->s'.h.get j=s.h.get j):=by
 rw[aAt];refine bG (by simp) λm hm=>?_;have h0:m.get 0=some (a8 b):=by rw[hm];rfl
 clear hm;obtain⟨v,hv,hb⟩:=h.buf;have cS:=hv.lt hg;have l0:=hv.ld T4 (o:=0) (by simp);simp only[ae]at l0;unfold awR;apply aJ;rcases h.ad with rfl|rfl
 ·simp+decide only[ag,h0,cH,bO,l0,ag1];refine iP (by simp+decide only[ag]) ?_;have Io:=O7 hv (P:=prog) (back:=false) Ie (by simp);have Dj:=O7 hv (P:=prog) (back:=true) Ie (by simp);have hs:=hv.Fu hg (o:=0) (v:=a8 b) (by simp) rfl rfl;apply ar;simp+decide only[ag,h0,Io,Dj,T7,cH,bO,hs];refine mZ (.inl rfl) ⟨rfl,⟨h.lo,.inr rfl,⟨v,?_,hb.ext λj hj=>?_⟩,h.ne⟩,bZ hg cS _,rfl,λj hj=>by rw[cj hg cS,aC hj]⟩
  ·have:=ay.set hg cS 164 ([Value.pointer none,v].set 0 (a8 b));simpa using this
  ·rw[cj hg cS,aC];rintro rfl;exact h.ne hj
 ·simp+decide only[ag,h0,cH,bO,l0,lz];refine nN (by simp+decide only[ag]) ?_;apply aJ;simp+decide only[ag,h0,cH,bO,l0,apV];refine nN (by simp+decide only[ag]) ?_;exact aR (mZ (.inl rfl) ⟨rfl,h,hg,rfl,λ_ _=>rfl⟩)
def BFr (s s':AS) (b:Nat) (o:Option Nat):Prop:=s.nx<=s'.nx∧∀j,j<s.nx->j≠b->some j≠o->s'.h.get j=s.h.get j
def Dp.cells {n:Nat} {s:AS} {v:Value} {l:List UInt8} {o:Option Nat} (h:Dp n s v l o):v.cells= #[v]∧dZ v=true:=by cases h<;>exact⟨rfl,rfl⟩
def Cr (n:Nat) {a:Value} {l:List UInt8} (hg:Good s) (hk:k<=s.nx) (h:N8 k s b a l o) (t:List UInt8) (ht:l.length+t.length<=1000000):
  cp (aE (n+3) (dJ 115) [a8 b,.string ⟨⟨t⟩⟩] s) (λr s'=>∃o',N8 k s' b (a8 b) (l++t) o'∧Good s'∧BFr s s' b o∧(∀c,o'=some c->o=some c∨s.nx<=c)):=by
 rw[aAu];refine bG (by simp) λm hm=>?_;have h0:m.get 0=some (a8 b):=by rw[hm];rfl
 have h1:m.get 1=some (.string ⟨⟨t⟩⟩):=by rw[hm];rfl
 clear hm;obtain⟨r,s1,e1,rfl,b1,g1,n1,f1⟩:=CU n hg h;obtain⟨v,hv,hb⟩:=b1.buf;have cS:=hv.lt g1;have l1:=hv.ld wE (o:=1) (by simp);simp only[ae,aZ]at l1;obtain⟨v',s2,o',e2,wV,g2,n2,f2,hn⟩:=hb.append g1 (by omega) t ht;have ed:some b≠o:= λe=>h.ne e.symm;have oo:ay s2 b 164 [a8 b,v]:=hv.eq (f2 b cS ed);have nM:=oo.lt g2;have hs:=oo.Fu g2 (o:=1) (v:=v') (by simp) wV.cells.1 wV.cells.2;have Ly:=Mv t;unfold awS;apply aJ;simp+decide only[ag];apply aJ;simp+decide only[ag,h0,e1];apply aJ;simp+decide only[ag,h0,h1,cH,bO,l1,e2,hs];apply aJ;simp+decide only[ag,h1,Ly];have iR:∀c,o'=some c->c≠b:= λc hc e=>by
  rcases hn c hc with h'|h'
  ·exact h.ne (by rw[h',e])
  ·omega
 refine aR (Dg (v:=aw (t.length:Int)) (w:= .nilIface) (.inr rfl) (by simp+decide only[ag]) (by simp+decide only[ag]) ⟨o',⟨h.lo,.inr rfl,⟨v',?_,wV.ext λc hc=>by rw[cj g2 nM,aC (iR c hc)]⟩,λe=>iR b e rfl⟩,bZ g2 nM _,⟨by rw[rz];omega,λj hj hjb hjo=>?_⟩,λc hc=>by rw[<-n1];exact hn c hc⟩)
 ·have:=ay.set g2 nM 164 ([Value.pointer (some ⟨b,0,none⟩),v].set 1 v');simpa using this
 ·rw[cj g2 nM,aC hjb,f2 j (by omega) hjo,f1 j hjb]
def KI (n:Nat) {a:Value} {l:List UInt8} (hg:Good s) (h:N8 k s b a l o) (hl:l.length<1000000):
  cp (aE (n+1) (dJ 117) [a8 b] s) (λr s'=>r= .string ⟨⟨l⟩⟩∧Good s'∧s'.nx=s.nx∧∀j,some j≠o->s'.h.get j=s.h.get j):=by
 rw[aAv];refine bG (by simp) λm hm=>?_;have h0:m.get 0=some (a8 b):=by rw[hm];rfl
 clear hm;obtain⟨v,hv,hb⟩:=h.buf;have l1:=hv.ld wE (o:=1) (by simp);simp only[ae,aZ]at l1;have hd:=hb.data;have mi:=hb.dH;have N9:=cB hb.same;obtain⟨s',e,aDy⟩:=hb.str (P:=prog) hg T6 Cz hl;unfold awT;apply aJ;simp+decide only[ag];apply lV;simp+decide only[ag,h0,cH,bO,l1,hd,mi,N9,e];exact aR (b6 (.inr rfl) (by simp+decide only[ag]) ⟨rfl,aDy⟩)
def aiv (n:Nat) {a:Value} (hg:Good s) (hk:k<=s.nx) (h:N8 k s b a [] none) (q:Nat) (hq:q<=1000000) (hv0:ay s b 164 [a,.slice none 0 0]):
  cp (aE (n+3) (dJ 191) [a8 b,aw (q:Int)] s) (λr s'=>r= .tuple #[]∧∃o',N8 k s' b (a8 b) [] o'∧Good s'∧BFr s s' b none∧(∀c,o'=some c->s.nx<=c)):=by
 rw[aAr];refine bG (by simp) λm hm=>?_;have h0:m.get 0=some (a8 b):=by rw[hm];rfl
 have h1:m.get 1=some (aw (q:Int)):=by rw[hm];rfl
 clear hm;obtain⟨r,s1,e1,rfl,b1,g1,n1,f1⟩:=CU n hg h;obtain⟨v,hv,hb⟩:=b1.buf;cases hb;have cS:=hv.lt g1;have l1:=hv.ld wE (o:=1) (by simp);simp only[ae,aZ]at l1;have hc:=adm T5;have Ly:dH [.slice none 0 0]=some (aw 0):=rfl;have w0:IntKind.i64.wrap (0-0)=0:=by decide
 have d1:decide ((q:Int)<0)=false:=az (by omega);have N9:=cB AT;unfold awP;apply aJ;simp+decide only[ag,h0,e1];apply dh;apply ar;simp+decide only[ag,h1,d1];refine dD (by simp+decide only[ag]) ?_;apply lV;simp+decide only[ag,h0,h1,cH,bO,l1,hc,Ly,w0,N9];refine cK (decide ((0:Int)<q)) (by simp+decide only[ag]) ?_;by_cases hq0:q=0
 ·subst hq0;rw[show decide ((0:Int)<((0:Nat):Int))=false from by decide];simp+decide only[ag];exact aR (mZ (.inl rfl) ⟨rfl,none,b1,g1,⟨ayG n1.symm,λj _ hj _=>f1 j hj⟩,λc hc=>by cases hc⟩)
 ·rw[show decide ((0:Int)<(q:Int))=true from aL (by omega)];simp+decide only[ag];have aDz:cp (aE (n+2) (dJ 234) [a8 b,aw (q:Int)] s1) (λr s'=>r= .tuple #[]∧∃o',N8 k s' b (a8 b) [] o'∧Good s'∧BFr s1 s' b none∧(∀c,o'=some c->s1.nx<=c)):=by
   rw[aAs];refine bG (by simp) λm hm=>?_;have h0:m.get 0=some (a8 b):=by rw[hm];rfl
   have h1:m.get 1=some (aw (q:Int)):=by rw[hm];rfl
   clear hm;have w1:IntKind.i64.wrap (2*0)=0:=by decide
   have w2:IntKind.i64.wrap (0+(q:Int))=(q:Int):=by rw[Int.zero_add];exact wrap_i64 (by omega)
   have hm:=ag0 g1 hq;obtain⟨s2,ee⟩:=dO (s1.row 5 1 (List.replicate q [.complex .f32 0 0]));have g2:=cz ee g1;have n2:s2.nx=s1.nx+1:=by rw[ee];rfl
   have hR:bE s2 s1.nx 5 1 false (List.replicate q [.complex .f32 0 0]):=by rw[ee];exact bE.new g1 5 1 _
   have f2:∀j,j<s1.nx->s2.h.get j=s1.h.get j:= λj hj=>by rw[ee];exact vQ g1 _ _ _ hj
   have oo:ay s2 b 164 [a8 b,.slice none 0 0]:=hv.eq (f2 b cS);have l2:=oo.ld wE (o:=1) (by simp);simp only[ae,aZ]at l2;have hE:aE (n+1) (dJ 271) [aw (q:Int)] s1= .val (.slice (some ⟨s1.nx,0,none⟩) q (cq q 1)) s2:=by rw[T8,hm,ee];rfl
   obtain⟨c1,c2,c3⟩:=j1 q 1 (by decide);have qh:tC prog (prog.underlying 22) (.slice (some ⟨s1.nx,0,none⟩) q (cq q 1)) none (some (aw 0)) none=some (.slice (some ⟨s1.nx,0,none⟩) 0 (cq q 1)):=by
    rw[DG Ig Cz];show ob (some 0) (λl=>ob (some 0) λh=>aD (mM l h (cq q 1/512)) (aD (Nat.beq (cq q 1%2) 1) (mkSlice ⟨s1.nx,0,none⟩ (Nat.add 0 (Nat.mul l 1)) (Nat.sub h l) (bH (Nat.sub (cq q 1/512) l)))
       (aD (Nat.beq (oz (cq q 1)) 1) (mkSlice ⟨s1.nx,0,none⟩ (Nat.add 0 (Nat.mul l 1)) (Nat.sub h l) (cq (Nat.sub (cq q 1/512) l) 1)) none)) none)=_
    rw[c1,c2,c3];rfl
   have hcp:xH prog #[22,22] s2 [.slice (some ⟨s1.nx,0,none⟩) 0 (cq q 1),.slice none 0 0]=some (aw 0,s2):=by show ob (tD prog #[22,22]) _=_;rw[show tD prog #[22,22]=some 5 from by kernel_rfl,cg,Cz];rfl
   have nM:=oo.lt g2;have hs:=oo.Fu g2 (o:=1) (v:= .slice (some ⟨s1.nx,0,none⟩) 0 (cq q 1)) (by simp) rfl rfl;unfold awQ;apply lV;simp+decide only[ag,h0,h1,cH,bO,l1,l2,hc,Ly,w1,w2,hE,qh,N9];apply aJ;simp+decide only[ag,h0,cH,bO,l2,hcp];apply ar;simp+decide only[ag,h0,cH,bO,hs];refine mZ (.inl rfl) ⟨rfl,some s1.nx,⟨h.lo,.inr rfl,⟨.slice (some ⟨s1.nx,0,none⟩) 0 (cq q 1),?_,?_⟩,λe=>by injection e with e;omega⟩,bZ g2 nM _,⟨by rw[rz];omega,λj hj hjb _=>by rw[cj g2 nM,aC hjb,f2 j hj]⟩,λc hc=>by injection hc with hc;omega⟩
   ·have:=ay.set g2 nM 164 ([Value.pointer (some ⟨b,0,none⟩),Value.slice none 0 0].set 1 (.slice (some ⟨s1.nx,0,none⟩) 0 (cq q 1)));simpa using this
   ·have Dn:bE (s2.wr b (some (ca 164 (List.set [Value.pointer (some ⟨b,0,none⟩),Value.slice none 0 0] 1 (.slice (some ⟨s1.nx,0,none⟩) 0 (cq q 1)))))) s1.nx 5 1 false (List.replicate q [.complex .f32 0 0]):=hR.ext (by rw[cj g2 nM,aC (by omega)]);have:=Dp.mk (n:=k) (l:= []) (by omega) Dn (λr hr=>by rw[apo hr];rfl) (by simp) (by simp;omega) rfl;simpa using this
  obtain⟨r,s2,e2,rfl,o',b2,g2,⟨fr1,fr2⟩,ho⟩:=aDz;apply ar;simp+decide only[ag,h0,h1,e2];exact mZ (.inl rfl) ⟨rfl,o',b2,g2,⟨by omega,λj hj hjb hjo=>by rw[fr2 j (by omega) hjb hjo,f1 j hjb]⟩,λc hc=>by rw[<-n1];exact ho c hc⟩
def j3:isAgg prog 9=some false:=by kernel_rfl
def PI:dc prog 9=some 1:=by kernel_rfl
def YL:prog.underlying 30=some (.slice 9):=by kernel_rfl
def strs (L:List (List UInt8)):List LVal:=L.map λt=> [.string ⟨⟨t⟩⟩]
def gK (L:List (List UInt8)):(strs L).length=L.length:=by unfold strs;simp
def uQ {L:List (List UInt8)} (h:i<L.length):(strs L)[i]'(by rw[gK];exact h)= [.string ⟨⟨L[i]⟩⟩]:=by unfold strs;simp
def Yc (L:List (List UInt8)) (i:Nat):(strs L).drop i=strs (L.drop i):=by unfold strs;simp
def nf (sep:List UInt8):List (List UInt8)->List UInt8
 | []=> []
 |x::L=>x++(L.map λt=>sep++t).flatten
def ku (L:List (List UInt8)):Nat:=(L.map List.length).sum
def Yd {L:List (List UInt8)} (h:i<L.length):ku (L.take (i+1))=ku (L.take i)+L[i].length:=by unfold ku;rw[cQ h,bS,xj];simp
def aiw {L:List (List UInt8)} (i:Nat):ku (L.take i)<=ku L:=by
 unfold ku
 conv=>rhs;rw[<-iX i L]
 rw[bS,xj];omega
def KJ (sep:List UInt8):∀(L:List (List UInt8)),((L.map λt=>sep++t).flatten).length=sep.length*L.length+ku L
 | []=>by simp[ku]
 |x::L=>by
  have:=KJ sep L;have e:ku (x::L)=x.length+ku L:=by simp[ku]
  rw[br,cX,bL,bL,this,e,bU,Nat.mul_succ];omega
def yl (sep:List UInt8) (x:List UInt8) (L:List (List UInt8)):(nf sep (x::L)).length=sep.length*L.length+ku (x::L):=by
 have e:ku (x::L)=x.length+ku L:=by simp[ku]
 rw[nf,bL,KJ,e];omega
def Ye (sep:List UInt8) {L:List (List UInt8)} (h:i<L.length):((L.take (i+1)).map λt=>sep++t).flatten=((L.take i).map λt=>sep++t).flatten++sep++L[i]:=by rw[cQ h,bS,jO];simp
def N8.grown {a:Value} {l:List UInt8} (h:N8 k s b a l o) (hg:Good s) (hs:Grown k s0 s) (Ay:Good s') (f:BFr s s' b o):Grown k s0 s':=by
 refine⟨Ay,di hs.nx f.1,λj hj=>?_⟩;have IT:j<s.nx:=by obtain⟨v,hv,_⟩:=h.buf;have:=hv.lt hg;have:=h.lo;omega
 rw[f.2 j IT (by have:=h.lo;omega) ?_,hs.eb j hj];rintro rfl;obtain⟨v,_,hb⟩:=h.buf;have:=hb.lt hg;omega
def V6 (n:Nat) {L:List (List UInt8)} (hg:Good s) (hv:Sl s.nx s 9 1 v (strs L)) (sep:List UInt8) (hN:sep.length*L.length+ku L<900000) (hL:L.length<=900000):
  cp (aE (n+4) (dJ 138) [v,.string ⟨⟨sep⟩⟩] s) (λr s'=>r= .string ⟨⟨nf sep L⟩⟩∧Grown s.nx s s'):=by
 rw[aAq];refine bG (by simp) λm hm=>?_;have h0:m.get 0=some v:=by rw[hm];rfl
 have h1:m.get 1=some (.string ⟨⟨sep⟩⟩):=by rw[hm];rfl
 clear hm;have mi:=hv.len;rw[gK]at mi;have Ly:=Mv sep;unfold awO;apply aJ;simp+decide only[ag];apply dh;apply ar;simp+decide only[ag,h0,mi];apply bY;apply aJ;simp+decide only[ag];refine cK (decide ((L.length:Int)=0)) (by simp+decide only[ag]) ?_
 match L,hv,mi,hN,hL with
 | [],hv,mi,hN,hL=>rw[show decide ((([]:List (List UInt8)).length:Int)=0)=true from rfl];simp+decide only[ag];apply aJ;simp+decide only[ag];exact aR (b6 (v:= .string ⟨⟨[]⟩⟩) (.inr rfl) (by simp+decide only[ag]) ⟨rfl,Grown.refl hg _⟩)
 | [x],hv,mi,hN,hL=>rw[show decide ((([x]:List (List UInt8)).length:Int)=0)=false from rfl];simp+decide only[ag];have hx:=hv.ld j3 (i:=0) (by simp[strs]) (uQ (L:= [x]) (i:=0) (by simp));have Fw:=hv.ix (P:=prog) (t:=30) (i:=0) (by simp[strs]) (k:= .i64);simp only[ae,aW]at hx Fw;have d1:decide ((([x]:List (List UInt8)).length:Int)=1)=true:=rfl;apply aJ;simp+decide only[ag,d1];refine iP (by simp+decide only[ag]) ?_;apply aJ;simp+decide only[ag,h0,Fw,hx];exact aR (b6 (v:= .string ⟨⟨x⟩⟩) (.inr rfl) (by simp+decide only[ag]) ⟨by simp[nf],Grown.refl hg _⟩)
 |x::y::L',hv,mi,hN,hL=>
  obtain⟨L,hLe⟩:=dO (x::y::L');rw[<-hLe]at hv mi hN hL⊢;have h2:2<=L.length:=by rw[hLe];simp
  rw[show decide ((L.length:Int)=0)=false from az (by omega)];simp+decide only[ag];have d1:decide ((L.length:Int)=1)=false:=az (by omega);apply aJ;simp+decide only[ag,d1];refine dD (by simp+decide only[ag]) ?_;apply aJ;simp+decide only[ag];have hmul:sep.length*(L.length-1)<=sep.length*L.length:=aPr _ (by omega);refine aT (WC.mono (Q:= λex m' s'=>ex= .normal∧s'=s∧m'.get 0=some v∧m'.get 1=some (.string ⟨⟨sep⟩⟩)∧m'.get 5=some (aw ((sep.length*(L.length-1):Nat):Int))) ?_ ?_)
  ·apply aJ;simp+decide only[ag,h1,Ly];refine cK (decide ((0:Int)<sep.length)) (by simp+decide only[ag]) ?_;by_cases h0s:sep.length=0
   ·rw[show decide ((0:Int)<sep.length)=false from az (by omega)];simp+decide only[ag];exact aR ⟨rfl,rfl,by simp+decide only[ag,h0],by simp+decide only[ag,h1],by simp+decide only[ag,h0s,oX,aW]⟩
   ·rw[show decide ((0:Int)<sep.length)=true from aL (by omega)];simp+decide only[ag];have w1:IntKind.i64.wrap ((L.length:Int)-1)=((L.length-1:Nat):Int):=by rw[wrap_i64 (by omega)];omega
    obtain⟨q,hq⟩:∃q:Int,q=Int.tdiv 9223372036854775807 ((L.length-1:Nat):Int):=⟨_,rfl⟩
    have hq1:1000000<=q∧q<=9223372036854775807:=by
     rw[hq,Int.tdiv_eq_ediv_of_nonneg (by omega)];constructor
     ·exact Int.le_ediv_of_mul_le (by omega) (by omega)
     ·exact Int.ediv_le_self _ (by omega)
    have aKz:∀e c,eJ .quo e c (aw ((L.length-1:Nat):Int)) (aw 9223372036854775807)=some (aw q):= λe c=>by rw[V2 _ _ _ (by omega),<-hq,wrap_i64 (by omega)]
    have dq:decide (q<=(sep.length:Int))=false:=az (by have:sep.length<=sep.length*L.length:=Nat.le_mul_of_pos_right _ (by omega);omega);apply dh;apply ar;simp+decide only[ag,h0,h1,Ly,mi,w1,aKz,dq];refine dD (by simp+decide only[ag]) ?_;simp+decide only[ag];have w2:IntKind.i64.wrap ((sep.length:Int)*((L.length-1:Nat):Int))=((sep.length*(L.length-1):Nat):Int):=by rw[<-Int.natCast_mul,wrap_i64 (by omega)]
    have w3:IntKind.i64.wrap (0+((sep.length*(L.length-1):Nat):Int))=((sep.length*(L.length-1):Nat):Int):=by rw[Int.zero_add,wrap_i64 (by omega)]
    apply ar;simp+decide only[ag,h0,h1,Ly,mi,w1,w2,w3]
  rintro ex m s' ⟨rfl,rfl,h0,h1,h5⟩;simp+decide only[ag];refine aT (WC.mono (Q:= λex m' j9=>ex= .normal∧j9=s'∧m'.get 0=some v∧m'.get 1=some (.string ⟨⟨sep⟩⟩)∧m'.get 5=some (aw ((sep.length*(L.length-1)+ku L:Nat):Int))) ?_ ?_)
  ·apply aJ;simp+decide only[ag,h0,mi];refine bY (eW (λm j9=>j9=s'∧∃j:Nat,j<=L.length∧m.get 0=some v∧m.get 1=some (.string ⟨⟨sep⟩⟩)∧m.get 39=some v∧m.get 40=some (aw (L.length:Int))∧m.get 41=some (aw (j:Int))∧m.get 5=some (aw ((sep.length*(L.length-1)+ku (L.take j):Nat):Int)))
    (λm _=>match m.get 41 with|some (.int _ j)=>(L.length-j).toNat|_=>0) ?_ ?_ ?_)
   ·exact⟨rfl,0,by omega,by simp+decide only[ag,h0],by simp+decide only[ag,h1],by simp+decide only[ag],by simp+decide only[ag],by simp+decide only[ag,aW],by simp+decide only[ag,h5,agl,ku,S0,List.sum_nil,ji]⟩
   ·simp+decide only[ag];all_goals (try simp);all_goals omega
   rintro m j9 ⟨rfl,j,hj,g0,g1,g39,g40,g41,g5⟩;apply aJ;by_cases cS:j<L.length
   ·have hd:decide ((j:Int)<(L.length:Int))=true:=aL (by omega);simp+decide only[ag,g40,g41,hd];refine aT (cK true (by simp+decide only[ag]) ?_);simp+decide only[ag];apply aR;simp+decide only[ag];have Az:j<(strs L).length:=by rw[gK];exact cS
    have F1:=hv.ld j3 Az (uQ cS);have hlj:=Mv L[j];have dm:=Yd cS;have ee:=aiw (L:=L) (j+1);obtain⟨N,hNN⟩:=dO (sep.length*(L.length-1)+ku (L.take j));rw[<-hNN]at g5;have w1:IntKind.i64.wrap (9223372036854775807-(N:Int))=9223372036854775807-(N:Int):=wrap_i64 (by omega);have dd:decide (9223372036854775807-(N:Int)<(L[j].length:Int))=false:=az (by omega);have w2:IntKind.i64.wrap ((N:Int)+(L[j].length:Int))=((sep.length*(L.length-1)+ku (L.take (j+1)):Nat):Int):=by rw[wrap_i64 (by omega)];omega
    have w3:IntKind.i64.wrap ((j:Int)+1)=((j+1:Nat):Int):=by rw[wrap_i64 (by omega)];omega
    apply kK;apply aJ;simp+decide only[ag,g39,g41,hv.ix Az,F1];apply dh;apply ar;simp+decide only[ag,g5,hlj,w1,dd];refine dD (by simp+decide only[ag]) ?_;apply ar;simp+decide only[ag,g5,hlj,w2];apply ar;simp+decide only[ag,g41,w3];exact⟨⟨j+1,by omega,by simp+decide only[ag,g0],by simp+decide only[ag,g1],by simp+decide only[ag,g39],by simp+decide only[ag,g40],by simp+decide only[ag],by simp+decide only[ag]⟩,by omega⟩
   ·have hd:decide ((j:Int)<(L.length:Int))=false:=az (by omega);simp+decide only[ag,g40,g41,hd];refine aT (cK false (by simp+decide only[ag]) ?_);simp+decide only[ag];apply aR;simp+decide only[ag];have Vs:j=L.length:=by omega
    subst Vs;rw[lY]at g5;exact⟨by simp+decide only[ag,g0],by simp+decide only[ag,g1],by simp+decide only[ag,g5]⟩
  rintro ex m s' ⟨rfl,rfl,h0,h1,h5⟩;simp+decide only[ag];obtain⟨N,hNN⟩:=dO (sep.length*(L.length-1)+ku L);rw[<-hNN]at h5;obtain⟨s1,dm⟩:=dO (s'.add (ca 164 [.pointer none,.slice none 0 0]));have dv:=cz dm hg;have gz:=cM dm hg;have QZ:s1.nx=s'.nx+1:=by rw[dm];rfl
  have rV:=jS dm hg;have hB1:N8 s'.nx s1 s'.nx (.pointer none) [] none:=⟨af _,.inl rfl,⟨_,rV,.nil⟩,λe=>by cases e⟩
  apply aJ;simp+decide only[ag,pM hg,<-dm];obtain⟨r,s2,e2,rfl,o2,hB2,dI,f2,N2⟩:=aiv n dv (by omega) hB1 N (by omega) rV;have ic:=hB1.grown dv gz dI f2;apply aJ;simp+decide only[ag,h5,e2];have oo:=hv.ext ic.eb;have hx:=oo.ld j3 (i:=0) (by rw[gK];omega) (uQ (L:=L) (i:=0) (by omega));have Fw:=oo.ix (P:=prog) (t:=30) (i:=0) (by rw[gK];omega) (k:= .i64);simp only[aW]at Fw;have hx0:L[0]=x:=by simp[hLe]
  rw[hx0]at hx;have hJ:nf sep L=x++((L.drop 1).map λt=>sep++t).flatten:=by rw[hLe];rfl
  have hJl:(nf sep L).length=N:=by rw[hLe,yl,hNN,hLe];simp
  have hxN:x.length<=N:=by rw[<-hJl,hJ,bL];omega
  obtain⟨r,s3,e3,o3,hB3,gQ,f3,ho3⟩:=Cr n dI ic.nx hB2 x (by simp;omega);have sq:=hB2.grown dI ic gQ f3;rw[jD]at hB3;apply aJ;simp+decide only[ag,h0,Fw,hx,e3];obtain⟨base,mm,cc,rfl⟩:=hv.WI;have hmm:mm=L.length:=by have e:=hv.lenOf;rw[gK]at e;exact bh e
  obtain⟨w,JK,hw2⟩:=HU hv (l:=1) (k:=mm) (by omega) (by rw[gK];omega) (some (aw 1)) none rfl rfl;rw[<-DG YL PI base mm cc (some (aw 1)) none none]at JK;rw[show(strs L).take mm=strs L from aP (by rw[gK,hmm];exact af _),Yc]at hw2;have Xn:=hw2.len;rw[gK]at Xn;obtain⟨D,hD⟩:=dO (L.drop 1);rw[<-hD]at hw2 Xn hJ;have Vk:D.length<=900000:=by rw[hD,Xv];omega
  refine aT (WC.mono (Q:= λex m' j9=>ex= .normal∧∃o,m'.get 8=some (a8 s'.nx)∧Good j9∧Grown s'.nx s' j9∧N8 s'.nx j9 s'.nx (a8 s'.nx) (nf sep L) o) ?_ ?_)
  ·apply aJ;simp+decide only[ag,h0,JK,Xn];refine bY (eW (λm j9=>∃(j:Nat) (o:Option Nat),j<=D.length∧Good j9∧Grown s'.nx s' j9∧N8 s'.nx j9 s'.nx (a8 s'.nx) (x++((D.take j).map λt=>sep++t).flatten) o∧m.get 1=some (.string ⟨⟨sep⟩⟩)∧m.get 8=some (a8 s'.nx)∧m.get 63=some w∧m.get 64=some (aw (D.length:Int))∧m.get 65=some (aw (j:Int)))
    (λm _=>match m.get 65 with|some (.int _ j)=>(D.length-j).toNat|_=>0) ?_ ?_ ?_)
   ·exact⟨0,o3,by omega,gQ,sq,by simpa using hB3,by simp+decide only[ag,h1],by simp+decide only[ag],by simp+decide only[ag],by simp+decide only[ag],by simp+decide only[ag,aW]⟩
   ·simp+decide only[ag];all_goals (try simp);all_goals omega
   rintro m j9 ⟨j,o,hj,gs,Fx,hB,g1,g8,g63,g64,g65⟩;apply aJ;by_cases cS:j<D.length
   ·have hd:decide ((j:Int)<(D.length:Int))=true:=aL (by omega);simp+decide only[ag,g64,g65,hd];refine aT (cK true (by simp+decide only[ag]) ?_);simp+decide only[ag];apply aR;simp+decide only[ag];have Az:j<(strs D).length:=by rw[gK];exact cS
    have axO:=hw2.ext Fx.eb;have F1:=axO.ld j3 Az (uQ cS);have hft:=Ye sep cS;have hle:(x++((D.take (j+1)).map λt=>sep++t).flatten).length<=N:=by
     rw[<-hJl,hJ,bL,bL];have:((D.map λt=>sep++t).flatten).length=(((D.take (j+1)).map λt=>sep++t).flatten).length+(((D.drop (j+1)).map λt=>sep++t).flatten).length:=by rw[<-bL,<-jO,<-bS,iX]
     omega
    rw[hft]at hle;simp only[bL]at hle;obtain⟨r4,s4,e4,o4,hB4,iI,f4,N6⟩:=Cr n gs Fx.nx hB sep (by simp only[bL];omega);have qH:=hB.grown gs Fx iI f4;obtain⟨r5,s5,e5,o5,hB5,jm,f5,ho5⟩:=Cr n iI qH.nx hB4 D[j] (by simp only[bL];omega);have p4:=hB4.grown iI qH jm f5;have w3:IntKind.i64.wrap ((j:Int)+1)=((j+1:Nat):Int):=by rw[wrap_i64 (by omega)];omega
    apply kK;apply aJ;simp+decide only[ag,g63,g65,axO.ix Az,F1];apply aJ;simp+decide only[ag,g8,g1,e4];apply ar;simp+decide only[ag,g8,e5];apply ar;simp+decide only[ag,g65,w3];refine⟨⟨j+1,o5,by omega,jm,p4,?_,by simp+decide only[ag,g1],by simp+decide only[ag,g8],by simp+decide only[ag,g63],by simp+decide only[ag,g64],by simp+decide only[ag]⟩,by omega⟩;rw[hft];simpa[ey]using hB5
   ·have hd:decide ((j:Int)<(D.length:Int))=false:=az (by omega);simp+decide only[ag,g64,g65,hd];refine aT (cK false (by simp+decide only[ag]) ?_);simp+decide only[ag];apply aR;simp+decide only[ag];have Vs:j=D.length:=by omega
    subst Vs;rw[lY,<-hJ]at hB;exact⟨o,by simp+decide only[ag,g8],gs,Fx,hB⟩
  rintro ex m s5 ⟨rfl,o,g8,gs,Fx,hB⟩;simp+decide only[ag];obtain⟨r6,s6,e6,rfl,lZ,n6,f6⟩:=KI (n+2) gs hB (by omega);apply aJ;simp+decide only[ag,g8,e6];refine aR (b6 (.inr rfl) (by simp+decide only[ag]) ⟨rfl,hB.grown gs Fx lZ ⟨by omega,λj _ _ hj=>f6 j hj⟩⟩)
def ady (b o m:Nat) (h:m<=3):tC prog (prog.underlying 88) (.pointer (some ⟨b,o,none⟩)) none (some (aw (m:Int))) none=some (.slice (some ⟨b,o,none⟩) m (bH 3)):=by rw[underlying88];show ob (dc prog 3) (λsz=>jX sz ⟨b,o,none⟩ 3 none (some (aw (m:Int))) none)=_;rw[yq,cg,Qc _ _ _ _ _ h]
def WFE.many {σ:List cx} {i:Nat} {e:cx} (h:WFE σ i e):e.many<=3∧e.parts.length=e.many:=by
 have h3:e.many<=3:=by rcases h.shape with h|h|h<;>omega
 refine⟨h3,?_⟩;unfold cx.parts;simp;omega
def cx.al0 (e:cx) (h:pN e.v):e.row[13]'(by rw[e.dT h];decide)=aw (e.many:Int):=by obtain⟨a,b,c,d,f,g,i,hv⟩:=seven h.1;simp[cx.row,cx.da,hv]
def cx.Yf (e:cx) (hm:e.many<=3):((e.row.drop 2).take e.many).map (λx=> [x])=ints e.parts:=by
 have h:e.row.drop 2= [aw (e.p0:Int),aw (e.p1:Int),aw (e.p2:Int)]++(.string e.text::e.v++ [aw (e.many:Int),aw (e.size:Int),.map (some e.vars)]):=by simp[cx.row,cx.da]
 rw[h,Y5 (by simpa using hm)];unfold cx.parts ints;rcases e.many with _|_|_|_|n<;>rfl
def Ac (σ:List cx):Nat->Nat->List UInt8
 |0,_=> []
 |f+1,t=>match σ[t]? with
  |none=> []
  |some e=>if 4096<e.size then []else if e.kind=0 then 120::gg e.id.toNat else if e.kind=1 then 98::gg e.id.toNat else if e.kind=2 then e.text.data.toList
   else nf [32] ((if e.kind=3 then [40,103,101,116]else [40,115,101,116])::e.parts.map (Ac σ f))++ [41]
def cF (σ:List cx) (t:Nat):List UInt8:=Ac σ (t+1) t
def WFs (σ:List cx):Prop:=∀i (hi:i<σ.length),WFE σ i σ[i]
def TB {σ:List cx} (hw:WFs σ):∀(t f g:Nat),t<f->t<g->Ac σ f t=Ac σ g t:=by
 intro t;induction t using Nat.strongRecOn with
 |ind t ih=>
  intro f g hf hg;obtain⟨f,rfl⟩:∃x,f=x+1:=⟨f-1,by omega⟩
  obtain⟨g,rfl⟩:∃x,g=x+1:=⟨g-1,by omega⟩
  unfold Ac;cases he:σ[t]? with
  |none=>rfl
  |some e=>
   have ht:t<σ.length:=by refine dg λh=>?_;rw[eD h]at he;cases he
   have hee:σ[t]=e:=by rw[ba ht]at he;exact bh he
   have cS:=(hw t ht).lt;rw[hee]at cS;have:e.parts.map (Ac σ f)=e.parts.map (Ac σ g):=eS λx hx=>ih x (cS x hx) f g (by have:=cS x hx;omega) (by have:=cS x hx;omega);simp only[this]
def DX {σ:List cx} (hw:WFs σ) (ht:t<σ.length):cF σ t=if 4096<σ[t].size then []else if σ[t].kind=0 then 120::gg σ[t].id.toNat else if σ[t].kind=1 then 98::gg σ[t].id.toNat else if σ[t].kind=2 then σ[t].text.data.toList
   else nf [32] ((if σ[t].kind=3 then [40,103,101,116]else [40,115,101,116])::σ[t].parts.map (cF σ))++ [41]:=by
 have hm:σ[t].parts.map (Ac σ t)=σ[t].parts.map (cF σ):=eS λx hx=>TB hw x t (x+1) ((hw t ht).lt x hx) (by omega);rw[<-hm];show Ac σ (t+1) t=_
 conv=>lhs;unfold Ac
 rw[ba ht]
def Pg {σ:List cx}:∀(l:List Nat) (z:Nat),l.foldl (λz x=>min (z+dC σ x) 4097) z<=4096->l.foldl (λz x=>min (z+dC σ x) 4097) z=z+(l.map (dC σ)).sum∧∀x∈l,dC σ x<=4096
 | [],z,h=>⟨by simp,by simp⟩
 |x::l,z,h=>by
  rw[np]at h⊢;obtain⟨h1,h2⟩:=Pg l _ h;have h3:min (z+dC σ x) 4097<=4096:=by omega
  refine⟨by rw[h1,br,nJ];omega,λy hy=>?_⟩;rcases List.mem_cons.1 hy with rfl|hy
  ·omega
  ·exact h2 y hy
def ym {σ:List cx} (hw:WFs σ):∀(t:Nat) (ht:t<σ.length),(cF σ t).length<=64*min σ[t].size 4096:=by
 intro t;induction t using Nat.strongRecOn with
 |ind t ih=>
  intro ht;have Jb:=hw t ht;have eR:=Jb.size;rw[DX hw ht];by_cases hb:4096<σ[t].size
  ·rw[aU hb];simp
  ·rw[aC hb];have h1:1<=σ[t].size:=by
    rw[eR];unfold Da;have:∀(l:List Nat) (z:Nat),1<=z->1<=l.foldl (λz x=>min (z+dC σ x) 4097) z:=by
     intro l;induction l with
     |nil=>intro z h;exact h
     |cons x l ih=>intro z h;rw[np];exact ih _ (by omega)
    exact this _ 1 (af _)
   split
   ·have:=ri σ[t].id.toNat;simp;omega
   split
   ·have:=ri σ[t].id.toNat;simp;omega
   split
   ·have:=Jb.text;omega
   ·have hs:=Pg (σ:=σ) σ[t].parts 1 (by rw[eR]at hb;unfold Da at hb;omega);have dm:σ[t].size=1+(σ[t].parts.map (dC σ)).sum:=by rw[eR];exact hs.1
    have hmn:=Jb.many;have hlen:∀l:List Nat,(∀x∈l,x∈σ[t].parts)->(l.map (λx=>(cF σ x).length)).sum<=64*(l.map (dC σ)).sum:=by
     intro l;induction l with
     |nil=>intro _;simp
     |cons x l sS=>
      intro hx;have hxp:=hx x (by simp);have xd:=Jb.lt x hxp;have:=ih x xd (by omega);have e:dC σ x=(σ[x]'(by omega)).size:=by unfold dC;rw[ba (by omega)];rfl
      have:=sS λy hy=>hx y (by simp[hy]);simp only[br,nJ];omega
    have hle:=hlen _ (λx hx=>hx);have hk:((if σ[t].kind=3 then [40,103,101,116]else [40,115,101,116]:List UInt8)).length=4:=by split<;>rfl
    have LY:2<=σ[t].parts.length∨σ[t].kind<=2:=by rcases Jb.shape with h|h|h<;>omega
    rw[bL,yl,dP];have NN:ku ((if σ[t].kind=3 then [40,103,101,116]else [40,115,101,116])::σ[t].parts.map (cF σ))=4+(σ[t].parts.map (λx=>(cF σ x).length)).sum:=by unfold ku;rw[br,nJ,hk,iv];rfl
    rw[NN];have h1p:σ[t].parts.length<=(σ[t].parts.map (dC σ)).sum:=by
     have:∀l:List Nat,(∀x∈l,x∈σ[t].parts)->l.length<=(l.map (dC σ)).sum:=by
      intro l;induction l with
      |nil=>intro _;simp
      |cons x l sS=>
       intro hx;have xd:=Jb.lt x (hx x (by simp));have e:dC σ x=(σ[x]'(by omega)).size:=by unfold dC;rw[ba (by omega)];rfl
       have h1x:1<=(σ[x]'(by omega)).size:=by
        rw[(hw x (by omega)).size];unfold Da;have:∀(l:List Nat) (z:Nat),1<=z->1<=l.foldl (λz x=>min (z+dC σ x) 4097) z:=by
         intro l;induction l with
         |nil=>intro z h;exact h
         |cons x l ih=>intro z h;rw[np];exact ih _ (by omega)
        exact this _ 1 (af _)
       have:=sS λy hy=>hx y (by simp[hy]);simp only[br,nJ,bU];omega
     exact this _ λx hx=>hx
    simp only[iY];rcases LY with h|h
    ·omega
    ·have:σ[t].parts.length<=3:=by omega
     omega
def D7:fu prog 30=some 9:=by kernel_rfl
def Hi:dW prog 9=some (1,[.string ⟨⟨[]⟩⟩]):=by kernel_rfl
def Ph (L:List (List UInt8)):∀r∈strs L,r.length=1:= λr h=>by obtain⟨n,_,rfl⟩:=List.mem_map.1 h;rfl
def KL (L:List (List UInt8)) (t:List UInt8):strs L++ [[.string ⟨⟨t⟩⟩]]=strs (L++ [t]):=by unfold strs;simp
def wB {L:List Nat} {f:Nat->Nat} (h:∀x∈L,f x<=k):(L.map f).sum<=k*L.length:=by
 induction L with
 |nil=>simp
 |cons x L ih=>have h1:=h x (by simp);have h2:=ih λy hy=>h y (by simp[hy]);rw[br,nJ,bU,Nat.mul_succ];omega
def FT:∀(t:Nat) (N:Nat) {s:AS} {p q:Nat} {v:Value} {σ:List cx} (_:Good s) (_:TS s p q v σ) (_:t<σ.length) (_:t+6<=N),
  cp (aE N (dJ 82) [a8 p,aw (t:Int)] s) (λr s'=>r= .string ⟨⟨cF σ t⟩⟩∧Grown s.nx s s'):=by
 intro t;induction t using Nat.strongRecOn with
 |ind t ih=>
 intro N s p q v σ hg h ht hN;obtain⟨n,rfl⟩:∃n,N=n+5+1:=⟨N-6,by omega⟩
 rw[aJJ];refine bG (by simp) λm hm=>?_;have h0:m.get 0=some (a8 p):=by rw[hm];rfl
 have h1:m.get 1=some (aw (t:Int)):=by rw[hm];rfl
 clear hm;obtain⟨r,s1,e1,rfl,fN⟩:=UP (n+4) hg h ht;have eH:=h.ua _ (aV ht);have hl:=σ[t].dT eH;have Jb:=h.wf t ht;have hmn:=Jb.many;have dv:=fN.bt;obtain⟨z,hz⟩:∃z:LVal,z= [aw 0,aw 0,aw 0,aw 0,aw 0,.string ⟨⟨[]⟩⟩,aw 0,.bool false,.string ⟨⟨[]⟩⟩,.string ⟨⟨[]⟩⟩,.slice none 0 0,.slice none 0 0,aw 0,aw 0,aw 0,.map none]:=⟨_,rfl⟩
 have IW:z.length=16:=by rw[hz];rfl
 obtain⟨s2,ee⟩:=dO (s1.add (ca 125 z));have dI:=cz ee dv;have oo:=jS ee dv;have fU:=oo.kU dI (us:=σ[t].row) (k:=16) (by rw[hl,IW]) hl.symm (by decide) (σ[t].row_one eH);obtain⟨s3,gy⟩:=dO (s2.wr s1.nx (some (ca 125 σ[t].row)));rw[<-gy]at fU;have nM:=oo.lt dI;have gQ:Good s3:=by rw[gy];exact bZ dI nM _
 have BL:ay s3 s1.nx 125 σ[t].row:=by rw[gy];exact ay.set dI nM 125 _
 have Ze:s3.nx=s1.nx+1:=by rw[gy,ee];rfl
 have sq:Grown s.nx s s3:=by rw[gy,ee];exact(fN.add fN.nx _).wr fN.nx (by rw[ee]at nM;exact nM) _
 have l14:=BL.ld bM (o:=14) (by omega);rw[σ[t].abd eH]at l14;have l13:=BL.ld bM (o:=13) (by omega);rw[σ[t].al0 eH]at l13;have l0:=BL.ld bM (o:=0) (by omega);rw[show σ[t].row[0]'(by omega)=aw (σ[t].kind:Int)from rfl]at l0;have l1:=BL.ld bM (o:=1) (by omega);rw[show σ[t].row[1]'(by omega)=aw σ[t].id from rfl]at l1;have l5:=BL.ld j3 (o:=5) (by omega);rw[show σ[t].row[5]'(by omega)= .string σ[t].text from rfl]at l5;have Oa:=DX h.wf ht;have aKA:=h.ext hg sq.eb;unfold c82;apply aJ;simp+decide only[ag];apply aJ;simp+decide only[ag,h0,h1,e1,pM dv,<-hz,<-ee,fU];apply dh;apply ar;simp+decide only[ag,h0,oW,ja,bO,aG,l14];refine cK (decide ((4096:Int)<(σ[t].size:Int))) (by simp+decide only[ag]) ?_;by_cases hb:4096<σ[t].size
 ·rw[aU hb]at Oa;rw[show decide ((4096:Int)<(σ[t].size:Int))=true from aL (by omega)];simp+decide only[ag];apply aJ;simp+decide only[ag];exact aR (b6 (v:= .string ⟨⟨[]⟩⟩) (.inr rfl) (by simp+decide only[ag]) ⟨by rw[Oa],sq⟩)
 rw[aC hb]at Oa;rw[show decide ((4096:Int)<(σ[t].size:Int))=false from az (by omega)];simp+decide only[ag];apply aR;apply aJ;simp+decide only[ag];apply dh;apply ar;simp+decide only[ag,bO,aG,l0];apply bY;apply aJ;simp+decide only[ag];refine cK (decide ((σ[t].kind:Int)=0)) (by simp+decide only[ag]) ?_;by_cases I8:σ[t].kind=0
 ·rw[aU I8]at Oa;have hid:=Jb.num (by omega);obtain⟨i,hi⟩:∃i:Nat,σ[t].id=(i:Int):=⟨σ[t].id.toNat,by omega⟩
  rw[hi]at l1;have hti:σ[t].id.toNat=i:=by omega
  rw[hti]at Oa;have uC:=Mz (i:=i) (by omega) (n+4) s3;have ZO:∀e c,eJ .add e c (.string ⟨⟨gg i⟩⟩) (.string ⟨⟨[120]⟩⟩)=some (.string ⟨⟨120::gg i⟩⟩):= λe c=>gZ [120] (gg i) (by have:=ri i;simp;omega);rw[show decide ((σ[t].kind:Int)=0)=true from aL (by omega)];simp+decide only[ag];apply aJ;simp+decide only[ag,bO,aG,l1,uC,ZO];exact aR (b6 (v:= .string ⟨⟨120::gg i⟩⟩) (.inr rfl) (by simp+decide only[ag]) ⟨by rw[Oa],sq⟩)
 rw[aC I8]at Oa;rw[show decide ((σ[t].kind:Int)=0)=false from az (by omega)];simp+decide only[ag];apply aJ;simp+decide only[ag];refine cK (decide ((σ[t].kind:Int)=1)) (by simp+decide only[ag]) ?_;by_cases vt:σ[t].kind=1
 ·rw[aU vt]at Oa;have hid:=Jb.num (by omega);obtain⟨i,hi⟩:∃i:Nat,σ[t].id=(i:Int):=⟨σ[t].id.toNat,by omega⟩
  rw[hi]at l1;have hti:σ[t].id.toNat=i:=by omega
  rw[hti]at Oa;have uC:=Mz (i:=i) (by omega) (n+4) s3;have ZO:∀e c,eJ .add e c (.string ⟨⟨gg i⟩⟩) (.string ⟨⟨[98]⟩⟩)=some (.string ⟨⟨98::gg i⟩⟩):= λe c=>gZ [98] (gg i) (by have:=ri i;simp;omega);rw[show decide ((σ[t].kind:Int)=1)=true from aL (by omega)];simp+decide only[ag];apply aJ;simp+decide only[ag,bO,aG,l1,uC,ZO];exact aR (b6 (v:= .string ⟨⟨98::gg i⟩⟩) (.inr rfl) (by simp+decide only[ag]) ⟨by rw[Oa],sq⟩)
 rw[aC vt]at Oa;rw[show decide ((σ[t].kind:Int)=1)=false from az (by omega)];simp+decide only[ag];apply aJ;simp+decide only[ag];refine cK (decide ((σ[t].kind:Int)=2)) (by simp+decide only[ag]) ?_;by_cases uA:σ[t].kind=2
 ·rw[aU uA]at Oa;rw[show decide ((σ[t].kind:Int)=2)=true from aL (by omega)];simp+decide only[ag];apply aJ;simp+decide only[ag,bO,aG,l5];exact aR (b6 (v:= .string σ[t].text) (.inr rfl) (by simp+decide only[ag]) ⟨by rw[Oa],sq⟩)
 rw[aC uA]at Oa;rw[show decide ((σ[t].kind:Int)=2)=false from az (by omega)];simp+decide only[ag];obtain⟨W,hW⟩:∃W:List UInt8,W=if σ[t].kind=3 then [40,103,101,116]else [40,115,101,116]:=⟨_,rfl⟩
 rw[<-hW]at Oa;have hWl:W.length=4:=by rw[hW];split<;>rfl
 apply aJ;simp+decide only[ag];refine WC.mono (Q:= λx m' s'=>x= .normal∧s'=s3∧m'.get 0=some (a8 p)∧m'.get 5=some (a8 s1.nx)∧m'.get 6=some (.string ⟨⟨W⟩⟩)) ?_ ?_
 ·refine cK (decide ((σ[t].kind:Int)=3)) (by simp+decide only[ag]) ?_;by_cases hk3:σ[t].kind=3
  ·rw[aU hk3]at hW;rw[show decide ((σ[t].kind:Int)=3)=true from aL (by omega)];simp+decide only[ag];apply ar;simp+decide only[ag];exact⟨by simp+decide only[ag,h0],by rw[hW]⟩
  ·rw[aC hk3]at hW;rw[show decide ((σ[t].kind:Int)=3)=false from az (by omega)];simp+decide only[ag];exact aR ⟨rfl,rfl,by simp+decide only[ag,h0],by simp+decide only[ag],by rw[hW];simp+decide only[ag]⟩
 rintro x m s' ⟨rfl,rfl,h0,h5,h6⟩;simp+decide only[ag];have qR:=qt (v:= .string ⟨⟨W⟩⟩) gQ D7 Hi rfl;obtain⟨s4,jW⟩:=dO (s'.row 9 1 [[.string ⟨⟨W⟩⟩]]);rw[<-jW]at qR;have iI:=cz jW gQ;have qH:Grown s'.nx s' s4:=by rw[jW];exact(Grown.refl gQ _).row (af _) _ _ _
 have N6:Own s'.nx s4 9 1 (.slice (some ⟨s'.nx,0,none⟩) 1 (bH 1)) (strs [W]) (some s'.nx):=by
  have hr:bE s4 s'.nx 9 1 false (strs [W]):=by rw[jW];exact bE.new gQ 9 1 _
  exact .ex (R:=strs [W]) (af _) hr
 apply aJ;simp+decide only[ag,h6,qR];have qh:=ady s1.nx 2 σ[t].many hmn.1;have hv4:=BL.eq (qH.eb s1.nx (by omega));have axP:=hv4.ld bM (o:=13) (by omega);rw[σ[t].al0 eH]at axP;have Rh:∀x∈σ[t].parts,(cF σ x).length<=262144:= λx hx=>by have xd:=Jb.lt x hx;have:=ym h.wf x (by omega);omega
 refine aT (WC.mono (Q:= λx m' j9=>x= .normal∧Good j9∧Grown s'.nx s' j9∧∃w,m'.get 7=some w∧Sl j9.nx j9 9 1 w (strs (W::σ[t].parts.map (cF σ)))) ?_ ?_)
 ·apply aJ;simp+decide only[ag,h5,bO,aG,axP,qh];refine bY (eW (λm j9=>∃(j:Nat) (w:Value) (ob':Option Nat),j<=σ[t].many∧Good j9∧Grown s'.nx s' j9∧Own s'.nx j9 9 1 w (strs (W::(σ[t].parts.take j).map (cF σ))) ob'∧m.get 0=some (a8 p)∧m.get 7=some w∧m.get 50=some (.slice (some ⟨s1.nx,2,none⟩) σ[t].many (bH 3))∧m.get 51=some (aw (σ[t].many:Int))∧m.get 52=some (aw (j:Int)))
   (λm _=>match m.get 52 with|some (.int _ j)=>(3-j).toNat|_=>0) ?_ ?_ ?_)
  ·exact⟨0,_,_,by omega,iI,qH,N6,by simp+decide only[ag,h0],by simp+decide only[ag],by simp+decide only[ag],by simp+decide only[ag],by simp+decide only[ag,aW]⟩
  ·simp+decide only[ag]
  rintro m j9 ⟨j,w,ob',hj,gs,Fx,ho,g0,g7,g50,g51,g52⟩;apply aJ;by_cases cS:j<σ[t].many
  ·have hd:decide ((j:Int)<(σ[t].many:Int))=true:=aL (by omega);simp+decide only[ag,g51,g52,hd];refine aT (cK true (by simp+decide only[ag]) ?_);simp+decide only[ag];apply aR;simp+decide only[ag];have hjp:j<σ[t].parts.length:=by omega
   obtain⟨x,hx⟩:=dO (σ[t].parts[j]);have hxm:x∈σ[t].parts:=by rw[hx];exact aV _
   have xd:=Jb.lt x hxm;have Fw:ki prog 38 1 (.slice (some ⟨s1.nx,2,none⟩) σ[t].many (bH 3)) (aw (j:Int))=some (.pointer (some ⟨s1.nx,2+j,none⟩)):=by show elA 1 ⟨s1.nx,2,none⟩ σ[t].many (j:Int)=_;unfold elA;rw[AR cS,cg,bD,show Nat.add 2 (Nat.mul j 1)=2+j from by show 2+j*1=_;omega]
   have Fo:ay j9 s1.nx 125 σ[t].row:=BL.eq (Fx.eb s1.nx (by omega));have hlx:aM prog 3 j9 (.pointer (some ⟨s1.nx,2+j,none⟩))=some (aw (x:Int)):=by
    rw[Fo.ld bM (o:=2+j) (by omega)];congr 1;have Wu:=σ[t].Yf hmn.1;have hgj:=congrArg (λl=>l[j]?) Wu;simp only[iB,kj,cS,jQ,qV]at hgj;rw[ba (by omega)]at hgj;have zK:(ints σ[t].parts)[j]? =some [aw (x:Int)]:=by rw[ba (by rw[dE];exact hjp),gJ hjp,hx];rfl
    rw[zK]at hgj;simpa using hgj
   have aKB:TS j9 p q v σ:=aKA.ext gQ Fx.eb;obtain⟨r5,s5,e5,rfl,p4⟩:=ih x xd (n+5) gs aKB (by omega) (by omega);have Zh:=qt (v:= .string ⟨⟨cF σ x⟩⟩) p4.bt D7 Hi rfl;obtain⟨s6,qj⟩:=dO (s5.row 9 1 [[.string ⟨⟨cF σ x⟩⟩]]);rw[<-qj]at Zh;have lZ:Good s6:=by rw[qj];exact fW p4.bt _
   have hn6:s6.nx=s5.nx+1:=by rw[qj];rfl
   have Ai:Grown j9.nx j9 s6:=by rw[qj];exact p4.row p4.nx _ _ _
   have hy:Reads s6.nx s6 1 (.slice (some ⟨s5.nx,0,none⟩) 1 (bH 1)) [[.string ⟨⟨cF σ x⟩⟩]]:=by
    have hr:bE s6 s5.nx 9 1 false [[.string ⟨⟨cF σ x⟩⟩]]:=by rw[qj];exact bE.new p4.bt 9 1 _
    exact(Sl.full (hr.lt lZ) hr (by rw[(cR 1).1];exact af 1) (.inl (cR 1).2)).rd (by decide)
   have ho6:Own s'.nx s6 9 1 w (strs (W::(σ[t].parts.take j).map (cF σ))) ob':=ho.ext gs λk hk b _ _=>Ai.eb k hk;have ha:=FR ho6 hy lZ (by decide) (by decide) (Ph _) (λl hl=>by simp at hl;subst hl;rfl) (λl hl=>by simp at hl;subst hl;rfl) (by rw[gK];simp;omega) (by simp);rw[KL]at ha;have zM:(W::(σ[t].parts.take j).map (cF σ))++ [cF σ x]=W::(σ[t].parts.take (j+1)).map (cF σ):=by rw[cQ hjp,bS,<-hx];rfl
   rw[zM]at ha;have Ox:Grown s'.nx s' s6:=Fx.trans (Ai.le Fx.nx);have Q6:Grown s'.nx s' (cW s6 w):=Ox.drop ho6;obtain⟨s7,rF⟩:=dO (cW s6 w);rw[<-rF]at ha Q6;have hn7:s7.nx=s6.nx:=by rw[rF];exact BW _ _
   have w3:IntKind.i64.wrap ((j:Int)+1)=((j+1:Nat):Int):=by rw[wrap_i64 (by omega)];omega
   apply kK;apply aJ;simp+decide only[ag,g50,g52,Fw,hlx];apply ar;simp+decide only[ag,g0,g7,e5,Zh,ha];apply ar;simp+decide only[ag,g52,w3];refine⟨⟨j+1,.slice (some ⟨s6.nx,0,none⟩) (strs (W::(σ[t].parts.take (j+1)).map (cF σ))).length (cq (strs (W::(σ[t].parts.take (j+1)).map (cF σ))).length 1),some s6.nx,by omega,fW Q6.bt _,Q6.row (by rw[hn7,hn6];have:=p4.nx;have:=Fx.nx;omega) _ _ _,?_,by simp+decide only[ag,g0],by simp+decide only[ag],by simp+decide only[ag,g50],by simp+decide only[ag,g51],by simp+decide only[ag]⟩,by omega⟩;have hr:=bE.new Q6.bt 9 1 (strs (W::(σ[t].parts.take (j+1)).map (cF σ)));rw[hn7]at hr;exact .lb (by have:=Ox.nx;omega) hr
  ·have hd:decide ((j:Int)<(σ[t].many:Int))=false:=az (by omega);simp+decide only[ag,g51,g52,hd];refine aT (cK false (by simp+decide only[ag]) ?_);simp+decide only[ag];apply aR;simp+decide only[ag];rw[aP (by omega)]at ho;exact⟨gs,Fx,w,by simp+decide only[ag,g7],Own.sl gs (by decide) ho⟩
 rintro x m s5 ⟨rfl,gs,Fx,w,g7,hw⟩;simp+decide only[ag];have NN:ku (W::σ[t].parts.map (cF σ))<=4+262144*3:=by have h1:=wB (L:=σ[t].parts) (f:= λx=>(cF σ x).length) (k:=262144) Rh;unfold ku;rw[br,nJ,hWl,iv];have h3:(σ[t].parts.map (List.length∘cF σ)).sum=(σ[t].parts.map (λx=>(cF σ x).length)).sum:=rfl;rw[h3];omega
 have hjl:=yl [32] W (σ[t].parts.map (cF σ));rw[dP,iY]at hjl;obtain⟨r6,s6,e6,rfl,Ai⟩:=V6 (n+1) gs hw [32] (by simp only[bU,dP,gH];omega) (by simp only[bU,dP];omega);have ZO:∀e c,eJ .add e c (.string ⟨⟨[41]⟩⟩) (.string ⟨⟨nf [32] (W::σ[t].parts.map (cF σ))⟩⟩)=some (.string ⟨⟨nf [32] (W::σ[t].parts.map (cF σ))++ [41]⟩⟩):= λe c=>gZ _ [41] (by rw[hjl,iY];omega);apply aJ;simp+decide only[ag,g7,e6,ZO];refine aR (b6 (v:= .string ⟨⟨nf [32] (W::σ[t].parts.map (cF σ))++ [41]⟩⟩) (.inr rfl) (by simp+decide only[ag]) ⟨by rw[Oa],?_⟩);exact sq.trans ((Fx.le sq.nx).trans (Ai.le (di sq.nx Fx.nx)))
structure eu (T:eX->Prop) (s s':AS):Prop where
 bt:Good s'
 nx:s.nx<=s'.nx
 eb:∀j b,s.h.get j=some b->¬T b->s'.h.get j=some b
def eu.trans {T:eX->Prop} {j9:AS} (h:eu T s s') (h':eu T s' j9):eu T s j9:=⟨h'.bt,di h.nx h'.nx,λj b hb ht=>h'.eb j b (h.eb j b hb ht) ht⟩
def eu.mono {T U:eX->Prop} (h:eu T s s') (hu:∀b,T b->U b):eu U s s':=⟨h.bt,h.nx,λj b hb ht=>h.eb j b hb λEB=>ht (hu b EB)⟩
def Grown.an {T:eX->Prop} (hg:Good s) (h:Grown s.nx s s'):eu T s s':=⟨h.bt,h.nx,λj b hb _=>by
 have hj:j<s.nx:=by refine dg λhle=>?_;rw[hg.none j hle]at hb;cases hb
 rw[h.eb j hj];exact hb⟩
def ay.an {T:eX->Prop} (h:ay s b t vs) (hk:eu T s s') (ht:¬T (ca t vs)):ay s' b t vs:=hk.eb _ _ h ht
def cy.an {T:eX->Prop} (h:cy s r kt es ck) (hk:eu T s s') (ht:¬T (.map kt es ck)):cy s' r kt es ck:=hk.eb _ _ h ht
def bE.an {T:eX->Prop} {sz:Nat} {ro:Bool} (h:bE s b et sz ro R) (hk:eu T s s') (ht:∀c,¬T (.cells c sz R.length ro et)):bE s' b et sz ro R:=by obtain⟨c,h1,h2⟩:=h.row;exact⟨c,hk.eb _ _ h1 (ht c),h2⟩
def Sl.an {T:eX->Prop} {n:Nat} {s s':AS} {et sz:Nat} {v:Value} {rows:List LVal} (h:Sl n s et sz v rows) (hk:eu T s s') (ht:∀c m ro,¬T (.cells c sz m ro et)):Sl n s' et sz v rows:=by
 cases h with
 |nil=>exact .nil
 |mk hb h hl hr hc hx=>exact .mk hb (h.an hk λc=>ht c _ _) hl hr hc hx
def Own.an {T:eX->Prop} {n:Nat} {s s':AS} {et sz:Nat} {v:Value} {R:List LVal} {o:Option Nat} (h:Own n s et sz v R o) (hk:eu T s s') (ht:∀c m ro,¬T (.cells c sz m ro et)):Own n s' et sz v R o:=by
 cases h with
 |nil=>exact .nil
 |ex hb h=>exact .ex hb (h.an hk λc=>ht c _ _)
 |lb hb h=>exact .lb hb (h.an hk λc=>ht c _ _)
def TyT:eX->Prop
 | .cells _ _ _ _ et=>et=118∨et=125
 | .map kt _ _=>kt=90
 |_=>False
def RQ:eX->Prop
 | .cells _ _ _ _ et=>et=64∨et=79
 | .map kt _ _=>kt=77
 |_=>False
def oO (b:eX):Prop:=TyT b∨RQ b
def TS.an {s s':AS} {p q:Nat} {v:Value} {σ:List cx} (h:TS s p q v σ) (hk:eu RQ s s'):TS s' p q v σ:=by
 obtain⟨ob',ho,hb⟩:=h.rows;refine⟨h.own.an hk ?_,⟨ob',ho.an hk ?_,hb⟩,h.found.an hk ?_,h.pq,h.ua,h.Iv,h.nodup,λe hh=>?_,h.xL,h.wf⟩
 ·show¬(118=64∨118=79);decide
 ·intro c m ro;show¬(125=64∨125=79);decide
 ·show¬(90=77);decide
 ·obtain⟨es,ck,h1,h2⟩:=h.vars e hh;exact⟨es,ck,h1.an hk (by show¬(3=77);decide),h2⟩
def Ou.an {σ:List cx} (h:TS s p q v σ) (hg:Good s) (ha:Ou s s' p q v):eu TyT s s':=by
 refine⟨ha.1,ha.2.1,λj b hb ht=>?_⟩;have hj:j<s.nx:=by refine dg λhle=>?_;rw[hg.none j hle]at hb;cases hb
 rw[ha.2.2 j hj ?_ ?_ ?_];exact hb
 ·rintro rfl;have:=h.own;unfold ay at this;rw[this]at hb;cases hb;exact ht (.inl rfl)
 ·rintro rfl;have:=h.found;unfold cy at this;rw[this]at hb;cases hb;exact ht rfl
 ·rintro a m c rfl rfl;obtain⟨ob',ho,_⟩:=h.rows;generalize kV σ=R at ho;cases ho with
  |ex _ hr=>obtain⟨cc,h1,_⟩:=hr.row;rw[h1]at hb;cases hb;exact ht (.inr rfl)
  |lb _ hr=>obtain⟨cc,h1,_⟩:=hr.row;rw[h1]at hb;cases hb;exact ht (.inr rfl)
def Q5.out {σ:List cx} {kind:Nat} {id:Int} {l:List Nat} {text:ByteArray} {vc:LVal} (hg:Good s) (h:TS s p q v σ) (hp:Q5 s s' p q v σ kind id l text vc i):
  eu TyT s s'∧∃v' Ds,TS s' p q v' Ds∧(Ds=σ∨∃z b,Ds=σ++ [⟨kind,id,l.getD 0 0,l.getD 1 0,l.getD 2 0,text,vc,l.length,z,b⟩])∧∃hi:i<Ds.length,Ds[i].da=pj kind id l text:=by
 cases hp with
 |uC hi hk fN=>exact⟨fN.an hg,v,σ,h.ext hg fN.eb,.inl rfl,hi,hk⟩
 |new hn ha ht=>exact⟨ha.an h hg,_,_,ht,.inr ⟨_,_,rfl⟩,by simp,by simp[cx.da,pj,ea]⟩
structure dA where
 kind:Nat
 number:Int
 a0:Int
 a1:Int
 rest:List UInt8
 kv:Value
 kids:List Nat
 mz:LVal
 size:Nat
 text:List UInt8
def ec (kind:Nat) (number a0 a1:Int) (rest:List UInt8):LVal:= [aw (kind:Int),aw number,aw a0,aw a1,.string ⟨⟨rest⟩⟩]
def dA.key (e:dA):LVal:=ec e.kind e.number e.a0 e.a1 e.rest
def iQ (k:LVal) (kv:Value) (mz:LVal) (size:Int) (text:List UInt8):LVal:=k++kv::mz++ [aw size,.string ⟨⟨text⟩⟩]
def dA.row (e:dA):LVal:=iQ e.key e.kv e.mz (e.size:Int) e.text
def pO (l:LVal):Prop:=l.length=5∧cP l=true∧∀v∈l,Flat v
def j8 (φ:List dA):List LVal:=φ.map dA.row
def nX:List dA->List (Value×Value×Nat)
 | []=> []
 |e::φ=>(.agg ⟨e.key⟩,aw (φ.length:Int),φ.length+1)::nX φ
structure LV where
 lp:Nat
 p:Nat
 q:Nat
 v:Value
 fq:Nat
 fv:Value
 av:Value
 aq:Nat
structure LS (s:AS) (d:LV) (σ:List cx) (φ:List dA):Prop where
 own:ay s d.lp 64 [a8 d.p,d.fv,.map (some d.fq),d.av,.map (some d.aq)]
 ts:TS s d.p d.q d.v σ
 rows:∃ob',Own 0 s 79 13 d.fv (j8 φ) ob'
 found:cy s d.fq 77 (nX φ.reverse) φ.length
 uc:∀e∈φ,pO e.mz
 kids:∀e∈φ,Sl s.nx s 3 1 e.kv (ints e.kids)
 Iv:φ.length<=900000
 nodup:(φ.map dA.key).Nodup
def gR (φ:List dA):(j8 φ).length=φ.length:=by unfold j8;simp
def j5 {φ:List dA} (h:i<φ.length):(j8 φ)[i]'(by rw[gR];exact h)=φ[i].row:=by unfold j8;simp
def pW {k:LVal} {kv:Value} {mz:LVal} {size:Int} {text:List UInt8} (hk:k.length=5) (hl:pO mz):(iQ k kv mz size text).length=13:=by unfold iQ;simp[hk,hl.1]
def dA.dT (e:dA) (h:pO e.mz):e.row.length=13:=pW rfl h
def V7 (b o m c:Nat):Flat (.slice (some ⟨b,o,none⟩) m c):= λd hd=>by
 obtain⟨d,rfl⟩:∃e,d=e+1:=⟨d-1,by omega⟩
 show aD (nZ ⟨b,o,none⟩ ⟨b,o,none⟩) (aD (Nat.beq m m) (Nat.beq c c) false) false=true;rw[jB,bj,bj];rfl
def Sl.flat {sz:Nat} (h:Sl n s et sz v rows):Flat v∧dZ v=true:=by
 cases h with
 |nil=>exact⟨jL,rfl⟩
 |mk hb h hl hr hc hx=>exact⟨V7 _ _ _ _,rfl⟩
def DY (kind:Nat) (number a0 a1:Int) (rest:List UInt8):∀v∈ec kind number a0 a1 rest,Flat v:= λv hv=>by
 simp only[ec,bu,aX,db]at hv;rcases hv with rfl|rfl|rfl|rfl|rfl
 ·exact gk _ _
 ·exact gk _ _
 ·exact gk _ _
 ·exact gk _ _
 ·exact rL _
def KM {kind:Nat} {number a0 a1:Int} {rest:List UInt8} {kv:Value} {mz:LVal} {size:Int} {text:List UInt8} (hk:Flat kv) (hl:pO mz):∀v∈iQ (ec kind number a0 a1 rest) kv mz size text,Flat v:= λv hv=>by
 simp only[iQ,pA,ey,xg,bu,aX,db]at hv;rcases hv with h|rfl|h|rfl|rfl
 ·exact DY _ _ _ _ _ v h
 ·exact hk
 ·exact hl.2.2 v h
 ·exact gk _ _
 ·exact rL _
def tV (h:dZ v=true) (hl:cP l=true):cP (v::l)=true:=by show aD (dZ v) (cP l) false=true;rw[h,aS];exact hl
def Pj {kind:Nat} {number a0 a1:Int} {rest:List UInt8} {kv:Value} {mz:LVal} {size:Int} {text:List UInt8} (hk:dZ kv=true) (hl:pO mz):cP (iQ (ec kind number a0 a1 rest) kv mz size text)=true:=by unfold iQ;exact lX (lX rfl (tV hk hl.2.1)) rfl
def adz (kind:Nat) (number a0 a1:Int) (rest:List UInt8) (aa9:Nat) (aix a0' a1':Int) (aDA:List UInt8):∃b,vn 8 (.agg ⟨ec kind number a0 a1 rest⟩) (.agg ⟨ec aa9 aix a0' a1' aDA⟩)=some b:=by
 refine V0 (d:=7) (Mu rfl λi h h'=>?_);rcases i with _|_|_|_|_|i
 ·exact⟨_,ly 6 _ _ _⟩
 ·exact⟨_,ly 6 _ _ _⟩
 ·exact⟨_,ly 6 _ _ _⟩
 ·exact⟨_,ly 6 _ _ _⟩
 ·exact⟨_,VZ 6 _ _⟩
 ·simp[ec]at h;omega
def AW:∀ {φ:List dA} {x:Value×Value×Nat},x∈nX φ->∃e∈φ,x.1= .agg ⟨e.key⟩
 | [],x,h=>by cases h
 |e::φ,x,h=>by
  rcases List.mem_cons.1 h with rfl|h
  ·exact⟨e,by simp,rfl⟩
  ·obtain⟨e',h1,h2⟩:=AW h;exact⟨e',by simp[h1],h2⟩
def Ff (kind:Nat) (number a0 a1:Int) (rest:List UInt8) (φ:List dA):Keys (.agg ⟨ec kind number a0 a1 rest⟩) (nX φ):= λx hx=>by obtain⟨e,_,h⟩:=AW hx;rw[h];exact adz _ _ _ _ _ _ _ _ _ _
def H4:∀(φ:List dA),(nX φ).map (·.1)=φ.map λe=>Value.agg ⟨e.key⟩
 | []=>rfl
 |e::φ=>by rw[nX,br,br,H4 φ]
def H5:∀(φ:List dA) (j:Nat) (h:j<φ.length),(Value.agg ⟨φ[j].key⟩,Value.int .i64 ((φ.length-1-j:Nat):Int),φ.length-j)∈nX φ
 | [],j,h=>by simp at h
 |e::φ,0,h=>by simp[nX]
 |e::φ,j+1,h=>by
  have hj:j<φ.length:=by simpa using h
  have:=H5 φ j hj;refine cV _ ?_;have e1:(e::φ).length-1-(j+1)=φ.length-1-j:=by simp;omega
  have e2:(e::φ).length-(j+1)=φ.length-j:=by simp
  rw[e1,e2];exact this
def TC {φ:List dA} (h:(φ.map dA.key).Nodup):((nX φ.reverse).map (·.1)).Nodup:=by
 rw[H4,List.map_reverse];refine(List.Perm.nodup_iff (List.reverse_perm _)).2 ?_;have:(φ.map λe=>Value.agg ⟨e.key⟩)=(φ.map dA.key).map λl=>Value.agg ⟨l⟩:=by simp
 rw[this];exact List.pairwise_map.2 (S4 (λjJ e=>jJ (by injection e with e;injection e)) h)
def TD {φ:List dA} (h:(φ.map dA.key).Nodup) (hi:i<φ.length):jj (.agg ⟨φ[i].key⟩) (nX φ.reverse)=some (some (aw (i:Int),i+1)):=by
 have hm:=H5 φ.reverse (φ.length-1-i) (by simp;omega);have e0:φ.reverse[φ.length-1-i]'(by simp;omega)=φ[i]:=by rw[List.getElem_reverse];congr 1;omega
 rw[e0]at hm;have e1:φ.reverse.length-1-(φ.length-1-i)=i:=by simp;omega
 have e2:φ.reverse.length-(φ.length-1-i)=i+1:=by simp;omega
 rw[e1,e2]at hm;exact Cm (Ff φ[i].kind φ[i].number φ[i].a0 φ[i].a1 φ[i].rest _) (TC h) hm
def Qd {φ:List dA} {kind:Nat} {number a0 a1:Int} {rest:List UInt8} (h:∀e∈φ,e.key≠ec kind number a0 a1 rest):jj (.agg ⟨ec kind number a0 a1 rest⟩) (nX φ.reverse)=some none:=
 uV (Ff _ _ _ _ _ _) λx hx e=>by
  obtain⟨e',h1,h2⟩:=AW hx;rw[h2]at e;injection e with e;injection e with e
  exact h e' (by simpa using h1) e
def LS.ext {s s':AS} {d:LV} {σ:List cx} {φ:List dA} (h:LS s d σ φ) (hg:Good s) (fN:Grown s.nx s s'):LS s' d σ φ:=by obtain⟨ob',ho⟩:=h.rows;have hk:eu (λ_=>False) s s':=fN.an hg;exact⟨h.own.an hk id,h.ts.ext hg fN.eb,⟨ob',ho.an hk λ_ _ _=>id⟩,h.found.an hk id,h.uc,λe he=>((h.kids e he).ext fN.eb).le fN.nx,h.Iv,h.nodup⟩
def LS.sl {s:AS} {d:LV} {σ:List cx} {φ:List dA} (h:LS s d σ φ) (hg:Good s):Sl s.nx s 79 13 d.fv (j8 φ):=by obtain⟨ob',ho⟩:=h.rows;exact Own.sl hg (by decide) ho
def LS.len {s:AS} {d:LV} {σ:List cx} {φ:List dA} (h:LS s d σ φ) (hg:Good s):dH [d.fv]=some (aw (φ.length:Int)):=by have:=(h.sl hg).len;rwa[gR]at this
def LS.al2 {d:LV} {σ Ds:List cx} {φ:List dA} (h:LS s d σ φ) (hk:eu TyT s s') (ht:TS s' d.p d.q v' Ds):LS s' {d with v:=v'} Ds φ:=by
 obtain⟨ob',ho⟩:=h.rows;refine⟨h.own.an hk ?_,ht,⟨ob',ho.an hk ?_⟩,h.found.an hk ?_,h.uc,λe he=>((h.kids e he).an hk ?_).le hk.nx,h.Iv,h.nodup⟩
 ·show¬(64=118∨64=125);decide
 ·intro c m ro;show¬(79=118∨79=125);decide
 ·show¬(77=90);decide
 ·intro c m ro;show¬(3=118∨3=125);decide
def qw (n f:Nat) (a b args:LVal) (s:AS):aE (n+1) (.func (.func f) ⟨a⟩ ⟨b⟩) args s=aE (n+1) (dJ f) (a++args++b) s:=by show oR Out .no (λF=>F (jH prog cC ga n) (app a (app args b)) s) (pK prog cC ga f)=oR Out .no (λF=>F (jH prog cC ga n) (app [] (app (a++args++b) [])) s) (pK prog cC ga f);rw[mW,mW,mW,mW];simp
variable {σ:List cx} {φ fj:List dA} {d d':LV}
def u7:isAgg prog 77=some true:=by kernel_rfl
def zE:dc prog 77=some 5:=by kernel_rfl
def ny:isAgg prog 79=some true:=by kernel_rfl
def nz:dc prog 79=some 13:=by kernel_rfl
def iC:isAgg prog 61=some false:=by kernel_rfl
def D8:isAgg prog 59=some false:=by kernel_rfl
def D9:keyOf prog 59=some (77,3):=by kernel_rfl
def YM:jv prog 5 77=some [.int .i64,.int .i64,.int .i64,.int .i64,.str]:=by kernel_rfl
def YN:fu prog 61=some 79:=by kernel_rfl
def YO:dW prog 79=some (13,[aw 0,aw 0,aw 0,aw 0,.string ⟨⟨[]⟩⟩,.slice none 0 0,.bool false,.slice none 0 0,.slice none 0 0,.slice none 0 0,.slice none 0 0,aw 0,.string ⟨⟨[]⟩⟩]):=by kernel_rfl
def DZ (kind:Nat) (number a0 a1:Int) (rest:List UInt8):eB prog 77 (.agg ⟨ec kind number a0 a1 rest⟩)=true:=by unfold eB;rw[YM];show m6 (isAgg prog 77) _ _=true;rw[u7];rfl
def ay.acg {us:LVal} (h:ay s b t vs) (hg:Good s) {o:Nat} (hu:us.length=k) (hle:o+k<=vs.length) (h0:0<k) (h1:cP us=true):jK k s (.pointer (some ⟨b,o,none⟩)) (.agg ⟨us⟩)=some (.tuple #[],s.wr b (some (ca t (vs.take o++us++vs.drop (o+k))))):=by show aD (Nat.beq (len us) k) (ob (Go.Eng.ij s b o us) λs'=>some (Value.tuple #[],s')) none=_;rw[dQ,hu,bj,aS,h.ij hg (by omega) (by omega) h1 (by omega),cg,hu]
def Own.jI {sz:Nat} (h:Own n s et sz v R (some q)):∃c m,s.h.get q=some (.cells c sz m false et):=by
 cases h with
 |ex _ hr=>obtain⟨c,e,_⟩:=hr.row;exact⟨c,_,e⟩
 |lb _ hr=>obtain⟨c,e,_⟩:=hr.row;exact⟨c,_,e⟩
def LS.grow {sB sF:AS} {e:dA} {Lz:Value} (Jc:Good sB) (h:LS sB d σ φ) (fR:φ.length<900000) (hk:eu RQ sB sF) (xq:pO e.mz) (WJ:Sl sB.nx sB 3 1 e.kv (ints e.kids)) (lG:∀x∈φ,x.key≠e.key) (lN:ay sF d.lp 64 [a8 d.p,Lz,.map (some d.fq),d.av,.map (some d.aq)]) (fL:bE sF b 79 13 false (j8 (φ++ [e]))) (hfv:Lz= .slice (some ⟨b,0,none⟩) (j8 (φ++ [e])).length (cq (j8 (φ++ [e])).length 13)) (asU:cy sF d.fq 77 ((.agg ⟨e.key⟩,aw (φ.length:Int),φ.length+1)::nX φ.reverse) (φ.length+1)):LS sF {d with fv:=Lz} σ (φ++ [e]):=by
 refine⟨lN,h.ts.an hk,⟨some b,?_⟩,?_,λx hx=>?_,λx hx=>?_,by simp;omega,?_⟩
 ·rw[show({d with fv:=Lz}:LV).fv=Lz from rfl,hfv];exact .lb (gS _) fL
 ·rw[List.reverse_append,ayL,aFG,nX,gh,bL,iY];exact asU
 ·rcases List.mem_append.1 hx with hx|hx
  ·exact h.uc x hx
  ·simp at hx;subst hx;exact xq
 ·rcases List.mem_append.1 hx with hx|hx
  ·exact((h.kids x hx).an hk (by intro c m ro;show¬(3=64∨3=79);decide)).le hk.nx
  ·simp at hx;subst hx;exact(WJ.an hk (by intro c m ro;show¬(3=64∨3=79);decide)).le hk.nx
 ·rw[bS,List.map_singleton];refine List.nodup_append.2 ⟨h.nodup,by simp,λa ha b' iR=>?_⟩;obtain⟨x,hx,rfl⟩:=List.mem_map.1 ha;simp at iR;subst iR;exact lG x hx
def Gy (n:Nat) (s:AS) (tell:Value) (z:Nat) (tx:List UInt8):Prop:=∀s1,Good s1->Grown s.nx s s1->cp (aE n tell [] s1) (λr s2=>r= .tuple #[aw (z:Int),.string ⟨⟨tx⟩⟩]∧Grown s1.nx s1 s2)
def adA (n:Nat) (hg:Good s) (h:LS s d σ φ) {kind:Nat} {number a0 a1:Int} {rest:List UInt8} {kv:Value} {mz:LVal} {tell:Value} (hi:i<φ.length) (hk:φ[i].key=ec kind number a0 a1 rest):
  cp (aE (n+1) (dJ 66) [a8 d.lp,.agg ⟨ec kind number a0 a1 rest⟩,.agg ⟨iQ (ec 0 0 0 0 []) kv mz 0 []⟩,tell] s) (λr s'=>r=aw (i:Int)∧Grown s.nx s s'):=by
 rw[awU];refine bG (by simp) λm hm=>?_;have h0:m.get 0=some (a8 d.lp):=by rw[hm];rfl
 have h1:m.get 1=some (.agg ⟨ec kind number a0 a1 rest⟩):=by rw[hm];rfl
 have h2:m.get 2=some (.agg ⟨iQ (ec 0 0 0 0 []) kv mz 0 []⟩):=by rw[hm];rfl
 clear hm;obtain⟨s1,dm⟩:=dO (s.add (ca 77 (ec kind number a0 a1 rest)));have dv:=cz dm hg;have QZ:s1.nx=s.nx+1:=by rw[dm];rfl
 have rV:=jS dm hg;obtain⟨s2,ee⟩:=dO (s1.add (ca 79 (iQ (ec 0 0 0 0 []) kv mz 0 [])));have dI:=cz ee dv;have fN:Grown s.nx s s2:=by rw[ee,dm];exact((Grown.refl hg _).add (af _) _).add (by rw[ep];omega) _
 have uA:ay s2 s.nx 77 (ec kind number a0 a1 rest):=by rw[ee];exact rV.add dv _
 have h':=h.ext hg fN;have Lv:=TD h'.nodup hi;rw[hk]at Lv;obtain⟨IU,_⟩:=Cn h'.found D9 (DZ kind number a0 a1 rest) Lv;have Zf:=cB (gj (DY kind number a0 a1 rest));have hta:qQ 12 (.tuple #[aw (i:Int),.bool true]) (.tuple #[aw (i:Int),.bool true])=true:=cB (HV λv hv=>by
  simp at hv;rcases hv with rfl|rfl
  ·exact gk _ _
  ·exact q8 _)
 have Aa:=uA.eA u7 zE (o:=0) (by simp[ec]) (by decide);rw[bK,aP (by simp[ec])]at Aa;have l2:=h'.own.ld D8 (o:=2) (by simp);simp only[ae,aZ]at l2;unfold c66;apply aJ;simp+decide only[ag,h1,h2,ez hg,<-dm,ez dv,<-ee];refine aT (aT (gY ?_));simp+decide only[ag,h0,cH,bO,aG,l2,Aa,IU,Zf,hta];apply aJ;simp+decide only[ag];refine iP (by simp+decide only[ag]) ?_;apply aJ;simp+decide only[ag];exact aR (b6 (.inr rfl) (by simp+decide only[ag]) ⟨rfl,fN⟩)
def adB (n:Nat) (hg:Good s) (h:LS s d σ φ) {kind:Nat} {number a0 a1:Int} {rest:List UInt8} {kv:Value} {mz:LVal} {tell:Value} {kids:List Nat} {z:Nat} {tx:List UInt8} (WJ:Sl s.nx s 3 1 kv (ints kids)) (xq:pO mz) (fR:φ.length<900000) (ht:Gy n s tell z tx) (lG:∀e∈φ,e.key≠ec kind number a0 a1 rest):
  cp (aE (n+1) (dJ 66) [a8 d.lp,.agg ⟨ec kind number a0 a1 rest⟩,.agg ⟨iQ (ec 0 0 0 0 []) kv mz 0 []⟩,tell] s) (λr s'=>r=aw (φ.length:Int)∧eu RQ s s'∧∃Lz,LS s' {d with fv:=Lz} σ (φ++ [⟨kind,number,a0,a1,rest,kv,kids,mz,if 4096<z then 4097 else z,if 4096<z then []else tx⟩])):=by
 rw[awU];refine bG (by simp) λm hm=>?_;have h0:m.get 0=some (a8 d.lp):=by rw[hm];rfl
 have h1:m.get 1=some (.agg ⟨ec kind number a0 a1 rest⟩):=by rw[hm];rfl
 have h2:m.get 2=some (.agg ⟨iQ (ec 0 0 0 0 []) kv mz 0 []⟩):=by rw[hm];rfl
 have h3:m.get 3=some tell:=by rw[hm];rfl
 clear hm;obtain⟨K,hK⟩:=dO (ec kind number a0 a1 rest);have hKl:K.length=5:=by rw[hK];rfl
 have vY:=WJ.flat;obtain⟨s1,dm⟩:=dO (s.add (ca 77 K));have dv:=cz dm hg;have QZ:s1.nx=s.nx+1:=by rw[dm];rfl
 have rV:=jS dm hg;obtain⟨s2,ee⟩:=dO (s1.add (ca 79 (iQ (ec 0 0 0 0 []) kv mz 0 [])));have dI:=cz ee dv;have Q4:s2.nx=s.nx+2:=by rw[ee,ep,QZ]
 have fN:Grown s.nx s s2:=by rw[ee,dm];exact((Grown.refl hg _).add (af _) _).add (by rw[ep];omega) _
 have uA:ay s2 s.nx 77 K:=by rw[ee];exact rV.add dv _
 have Nv:=jS ee dv;rw[QZ]at Nv;have h':=h.ext hg fN;have Lv:=Qd (φ:=φ) lG;obtain⟨IU,_⟩:=zr h'.found D9 (DZ kind number a0 a1 rest) Lv Hh;have Zf:=cB (gj (DY kind number a0 a1 rest));rw[<-hK]at IU Zf h1 lG;have hta:qQ 12 (.tuple #[aw 0,.bool false]) (.tuple #[aw 0,.bool false])=true:=rfl;have Aa:=uA.eA u7 zE (o:=0) (by omega) (by decide);rw[bK,aP (by omega)]at Aa;have l2:=h'.own.ld D8 (o:=2) (by simp);simp only[ae,aZ]at l2;unfold c66;apply aJ;simp+decide only[ag,h1,h2,ez hg,<-dm,ez dv,<-ee,QZ];refine aT (aT (gY ?_));simp+decide only[ag,h0,cH,bO,aG,l2,Aa,IU,Zf,hta];apply aJ;simp+decide only[ag];refine dD (by simp+decide only[ag]) ?_;simp+decide only[ag];have hr0:(iQ (ec 0 0 0 0 []) kv mz 0 []).length=13:=pW rfl xq;have fU:=Nv.acg dI (o:=0) (us:=K) (k:=5) hKl (by omega) (by decide) (by rw[hK];rfl);have aDB:(iQ (ec 0 0 0 0 []) kv mz 0 []).take 0++K++(iQ (ec 0 0 0 0 []) kv mz 0 []).drop (0+5)=iQ K kv mz 0 []:=by simp[iQ,ec]
 rw[aDB]at fU;have afV:=Nv.lt dI;obtain⟨s3,gy⟩:=dO (s2.wr (s.nx+1) (some (ca 79 (iQ K kv mz 0 []))));rw[<-gy]at fU;have gQ:Good s3:=by rw[gy];exact bZ dI afV _
 have Ze:s3.nx=s.nx+2:=by rw[gy];exact Q4
 have sq:Grown s.nx s s3:=by rw[gy];exact fN.wr (by omega) afV _
 have hx3:ay s3 (s.nx+1) 79 (iQ K kv mz 0 []):=by rw[gy];exact ay.set dI afV 79 _
 have hk3:ay s3 s.nx 77 K:=by rw[gy];exact uA.wr dI afV (by omega) _
 apply aJ;simp+decide only[ag,bO,aG,Aa,fU];obtain⟨r,s4,e4,rfl,qH⟩:=ht s3 gQ sq;have iI:=qH.bt;have hx4:=hx3.grown qH (by omega);have hk4:=hk3.grown qH (by omega);have xM:Grown s.nx s s4:=sq.trans (qH.le sq.nx);have IZ:=hx4.Fu iI (o:=11) (v:=aw (z:Int)) (by rw[pW hKl xq];decide) rfl rfl;obtain⟨a,b,c,f,g,rfl⟩:∃a b c f g,mz= [a,b,c,f,g]:=by
  have:=xq.1;rcases mz with _|⟨a,_|⟨b,_|⟨c,_|⟨f,_|⟨g,_|⟨x,l⟩⟩⟩⟩⟩⟩<;>simp at this
  exact⟨_,_,_,_,_,rfl⟩
 have Oy:(iQ K kv [a,b,c,f,g] 0 []).set 11 (aw (z:Int))=iQ K kv [a,b,c,f,g] (z:Int) []:=by rw[hK];rfl
 rw[Oy]at IZ;have afW:=hx4.lt iI;obtain⟨s5,oE⟩:=dO (s4.wr (s.nx+1) (some (ca 79 (iQ K kv [a,b,c,f,g] (z:Int) []))));rw[<-oE]at IZ;have jm:Good s5:=by rw[oE];exact bZ iI afW _
 have hx5:ay s5 (s.nx+1) 79 (iQ K kv [a,b,c,f,g] (z:Int) []):=by rw[oE];exact ay.set iI afW 79 _
 have Zg:ay s5 s.nx 77 K:=by rw[oE];exact hk4.wr iI afW (by omega) _
 have hn5:s5.nx=s4.nx:=by rw[oE];rfl
 have p4:Grown s.nx s s5:=by rw[oE];exact xM.wr (by omega) afW _
 have NI:=hx5.Fu jm (o:=12) (v:= .string ⟨⟨tx⟩⟩) (by rw[pW hKl xq];decide) rfl rfl;have Gz:(iQ K kv [a,b,c,f,g] (z:Int) []).set 12 (.string ⟨⟨tx⟩⟩)=iQ K kv [a,b,c,f,g] (z:Int) tx:=by rw[hK];rfl
 rw[Gz]at NI;have afX:=hx5.lt jm;obtain⟨s6,qj⟩:=dO (s5.wr (s.nx+1) (some (ca 79 (iQ K kv [a,b,c,f,g] (z:Int) tx))));rw[<-qj]at NI;have lZ:Good s6:=by rw[qj];exact bZ jm afX _
 have hx6:ay s6 (s.nx+1) 79 (iQ K kv [a,b,c,f,g] (z:Int) tx):=by rw[qj];exact ay.set jm afX 79 _
 have hk6:ay s6 s.nx 77 K:=by rw[qj];exact Zg.wr jm afX (by omega) _
 have hn6:s6.nx=s4.nx:=by rw[qj];exact hn5
 have Ai:Grown s.nx s s6:=by rw[qj];exact p4.wr (by omega) afX _
 apply aJ;simp+decide only[ag,h3,e4,bO,aG,IZ,NI];have Nx:=hx6.ld bM (o:=11) (by rw[pW hKl xq];decide);have Ll:(iQ K kv [a,b,c,f,g] (z:Int) tx)[11]'(by rw[pW hKl xq];decide)=aw (z:Int):=by subst hK;rfl
 rw[Ll]at Nx;obtain⟨z',hz'⟩:=dO (if 4096<z then 4097 else z);obtain⟨tx',ZQ⟩:=dO (if 4096<z then []else tx);rw[<-hz',<-ZQ];refine aT (WC.mono (Q:= λx m' s7=>x= .normal∧m'.get 0=some (a8 d.lp)∧m'.get 5=some (a8 s.nx)∧m'.get 6=some (a8 (s.nx+1))∧Grown s.nx s s7∧s7.nx=s4.nx∧ay s7 (s.nx+1) 79 (iQ K kv [a,b,c,f,g] (z':Int) tx')∧ay s7 s.nx 77 K) ?_ ?_)
 ·apply aJ;simp+decide only[ag,bO,aG,Nx];refine cK (decide ((4096:Int)<(z:Int))) (by simp+decide only[ag]) ?_;by_cases hb:4096<z
  ·rw[aU hb]at hz' ZQ;rw[show decide ((4096:Int)<(z:Int))=true from aL (by omega)];simp+decide only[ag];have I3:=hx6.Fu lZ (o:=11) (v:=aw 4097) (by rw[pW hKl xq];decide) rfl rfl;have UR:(iQ K kv [a,b,c,f,g] (z:Int) tx).set 11 (aw 4097)=iQ K kv [a,b,c,f,g] 4097 tx:=by rw[hK];rfl
   rw[UR]at I3;have afY:=hx6.lt lZ;obtain⟨s7,rF⟩:=dO (s6.wr (s.nx+1) (some (ca 79 (iQ K kv [a,b,c,f,g] 4097 tx))));rw[<-rF]at I3;have rX:Good s7:=by rw[rF];exact bZ lZ afY _
   have hx7:ay s7 (s.nx+1) 79 (iQ K kv [a,b,c,f,g] 4097 tx):=by rw[rF];exact ay.set lZ afY 79 _
   have hk7:ay s7 s.nx 77 K:=by rw[rF];exact hk6.wr lZ afY (by omega) _
   have hn7:s7.nx=s4.nx:=by rw[rF];exact hn6
   have WK:Grown s.nx s s7:=by rw[rF];exact Ai.wr (by omega) afY _
   have axQ:=hx7.Fu rX (o:=12) (v:= .string ⟨⟨[]⟩⟩) (by rw[pW hKl xq];decide) rfl rfl;have aDC:(iQ K kv [a,b,c,f,g] 4097 tx).set 12 (.string ⟨⟨[]⟩⟩)=iQ K kv [a,b,c,f,g] 4097 []:=by rw[hK];rfl
   rw[aDC]at axQ;have aon:=hx7.lt rX;apply ar;simp+decide only[ag,bO,aG,I3,axQ];refine⟨by simp+decide only[ag,h0],WK.wr (by omega) aon _,hn7,?_,hk7.wr rX aon (by omega) _⟩;rw[hz',ZQ];exact ay.set rX aon 79 _
  ·rw[aC hb]at hz' ZQ;rw[show decide ((4096:Int)<(z:Int))=false from az (by omega)];simp+decide only[ag];exact aR ⟨rfl,by simp+decide only[ag,h0],by simp+decide only[ag],by simp+decide only[ag],Ai,hn6,by rw[hz',ZQ];exact hx6,hk6⟩
 rintro x m s7 ⟨rfl,h0,h5,h6,WK,hn7,hx7,hk7⟩;simp+decide only[ag];obtain⟨e,he⟩:∃e:dA,e=⟨kind,number,a0,a1,rest,kv,kids,[a,b,c,f,g],z',tx'⟩:=⟨_,rfl⟩
 have fL:iQ K kv [a,b,c,f,g] (z':Int) tx'=e.row:=by rw[he,hK];rfl
 have JM:e.key=K:=by rw[he,hK];rfl
 have Nr:pO e.mz:=by rw[he];exact xq
 have yN:=e.dT Nr;have aDD:cP e.row=true:=by rw[<-fL,hK];exact Pj vY.2 xq
 have asV:∀v∈e.row,Flat v:=by rw[<-fL,hK];exact KM vY.1 xq
 rw[fL]at hx7;have rX:=WK.bt;have ZK:=hx7.eA ny nz (o:=0) (by omega) (by decide);rw[bK,aP (by omega)]at ZK;have qR:=V1 (t:=61) (v:= .agg ⟨e.row⟩) rX YN YO (by decide) yN;rw[dn]at qR;obtain⟨sB,BM⟩:=dO (s7.row 79 13 [e.row]);rw[<-BM]at qR;have Jc:=cz BM rX;have abg:Grown s7.nx s7 sB:=by rw[BM];exact(Grown.refl rX _).row (af _) _ _ _
 have Rq:Grown s.nx s sB:=WK.trans (abg.le WK.nx);have aKF:=h.ext hg WK;have Gf:=h.ext hg Rq;have hyB:Sl sB.nx sB 79 13 (.slice (some ⟨s7.nx,0,none⟩) 1 (bH 1)) [e.row]:=by have:=bE.new rX 79 13 [e.row];rw[<-BM]at this;exact Sl.full (R:= [e.row]) (this.lt Jc) this (by rw[(cR 1).1];exact af 1) (.inl (cR 1).2)
 obtain⟨ob',ho⟩:=Gf.rows;have aKG:∀r∈j8 φ,r.length=13:= λr hr=>by obtain⟨x,hx,rfl⟩:=List.mem_map.1 hr;exact x.dT (h.uc x hx)
 have oA:=ze ho hyB Jc (by decide) (by decide) aKG (λr hr=>by simp at hr;subst hr;exact yN) (λr hr=>by simp at hr;subst hr;exact aDD) (by rw[gR];simp;omega) (by simp);have aDE:j8 φ++ [e.row]=j8 (φ++ [e]):=by unfold j8;simp
 rw[aDE]at oA;have hxB:=hx7.grown abg (hx7.lt rX);have hkB:=hk7.grown abg (hk7.lt rX);have Ov:=hxB.eA ny nz (o:=0) (by omega) (by decide);rw[bK,aP (by omega)]at Ov;obtain⟨sC,AA⟩:∃sC,sC=(cW sB d.fv).row 79 13 (j8 (φ++ [e])):=⟨_,rfl⟩
 rw[<-AA]at oA;have Bg:=Kw ho Jc;have hnD:(cW sB d.fv).nx=sB.nx:=BW _ _;have Fv:=cz AA Bg;have hnC:sC.nx=sB.nx+1:=by rw[AA,tN,hnD]
 have ach:eu RQ sB sC:=by
  refine⟨Fv,by omega,λj bk hb ht=>?_⟩;have hj:j<sB.nx:=by refine dg λhle=>?_;rw[Jc.none j hle]at hb;cases hb
  rw[AA,vQ Bg _ _ _ (by omega),G5 ho Jc j (λq hq hjq=>?_)]
  ·exact hb
  ·subst hjq;rw[hq]at ho;obtain⟨cc,mm,e1⟩:=ho.jI;rw[e1]at hb;cases hb;exact ht (.inr rfl)
 have aDF:∀q,ob'=some q->q≠d.lp:= λq hq hql=>by subst hql;have h4:=Gf.own;unfold ay at h4;rw[hq]at ho;obtain⟨cc,mm,e1⟩:=ho.jI;rw[e1]at h4;cases h4
 have asW:∀q,ob'=some q->q≠d.fq:= λq hq hql=>by subst hql;have h4:=Gf.found;unfold cy at h4;rw[hq]at ho;obtain⟨cc,mm,e1⟩:=ho.jI;rw[e1]at h4;cases h4
 have aKH:=Gf.own.lt Jc;have aKI:=Gf.found.lt Jc;have hlq:d.lp≠d.fq:= λhql=>by have h4:=Gf.own;have h5:=Gf.found;unfold ay at h4;unfold cy at h5;rw[hql,h5]at h4;cases h4
 have Ow:∀j,j<sB.nx->(∀q,ob'=some q->j≠q)->sC.h.get j=sB.h.get j:= λj hj hb=>by rw[AA,vQ Bg _ _ _ (by omega)];exact G5 ho Jc j hb
 have hpC:=Gf.own.eq (Ow d.lp aKH λq hq=>(aDF q hq).symm);have WM:=hpC.Fu Fv (o:=1) (by simp) (v:= .slice (some ⟨sB.nx,0,none⟩) (j8 (φ++ [e])).length (cq (j8 (φ++ [e])).length 13)) rfl rfl;rw[List.set_cons_succ,dM]at WM;have l1:=aKF.own.ld iC (o:=1) (by simp);have l1B:=Gf.own.ld iC (o:=1) (by simp);simp only[ae,aZ]at l1 l1B;apply lV;simp+decide only[ag,h0,h6,cH,bO,aG,l1,l1B,ZK,Ov,qR,oA,WM,cB (gj asV),cB (h.sl hg).same];obtain⟨Lz,afZ⟩:=dO (Value.slice (some ⟨sB.nx,0,none⟩) (j8 (φ++ [e])).length (cq (j8 (φ++ [e])).length 13));rw[<-afZ];obtain⟨sE,CW⟩:=dO (sC.wr d.lp (some (ca 64 [a8 d.p,Lz,.map (some d.fq),d.av,.map (some d.aq)])));rw[<-CW];have ZR:d.lp<sC.nx:=by omega
 have EE:Good sE:=by rw[CW];exact bZ Fv ZR _
 have hnE:sE.nx=sC.nx:=by rw[CW];rfl
 have hpE:ay sE d.lp 64 [a8 d.p,Lz,.map (some d.fq),d.av,.map (some d.aq)]:=by rw[CW];exact ay.set Fv ZR 64 _
 have hqE:=Gf.found.eq (s':=sE) (by rw[CW,cj Fv ZR,aC hlq.symm];exact Ow d.fq aKI λq hq=>(asW q hq).symm);have aci:eu RQ sC sE:=by
  refine⟨EE,by omega,λj bk hb ht=>?_⟩;rw[CW,cj Fv ZR];split
  ·rename_i hj;subst hj;unfold ay at hpC;rw[hpC]at hb;cases hb;exact(ht (.inl rfl)).elim
  ·exact hb
 have hkE:ay sE s.nx 77 K:=(hkB.an ach (by show¬(77=64∨77=79);decide)).an aci (by show¬(77=64∨77=79);decide);have ZL:=hkE.eA u7 zE (o:=0) (by omega) (by decide);rw[bK,aP (by omega)]at ZL;have hlv:dH [Lz]=some (aw ((φ.length+1:Nat):Int)):=by rw[afZ];show some (Value.int .i64 (Int.ofNat (j8 (φ++ [e])).length))=_;simp[gR]
 have Vo:jg Lz:=by rw[afZ];exact FP _ _ _ _
 have JK:IntKind.i64.wrap (((φ.length+1:Nat):Int)-1)=(φ.length:Int):=by rw[wrap_i64 (by omega)];omega
 have NK:=BX (v:=aw (φ.length:Int)) EE hqE D9 (DZ kind number a0 a1 rest) Lv;rw[<-hK]at NK;have Ge:d.fq<sE.nx:=by omega
 have l2E:=hpE.ld D8 (o:=2) (by simp);have l1E:=hpE.ld iC (o:=1) (by simp);simp only[ae,aZ]at l1E l2E;apply lV;simp+decide only[ag,h0,h5,cH,bO,aG,l1E,l2E,ZL,Zf,hlv,JK,NK,cB Vo];obtain⟨sF,BN⟩:=dO (sE.wr d.fq (some (.map 77 ((.agg ⟨K⟩,aw (φ.length:Int),φ.length+1)::nX φ.reverse) (φ.length+1))));rw[<-BN];have hgF:Good sF:=by rw[BN];exact bZ EE Ge _
 have asX:eu RQ sE sF:=by
  refine⟨hgF,by rw[BN];exact af _,λj bk hb ht=>?_⟩;rw[BN,cj EE Ge];split
  ·rename_i hj;subst hj;unfold cy at hqE;rw[hqE]at hb;cases hb;exact(ht rfl).elim
  ·exact hb
 have hpF:ay sF d.lp 64 [a8 d.p,Lz,.map (some d.fq),d.av,.map (some d.aq)]:=by rw[BN];exact hpE.wr EE Ge hlq _
 have l1F:=hpF.ld iC (o:=1) (by simp);simp only[ae,aZ]at l1F;apply aJ;simp+decide only[ag,h0,cH,bO,aG,l1F,hlv,JK];have axR:=(ach.trans aci).trans asX;refine aR (b6 (.inr rfl) (by simp+decide only[ag]) ⟨rfl,(Rq.an hg).trans axR,Lz,?_⟩);rw[<-he];refine Gf.grow (b:=sB.nx) Jc fR axR Nr ?_ (by rw[JM];exact lG) hpF ?_ afZ ?_
 ·rw[he];exact(WJ.ext Rq.eb).le Rq.nx
 ·have uh:=bE.new Bg 79 13 (j8 (φ++ [e]));rw[<-AA,hnD]at uh;refine uh.ext ?_;rw[BN,cj EE Ge,aC (by omega),CW,cj Fv ZR,aC (by omega)]
 ·rw[JM,BN];exact cy.set EE Ge 77 _ _
inductive su (s s':AS) (d:LV) (σ:List cx) (φ:List dA) (e:dA):Nat->LV->List dA->Prop where
 |uC {i:Nat} (hi:i<φ.length) (hk:φ[i].key=e.key) (fN:Grown s.nx s s'):su s s' d σ φ e i d φ
 |new {Lz:Value} (hn:∀x∈φ,x.key≠e.key) (hk:eu RQ s s') (h:LS s' {d with fv:=Lz} σ (φ++ [e])):su s s' d σ φ e φ.length {d with fv:=Lz} (φ++ [e])
def su.ls {e:dA} (hg:Good s) (h:LS s d σ φ) (hp:su s s' d σ φ e i d' fj):LS s' d' σ fj∧eu RQ s s'∧∃hi:i<fj.length,fj[i].key=e.key:=by
 cases hp with
 |uC hi hk fN=>exact⟨h.ext hg fN,fN.an hg,hi,hk⟩
 |new hn hk hl=>exact⟨hl,hk,by simp,by simp⟩
def su.before {s2:AS} {e:dA} (hg:Good s) (fN:Grown s.nx s s2) (h:su s2 s' d σ φ e i d' fj):su s s' d σ φ e i d' fj:=by
 cases h with
 |uC hi hk Ay=>exact .uC hi hk (fN.trans (Ay.le fN.nx))
 |new hn hk h=>exact .new hn ((fN.an hg).trans hk) h
def B4 (n:Nat) (hg:Good s) (h:LS s d σ φ) {kind:Nat} {number a0 a1:Int} {rest:List UInt8} {kv:Value} {mz:LVal} {tell:Value} {kids:List Nat} {z:Nat} {tx:List UInt8} (WJ:Sl s.nx s 3 1 kv (ints kids)) (xq:pO mz) (fR:φ.length<900000) (ht:Gy n s tell z tx):
  cp (aE (n+1) (dJ 66) [a8 d.lp,.agg ⟨ec kind number a0 a1 rest⟩,.agg ⟨iQ (ec 0 0 0 0 []) kv mz 0 []⟩,tell] s) (λr s'=>∃i d' fj,r=aw ((i:Nat):Int)∧su s s' d σ φ ⟨kind,number,a0,a1,rest,kv,kids,mz,if 4096<z then 4097 else z,if 4096<z then []else tx⟩ i d' fj):=by
 by_cases hh:∃i,∃hi:i<φ.length,φ[i].key=ec kind number a0 a1 rest
 ·obtain⟨i,hi,hk⟩:=hh;obtain⟨r,s',e1,e2,e3⟩:=adA n hg h (kv:=kv) (mz:=mz) (tell:=tell) hi hk;exact⟨r,s',e1,i,d,φ,e2,.uC hi hk e3⟩
 ·have lG:∀e∈φ,e.key≠ec kind number a0 a1 rest:= λe he hk=>by
   obtain⟨i,hi,rfl⟩:=List.mem_iff_getElem.1 he;exact hh ⟨i,hi,hk⟩
  obtain⟨r,s',e1,e2,e3,Lz,e4⟩:=adB n hg h WJ xq fR ht lG;exact⟨r,s',e1,_,_,_,e2,.new lG e3 e4⟩
def Ea:ir prog 77=true:=by kernel_rfl
def Eb:qB prog 77=some (ec 0 0 0 0 []):=by kernel_rfl
def yJ:dB prog 77 0=some (0,1):=by kernel_rfl
def Qo:dB prog 77 1=some (1,1):=by kernel_rfl
def Qp:dB prog 77 2=some (2,2):=by kernel_rfl
def Qq:dB prog 77 3=some (4,1):=by kernel_rfl
def mv:LVal:= [.bool false,.slice none 0 0,.slice none 0 0,.slice none 0 0,.slice none 0 0]
def Cs:pO mv:=⟨rfl,rfl,λv hv=>by
 simp only[mv,bu,aX,db]at hv;rcases hv with rfl|rfl|rfl|rfl|rfl
 ·exact q8 _
 ·exact jL
 ·exact jL
 ·exact jL
 ·exact jL⟩
def Ec:ir prog 79=true:=by kernel_rfl
def Ed:qB prog 79=some (iQ (ec 0 0 0 0 []) (.slice none 0 0) mv 0 []):=by kernel_rfl
def Qr:dB prog 79 1=some (5,1):=by kernel_rfl
def V8:cA prog 79 [] []=some (.agg ⟨iQ (ec 0 0 0 0 []) (.slice none 0 0) mv 0 []⟩):=fD Ec Ed rfl
def KN (v:Value) (h:v.cells= #[v]):cA prog 79 [1] [v]=some (.agg ⟨iQ (ec 0 0 0 0 []) v mv 0 []⟩):=by refine fD Ec Ed ?_;show jq (dB prog 79) [(1,v)] _=_;rw[eV Qr (by rw[h];rfl) (by simp[iQ,ec,mv]),jV,h];rfl
def Yg (kind:Int):cA prog 77 [0] [aw kind]=some (.agg ⟨[aw kind,aw 0,aw 0,aw 0,.string ⟨⟨[]⟩⟩]⟩):=by refine fD Ea Eb ?_;show jq (dB prog 77) [(0,aw kind)] _=_;rw[eV yJ rfl (by simp[ec]),jV];rfl
def AX (kind:Int) (t:ByteArray):cA prog 77 [0,3] [aw kind,.string t]=some (.agg ⟨[aw kind,aw 0,aw 0,aw 0,.string t]⟩):=by refine fD Ea Eb ?_;show jq (dB prog 77) [(0,aw kind),(3,.string t)] _=_;rw[eV yJ rfl (by simp[ec]),eV Qq rfl (by simp[ec,Value.cells]),jV];rfl
def Qe (kind number a b:Int):cA prog 77 [0,1,2] [aw kind,aw number,.agg ⟨[aw a,aw b]⟩]=some (.agg ⟨[aw kind,aw number,aw a,aw b,.string ⟨⟨[]⟩⟩]⟩):=by refine fD Ea Eb ?_;show jq (dB prog 77) [(0,aw kind),(1,aw number),(2,.agg ⟨[aw a,aw b]⟩)] _=_;rw[eV yJ rfl (by simp[ec]),eV Qo rfl (by simp[ec,Value.cells]),eV Qp rfl (by simp[ec,Value.cells]),jV];rfl
theorem jz (f:Nat) (a b:List iD) (lo:Lo) (tm:T Value) (s:AS):mh f a b lo tm s=ob (si a lo tm) λa=>ob (si b lo tm) λb=>some (.func (.func f) ⟨a⟩ ⟨b⟩):=rfl
def D1 (n:Nat) (hg:Good s) (h:LS s d σ φ) (hf:f<φ.length):
  cp (aE (n+1) (dJ 65) [a8 d.lp,aw (f:Int)] s) (λr s'=>r=aw (f:Int)∧s'=s):=by
 rw[aJO];refine bG (by simp) λm hm=>?_;have h0:m.get 0=some (a8 d.lp):=by rw[hm];rfl
 have h1:m.get 1=some (aw (f:Int)):=by rw[hm];rfl
 clear hm;have mi:=h.len hg;have l1:=h.own.ld iC (o:=1) (by simp);simp only[ae,aZ]at l1;have d1:decide ((f:Int)<0)=false:=az (by omega);have d2:decide ((φ.length:Int)<=(f:Int))=false:=az (by omega);unfold c65;apply aJ;simp+decide only[ag];apply dh;apply ar;simp+decide only[ag,h0,h1,d1,d2,cH,bO,aG,l1,mi];refine dD (by simp+decide only[ag]) ?_;apply aJ;simp+decide only[ag,h1];exact aR (b6 (.inr rfl) (by simp+decide only[ag]) ⟨rfl,rfl⟩)
def BF (b:Bool):List UInt8:=if b then [116,114,117,101]else [102,97,108,115,101]
def adC (n:Nat) (b:Bool) (s:AS):cp (aE (n+2) (dJ 70) [.bool b] s) (λr s'=>r= .string ⟨⟨BF b⟩⟩∧s'=s):=by
 have gP:cp (aE (n+1) (dJ 139) [.bool b] s) (λr s'=>r= .string ⟨⟨BF b⟩⟩∧s'=s):=by
  rw[aBz];refine bG (by simp) λm hm=>?_;have h0:m.get 0=some (.bool b):=by rw[hm];rfl
  clear hm;unfold awX;apply aJ;simp+decide only[ag];apply dh;apply ar;simp+decide only[ag,h0];refine cK b (by simp+decide only[ag]) ?_;cases b
  ·simp+decide only[ag];apply aR;apply aJ;simp+decide only[ag];exact aR (b6 (v:= .string ⟨⟨[102,97,108,115,101]⟩⟩) (.inr rfl) (by simp+decide only[ag]) ⟨rfl,rfl⟩)
  ·simp+decide only[ag];apply aJ;simp+decide only[ag];exact aR (b6 (v:= .string ⟨⟨[116,114,117,101]⟩⟩) (.inr rfl) (by simp+decide only[ag]) ⟨rfl,rfl⟩)
 obtain⟨r,s',e1,rfl,rfl⟩:=gP;rw[aJS];refine bG (by simp) λm hm=>?_;have h0:m.get 0=some (.bool b):=by rw[hm];rfl
 clear hm;unfold c70;apply aJ;simp+decide only[ag];apply aJ;simp+decide only[ag,h0,e1];exact aR (b6 (.inr rfl) (by simp+decide only[ag]) ⟨rfl,rfl⟩)
def Hj:isAgg prog 4=some false:=by kernel_rfl
def Ct (n:Nat) (hg:Good s) (h:LS s d σ φ) (b:Bool) (fR:φ.length<900000):
  cp (aE (n+6) (dJ 22) [a8 d.lp,.bool b] s) (λr s'=>∃i d' fj,r=aw ((i:Nat):Int)∧su s s' d σ φ ⟨if b then 0 else 1,0,0,0,[],.slice none 0 0,[],mv,1,BF b⟩ i d' fj):=by
 rw[aJQ];refine bG (by simp) λm hm=>?_;have h0:m.get 0=some (a8 d.lp):=by rw[hm];rfl
 have h1:m.get 1=some (.bool b):=by rw[hm];rfl
 clear hm;obtain⟨s1,dm⟩:=dO (s.add (ca 4 [.bool b]));have dv:=cz dm hg;have fN:=cM dm hg;have QZ:s1.nx=s.nx+1:=by rw[dm];rfl
 have rV:=jS dm hg;have h':=h.ext hg fN;have lb:=rV.ld Hj (o:=0) (by simp);simp only[ae]at lb;have BG:Gy (n+4) s1 (.func (.func 69) ⟨[]⟩ ⟨[a8 s.nx]⟩) 1 (BF b):= λs2 dI ic=>by
  rw[qw,aJR];refine bG (by simp) λm hm=>?_;have h0:m.get 0=some (a8 s.nx):=by rw[hm];rfl
  clear hm;have oo:=rV.grown ic (by omega);have lb2:=oo.ld Hj (o:=0) (by simp);simp only[ae]at lb2;obtain⟨r,s3,e3,rfl,rfl⟩:=adC (n+1) b s2;unfold c69;apply aJ;simp+decide only[ag];apply aJ;simp+decide only[ag,h0,lb2,e3];exact aR (Dg (v:=aw 1) (w:= .string ⟨⟨BF b⟩⟩) (.inr rfl) (by simp+decide only[ag]) (by simp+decide only[ag]) ⟨rfl,Grown.refl dI _⟩)
 have hp:=B4 (n+4) dv h' (kind:=if b then 0 else 1) (number:=0) (a0:=0) (a1:=0) (rest:= []) (mz:=mv) (Sl.nil (n:=s1.nx) (s:=s1) (et:=3) (sz:=1)) Cs fR BG (kids:= []);obtain⟨r,s2,e2,i,d',fj,rfl,hp⟩:=hp;unfold c22;apply aJ;simp+decide only[ag,h1,ez hg];rw[show(Value.bool b).cells.toList= [.bool b]from rfl,<-dm];apply dh;apply ar;simp+decide only[ag,h0,lz];refine dD (by simp+decide only[ag]) ?_;apply aJ;simp+decide only[ag];refine aT (WC.mono (Q:= λx m' s'=>x= .normal∧s'=s1∧m'.get 0=some (a8 d.lp)∧m'.get 3=some (a8 s.nx)∧m'.get 5=some (aw ((if b then 0 else 1:Nat):Int))) ?_ ?_)
 ·apply aJ;simp+decide only[ag,lb];refine cK b (by simp+decide only[ag]) ?_;cases b
  ·simp+decide only[ag];exact aR ⟨rfl,rfl,by simp+decide only[ag,h0],by simp+decide only[ag],by simp+decide only[ag]⟩
  ·simp+decide only[ag];apply ar;simp+decide only[ag];exact h0
 rintro x m s' ⟨rfl,rfl,h0,h3,h5⟩;simp+decide only[ag];apply aJ;simp only[ec,aW]at e2;simp+decide only[ag,h0,h3,h5,Yg,V8,jz,ec,aW,e2];exact aR (b6 (.inr rfl) (by simp+decide only[ag]) ⟨i,d',fj,rfl,by simpa using hp.before hg fN⟩)
def rp:isAgg prog 38=some false:=by kernel_rfl
theorem Pk {c:Bool} (a:Addr):eJ .neq .ptr c (.pointer none) (.pointer (some a))=some (.bool true):=rfl
def LS.row_one (h:LS s d σ φ) {e:dA} (he:e∈φ):cP e.row=true:=Pj (h.kids e he).flat.2 (h.uc e he)
def LS.Pl (h:LS s d σ φ) {e:dA} (he:e∈φ):∀v∈e.row,Flat v:=KM (h.kids e he).flat.1 (h.uc e he)
def V9 (n:Nat) (hg:Good s) (h:LS s d σ φ) (hf:f<φ.length):
  cp (aE (n+1) (dJ 78) [a8 d.lp,aw (f:Int)] s) (λr s'=>r= .agg ⟨φ[f].row⟩∧Grown s.nx s s'):=by
 rw[aJZ];refine bG (by simp) λm hm=>?_;have h0:m.get 0=some (a8 d.lp):=by rw[hm];rfl
 have h1:m.get 1=some (aw (f:Int)):=by rw[hm];rfl
 clear hm;obtain⟨z,hz⟩:∃z:LVal,z= [aw 0,aw 0,aw 0,aw 0,.string ⟨⟨[]⟩⟩,.slice none 0 0,.bool false,.slice none 0 0,.slice none 0 0,.slice none 0 0,.slice none 0 0,aw 0,.string ⟨⟨[]⟩⟩]:=⟨_,rfl⟩
 have IW:z.length=13:=by rw[hz];rfl
 obtain⟨s1,dm⟩:=dO (s.add (ca 79 z));have dv:=cz dm hg;have fN:=cM dm hg;have rV:=jS dm hg;have h':=h.ext hg fN;have mi:=h'.len dv;have l1:=h'.own.ld iC (o:=1) (by simp);simp only[ae,aZ]at l1;have d1:decide ((f:Int)<0)=false:=az (by omega);have d2:decide ((φ.length:Int)<=(f:Int))=false:=az (by omega);have qF:φ[f]∈φ:=aV hf;have yN:=φ[f].dT (h.uc _ qF);have Fw:=(h'.sl dv).ix (P:=prog) (t:=61) (i:=f) (by rw[gR];exact hf) (k:= .i64);have Aa:=(h'.sl dv).eA ny nz (by decide) (i:=f) (by rw[gR];exact hf);rw[j5 hf]at Aa;have fU:=rV.kU dv (us:=φ[f].row) (k:=13) (by rw[yN,IW]) yN.symm (by decide) (h.row_one qF);have cS:=rV.lt dv;have oo:=ay.set dv cS 79 φ[f].row;unfold c78;apply aJ;simp+decide only[ag,pM hg,<-hz,<-dm];apply dh;apply ar;simp+decide only[ag,h0,h1,d1,d2,cH,bO,aG,l1,mi];refine dD (by simp+decide only[ag]) ?_;apply aJ;simp+decide only[ag,h0,h1,cH,bO,aG,l1,Fw,Aa,fU];refine aR (tM (u:=a8 s.nx) (.inr rfl) (by simp+decide only[ag]) ?_ ⟨rfl,fN.wr (af _) cS _⟩);rw[vS,oo.eA ny nz (by omega) (by decide),bK,aP (by omega)]
def acj (n:Nat) (hg:Good s) (h:LS s d σ φ) (hf:f<φ.length) (g:Nat) (w:Value) (Q6:∀s1,Good s1->Grown s.nx s s1->cp (aE (n+1) (dJ g) [.agg ⟨φ[f].row⟩] s1) (λr s'=>r=w∧Grown s1.nx s1 s')):
  cp (aE (n+2) (dJ 31) [a8 d.lp,aw (f:Int),.func (.func g) #[] #[]] s) (λr s'=>r=w∧Grown s.nx s s'):=by
 rw[aJX];refine bG (by simp) λm hm=>?_;have h0:m.get 0=some (a8 d.lp):=by rw[hm];rfl
 have h1:m.get 1=some (aw (f:Int)):=by rw[hm];rfl
 have h2:m.get 2=some (dJ g):=by rw[hm];rfl
 clear hm;obtain⟨r,s1,e1,rfl,gz⟩:=V9 n hg h hf;obtain⟨r,s2,e2,rfl,ic⟩:=Q6 s1 gz.bt gz;unfold c31;apply aJ;simp+decide only[ag];apply dh;apply ar;simp+decide only[ag,h0,Pk];refine iP (by simp+decide only[ag]) ?_;apply ar;simp+decide only[ag,h0,h1,h2,e1,e2];apply aJ;simp+decide only[ag];exact aR (b6 (.inr rfl) (by simp+decide only[ag]) ⟨rfl,gz.trans (ic.le gz.nx)⟩)
theorem dA.ZS (e:dA) (h:pO e.mz):e.row[0]'(by rw[e.dT h];decide)=aw (e.kind:Int):=rfl
theorem dA.Rt (e:dA) (h:pO e.mz):e.row[1]'(by rw[e.dT h];decide)=aw e.number:=rfl
theorem dA.ZT (e:dA) (h:pO e.mz):e.row[5]'(by rw[e.dT h];decide)=e.kv:=rfl
def yn (n:Nat) (hg:Good s) (h:LS s d σ φ) (hf:f<φ.length):
  cp (aE (n+3) (dJ 9) [a8 d.lp,aw (f:Int)] s) (λr s'=>r=aw (φ[f].kind:Int)∧Grown s.nx s s'):=by
 have hl:=h.uc _ (aV hf);obtain⟨r,s',e1,rfl,fN⟩:=acj n hg h hf 32 (aw (φ[f].kind:Int)) λs1 dv _=>by
  rw[aJY];refine bG (by simp) λm hm=>?_;have h0:m.get 0=some (.agg ⟨φ[f].row⟩):=by rw[hm];rfl
  clear hm;have hv:=ay.new dv 79 φ[f].row;have l0:=hv.ld bM (o:=0) (by rw[φ[f].dT hl];decide);rw[φ[f].ZS hl]at l0;unfold c32;apply aJ;simp+decide only[ag,h0,ez dv];apply aJ;simp+decide only[ag,bO,aG,l0];exact aR (b6 (.inr rfl) (by simp+decide only[ag]) ⟨rfl,(Grown.refl dv _).add (af _) _⟩)
 rw[ev9];refine bG (by simp) λm hm=>?_;have h0:m.get 0=some (a8 d.lp):=by rw[hm];rfl
 have h1:m.get 1=some (aw (f:Int)):=by rw[hm];rfl
 clear hm;unfold c9;apply aJ;simp+decide only[ag];apply aJ;simp+decide only[ag,h0,h1,e1];exact aR (b6 (.inr rfl) (by simp+decide only[ag]) ⟨rfl,fN⟩)
def TE (n:Nat) (hg:Good s) (h:LS s d σ φ) (hf:f<φ.length):
  cp (aE (n+3) (dJ 12) [a8 d.lp,aw (f:Int)] s) (λr s'=>r=aw φ[f].number∧Grown s.nx s s'):=by
 have hl:=h.uc _ (aV hf);obtain⟨r,s',e1,rfl,fN⟩:=acj n hg h hf 40 (aw φ[f].number) λs1 dv _=>by
  rw[aJ1];refine bG (by simp) λm hm=>?_;have h0:m.get 0=some (.agg ⟨φ[f].row⟩):=by rw[hm];rfl
  clear hm;have hv:=ay.new dv 79 φ[f].row;have l0:=hv.ld bM (o:=1) (by rw[φ[f].dT hl];decide);rw[φ[f].Rt hl]at l0;unfold c40;apply aJ;simp+decide only[ag,h0,ez dv];apply aJ;simp+decide only[ag,bO,aG,l0];exact aR (b6 (.inr rfl) (by simp+decide only[ag]) ⟨rfl,(Grown.refl dv _).add (af _) _⟩)
 rw[aJ0];refine bG (by simp) λm hm=>?_;have h0:m.get 0=some (a8 d.lp):=by rw[hm];rfl
 have h1:m.get 1=some (aw (f:Int)):=by rw[hm];rfl
 clear hm;unfold c12;apply aJ;simp+decide only[ag];apply aJ;simp+decide only[ag,h0,h1,e1];exact aR (b6 (.inr rfl) (by simp+decide only[ag]) ⟨rfl,fN⟩)
def Pm (n:Nat) (hg:Good s) (h:LS s d σ φ) (hf:f<φ.length) (hk:φ[f].kids.length<=900000):
  cp (aE (n+4) (dJ 11) [a8 d.lp,aw (f:Int)] s) (λr s'=>Grown s.nx s s'∧Sl s'.nx s' 3 1 r (ints φ[f].kids)):=by
 have hl:=h.uc _ (aV hf);have gP:cp (aE (n+3) (dJ 37) [a8 d.lp,aw (f:Int),.func (.func 38) #[] #[]] s) (λr s'=>Grown s.nx s s'∧Sl s'.nx s' 3 1 r (ints φ[f].kids)):=by
  rw[aJ3];refine bG (by simp) λm hm=>?_;have h0:m.get 0=some (a8 d.lp):=by rw[hm];rfl
  have h1:m.get 1=some (aw (f:Int)):=by rw[hm];rfl
  have h2:m.get 2=some (dJ 38):=by rw[hm];rfl
  clear hm;obtain⟨r,s1,e1,rfl,gz⟩:=V9 (n+1) hg h hf;have dv:=gz.bt;have aos:cp (aE (n+2) (dJ 38) [.agg ⟨φ[f].row⟩] s1) (λr s'=>Grown s1.nx s1 s'∧Sl s'.nx s' 3 1 r (ints φ[f].kids)):=by
   rw[aJ4];refine bG (by simp) λm hm=>?_;have h0:m.get 0=some (.agg ⟨φ[f].row⟩):=by rw[hm];rfl
   clear hm;obtain⟨s2,ee⟩:=dO (s1.add (ca 79 φ[f].row));have hv:=jS ee dv;have ic:=cM ee dv;have l0:=hv.ld rp (o:=5) (by rw[φ[f].dT hl];decide);rw[φ[f].ZT hl]at l0;have hkd:=(h.ext hg (gz.trans (ic.le gz.nx))).kids _ (aV hf);obtain⟨w,s3,e3,sq,hw,_⟩:=KH n s2 _ _ ic.bt hkd hk;unfold c38;apply aJ;simp+decide only[ag,h0,ez dv];rw[<-ee];apply aJ;simp+decide only[ag,bO,aG,l0,e3];exact aR (b6 (.inr rfl) (by simp+decide only[ag]) ⟨ic.trans (sq.le ic.nx),hw⟩)
  obtain⟨w,s2,e2,ic,hw⟩:=aos;unfold c37;apply aJ;simp+decide only[ag];apply dh;apply ar;simp+decide only[ag,h0,Pk];refine iP (by simp+decide only[ag]) ?_;apply ar;simp+decide only[ag,h0,h1,h2,e1,e2];apply aJ;simp+decide only[ag];exact aR (b6 (.inr rfl) (by simp+decide only[ag]) ⟨gz.trans (ic.le gz.nx),hw⟩)
 obtain⟨r,s',e1,fN,hw⟩:=gP;rw[aJ2];refine bG (by simp) λm hm=>?_;have h0:m.get 0=some (a8 d.lp):=by rw[hm];rfl
 have h1:m.get 1=some (aw (f:Int)):=by rw[hm];rfl
 clear hm;unfold c11;apply aJ;simp+decide only[ag];apply aJ;simp+decide only[ag,h0,h1,e1];exact aR (b6 (.inr rfl) (by simp+decide only[ag]) ⟨fN,hw⟩)
def eU:isAgg prog 44=some false:=by kernel_rfl
def Pn (n:Nat) (hg:Good s) (h:TS s p q v σ) (ht:t<σ.length):
  cp (aE (n+2) (dJ 35) [a8 p,aw (t:Int)] s) (λr s'=>r= .agg ⟨σ[t].v⟩∧Grown s.nx s s'):=by
 rw[aJK];refine bG (by simp) λm hm=>?_;have h0:m.get 0=some (a8 p):=by rw[hm];rfl
 have h1:m.get 1=some (aw (t:Int)):=by rw[hm];rfl
 clear hm;have hz:(zeroV:LVal)= [aw 0,.bool false,.string ⟨⟨[]⟩⟩,.string ⟨⟨[]⟩⟩,.slice none 0 0,.slice none 0 0,aw 0]:=rfl;obtain⟨s1,dm⟩:=dO (s.add (ca 33 zeroV));have dv:=cz dm hg;have gz:=cM dm hg;have QZ:s1.nx=s.nx+1:=by rw[dm];rfl
 have rV:=jS dm hg;obtain⟨r,s2,e1,rfl,fN⟩:=UP n dv (h.ext hg gz.eb) ht;have eH:=h.ua _ (aV ht);have hl:=σ[t].dT eH;have hf:=acf (k:=6) (j:=7) (cs:=σ[t].row) (by omega);have hk:((σ[t].row).drop 6).take 7=σ[t].v:=by obtain⟨a,b,c,d,e,f,g,hv⟩:=seven eH.1;simp[cx.row,cx.da,hv]
 rw[hk]at hf;have oo:=rV.grown fN (by omega);have dI:=fN.bt;have fU:=oo.kU dI (us:=σ[t].v) (k:=7) (by rw[eH.1];rfl) eH.1.symm (by decide) eH.2.1;have cS:=oo.lt dI;have BL:=ay.set dI cS 33 σ[t].v;unfold c35;apply aJ;simp+decide only[ag,pM hg,<-hz,<-dm];apply aJ;simp+decide only[ag,h0,h1,e1,hf,fU];refine aR (tM (u:=a8 s.nx) (.inr rfl) (by simp+decide only[ag]) ?_ ⟨rfl,(gz.trans (fN.le gz.nx)).wr (af _) cS _⟩);rw[vS,BL.eA oY oZ (by rw[eH.1];decide) (by decide),bK,aP (by rw[eH.1];decide)]
def pX (n:Nat) (hg:Good s) (h:LS s d σ φ) (ht:t<σ.length):
  cp (aE (n+2) (dJ 33) [a8 d.lp,aw (t:Int)] s) (λr s'=>r=aw (t:Int)∧s'=s):=by
 rw[aJL];refine bG (by simp) λm hm=>?_;have h0:m.get 0=some (a8 d.lp):=by rw[hm];rfl
 have h1:m.get 1=some (aw (t:Int)):=by rw[hm];rfl
 clear hm;have l0:=h.own.ld eU (o:=0) (by simp);simp only[ae]at l0;obtain⟨r,s',e1,rfl,rfl⟩:=SM n hg h.ts;have d1:decide ((t:Int)<0)=false:=az (by omega);have d2:decide ((σ.length:Int)<=(t:Int))=false:=az (by omega);unfold c33;apply aJ;simp+decide only[ag];apply dh;apply ar;simp+decide only[ag,h0,h1,d1,d2,cH,bO,aG,l0,e1];refine dD (by simp+decide only[ag]) ?_;apply aJ;simp+decide only[ag,h1];exact aR (b6 (.inr rfl) (by simp+decide only[ag]) ⟨rfl,rfl⟩)
def gu:isAgg prog 38=some false:=by kernel_rfl
def cT:isAgg prog 24=some false:=by kernel_rfl
def nS (σ:List cx) (name:List UInt8) (l:List Nat):List UInt8:=40::name++(l.map λt=>32::cF σ t).flatten
def mw (σ:List cx) (l:List Nat):Nat:=1+(l.map (dC σ)).sum
def TH (σ:List cx) (name:List UInt8) (l:List Nat) (t:Nat):nS σ name (l++ [t])=nS σ name l++(32::cF σ t):=by unfold nS;rw[bS,jO];simp
def KP (hw:WFs σ) (name:List UInt8):∀(l:List Nat),(∀t∈l,t<σ.length)->(nS σ name l).length<=1+name.length+262145*l.length:=by
 intro l h;have key:∀(l:List Nat),(∀t∈l,t<σ.length)->((l.map λt=>32::cF σ t).flatten).length<=262145*l.length:=by
  intro l;induction l with
  |nil=>intro _;simp
  |cons x l ih=>intro h;have h1:=ym hw x (h x (by simp));have h2:=ih λt ht=>h t (by simp[ht]);simp only[br,cX,bL,bU];omega
 have:=key l h;unfold nS;simp only[pA,bU,bL];omega
def rj (h:t<σ.length):dC σ t=σ[t].size:=by unfold dC;rw[ba h];rfl
def TI (n:Nat) (hg:Good s) (h:LS s d σ φ) {bn bp bl:Nat} {name:List UInt8} {l:List Nat} (Oz:name.length<=100) (hvn:ay s bn 9 [.string ⟨⟨name⟩⟩]) (hvp:ay s bp 38 [y]) (Au:ay s bl 24 [a8 d.lp]) (hy:Sl s.nx s 3 1 y (ints l)) (hl:l.length<=2) (gP:∀t∈l,t<σ.length) (hn:σ.length+8<=n):
  Gy (n+1) s (.func (.func 80) ⟨[]⟩ ⟨[a8 bn,a8 bp,a8 bl]⟩) (mw σ l) (nS σ name l++ [41]):=by
 intro s1 dv gz;obtain⟨k,rfl⟩:∃k,n=k+2:=⟨n-2,by omega⟩
 rw[qw,aJN];refine bG (by simp) λm hm=>?_;have h0:m.get 0=some (a8 bn):=by rw[hm];rfl
 have h1:m.get 1=some (a8 bp):=by rw[hm];rfl
 have h2:m.get 2=some (a8 bl):=by rw[hm];rfl
 clear hm;have l0:=(hvn.grown gz (hvn.lt hg)).ld j3 (o:=0) (by simp);have l1:=(hvp.grown gz (hvp.lt hg)).ld gu (o:=0) (by simp);simp only[ae]at l0 l1;have I9:=hy.ext gz.eb;have mi:=I9.len;rw[dE]at mi;have Io:∀e c,eJ .add e c (.string ⟨⟨name⟩⟩) (.string ⟨⟨[40]⟩⟩)=some (.string ⟨⟨40::name⟩⟩):= λe c=>gZ [40] name (by simp;omega);unfold c80;apply aJ;simp+decide only[ag];apply lV;simp+decide only[ag,h0,l0,Io];refine aT (WC.mono (Q:= λx m' s'=>x= .normal∧Grown s1.nx s1 s'∧m'.get 3=some (aw (mw σ l:Int))∧m'.get 4=some (.string ⟨⟨nS σ name l⟩⟩)) ?_ ?_)
 ·apply aJ;simp+decide only[ag,h1,l1,mi];refine bY (eW (λm s'=>∃j:Nat,j<=l.length∧Grown s1.nx s1 s'∧m.get 2=some (a8 bl)∧m.get 3=some (aw (mw σ (l.take j):Int))∧m.get 4=some (.string ⟨⟨nS σ name (l.take j)⟩⟩)∧m.get 9=some y∧m.get 10=some (aw (l.length:Int))∧m.get 11=some (aw (j:Int)))
   (λm _=>match m.get 11 with|some (.int _ j)=>(3-j).toNat|_=>0) ?_ ?_ ?_)
  ·refine⟨0,by omega,Grown.refl dv _,by simp+decide only[ag,h2],?_,?_,by simp+decide only[ag],by simp+decide only[ag],by simp+decide only[ag,aW]⟩
   ·simp+decide only[ag];simp[mw]
   ·simp+decide only[ag];simp[nS]
  ·simp+decide only[ag]
  rintro m s' ⟨j,hj,fN,g2,g3,g4,g9,JP,Dq⟩;apply aJ;by_cases cS:j<l.length
  ·have hd:decide ((j:Int)<(l.length:Int))=true:=aL (by omega);simp+decide only[ag,JP,Dq,hd];refine aT (cK true (by simp+decide only[ag]) ?_);simp+decide only[ag];apply aR;simp+decide only[ag];obtain⟨x,hx⟩:=dO (l[j]);have xd:x<σ.length:=by rw[hx];exact gP _ (aV _)
   have Az:j<(ints l).length:=by rw[dE];exact cS
   have Xl:=I9.ext (λq hq=>fN.eb q (bC hq gz.nx));have F1:=Xl.ld bM Az (gJ cS);rw[<-hx,cO]at F1;have af0:Grown s.nx s s':=gz.trans (fN.le gz.nx);have ll:=(Au.grown af0 (Au.lt hg)).ld cT (o:=0) (by simp);have Ly:=h.ext hg af0;have lt0:=Ly.own.ld eU (o:=0) (by simp);simp only[ae]at ll lt0;obtain⟨r2,s2,e2,rfl,ic⟩:=V5 k fN.bt Ly.ts xd;have al3:Grown s.nx s s2:=af0.trans (ic.le af0.nx);have Gg:=h.ext hg al3;have ll2:=(Au.grown al3 (Au.lt hg)).ld cT (o:=0) (by simp);have Zi:=Gg.own.ld eU (o:=0) (by simp);simp only[ae]at ll2 Zi;obtain⟨r3,s3,e3,rfl,sq⟩:=FT x (k+2) ic.bt Gg.ts xd (by omega);have eR:=h.ts.xL _ (aV xd);have zM:l.take (j+1)=l.take j++ [x]:=by rw[cQ cS,hx]
   have N4:mw σ (l.take (j+1))=mw σ (l.take j)+σ[x].size:=by unfold mw;rw[zM,bS,xj];simp[rj xd];omega
   have hzb:mw σ (l.take j)<=1+4097*2:=by
    have:=wB (L:=l.take j) (f:=dC σ) (k:=4097) (λt ht=>by have EB:=gP t (gV ht);rw[rj EB];exact(h.ts.xL _ (aV EB)).2)
    have h3:4097*(l.take j).length<=4097*2:=aPr _ (by simp;omega);unfold mw;omega
   have w1:IntKind.i64.wrap ((mw σ (l.take j):Int)+(σ[x].size:Int))=(mw σ (l.take (j+1)):Int):=by rw[N4,wrap_i64 (by omega)];omega
   have Xe:=KP h.ts.wf name (l.take j) (λt ht=>gP t (gV ht));have hj2:(l.take j).length<=2:=by simp;omega
   have htl:=ym h.ts.wf x xd;have Dj:∀e c,eJ .add e c (.string ⟨⟨cF σ x⟩⟩) (.string ⟨⟨[32]⟩⟩)=some (.string ⟨⟨32::cF σ x⟩⟩):= λe c=>gZ [32] _ (by simp;omega);have Dk:∀e c,eJ .add e c (.string ⟨⟨32::cF σ x⟩⟩) (.string ⟨⟨nS σ name (l.take j)⟩⟩)=some (.string ⟨⟨nS σ name (l.take (j+1))⟩⟩):= λe c=>by rw[zM,TH];exact gZ _ _ (by simp only[bU];omega)
   have w3:IntKind.i64.wrap ((j:Int)+1)=((j+1:Nat):Int):=by rw[wrap_i64 (by omega)];omega
   apply kK;apply aJ;simp+decide only[ag,g9,Dq,Xl.ix Az,F1];apply aJ;simp+decide only[ag,g2,g3,ll,cH,bO,aG,lt0,e2,w1];apply ar;simp+decide only[ag,g2,g4,ll2,cH,bO,aG,Zi,e3,Dj,Dk];apply ar;simp+decide only[ag,Dq,w3];exact⟨⟨j+1,by omega,fN.trans ((ic.trans (sq.le ic.nx)).le fN.nx),by simp+decide only[ag,g2],by simp+decide only[ag],by simp+decide only[ag],by simp+decide only[ag,g9],by simp+decide only[ag,JP],by simp+decide only[ag]⟩,by omega⟩
  ·have hd:decide ((j:Int)<(l.length:Int))=false:=az (by omega);simp+decide only[ag,JP,Dq,hd];refine aT (cK false (by simp+decide only[ag]) ?_);simp+decide only[ag];apply aR;simp+decide only[ag];have Vs:j=l.length:=by omega
   subst Vs;rw[lY]at g3 g4;exact⟨fN,by simp+decide only[ag,g3],by simp+decide only[ag,g4]⟩
 rintro x m s2 ⟨rfl,fN,g3,g4⟩;simp+decide only[ag];have Xe:=KP h.ts.wf name l gP;have hc4:∀e c,eJ .add e c (.string ⟨⟨[41]⟩⟩) (.string ⟨⟨nS σ name l⟩⟩)=some (.string ⟨⟨nS σ name l++ [41]⟩⟩):= λe c=>gZ _ _ (by simp only[bU,gH];omega);apply aJ;simp+decide only[ag,g3,g4,hc4];exact aR (Dg (v:=aw (mw σ l:Int)) (w:= .string ⟨⟨nS σ name l++ [41]⟩⟩) (.inr rfl) (by simp+decide only[ag]) (by simp+decide only[ag]) ⟨rfl,fN⟩)
def YP:ir prog 75=true:=by kernel_rfl
def aiy (a b:Int):cA prog 75 [0,1] [aw a,aw b]=some (.agg ⟨[aw a,aw b]⟩):=by
 have hz:qB prog 75=some [aw 0,aw 0]:=by kernel_rfl
 have h0:dB prog 75 0=some (0,1):=by kernel_rfl
 have h1:dB prog 75 1=some (1,1):=by kernel_rfl
 refine fD YP hz ?_;show jq (dB prog 75) [(0,aw a),(1,aw b)] _=_;rw[eV h0 rfl (by simp),eV h1 rfl (by simp[Value.cells]),jV];rfl
def Dh (l:List Nat) (i:Nat):Int:=match l[i]? with|some t=>(t:Int)|none=> -1
def YQ:prog.underlying 75=some (.array 2 3):=by kernel_rfl
def aiz (b o:Nat):tC prog (prog.underlying 75) (.pointer (some ⟨b,o,none⟩)) none none none=some (.slice (some ⟨b,o,none⟩) 2 (bH 2)):=by rw[YQ];show ob (dc prog 3) (λsz=>jX sz ⟨b,o,none⟩ 2 none none none)=_;rw[yq,cg,Ap]
def aiA (kind:Nat) (number:Int) {l:List Nat} (h:l.length<=2):(ec kind number (.negSucc 0) (.negSucc 0) []).take 2++Ey l++(ec kind number (.negSucc 0) (.negSucc 0) []).drop (2+l.length)=ec kind number (Dh l 0) (Dh l 1) []:=by
 rcases l with _|⟨a,_|⟨b,_|⟨c,l⟩⟩⟩
 ·rfl
 ·rfl
 ·rfl
 ·simp at h
def Wa (n:Nat) (hg:Good s) (h:LS s d σ φ) {kind:Nat} {number:Int} {name:List UInt8} {l:List Nat} (Oz:name.length<=100) (hy:Sl s.nx s 3 1 y (ints l)) (hl:l.length<=2) (gP:∀t∈l,t<σ.length) (hn:σ.length+8<=n) (fR:φ.length<900000):
  cp (aE (n+3) (dJ 36) [a8 d.lp,aw (kind:Int),aw number,.string ⟨⟨name⟩⟩,y] s) (λr s'=>∃i d' fj,r=aw ((i:Nat):Int)∧su s s' d σ φ ⟨kind,number,Dh l 0,Dh l 1,[],.slice none 0 0,[],mv,if 4096<mw σ l then 4097 else mw σ l,if 4096<mw σ l then []else nS σ name l++ [41]⟩ i d' fj):=by
 rw[aJM];refine bG (by simp) λm hm=>?_;have h0:m.get 0=some (a8 d.lp):=by rw[hm];rfl
 have h1:m.get 1=some (aw (kind:Int)):=by rw[hm];rfl
 have h2:m.get 2=some (aw number):=by rw[hm];rfl
 have h3:m.get 3=some (.string ⟨⟨name⟩⟩):=by rw[hm];rfl
 have h4:m.get 4=some y:=by rw[hm];rfl
 clear hm;have hyc:y.cells.toList= [y]:=by obtain⟨base,mm,c,rfl⟩:=hy.WI;rfl
 obtain⟨s1,dm⟩:=dO (s.add (ca 24 [a8 d.lp]));have dv:=cz dm hg;have n1:s1.nx=s.nx+1:=by rw[dm];rfl
 have v1:=jS dm hg;obtain⟨s2,ee⟩:=dO (s1.add (ca 9 [.string ⟨⟨name⟩⟩]));have dI:=cz ee dv;have n2:s2.nx=s.nx+2:=by rw[ee,ep,n1]
 have v2:ay s2 (s.nx+1) 9 [.string ⟨⟨name⟩⟩]:=by rw[ee,<-n1];exact ay.new dv 9 _
 obtain⟨s3,gy⟩:=dO (s2.add (ca 38 [y]));have gQ:=cz gy dI;have n3:s3.nx=s.nx+3:=by rw[gy,ep,n2]
 have v3:ay s3 (s.nx+2) 38 [y]:=by rw[gy,<-n2];exact ay.new dI 38 _
 obtain⟨s4,jW⟩:=dO (s3.add (ca 77 (ec 0 0 0 0 [])));have iI:=cz jW gQ;have n4:s4.nx=s.nx+4:=by rw[jW,ep,n3]
 have v4:ay s4 (s.nx+3) 77 (ec 0 0 0 0 []):=by rw[jW,<-n3];exact ay.new gQ 77 _
 have qH:Grown s.nx s s4:=by rw[jW,gy,ee,dm];exact((((Grown.refl hg _).add (af _) _).add (by rw[ep];omega) _).add (by rw[ep,ep];omega) _).add (by rw[ep,ep,ep];omega) _
 have fU:=v4.kU iI (us:=ec kind number (.negSucc 0) (.negSucc 0) []) (k:=5) rfl rfl (by decide) rfl;have pZ:=v4.lt iI;obtain⟨s5,oE⟩:=dO (s4.wr (s.nx+3) (some (ca 77 (ec kind number (.negSucc 0) (.negSucc 0) []))));rw[<-oE]at fU;have jm:Good s5:=by rw[oE];exact bZ iI pZ _
 have n5:s5.nx=s.nx+4:=by rw[oE];exact n4
 have v5:ay s5 (s.nx+3) 77 (ec kind number (.negSucc 0) (.negSucc 0) []):=by rw[oE];exact ay.set iI pZ 77 _
 have p4:Grown s.nx s s5:=by rw[oE];exact qH.wr (by omega) pZ _
 have w3:ay s5 (s.nx+2) 38 [y]:=by rw[oE,jW];rw[jW]at pZ;exact(v3.add gQ _).wr (by rw[<-jW];exact iI) pZ (by omega) _
 have w2:ay s5 (s.nx+1) 9 [.string ⟨⟨name⟩⟩]:=by rw[oE,jW,gy];rw[jW,gy]at pZ;exact((v2.add dI _).add (by rw[<-gy];exact gQ) _).wr (by rw[<-gy,<-jW];exact iI) pZ (by omega) _
 have w1:ay s5 s.nx 24 [a8 d.lp]:=by rw[oE,jW,gy,ee];rw[jW,gy,ee]at pZ;exact(((v1.add dv _).add (by rw[<-ee];exact dI) _).add (by rw[<-ee,<-gy];exact gQ) _).wr (by rw[<-ee,<-gy,<-jW];exact iI) pZ (by omega) _
 have hy5:=hy.ext p4.eb;obtain⟨s6,e6,g6,n6,v6,f6⟩:=Kv (o:=2) (dl:=2) (c:=bH 2) jm K3 yq v5 hy5 hl (by simp[ec]) (by simp[ec]);rw[aiA _ _ hl]at v6;have Ai:Grown s.nx s s6:=⟨g6,by omega,λj hj=>by rw[f6 j (by omega)];exact p4.eb j hj⟩
 have h6:=h.ext hg Ai;have x1:=w1.eq (f6 s.nx (by omega));have x2:=w2.eq (f6 (s.nx+1) (by omega));have x3:=w3.eq (f6 (s.nx+2) (by omega));have BG:=TI n g6 h6 Oz x2 x3 x1 ((hy.ext Ai.eb).le Ai.nx) hl gP hn;obtain⟨r,s7,e7,i,d',fj,rfl,hp⟩:=B4 (n+1) g6 h6 (kind:=kind) (number:=number) (a0:=Dh l 0) (a1:=Dh l 1) (rest:= []) (mz:=mv) (Sl.nil (n:=s6.nx) (s:=s6) (et:=3) (sz:=1)) Cs fR BG (kids:= []);have l3:=w3.ld gu (o:=0) (by simp);have ll:=x1.ld cT (o:=0) (by simp);have lk:=v6.eA u7 zE (o:=0) (by simp[ec]) (by decide);rw[bK,aP (by simp[ec])]at lk;have l3':=x3.ld gu (o:=0) (by simp);simp only[ae]at l3 ll l3';have hys:=cB hy.same;have I8:ec 0 0 0 0 []= [aw 0,aw 0,aw 0,aw 0,.string ⟨⟨[]⟩⟩]:=rfl;have vt:ec kind number (.negSucc 0) (.negSucc 0) []= [aw (kind:Int),aw number,aw (.negSucc 0),aw (.negSucc 0),.string ⟨⟨[]⟩⟩]:=rfl;rw[vt]at fU;rw[I8]at jW;unfold c36;apply aJ;simp+decide only[ag,h0,h3,h4,ez hg];rw[show(Value.pointer (some ⟨d.lp,0,none⟩)).cells.toList= [a8 d.lp]from rfl,<-dm];simp+decide only[ag,ez dv];rw[show(Value.string ⟨⟨name⟩⟩).cells.toList= [.string ⟨⟨name⟩⟩]from rfl,<-ee];simp+decide only[ag,ez dI,hyc,<-gy];apply aJ;simp+decide only[ag,h1,h2,aiy,Qe,pM gQ,<-jW,n3,fU];apply lV;simp+decide only[ag,bO,aG,aiz,n2,l3,l3',e6,hys];apply aJ;simp+decide only[ag,ll,lk,V8,jz,n1,n2,e7];exact aR (b6 (.inr rfl) (by simp+decide only[ag]) ⟨i,d',fj,rfl,hp.before hg Ai⟩)
def af1 (tag:Nat):List UInt8:=match tag with
 |0=> [110,117,108,108,63]
 |1=> [98,111,111,108,63]
 |2=> [105,110,116,63]
 |3=> [115,116,114,63]
 |4=> [100,105,99,116,63]
 |_=> [102,117,110,63]
def xO:LVal:= [.string ⟨⟨[110,117,108,108,63]⟩⟩,.string ⟨⟨[98,111,111,108,63]⟩⟩,.string ⟨⟨[105,110,116,63]⟩⟩,.string ⟨⟨[115,116,114,63]⟩⟩,.string ⟨⟨[100,105,99,116,63]⟩⟩,.string ⟨⟨[102,117,110,63]⟩⟩]
def Wb:cA prog 81 [0,1,2,3,4,5] xO=some (.agg ⟨xO⟩):=by kernel_rfl
def aiB (b tag:Nat) (h:tag<6):wa prog (prog.underlying 81) (a8 b) (aw (tag:Int))=some (.pointer (some ⟨b,tag,none⟩)):=by
 have hu:prog.underlying 81=some (.array 6 9):=by kernel_rfl
 rw[hu];show ob (dc prog 9) (λsz=>elA sz ⟨b,0,none⟩ 6 (tag:Int))=_;rw[PI,cg];unfold elA;rw[AR h,cg,bD,show Nat.add 0 (Nat.mul tag 1)=tag from by show 0+tag*1=tag;omega]
def Po (tag:Nat):(af1 tag).length<=100:=by unfold af1;split<;>decide
def Yh {tag:Nat} (h:tag<6):xO[tag]'h= .string ⟨⟨af1 tag⟩⟩:=by
 match tag,h with
 |0,_=>rfl
 |1,_=>rfl
 |2,_=>rfl
 |3,_=>rfl
 |4,_=>rfl
 |5,_=>rfl
def as3 (n:Nat) (hg:Good s) (h:LS s d σ φ) {tag:Nat} (Ah:tag<6) (ht:t<σ.length) (hk:σ[t].kind≠2) (hn:σ.length+8<=n) (fR:φ.length<900000):
  cp (aE (n+4) (dJ 10) [a8 d.lp,aw (tag:Int),aw (t:Int)] s) (λr s'=>∃i d' fj,r=aw ((i:Nat):Int)∧su s s' d σ φ ⟨7,(tag:Int),(t:Int),-1,[],.slice none 0 0,[],mv,if 4096<mw σ [t]then 4097 else mw σ [t],if 4096<mw σ [t]then []else nS σ (af1 tag) [t]++ [41]⟩ i d' fj):=by
 rw[awV];refine bG (by simp) λm hm=>?_;have h0:m.get 0=some (a8 d.lp):=by rw[hm];rfl
 have h1:m.get 1=some (aw (tag:Int)):=by rw[hm];rfl
 have h2:m.get 2=some (aw (t:Int)):=by rw[hm];rfl
 clear hm;obtain⟨z,hz⟩:∃z:LVal,z= [.string ⟨⟨[]⟩⟩,.string ⟨⟨[]⟩⟩,.string ⟨⟨[]⟩⟩,.string ⟨⟨[]⟩⟩,.string ⟨⟨[]⟩⟩,.string ⟨⟨[]⟩⟩]:=⟨_,rfl⟩
 obtain⟨s1,dm⟩:=dO (s.add (ca 81 z));have dv:=cz dm hg;have n1:s1.nx=s.nx+1:=by rw[dm];rfl
 have v1:=jS dm hg;have fU:=v1.kU dv (us:=xO) (k:=6) (by rw[hz];rfl) rfl (by decide) rfl;have Lm:=v1.lt dv;obtain⟨s2,ee⟩:=dO (s1.wr s.nx (some (ca 81 xO)));rw[<-ee]at fU;have dI:Good s2:=by rw[ee];exact bZ dv Lm _
 have n2:s2.nx=s.nx+1:=by rw[ee];exact n1
 have v2:ay s2 s.nx 81 xO:=by rw[ee];exact ay.set dv Lm 81 _
 have ic:Grown s.nx s s2:=by rw[ee,dm];rw[dm]at Lm;exact((Grown.refl hg _).add (af _) _).wr (af _) Lm _
 have h':=h.ext hg ic;obtain⟨r,sx,e3,rfl,rfl⟩:=pX (n+1) dI h' ht;obtain⟨r,s4,e4,rfl,qH⟩:=vU (n+1) dI h'.ts ht;have xM:Grown s.nx s s4:=ic.trans (qH.le ic.nx);have v4:=v2.grown qH (by omega);have Zi:=h'.own.ld eU (o:=0) (by simp);simp only[ae]at Zi;have lnm:=v4.ld j3 (o:=tag) Ah;rw[Yh Ah]at lnm;have hb:=qt (v:=aw (t:Int)) qH.bt fm fX rfl;obtain⟨s5,oE⟩:=dO (s4.row 3 1 [[aw (t:Int)]]);rw[<-oE]at hb;have p4:Grown s.nx s s5:=by rw[oE];exact xM.row xM.nx _ _ _
 have jm:=p4.bt;have hy:Sl s5.nx s5 3 1 (.slice (some ⟨s4.nx,0,none⟩) 1 (bH 1)) (ints [t]):=by
  have hr:bE s5 s4.nx 3 1 false (ints [t]):=by rw[oE];exact bE.new qH.bt 3 1 _
  exact Sl.full (hr.lt jm) hr (by rw[(cR 1).1];exact af 1) (.inl (cR 1).2)
 obtain⟨r,s6,e6,i,d',fj,rfl,hp⟩:=Wa n jm (h.ext hg p4) (kind:=7) (number:=(tag:Int)) (Po tag) hy (by simp) (by simpa using ht) hn fR;have d1:decide ((tag:Int)<0)=false:=az (by omega);have d2:decide ((6:Int)<=(tag:Int))=false:=az (by omega);have d3:decide ((σ[t].kind:Int)=2)=false:=az (by omega);have Fw:=aiB s.nx tag Ah;have ZU:=Wb;unfold xO at ZU fU;unfold c10;apply aJ;simp+decide only[ag];apply dh;apply ar;simp+decide only[ag,h0,lz];refine dD (by simp+decide only[ag]) ?_;apply aJ;simp+decide only[ag,ZU,pM hg,<-hz,<-dm,fU];apply dh;apply ar;simp+decide only[ag,h1,d1,d2];refine dD (by simp+decide only[ag]) ?_;apply aJ;simp+decide only[ag,h0,h2,e3];apply dh;apply ar;simp+decide only[ag,h0,cH,bO,aG,Zi,e4,d3];refine dD (by simp+decide only[ag]) ?_;apply aJ;simp only[gO]at e6;simp+decide only[ag,h0,h1,Fw,lnm,hb,e6];exact aR (b6 (.inr rfl) (by simp+decide only[ag]) ⟨i,d',fj,rfl,hp.before hg p4⟩)
def qI (l:List Nat):List UInt8:=(l.map λn=>gg n++ [32]).flatten
def Yi (l:List Nat) (x:Nat):qI (l++ [x])=qI l++(gg x++ [32]):=by unfold qI;rw[bS,jO];simp
def Ha:∀(l:List Nat),(qI l).length<=21*l.length
 | []=>by simp[qI]
 |x::l=>by have h1:=ri x;have h2:=Ha l;unfold qI at h2⊢;simp only[br,cX,bL,bU,gH];omega
def H6 (n:Nat) {l:List Nat} (hg:Good s) (hy:Sl s.nx s 3 1 y (ints l)) (hl:l.length<=20000) (gP:∀x∈l,x<200):
  cp (aE (n+4) (dJ 67) [y] s) (λr s'=>r= .string ⟨⟨qI l⟩⟩∧Grown s.nx s s'):=by
 rw[aJT];refine bG (by simp) λm hm=>?_;have h0:m.get 0=some y:=by rw[hm];rfl
 clear hm;obtain⟨s1,dm⟩:=dO (s.add (ca 164 [.pointer none,.slice none 0 0]));have dv:=cz dm hg;have gz:=cM dm hg;have rV:=jS dm hg;have hB1:N8 s.nx s1 s.nx (.pointer none) [] none:=⟨af _,.inl rfl,⟨_,rV,.nil⟩,λe=>by cases e⟩
 have I9:=hy.ext gz.eb;have mi:=I9.len;rw[dE]at mi;unfold c67;apply aJ;simp+decide only[ag];apply aJ;simp+decide only[ag,pM hg,<-dm];refine aT (WC.mono (Q:= λx m' s'=>x= .normal∧∃a o,m'.get 3=some (a8 s.nx)∧Good s'∧Grown s.nx s s'∧N8 s.nx s' s.nx a (qI l) o) ?_ ?_)
 ·apply aJ;simp+decide only[ag,h0,mi];refine bY (eW (λm s'=>∃(j:Nat) (a:Value) (o:Option Nat),j<=l.length∧Good s'∧Grown s.nx s s'∧N8 s.nx s' s.nx a (qI (l.take j)) o∧m.get 3=some (a8 s.nx)∧m.get 6=some y∧m.get 7=some (aw (l.length:Int))∧m.get 8=some (aw (j:Int)))
   (λm _=>match m.get 8 with|some (.int _ j)=>(l.length-j).toNat|_=>0) ?_ ?_ ?_)
  ·exact⟨0,.pointer none,none,by omega,dv,gz,by simpa[qI]using hB1,by simp+decide only[ag],by simp+decide only[ag],by simp+decide only[ag],by simp+decide only[ag,aW]⟩
  ·simp+decide only[ag];all_goals (try simp);all_goals omega
  rintro m s' ⟨j,a,o,hj,gs,Fx,hB,g3,g6,g7,g8⟩;apply aJ;by_cases cS:j<l.length
  ·have hd:decide ((j:Int)<(l.length:Int))=true:=aL (by omega);simp+decide only[ag,g7,g8,hd];refine aT (cK true (by simp+decide only[ag]) ?_);simp+decide only[ag];apply aR;simp+decide only[ag];obtain⟨x,hx⟩:=dO (l[j]);have Nv:x<200:=by rw[hx];exact gP _ (aV _)
   have Az:j<(ints l).length:=by rw[dE];exact cS
   have Xl:=hy.ext Fx.eb;have F1:=Xl.ld bM Az (gJ cS);rw[<-hx,cO]at F1;have uC:=Mz Nv (n+2) s';have Vf:=ri x;have Io:∀e c,eJ .add e c (.string ⟨⟨[32]⟩⟩) (.string ⟨⟨gg x⟩⟩)=some (.string ⟨⟨gg x++ [32]⟩⟩):= λe c=>gZ _ _ (by simp;omega);have hnl:=Ha (l.take j);have htl:(l.take j).length<=20000:=by simp;omega
   obtain⟨r,s2,e2,o2,hB2,dI,f2,N2⟩:=Cr n gs Fx.nx hB (gg x++ [32]) (by simp;omega);have ic:=hB.grown gs Fx dI f2;have zM:qI (l.take (j+1))=qI (l.take j)++(gg x++ [32]):=by rw[cQ cS,Yi,hx]
   have w3:IntKind.i64.wrap ((j:Int)+1)=((j+1:Nat):Int):=by rw[wrap_i64 (by omega)];omega
   apply kK;apply aJ;simp+decide only[ag,g6,g8,Xl.ix Az,F1];apply ar;simp+decide only[ag,g3,uC,Io,e2];apply ar;simp+decide only[ag,g8,w3];exact⟨⟨j+1,_,o2,by omega,dI,ic,by rw[zM];exact hB2,by simp+decide only[ag,g3],by simp+decide only[ag,g6],by simp+decide only[ag,g7],by simp+decide only[ag]⟩,by omega⟩
  ·have hd:decide ((j:Int)<(l.length:Int))=false:=az (by omega);simp+decide only[ag,g7,g8,hd];refine aT (cK false (by simp+decide only[ag]) ?_);simp+decide only[ag];apply aR;simp+decide only[ag];have Vs:j=l.length:=by omega
   subst Vs;rw[lY]at hB;exact⟨a,o,by simp+decide only[ag,g3],gs,Fx,hB⟩
 rintro x m s5 ⟨rfl,a,o,g3,gs,Fx,hB⟩;simp+decide only[ag];have hnl:=Ha l;obtain⟨r6,s6,e6,rfl,lZ,n6,f6⟩:=KI (n+2) gs hB (by omega);apply aJ;simp+decide only[ag,g3,e6];refine aR (b6 (.inr rfl) (by simp+decide only[ag]) ⟨rfl,hB.grown gs Fx lZ ⟨by omega,λj _ _ hj=>f6 j hj⟩⟩)
def Yj (n:Nat) (hg:Good s) (h:LS s d σ φ) {bl bf:Nat} (hf:f<φ.length) (Au:ay s bl 24 [a8 d.lp]) (hvf:ay s bf 3 [aw (f:Int)]) (hz:φ[f].size<=1000000) (RP:φ[f].text.length<=900000000):
  Gy (n+1) s (.func (.func 68) ⟨[]⟩ ⟨[a8 bl,a8 bf]⟩) (1+φ[f].size) ([40,110,111,116,32]++φ[f].text++ [41]):=by
 intro s1 dv gz;rw[qw,aJP];refine bG (by simp) λm hm=>?_;have h0:m.get 0=some (a8 bl):=by rw[hm];rfl
 have h1:m.get 1=some (a8 bf):=by rw[hm];rfl
 clear hm;have ll:=(Au.grown gz (Au.lt hg)).ld cT (o:=0) (by simp);have lf:=(hvf.grown gz (hvf.lt hg)).ld bM (o:=0) (by simp);have h':=h.ext hg gz;have l1:=h'.own.ld iC (o:=1) (by simp);simp only[ae,aZ]at ll lf l1;have qh:=h'.sl dv;have yM:f<(j8 φ).length:=by rw[gR];exact hf
 have eH:=h.uc _ (aV hf);have yN:=φ[f].dT eH;have Fw:=qh.ix (P:=prog) (t:=61) yM (k:= .i64);have Nx:=qh.fld bM (by decide) yM (k:=11) (by decide) (j5 hf) (by omega) (x:=aw (φ[f].size:Int)) (by
  obtain⟨a,b,c,e,g,hv⟩:∃a b c e g,φ[f].mz= [a,b,c,e,g]:=by
   have:=eH.1;rcases hq:φ[f].mz with _|⟨a,_|⟨b,_|⟨c,_|⟨e,_|⟨g,_|⟨x,l⟩⟩⟩⟩⟩⟩<;>simp[hq]at this
   exact⟨_,_,_,_,_,rfl⟩
  simp[dA.row,iQ,dA.key,ec,hv])
 have l12:=qh.fld j3 (by decide) yM (k:=12) (by decide) (j5 hf) (by omega) (x:= .string ⟨⟨φ[f].text⟩⟩) (by
  obtain⟨a,b,c,e,g,hv⟩:∃a b c e g,φ[f].mz= [a,b,c,e,g]:=by
   have:=eH.1;rcases hq:φ[f].mz with _|⟨a,_|⟨b,_|⟨c,_|⟨e,_|⟨g,_|⟨x,l⟩⟩⟩⟩⟩⟩<;>simp[hq]at this
   exact⟨_,_,_,_,_,rfl⟩
  simp[dA.row,iQ,dA.key,ec,hv])
 have w1:IntKind.i64.wrap (1+(φ[f].size:Int))=((1+φ[f].size:Nat):Int):=by rw[wrap_i64 (by omega)];omega
 have Io:∀e c,eJ .add e c (.string ⟨⟨φ[f].text⟩⟩) (.string ⟨⟨[40,110,111,116,32]⟩⟩)=some (.string ⟨⟨[40,110,111,116,32]++φ[f].text⟩⟩):= λe c=>gZ _ _ (by simp;omega);have Dj:∀e c,eJ .add e c (.string ⟨⟨[41]⟩⟩) (.string ⟨⟨[40,110,111,116,32]++φ[f].text⟩⟩)=some (.string ⟨⟨[40,110,111,116,32]++φ[f].text++ [41]⟩⟩):= λe c=>gZ _ _ (by simp;omega);have N9:=cB qh.same;unfold c68;apply aJ;simp+decide only[ag];apply lV;simp+decide only[ag,h0,h1,ll,lf,cH,bO,aG,l1,Fw,qh.ct yM 11,qh.ct yM 12,Nx,l12,w1,Io,Dj,N9];exact aR (Dg (v:=aw ((1+φ[f].size:Nat):Int)) (w:= .string ⟨⟨[40,110,111,116,32]++φ[f].text++ [41]⟩⟩) (.inr rfl) (by simp+decide only[ag]) (by simp+decide only[ag]) ⟨rfl,Grown.refl dv _⟩)
def as4 (n:Nat) (hg:Good s) (h:LS s d σ φ) (hf:f<φ.length) (I8:φ[f].kind≠0) (vt:φ[f].kind≠1) (hk4:φ[f].kind≠4) (Xm:f<200) (hz:φ[f].size<=1000000) (RP:φ[f].text.length<=900000000) (fR:φ.length<900000):
  cp (aE (n+5) (dJ 20) [a8 d.lp,aw (f:Int)] s) (λr s'=>∃i d' fj kv,(∃b c,kv= .slice (some ⟨b,0,none⟩) 1 c∧s.nx<=b)∧r=aw ((i:Nat):Int)∧su s s' d σ φ ⟨4,0,0,0,qI [f],kv,[f],mv,if 4096<1+φ[f].size then 4097 else 1+φ[f].size,if 4096<1+φ[f].size then []else [40,110,111,116,32]++φ[f].text++ [41]⟩ i d' fj):=by
 rw[awW];refine bG (by simp) λm hm=>?_;have h0:m.get 0=some (a8 d.lp):=by rw[hm];rfl
 have h1:m.get 1=some (aw (f:Int)):=by rw[hm];rfl
 clear hm;obtain⟨s1,dm⟩:=dO (s.add (ca 24 [a8 d.lp]));have dv:=cz dm hg;have n1:s1.nx=s.nx+1:=by rw[dm];rfl
 have v1:=jS dm hg;have fV:=cM dm hg;obtain⟨s2,ee⟩:=dO (s1.add (ca 3 [aw (f:Int)]));have dI:=cz ee dv;have n2:s2.nx=s.nx+2:=by rw[ee,ep,n1]
 have w2:ay s2 (s.nx+1) 3 [aw (f:Int)]:=by rw[ee,<-n1];exact ay.new dv 3 _
 have v2:ay s2 s.nx 24 [a8 d.lp]:=by rw[ee];exact v1.add dv _
 have iE:Grown s.nx s s2:=by rw[ee];exact fV.add fV.nx _
 have fU:=w2.Fu dI (o:=0) (v:=aw (f:Int)) (by simp) rfl rfl;rw[dM]at fU;have nM:=w2.lt dI;obtain⟨s3,gy⟩:=dO (s2.wr (s.nx+1) (some (ca 3 [aw (f:Int)])));rw[<-gy]at fU;have gQ:Good s3:=by rw[gy];exact bZ dI nM _
 have n3:s3.nx=s.nx+2:=by rw[gy];exact n2
 have w3:ay s3 (s.nx+1) 3 [aw (f:Int)]:=by rw[gy];exact ay.set dI nM 3 _
 have v3:ay s3 s.nx 24 [a8 d.lp]:=by rw[gy];exact v2.wr dI nM (by omega) _
 have iZ:Grown s.nx s s3:=by rw[gy];exact iE.wr (by omega) nM _
 obtain⟨z,N4⟩:∃z:LVal,z= [aw 0,aw 0,aw 0,aw 0,.string ⟨⟨[]⟩⟩,.slice none 0 0,.bool false,.slice none 0 0,.slice none 0 0,.slice none 0 0,.slice none 0 0,aw 0,.string ⟨⟨[]⟩⟩]:=⟨_,rfl⟩
 obtain⟨s4,jW⟩:=dO (s3.add (ca 79 z));have iI:=cz jW gQ;have n4:s4.nx=s.nx+3:=by rw[jW,ep,n3]
 have x4:ay s4 (s.nx+2) 79 z:=by rw[jW,<-n3];exact ay.new gQ 79 _
 have w4:ay s4 (s.nx+1) 3 [aw (f:Int)]:=by rw[jW];exact w3.add gQ _
 have v4:ay s4 s.nx 24 [a8 d.lp]:=by rw[jW];exact v3.add gQ _
 have nI:Grown s.nx s s4:=by rw[jW];exact iZ.add iZ.nx _
 have eH:=h.uc _ (aV hf);have yN:=φ[f].dT eH;have Bl:=h.row_one (aV hf);have ZV:=x4.kU iI (us:=φ[f].row) (k:=13) (by rw[yN,N4];rfl) yN.symm (by decide) Bl;have pZ:=x4.lt iI;obtain⟨s5,oE⟩:=dO (s4.wr (s.nx+2) (some (ca 79 φ[f].row)));rw[<-oE]at ZV;have jm:Good s5:=by rw[oE];exact bZ iI pZ _
 have n5:s5.nx=s.nx+3:=by rw[oE];exact n4
 have x5:ay s5 (s.nx+2) 79 φ[f].row:=by rw[oE];exact ay.set iI pZ 79 _
 have w5:ay s5 (s.nx+1) 3 [aw (f:Int)]:=by rw[oE];exact w4.wr iI pZ (by omega) _
 have v5:ay s5 s.nx 24 [a8 d.lp]:=by rw[oE];exact v4.wr iI pZ (by omega) _
 have lE:Grown s.nx s s5:=by rw[oE];exact nI.wr (by omega) pZ _
 have hb6:=qt (v:=aw (f:Int)) jm fm fX rfl;obtain⟨s6,qj⟩:=dO (s5.row 3 1 [[aw (f:Int)]]);rw[<-qj]at hb6;have NQ:Grown s5.nx s5 s6:=by rw[qj];exact(Grown.refl jm _).row (af _) _ _ _
 have lZ:=NQ.bt;have n6:s6.nx=s.nx+4:=by rw[qj,tN,n5]
 have hb7:=qt (v:=aw (f:Int)) lZ fm fX rfl;obtain⟨s7,rF⟩:=dO (s6.row 3 1 [[aw (f:Int)]]);rw[<-rF]at hb7;have WO:Grown s6.nx s6 s7:=by rw[rF];exact(Grown.refl lZ _).row (af _) _ _ _
 have rX:=WO.bt;have wU:Grown s5.nx s5 s7:=NQ.trans (WO.le NQ.nx);have Q7:Grown s.nx s s7:=lE.trans (wU.le lE.nx);have al8:∀(sx:AS) (b:Nat),Good sx->bE sx b 3 1 false (ints [f])->Sl sx.nx sx 3 1 (.slice (some ⟨b,0,none⟩) 1 (bH 1)) (ints [f]):= λsx b hgx hr=>Sl.full (hr.lt hgx) hr (by rw[(cR 1).1];exact af 1) (.inl (cR 1).2);have Q8:bE s6 s5.nx 3 1 false (ints [f]):=by rw[qj];exact bE.new jm 3 1 _
 have y6:=(al8 s6 _ lZ Q8).ext WO.eb;have y7:Sl s7.nx s7 3 1 (.slice (some ⟨s6.nx,0,none⟩) 1 (bH 1)) (ints [f]):=al8 s7 _ rX (by rw[rF];exact bE.new lZ 3 1 _);obtain⟨r,s8,e8,rfl,ZW⟩:=H6 n rX (y6.le WO.nx) (by simp) (by simpa using Xm);have JQ:=ZW.bt;have Jf:Grown s.nx s s8:=Q7.trans (ZW.le Q7.nx);have axS:Grown s5.nx s5 s8:=wU.trans (ZW.le wU.nx);have v8:=v5.grown axS (by omega);have w8:=w5.grown axS (by omega);have v7:=v5.grown wU (by omega);have w7:=w5.grown wU (by omega);have w6:=w5.grown NQ (by omega);have h8:=h.ext hg Jf;have BG:=Yj (n+2) JQ h8 hf v8 w8 hz RP;obtain⟨r,s9,e9,i,d',fj,rfl,hp⟩:=B4 (n+3) JQ h8 (kind:=4) (number:=0) (a0:=0) (a1:=0) (rest:=qI [f]) (mz:=mv) ((y7.ext ZW.eb).le ZW.nx) Cs fR BG (kids:= [f]);have lv2:=v2.ld cT (o:=0) (by simp);have lw2:=w2.ld bM (o:=0) (by simp);have lv3:=v3.ld cT (o:=0) (by simp);have lw3:=w3.ld bM (o:=0) (by simp);have lv4:=v4.ld cT (o:=0) (by simp);have lw4:=w4.ld bM (o:=0) (by simp);have lv5:=v5.ld cT (o:=0) (by simp);have lw5:=w5.ld bM (o:=0) (by simp);have lw6:=w6.ld bM (o:=0) (by simp);have lv7:=v7.ld cT (o:=0) (by simp);have lw7:=w7.ld bM (o:=0) (by simp);have lv8:=v8.ld cT (o:=0) (by simp);have lw8:=w8.ld bM (o:=0) (by simp);simp only[ae]at lv2 lw2 lv3 lw3 lv4 lw4 lv5 lw5 lw6 lv7 lw7 lv8 lw8;have h2:=h.ext hg iE;have h3:=h.ext hg iZ;have h4:=h.ext hg nI;have lf3:=h3.own.ld iC (o:=1) (by simp);have lf4:=h4.own.ld iC (o:=1) (by simp);simp only[ae,aZ]at lf3 lf4;have yM:f<(j8 φ).length:=by rw[gR];exact hf
 have Fw:=(h3.sl gQ).ix (P:=prog) (t:=61) yM (k:= .i64);have ld3:=(h3.sl gQ).eA ny nz (by decide) yM;have ld4:=(h4.sl iI).eA ny nz (by decide) yM;rw[j5 hf]at ld3 ld4;obtain⟨r,sx,et,rfl,rfl⟩:=D1 (n+3) dI h2 hf;have lk5:=x5.ld bM (o:=0) (by omega);rw[φ[f].ZS eH]at lk5;have d0:decide ((φ[f].kind:Int)=0)=false:=az (by omega);have d1:decide ((φ[f].kind:Int)=1)=false:=az (by omega);have d4:decide ((φ[f].kind:Int)=4)=false:=az (by omega);have Iq:=cB (gj (h.Pl (aV hf)));have aot:=cB (h.sl hg).same;have aou:=KN (.slice (some ⟨s6.nx,0,none⟩) 1 (bH 1)) rfl;unfold c20;apply aJ;simp+decide only[ag,h0,h1,ez hg];rw[show(Value.pointer (some ⟨d.lp,0,none⟩)).cells.toList= [a8 d.lp]from rfl,<-dm];simp+decide only[ag,ez dv];rw[show(Value.int .i64 (f:Int)).cells.toList= [aw (f:Int)]from rfl,<-ee];apply dh;apply ar;simp+decide only[ag,n1,lv2,lz];refine dD (by simp+decide only[ag]) ?_;apply aJ;simp+decide only[ag,n1,lv2,lw2,et,fU];refine aT (aT (gY ?_));simp+decide only[ag,n1,n3,lv3,lw3,lv4,lw4,cH,bO,aG,lf3,lf4,Fw,ld3,ld4,pM gQ,<-N4,<-jW,ZV,aot,Iq];apply aJ;simp+decide only[ag,bO,aG,lk5];refine bY (aT (aT (ar ?_)));simp+decide only[ag,d0];refine nN (by simp+decide only[ag]) ?_;apply ar;simp+decide only[ag,d1];refine nN (by simp+decide only[ag]) ?_;apply aJ;simp+decide only[ag,d4];refine dD (by simp+decide only[ag]) ?_;apply lV;simp only[ec,aW,gO]at e9;simp+decide only[ag,n1,lv5,lw5,hb6,lw6,hb7,lv7,lw7,lv8,lw8,aou,jz,e8,AX,ec,aW,e9];refine aR (b6 (v:=aw (i:Int)) (.inr rfl) ?_ ⟨i,d',fj,_,⟨s6.nx,_,rfl,by omega⟩,rfl,hp.before hg Jf⟩);simp+decide only[ag]
def aiC (n:Nat) (hg:Good s) (h:LS s d σ φ) {tag:Nat} (Ah:tag<6) (ht:t<σ.length) (hk:σ[t].kind=2) {T:Nat} (hT:σ[t].v[0]? =some (aw (T:Int))) (fR:φ.length<900000):
  cp (aE (n+7) (dJ 10) [a8 d.lp,aw (tag:Int),aw (t:Int)] s) (λr s'=>∃i d' fj,r=aw ((i:Nat):Int)∧su s s' d σ φ ⟨if decide ((T:Int)=tag)then 0 else 1,0,0,0,[],.slice none 0 0,[],mv,1,BF (decide ((T:Int)=tag))⟩ i d' fj):=by
 rw[awV];refine bG (by simp) λm hm=>?_;have h0:m.get 0=some (a8 d.lp):=by rw[hm];rfl
 have h1:m.get 1=some (aw (tag:Int)):=by rw[hm];rfl
 have h2:m.get 2=some (aw (t:Int)):=by rw[hm];rfl
 clear hm;obtain⟨z,hz⟩:∃z:LVal,z= [.string ⟨⟨[]⟩⟩,.string ⟨⟨[]⟩⟩,.string ⟨⟨[]⟩⟩,.string ⟨⟨[]⟩⟩,.string ⟨⟨[]⟩⟩,.string ⟨⟨[]⟩⟩]:=⟨_,rfl⟩
 obtain⟨s1,dm⟩:=dO (s.add (ca 81 z));have dv:=cz dm hg;have n1:s1.nx=s.nx+1:=by rw[dm];rfl
 have v1:=jS dm hg;have fU:=v1.kU dv (us:=xO) (k:=6) (by rw[hz];rfl) rfl (by decide) rfl;have Lm:=v1.lt dv;obtain⟨s2,ee⟩:=dO (s1.wr s.nx (some (ca 81 xO)));rw[<-ee]at fU;have dI:Good s2:=by rw[ee];exact bZ dv Lm _
 have n2:s2.nx=s.nx+1:=by rw[ee];exact n1
 have v2:ay s2 s.nx 81 xO:=by rw[ee];exact ay.set dv Lm 81 _
 have ic:Grown s.nx s s2:=by rw[ee,dm];rw[dm]at Lm;exact((Grown.refl hg _).add (af _) _).wr (af _) Lm _
 have h':=h.ext hg ic;obtain⟨r,sx,e3,rfl,rfl⟩:=pX (n+4) dI h' ht;obtain⟨r,s4,e4,rfl,qH⟩:=vU (n+4) dI h'.ts ht;have xM:Grown s.nx s s4:=ic.trans (qH.le ic.nx);have Zi:=h'.own.ld eU (o:=0) (by simp);simp only[ae]at Zi;have h4:=h.ext hg xM;have lt4:=h4.own.ld eU (o:=0) (by simp);simp only[ae]at lt4;obtain⟨r,s5,e5,rfl,p4⟩:=Pn (n+4) qH.bt h4.ts ht;have al9:Grown s.nx s s5:=xM.trans (p4.le xM.nx);have eH:=h.ts.ua _ (aV ht);have hf0:WG 0 (.agg ⟨σ[t].v⟩)=some (aw (T:Int)):=by rw[ace (by rw[eH.1];decide)];rw[ba (by rw[eH.1];decide)]at hT;exact hT
 obtain⟨r,s6,e6,i,d',fj,rfl,hp⟩:=Ct n p4.bt (h.ext hg al9) (decide ((T:Int)=tag)) fR;have d1:decide ((tag:Int)<0)=false:=az (by omega);have d2:decide ((6:Int)<=(tag:Int))=false:=az (by omega);have d3:decide ((σ[t].kind:Int)=2)=true:=aL (by omega);have ZU:=Wb;unfold xO at ZU fU;unfold c10;apply aJ;simp+decide only[ag];apply dh;apply ar;simp+decide only[ag,h0,lz];refine dD (by simp+decide only[ag]) ?_;apply aJ;simp+decide only[ag,ZU,pM hg,<-hz,<-dm,fU];apply dh;apply ar;simp+decide only[ag,h1,d1,d2];refine dD (by simp+decide only[ag]) ?_;apply aJ;simp+decide only[ag,h0,h2,e3];apply dh;apply ar;simp+decide only[ag,h0,cH,bO,aG,Zi,e4,d3];refine iP (by simp+decide only[ag]) ?_;apply aJ;simp+decide only[ag,h0,h1,cH,bO,aG,lt4,e5,hf0,e6];exact aR (b6 (.inr rfl) (by simp+decide only[ag]) ⟨i,d',fj,rfl,hp.before hg al9⟩)
def aiD {e:EK} {c:Bool} (a b:List UInt8):eJ .lss e c (.string ⟨⟨b⟩⟩) (.string ⟨⟨a⟩⟩)=some (.bool (IP a b)):=by show fG (IP a b)=_;rw[fy]
def aiE {e:EK} {c:Bool} (a:List UInt8):eJ .neq e c (.string ⟨⟨a⟩⟩) (.string ⟨⟨a⟩⟩)=some (.bool false):=by show fG (lF (NY a a))=_;rw[fy,lq,tL];simp
def aiF (n:Nat) (x:List UInt8) (s:AS):cp (aE (n+1) (dJ 270) [.string ⟨⟨x⟩⟩] s) (λr s'=>r= .bool false∧s'=s):=by
 rw[aCj];refine bG (by simp) λm hm=>?_;have h0:m.get 0=some (.string ⟨⟨x⟩⟩):=by rw[hm];rfl
 clear hm;unfold axd;apply aJ;simp+decide only[ag,↓iq];apply aJ;simp+decide only[ag,↓iq,h0,aiE];exact aR (b6 (v:= .bool false) (.inr rfl) (by simp+decide only[ag,↓iq]) ⟨rfl,rfl⟩)
def adD (n:Nat) (a b:List UInt8) (s:AS):cp (aE (n+2) (dJ 231) [.string ⟨⟨a⟩⟩,.string ⟨⟨b⟩⟩] s) (λr s'=>r= .bool (IP a b)∧s'=s):=by
 rw[aCi];refine bG (by simp) λm hm=>?_;have h0:m.get 0=some (.string ⟨⟨a⟩⟩):=by rw[hm];rfl
 have h1:m.get 1=some (.string ⟨⟨b⟩⟩):=by rw[hm];rfl
 clear hm;obtain⟨r,sx,e1,rfl,rfl⟩:=aiF n a s;unfold axc;apply aJ;simp+decide only[ag,↓iq];apply aJ;simp+decide only[ag,↓iq,h0,h1,e1,aiD];exact aR (b6 (v:= .bool (IP a b)) (.inr rfl) (by simp+decide only[ag,↓iq]) ⟨rfl,rfl⟩)
def NR (L:List (List UInt8)) (j:Nat):List (List UInt8):=(L.set (j+1) (L.getD j [])).set j (L.getD (j+1) [])
def NS:Nat->List (List UInt8)->List (List UInt8)
 |0,L=>L
 |j+1,L=>if IP (L.getD (j+1) []) (L.getD j [])then NS j (NR L j)else L
def EP (L:List (List UInt8)):Nat->List (List UInt8)
 |0=>L
 |k+1=>NS (k+1) (EP L k)
def nT (L:List (List UInt8)):List (List UInt8):=EP L (L.length-1)
def Hc (L:List (List UInt8)) (j:Nat):(NR L j).length=L.length:=by simp[NR]
def Pp:∀(j:Nat) (L:List (List UInt8)),(NS j L).length=L.length
 |0,_=>rfl
 |j+1,L=>by
  unfold NS;split
  ·rw[Pp,Hc]
  ·rfl
def Cu (L:List (List UInt8)):∀k,(EP L k).length=L.length
 |0=>rfl
 |k+1=>by unfold EP;rw[Pp,Cu]
def FU {L:List (List UInt8)} (h:i<L.length):L.getD i []=L[i]:=by simp[List.getD,h]
def Yk {L:List (List UInt8)} (h:j+1<L.length):(NR L j).Perm L:=by unfold NR;rw[FU (by omega),FU h];exact List.set_set_perm h (by omega)
def KQ:∀(j:Nat) (L:List (List UInt8)),j<L.length->(NS j L).Perm L
 |0,_,_=>Jo _
 |j+1,L,h=>by
  unfold NS;split
  ·exact(KQ j _ (by rw[Hc];omega)).trans (Yk h)
  ·exact Jo _
def KR (L:List (List UInt8)):∀k,k<L.length->(EP L k).Perm L
 |0,_=>Jo _
 |k+1,h=>by unfold EP;exact(KQ _ _ (by rw[Cu];exact h)).trans (KR L k (by omega))
def TJ (L:List (List UInt8)):(nT L).Perm L:=by
 unfold nT;cases L with
 |nil=>exact Jo _
 |cons x L=>exact KR _ _ (by simp)
def KS (L:List (List UInt8)):ku (nT L)=ku L:=by unfold ku;exact((TJ L).map List.length).sum_nat
def D2 (L:List (List UInt8)):(nT L).length=L.length:=Cu L _
def Yl (L:List (List UInt8)):∀r∈strs L,r.length=1:= λr h=>by obtain⟨n,_,rfl⟩:=List.mem_map.1 h;rfl
def adE (L:List (List UInt8)) (i:Nat) (x:List UInt8):(strs L).set i [.string ⟨⟨x⟩⟩]=strs (L.set i x):=by unfold strs;rw[List.map_set]
def ack {c m:Nat} {L:List (List UInt8)} (hg:Good s) (h:bE s b 9 1 false (strs L)) (hi:i<L.length) (x:List UInt8):
  ∃s',jK 1 s (wR 1 (.slice (some ⟨b,0,none⟩) m c) i) (.string ⟨⟨x⟩⟩)=some (.tuple #[],s')∧Good s'∧s'.nx=s.nx∧bE s' b 9 1 false (strs (L.set i x))∧∀j,j≠b->s'.h.get j=s.h.get j:=by
 have pQ:i<(strs L).length:=by rw[gK];exact hi
 obtain⟨s',e1,e2,e3,e4,e5⟩:=h.put hg (o:=i) (x:= .string ⟨⟨x⟩⟩) pQ (Yl L _ (aV _)) rfl;rw[adE]at e4;refine⟨s',?_,e2,e3,e4,e5⟩;show aD (Nat.beq (len [Value.string ⟨⟨x⟩⟩]) 1) (ob (ij s b (0+i*1) [Value.string ⟨⟨x⟩⟩]) λs'=>some (Value.tuple #[],s')) none=_;rw[aG,qZ,e1];rfl
def Wc {c:Nat} {L:List (List UInt8)} (hg:Good s) (h:bE s b 9 1 false (strs L)) (hn:L.length=n) (hc:n<=c/512) (hx:c%2=1∨c%2=0∧oz c=1):Sl s.nx s 9 1 (.slice (some ⟨b,0,none⟩) n c) (strs L):=by have:=Sl.full (c:=c) (h.lt hg) h (by rw[gK];omega) hx;rwa[gK,hn]at this
def adF (n:Nat) {c:Nat} {L:List (List UInt8)} (hg:Good s) (hr:bE s b 9 1 false (strs L)) (hc:L.length<=c/512) (hx:c%2=1∨c%2=0∧oz c=1) (hL:L.length<=12):
  cp (aE (n+3) (dJ 225) [.slice (some ⟨b,0,none⟩) L.length c,aw 0,aw (L.length:Int)] s) (λr s'=>r= .tuple #[]∧Good s'∧s'.nx=s.nx∧bE s' b 9 1 false (strs (nT L))∧∀j,j≠b->s'.h.get j=s.h.get j):=by
 obtain⟨N,hN⟩:=dO L.length;rw[<-hN]at hc hL⊢;obtain⟨V,hV⟩:=dO (Value.slice (some ⟨b,0,none⟩) N c);rw[<-hV];rw[aCh];refine bG (by simp) λm hm=>?_;have h0:m.get 0=some V:=by rw[hm];rfl
 have h1:m.get 1=some (aw 0):=by rw[hm];rfl
 have h2:m.get 2=some (aw (N:Int)):=by rw[hm];rfl
 clear hm;unfold axb;have w0:IntKind.i64.wrap (0+1)=1:=rfl;apply aJ;simp+decide only[ag,↓iq,h1,w0];refine WC.mono (Q:= λx m' s'=>x= .normal∧Good s'∧s'.nx=s.nx∧bE s' b 9 1 false (strs (nT L))∧∀j,j≠b->s'.h.get j=s.h.get j) ?_ ?_
 ·refine bY (eW (λm s'=>∃i:Nat,1<=i∧(i<=N∨i=1)∧Good s'∧s'.nx=s.nx∧bE s' b 9 1 false (strs (EP L (i-1)))∧(∀j,j≠b->s'.h.get j=s.h.get j)∧m.get 0=some V∧m.get 1=some (aw 0)∧m.get 2=some (aw (N:Int))∧m.get 6=some (aw (i:Int)))
   (λm _=>match m.get 6 with|some (.int _ j)=>(13-j).toNat|_=>0) ?_ ?_ ?_)
  ·exact⟨1,by omega,by omega,hg,rfl,hr,λ_ _=>rfl,by simp+decide only[ag,↓iq,h0],by simp+decide only[ag,↓iq,h1],by simp+decide only[ag,↓iq,h2],by simp+decide only[ag,↓iq,Int.natCast_one]⟩
  ·simp+decide only[ag,↓iq]
  rintro m s1 ⟨i,hi1,hi2,dv,QZ,uh,hf1,g0,g1,g2,g6⟩;apply dh;apply ar;by_cases cS:i<N
  ·have hd:decide ((i:Int)<(N:Int))=true:=aL (by omega);simp+decide only[ag,↓iq,g2,g6,hd];refine iP (by simp+decide only[ag,↓iq]) ?_;apply aR;apply kK;apply aJ;simp+decide only[ag,↓iq,g6];refine WC.mono (Q:= λx m' s'=>x= .normal∧Good s'∧s'.nx=s.nx∧bE s' b 9 1 false (strs (EP L i))∧(∀j,j≠b->s'.h.get j=s.h.get j)∧m'.get 0=some V∧m'.get 1=some (aw 0)∧m'.get 2=some (aw (N:Int))∧m'.get 6=some (aw (i:Int))) ?_ ?_
   ·refine bY (eW (λm s'=>∃(j:Nat) (L':List (List UInt8)),j<=i∧L'.length=N∧NS j L'=EP L i∧Good s'∧s'.nx=s.nx∧bE s' b 9 1 false (strs L')∧(∀q,q≠b->s'.h.get q=s.h.get q)∧m.get 0=some V∧m.get 1=some (aw 0)∧m.get 2=some (aw (N:Int))∧m.get 6=some (aw (i:Int))∧m.get 7=some (aw (j:Int)))
     (λm _=>match m.get 7 with|some (.int _ j)=>j.toNat|_=>0) ?_ ?_ ?_)
    ·refine⟨i,EP L (i-1),af _,by rw[Cu,hN],?_,dv,QZ,uh,hf1,by simp+decide only[ag,↓iq,g0],by simp+decide only[ag,↓iq,g1],by simp+decide only[ag,↓iq,g2],by simp+decide only[ag,↓iq,g6],by simp+decide only[ag,↓iq]⟩;obtain⟨q,rfl⟩:∃q,i=q+1:=⟨i-1,by omega⟩
     rfl
    ·simp+decide only[ag,↓iq];simp;omega
    rintro m s2 ⟨j,L',hj,hL',hb,dI,Q4,zO,Xm,g0,g1,g2,g6,g7⟩;have qh:=Wc dI zO hL' hc hx;rw[<-hV]at qh;refine aT (aT (gY ?_));cases j with
    |zero=>have hd0:decide ((0:Int)<0)=false:=rfl;have g7:m.get 7=some (aw 0):=g7;simp+decide only[ag,↓iq,g0,g1,g7,hd0];refine dD (by simp+decide only[ag,↓iq]) ?_;simp+decide only[ag,↓iq];have Vj:L'=EP L i:=hb;exact⟨dI,Q4,by rw[<-Vj];exact zO,Xm,by simp+decide only[ag,↓iq,g0],by simp+decide only[ag,↓iq,g1],by simp+decide only[ag,↓iq,g2],by simp+decide only[ag,↓iq,g6]⟩
    |succ j=>
     have hd0:decide ((0:Int)<((j+1:Nat):Int))=true:=aL (by omega);have wj:IntKind.i64.wrap (((j+1:Nat):Int)-1)=(j:Int):=by rw[wrap_i64 (by omega)];omega
     have Xc:j+1<(strs L').length:=by rw[gK];omega
     have Nw:j<(strs L').length:=by omega
     have i1:=qh.ix (P:=prog) (t:=30) Xc (k:= .i64);have i0:=qh.ix (P:=prog) (t:=30) Nw (k:= .i64);have l1:=qh.ld j3 Xc (uQ (L:=L') (i:=j+1) (by omega));have l0:=qh.ld j3 Nw (uQ (L:=L') (i:=j) (by omega));obtain⟨r,sx,e1,rfl,rfl⟩:=adD n (L'[j+1]'(by omega)) (L'[j]'(by omega)) s2;have hq1:L'.getD (j+1) []=L'[j+1]'(by omega):=FU (by omega);have hq0:L'.getD j []=L'[j]'(by omega):=FU (by omega);have dm:=cB (Ck ⟨⟨L'[j+1]'(by omega)⟩⟩);have hs0:=cB (Ck ⟨⟨L'[j]'(by omega)⟩⟩);simp+decide only[ag,↓iq,g0,g1,g7,hd0,wj,i1,i0,l1,l0,e1,dm,hs0];refine cK (IP (L'[j+1]'(by omega)) (L'[j]'(by omega))) (by simp+decide only[ag,↓iq]) ?_;unfold NS at hb;rw[hq1,hq0]at hb;cases nM:IP (L'[j+1]'(by omega)) (L'[j]'(by omega))with
     |false=>rw[nM]at hb;simp+decide only[ag,↓iq];apply aR;simp+decide only[ag,↓iq];have Vj:L'=EP L i:=hb;exact⟨dI,Q4,by rw[<-Vj];exact zO,Xm,by simp+decide only[ag,↓iq,g0],by simp+decide only[ag,↓iq,g1],by simp+decide only[ag,↓iq,g2],by simp+decide only[ag,↓iq,g6]⟩
     |true=>
      rw[nM,aU rfl]at hb;simp+decide only[ag,↓iq];apply aR;simp+decide only[ag,↓iq];obtain⟨s3,e3,gQ,Ze,LA,hf3⟩:=ack (c:=c) (m:=N) (i:=j+1) dI zO (by omega) (L'[j]'(by omega));obtain⟨s4,e4,iI,hn4,RR,hf4⟩:=ack (c:=c) (m:=N) (i:=j) gQ LA (by simp;omega) (L'[j+1]'(by omega));rw[<-hV]at e3 e4;have hsw:(L'.set (j+1) (L'[j]'(by omega))).set j (L'[j+1]'(by omega))=NR L' j:=by unfold NR;rw[hq1,hq0]
      rw[hsw]at RR;refine aT (bY (gY ?_));simp+decide only[ag,↓iq,g0,g7,wj,i1,i0,l1,l0,e3,e4,dm,hs0];apply ar;simp+decide only[ag,↓iq,g7,wj];refine⟨⟨j,NR L' j,by omega,by rw[Hc];exact hL',hb,iI,by omega,RR,λq hq=>by rw[hf4 q hq,hf3 q hq,Xm q hq],by simp+decide only[ag,↓iq,g0],by simp+decide only[ag,↓iq,g1],by simp+decide only[ag,↓iq,g2],by simp+decide only[ag,↓iq,g6],by simp+decide only[ag,↓iq]⟩,by omega⟩
   rintro x m s2 ⟨rfl,dI,Q4,zO,Xm,g0,g1,g2,g6⟩;simp+decide only[ag,↓iq];have wi:IntKind.i64.wrap ((i:Int)+1)=((i+1:Nat):Int):=by rw[wrap_i64 (by omega)];omega
   apply ar;simp+decide only[ag,↓iq,g6,wi];exact⟨⟨i+1,by omega,by omega,dI,Q4,by rw[Nat.add_sub_cancel];exact zO,Xm,by simp+decide only[ag,↓iq,g0],by simp+decide only[ag,↓iq,g1],by simp+decide only[ag,↓iq,g2],by simp+decide only[ag,↓iq]⟩,by omega⟩
  ·have hd:decide ((i:Int)<(N:Int))=false:=az (by omega);simp+decide only[ag,↓iq,g2,g6,hd];refine dD (by simp+decide only[ag,↓iq]) ?_;simp+decide only[ag,↓iq];refine⟨dv,QZ,?_,hf1⟩;unfold nT;rw[show L.length-1=i-1 by omega];exact uh
 rintro x m s' ⟨rfl,h⟩;exact mZ (.inl rfl) ⟨rfl,h⟩
def T9:∃F,iN prog cC 160=some F:=by
 cases h:iN prog cC 160 with
 |none=>exact absurd h (by
   have:(iN prog cC 160).isSome=true:=by kernel_rfl
   intro h;rw[h]at this;cases this)
 |some F=>exact⟨F,rfl⟩
def TK (i:Nat):LU [.int .u64 (i:Int)]:=by refine⟨rfl,?_⟩;show oR (Option LVal) none _ (m5 .u64 (i:Int))=_;rw[fI];rfl
def H7 (hk:k<=12) (n:Nat) (s:AS):∃b:Int,aE (n+1) (dJ 160) [.int .u64 (k:Int)] s= .val (aw b) s:=by
 obtain⟨F,e⟩:=T9;have key:∀b:Int,akO (aw b)->Rn (aw b) (qP (dJ 160) [.int .u64 (k:Int)] ⟨lQ 20,0,0⟩)=true->∃b:Int,aE (n+1) (dJ 160) [.int .u64 (k:Int)] s= .val (aw b) s:= λb hb h=>
  ⟨b,wy (L:=ga) (B:=qP) (by rfl) e (TK k) hb (zy h) s⟩
 match k,hk with
 |0,_=>exact key 0 ⟨rfl,λnx=>rfl⟩ (by kernel_rfl)
 |1,_=>exact key 1 ⟨rfl,λnx=>rfl⟩ (by kernel_rfl)
 |2,_=>exact key 2 ⟨rfl,λnx=>rfl⟩ (by kernel_rfl)
 |3,_=>exact key 2 ⟨rfl,λnx=>rfl⟩ (by kernel_rfl)
 |4,_=>exact key 3 ⟨rfl,λnx=>rfl⟩ (by kernel_rfl)
 |5,_=>exact key 3 ⟨rfl,λnx=>rfl⟩ (by kernel_rfl)
 |6,_=>exact key 3 ⟨rfl,λnx=>rfl⟩ (by kernel_rfl)
 |7,_=>exact key 3 ⟨rfl,λnx=>rfl⟩ (by kernel_rfl)
 |8,_=>exact key 4 ⟨rfl,λnx=>rfl⟩ (by kernel_rfl)
 |9,_=>exact key 4 ⟨rfl,λnx=>rfl⟩ (by kernel_rfl)
 |10,_=>exact key 4 ⟨rfl,λnx=>rfl⟩ (by kernel_rfl)
 |11,_=>exact key 4 ⟨rfl,λnx=>rfl⟩ (by kernel_rfl)
 |12,_=>exact key 4 ⟨rfl,λnx=>rfl⟩ (by kernel_rfl)
def as6 (n:Nat) {c:Nat} {L:List (List UInt8)} (hg:Good s) (hr:bE s b 9 1 false (strs L)) (hc:L.length<=c/512) (hx:c%2=1∨c%2=0∧oz c=1) (hL:L.length<=12) (q:Int):
  cp (aE (n+4) (dJ 190) [.slice (some ⟨b,0,none⟩) L.length c,aw 0,aw (L.length:Int),aw q] s) (λr s'=>r= .tuple #[]∧Good s'∧s'.nx=s.nx∧bE s' b 9 1 false (strs (nT L))∧∀j,j≠b->s'.h.get j=s.h.get j):=by
 obtain⟨r,s1,e1,rfl,dm⟩:=adF n hg hr hc hx hL;obtain⟨V,hV⟩:=dO (Value.slice (some ⟨b,0,none⟩) L.length c);rw[<-hV]at e1⊢;rw[aCg];refine bG (by simp) λm hm=>?_;have h0:m.get 0=some V:=by rw[hm];rfl
 have h1:m.get 1=some (aw 0):=by rw[hm];rfl
 have h2:m.get 2=some (aw (L.length:Int)):=by rw[hm];rfl
 clear hm;unfold axa;apply aJ;simp+decide only[ag];apply aJ;simp+decide only[ag];have w0:IntKind.i64.wrap ((L.length:Int)-0)=(L.length:Int):=by rw[wrap_i64 (by omega)];omega
 have hd:decide ((L.length:Int)<=12)=true:=aL (by omega);refine WC.mono (Q:= λx m' s'=>x= .ret∧s'=s1) ?_ ?_
 ·refine bY (eW (λm s'=>s'=s∧m.get 0=some V∧m.get 1=some (aw 0)∧m.get 2=some (aw (L.length:Int))) (λ_ _=>0) ⟨rfl,by simp+decide only[ag,h0],by simp+decide only[ag,h1],by simp+decide only[ag,h2]⟩ (by decide) ?_);rintro m s' ⟨rfl,g0,g1,g2⟩;apply bY;apply aJ;simp+decide only[ag,g1,g2,w0];apply dh;apply ar;simp+decide only[ag,hd];refine iP (by simp+decide only[ag]) ?_;apply aJ;simp+decide only[ag,g0,g1,g2,e1];exact aR ⟨rfl,rfl⟩
 rintro x m s' ⟨rfl,rfl⟩;exact mZ (.inr rfl) ⟨rfl,dm⟩
def adG (n:Nat) {c:Nat} {L:List (List UInt8)} (hg:Good s) (hr:bE s b 9 1 false (strs L)) (hc:L.length<=c/512) (hx:c%2=1∨c%2=0∧oz c=1) (hL:L.length<=12):
  cp (aE (n+5) (dJ 137) [.slice (some ⟨b,0,none⟩) L.length c] s) (λr s'=>r= .tuple #[]∧Good s'∧s'.nx=s.nx∧bE s' b 9 1 false (strs (nT L))∧∀j,j≠b->s'.h.get j=s.h.get j):=by
 obtain⟨q,eq⟩:=H7 hL (n+3) s;obtain⟨r,s1,e1,rfl,dm⟩:=as6 n hg hr hc hx hL q;rw[aCf];refine bG (by simp) λm hm=>?_;have h0:m.get 0=some (.slice (some ⟨b,0,none⟩) L.length c):=by rw[hm];rfl
 clear hm;have hcv:xI (.int .u64) (aw (L.length:Int))=some (.int .u64 (L.length:Int)):=by show mo .u64 (L.length:Int)=_;rw[jZ,wrap_small ⟨by show(0:Int)<=_;omega,by show(L.length:Int)<=18446744073709551615;omega⟩]
 unfold aw9;apply aJ;simp+decide only[ag,h0];apply ar;simp+decide only[ag,h0,hcv,eq,e1];exact mZ (.inl rfl) ⟨rfl,dm⟩
def fsz (φ:List dA) (x:Nat):Nat:=(φ[x]?.map dA.size).getD 0
def xw (φ:List dA) (x:Nat):List UInt8:=(φ[x]?.map dA.text).getD []
def acm {x:Nat} (h:x<φ.length):fsz φ x=φ[x].size:=by unfold fsz;rw[ba h];rfl
def acn {x:Nat} (h:x<φ.length):xw φ x=φ[x].text:=by unfold xw;rw[ba h];rfl
def rD (φ:List dA) (l:List Nat):Nat:=1+(l.map (fsz φ)).sum
def J3 (φ:List dA) (name:List UInt8) (l:List Nat):List UInt8:=(40::name++ [32])++nf [32] (nT (l.map (xw φ)))++ [41]
def dA.aDH (e:dA) (h:pO e.mz):e.row[11]'(by rw[e.dT h];decide)=aw (e.size:Int):=by
 obtain⟨a,b,c,f,g,hv⟩:∃a b c f g,e.mz= [a,b,c,f,g]:=by
  have:=h.1;rcases hq:e.mz with _|⟨a,_|⟨b,_|⟨c,_|⟨f,_|⟨g,_|⟨x,l⟩⟩⟩⟩⟩⟩<;>simp[hq]at this
  exact⟨_,_,_,_,_,rfl⟩
 simp[dA.row,iQ,dA.key,ec,hv]
def dA.aDI (e:dA) (h:pO e.mz):e.row[12]'(by rw[e.dT h];decide)= .string ⟨⟨e.text⟩⟩:=by
 obtain⟨a,b,c,f,g,hv⟩:∃a b c f g,e.mz= [a,b,c,f,g]:=by
  have:=h.1;rcases hq:e.mz with _|⟨a,_|⟨b,_|⟨c,_|⟨f,_|⟨g,_|⟨x,l⟩⟩⟩⟩⟩⟩<;>simp[hq]at this
  exact⟨_,_,_,_,_,rfl⟩
 simp[dA.row,iQ,dA.key,ec,hv]
def Own.as7 {sz:Nat} (h:Own n s et sz v R o) (eR:sz<256) (h0:0<R.length):
  ∃b c,v= .slice (some ⟨b,0,none⟩) R.length c∧n<=b∧bE s b et sz false R∧R.length<=c/512∧(c%2=1∨c%2=0∧oz c=sz):=by
 cases h with
 |nil=>simp at h0
 | @ex b _ hb hr=>obtain⟨d1,d2⟩:=cR R.length;exact⟨b,bH R.length,rfl,hb,hr,by rw[d1];exact af _,.inl d2⟩
 | @lb b _ hb hr=>obtain⟨d1,d2,d3⟩:=j1 R.length sz eR;exact⟨b,cq R.length sz,rfl,hb,hr,by rw[d1];exact af _,.inr ⟨d2,d3⟩⟩
def TL (n:Nat) (hg:Good s) (h:LS s d σ φ) {bk bl bn:Nat} {name:List UInt8} {l:List Nat} (Oz:name.length<=100) (hvk:ay s bk 38 [y]) (Au:ay s bl 24 [a8 d.lp]) (hvn:ay s bn 9 [.string ⟨⟨name⟩⟩]) (hy:Sl s.nx s 3 1 y (ints l)) (hl:l.length<=12) (NZ:0<l.length) (gP:∀t∈l,t<φ.length) (hz:∀t∈l,fsz φ t<=100000) (ht:ku (l.map (xw φ))+12<900000):
  Gy (n+8) s (.func (.func 136) ⟨[]⟩ ⟨[a8 bk,a8 bl,a8 bn]⟩) (rD φ l) (J3 φ name l):=by
 intro s1 dv gz;rw[qw,aCd];refine bG (by simp) λm hm=>?_;have h0:m.get 0=some (a8 bk):=by rw[hm];rfl
 have h1:m.get 1=some (a8 bl):=by rw[hm];rfl
 have h2:m.get 2=some (a8 bn):=by rw[hm];rfl
 clear hm;have lk:=(hvk.grown gz (hvk.lt hg)).ld gu (o:=0) (by simp);simp only[ae]at lk;have I9:=hy.ext gz.eb;have mi:=I9.len;rw[dE]at mi;unfold aw7;apply aJ;simp+decide only[ag];apply aJ;simp+decide only[ag];apply aJ;simp+decide only[ag];have hzs:∀j,j<=l.length->((l.take j).map (fsz φ)).sum<=100000*j:=by
  intro j hj;have:=wB (L:=l.take j) (f:=fsz φ) (k:=100000) λx hx=>hz x (gV hx);have e:(l.take j).length=j:=by simp;omega
  rw[e]at this;exact this
 refine aT (WC.mono (Q:= λx m' s'=>x= .normal∧Grown s1.nx s1 s'∧∃w o,m'.get 0=some (a8 bk)∧m'.get 1=some (a8 bl)∧m'.get 2=some (a8 bn)∧m'.get 3=some (aw (rD φ l:Int))∧m'.get 5=some w∧Own s1.nx s' 9 1 w (strs (l.map (xw φ))) o) ?_ ?_)
 ·apply aJ;simp+decide only[ag,h0,lk,mi];refine bY (eW (λm s'=>∃(j:Nat) (w:Value) (o:Option Nat),j<=l.length∧Good s'∧Grown s1.nx s1 s'∧Own s1.nx s' 9 1 w (strs ((l.take j).map (xw φ))) o∧m.get 0=some (a8 bk)∧m.get 1=some (a8 bl)∧m.get 2=some (a8 bn)∧m.get 3=some (aw (rD φ (l.take j):Int))∧m.get 5=some w∧m.get 8=some y∧m.get 9=some (aw (l.length:Int))∧m.get 10=some (aw (j:Int)))
   (λm _=>match m.get 10 with|some (.int _ j)=>(13-j).toNat|_=>0) ?_ ?_ ?_)
  ·exact⟨0,.slice none 0 0,none,by omega,dv,Grown.refl dv _,.nil,by simp+decide only[ag,h0],by simp+decide only[ag,h1],by simp+decide only[ag,h2],by simp+decide only[ag];rfl,by simp+decide only[ag],by simp+decide only[ag],by simp+decide only[ag],by simp+decide only[ag,aW]⟩
  ·simp+decide only[ag]
  rintro m s2 ⟨j,w,o,hj,dI,ic,ho,g0,g1,g2,g3,g5,g8,g9,JP⟩;apply aJ;by_cases cS:j<l.length
  ·have hd:decide ((j:Int)<(l.length:Int))=true:=aL (by omega);simp+decide only[ag,g9,JP,hd];refine aT (cK true (by simp+decide only[ag]) ?_);simp+decide only[ag];apply aR;simp+decide only[ag];obtain⟨x,hx⟩:=dO (l[j]);have hxm:x∈l:=by rw[hx];exact aV _
   have xd:=gP x hxm;have Az:j<(ints l).length:=by rw[dE];exact cS
   have Xl:=I9.ext λq hq=>ic.eb q (bC hq gz.nx);have F1:=Xl.ld bM Az (gJ cS);rw[<-hx,cO]at F1;have Jg:Grown s.nx s s2:=gz.trans (ic.le gz.nx);have h':=h.ext hg Jg;have ll:=(Au.grown Jg (Au.lt hg)).ld cT (o:=0) (by simp);have l1:=h'.own.ld iC (o:=1) (by simp);simp only[ae,aZ]at ll l1;have qh:=h'.sl dI;have yM:x<(j8 φ).length:=by rw[gR];exact xd
   have eH:=h.uc _ (aV xd);have yN:=φ[x].dT eH;have Fw:=qh.ix (P:=prog) (t:=61) yM (k:= .i64);have Nx:=qh.fld bM (by decide) yM (k:=11) (by decide) (j5 xd) (by omega) (φ[x].aDH eH);have l12:=qh.fld j3 (by decide) yM (k:=12) (by decide) (j5 xd) (by omega) (φ[x].aDI eH);rw[<-acm xd]at Nx;rw[<-acn xd]at l12;have hzx:=hz x hxm;have hzj:=hzs j hj;have w1:IntKind.i64.wrap ((rD φ (l.take j):Int)+(fsz φ x:Int))=(rD φ (l.take (j+1)):Int):=by
    have e1:rD φ (l.take (j+1))=rD φ (l.take j)+fsz φ x:=by unfold rD;rw[cQ cS,bS,xj,<-hx];simp;omega
    have e2:rD φ (l.take j)<=1+100000*12:=by unfold rD;omega
    rw[wrap_i64 (by omega),e1];omega
   have Zh:=qt (v:= .string ⟨⟨xw φ x⟩⟩) dI D7 Hi rfl;obtain⟨s6,qj⟩:=dO (s2.row 9 1 [[.string ⟨⟨xw φ x⟩⟩]]);rw[<-qj]at Zh;have lZ:=cz qj dI;have hn6:s6.nx=s2.nx+1:=by rw[qj];rfl
   have Ai:Grown s2.nx s2 s6:=by rw[qj];exact(Grown.refl dI _).row (af _) _ _ _
   have hyr:Reads s6.nx s6 1 (.slice (some ⟨s2.nx,0,none⟩) 1 (bH 1)) [[.string ⟨⟨xw φ x⟩⟩]]:=by
    have hr:bE s6 s2.nx 9 1 false [[.string ⟨⟨xw φ x⟩⟩]]:=by rw[qj];exact bE.new dI 9 1 _
    exact(Sl.full (hr.lt lZ) hr (by rw[(cR 1).1];exact af 1) (.inl (cR 1).2)).rd (by decide)
   have ho6:Own s1.nx s6 9 1 w (strs ((l.take j).map (xw φ))) o:=ho.ext dI λk hk b _ _=>Ai.eb k hk;have ha:=FR ho6 hyr lZ (by decide) (by decide) (Ph _) (λl hl=>by simp at hl;subst hl;rfl) (λl hl=>by simp at hl;subst hl;rfl) (by rw[gK];simp;omega) (by simp);rw[KL]at ha;have zM:(l.take j).map (xw φ)++ [xw φ x]=(l.take (j+1)).map (xw φ):=by rw[cQ cS,bS,<-hx];rfl
   rw[zM]at ha;have Ox:Grown s1.nx s1 s6:=ic.trans (Ai.le ic.nx);have Q6:Grown s1.nx s1 (cW s6 w):=Ox.drop ho6;obtain⟨s7,rF⟩:=dO (cW s6 w);rw[<-rF]at ha Q6;have hn7:s7.nx=s6.nx:=by rw[rF];exact BW _ _
   have w3:IntKind.i64.wrap ((j:Int)+1)=((j+1:Nat):Int):=by rw[wrap_i64 (by omega)];omega
   apply kK;apply aJ;simp+decide only[ag,g8,JP,Xl.ix Az,F1];apply aJ;simp+decide only[ag,g1,g3,ll,cH,bO,aG,l1,Fw,qh.ct yM 11,Nx,w1];apply ar;simp+decide only[ag,g1,g5,ll,cH,bO,aG,l1,Fw,qh.ct yM 12,l12,Zh,ha];apply ar;simp+decide only[ag,JP,w3];refine⟨⟨j+1,.slice (some ⟨s6.nx,0,none⟩) (strs ((l.take (j+1)).map (xw φ))).length (cq (strs ((l.take (j+1)).map (xw φ))).length 1),some s6.nx,by omega,fW Q6.bt _,Q6.row (by rw[hn7,hn6];have:=ic.nx;omega) _ _ _,?_,by simp+decide only[ag,g0],by simp+decide only[ag,g1],by simp+decide only[ag,g2],by simp+decide only[ag],by simp+decide only[ag],by simp+decide only[ag,g8],by simp+decide only[ag,g9],by simp+decide only[ag]⟩,by omega⟩;have hr:=bE.new Q6.bt 9 1 (strs ((l.take (j+1)).map (xw φ)));rw[hn7]at hr;exact .lb (by have:=Ox.nx;omega) hr
  ·have hd:decide ((j:Int)<(l.length:Int))=false:=az (by omega);simp+decide only[ag,g9,JP,hd];refine aT (cK false (by simp+decide only[ag]) ?_);simp+decide only[ag];apply aR;simp+decide only[ag];have Vs:j=l.length:=by omega
   subst Vs;rw[lY]at ho g3;exact⟨ic,w,o,by simp+decide only[ag,g0],by simp+decide only[ag,g1],by simp+decide only[ag,g2],by simp+decide only[ag,g3],by simp+decide only[ag,g5],ho⟩
 rintro x m s2 ⟨rfl,ic,w,o,g0,g1,g2,g3,g5,ho⟩;simp+decide only[ag];have dI:=ic.bt;obtain⟨b,c,hw,Nt,fL,Io,Dj⟩:=ho.as7 (by decide) (by rw[gK,dP];omega);rw[gK]at hw Io;obtain⟨r,s3,e3,rfl,gQ,Ze,LA,hf3⟩:=adG (n+2) dI fL Io Dj (by rw[dP];exact hl);rw[<-hw]at e3;have sq:Grown s1.nx s1 s3:=⟨gQ,by have:=ic.nx;omega,λj hj=>by rw[hf3 j (by omega)];exact ic.eb j hj⟩
 have I2:=Wc gQ LA (D2 _) Io Dj;rw[<-hw]at I2;have awF:ku (nT (l.map (xw φ)))+12<900000:=by rw[KS];exact ht
 have hLl:(nT (l.map (xw φ))).length=l.length:=by rw[D2,dP]
 obtain⟨r,s4,e4,rfl,qH⟩:=V6 (n+3) gQ I2 [32] (by rw[hLl,iY];omega) (by omega);have xM:Grown s1.nx s1 s4:=sq.trans (qH.le sq.nx);have hJl:(nf [32] (nT (l.map (xw φ)))).length<=900000:=by
  cases hq:nT (l.map (xw φ))with
  |nil=>simp[nf]
  |cons a t=>
   rw[yl,<-hq];have:t.length<=12:=by have:=hLl;rw[hq]at this;simp at this;omega
   simp;omega
 have oo:=(hvn.grown gz (hvn.lt hg)).grown sq (by have:=gz.nx;have:=hvn.lt hg;omega);have hv4:=(hvn.grown gz (hvn.lt hg)).grown xM (by have:=gz.nx;have:=hvn.lt hg;omega);have ln3:=oo.ld j3 (o:=0) (by simp);have ln4:=hv4.ld j3 (o:=0) (by simp);simp only[ae]at ln3 ln4;have aKL:∀e c,eJ .add e c (.string ⟨⟨name⟩⟩) (.string ⟨⟨[40]⟩⟩)=some (.string ⟨⟨40::name⟩⟩):= λe c=>gZ [40] name (by simp;omega);have aKM:∀e c,eJ .add e c (.string ⟨⟨[32]⟩⟩) (.string ⟨⟨40::name⟩⟩)=some (.string ⟨⟨40::name++ [32]⟩⟩):= λe c=>gZ (40::name) [32] (by simp;omega);have aKN:∀e c,eJ .add e c (.string ⟨⟨nf [32] (nT (l.map (xw φ)))⟩⟩) (.string ⟨⟨40::name++ [32]⟩⟩)=some (.string ⟨⟨(40::name++ [32])++nf [32] (nT (l.map (xw φ)))⟩⟩):= λe c=>gZ _ _ (by simp;omega);have aKO:∀e c,eJ .add e c (.string ⟨⟨[41]⟩⟩) (.string ⟨⟨(40::name++ [32])++nf [32] (nT (l.map (xw φ)))⟩⟩)=some (.string ⟨⟨J3 φ name l⟩⟩):= λe c=>gZ _ _ (by simp;omega);have hsn:=cB (Ck ⟨⟨name⟩⟩);apply aJ;simp+decide only[ag,g5,e3];apply lV;simp+decide only[ag,g3,g2,g5,ln3,ln4,aKL,aKM,e4,aKN,aKO,hsn];exact aR (Dg (v:=aw (rD φ l:Int)) (w:= .string ⟨⟨J3 φ name l⟩⟩) (.inr rfl) (by simp+decide only[ag]) (by simp+decide only[ag]) ⟨rfl,xM⟩)
def sJ (φ:List dA) (x:Nat):Nat:=(φ[x]?.map dA.kind).getD 0
def CX (φ:List dA) (x:Nat):List Nat:=(φ[x]?.map dA.kids).getD []
def jc {x:Nat} (h:x<φ.length):sJ φ x=φ[x].kind:=by unfold sJ;rw[ba h];rfl
def qy {x:Nat} (h:x<φ.length):CX φ x=φ[x].kids:=by unfold CX;rw[ba h];rfl
def ud (φ:List dA) (K x:Nat):List Nat:=if sJ φ x=K then CX φ x else [x]
def jt (φ:List dA) (K:Nat) (L:List Nat):List Nat:=L.flatMap (ud φ K)
def H8 {K:Nat} {L:List Nat} (h:i<L.length):jt φ K (L.take (i+1))=jt φ K (L.take i)++ud φ K L[i]:=by unfold jt;rw[cQ h,List.flatMap_append];simp
def Ym {K:Nat} {L:List Nat} {y:Nat} (h:i<L.length) (hj:(ud φ K L[i])[j]? =some y):(jt φ K L)[(jt φ K (L.take i)).length+j]? =some y:=by
 have e:jt φ K L=jt φ K (L.take i)++(ud φ K L[i]++jt φ K (L.drop (i+1))):=by rw[<-ey,<-H8 h];unfold jt;rw[<-List.flatMap_append,iX]
 rw[e,dw (by omega),Nat.add_sub_cancel_left,cD (by have:=List.getElem?_eq_some_iff.1 hj;exact this.1)]
 exact hj
def aco (sz:Nat) (v:Value) (i k k2:Nat) (hv:∃a m c,v= .slice (some a) m c):ct k2 (BC sz v i k)=some (BC sz v i (k+k2)):=by obtain⟨a,m,c,rfl⟩:=hv;show ct k2 (.pointer (some ⟨a.block,a.off+i*sz+k,none⟩))=some (.pointer (some ⟨a.block,a.off+i*sz+(k+k2),none⟩));rw[bO,gx (a.off+i*sz)]
def Sl.some {n:Nat} {s:AS} {et sz:Nat} {v:Value} {rows:List LVal} (h:Sl n s et sz v rows) (h0:0<rows.length):∃a m c,v= .slice (some a) m c:=by
 cases h with
 |nil=>simp at h0
 |mk=>exact⟨_,_,_,rfl⟩
def TyC:eX->Prop
 | .cells _ _ _ _ _=>False
 |_=>True
def adH (n:Nat) (K:Nat) {bf bl bk:Nat} {fs:Value} {L:List Nat} (yv:Value) (I:Nat->AS->Prop) (E:AS->Prop) (hI:∀j s,I j s->Good s∧LS s d σ φ∧ay s bf 38 [fs]∧ay s bl 24 [a8 d.lp]∧ay s bk 3 [aw (K:Int)]∧Sl s.nx s 3 1 fs (ints L)) (fU:∀j s s',I j s->Grown s.nx s s'->I j s') (xc:∀j s y,I j s->(jt φ K L)[j]? =some y->cp (aE (n+3) yv [aw ((y:Nat):Int)] s) (λr s'=>(r= .bool true∧I (j+1) s'∧eu TyC s s')∨(r= .bool false∧E s'))) (h0:I 0 s) (gP:∀x∈L,x<φ.length) (hL:L.length<=900000) (hks:∀x∈L,(CX φ x).length<=900000):
  cp (aE (n+4) (dJ 188) [yv,a8 bf,a8 bl,a8 bk] s) (λr s'=>r= .tuple #[]∧(I (jt φ K L).length s'∨E s')):=by
 rw[aCe];refine bG (by simp) λm hm=>?_;have t0:m.get 0=some yv:=by rw[hm];rfl
 have t1:m.get 1=some (a8 bf):=by rw[hm];rfl
 have t2:m.get 2=some (a8 bl):=by rw[hm];rfl
 have t3:m.get 3=some (a8 bk):=by rw[hm];rfl
 clear hm;obtain⟨hg,Ly,vf,vl,vk,hy⟩:=hI 0 s h0;have lf:=vf.ld gu (o:=0) (by simp);simp only[ae]at lf;have mi:=hy.len;rw[dE]at mi;unfold aw8;apply aJ;simp+decide only[ag,t1,lf,mi];refine WC.mono (Q:= λx m' s'=>(x= .normal∧I (jt φ K L).length s')∨(x= .ret∧E s')) ?_ ?_
 ·refine bY (eW (λm s'=>∃i:Nat,i<=L.length∧I (jt φ K (L.take i)).length s'∧m.get 0=some yv∧m.get 1=some (a8 bf)∧m.get 2=some (a8 bl)∧m.get 3=some (a8 bk)∧m.get 10=some fs∧m.get 11=some (aw (L.length:Int))∧m.get 12=some (aw (i:Int)))
   (λm _=>match m.get 12 with|some (.int _ j)=>(L.length-j).toNat|_=>0) ?_ ?_ ?_)
  ·exact⟨0,by omega,h0,by simp+decide only[ag,t0],by simp+decide only[ag,t1],by simp+decide only[ag,t2],by simp+decide only[ag,t3],by simp+decide only[ag],by simp+decide only[ag],by simp+decide only[ag,aW]⟩
  ·simp+decide only[ag];simp;omega
  rintro m s1 ⟨i,hi,hI1,g0,g1,g2,g3,JP,Dq,Xo⟩;apply aJ;by_cases cS:i<L.length
  ·have hd:decide ((i:Int)<(L.length:Int))=true:=aL (by omega);simp+decide only[ag,Dq,Xo,hd];refine aT (cK true (by simp+decide only[ag]) ?_);simp+decide only[ag];apply aR;simp+decide only[ag];obtain⟨x,hx⟩:=dO (L[i]);have hxm:x∈L:=by rw[hx];exact aV _
   have xd:=gP x hxm;obtain⟨dv,af2,vf1,vl1,vk1,I9⟩:=hI _ _ hI1;have Az:i<(ints L).length:=by rw[dE];exact cS
   have F1:=I9.ld bM Az (gJ cS);rw[<-hx,cO]at F1;have Zj:=vl1.ld cT (o:=0) (by simp);simp only[ae]at Zj;obtain⟨r,sx,et,rfl,rG⟩:=D1 (n+2) dv af2 xd;rw[rG]at et;have Zh:=qt (v:=aw (x:Int)) dv fm fX rfl;obtain⟨s2,ee⟩:=dO (s1.row 3 1 [[aw (x:Int)]]);rw[<-ee]at Zh;have iE:Grown s1.nx s1 s2:=by rw[ee];exact(Grown.refl dv _).row (af _) _ _ _
   have hI2:=fU _ _ _ hI1 iE;obtain⟨dI,Gg,vf2,vl2,vk2,Xl⟩:=hI _ _ hI2;have N2:Sl s2.nx s2 3 1 (.slice (some ⟨s1.nx,0,none⟩) 1 (bH 1)) (ints [x]):=by
    have hr:bE s2 s1.nx 3 1 false (ints [x]):=by rw[ee];exact bE.new dv 3 1 _
    exact Sl.full (hr.lt dI) hr (by rw[(cR 1).1];exact af 1) (.inl (cR 1).2)
   have ll2:=vl2.ld cT (o:=0) (by simp);have lk2:=vk2.ld bM (o:=0) (by simp);have l1:=Gg.own.ld iC (o:=1) (by simp);simp only[ae,aZ]at ll2 lk2 l1;have qh:=Gg.sl dI;have yM:x<(j8 φ).length:=by rw[gR];exact xd
   have eH:=Gg.uc _ (aV xd);have yN:=φ[x].dT eH;have Fw:=qh.ix (P:=prog) (t:=61) yM (k:= .i64);have Vo:=qh.some (by omega);have p00:=aco 13 d.fv x 0 0 Vo;have f0:=qh.fld bM (by decide) yM (k:=0) (by decide) (j5 xd) (by omega) (φ[x].ZS eH);have f5:=qh.fld rp (by decide) yM (k:=5) (by decide) (j5 xd) (by omega) (φ[x].ZT eH);rw[<-jc xd]at f0;have N9:=cB qh.same;apply kK;apply aJ;simp+decide only[ag,JP,Xo,I9.ix Az,F1];apply aJ;simp+decide only[ag,g2,Zj,et];apply aJ;simp+decide only[ag,Zh];refine aT (WC.mono (Q:= λz m' s'=>z= .normal∧s'=s2∧∃w,m'.get 0=some yv∧m'.get 1=some (a8 bf)∧m'.get 2=some (a8 bl)∧m'.get 3=some (a8 bk)∧m'.get 7=some w∧m'.get 10=some fs∧m'.get 11=some (aw (L.length:Int))∧m'.get 12=some (aw (i:Int))∧Sl s2.nx s2 3 1 w (ints (ud φ K x))) ?_ ?_)
   ·apply lV;simp+decide only[ag,g2,g3,ll2,lk2,cH,bO,aG,l1,Fw,qh.ct yM 0,p00,f0,N9];refine cK (decide (((sJ φ x:Nat):Int)=(K:Int))) (by simp+decide only[ag]) ?_;by_cases hk:sJ φ x=K
    ·rw[show decide (((sJ φ x:Nat):Int)=(K:Int))=true from aL (by omega)];simp+decide only[ag];apply ar;simp+decide only[ag,g2,ll2,cH,bO,aG,l1,Fw,qh.ct yM 5,f5];refine⟨φ[x].kv,g0,g1,g3,rfl,JP,Dq,Xo,?_⟩;unfold ud;rw[aU hk,qy xd];exact Gg.kids _ (aV xd)
    ·rw[show decide (((sJ φ x:Nat):Int)=(K:Int))=false from az (by omega)];simp+decide only[ag];refine aR ⟨rfl,rfl,.slice (some ⟨s1.nx,0,none⟩) 1 (bH 1),by simp+decide only[ag,g0],by simp+decide only[ag,g1],by simp+decide only[ag,g2],by simp+decide only[ag,g3],by simp+decide only[ag],by simp+decide only[ag,JP],by simp+decide only[ag,Dq],by simp+decide only[ag,Xo],?_⟩;unfold ud;rw[aC hk];exact N2
   rintro z m s' ⟨rfl,rfl,w,g0,g1,g2,g3,g7,JP,Dq,Xo,hw⟩;simp+decide only[ag];have hwn:=hw.len;rw[dE]at hwn;have hol:(ud φ K x).length<=900000:=by
    unfold ud;split
    ·exact hks x hxm
    ·simp
   apply aJ;simp+decide only[ag,g7,hwn];refine WC.mono (Q:= λz m' s'=>(z= .ret∧E s')∨(z= .normal∧I (jt φ K (L.take (i+1))).length s'∧m'.get 0=some yv∧m'.get 1=some (a8 bf)∧m'.get 2=some (a8 bl)∧m'.get 3=some (a8 bk)∧m'.get 10=some fs∧m'.get 11=some (aw (L.length:Int))∧m'.get 12=some (aw (i:Int)))) ?_ ?_
   ·refine bY (eW (λm j9=>∃j:Nat,j<=(ud φ K x).length∧I ((jt φ K (L.take i)).length+j) j9∧Sl j9.nx j9 3 1 w (ints (ud φ K x))∧m.get 0=some yv∧m.get 1=some (a8 bf)∧m.get 2=some (a8 bl)∧m.get 3=some (a8 bk)∧m.get 10=some fs∧m.get 11=some (aw (L.length:Int))∧m.get 12=some (aw (i:Int))∧m.get 40=some w∧m.get 41=some (aw ((ud φ K x).length:Int))∧m.get 42=some (aw (j:Int)))
     (λm _=>match m.get 42 with|some (.int _ j)=>((ud φ K x).length-j).toNat|_=>0) ?_ ?_ ?_)
    ·exact⟨0,by omega,hI2,hw,by simp+decide only[ag,g0],by simp+decide only[ag,g1],by simp+decide only[ag,g2],by simp+decide only[ag,g3],by simp+decide only[ag,JP],by simp+decide only[ag,Dq],by simp+decide only[ag,Xo],by simp+decide only[ag],by simp+decide only[ag],by simp+decide only[ag,aW]⟩
    ·simp+decide only[ag];simp;omega
    rintro m s3 ⟨j,hj,hI3,I2,g0,g1,g2,g3,JP,Dq,Xo,g40,g41,g42⟩;obtain⟨gQ,_⟩:=hI _ _ hI3;apply aJ;by_cases aov:j<(ud φ K x).length
    ·have hd:decide ((j:Int)<((ud φ K x).length:Int))=true:=aL (by omega);simp+decide only[ag,g41,g42,hd];refine aT (cK true (by simp+decide only[ag]) ?_);simp+decide only[ag];apply aR;simp+decide only[ag];obtain⟨z,hz⟩:∃z,z=(ud φ K x)[j]:=⟨_,rfl⟩
     have hjo:j<(ints (ud φ K x)).length:=by rw[dE];exact aov
     have IW:=I2.ld bM hjo (gJ aov);rw[<-hz,cO]at IW;have vi:(jt φ K L)[(jt φ K (L.take i)).length+j]? =some z:=Ym cS (by rw[<-hx,ba aov,hz]);obtain⟨r,s4,e4,h4⟩:=xc _ _ _ hI3 vi;have w3:IntKind.i64.wrap ((j:Int)+1)=((j+1:Nat):Int):=by rw[wrap_i64 (by omega)];omega
     rcases h4 with ⟨rfl,hI4,hk4⟩|⟨rfl,hE4⟩
     ·apply kK;apply aJ;simp+decide only[ag,g40,g42,I2.ix hjo,IW];apply aJ;simp+decide only[ag,g0,e4];refine dD (by simp+decide only[ag]) ?_;apply ar;simp+decide only[ag,g42,w3];exact⟨⟨j+1,by omega,by rw[<-gx];exact hI4,(I2.an hk4 λ_ _ _=>id).le hk4.nx,by simp+decide only[ag,g0],by simp+decide only[ag,g1],by simp+decide only[ag,g2],by simp+decide only[ag,g3],by simp+decide only[ag,JP],by simp+decide only[ag,Dq],by simp+decide only[ag,Xo],by simp+decide only[ag,g40],by simp+decide only[ag,g41],by simp+decide only[ag]⟩,by omega⟩
     ·apply kK;apply aJ;simp+decide only[ag,g40,g42,I2.ix hjo,IW];apply aJ;simp+decide only[ag,g0,e4];refine iP (by simp+decide only[ag]) ?_;exact aR (.inl ⟨rfl,hE4⟩)
    ·have hd:decide ((j:Int)<((ud φ K x).length:Int))=false:=az (by omega);simp+decide only[ag,g41,g42,hd];refine aT (cK false (by simp+decide only[ag]) ?_);simp+decide only[ag];apply aR;simp+decide only[ag];refine .inr ⟨?_,g0,g1,g2,g3,JP,Dq,Xo⟩;rw[H8 cS,bL,<-hx,show(ud φ K x).length=j by omega];exact hI3
   rintro z m s' (⟨rfl,hE⟩|⟨rfl,hI5,g0,g1,g2,g3,JP,Dq,Xo⟩)
   ·exact .inr ⟨rfl,hE⟩
   ·simp+decide only[ag];have w3:IntKind.i64.wrap ((i:Int)+1)=((i+1:Nat):Int):=by rw[wrap_i64 (by omega)];omega
    apply ar;simp+decide only[ag,Xo,w3];exact⟨⟨i+1,by omega,hI5,by simp+decide only[ag,g0],by simp+decide only[ag,g1],by simp+decide only[ag,g2],by simp+decide only[ag,g3],by simp+decide only[ag,JP],by simp+decide only[ag,Dq],by simp+decide only[ag]⟩,by omega⟩
  ·have hd:decide ((i:Int)<(L.length:Int))=false:=az (by omega);simp+decide only[ag,Dq,Xo,hd];refine aT (cK false (by simp+decide only[ag]) ?_);simp+decide only[ag];apply aR;simp+decide only[ag];have Vs:i=L.length:=by omega
   subst Vs;rw[lY]at hI1;exact .inl hI1
 rintro x m s' (⟨rfl,h⟩|⟨rfl,h⟩)
 ·exact mZ (.inl rfl) ⟨rfl,.inl h⟩
 ·exact mZ (.inr rfl) ⟨rfl,.inr h⟩
def adI (h:Good ⟨s.h,s.nx,0⟩) (b:eX):s.new b=some (s.add b):=by
 have hp:=T.od (some b) s.h s.nx h.room;show oR (Option AS) none (λh=>cG (Nat.succ s.nx) λn=>cG s.lim λl=>some ⟨h,n,l⟩) (T.put (some b) s.h s.nx)=_;unfold AS.add;cases e:T.put (some b) s.h s.nx with
 |none=>rw[e]at hp;cases hp
 |some t=>simp only[bD,gT]
def Wd (h:Good ⟨s.h,s.nx,0⟩) (hi:i<s.nx) (hl:s.lim<=i) (b:Option eX):s.set i b=some (s.wr i b):=by
 have hp:=T.th (x:=b) (h.room i hi);show Bool.rec (motive:= λ_=>Option AS) (oR (Option AS) none (λh=>cG s.nx λn=>cG s.lim λl=>some ⟨h,n,l⟩) (T.put b s.h i)) none (Nat.blt i s.lim)=_;rw[show Nat.blt i s.lim=false from by cases hb:Nat.blt i s.lim with|false=>rfl|true=>have:i+1<=s.lim:=aO hb;omega];unfold AS.wr;cases e:T.put b s.h i with
 |none=>rw[e]at hp;cases hp
 |some t=>simp only[bD,gT]
def Pq (h:Good ⟨s.h,s.nx,0⟩) (t:TypeId) (vs:LVal):vI s t vs=some (a8 s.nx,s.add (ca t vs)):=by show cG (len vs) (λsz=>oR (Option (Value×AS)) none (λs'=>some (a8 s.nx,s')) (s.new (.cells (.n (some vs) .e .e) sz 1 false t)))=_;rw[bD,dQ,adI h];rfl
structure kR (s s':AS):Prop where
 bt:Good ⟨s'.h,s'.nx,0⟩
 nx:s.nx<=s'.nx
 lim:s'.lim=s.lim
 eb:∀j,j<s.nx->s'.h.get j=s.h.get j
def kR.refl (h:Good ⟨s.h,s.nx,0⟩):kR s s:=⟨h,af _,rfl,λ_ _=>rfl⟩
def kR.add {s s':AS} (h:kR s s') (b:eX):kR s (s'.add b):=by refine⟨fW h.bt b,di h.nx (by rw[ep];omega),h.lim,λj hj=>?_⟩;have:=gF h.bt b j;rw[aC (by have:=h.nx;show j≠s'.nx;omega)]at this;exact Eq.trans this (h.eb j hj)
def kR.wr {s s':AS} (h:kR s s') {i:Nat} (hi:s.nx<=i) (pQ:i<s'.nx) (b:Option eX):kR s (s'.wr i b):=by refine⟨bZ h.bt pQ b,h.nx,h.lim,λj hj=>?_⟩;have:=cj h.bt pQ b j;rw[aC (by omega)]at this;exact Eq.trans this (h.eb j hj)
def kR.trans {s s' j9:AS} (h:kR s s') (h':kR s' j9):kR s j9:=⟨h'.bt,di h.nx h'.nx,h'.lim.trans h.lim,λj hj=>(h'.eb j (bC hj h.nx)).trans (h.eb j hj)⟩
def yZ (es:List (Value×Value×Nat)) (S:List Nat):Prop:=es.map (λe=>(e.1,e.2.1))=S.map (λx:Nat=>(Value.int .i64 (x:Int),Value.agg ⟨[]⟩))∧S.Nodup
def im (s:AS) (r:Nat) (S:List Nat):Prop:=∃es ck,cy s r 3 es ck∧yZ es S
def yZ.mem (h:yZ es S) {e:Value×Value×Nat} (he:e∈es):∃x∈S,e.1=aw (x:Int)∧e.2.1= .agg ⟨[]⟩:=by
 have h1:(e.1,e.2.1)∈es.map (λe=>(e.1,e.2.1)):=List.mem_map.2 ⟨e,he,rfl⟩;rw[h.1]at h1;obtain⟨x,hx,h2⟩:=List.mem_map.1 h1;injection h2 with h3 h4
 exact⟨x,hx,h3.symm,h4.symm⟩
def yZ.has (h:yZ es S) {x:Nat} (hx:x∈S):∃b,(Value.int .i64 (x:Int),Value.agg ⟨[]⟩,b)∈es:=by
 have h1:(Value.int .i64 (x:Int),Value.agg ⟨[]⟩)∈S.map (λx:Nat=>(Value.int .i64 (x:Int),Value.agg ⟨[]⟩)):=List.mem_map.2 ⟨x,hx,rfl⟩;rw[<-h.1]at h1;obtain⟨e,he,h2⟩:=List.mem_map.1 h1;injection h2 with h3 h4
 exact⟨e.2.2,by rw[<-h3,<-h4];exact he⟩
def yZ.keys (h:yZ es S):es.map (·.1)=S.map λx:Nat=>Value.int .i64 (x:Int):=by have:=congrArg (List.map Prod.fst) h.1;simpa[iv,Function.comp_def]using this
def yZ.nodup (h:yZ es S):(es.map (·.1)).Nodup:=by rw[h.keys];exact List.pairwise_map.2 (S4 (λjJ e=>jJ (by injection e with _ e;exact qE e)) h.2)
def yZ.fits (h:yZ es S) (x:Nat):Keys (aw (x:Int)) es:= λp hp=>by obtain⟨y,_,h1,_⟩:=h.mem hp;rw[h1];exact⟨_,ly 7 _ _ _⟩
def yZ.uC (h:yZ es S) {x:Nat} (hx:x∈S):∃b,jj (aw (x:Int)) es=some (some (.agg ⟨[]⟩,b)):=by obtain⟨b,hb⟩:=h.has hx;exact⟨b,Cm (h.fits x) h.nodup hb⟩
def yZ.ZX (h:yZ es S) {x:Nat} (hx:x∉S):jj (aw (x:Int)) es=some none:=
 uV (h.fits x) λp hp e=>by
  obtain⟨y,hy,h1,_⟩:=h.mem hp;rw[h1]at e;injection e with _ e
  exact hx (by rw[<-qE e];exact hy)
def wF:keyOf prog 178=some (3,180):=by kernel_rfl
def wG:isAgg prog 178=some false:=by kernel_rfl
def Ua:isAgg prog 110=some false:=by kernel_rfl
def Ub:mU prog 180=some (.agg ⟨[]⟩):=by kernel_rfl
def Uc:prog.underlying 178=some (.map 3 180):=by kernel_rfl
def im.look (h:im s r S) (x:Nat):jR prog s 178 true (aw (x:Int)) (.map (some r))=some (.tuple #[.agg ⟨[]⟩,.bool (decide (x∈S))]):=by
 obtain⟨es,ck,h1,h2⟩:=h;by_cases hx:x∈S
 ·obtain⟨b,hb⟩:=h2.uC hx;rw[(Cn h1 wF (og _) hb).1,aL hx]
 ·rw[(zr h1 wF (og _) (h2.ZX hx) Ub).1,az hx]
def aDM (hg:Good ⟨s.h,s.nx,0⟩) (hv:ay s b 180 []) (hl:s.lim<=b) (hb:b<s.nx):jK 0 s (a8 b) (.agg ⟨[]⟩)=some (.tuple #[],s.wr b (some (ca 180 []))):=by
 have h:ij s b 0 []=some (s.wr b (some (ca 180 []))):=by show aD (cP []) (gI (s.h.get b) _) none=_;unfold ay at hv;rw[show cP []=true from rfl,aS,hv];show AS.set s b (some (.cells (.n (some []) .e .e) 0 1 false 180))=_;rw[Wd hg hb hl];rfl
 show aD (Nat.beq (len ([]:LVal)) 0) (ob (ij s b 0 []) λs'=>some (Value.tuple #[],s')) none=_;rw[h];rfl
def Yn (n:Nat) (hg:Good ⟨s.h,s.nx,0⟩) (hlm:s.lim<=s.nx) {bm:Nat} (hv:ay s bm 178 [.map (some r)]) (hs:im s r S) (x:Nat):
  cp (aE (n+1) (dJ 133) [aw (x:Int),a8 bm] s) (λv s'=>v= .bool (decide (x∈S))∧kR s s'):=by
 rw[aCb];refine bG (by simp) λm hm=>?_;have h0:m.get 0=some (aw (x:Int)):=by rw[hm];rfl
 have h1:m.get 1=some (a8 bm):=by rw[hm];rfl
 clear hm;have lv:=hv.ld wG (o:=0) (by simp);simp only[ae]at lv;have IU:=hs.look x;obtain⟨s1,dm⟩:=dO (s.add (ca 180 []));have Xe:∀lo tm,tB 180 [] lo tm s=some (a8 s.nx,s1):= λlo tm=>by rw[dm];exact Pq hg 180 []
 have fV:kR s s1:=by rw[dm];exact(kR.refl hg).add _
 have QZ:s1.nx=s.nx+1:=by rw[dm];rfl
 have QR:s1.lim=s.lim:=fV.lim;have rV:ay s1 s.nx 180 []:=by rw[dm];exact ay.new hg 180 []
 have fU:=aDM fV.bt rV (by omega) (by omega);unfold aw5;apply aJ;simp+decide only[ag];apply aJ;simp+decide only[ag,h0,h1,lv,IU,Xe,fU];apply aJ;simp+decide only[ag];exact aR (b6 (v:= .bool (decide (x∈S))) (.inr rfl) (by simp+decide only[ag]) ⟨rfl,fV.wr (af _) (by omega) _⟩)
def KT {x:Nat} {ck:Nat}:∀ {es:List (Value×Value×Nat)} {S:List Nat},es.map (λe=>(e.1,e.2.1))=S.map (λx:Nat=>(Value.int .i64 (x:Int),Value.agg ⟨[]⟩))->x∈S->∃ig,qW (aw (x:Int)) (.agg ⟨[]⟩) ck es=some ig∧ig.map (λe=>(e.1,e.2.1))=S.map (λx:Nat=>(Value.int .i64 (x:Int),Value.agg ⟨[]⟩))
 | [],S,h,hx=>by cases S with|nil=>cases hx|cons y S=>cases h
 |e::es,[],h,hx=>by cases hx
 |e::es,y::S,h,hx=>by
  rw[br,br]at h;injection h with h1 h2
  injection h1 with h3 h4
  have e0:qW (aw (x:Int)) (.agg ⟨[]⟩) ck (e::es)=oR (Option (List (Value×Value×Nat))) none (λb=>aD b (some ((aw (x:Int),.agg ⟨[]⟩,e.2.2)::es)) (ob (qW (aw (x:Int)) (.agg ⟨[]⟩) ck es) λr=>some (e::r))) (vn 8 (aw (x:Int)) e.1):=rfl;rw[e0,h3,ly];by_cases Nu:x=y
  ·subst Nu;refine⟨(aw (x:Int),.agg ⟨[]⟩,e.2.2)::es,by simp[aD],?_⟩;rw[br,br,h2]
  ·have xu:x∈S:=by
    rcases List.mem_cons.1 hx with h|h
    ·exact(Nu h).elim
    ·exact h
   obtain⟨ig,h5,h6⟩:=KT (ck:=ck) h2 xu;refine⟨e::ig,?_,by rw[br,br,h6,h3,h4]⟩;show aD (decide ((x:Int)=(y:Int))) _ _=_;rw[az (by omega),de,h5,cg]
def NT (x:Nat) (S:List Nat):List Nat:=if x∈S then S else x::S
def im.put (hg:Good s) (h:im s r S) (x:Nat):∃b,iF prog 178 s (.map (some r)) (aw (x:Int)) (.agg ⟨[]⟩)=some (.tuple #[],s.wr r (some b))∧im (s.wr r (some b)) r (NT x S)∧(∃es ck,b= .map 3 es ck):=by
 obtain⟨es,ck,h1,h2⟩:=h;have hr:=h1.lt hg;by_cases hx:x∈S
 ·obtain⟨b,hb⟩:=h2.uC hx;obtain⟨ig,h5,h6⟩:=KT (ck:=Nat.succ ck) h2.1 hx;refine⟨.map 3 ig ck,?_,⟨ig,ck,cy.set hg hr 3 _ _,?_⟩,_,_,rfl⟩
  ·have hh:=h1;show ob (keyOf prog 178) _=_;rw[wF,cg];show aD (eB prog 3 (aw (x:Int))) _ none=_;rw[og,aS];unfold cy at h1;show mapOf (s.h.get r) _=_;rw[h1];show aD (Nat.beq 3 3) (ob (jj (.int .i64 (x:Int)) es) λo=>match o with
     |some _=>ob (qW (aw (x:Int)) (.agg ⟨[]⟩) (Nat.succ ck) es) λig=>ob (s.set r (some (.map 3 ig ck))) λs'=>some (Value.tuple #[],s')
     |none=>cG (Nat.succ ck) λmT=>ob (s.set r (some (.map 3 ((aw (x:Int),.agg ⟨[]⟩,mT)::es) mT))) λs'=>some (Value.tuple #[],s')) none=_
   rw[hb];show ob (qW (aw (x:Int)) (.agg ⟨[]⟩) (Nat.succ ck) es) (λig=>ob (s.set r (some (.map 3 ig ck))) λs'=>some (Value.tuple #[],s'))=_;rw[h5,cg,qs hg hr];rfl
  ·unfold NT;rw[aU hx];exact⟨h6,h2.2⟩
 ·refine⟨.map 3 ((aw (x:Int),.agg ⟨[]⟩,ck+1)::es) (ck+1),BX hg h1 wF (og _) (h2.ZX hx),⟨_,_,cy.set hg hr 3 _ _,?_⟩,_,_,rfl⟩;unfold NT;rw[aC hx];exact⟨by rw[br,br,h2.1],List.nodup_cons.2 ⟨hx,h2.2⟩⟩
def im.eq {s s':AS} {r:Nat} {S:List Nat} (h:im s r S) (he:s'.h.get r=s.h.get r):im s' r S:=by obtain⟨es,ck,h1,h2⟩:=h;exact⟨es,ck,h1.eq he,h2⟩
def im.lt {s:AS} {r:Nat} {S:List Nat} (h:im s r S) (hg:Good s):r<s.nx:=by obtain⟨es,ck,h1,h2⟩:=h;exact h1.lt hg
def im.new (hg:Good s):im (s.add (.map 3 [] 0)) s.nx []:=⟨[],0,by unfold cy;rw[gF hg,aU rfl],rfl,Jn⟩
structure TF (φ:List dA):Prop where
 two:2<=φ.length
 tt:(φ[0]'(by omega)).key=ec 0 0 0 0 []
 ff:(φ[1]'(by omega)).key=ec 1 0 0 0 []
def key_inj (h:(φ.map dA.key).Nodup) (hi:i<φ.length) (hj:j<φ.length) (he:φ[i].key=φ[j].key):i=j:=by
 have h1:(φ.map dA.key)[i]? =(φ.map dA.key)[j]?:=by rw[iB,iB,ba hi,ba hj];simp[he]
 exact(List.getElem?_inj (by simpa using hi) h).1 h1
def uX (n:Nat) (hg:Good s) (h:LS s d σ φ) (zP:TF φ) (fR:φ.length<900000) (b:Bool):
  cp (aE (n+6) (dJ 22) [a8 d.lp,.bool b] s) (λr s'=>r=aw ((if b then 0 else 1:Nat):Int)∧Grown s.nx s s'):=by
 obtain⟨r,s',e,i,d',fj,rfl,hp⟩:=Ct n hg h b fR;refine⟨_,s',e,?_⟩;have h2:=zP.two;cases hp with
 |uC hi hk fN=>
  refine⟨?_,fN⟩;cases b with
  |true=>have:=key_inj h.nodup hi (show 0<φ.length by omega) (hk.trans zP.tt.symm);rw[this];rfl
  |false=>have:=key_inj h.nodup hi (show 1<φ.length by omega) (hk.trans zP.ff.symm);rw[this];rfl
 |new hn hk hl=>
  cases b with
  |true=>exact(hn _ (aV (show 0<φ.length by omega)) zP.tt).elim
  |false=>exact(hn _ (aV (show 1<φ.length by omega)) zP.ff).elim
def Ss (m:TM n):Prop:=∀k v,m.get k=some v->qQ 12 v v=true
def Ss.set {n:Nat} {m:TM n} (h:Ss m) (k:Nat) (v:Value) (hv:qQ 12 v v=true):Ss (m.set k v):= λj u hj=>by
 by_cases hk:k<n
 ·rw[TM.iT _ _ _ _ hk]at hj;split at hj
  ·cases hj;exact hv
  ·exact h j u hj
 ·unfold TM.set at hj;rw[dif_neg hk]at hj;exact h j u hj
def Ss.same {m':TM n} (h:Ss m) (he:∀k v,m.get k=some v->m'.get k=some v):ZF m m':= λk v hk=>⟨v,he k v hk,h k v hk⟩
structure LC (s0:AS) (d:LV) (fs:Value) (K N A:Nat) (name:List UInt8) (r bm:Nat) (m:TM 122) (s:AS):Prop where
 t1:m.get 1=some fs
 t2:m.get 2=some (aw (K:Int))
 t4:m.get 4=some (a8 s0.nx)
 t7:m.get 7=some (a8 (s0.nx+1))
 t8:m.get 8=some (a8 (s0.nx+2))
 t9:m.get 9=some (a8 (s0.nx+3))
 t10:m.get 10=some (a8 (s0.nx+4))
 t11:m.get 11=some (a8 bm)
 gr:Grown s0.nx s0 s
 v4:ay s s0.nx 24 [a8 d.lp]
 v7:ay s (s0.nx+1) 9 [.string ⟨⟨name⟩⟩]
 v8:∃w,ay s (s0.nx+2) 3 [w]
 v9:ay s (s0.nx+3) 3 [aw (N:Int)]
 v10:ay s (s0.nx+4) 3 [aw (A:Int)]
 v11:ay s bm 178 [.map (some r)]
 ss:Ss m
 r5:s0.nx+5<=r
 rb:r<bm
def KU (n:Nat) (hg:Good s) (h:LS s d σ φ) (zP:TF φ) (fR:φ.length<900000) {fs:Value} (K:Nat) {name:List UInt8} {cf:CF} {Q:cZ->TM 122->AS->Prop} {m:TM 122} (h0:m.get 0=some (a8 d.lp)) (h1:m.get 1=some fs) (h2:m.get 2=some (aw (K:Int))) (h3:m.get 3=some (.string ⟨⟨name⟩⟩)) (hK:K<100) (Vc:Ss m) (hQ:∀(m':TM 122) (s':AS) (r bm:Nat),LC s d fs K (if K=2 then 0 else 1) (if K=2 then 1 else 0) name r bm m' s'->im s' r []->WC (aE (n+6)) cf Q m' s'):
  WC (aE (n+6)) (ah ak0 (ah ak1 (ah ak2 cf))) Q m s:=by
 obtain⟨s1,dm⟩:=dO (s.add (ca 24 [a8 d.lp]));have dv:=cz dm hg;have n1:s1.nx=s.nx+1:=by rw[dm];rfl
 have v4:=jS dm hg;have fV:=cM dm hg;obtain⟨s2,ee⟩:=dO (s1.add (ca 9 [.string ⟨⟨name⟩⟩]));have dI:=cz ee dv;have n2:s2.nx=s.nx+2:=by rw[ee,ep,n1]
 have v7:ay s2 (s.nx+1) 9 [.string ⟨⟨name⟩⟩]:=by rw[ee,<-n1];exact ay.new dv 9 _
 have iE:=cM ee dv;obtain⟨s3,gy⟩:=dO (s2.add (ca 3 [aw 0]));have gQ:=cz gy dI;have n3:s3.nx=s.nx+3:=by rw[gy,ep,n2]
 have v8:ay s3 (s.nx+2) 3 [aw 0]:=by rw[gy,<-n2];exact ay.new dI 3 _
 have iZ:=cM gy dI;obtain⟨s4,jW⟩:=dO (s3.add (ca 3 [aw 0]));have iI:=cz jW gQ;have n4:s4.nx=s.nx+4:=by rw[jW,ep,n3]
 have v9:ay s4 (s.nx+3) 3 [aw 0]:=by rw[jW,<-n3];exact ay.new gQ 3 _
 have nI:=cM jW gQ;obtain⟨s5,oE⟩:=dO (s4.add (ca 3 [aw 0]));have jm:=cz oE iI;have n5:s5.nx=s.nx+5:=by rw[oE,ep,n4]
 have v10:ay s5 (s.nx+4) 3 [aw 0]:=by rw[oE,<-n4];exact ay.new iI 3 _
 have lE:=cM oE iI;have Jh:Grown s3.nx s3 s5:=nI.trans (lE.le nI.nx);have aKP:Grown s2.nx s2 s5:=iZ.trans (Jh.le iZ.nx);have axT:Grown s1.nx s1 s5:=iE.trans (aKP.le iE.nx);have Gh:Grown s.nx s s5:=fV.trans (axT.le fV.nx);have v45:=v4.grown axT (by omega);have v43:=v4.grown (iE.trans (iZ.le iE.nx)) (by omega);have l4:=v43.ld cT (o:=0) (by simp);have l45:=v45.ld cT (o:=0) (by simp);simp only[ae]at l4 l45;have aKQ:=h.ext hg Gh;obtain⟨r,s6,e6,rfl,zQ⟩:=uX n jm aKQ zP fR (decide ((K:Int)=2));have aow:Grown s.nx s s6:=Gh.trans (zQ.le Gh.nx);have lZ:=zQ.bt;have aKR:=h.ext hg aow;obtain⟨r,s7,e7,rfl,Q7⟩:=uX n lZ aKR zP fR (!decide ((K:Int)=2));have wU:Grown s5.nx s5 s7:=zQ.trans (Q7.le zQ.nx);have rX:=Q7.bt;have n7:=wU.nx;have l46:=(v45.grown zQ (by omega)).ld cT (o:=0) (by simp);simp only[ae]at l46;obtain⟨N,hN⟩:∃N:Nat,N=if decide ((K:Int)=2)then 0 else 1:=⟨_,rfl⟩
 obtain⟨A,hA⟩:∃A:Nat,A=if(!decide ((K:Int)=2))then 0 else 1:=⟨_,rfl⟩
 rw[<-hN]at e6;rw[<-hA]at e7;have hN':N=if K=2 then 0 else 1:=by
  rw[hN];by_cases hk:K=2
  ·rw[aU hk,hk];rfl
  ·rw[aC hk,show decide ((K:Int)=2)=false from az (by omega)];rfl
 have hA':A=if K=2 then 1 else 0:=by
  rw[hA];by_cases hk:K=2
  ·rw[aU hk,hk];rfl
  ·rw[aC hk,show decide ((K:Int)=2)=false from az (by omega)];rfl
 have v97:=(v9.grown (lE.trans (wU.le lE.nx)) (by omega))
 have aKS:=v10.grown wU (by omega);have WQ:=v97.Fu rX (o:=0) (v:=aw (N:Int)) (by simp) rfl rfl;rw[dM]at WQ;have hl9:=v97.lt rX;obtain⟨s8,Iw⟩:=dO (s7.wr (s.nx+3) (some (ca 3 [aw (N:Int)])));rw[<-Iw]at WQ;have JQ:Good s8:=by rw[Iw];exact bZ rX hl9 _
 have n8:s8.nx=s7.nx:=by rw[Iw];rfl
 have w9:ay s8 (s.nx+3) 3 [aw (N:Int)]:=by rw[Iw];exact ay.set rX hl9 3 _
 have w10:ay s8 (s.nx+4) 3 [aw 0]:=by rw[Iw];exact aKS.wr rX hl9 (by omega) _
 have af3:Grown s.nx s s8:=by rw[Iw];exact(Gh.trans (wU.le Gh.nx)).wr (by omega) hl9 _
 have abh:=w10.Fu JQ (o:=0) (v:=aw (A:Int)) (by simp) rfl rfl;rw[dM]at abh;have NU:=w10.lt JQ;obtain⟨s9,hs9⟩:=dO (s8.wr (s.nx+4) (some (ca 3 [aw (A:Int)])));rw[<-hs9]at abh;have Zk:Good s9:=by rw[hs9];exact bZ JQ NU _
 have n9:s9.nx=s7.nx:=by rw[hs9];exact n8
 have x9:ay s9 (s.nx+3) 3 [aw (N:Int)]:=by rw[hs9];exact w9.wr JQ NU (by omega) _
 have x10:ay s9 (s.nx+4) 3 [aw (A:Int)]:=by rw[hs9];exact ay.set JQ NU 3 _
 have ZY:Grown s.nx s s9:=by rw[hs9];exact af3.wr (by omega) NU _
 have aox:Grown (s.nx+3) s5 s9:=by rw[hs9,Iw];exact((wU.le (by omega)).wr (by omega) hl9 _).wr (by omega) (by rw[<-Iw];omega) _
 have x4:=v45.grown aox (by omega);have x7:=(v7.grown (iZ.trans ((nI.trans (lE.le nI.nx)).le iZ.nx)) (by omega)).grown aox (by omega);have x8:=(v8.grown Jh (by omega)).grown aox (by omega);obtain⟨s10,ZZ⟩:=dO (s9.add (.map 3 [] 0));have af4:=cz ZZ Zk;have n10:s10.nx=s9.nx+1:=by rw[ZZ];rfl
 have aDN:im s10 s9.nx []:=by rw[ZZ];exact im.new Zk
 have WS:=cM ZZ Zk;obtain⟨Xp,Z0⟩:=dO (s10.add (ca 178 [.map none]));have Ll:=cz Z0 af4;have n11:Xp.nx=s10.nx+1:=by rw[Z0];rfl
 have v11:=jS Z0 af4;have af5:=cM Z0 af4;have abi:=v11.Fu Ll (o:=0) (v:= .map (some s9.nx)) (by simp) rfl rfl;rw[dM]at abi;have axU:=v11.lt Ll;obtain⟨s12,aoy⟩:=dO (Xp.wr s10.nx (some (ca 178 [.map (some s9.nx)])));rw[<-aoy]at abi;have Jg:Grown s10.nx s10 s12:=by rw[aoy];exact af5.wr (af _) axU _
 have J4:Grown s9.nx s9 s12:=WS.trans (Jg.le WS.nx);apply aJ;simp+decide only[ag,h0,h3,ez hg];rw[show(Value.pointer (some ⟨d.lp,0,none⟩)).cells.toList= [a8 d.lp]from rfl,<-dm];simp+decide only[ag,ez dv];rw[show(Value.string ⟨⟨name⟩⟩).cells.toList= [.string ⟨⟨name⟩⟩]from rfl,<-ee];simp+decide only[ag,pM dI,<-gy];apply lV;simp+decide only[ag,h2,l4,l45,l46,pM gQ,<-jW,pM iI,<-oE,e6,e7,n3,n4,WQ,abh];apply aJ;simp+decide only[ag,uP Zk,<-ZZ,pM af4,<-Z0,abi];refine hQ _ s12 s9.nx s10.nx ⟨by simp+decide only[ag,h1],by simp+decide only[ag,h2],by simp+decide only[ag],by simp+decide only[ag,n1],by simp+decide only[ag,n2],by simp+decide only[ag],by simp+decide only[ag],by simp+decide only[ag],?_,x4.grown J4 (by omega),x7.grown J4 (by omega),⟨_,x8.grown J4 (by omega)⟩,?_,?_,?_,?_,by omega,by omega⟩ (aDN.eq (Jg.eb _ (by omega)))
 ·exact ZY.trans (J4.le ZY.nx)
 ·rw[<-hN'];exact x9.grown J4 (by omega)
 ·rw[<-hA'];exact x10.grown J4 (by omega)
 ·rw[aoy];exact ay.set Ll axU 178 _
 ·exact Ss.set (Ss.set (Ss.set (Ss.set (Ss.set (Ss.set Vc _ _ (tO _ _)) _ _ (tO _ _)) _ _ (tO _ _)) _ _ (tO _ _)) _ _ (tO _ _)) _ _ (tO _ _)
def Gi (N:Nat) (F:List Nat):List Nat:=F.foldl (λS x=>if x=N then S else NT x S) []
def KV (N:Nat) (F:List Nat) (x:Nat):Gi N (F++ [x])=if x=N then Gi N F else NT x (Gi N F):=by unfold Gi;rw[Bt];rfl
def Qs:kept 385682695119438939564835770466207 31=true:=by kernel_rfl
def adJ:cA prog 180 [] []=some (.agg ⟨[]⟩):=by kernel_rfl
def Nn (a b:Array Value):mO prog (.func (.func 188) a b)=true:=by
 have h:∃c,Tryz.f188.body=some c:=⟨_,rfl⟩
 obtain⟨c,hc⟩:=h;show(match prog.funcs[188]? with|some fn=>(match fn.body with|some _=>true|none=>false)|none=>false)=true;rw[func188];show(match Tryz.f188.body with|some _=>true|none=>false)=true;rw[hc]
def acp (f a b c:Nat):qQ 12 (.func (.func f) ⟨[]⟩ ⟨[a8 a,a8 b,a8 c]⟩) (.func (.func f) ⟨[]⟩ ⟨[a8 a,a8 b,a8 c]⟩)=true:=by have hf:xQ (.func f) (.func f)=true:=bj f;show aD (xQ (.func f) (.func f)) (aD true (aD (nZ ⟨a,0,none⟩ ⟨a,0,none⟩) (aD (nZ ⟨b,0,none⟩ ⟨b,0,none⟩) (aD (nZ ⟨c,0,none⟩ ⟨c,0,none⟩) true false) false) false) false) false=true;rw[hf,jB,jB,jB];rfl
def H9 (n:Nat) (Vp:Good s0) (h:LS s0 d σ φ) {fs:Value} {K N A:Nat} {name:List UInt8} {bm:Nat} {L:List Nat} {m:TM 122} (hc:LC s0 d fs K N A name r bm m s) (xp:im s r []) (hy:Sl s0.nx s0 3 1 fs (ints L)) (gP:∀x∈L,x<φ.length) (hL:L.length<=900000) (hks:∀x∈L,(CX φ x).length<=900000):
  WC (aE (n+6)) (ah ak3 (bP 0 (lJ prog 64 122 385682695119438939564835770466207 (aK 30) [31] ti tj))) (λx m' s'=>(x= .normal∧LC s0 d fs K N A name r bm m' s'∧im s' r (Gi N (jt φ K L))∧A∉jt φ K L)∨(x= .ret∧Grown s0.nx s0 s'∧ay s' (s0.nx+2) 3 [aw (A:Int)]∧m'.get 8=some (a8 (s0.nx+2))∧A∈jt φ K L)) m s:=by
 have hg:=hc.gr.bt;have aKT:=xp.lt hg;have aKU:=hc.v11.lt hg;have l4:=hc.v4.ld cT (o:=0) (by simp);simp only[ae]at l4;obtain⟨s1,dm⟩:=dO (s.add (ca 24 [a8 d.lp]));have dv:=cz dm hg;have n1:s1.nx=s.nx+1:=by rw[dm];rfl
 have f1:=jS dm hg;have fV:=cM dm hg;have qg:fs.cells= #[fs]:=by obtain⟨base,mm,cc,e⟩:=hy.WI;rw[e];rfl
 obtain⟨s2,ee⟩:=dO (s1.add (ca 38 [fs]));have dI:=cz ee dv;have n2:s2.nx=s.nx+2:=by rw[ee,ep,n1]
 have f2:ay s2 (s.nx+1) 38 [fs]:=by rw[ee,<-n1];exact ay.new dv 38 _
 have iE:=cM ee dv;obtain⟨s3,gy⟩:=dO (s2.add (ca 3 [aw (K:Int)]));have gQ:=cz gy dI;have n3:s3.nx=s.nx+3:=by rw[gy,ep,n2]
 have f3:ay s3 (s.nx+2) 3 [aw (K:Int)]:=by rw[gy,<-n2];exact ay.new dI 3 _
 have iZ:=cM gy dI;have ER:Grown s1.nx s1 s3:=iE.trans (iZ.le iE.nx);have oB:Grown s.nx s s3:=fV.trans (ER.le fV.nx);have Ew:cp (aE (n+6) (dJ 132) [a8 d.lp,fs,aw (K:Int)] s) (λr s'=>r= .func (.func 188) ⟨[]⟩ ⟨[a8 (s.nx+1),a8 s.nx,a8 (s.nx+2)]⟩∧s'=s3):=by
  rw[aCa];refine bG (by simp) λm hm=>?_;have h0:m.get 0=some (a8 d.lp):=by rw[hm];rfl
  have h1:m.get 1=some fs:=by rw[hm];rfl
  have h2:m.get 2=some (aw (K:Int)):=by rw[hm];rfl
  clear hm;unfold aw4;apply aJ;simp+decide only[ag,h0,h1,h2,ez hg];rw[show(Value.pointer (some ⟨d.lp,0,none⟩)).cells.toList= [a8 d.lp]from rfl,<-dm];simp+decide only[ag,ez dv];rw[qg,show(#[fs]:Array Value).toList= [fs]from rfl,<-ee];simp+decide only[ag,ez dI];rw[show(Value.int .i64 (K:Int)).cells.toList= [aw (K:Int)]from rfl,<-gy];apply aJ;simp+decide only[ag,jz];refine aR (b6 (v:= .func (.func 188) ⟨[]⟩ ⟨[a8 (s.nx+1),a8 s.nx,a8 (s.nx+2)]⟩) (.inr rfl) ?_ ⟨rfl,rfl⟩);simp+decide only[ag,n1,n2]
 obtain⟨fv,s3',e3,rfl,aoz⟩:=Ew;rw[aoz]at e3;apply aJ;simp+decide only[ag,hc.t1,hc.t2,hc.t4,l4,e3];obtain⟨F,hF⟩:=dO (jt φ K L);obtain⟨M,hM⟩:=dO (m.set 30 (.func (.func 188) ⟨[]⟩ ⟨[a8 (s.nx+1),a8 s.nx,a8 (s.nx+2)]⟩));have F4:∀j,j≠30->M.get j=m.get j:= λj hj=>by rw[hM,TM.iT _ _ _ _ (by decide),aC hj]
 have aKV:M.get 30=some (.func (.func 188) ⟨[]⟩ ⟨[a8 (s.nx+1),a8 s.nx,a8 (s.nx+2)]⟩):=by rw[hM,TM.iT _ _ _ _ (by decide),aU rfl]
 have hMs:Ss M:=by rw[hM];exact hc.ss.set _ _ (acp _ _ _ _)
 rw[<-hM,<-hF];clear hM;obtain⟨LB,Ji⟩:∃LB:LoopState->Option Code->eX,LB= λst pend=>eX.loop st pend 64 122 385682695119438939564835770466207 M.t [31] ti tj:=⟨_,rfl⟩
 obtain⟨s4,jW⟩:=dO (s3.add (LB .ready none));have n4:s4.nx=s3.nx+1:=by rw[jW];rfl
 have nI:=cM jW gQ;have gl4:s4.h.get s3.nx=some (LB .ready none):=by rw[jW,gF gQ,aU rfl]
 have oC:Grown s.nx s s4:=oB.trans (nI.le oB.nx);have I4:=hc.r5;have hrb:=hc.rb;have w1:=f1.grown (ER.trans (nI.le ER.nx)) (by omega);have w2:=f2.grown (iZ.trans (nI.le iZ.nx)) (by omega);have w3:=f3.grown nI (by omega);have c4:=hc.v4.grown oC (hc.v4.lt hg);have c7:=hc.v7.grown oC (hc.v7.lt hg);have c9:=hc.v9.grown oC (hc.v9.lt hg);have c10:=hc.v10.grown oC (hc.v10.lt hg);have c11:=hc.v11.grown oC aKU;obtain⟨w8,c8'⟩:=hc.v8;have c8:=c8'.grown oC (c8'.lt hg);have aPv:=hc.v10.lt hg;obtain⟨I,hI⟩:∃I:Nat->AS->Prop,I= λj s'=>Grown s0.nx s0 s'∧s4.nx<=s'.nx∧(∀q,q<s4.nx->q≠r->q≠s3.nx->s'.h.get q=s4.h.get q)∧im s' r (Gi N (F.take j))∧s'.h.get s3.nx=some (LB .ready none)∧A∉F.take j:=⟨_,rfl⟩
 obtain⟨E,hE⟩:∃E:AS->Prop,E= λs'=>Grown s0.nx s0 s'∧s3.nx<s'.nx∧ay s' (s0.nx+2) 3 [aw (A:Int)]∧s'.h.get s3.nx=some (LB .done (some .ret))∧A∈F:=⟨_,rfl⟩
 have dK:=adH (n+2) (s:=s4) (d:=d) (σ:=σ) (φ:=φ) K (bf:=s.nx+1) (bl:=s.nx) (bk:=s.nx+2) (fs:=fs) (L:=L) (.func (.yield s3.nx) #[] #[]) I E ?_ ?_ ?_ ?_ gP hL hks
 ·refine bY (AV (fv:= .func (.func 188) ⟨[]⟩ ⟨[a8 (s.nx+1),a8 s.nx,a8 (s.nx+2)]⟩) gQ aKV (Nn _ _) ?_);obtain⟨v,s5,e5,_,hIE⟩:=dK;refine⟨v,s5,?_,?_⟩
  ·rw[qw];rw[jW,Ji]at e5;exact e5
  rw[<-hF,hI,hE]at hIE;rcases hIE with ⟨lE,n5,q5,NV,l5,nA⟩|⟨lE,n5,v5,l5,hA⟩
  ·refine⟨lE.bt,by omega,.ready,none,by rw[l5,Ji],(λh=>by cases h),?_⟩;obtain⟨s6,qj⟩:=dO (s5.wr s3.nx (some (LB .exhausted none)));have zQ:Grown s0.nx s0 s6:=by rw[qj];exact lE.wr (by omega) (by omega) _
   have q6:∀q,q<s4.nx->q≠r->q≠s3.nx->s6.h.get q=s4.h.get q:= λq h1 h2 h3=>by rw[qj,cj lE.bt (by omega),aC h3];exact q5 q h1 h2 h3
   show yX 0 _ .normal M (s5.wr s3.nx (some (.loop .exhausted none 64 122 385682695119438939564835770466207 M.t [31] ti tj)));rw[show(eX.loop .exhausted none 64 122 385682695119438939564835770466207 M.t [31] ti tj)=LB .exhausted none from by rw[Ji],<-qj];rw[aP (af _)]at NV nA;refine .inl ⟨rfl,⟨by rw[F4 1 (by decide)];exact hc.t1,by rw[F4 2 (by decide)];exact hc.t2,by rw[F4 4 (by decide)];exact hc.t4,by rw[F4 7 (by decide)];exact hc.t7,by rw[F4 8 (by decide)];exact hc.t8,by rw[F4 9 (by decide)];exact hc.t9,by rw[F4 10 (by decide)];exact hc.t10,by rw[F4 11 (by decide)];exact hc.t11,zQ,c4.eq (q6 _ (by omega) (by omega) (by omega)),c7.eq (q6 _ (by omega) (by omega) (by omega)),⟨_,c8.eq (q6 _ (by omega) (by omega) (by omega))⟩,c9.eq (q6 _ (by omega) (by omega) (by omega)),c10.eq (q6 _ (by omega) (by omega) (by omega)),c11.eq (q6 _ (by omega) (by omega) (by omega)),hMs,hc.r5,hc.rb⟩,NV.eq (by rw[qj,cj lE.bt (by omega),aC (by omega)]),nA⟩
  ·refine⟨lE.bt,n5,.done,some .ret,by rw[l5,Ji],(λh=>by cases h),?_⟩;show yX 0 _ .ret M _;exact .inr ⟨rfl,lE.wr (by omega) n5 _,v5.wr lE.bt n5 (by omega) _,by rw[F4 8 (by decide)];exact hc.t8,hA⟩
 ·intro j s' hj;rw[hI]at hj;obtain⟨lE,n5,q5,NV,l5,nA⟩:=hj;exact⟨lE.bt,h.ext Vp lE,w2.eq (q5 _ (by omega) (by omega) (by omega)),w1.eq (q5 _ (by omega) (by omega) (by omega)),w3.eq (q5 _ (by omega) (by omega) (by omega)),(hy.ext lE.eb).le lE.nx⟩
 ·intro j s' j9 hj fN;rw[hI]at hj⊢;obtain⟨lE,n5,q5,NV,l5,nA⟩:=hj;exact⟨lE.trans (fN.le lE.nx),by have:=fN.nx;omega,λq h1 h2 h3=>by rw[fN.eb q (by omega)];exact q5 q h1 h2 h3,NV.eq (fN.eb _ (by omega)),by rw[fN.eb _ (by omega)];exact l5,nA⟩
 ·intro j s' y hj hy';rw[<-hF]at hy';rw[hI]at hj;obtain⟨lE,n5,q5,NV,l5,nA⟩:=hj;have jm:=lE.bt;have zM:F.take (j+1)=F.take j++ [y]:=by
   obtain⟨h1,h2⟩:=List.getElem?_eq_some_iff.1 hy';rw[cQ h1,h2]
  obtain⟨sb,JR⟩:=dO (s'.wr s3.nx (some (LB .busy none)));have Bd:Good sb:=by rw[JR];exact bZ jm (by omega) _
  have nb:sb.nx=s'.nx:=by rw[JR];rfl
  have grb:Grown s0.nx s0 sb:=by rw[JR];exact lE.wr (by omega) (by omega) _
  have qb:∀q,q≠s3.nx->sb.h.get q=s'.h.get q:= λq hq=>by rw[JR,cj jm (by omega),aC hq]
  have lb:sb.h.get s3.nx=some (LB .busy none):=by rw[JR,cj jm (by omega),aU rfl]
  have fh:=(c10.eq (q5 _ (by omega) (by omega) (by omega))).eq (qb _ (by omega));have b9:=(c9.eq (q5 _ (by omega) (by omega) (by omega))).eq (qb _ (by omega));have b8:=(c8.eq (q5 _ (by omega) (by omega) (by omega))).eq (qb _ (by omega));have b11:=(c11.eq (q5 _ (by omega) (by omega) (by omega))).eq (qb _ (by omega));have axV:=NV.eq (qb r (by omega));have aoA:=fh.ld bM (o:=0) (by simp);have ld9:=b9.ld bM (o:=0) (by simp);have axW:=b11.ld wG (o:=0) (by simp);simp only[ae]at aoA ld9 axW;have t10:M.get 10=some (a8 (s0.nx+4)):=by rw[F4 10 (by decide)];exact hc.t10
  have t9:M.get 9=some (a8 (s0.nx+3)):=by rw[F4 9 (by decide)];exact hc.t9
  have t8:M.get 8=some (a8 (s0.nx+2)):=by rw[F4 8 (by decide)];exact hc.t8
  have t11:M.get 11=some (a8 bm):=by rw[F4 11 (by decide)];exact hc.t11
  refine DJ (X:=cC) (L:=ga) (k:=n+4) (m:=M) (m1:=M.set 31 (aw (y:Int))) (pend:=none) (by rw[l5,Ji]) ahn aho (yH Qs (by decide)) ?_;unfold ak4;apply ar;simp+decide only[ag];refine⟨jm,by omega,none,by rw[l5,Ji],?_⟩;rw[show(eX.loop .busy none 64 122 385682695119438939564835770466207 M.t [31] ti tj)=LB .busy none from by rw[Ji],<-JR];unfold ak5;refine bY (aT (aT (ar ?_)));simp+decide only[ag,t10,aoA];by_cases hyA:y=A
  ·refine iP (by simp+decide only[ag];simp[hyA]) ?_;have fU:=b8.Fu Bd (o:=0) (v:=aw (A:Int)) (by simp) rfl rfl;rw[dM]at fU;apply aJ;simp+decide only[ag,t8,t10,aoA,fU];apply aR;rw[pL,mY];have hgc:=bZ Bd (i:=s0.nx+2) (by omega) (some (ca 3 [aw (A:Int)]));refine⟨hgc,by rw[rz];omega,.busy,none,by rw[cj Bd (by omega),aC (by omega),lb,Ji],?_⟩;refine .inr ⟨rfl,?_⟩;rw[hE];refine⟨(grb.wr (by omega) (by omega) _).wr (by omega) (by rw[rz];omega) _,by rw[rz,rz];omega,(ay.set Bd (by omega) 3 _).wr hgc (by rw[rz];omega) (by omega) _,by rw[cj hgc (by rw[rz];omega),aU rfl,Ji],?_⟩;rw[<-hyA];exact cY hy'
  ·refine dD (by simp+decide only[ag];simp;omega) ?_;apply aJ;simp+decide only[ag,t9,ld9];have fin:∀sx,Good sx->sx.nx=s'.nx->Grown s0.nx s0 sx->(∀q,q≠s3.nx->q≠r->sx.h.get q=s'.h.get q)->sx.h.get s3.nx=some (LB .busy none)->im sx r (Gi N (F.take (j+1)))->(∀b,s'.h.get r=some b->TyC b)->an2 (n:=122) s3.nx 64 122 385682695119438939564835770466207 M.t [31] ti tj (λr_1 aoB=>r_1=Value.bool true∧I (j+1) aoB∧eu TyC s' aoB∨r_1=Value.bool false∧E aoB) .normal M sx:=by
    intro sx hgx nx grx qx lx aKW htr;refine⟨hgx,by omega,.busy,none,by rw[lx,Ji],?_⟩;refine .inl ⟨rfl,?_,?_⟩
    ·rw[hI];refine⟨grx.wr (by omega) (by omega) _,by rw[rz];omega,λq h1 h2 h3=>by rw[cj hgx (by omega),aC h3,qx q h3 h2];exact q5 q h1 h2 h3,aKW.eq (by rw[cj hgx (by omega),aC (by omega)]),by rw[cj hgx (by omega),aU rfl,Ji],?_⟩;rw[zM];intro qF;rcases List.mem_append.1 qF with h1|h1
     ·exact nA h1
     ·simp at h1;exact hyA h1.symm
    ·refine⟨bZ hgx (by omega) _,by rw[rz];omega,λq b hb hq=>?_⟩;have h3:q≠s3.nx:= λe=>by rw[e,l5]at hb;cases hb;exact hq (by rw[Ji];exact trivial)
     have h2:q≠r:= λe=>by rw[e]at hb;exact hq (htr b hb)
     rw[cj hgx (by omega),aC h3,qx q h3 h2];exact hb
   have htr:∀b,s'.h.get r=some b->TyC b:= λb hb=>by obtain⟨es,ck,h1,_⟩:=NV;unfold cy at h1;rw[h1]at hb;cases hb;exact trivial
   by_cases hyN:y=N
   ·refine dD (by simp+decide only[ag];simp[hyN]) ?_;exact fin sb Bd nb grb (λq h1 _=>qb q h1) lb (by rw[zM,KV,aU hyN];exact axV) htr
   ·refine iP (by simp+decide only[ag];simp;omega) ?_;obtain⟨mb,af6,aKX,es,ck,hmb⟩:=axV.put Bd y;apply ar;simp+decide only[ag,t11,axW,adJ,af6];exact fin _ (bZ Bd (by omega) _) (by rw[rz];exact nb) (grb.wr (by omega) (by omega) _) (λq h1 h2=>by rw[cj Bd (by omega),aC h2];exact qb q h1) (by rw[cj Bd (by omega),aC (by omega)];exact lb) (by rw[zM,KV,aC hyN];exact aKX) htr
 ·rw[hI];exact⟨hc.gr.trans (oC.le hc.gr.nx),af _,λ_ _ _ _=>rfl,by rw[agl];exact xp.eq (oC.eb _ aKT),gl4,by simp⟩
def TN (hg:Good s) (h:im s r S):∃es ck,cy s r 3 es ck∧yZ es S∧De prog 178 s (.map (some r))=some (a8 s.nx,s.add (.mapIter (some r) ck)):=by obtain⟨es,ck,h1,h2⟩:=h;refine⟨es,ck,h1,h2,?_⟩;unfold De;rw[Uc];show mapOf (s.h.get r) (λ_ _ ck=>ob (s.new (.mapIter (some r) ck)) λs'=>some (Value.pointer (some ⟨s.nx,0,none⟩),s'))=_;unfold cy at h1;rw[h1];show ob (s.new (.mapIter (some r) ck)) (λs'=>some (Value.pointer (some ⟨s.nx,0,none⟩),s'))=_;rw[zd hg,cg]
def aDO {w:Value} (hg:Good ⟨s.h,s.nx,0⟩) (hv:ay s b t [w]) (hl:s.lim<=b) (hb:b<s.nx) (hc:v.cells= #[v]) (h1:dZ v=true):jK 1 s (a8 b) v=some (.tuple #[],s.wr b (some (ca t [v]))):=by
 have h:ij s b 0 [v]=some (s.wr b (some (ca t [v]))):=by show aD (cP [v]) (gI (s.h.get b) _) none=_;unfold ay at hv;rw[tV h1 rfl,aS,hv];have hd:Nat.div 0 [w].length=0:=Nat.zero_div _;have hm:Nat.mod 0 [w].length=0:=ayH _;show oR (Option AS) none (λl=>oR (Option AS) none (λl'=>oR (Option AS) none (λc'=>AS.set s b (some (.cells c' [w].length 1 false t))) (T.put (some l') (.n (some [w]) .e .e) (Nat.div 0 [w].length))) (Bi [v] l (Nat.mod 0 [w].length))) ((T.n (some [w]) .e .e).get (Nat.div 0 [w].length))=_;rw[hd,hm];show AS.set s b (some (.cells (.n (some [v]) .e .e) 1 1 false t))=_;rw[Wd hg hb hl];rfl
 show aD (Nat.beq (len v.cells.toList) 1) (ob (ij s b 0 v.cells.toList) λs'=>some (Value.tuple #[],s')) none=_;rw[hc];show ob (ij s b 0 [v]) (λs'=>some (Value.tuple #[],s'))=_;rw[h];rfl
def SP (φ:List dA) (K:Nat) (S:List Nat):Prop:=∀x∈S,x<φ.length∧(sJ φ x=4->∃k,(CX φ x)[0]? =some k∧k<φ.length∧k∉S∧sJ φ k≠K)
def list_round (n:Nat) {fs:Value} {K N A:Nat} {name:List UInt8} {bm:Nat} {m m0:TM 122} (hc:LC s0 d fs K N A name r bm m s) (hg:Good s) (h:LS s d σ φ) (xp:im s r S) (hp:SP φ K S) (Ns:∀j,m0.get j=if j∈ [45,13,57,14,15,16,98]then none else m.get j) (hK:K<100) {x:Nat} (hx:x∈S) {lm:Nat} (hlm:lm<=s.nx) (ml:wO) (Xb:ml=⟨2,3,aK 43,45,(ah (ah ab3 (bw (aK 57) (aQ (.exit 3)) (aQ .normal))) (ah ab4 (ah ab5 (ah ab6 (ah ab7 (bw (aK 98) (ah ab8 (aQ .ret)) (aQ .normal))))))),Sw,46,[45,13,57,14,15,16,98]⟩):
  WC (aE (n+6)) (bP ml.b1 (ah (abT ml (aw (x:Int),.agg ⟨[]⟩)) ml.c)) (λx m' _=>x= .normal∧ZF m0 m') (m0.set ml.t9 (.bool true)) ⟨s.h,s.nx,lm⟩:=by
 subst Xb;have hs0:∀j,j∉ [45,13,57,14,15,16,98]->m0.get j=m.get j:= λj hj=>by rw[Ns,aC hj]
 have vX:∀j,j∈ [45,13,57,14,15,16,98]->m0.get j=none:= λj hj=>by rw[Ns,aU hj]
 have Vc:Ss m0:= λk v hk=>by
  rw[Ns]at hk;split at hk
  ·cases hk
  ·exact hc.ss k v hk
 obtain⟨sL,hsL⟩:∃sL:AS,sL=⟨s.h,s.nx,lm⟩:=⟨_,rfl⟩
 have hgL:Good ⟨sL.h,sL.nx,0⟩:=by rw[hsL];exact⟨rfl,hg.room,hg.none⟩
 rw[<-hsL];have hH:sL.h=s.h:=by rw[hsL]
 have hNx:sL.nx=s.nx:=by rw[hsL]
 obtain⟨xd,hxk⟩:=hp x hx;have t4:m0.get 4=some (a8 s0.nx):=by rw[hs0 4 (by decide)];exact hc.t4
 have t2:m0.get 2=some (aw (K:Int)):=by rw[hs0 2 (by decide)];exact hc.t2
 have t11:m0.get 11=some (a8 bm):=by rw[hs0 11 (by decide)];exact hc.t11
 have rd:∀q:AS,(∀j,j<s.nx->q.h.get j=s.h.get j)->∀y,y<φ.length->aM prog 24 q (a8 s0.nx)=some (a8 d.lp)∧aM prog 61 q (.pointer (some ⟨d.lp,1,none⟩))=some d.fv∧aM prog 3 q (BC 13 d.fv y 0)=some (aw (sJ φ y:Int))∧∃kv,aM prog 38 q (BC 13 d.fv y 5)=some kv∧Sl s.nx q 3 1 kv (ints (CX φ y)):=by
  intro q hq y hy;have hv4:=hc.v4.eq (s':=q) (hq _ (hc.v4.lt hg));have l4:=hv4.ld cT (o:=0) (by simp);have l1:=(h.own.eq (s':=q) (hq _ (h.own.lt hg))).ld iC (o:=1) (by simp);simp only[ae,aZ]at l4 l1;have qh:=(h.sl hg).ext (s':=q) hq;have yM:y<(j8 φ).length:=by rw[gR];exact hy
  have eH:=h.uc _ (aV hy);have yN:=φ[y].dT eH;have f0:=qh.fld bM (by decide) yM (k:=0) (by decide) (j5 hy) (by omega) (φ[y].ZS eH);have f5:=qh.fld rp (by decide) yM (k:=5) (by decide) (j5 hy) (by omega) (φ[y].ZT eH);rw[<-jc hy]at f0;refine⟨l4,l1,f0,_,f5,?_⟩;rw[qy hy];exact(h.kids _ (aV hy)).ext hq
 have aoC:=h.sl hg;have ix:∀y,y<φ.length->ki prog 61 13 d.fv (aw (y:Int))=some (wR 13 d.fv y):= λy hy=>aoC.ix (P:=prog) (t:=61) (by rw[gR];exact hy) (k:= .i64);have po:∀y,y<φ.length->∀k,ct k (wR 13 d.fv y)=some (BC 13 d.fv y k):= λy hy k=>aoC.ct (by rw[gR];exact hy) k;have p00:∀y,y<φ.length->ct 0 (BC 13 d.fv y 0)=some (BC 13 d.fv y 0):= λy hy=>aco 13 d.fv y 0 0 (aoC.some (by rw[gR];omega));obtain⟨l4,l1,fk,kv,f5,Iu⟩:=rd sL (λj _=>by rw[hH]) x xd;refine bY (aT (Tw ?_));unfold Sw;simp+decide only[ag,↓iq];apply dh;apply ar;simp+decide only[ag,↓iq,t4,l4,cH,bO,aG,l1,ix x xd,po x xd,p00 x xd,fk];have NJ:∀m':TM 122,(∀j,j∉ [45,13,57,14,15,16,98]->m'.get j=m0.get j)->ZF m0 m':= λm' he=>Vc.same λk v hk=>by
  have oL:k∉ [45,13,57,14,15,16,98]:= λhm=>by rw[vX k hm]at hk;cases hk
  rw[he k oL];exact hk
 by_cases h4:sJ φ x=4
 ·obtain⟨k,I8,JO,hkS,hkK⟩:=hxk h4;obtain⟨vt,uA⟩:=List.getElem?_eq_some_iff.1 I8;refine dD (by simp+decide only[ag,↓iq];simp[h4]) ?_;simp+decide only[ag,↓iq];have hki:0<(ints (CX φ x)).length:=by rw[dE];exact vt
  have hkl:=Iu.ld bM hki (gJ vt);rw[uA,cO]at hkl;have axX:=Iu.ix (P:=prog) (t:=38) hki (k:= .i64);simp only[aW]at axX;apply aJ;simp+decide only[ag,↓iq,t4,l4,cH,bO,aG,l1,ix x xd,po x xd,f5,axX,hkl];obtain⟨s1,dm⟩:=dO (sL.add (ca 110 [.nilFunc]));have Xe:∀lo tm,tB 110 [.nilFunc] lo tm sL=some (a8 sL.nx,s1):= λlo tm=>by rw[dm];exact Pq hgL 110 _
  have fV:kR sL s1:=by rw[dm];exact(kR.refl hgL).add _
  have n1:s1.nx=sL.nx+1:=by rw[dm];rfl
  have v1:ay s1 sL.nx 110 [.nilFunc]:=by rw[dm];exact ay.new hgL 110 _
  have hlL:sL.lim=lm:=by rw[hsL]
  have fU:=aDO (v:= .func (.func 133) ⟨[]⟩ ⟨[a8 bm]⟩) fV.bt v1 (by rw[fV.lim];omega) (by omega) rfl rfl;obtain⟨s2,ee⟩:=dO (s1.wr sL.nx (some (ca 110 [.func (.func 133) ⟨[]⟩ ⟨[a8 bm]⟩])));rw[<-ee]at fU;have iE:kR sL s2:=by rw[ee];exact fV.wr (af _) (by omega) _
  have v2:ay s2 sL.nx 110 [.func (.func 133) ⟨[]⟩ ⟨[a8 bm]⟩]:=by rw[ee];have:=cj fV.bt (i:=sL.nx) (by show sL.nx<s1.nx;omega) (some (ca 110 [.func (.func 133) ⟨[]⟩ ⟨[a8 bm]⟩])) sL.nx;rw[aU rfl]at this;exact this
  apply aJ;simp+decide only[ag,↓iq,t11,jz,Xe,fU];have o2:∀j,j<s.nx->s2.h.get j=s.h.get j:= λj hj=>by rw[iE.eb j (by omega),hH]
  obtain⟨k4,k1,kf,kvk,k5,_⟩:=rd s2 o2 k JO;apply aJ;simp+decide only[ag,↓iq,t4,k4,cH,bO,aG,k1,ix k JO,po k JO,k5];have lv2:=v2.ld Ua (o:=0) (by simp);simp only[ae]at lv2;have hbm:=hc.v11.lt hg;have yN:=xp.lt hg;obtain⟨v,s3,e3,rfl,iZ⟩:=Yn (n+5) iE.bt (by have:=iE.nx;rw[iE.lim];omega) (hc.v11.eq (o2 _ hbm)) (xp.eq (o2 _ yN)) k;have e3':aE (n+6) (.func (.func 133) ⟨[]⟩ ⟨[a8 bm]⟩) [aw (k:Int)] s2= .val (.bool (decide (k∈S))) s3:=by rw[qw];exact e3
  rw[show decide (k∈S)=false from az hkS]at e3';have o3:∀j,j<s.nx->s3.h.get j=s.h.get j:= λj hj=>by rw[iZ.eb j (by have:=iE.nx;omega),o2 j hj]
  obtain⟨m4,m1,mf,_⟩:=rd s3 o3 k JO;have hdK:decide ((sJ φ k:Int)=(K:Int))=false:=az (by omega);apply aJ;simp+decide only[ag,↓iq,t2,t4,lv2,e3',m4,cH,bO,aG,m1,ix k JO,po k JO,p00 k JO,mf,hdK];refine nN (by simp+decide only[ag,↓iq]) ?_;refine aR ⟨rfl,NJ _ λj hj=>?_⟩;simp only[bu,aX,db,not_or]at hj;simp only[TM.iT,Nat.reduceLT,hj,eG]
 ·refine iP (by simp+decide only[ag,↓iq];simp;omega) ?_;apply aR;simp+decide only[ag,↓iq];refine NJ _ λj hj=>?_;simp only[bu,aX,db,not_or]at hj;simp only[TM.iT,Nat.reduceLT,hj,eG]
def Qf (n:Nat) {fs:Value} {K N A:Nat} {name:List UInt8} {bm:Nat} {m:TM 122} (Vp:Good s0) (h:LS s0 d σ φ) (hc:LC s0 d fs K N A name r bm m s) (xp:im s r S) (hp:SP φ K S) (hK:K<100):
  WC (aE (n+6)) (ah ak6 (bP 2 Sx)) (λx m' s'=>x= .normal∧LC s0 d fs K N A name r bm m' s'∧im s' r S) m s:=by
 have hg:=hc.gr.bt;have Nx:=hc.v11.ld wG (o:=0) (by simp);simp only[ae]at Nx;obtain⟨es,ck,hm,hse,Vn⟩:=TN hg xp;obtain⟨s1,dm⟩:=dO (s.add (.mapIter (some r) ck));rw[<-dm]at Vn;have dv:=cz dm hg;have n1:s1.nx=s.nx+1:=by rw[dm];rfl
 have fV:=cM dm hg;have aKY:s1.h.get s.nx=some (.mapIter (some r) ck):=by rw[dm,gF hg,aU rfl]
 have yN:=xp.lt hg;have hm1:cy s1 r 3 es ck:=hm.eq (fV.eb _ yN);apply aJ;simp+decide only[ag,↓iq,hc.t11,Nx,Vn];obtain⟨M,hM⟩:=dO (m.set 43 (a8 s.nx));have F4:∀j,j≠43->M.get j=m.get j:= λj hj=>by rw[hM,TM.iT _ _ _ _ (by decide),aC hj]
 have aKZ:M.get 43=some (a8 s.nx):=by rw[hM,TM.iT _ _ _ _ (by decide),aU rfl]
 have hMs:Ss M:=by rw[hM];exact hc.ss.set _ _ (tO _ _)
 rw[<-hM];obtain⟨s2,ee⟩:=dO (s1.wr s.nx none);have dI:Good s2:=by rw[ee];exact bZ dv (by omega) _
 have n2:s2.nx=s.nx+1:=by rw[ee];exact n1
 have iE:Grown s.nx s s2:=by rw[ee];exact fV.wr (af _) (by omega) _
 have lc:∀m':TM 122,(∀j,j∉ [45,13,57,14,15,16,98]->m'.get j=M.get j)->Ss m'->LC s0 d fs K N A name r bm m' s2:= λm' zJ vo=>by obtain⟨w8,c8⟩:=hc.v8;exact⟨by rw[zJ 1 (by decide),F4 1 (by decide)];exact hc.t1,by rw[zJ 2 (by decide),F4 2 (by decide)];exact hc.t2,by rw[zJ 4 (by decide),F4 4 (by decide)];exact hc.t4,by rw[zJ 7 (by decide),F4 7 (by decide)];exact hc.t7,by rw[zJ 8 (by decide),F4 8 (by decide)];exact hc.t8,by rw[zJ 9 (by decide),F4 9 (by decide)];exact hc.t9,by rw[zJ 10 (by decide),F4 10 (by decide)];exact hc.t10,by rw[zJ 11 (by decide),F4 11 (by decide)];exact hc.t11,hc.gr.trans (iE.le hc.gr.nx),hc.v4.grown iE (hc.v4.lt hg),hc.v7.grown iE (hc.v7.lt hg),⟨_,c8.grown iE (c8.lt hg)⟩,hc.v9.grown iE (hc.v9.lt hg),hc.v10.grown iE (hc.v10.lt hg),hc.v11.grown iE (hc.v11.lt hg),vo,hc.r5,hc.rb⟩
 have Gz:im s2 r S:=xp.eq (iE.eb _ yN);have Gg:LS s2 d σ φ:=h.ext Vp (hc.gr.trans (iE.le hc.gr.nx));unfold Sx;refine bY (Tx dv (by decide) (by decide) (λm0 Ns=>?_) aKY hm1 ?_ ?_)
 ·show aK 43 .nil m0.t=_;rw[akL,Ns 43,aC (by decide)];exact aKZ
 ·intro m0 Ns e he lm hlm;obtain⟨x,hx,hx1,Nv⟩:=hse.mem he;rw[hx1,Nv];have:=list_round n (s:=s2) (m:=M) (lc M (λ_ _=>rfl) hMs) dI Gg Gz hp Ns hK hx (lm:=lm) (by omega) _ rfl;rw[ee]at this;exact this
 ·intro m0 Ns;show yX 2 _ (.exit 2) _ _;rw[abO,aU rfl,<-ee];refine⟨rfl,lc _ (λj hj=>?_) ?_,Gz⟩
  ·simp only[bu,aX,db,not_or]at hj;rw[TM.iT _ _ _ _ (by decide),aC hj.1,Ns j];simp only[bu,aX,db,hj,eG]
  ·refine Ss.set (λk v hk=>?_) _ _ (VY _);rw[Ns]at hk;split at hk
   ·cases hk
   ·exact hMs k v hk
def fJ (S:List Nat):List Nat:=(xJ (S.map Int.ofNat)).map Int.toNat
def jC (S:List Nat):(fJ S).Perm S:=by
 have h:=(rQ (S.map Int.ofNat)).map Int.toNat;rw[iv]at h;have e:S.map (Int.toNat∘Int.ofNat)=S:=by
  conv=>rhs;rw[<-Y2 S]
  exact eS λx _=>rfl
 rw[e]at h;exact h
def gf (S:List Nat):(fJ S).length=S.length:=(jC S).length_eq
def Ia:∀l:List Int,vz l=l.map λn=> [Value.int .i64 n]
 | []=>rfl
 |n::l=>by show [Value.int .i64 n]::vz l=_;rw[Ia l];rfl
def TO (S:List Nat):vz (xJ (S.map Int.ofNat))=ints (fJ S):=by rw[Ia];unfold ints fJ;rw[iv];refine eS λn hn=>?_;have hm:=(rQ (S.map Int.ofNat)).mem_iff.1 hn;obtain⟨x,_,rfl⟩:=List.mem_map.1 hm;rfl
def KW:∀ {es:List (Value×Value×Nat)} {S:List Nat},es.map (·.1)=(S.map λx:Nat=>Value.int .i64 (x:Int))->(∀x∈S,x<9223372036854775808)->Bx es=some (S.map Int.ofNat)
 | [],[],_,_=>rfl
 | [],_::_,h,_=>by cases h
 |_::_,[],h,_=>by cases h
 |e::es,x::S,h,hb=>by
  rw[br,br]at h;injection h with h1 h2
  have e0:Bx (e::es)=match e.1 with| .int k n=>aD (aD (tz k .i64) (okI n) false) (ob (Bx es) λl=>some (n::l)) none|_=>none:=rfl
  rw[e0,h1];show aD (aD (tz .i64 .i64) (okI (x:Int)) false) (ob (Bx es) λl=>some ((x:Int)::l)) none=_;have ho:okI (x:Int)=true:=by show Nat.blt x 9223372036854775808=true;exact bg (hb x (by simp))
  rw[iu,aS,ho,aS,KW h2 λy hy=>hb y (by simp[hy]),cg];rfl
def aDP (n:Nat) (args:LVal) (s:AS):aE (n+1) (dJ 130) args s=Gr (.alt (.sorted 187 3 3) (.alt (.sorted 189 3 3) (.sorted 195 3 3))) (aE n) args s:=Kx (by rfl) (by rfl) args s
def Nf (n:Nat) (hg:Good s) (hv:ay s p 178 [.map (some r)]) (hs:im s r S) (hlen:S.length<=1000000) (hb:∀x∈S,x<9223372036854775808):
  cp (aE (n+1) (dJ 130) [.func (.func 189) ⟨[]⟩ ⟨[a8 p]⟩] s) (λw s'=>Grown s.nx s s'∧Sl s'.nx s' 3 1 w (ints (fJ S))∧(S= []∨∃b c,w= .slice (some ⟨b,0,none⟩) S.length c∧b=s.nx)):=by
 obtain⟨es,ck,hm,he⟩:=hs;rw[aDP];have h1:Gr (.alt (.sorted 187 3 3) (.alt (.sorted 189 3 3) (.sorted 195 3 3))) (aE n) [.func (.func 189) ⟨[]⟩ ⟨[.pointer (some ⟨p,0,none⟩)]⟩] s=lM (orO (ob (kJ s p 0 1) λv=>(match v with
    | [.map none]=>some (.slice none 0 0,s)
    | [.map (some r)]=>mapOf (s.h.get r) λY6 es _=>aD (Nat.beq Y6 3) (pF s 3 es) none
    |_=>none)) (orO none none)):=rfl
 have hl:=hv.kJ (o:=0) (k:=1) (by simp) (by decide);rw[h1,hl];show cp (lM (orO (mapOf (s.h.get r) λY6 es _=>aD (Nat.beq Y6 3) (pF s 3 es) none) (orO none none))) _;have zJ:=hm;unfold cy at zJ;rw[zJ];show cp (lM (orO (pF s 3 es) (orO none none))) _;have JZ:=KW he.keys hb;have abj:es.length=S.length:=by have:=congrArg List.length he.1;simpa using this
 cases BK:es with
 |nil=>rw[BK]at abj;have hS:S= []:=List.length_eq_zero_iff.1 abj.symm;subst hS;exact⟨_,_,rfl,Grown.refl hg _,.nil,.inl rfl⟩
 |cons e ig=>
  rw[<-BK];have h2:pF s 3 es=aD (Nat.ble (len es) 1000000) (ob (Bx es) λl=>jk s 3 1 (vz (xJ l)) (len es)) none:=by rw[BK];rfl
  have hr:=uO hg 3 1 (els:=ints (fJ S)) (kN _) (by decide);rw[dE,gf]at hr;rw[h2,dQ,abj,bg hlen,aS,JZ,cg,TO,hr];have gr:Grown s.nx s (s.row 3 1 (ints (fJ S))):=(Grown.refl hg _).row (af _) _ _ _;refine⟨_,_,rfl,gr,?_,.inr ⟨_,_,rfl,rfl⟩⟩;have fL:=bE.new hg 3 1 (ints (fJ S));obtain⟨d1,d2,d3⟩:=j1 S.length 1 (by decide);have:=Sl.full (c:=cq S.length 1) (fL.lt gr.bt) fL (by rw[dE,gf,d1];exact af _) (.inr ⟨d2,d3⟩);rwa[dE,gf]at this
def LS.aK0 (h:LS s d σ φ) (hk:eu (λb=>∃v,b=ca 3 v) s s') (OA:∀e∈φ,Sl s'.nx s' 3 1 e.kv (ints e.kids)):LS s' d σ φ:=by
 have cls:∀(c:T LVal) (sz n:Nat) (ro:Bool) (et:Nat),et≠3->¬ ∃v,eX.cells c sz n ro et=ca 3 v:= λc sz n ro et he hv=>by
  obtain⟨v,hv⟩:=hv;unfold ca at hv;injection hv with _ _ _ _ h5
  exact he h5
 have mp:∀(kt:Nat) (es:List (Value×Value×Nat)) (ck:Nat),¬ ∃v,eX.map kt es ck=ca 3 v:= λkt es ck hv=>by obtain⟨v,hv⟩:=hv;cases hv
 obtain⟨ob',ho⟩:=h.rows;obtain⟨tb,hto,htb⟩:=h.ts.rows;refine⟨h.own.an hk (cls _ _ _ _ _ (by decide)),⟨h.ts.own.an hk (cls _ _ _ _ _ (by decide)),⟨tb,hto.an hk λc m ro=>cls _ _ _ _ _ (by decide),htb⟩,h.ts.found.an hk (mp _ _ _),h.ts.pq,h.ts.ua,h.ts.Iv,h.ts.nodup,λe he=>?_,h.ts.xL,h.ts.wf⟩,⟨ob',ho.an hk λc m ro=>cls _ _ _ _ _ (by decide)⟩,h.found.an hk (mp _ _ _),h.uc,OA,h.Iv,h.nodup⟩;obtain⟨es,ck,h1,h2⟩:=h.ts.vars e he;exact⟨es,ck,h1.an hk (mp _ _ _),h2⟩
def su.after {e:dA} {v w:LVal} (hg:Good s) (h:LS s d σ φ) (hp:su s s' d σ φ e i d' fj) (hb:s.nx<=b) (hv:ay s' b 3 v) (Iu:∀j9:AS,j9.nx=s'.nx->(∀j,j≠b->j9.h.get j=s'.h.get j)->Sl j9.nx j9 3 1 e.kv (ints e.kids)) (Lx:Good s'):
  su s (s'.wr b (some (ca 3 w))) d σ φ e i d' fj:=by
 have Lt:=hv.lt Lx;have hgw:=bZ Lx Lt (some (ca 3 w));have QO:∀j,j≠b->(s'.wr b (some (ca 3 w))).h.get j=s'.h.get j:= λj hj=>by rw[cj Lx Lt,aC hj]
 cases hp with
 |uC hi hk fN=>exact .uC hi hk (fN.wr hb Lt _)
 |new hn hk hl=>
  have oL:eu RQ s (s'.wr b (some (ca 3 w))):=⟨hgw,hk.nx,λj x hx ht=>by
   have hj:j<s.nx:=by refine dg λhle=>?_;rw[hg.none j hle]at hx;cases hx
   rw[QO j (by omega)];exact hk.eb j x hx ht⟩
  refine .new hn oL (hl.aK0 ⟨hgw,af _,λj x hx ht=>?_⟩ λx hx=>?_)
  ·by_cases hj:j=b
   ·subst hj;unfold ay at hv;rw[hv]at hx;cases hx;exact(ht ⟨_,rfl⟩).elim
   ·rw[QO j hj];exact hx
  ·rcases List.mem_append.1 hx with hx|hx
   ·exact((h.kids x hx).an oL (by intro c m ro;show¬(3=64∨3=79);decide)).le oL.nx
   ·simp at hx;subst hx;exact Iu _ rfl QO
def aiH (n:Nat) (hg:Good s) (r:Nat):cp (aE (n+1) (dJ 135) [.map (some r)] s) (λv s'=>v= .func (.func 189) ⟨[]⟩ ⟨[a8 s.nx]⟩∧s'=s.add (ca 178 [.map (some r)])):=by
 rw[aCc];refine bG (by simp) λm hm=>?_;have h0:m.get 0=some (.map (some r)):=by rw[hm];rfl
 clear hm;unfold aw6;apply aJ;simp+decide only[ag,h0,ez hg];rw[show(Value.map (some r)).cells.toList= [.map (some r)]from rfl];apply aJ;simp+decide only[ag,jz];exact aR (b6 (v:= .func (.func 189) ⟨[]⟩ ⟨[a8 s.nx]⟩) (.inr rfl) (by simp+decide only[ag]) ⟨rfl,rfl⟩)
def adK (n:Nat) (hg:Good s) (h:LS s d σ φ) (zP:TF φ) (fR:φ.length<900000) {fs:Value} {L:List Nat} {K:Nat} (hK:K<100) {name:List UInt8} (Oz:name.length<=100) (hy:Sl s.nx s 3 1 fs (ints L)) (gP:∀x∈L,x<φ.length) (hL:L.length<=900000) (hks:∀x∈L,(CX φ x).length<=900000) (hS:S=Gi (if K=2 then 0 else 1) (jt φ K L)) (hA:(if K=2 then 1 else 0)∉jt φ K L) (hp:SP φ K S) (h2:2<=S.length) (h12:S.length<=12) (axY:∀x∈S,x<200) (hz:∀t∈S,fsz φ t<=100000) (ht:ku (S.map (xw φ))+12<900000):
  cp (aE (n+10) (dJ 64) [a8 d.lp,fs,aw (K:Int),.string ⟨⟨name⟩⟩] s) (λr s'=>∃i d' fj kv,(∃b c,kv= .slice (some ⟨b,0,none⟩) S.length c∧s.nx<=b)∧r=aw ((i:Nat):Int)∧su s s' d σ φ ⟨K,0,0,0,qI (fJ S),kv,fJ S,mv,if 4096<rD φ (fJ S)then 4097 else rD φ (fJ S),if 4096<rD φ (fJ S)then []else J3 φ name (fJ S)⟩ i d' fj):=by
 rw[aw3];refine bG (by simp) λm hm=>?_;have h0:m.get 0=some (a8 d.lp):=by rw[hm];rfl
 have h1:m.get 1=some fs:=by rw[hm];rfl
 have h2':m.get 2=some (aw (K:Int)):=by rw[hm];rfl
 have h3:m.get 3=some (.string ⟨⟨name⟩⟩):=by rw[hm];rfl
 have Vc:Ss m:= λk v hk=>by
  rw[hm]at hk;split at hk
  ·rcases k with _|_|_|_|k
   ·cases hk;exact tO _ _
   ·cases hk;exact cB hy.same
   ·cases hk;exact Sn _ _
   ·cases hk;exact Sq _
   ·simp at hk
  ·cases hk
 clear hm;unfold c64;refine KU (n+3) hg h zP fR K h0 h1 h2' h3 hK Vc λm1 s1 r bm Io Oy=>?_;refine aT (WC.mono (H9 (n+3) hg h Io Oy hy gP hL hks) ?_);intro x m2 s2 abk;rcases abk.symm with ⟨rfl,_,_,_,qF⟩|⟨rfl,Dj,Gz,_⟩
 ·exact(hA qF).elim
 rw[<-hS]at Gz;rw[Oo];refine aT (WC.mono (Qf (n+3) hg h Dj Gz hp hK) ?_);rintro x m3 s3 ⟨rfl,Dk,UR⟩;rw[Oo];have gQ:=Dk.gr.bt;have n3:=Dk.gr.nx;have Nx:=Dk.v11.ld wG (o:=0) (by simp);simp only[ae]at Nx;obtain⟨v,s4,e4,rfl,jW⟩:=aiH (n+8) gQ r;have iI:=cz jW gQ;have n4:s4.nx=s3.nx+1:=by rw[jW];rfl
 have nI:=cM jW gQ;have v4:=jS jW gQ;have yN:=UR.lt gQ;obtain⟨w,s5,e5,lE,hw,Jb⟩:=Nf (n+8) iI v4 (UR.eq (nI.eb _ yN)) (by omega) λx hx=>by have:=axY x hx;omega
 obtain⟨wb,wc,hwe,hwb⟩:∃b c,w= .slice (some ⟨b,0,none⟩) S.length c∧b=s4.nx:=by
  rcases Jb with Jb|Jb
  ·rw[Jb]at h2;simp at h2
  ·exact Jb
 have jm:=lE.bt;have n5:=lE.nx;obtain⟨s6,qj⟩:=dO (s5.add (ca 38 [.slice none 0 0]));have lZ:=cz qj jm;have n6:s6.nx=s5.nx+1:=by rw[qj];rfl
 have v6:=jS qj jm;have zQ:=cM qj jm;have aoD:=v6.Fu lZ (o:=0) (v:=w) (by simp) (by rw[hwe];rfl) (by rw[hwe];rfl);rw[dM]at aoD;have Q9:=v6.lt lZ;obtain⟨s7,rF⟩:=dO (s6.wr s5.nx (some (ca 38 [w])));rw[<-rF]at aoD;have rX:Good s7:=by rw[rF];exact bZ lZ Q9 _
 have n7:s7.nx=s6.nx:=by rw[rF];rfl
 have v7:ay s7 s5.nx 38 [w]:=by rw[rF];exact ay.set lZ Q9 38 _
 have wU:Grown s5.nx s5 s7:=by rw[rF];exact zQ.wr (af _) Q9 _
 have Ru:Grown s3.nx s3 s7:=(nI.trans (lE.le nI.nx)).trans (wU.le (by omega));have Ln:Grown s.nx s s7:=Dk.gr.trans (Ru.le n3);have hw7:Sl s7.nx s7 3 1 w (ints (fJ S)):=(hw.ext wU.eb).le wU.nx;have Xn:=hw7.len;rw[dE,gf]at Xn;apply aJ;simp+decide only[ag,Dk.t11,Nx,e4,e5,pM jm,<-qj,aoD];have l17:=v7.ld gu (o:=0) (by simp);simp only[ae]at l17;apply dh;apply ar;simp+decide only[ag,l17,Xn];have d0:decide ((S.length:Int)=0)=false:=az (by omega);have d1:decide ((S.length:Int)=1)=false:=az (by omega);apply bY;apply aJ;simp+decide only[ag,d0];refine nN (by simp+decide only[ag]) ?_;apply aJ;simp+decide only[ag,d1];refine dD (by simp+decide only[ag]) ?_;simp+decide only[ag];have wP:=jC S;obtain⟨ks,aK1⟩:=dO (fJ S);rw[<-aK1]at hw7 wP⊢;have aoE:∀x,x∈ks->x∈S:= λx hx=>wP.mem_iff.1 hx;have aUx:ks.length=S.length:=wP.length_eq;obtain⟨t8,s8,e8,rfl,Jf⟩:=H6 (n+5) rX hw7 (by omega) λx hx=>axY x (aoE x hx);have JQ:=Jf.bt;have af3:Grown s.nx s s8:=Ln.trans (Jf.le Ln.nx);have aoF:Grown s3.nx s3 s8:=Ru.trans (Jf.le Ru.nx);have ll7:=(Dk.v4.grown Ru (Dk.v4.lt gQ)).ld cT (o:=0) (by simp);have v48:=Dk.v4.grown aoF (Dk.v4.lt gQ);have v78:=Dk.v7.grown aoF (Dk.v7.lt gQ);have axZ:=v7.grown Jf (by omega);have ll8:=v48.ld cT (o:=0) (by simp);have ax0:=axZ.ld gu (o:=0) (by simp);simp only[ae]at ll7 ll8 ax0;have h8:=h.ext hg af3;have hw8:Sl s8.nx s8 3 1 w (ints ks):=(hw7.ext Jf.eb).le Jf.nx;have NN:ku (ks.map (xw φ))=ku (S.map (xw φ)):=by unfold ku;exact((wP.map (xw φ)).map List.length).sum_nat
 have BG:=TL n JQ h8 Oz axZ v48 v78 hw8 (by omega) (by omega) (λt EB=>(hp t (aoE t EB)).1) (λt EB=>hz t (aoE t EB)) (by rw[NN];exact ht);obtain⟨rr,s9,e9,i,d',fj,rfl,fP⟩:=B4 (n+8) JQ h8 (kind:=K) (number:=0) (a0:=0) (a1:=0) (rest:=qI ks) (mz:=mv) hw8 Cs fR BG;obtain⟨aUy,hk9,_⟩:=fP.ls JQ h8;have Zk:=hk9.bt;have n9:=hk9.nx;have aou:=KN w (by rw[hwe];rfl);obtain⟨w8,c8⟩:=Dk.v8;have aK2:=c8.lt gQ;have c88:=c8.grown aoF aK2;have c89:ay s9 (s.nx+2) 3 [w8]:=c88.an hk9 (by show¬(3=64∨3=79);decide);have WQ:=c89.Fu Zk (o:=0) (v:=aw (i:Int)) (by simp) rfl rfl;rw[dM]at WQ;have hl9:=c89.lt Zk;have hsw:=cB hw7.same;have aDQ:=(fP.before hg af3).after (w:= [aw (i:Int)]) hg h (b:=s.nx+2) (by omega) c89 (λj9 hn QO=>by
  have hw9:Sl s8.nx s9 3 1 w (ints ks):=hw8.an hk9 (by intro c m ro;show¬(3=64∨3=79);decide);have key:∀R0,Sl s8.nx s9 3 1 w R0->Sl s8.nx j9 3 1 w R0:= λR0 hq=>by
   cases hq with
   |nil=>exact .nil
   |mk hb hh hl hr hc hx=>
    injection hwe with hq1 _ _
    injection hq1 with hq1
    injection hq1 with hq1 _ _
    exact .mk hb (hh.ext (QO _ (by omega))) hl hr hc hx
  exact(key _ hw9).le (by omega)) Zk
 apply lV;simp only[ec,aW,gO]at e9;simp+decide only[ag,Dk.t2,Dk.t4,Dk.t7,Dk.t8,ll7,ll8,l17,ax0,aou,jz,e8,AX,ec,aW,e9,WQ,hsw];refine aR (tM (u:=a8 (s.nx+2)) (v:=aw (i:Int)) (.inr rfl) (by simp+decide only[ag,Dk.t8]) ?_ ⟨i,d',fj,w,⟨wb,wc,hwe,by omega⟩,rfl,aDQ⟩);rw[vS,(ay.set Zk hl9 3 [aw (i:Int)]).ld bM (o:=0) (by simp)];rfl
def adL (n:Nat) (hg:Good s) (h:LS s d σ φ) (zP:TF φ) (fR:φ.length<900000) {fs:Value} {L:List Nat} {K:Nat} (hK:K<100) {name:List UInt8} (hy:Sl s.nx s 3 1 fs (ints L)) (gP:∀x∈L,x<φ.length) (hL:L.length<=900000) (hks:∀x∈L,(CX φ x).length<=900000) (hA:(if K=2 then 1 else 0)∈jt φ K L):
  cp (aE (n+10) (dJ 64) [a8 d.lp,fs,aw (K:Int),.string ⟨⟨name⟩⟩] s) (λr s'=>r=aw ((if K=2 then 1 else 0:Nat):Int)∧Grown s.nx s s'):=by
 rw[aw3];refine bG (by simp) λm hm=>?_;have h0:m.get 0=some (a8 d.lp):=by rw[hm];rfl
 have h1:m.get 1=some fs:=by rw[hm];rfl
 have h2':m.get 2=some (aw (K:Int)):=by rw[hm];rfl
 have h3:m.get 3=some (.string ⟨⟨name⟩⟩):=by rw[hm];rfl
 have Vc:Ss m:= λk v hk=>by
  rw[hm]at hk;split at hk
  ·rcases k with _|_|_|_|k
   ·cases hk;exact tO _ _
   ·cases hk;exact cB hy.same
   ·cases hk;exact Sn _ _
   ·cases hk;exact Sq _
   ·simp at hk
  ·cases hk
 clear hm;unfold c64;refine KU (n+3) hg h zP fR K h0 h1 h2' h3 hK Vc λm1 s1 r bm Io Oy=>?_;refine aT (WC.mono (H9 (n+3) hg h Io Oy hy gP hL hks) ?_);intro x m2 s2 abk;rcases abk.symm with ⟨rfl,iE,v8,t8,_⟩|⟨rfl,_,_,hnA⟩
 ·rw[pL];refine tM (u:=a8 (s.nx+2)) (v:=aw ((if K=2 then 1 else 0:Nat):Int)) (.inr rfl) t8 ?_ ⟨rfl,iE⟩;rw[vS,v8.ld bM (o:=0) (by simp)];rfl
 ·exact(hnA hA).elim
def ama (n:Nat) {lp:Nat} {fs:Value} {R:Value->AS->Prop} (abl:cp (aE n (dJ 64) [a8 lp,fs,aw 3,.string ⟨⟨[111,114]⟩⟩] s) R):
  cp (aE (n+1) (dJ 19) [a8 lp,fs] s) R:=by
 obtain⟨r,s1,e1,hR⟩:=abl;rw[aJ5];refine bG (by simp) λm hm=>?_;have h0:m.get 0=some (a8 lp):=by rw[hm];rfl
 have h1:m.get 1=some fs:=by rw[hm];rfl
 clear hm;unfold c19;apply aJ;simp+decide only[ag];apply dh;apply ar;simp+decide only[ag,h0,lz];refine dD (by simp+decide only[ag]) ?_;apply aJ;simp+decide only[ag,h0,h1,e1];exact aR (b6 (.inr rfl) (by simp+decide only[ag]) hR)
def AY {φ:List dA} {K:Nat}:∀ {L:List Nat},(∀x∈L,sJ φ x≠K)->jt φ K L=L
 | [],_=>rfl
 |x::L,h=>by have h1:=AY (φ:=φ) (K:=K) (L:=L) λy hy=>h y (by simp[hy]);unfold jt at h1⊢;rw[List.flatMap_cons,h1];unfold ud;rw[aC (h x (by simp))];rfl
def Pr {N:Nat}:∀ {F:List Nat} (S:List Nat),(F++S).Nodup->(∀x∈F,x≠N)->F.foldl (λS x=>if x=N then S else NT x S) S=F.reverse++S
 | [],S,_,_=>rfl
 |y::F,S,hd,hn=>by
  rw[np,aC (hn y (by simp))];rw[pA,xh]at hd;have hyS:y∉S:= λh=>hd.1 (by simp[h]);have e:NT y S=y::S:=by unfold NT;rw[aC hyS]
  rw[e,Pr (y::S) ?_ λx hx=>hn x (by simp[hx])]
  ·simp
  ·refine(List.perm_middle.nodup_iff).2 ?_;exact List.nodup_cons.2 hd
def TP {N:Nat} {F:List Nat} (hd:F.Nodup) (hn:∀x∈F,x≠N):Gi N F=F.reverse:=by unfold Gi;rw[Pr [] (by simpa using hd) hn,List.append_nil]
def ES (a b:List UInt8):Int:=if IP a b then-1 else if a==b then 0 else 1
def aiI (n:Nat) (a b:List UInt8) (s:AS):cp (aE (n+3) (dJ 102) [.string ⟨⟨a⟩⟩,.string ⟨⟨b⟩⟩] s) (λr s'=>r=aw (ES a b)∧s'=s):=by
 have aK3:aE (n+1) (dJ 209) [.string ⟨⟨a⟩⟩,.string ⟨⟨b⟩⟩] s= .val (aw (ES a b)) s:=by
  obtain⟨fn,hf,hb⟩:∃fn,prog.funcs[209]? =some fn∧fn.body=none:=⟨Tryz.f209,func209,by rfl⟩
  have:=DH (P:=prog) (X:=cC) (L:=ga) (f:=209) (n:=n) (e:= .cmp) (by rfl) (by rfl) hf hb (by rfl) [.string ⟨⟨a⟩⟩,.string ⟨⟨b⟩⟩] s;refine Eq.trans this ?_;show lM (some (Value.int .i64 (aD (IP a b) (.negSucc 0) (aD (NY a b) (.ofNat 0) (.ofNat 1))),s))=_;rw[apU,bW,bW,tL];rfl
 have aK4:cp (aE (n+2) (dJ 161) [.string ⟨⟨a⟩⟩,.string ⟨⟨b⟩⟩] s) (λr s'=>r=aw (ES a b)∧s'=s):=by
  rw[aCD];refine bG (by simp) λm hm=>?_;have h0:m.get 0=some (.string ⟨⟨a⟩⟩):=by rw[hm];rfl
  have h1:m.get 1=some (.string ⟨⟨b⟩⟩):=by rw[hm];rfl
  clear hm;unfold axi;apply aJ;simp+decide only[ag];apply aJ;simp+decide only[ag,h0,h1,aK3];exact aR (b6 (v:=aw (ES a b)) (.inr rfl) (by simp+decide only[ag]) ⟨rfl,rfl⟩)
 obtain⟨r,sx,e1,rfl,rfl⟩:=aK4;rw[aCB];refine bG (by simp) λm hm=>?_;have h0:m.get 0=some (.string ⟨⟨a⟩⟩):=by rw[hm];rfl
 have h1:m.get 1=some (.string ⟨⟨b⟩⟩):=by rw[hm];rfl
 clear hm;unfold axg;apply aJ;simp+decide only[ag];apply aJ;simp+decide only[ag,h0,h1,e1];exact aR (b6 (v:=aw (ES a b)) (.inr rfl) (by simp+decide only[ag]) ⟨rfl,rfl⟩)
def aiJ (n:Nat) (a b:Int) (s:AS):∃c:Int,cp (aE (n+2) (dJ 103) [aw a,aw b] s) (λr s'=>r=aw c∧s'=s):=by
 have ax1:∀a:Int,cp (aE (n+1) (dJ 162) [aw a] s) (λr s'=>r= .bool false∧s'=s):= λa=>by
  rw[aCE];refine bG (by simp) λm hm=>?_;have h0:m.get 0=some (aw a):=by rw[hm];rfl
  clear hm;unfold axj;apply aJ;simp+decide only[ag];apply aJ;simp+decide only[ag,h0];exact aR (b6 (v:= .bool false) (.inr rfl) (by simp+decide only[ag]) ⟨rfl,rfl⟩)
 refine⟨if a<b then-1 else if b<a then 1 else 0,?_⟩;obtain⟨r,sx,e1,rfl,rG⟩:=ax1 a;rw[rG]at e1;obtain⟨r,sx,e2,rfl,rG⟩:=ax1 b;rw[rG]at e2;rw[aCC];refine bG (by simp) λm hm=>?_;have h0:m.get 0=some (aw a):=by rw[hm];rfl
 have h1:m.get 1=some (aw b):=by rw[hm];rfl
 clear hm;unfold axh;apply aJ;simp+decide only[ag];apply aJ;simp+decide only[ag,h0,e1];apply aJ;simp+decide only[ag,h1,e2];apply dh;apply ar;simp+decide only[ag];refine dD (by simp+decide only[ag]) ?_;apply dh;apply ar;simp+decide only[ag];refine dD (by simp+decide only[ag]) ?_;apply dh;apply ar;simp+decide only[ag,h0,h1];by_cases jJ:a<b
 ·refine iP (by simp+decide only[ag];simp[jJ]) ?_;apply aJ;simp+decide only[ag];exact aR (b6 (v:=aw (-1)) (.inr rfl) (by simp+decide only[ag];rfl) ⟨by rw[aU jJ],rfl⟩)
 ·refine dD (by simp+decide only[ag];simp;omega) ?_;apply dh;apply ar;simp+decide only[ag,h0,h1];by_cases hba:b<a
  ·refine iP (by simp+decide only[ag];simp[hba]) ?_;apply aJ;simp+decide only[ag];exact aR (b6 (v:=aw 1) (.inr rfl) (by simp+decide only[ag]) ⟨by rw[aC jJ,aU hba],rfl⟩)
  ·refine dD (by simp+decide only[ag];simp;omega) ?_;apply aJ;simp+decide only[ag];exact aR (b6 (v:=aw 0) (.inr rfl) (by simp+decide only[ag]) ⟨by rw[aC jJ,aC hba],rfl⟩)
def as9 (n:Nat) (a b:Int) (hy:Sl s.nx s 3 1 y [[aw a],[aw b]]):cp (aE (n+1) (dJ 101) [y] s) (λr s'=>r=aw (if a≠0 then a else b)∧s'=s):=by
 rw[aCA];refine bG (by simp) λm hm=>?_;have h0:m.get 0=some y:=by rw[hm];rfl
 clear hm;have mi:=hy.len;have i0:=hy.ix (P:=prog) (t:=38) (i:=0) (by simp) (k:= .i64);have i1:=hy.ix (P:=prog) (t:=38) (i:=1) (by simp) (k:= .i64);have l0:=hy.ld bM (i:=0) (x:=aw a) (by simp) rfl;have l1:=hy.ld bM (i:=1) (x:=aw b) (by simp) rfl;unfold axf;apply aJ;simp+decide only[ag];apply aJ;simp+decide only[ag];refine aT (WC.mono (Q:= λx m' s'=>s'=s∧((x= .ret∧m'.get 2=some (aw (if a≠0 then a else b)))∨(x= .normal∧m'.get 3=some (aw 0)∧a=0∧b=0))) ?_ ?_)
 ·apply aJ;simp+decide only[ag,h0,mi];refine bY (eW (λm s'=>s'=s∧∃j:Nat,j<=2∧(0<j->a=0)∧(1<j->b=0)∧m.get 3=some (aw 0)∧m.get 6=some y∧m.get 7=some (aw 2)∧m.get 8=some (aw (j:Int)))
   (λm _=>match m.get 8 with|some (.int _ j)=>(2-j).toNat|_=>0) ?_ ?_ ?_)
  ·exact⟨rfl,0,by omega,by omega,by omega,by simp+decide only[ag],by simp+decide only[ag],by simp+decide only[ag]<;>simp,by simp+decide only[ag,aW]⟩
  ·simp+decide only[ag]
  rintro m s' ⟨rfl,j,hj,ha,hb,g3,g6,g7,g8⟩;apply aJ;have d2:∀j:Nat,decide ((j:Int)<2)=decide (j<2):= λj=>by
   by_cases h:j<2
   ·rw[aL h,aL (by omega)]
   ·rw[az h,az (by omega)]
  simp+decide only[ag,g7,g8,d2]
  match j,hj with
  |0,_=>
   refine aT (cK true (by simp+decide only[ag]<;>rfl) ?_);simp+decide only[ag];apply aR;apply kK;apply aJ;simp only[aW]at i0 g8;simp+decide only[ag,g6,g8,i0,l0];apply aJ;simp+decide only[ag,g3];by_cases ha0:a=0
   ·refine dD (by simp+decide only[ag];simp[ha0]) ?_;apply ar;simp+decide only[ag,g8,show IntKind.i64.wrap (0+1)=1 from rfl];exact⟨1,by omega,λ_=>ha0,by omega,by simp+decide only[ag,g3],by simp+decide only[ag,g6],by simp+decide only[ag,g7],by simp+decide only[ag]<;>rfl⟩
   ·refine iP (by simp+decide only[ag];simp[ha0]) ?_;apply aJ;simp+decide only[ag];apply aR;simp+decide only[ag];refine .inl ?_;rw[aU ha0]
  |1,_=>
   refine aT (cK true (by simp+decide only[ag]<;>rfl) ?_);simp+decide only[ag];apply aR;apply kK;apply aJ;have i1:ki prog 38 1 y (aw 1)=some (wR 1 y 1):=i1;simp+decide only[ag,g6,g8,i1,l1];apply aJ;simp+decide only[ag,g3];have ha0:=ha (by omega);by_cases Vj:b=0
   ·refine dD (by simp+decide only[ag];simp[Vj]) ?_;apply ar;simp+decide only[ag,g8,show IntKind.i64.wrap (1+1)=2 from rfl];exact⟨2,by omega,λ_=>ha0,λ_=>Vj,by simp+decide only[ag,g3],by simp+decide only[ag,g6],by simp+decide only[ag,g7],by simp+decide only[ag]<;>rfl⟩
   ·refine iP (by simp+decide only[ag];simp[Vj]) ?_;apply aJ;simp+decide only[ag];apply aR;simp+decide only[ag];refine .inl ?_;rw[aC (by simp[ha0])]
  |2,_=>refine aT (cK false (by simp+decide only[ag]<;>rfl) ?_);simp+decide only[ag];apply aR;simp+decide only[ag];exact .inr ⟨g3,ha (by omega),hb (by omega)⟩
 rintro x m s' ⟨rfl,⟨rfl,g2⟩|⟨rfl,g3,rfl,rfl⟩⟩
 ·rw[pL];exact b6 (.inr rfl) g2 ⟨rfl,rfl⟩
 ·simp+decide only[ag];apply aJ;simp+decide only[ag,g3];exact aR (b6 (v:=aw 0) (.inr rfl) (by simp+decide only[ag]) ⟨by simp,rfl⟩)
