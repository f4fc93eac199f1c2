import Derived.Test.YtgdddkffkmcmcaaGreatDoorZAg
/- Part of the proof that TagsOne answers true. -/
set_option linter.all false
set_option maxRecDepth 100000
noncomputable section
namespace Go.Eng
open Go Go.Proofs Go.Proofs.Tryz
variable {s s' s0:AS} {v u y x v' x':Value} {n t b i k f a r p q j et ck nt kt e ty off:Nat} {w w':World} {o:Option Nat} {l vs l':LVal} {rows R els:List LVal} {tm tm':T Value} {es:List (Value×Value×Nat)} {ts:Array TypeId} {lo:Lo} {X:QJ} {P:Program} {F:Fence} {S:List Nat} {ρ ρ':Ren} {m:TM n} {σ:List cx} {φ fj:List dA} {d d':LV}
def adM (n:Nat) (hg:Good s) (h:LS s d σ φ) {u:Nat} (ht:t<σ.length) (hu:u<σ.length) (hn:σ.length+8<=n):
  cp (aE (n+1) (dJ 49) [a8 d.lp,aw (t:Int),aw (u:Int)] s) (λr s'=>(∃v:Int,r=aw v)∧Grown s.nx s s'):=by
 obtain⟨k,rfl⟩:∃k,n=k+8:=⟨n-8,by omega⟩
 rw[aJ6];refine bG (by simp) λm hm=>?_;have h0:m.get 0=some (a8 d.lp):=by rw[hm];rfl
 have h1:m.get 1=some (aw (t:Int)):=by rw[hm];rfl
 have h2:m.get 2=some (aw (u:Int)):=by rw[hm];rfl
 clear hm;have lt:=h.own.ld eU (o:=0) (by simp);simp only[ae]at lt;obtain⟨r,s1,e1,rfl,fV⟩:=FT t (k+8) hg h.ts ht (by omega);have h1':=h.ext hg fV;have RS:=h1'.own.ld eU (o:=0) (by simp);simp only[ae]at RS;obtain⟨r,s2,e2,rfl,iE⟩:=FT u (k+8) fV.bt h1'.ts hu (by omega);obtain⟨r,sx,e3,rfl,rG⟩:=aiI (k+5) (cF σ t) (cF σ u) s2;rw[rG]at e3;obtain⟨c,r,sx,e4,rfl,rG⟩:=aiJ (k+6) (t:Int) (u:Int) s2;rw[rG]at e4;have dI:=iE.bt;have ng:Grown s.nx s s2:=fV.trans (iE.le fV.nx);have hb:=vG (v:=aw (ES (cF σ t) (cF σ u))) (u:=aw c) dI fm fX rfl rfl;obtain⟨s3,gy⟩:=dO (s2.row 3 1 [[aw (ES (cF σ t) (cF σ u))],[aw c]]);rw[<-gy]at hb;have iZ:Grown s2.nx s2 s3:=by rw[gy];exact(Grown.refl dI _).row (af _) _ _ _
 have hy:Sl s3.nx s3 3 1 (.slice (some ⟨s2.nx,0,none⟩) 2 (bH 2)) [[aw (ES (cF σ t) (cF σ u))],[aw c]]:=by
  have hr:bE s3 s2.nx 3 1 false [[aw (ES (cF σ t) (cF σ u))],[aw c]]:=by rw[gy];exact bE.new dI 3 1 _
  exact Sl.full (R:= [[aw (ES (cF σ t) (cF σ u))],[aw c]]) (hr.lt iZ.bt) hr (by rw[(cR 2).1];exact af 2) (.inl (cR 2).2)
 obtain⟨r,sx,e5,rfl,rG⟩:=as9 (k+7) _ _ hy;rw[rG]at e5;unfold c49;apply aJ;simp+decide only[ag];apply lV;simp+decide only[ag,h0,h1,h2,cH,bO,aG,lt,RS,e1,e2,e3,e4,hb,e5];refine aR (b6 (v:=aw (if ES (cF σ t) (cF σ u)≠0 then ES (cF σ t) (cF σ u)else c)) (.inr rfl) ?_ ⟨⟨_,rfl⟩,ng.trans (iZ.le ng.nx)⟩);simp+decide only[ag]
def aDR (n:Nat) (hg:Good s) (h:LS s d σ φ) {u:Nat} (ht:t<σ.length) (hu:u<σ.length) (ed:t≠u) (hk:σ[t].kind≠2) (hn:σ.length+8<=n) (fR:φ.length<900000):
  cp (aE (n+4) (dJ 75) [a8 d.lp,aw (t:Int),aw (u:Int)] s) (λr s'=>∃a b i d' fj z tx,(a=t∧b=u∨a=u∧b=t)∧r=aw ((i:Nat):Int)∧z=(if 4096<mw σ [a,b]then 4097 else mw σ [a,b])∧tx=(if 4096<mw σ [a,b]then []else nS σ [61] [a,b]++ [41])∧su s s' d σ φ ⟨6,0,(a:Int),(b:Int),[],.slice none 0 0,[],mv,z,tx⟩ i d' fj):=by
 rw[axe];refine bG (by simp) λm hm=>?_;have h0:m.get 0=some (a8 d.lp):=by rw[hm];rfl
 have h1:m.get 1=some (aw (t:Int)):=by rw[hm];rfl
 have h2:m.get 2=some (aw (u:Int)):=by rw[hm];rfl
 clear hm;obtain⟨r,sx,e1,rfl,rG⟩:=pX (n+1) hg h ht;rw[rG]at e1;obtain⟨r,sx,e2,rfl,rG⟩:=pX (n+1) hg h hu;rw[rG]at e2;have lt:=h.own.ld eU (o:=0) (by simp);simp only[ae]at lt;obtain⟨r,s1,e3,rfl,fV⟩:=vU (n+1) hg h.ts ht;have h1':=h.ext hg fV;obtain⟨r,s2,e4,⟨v,rfl⟩,iE⟩:=adM (n+2) fV.bt h1' hu ht (by omega);have ng:Grown s.nx s s2:=fV.trans (iE.le fV.nx);have dI:=iE.bt;have h2':=h.ext hg ng;have dk:decide ((σ[t].kind:Int)=2)=false:=az (by omega);have dne:decide ((t:Int)=(u:Int))=false:=az (by omega);unfold c75;apply aJ;simp+decide only[ag];apply dh;apply ar;simp+decide only[ag,h0,lz];refine dD (by simp+decide only[ag]) ?_;apply aJ;simp+decide only[ag,h0,h1,h2,e1,e2];apply aJ;simp+decide only[ag,h0,cH,bO,aG,lt,e3,dk];refine aT (WC.mono (Q:= λx m' s'=>x= .normal∧s'=s2∧m'.get 0=some (a8 d.lp)∧∃a b,(a=t∧b=u∨a=u∧b=t)∧m'.get 1=some (aw (a:Int))∧m'.get 2=some (aw (b:Int))) ?_ ?_)
 ·apply bY;apply aJ;simp+decide only[ag,dne];refine nN (by simp+decide only[ag]) ?_;apply aJ;simp+decide only[ag];refine nN (by simp+decide only[ag]) ?_;apply aJ;simp+decide only[ag,h0,e4];by_cases hv:v<0
  ·refine iP (by simp+decide only[ag];simp[hv]) ?_;apply ar;simp+decide only[ag];exact⟨h0,u,t,.inr ⟨rfl,rfl⟩,rfl,rfl⟩
  ·refine dD (by simp+decide only[ag];simp;omega) ?_;simp+decide only[ag];exact⟨h0,t,u,.inl ⟨rfl,rfl⟩,rfl,rfl⟩
 rintro x m s' ⟨rfl,rfl,h0,a,b,jJ,g1,g2⟩;simp+decide only[ag];have hat:a<σ.length:=by rcases jJ with ⟨rfl,_⟩|⟨rfl,_⟩<;>assumption
 have hbt:b<σ.length:=by rcases jJ with ⟨_,rfl⟩|⟨_,rfl⟩<;>assumption
 have hb:=vG (v:=aw (a:Int)) (u:=aw (b:Int)) dI fm fX rfl rfl;obtain⟨s3,gy⟩:=dO (s'.row 3 1 [[aw (a:Int)],[aw (b:Int)]]);rw[<-gy]at hb;have iZ:Grown s'.nx s' s3:=by rw[gy];exact(Grown.refl dI _).row (af _) _ _ _
 have oB:Grown s.nx s s3:=ng.trans (iZ.le ng.nx);have hy:Sl s3.nx s3 3 1 (.slice (some ⟨s'.nx,0,none⟩) 2 (bH 2)) (ints [a,b]):=by
  have hr:bE s3 s'.nx 3 1 false (ints [a,b]):=by rw[gy];exact bE.new dI 3 1 _
  exact Sl.full (R:=ints [a,b]) (hr.lt iZ.bt) hr (by rw[(cR 2).1];exact af 2) (.inl (cR 2).2)
 obtain⟨r,s4,e5,i,d',fj,rfl,hp⟩:=Wa n iZ.bt (h.ext hg oB) (kind:=6) (number:=0) (name:= [61]) (by decide) hy (by simp) (by intro x hx;simp at hx;rcases hx with rfl|rfl<;>assumption) hn fR
 apply aJ;simp only[gO]at e5;simp+decide only[ag,h0,g1,g2,hb,e5];exact aR (b6 (v:=aw (i:Int)) (.inr rfl) (by simp+decide only[ag]) ⟨a,b,i,d',fj,_,_,jJ,rfl,rfl,rfl,hp.before hg oB⟩)
def adN (n:Nat) {bx:Nat} {yv:Value} {Pst:AS->Prop} (hv:ay s bx 38 [y]) (hy:Sl s.nx s 3 1 y (ints [t])) (xc:cp (aE n yv [aw (t:Int)] s) (λr s'=>r= .bool true∧Pst s')):
  cp (aE (n+1) (dJ 100) [yv,a8 bx] s) (λr s'=>r= .tuple #[]∧Pst s'):=by
 obtain⟨r,s1,e1,rfl,hP⟩:=xc;rw[aDa];refine bG (by simp) λm hm=>?_;have h0:m.get 0=some yv:=by rw[hm];rfl
 have h1:m.get 1=some (a8 bx):=by rw[hm];rfl
 clear hm;have lv:=hv.ld gu (o:=0) (by simp);simp only[ae]at lv;have mi:=hy.len;have mi:dH [y]=some (aw 1):=mi;have i0:=hy.ix (P:=prog) (t:=38) (i:=0) (by simp[ints]) (k:= .i64);have l0:=hy.ld bM (i:=0) (by simp[ints]) (gJ (l:= [t]) (i:=0) (by simp));simp only[aW,ae,cO]at i0 l0;unfold axo;apply aJ;simp+decide only[ag,h1,lv,mi];refine WC.mono (Q:= λx m' s'=>x= .normal∧Pst s') ?_ ?_
 ·refine bY (eW (λm s'=>∃j:Nat,j<=1∧(j=0->s'=s)∧(j=1->Pst s')∧m.get 0=some yv∧m.get 5=some y∧m.get 6=some (aw 1)∧m.get 7=some (aw (j:Int)))
   (λm _=>match m.get 7 with|some (.int _ j)=>(2-j).toNat|_=>0) ?_ ?_ ?_)
  ·exact⟨0,by omega,λ_=>rfl,by omega,by simp+decide only[ag,h0],by simp+decide only[ag],by simp+decide only[ag],by simp+decide only[ag,aW]⟩
  ·simp+decide only[ag]
  rintro m s' ⟨j,hj,Nw,Xc,g0,g5,g6,g7⟩;apply aJ;by_cases hz:j=0
  ·subst hz;have hs:=Nw rfl;subst hs;have g7:m.get 7=some (aw 0):=g7;have d0:decide ((0:Int)<1)=true:=by decide
   simp+decide only[ag,g6,g7,d0];refine aT (cK true (by simp+decide only[ag]) ?_);simp+decide only[ag];apply aR;apply kK;apply aJ;simp+decide only[ag,g5,g7,i0,l0];apply aJ;simp+decide only[ag,g0,e1];refine dD (by simp+decide only[ag]) ?_;apply ar;simp+decide only[ag,g7,show IntKind.i64.wrap (0+1)=1 from rfl];exact⟨1,by omega,by omega,λ_=>hP,by simp+decide only[ag,g0],by simp+decide only[ag,g5],by simp+decide only[ag,g6],by simp+decide only[ag]<;>rfl⟩
  ·have Rv:j=1:=by omega
   subst Rv;have hP':=Xc rfl;have g7:m.get 7=some (aw 1):=g7;have d0:decide ((1:Int)<1)=false:=by decide
   simp+decide only[ag,g6,g7,d0];refine aT (cK false (by simp+decide only[ag]) ?_);simp+decide only[ag];apply aR;simp+decide only[ag];exact hP'
 rintro x m s' ⟨rfl,h⟩;exact mZ (.inl rfl) ⟨rfl,h⟩
def No (a b:Array Value):mO prog (.func (.func 100) a b)=true:=by
 have h:∃c,Tryz.f100.body=some c:=⟨_,rfl⟩
 obtain⟨c,hc⟩:=h;show(match prog.funcs[100]? with|some fn=>(match fn.body with|some _=>true|none=>false)|none=>false)=true;rw[func100];show(match Tryz.f100.body with|some _=>true|none=>false)=true;rw[hc]
def Qg (n:Nat) {bx:Nat} (hg:Good s) (hv:ay s bx 38 [y]) (hy:Sl s.nx s 3 1 y (ints [t])):
  cp (aE (n+4) (dJ 59) [.func (.func 100) ⟨[]⟩ ⟨[a8 bx]⟩] s) (λw s'=>Grown s.nx s s'∧∃b c,w= .slice (some ⟨b,0,none⟩) 1 c∧Sl s'.nx s' 3 1 w (ints [t])):=by
 have aos:cp (aE (n+3) (dJ 119) [.slice none 0 0,.func (.func 100) ⟨[]⟩ ⟨[a8 bx]⟩] s) (λw s'=>Grown s.nx s s'∧∃b c,w= .slice (some ⟨b,0,none⟩) 1 c∧Sl s'.nx s' 3 1 w (ints [t])):=by
  rw[aDb];refine bG (by simp) λm hm=>?_;have h0:m.get 0=some (.slice none 0 0):=by rw[hm];rfl
  have h1:m.get 1=some (.func (.func 100) ⟨[]⟩ ⟨[a8 bx]⟩):=by rw[hm];rfl
  clear hm;obtain⟨s1,dm⟩:=dO (s.add (ca 38 [.slice none 0 0]));have dv:=cz dm hg;have n1:s1.nx=s.nx+1:=by rw[dm];rfl
  have v1:=jS dm hg;have fV:=cM dm hg;unfold axp;apply aJ;simp+decide only[ag,h0,ez hg];rw[show(Value.slice none 0 0).cells.toList= [.slice none 0 0]from rfl,<-dm];apply dh;apply ar;simp+decide only[ag,h1];generalize hM:(((m.set 2 _).set _ _).set 6 _:TM 13)=M;have M2:M.get 2=some (a8 s.nx):=by rw[<-hM];simp+decide only[ag]
  have M6:M.get 6=some (.func (.func 100) ⟨[]⟩ ⟨[a8 bx]⟩):=by rw[<-hM];simp+decide only[ag]
  clear hM;obtain⟨LB,Ji⟩:∃LB:LoopState->Option Code->eX,LB= λst pend=>eX.loop st pend 119 13 247 M.t [7] yj yk:=⟨_,rfl⟩
  obtain⟨s2,ee⟩:=dO (s1.add (LB .ready none));have dI:=cz ee dv;have n2:s2.nx=s1.nx+1:=by rw[ee];rfl
  have iE:=cM ee dv;have l2:s2.h.get s1.nx=some (LB .ready none):=by rw[ee,gF dv,aU rfl]
  have v2:=v1.grown iE (by omega);have ng:Grown s.nx s s2:=fV.trans (iE.le fV.nx);have zH:=hv.lt hg;obtain⟨sb,JR⟩:=dO (s2.wr s1.nx (some (LB .busy none)));have Bd:Good sb:=by rw[JR];exact bZ dI (by omega) _
  have nb:sb.nx=s2.nx:=by rw[JR];rfl
  have lb:sb.h.get s1.nx=some (LB .busy none):=by rw[JR,cj dI (by omega),aU rfl]
  have vb:ay sb s.nx 38 [.slice none 0 0]:=by rw[JR];exact v2.wr dI (by omega) (by omega) _
  have grb:Grown s.nx s sb:=by rw[JR];exact ng.wr (by omega) (by omega) _
  have ldb:=vb.ld gu (o:=0) (by simp);simp only[ae]at ldb;have Zh:=qt (v:=aw (t:Int)) Bd fm fX rfl;obtain⟨s5,oE⟩:=dO (sb.row 3 1 [[aw (t:Int)]]);rw[<-oE]at Zh;have lE:Grown sb.nx sb s5:=by rw[oE];exact(Grown.refl Bd _).row (af _) _ _ _
  have jm:=lE.bt;have n5:s5.nx=sb.nx+1:=by rw[oE];rfl
  have hyr:Reads s5.nx s5 1 (.slice (some ⟨sb.nx,0,none⟩) 1 (bH 1)) (ints [t]):=by
   have hr:bE s5 sb.nx 3 1 false (ints [t]):=by rw[oE];exact bE.new Bd 3 1 _
   exact(Sl.full (hr.lt jm) hr (by rw[(cR 1).1];exact af 1) (.inl (cR 1).2)).rd (by decide)
  have ha:=FR (n:=s5.nx) (et:=3) (v:= .slice none 0 0) (R:= []) (ob':=none) .nil hyr jm (by decide) (by decide) (λl hl=>by cases hl) (kN _) (O4 _) (by simp[ints]) (by simp[ints]);rw[show cW s5 (.slice none 0 0)=s5 from rfl,jD]at ha;obtain⟨s6,qj⟩:=dO (s5.row 3 1 (ints [t]));rw[<-qj]at ha;have zQ:Grown s5.nx s5 s6:=by rw[qj];exact(Grown.refl jm _).row (af _) _ _ _
  have lZ:=zQ.bt;have n6:s6.nx=s5.nx+1:=by rw[qj];rfl
  have NQ:Grown sb.nx sb s6:=lE.trans (zQ.le lE.nx);have v6:=vb.grown NQ (by omega);obtain⟨W,hW⟩:=dO (Value.slice (some ⟨s5.nx,0,none⟩) (ints [t]).length (cq (ints [t]).length 1));rw[<-hW]at ha;have fU:=v6.Fu lZ (o:=0) (v:=W) (by simp) (by rw[hW];rfl) (by rw[hW];rfl);rw[dM]at fU;have Q9:=v6.lt lZ;obtain⟨s7,rF⟩:=dO (s6.wr s.nx (some (ca 38 [W])));rw[<-rF]at fU;have rX:Good s7:=by rw[rF];exact bZ lZ Q9 _
  have n7:s7.nx=s6.nx:=by rw[rF];rfl
  have v7:ay s7 s.nx 38 [W]:=by rw[rF];exact ay.set lZ Q9 38 _
  have l7:s7.h.get s1.nx=some (LB .busy none):=by rw[rF,cj lZ Q9,aC (by omega),NQ.eb _ (by omega)];exact lb
  have Q7:Grown s.nx s s7:=by rw[rF];exact(grb.trans (NQ.le grb.nx)).wr (af _) Q9 _
  have aDS:bE s7 s5.nx 3 1 false (ints [t]):=by
   have hr:bE s6 s5.nx 3 1 false (ints [t]):=by rw[qj];exact bE.new jm 3 1 _
   exact hr.ext (by rw[rF,cj lZ Q9,aC (by omega)])
  obtain⟨s8,Iw⟩:=dO (s7.wr s1.nx (some (LB .ready none)));have xc:cp (aE (n+1) (.func (.yield s1.nx) #[] #[]) [aw (t:Int)] s2) (λr s'=>r= .bool true∧s'=s8):=by refine DJ (X:=cC) (L:=ga) (k:=n) (m:=M) (m1:=M.set 7 (aw (t:Int))) (pend:=none) (by rw[l2,Ji]) adp adq (yH (by kernel_rfl) (by decide)) ?_;unfold ab9;apply ar;simp+decide only[ag];refine⟨dI,by omega,none,by rw[l2,Ji],?_⟩;rw[show(eX.loop .busy none 119 13 247 M.t [7] yj yk)=LB .busy none from by rw[Ji],<-JR];unfold aca;refine bY (ar ?_);simp+decide only[ag,M2,ldb,Zh,ha,fU];refine⟨rX,by omega,.busy,none,by rw[l7,Ji],rfl,?_⟩;rw[Iw,Ji]
  have aDT:=adN (n+1) (s:=s2) (Pst:= λs'=>s'=s8) (hv.grown ng zH) ((hy.ext ng.eb).le ng.nx) xc;obtain⟨r,s9,e9,rfl,hs9⟩:=aDT;subst hs9;have JQ:Good s9:=by rw[Iw];exact bZ rX (by omega) _
  have n8:s9.nx=s7.nx:=by rw[Iw];rfl
  have l8:s9.h.get s1.nx=some (LB .ready none):=by rw[Iw,cj rX (by omega),aU rfl]
  have v8:ay s9 s.nx 38 [W]:=by rw[Iw];exact v7.wr rX (by omega) (by omega) _
  have Jf:Grown s.nx s s9:=by rw[Iw];exact Q7.wr (by omega) (by omega) _
  have Z1:bE s9 s5.nx 3 1 false (ints [t]):=aDS.ext (by rw[Iw,cj rX (by omega),aC (by omega)]);refine bY (AV (fv:= .func (.func 100) ⟨[]⟩ ⟨[a8 bx]⟩) dv M6 (No _ _) ⟨.tuple #[],s9,?_,JQ,by omega,.ready,none,by rw[l8,Ji],(λh=>by cases h),?_⟩)
  ·rw[qw];rw[ee,Ji]at e9;exact e9
  show WC (aE (n+2)) (ah acb (aQ .ret)) _ M _;obtain⟨sf,hsf⟩:=dO (s9.wr s1.nx (some (eX.loop .exhausted none 119 13 247 M.t [7] yj yk)));rw[<-hsf];have hgf:Good sf:=by rw[hsf];exact bZ JQ (by omega) _
  have vf:ay sf s.nx 38 [W]:=by rw[hsf];exact v8.wr JQ (by omega) (by omega) _
  have grf:Grown s.nx s sf:=by rw[hsf];exact Jf.wr (by omega) (by omega) _
  have ax4:bE sf s5.nx 3 1 false (ints [t]):=Z1.ext (by rw[hsf,cj JQ (by omega),aC (by omega)]);have ldf:=vf.ld gu (o:=0) (by simp);simp only[ae]at ldf;apply aJ;simp+decide only[ag,M2,ldf];have hWs:Sl sf.nx sf 3 1 W (ints [t]):=by obtain⟨d1,d2,d3⟩:=j1 (ints [t]).length 1 (by decide);rw[hW];exact Sl.full (ax4.lt hgf) ax4 (by rw[d1];exact af _) (.inr ⟨d2,d3⟩)
  exact aR (b6 (v:=W) (.inr rfl) (by simp+decide only[ag]) ⟨grf,_,_,hW,hWs⟩)
 obtain⟨w,s1,e1,hw⟩:=aos;rw[aKa];refine bG (by simp) λm hm=>?_;have h0:m.get 0=some (.func (.func 100) ⟨[]⟩ ⟨[a8 bx]⟩):=by rw[hm];rfl
 clear hm;unfold c59;apply aJ;simp+decide only[ag];apply aJ;simp+decide only[ag,h0,e1];exact aR (b6 (v:=w) (.inr rfl) (by simp+decide only[ag]) hw)
def Yo (n:Nat) {c:Nat} {cv:Value}:cp (aE (n+3) (dJ 99) [.slice (some ⟨b,0,none⟩) 1 c,cv] s) (λr s'=>r= .tuple #[]∧s'=s):=by
 have aK5:cp (aE (n+1) (dJ 199) [.slice (some ⟨b,0,none⟩) 1 c,aw 0,aw 1,cv] s) (λr s'=>r= .tuple #[]∧s'=s):=by
  rw[aDf];refine bG (by simp) λm hm=>?_;have h1:m.get 1=some (aw 0):=by rw[hm];rfl
  have h2:m.get 2=some (aw 1):=by rw[hm];rfl
  clear hm;unfold axr;apply aJ;simp+decide only[ag,h1,show IntKind.i64.wrap (0+1)=1 from rfl];refine WC.mono (Q:= λx m' s'=>x= .normal∧s'=s) ?_ ?_
  ·refine bY (eW (λm s'=>s'=s∧m.get 2=some (aw 1)∧m.get 8=some (aw 1)) (λ_ _=>0) ⟨rfl,by simp+decide only[ag,h2],by simp+decide only[ag]⟩ (by decide) ?_);rintro m s' ⟨rfl,g2,g8⟩;apply dh;apply ar;have d0:decide ((1:Int)<1)=false:=by decide
   simp+decide only[ag,g2,g8,d0];refine nN (by simp+decide only[ag]) ?_;exact aR ⟨rfl,rfl⟩
  rintro x m s' ⟨rfl,rfl⟩;exact mZ (.inl rfl) ⟨rfl,rfl⟩
 obtain⟨r,sx,e1,rfl,rG⟩:=aK5;rw[rG]at e1;obtain⟨q,eq⟩:=H7 (k:=1) (by decide) (n+1) s;have aK6:cp (aE (n+2) (dJ 159) [.slice (some ⟨b,0,none⟩) 1 c,aw 0,aw 1,aw q,cv] s) (λr s'=>r= .tuple #[]∧s'=s):=by
  rw[aDe];refine bG (by simp) λm hm=>?_;have h0:m.get 0=some (.slice (some ⟨b,0,none⟩) 1 c):=by rw[hm];rfl
  have h1:m.get 1=some (aw 0):=by rw[hm];rfl
  have h2:m.get 2=some (aw 1):=by rw[hm];rfl
  have h4:m.get 4=some cv:=by rw[hm];rfl
  clear hm;unfold axq;apply aJ;simp+decide only[ag];apply aJ;simp+decide only[ag];refine WC.mono (Q:= λx m' s'=>x= .ret∧s'=s) ?_ ?_
  ·refine bY (eW (λm s'=>s'=s∧m.get 0=some (.slice (some ⟨b,0,none⟩) 1 c)∧m.get 1=some (aw 0)∧m.get 2=some (aw 1)∧m.get 4=some cv) (λ_ _=>0) ⟨rfl,by simp+decide only[ag,h0],by simp+decide only[ag,h1],by simp+decide only[ag,h2],by simp+decide only[ag,h4]⟩ (by decide) ?_);rintro m s' ⟨rfl,g0,g1,g2,g4⟩;apply bY;apply aJ;simp+decide only[ag,g1,g2,show IntKind.i64.wrap (1-0)=1 from rfl];apply dh;apply ar;have d0:decide ((1:Int)<=12)=true:=by decide
   simp+decide only[ag,d0];refine iP (by simp+decide only[ag]) ?_;apply aJ;simp+decide only[ag,g0,g1,g2,g4,e1];exact aR ⟨rfl,rfl⟩
  rintro x m s' ⟨rfl,rfl⟩;exact mZ (.inr rfl) ⟨rfl,rfl⟩
 obtain⟨r,sx,e2,rfl,rG⟩:=aK6;rw[rG]at e2;rw[aKb];refine bG (by simp) λm hm=>?_;have h0:m.get 0=some (.slice (some ⟨b,0,none⟩) 1 c):=by rw[hm];rfl
 have h1:m.get 1=some cv:=by rw[hm];rfl
 clear hm;have hcv:xI (.int .u64) (aw 1)=some (.int .u64 1):=rfl;have eq:aE (n+2) (dJ 160) [.int .u64 1] s= .val (aw q) s:=eq;unfold c99;apply aJ;simp+decide only[ag,h0];apply ar;simp+decide only[ag,h0,h1,hcv,Int.natCast_one,eq,e2];exact mZ (.inl rfl) ⟨rfl,rfl⟩
def Qh (n:Nat) {bx:Nat} {cv:Value} (hg:Good s) (hv:ay s bx 38 [y]) (hy:Sl s.nx s 3 1 y (ints [t])):
  cp (aE (n+5) (dJ 47) [.func (.func 100) ⟨[]⟩ ⟨[a8 bx]⟩,cv] s) (λw s'=>Grown s.nx s s'∧(∃b c,w= .slice (some ⟨b,0,none⟩) 1 c)∧Sl s'.nx s' 3 1 w (ints [t])):=by
 obtain⟨w,s1,e1,fV,b,c,hw,hws⟩:=Qg n hg hv hy;obtain⟨r,sx,e2,rfl,rG⟩:=Yo (n+1) (s:=s1) (b:=b) (c:=c) (cv:=cv);rw[rG,<-hw]at e2;rw[aJ8];refine bG (by simp) λm hm=>?_;have h0:m.get 0=some (.func (.func 100) ⟨[]⟩ ⟨[a8 bx]⟩):=by rw[hm];rfl
 have h1:m.get 1=some cv:=by rw[hm];rfl
 clear hm;unfold c47;apply aJ;simp+decide only[ag];apply aJ;simp+decide only[ag,h0,e1];apply aJ;simp+decide only[ag,h1,e2];apply aJ;simp+decide only[ag];exact aR (b6 (v:=w) (.inr rfl) (by simp+decide only[ag]) ⟨fV,⟨b,c,hw⟩,hws⟩)
def Yp (n:Nat) (hg:Good s) (hc:y.cells= #[y]):cp (aE (n+1) (dJ 48) [y] s) (λw s'=>w= .func (.func 100) ⟨[]⟩ ⟨[a8 s.nx]⟩∧s'=s.add (ca 38 [y])):=by
 rw[aJ9];refine bG (by simp) λm hm=>?_;have h0:m.get 0=some y:=by rw[hm];rfl
 clear hm;unfold c48;apply aJ;simp+decide only[ag,h0,ez hg];rw[hc,show(#[y]:Array Value).toList= [y]from rfl];apply aJ;simp+decide only[ag,jz];exact aR (b6 (v:= .func (.func 100) ⟨[]⟩ ⟨[a8 s.nx]⟩) (.inr rfl) (by simp+decide only[ag]) ⟨rfl,rfl⟩)
def du (f:Nat) (args:LVal) (W:AS):Out:=lO qP f args W
def kW (v:Value) (k:Nat) (o:Out) (f:AS->Bool):Bool:=match o with| .val u s=>aD (qQ 12 v u) (aD (Nat.beq s.nx k) (f s) false) false|_=>false
def thenS (k:Nat) (o:Out) (f:AS->Bool):Bool:=match o with| .val (.string b) s=>aD (Nat.ble (len b.data.toList) 100) (aD (Nat.beq s.nx k) (f s) false) false|_=>false
def ux {a b:Bool} (h:aD a b false=true):a=true∧b=true:=by cases a<;>simp_all[aD]
def gG {o:Out} {f:AS->Bool} (h:kW v k o f=true):∃s,o= .val v s∧s.nx=k∧f s=true:=by
 unfold kW at h;split at h
 ·rename_i u s;obtain⟨h1,h⟩:=ux h;obtain⟨h2,h⟩:=ux h;exact⟨s,by rw[uT _ _ _ h1],au h2,h⟩
 ·cases h
def zf {o:Out} {f:AS->Bool} (h:thenS k o f=true):∃(T:List UInt8) (s:AS),o= .val (.string ⟨⟨T⟩⟩) s∧T.length<=100∧s.nx=k∧f s=true:=by
 unfold thenS at h;split at h
 ·rename_i b s;obtain⟨h1,h⟩:=ux h;obtain⟨h2,h⟩:=ux h;rw[dQ]at h1;exact⟨b.data.toList,s,rfl,aO h1,au h2,h⟩
 ·cases h
def fF (b c:Nat):Value:= .slice (some ⟨b,0,none⟩) 1 c
def eL (d v vc k kc:Nat):LVal:= [.bool false,.slice none 0 0,fF d 514,fF v vc,fF k kc]
def jb (b:Bool) (n d:Nat):LVal:= [.bool b,fF n 514,fF d 514]
def cI (b:Bool):Int:=if b then-1 else 1
def nO (t:Nat) (b:Bool):Bool:=
 kW (.agg ⟨eL 0 1 513 2 513⟩) 5 (du 16 [aw (t:Int)] W0) λW1=>
 kW (.agg ⟨jb b 5 6⟩) 7 (du 54 [aw (cI b)] W1) λW2=>
 kW (.agg ⟨eL 7 8 514 9 518⟩) 12 (du 77 [.agg ⟨eL 0 1 513 2 513⟩,.agg ⟨jb b 5 6⟩] W2) λW3=>
 aD (Gx W3 8 3 1 [[aw (t:Int)]]) (aD (Gx W3 9 51 3 [jb b 10 11])
 (kW (.agg ⟨[.bool false,.slice none 0 0,fF 12 514,.slice none 0 0,.slice none 0 0]⟩) 13 (du 53 [.agg ⟨[.bool false,.slice none 0 0,fF 7 514]⟩] W3) λW4=>
 kW (.agg ⟨eL 13 14 513 15 513⟩) 18 (du 16 [aw (t:Int)] W4) λW5=>
 kW (.agg ⟨eL 18 19 514 20 518⟩) 23 (du 77 [.agg ⟨eL 13 14 513 15 513⟩,.agg ⟨jb b 10 11⟩] W5) λW6=>
 kW (.agg ⟨eL 24 25 514 26 518⟩) 29 (du 85 [.slice (some ⟨23,0,none⟩) 2 (bH 2)] (W6.add (.cells (rowOf [[.bool false,.slice none 0 0,fF 12 514,.slice none 0 0,.slice none 0 0],eL 18 19 514 20 518]) 5 2 false 54))) λW7=>
 kW (.agg ⟨eL 29 30 514 31 518⟩) 34 (du 44 [.agg ⟨eL 24 25 514 26 518⟩] W7) λW8=>
 aD (Gx W8 30 3 1 [[aw (t:Int)]])
 (kW (.agg ⟨[.bool false,.slice none 0 0]⟩) 34 (du 46 [.agg ⟨[.bool false,.slice none 0 0,fF 29 514]⟩] W8) λW9=>
 kW (.agg ⟨[.bool false,.slice none 0 0,fF 34 514]⟩) 35 (du 45 [.agg ⟨[.bool false,.slice none 0 0]⟩] W9) λW10=>
 kW (.agg ⟨jb b 35 36⟩) 37 (du 50 [.agg ⟨eL 34 30 514 31 518⟩,aw (t:Int)] W10) λW12=>
 kW (aw (cI b)) 37 (du 43 [.agg ⟨jb b 35 36⟩] W12) λW13=>
 (match b with
 |false=>
  thenS 37 (du 106 [.agg ⟨eL 34 30 514 31 518⟩] W13) λW14=>
  kW (.agg ⟨jb false 37 38⟩) 39 (du 50 [.agg ⟨eL 34 30 514 31 518⟩,aw (t:Int)] W14) λW15=>
  thenS 39 (du 108 [.agg ⟨jb false 37 38⟩] W15) λW16=>
  thenS 39 (du 108 [.agg ⟨[.bool false,.slice none 0 0,fF 34 514]⟩] W16) λ_=>true
 |true=>
  kW (.agg ⟨jb false 37 38⟩) 39 (du 54 [aw 1] W13) λW14=>
  kW (.agg ⟨[.bool false,fF 39 514,fF 40 514,.slice none 0 0,.slice none 0 0]⟩) 41 (du 53 [.agg ⟨jb false 37 38⟩] W14) λW15=>
  kW (.agg ⟨[.bool false,fF 41 514,fF 42 514,fF 43 514,fF 44 518]⟩) 47 (du 52 [.agg ⟨[.bool false,fF 39 514,fF 40 514,.slice none 0 0,.slice none 0 0]⟩,.agg ⟨eL 34 30 514 31 518⟩] W15) λW16=>
  thenS 47 (du 106 [.agg ⟨[.bool false,fF 41 514,fF 42 514,fF 43 514,fF 44 518]⟩] W16) λW17=>
  kW (.agg ⟨jb false 47 48⟩) 49 (du 50 [.agg ⟨[.bool false,fF 41 514,fF 42 514,fF 43 514,fF 44 518]⟩,aw (t:Int)] W17) λW18=>
  thenS 49 (du 108 [.agg ⟨jb false 47 48⟩] W18) λW19=>
  thenS 49 (du 108 [.agg ⟨[.bool false,fF 41 514,fF 42 514]⟩] W19) λ_=>true)) false) false) false
