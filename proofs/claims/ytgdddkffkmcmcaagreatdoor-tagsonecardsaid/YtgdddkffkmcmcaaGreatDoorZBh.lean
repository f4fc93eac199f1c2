import Derived.Test.YtgdddkffkmcmcaaGreatDoorZBg
/- Part of the proof that TagsOne answers true. -/
set_option linter.all false
set_option maxRecDepth 100000
noncomputable section
namespace Go.Eng
open Go Go.Proofs Go.Proofs.Tryz
variable {s s' s0:AS} {v u y x v' x':Value} {n t b i k f a r p q j et ck nt kt e ty off:Nat} {w w':World} {o:Option Nat} {l vs l':LVal} {rows R els:List LVal} {tm tm':T Value} {es:List (Value×Value×Nat)} {ts:Array TypeId} {lo:Lo} {X:QJ} {P:Program} {F:Fence} {S:List Nat} {ρ ρ':Ren} {m:TM n} {σ:List cx} {φ fj:List dA} {d d':LV}
def ad8 {c:Nat×Bool×List UInt8×List UInt8} (hc:c∈consts) (b:Bool):p7 (decide (c.1=2)) (cu c.1 c.2.1 c.2.2.1 c.2.2.2) b=true:=by
 simp only[consts,bu,aX,db]at hc;rcases hc with rfl|rfl|rfl|rfl|rfl|rfl|rfl|rfl|rfl|rfl|rfl<;>cases b
 ·exact ajd
 ·exact aje
 ·exact ajf
 ·exact ajg
 ·exact ajh
 ·exact aji
 ·exact ajj
 ·exact ajk
 ·exact ajl
 ·exact ajm
 ·exact ajn
 ·exact ajo
 ·exact ajp
 ·exact ajq
 ·exact ajr
 ·exact ajs
 ·exact ajt
 ·exact aju
 ·exact ajv
 ·exact ajw
 ·exact ad6
 ·exact ad7
structure abr (any:Bool) (vc:LVal) (t:Nat) (b:Bool) (U3:AS):Prop where
 k3:U3.nx=12
 r8:bE U3 8 3 1 false [[aw (t:Int)]]
 r9:bE U3 9 51 3 false [jb b 10 11]
 run:∃(U4 U5 U6 U7 U8 U9 BO U11:AS) (A6 A7 A8 A9 Fy:LVal) (sg:Int),
  (du 53 [.agg ⟨[.bool false,.slice none 0 0,fF 7 514]⟩] U3= .val (.agg ⟨cL 12⟩) U4∧U4.nx=13)∧
  (du 16 [aw (t:Int)] U4= .val (.agg ⟨eL 13 14 513 15 513⟩) U5∧U5.nx=18)∧
  (du 84 [.agg ⟨vc⟩] U5= .val (.agg ⟨A6⟩) U6∧∀x∈A6,ui U6.nx x=true)∧
  (du 45 [.agg ⟨A6⟩] U6= .val (.agg ⟨A7⟩) U7∧∀x∈A7,ui U7.nx x=true)∧
  (du 53 [.agg ⟨A7⟩] U7= .val (.agg ⟨A8⟩) U8∧A8.length=5∧∀x∈A8,ui U8.nx x=true)∧
  (du 77 [.agg ⟨A8⟩,.agg ⟨jb b 10 11⟩] U8= .val (.agg ⟨A9⟩) U9∧A9.length=5∧∀x∈A9,ui U9.nx x=true)∧
  (du 85 [.slice (some ⟨U9.nx,0,none⟩) 2 (bH 2)] (U9.add (.cells (rowOf [cL 12,A9]) 5 2 false 54))= .val (.agg ⟨Fy⟩) BO∧Fy.length=5∧∀x∈Fy,ui BO.nx x=true)∧
  Fy[3]? =some (.slice none 0 0)∧(du 43 [.agg ⟨Fy.take 3⟩] BO= .val (aw sg) U11∧(any=true∨sg<=0))
def Ng {o:bQ} (h:AZ o=true):o=some (.slice none 0 0):=by
 unfold AZ at h;split at h
 ·rfl
 ·cases h
def ajx {any:Bool} {o:Out} (h:abq any o=true):∃a s,o= .val (aw a) s∧(any=true∨a<=0):=by
 unfold abq at h;split at h
 ·rename_i a s;refine⟨a,s,rfl,?_⟩;cases any with
  |true=>exact .inl rfl
  |false=>exact .inr (sQ h)
 ·cases h
def ad9 {any:Bool} {vc:LVal} {b:Bool} (h:p7 any vc b=true):∃U1 U2 U3:AS,(du 16 [aw 0] W0= .val (.agg ⟨eL 0 1 513 2 513⟩) U1∧U1.nx=5)∧(du 54 [aw (cI b)] U1= .val (.agg ⟨jb b 5 6⟩) U2∧U2.nx=7)∧du 77 [.agg ⟨eL 0 1 513 2 513⟩,.agg ⟨jb b 5 6⟩] U2= .val (.agg ⟨eL 7 8 514 9 518⟩) U3∧abr any vc 0 b U3:=by unfold p7 at h;obtain⟨U1,e1,k1,h⟩:=gG h;obtain⟨U2,e2,k2,h⟩:=gG h;obtain⟨U3,e3,k3,h⟩:=gG h;obtain⟨r8,h⟩:=ux h;obtain⟨r9,h⟩:=ux h;obtain⟨U4,e4,k4,h⟩:=gG h;obtain⟨U5,e5,k5,h⟩:=gG h;obtain⟨A6,U6,e6,l6,o6,h⟩:=B6 h;obtain⟨A7,U7,e7,l7,o7,h⟩:=B6 h;obtain⟨A8,U8,e8,l8,o8,h⟩:=B6 h;obtain⟨A9,U9,e9,l9,o9,h⟩:=B6 h;obtain⟨Fy,BO,e10,l10,o10,h⟩:=B6 h;obtain⟨hn,h⟩:=ux h;obtain⟨sg,U11,e11,hsg⟩:=ajx h;exact⟨U1,U2,U3,⟨e1,k1⟩,⟨e2,k2⟩,e3,k3,qf r8,qf r9,U4,U5,U6,U7,U8,U9,BO,U11,A6,A7,A8,A9,Fy,sg,⟨e4,k4⟩,⟨e5,k5⟩,⟨e6,o6⟩,⟨e7,o7⟩,⟨e8,l8,o8⟩,⟨e9,l9,o9⟩,⟨e10,l10,o10⟩,Ng hn,e11,hsg⟩
def K0 {r:Value->bQ}:∀ {l:LVal},(∀v∈l,r v=some v)->dj r l=some l
 | [],_=>rfl
 |v::l,h=>by show ob (r v) (λv'=>ob (dj r l) λl'=>some (v'::l'))=_;rw[h v (by simp),cg,K0 λx hx=>h x (by simp[hx]),cg]
def aea (ρ:Nat->Nat) (K tag:Nat) (b:Bool) (num str:List UInt8):oF ρ K 12 (.agg ⟨cu tag b num str⟩)=some (.agg ⟨cu tag b num str⟩):=by
 have h:dj (oF ρ K 11) (cu tag b num str)=some (cu tag b num str):=K0 λv hv=>by
  simp only[cu,bu,aX,db]at hv;rcases hv with rfl|rfl|rfl|rfl|rfl|rfl|rfl
  ·exact fI .i64 (tag:Int)
  ·cases b<;>rfl
  ·rfl
  ·rfl
  ·rfl
  ·rfl
  ·exact fI .i64 0
 show ob (dj (oF ρ K 11) (cu tag b num str)) (λl=>some (Value.agg ⟨l⟩))=_;rw[h,cg]
def aeb (n:Nat) (hg:Good s) (h:LS s d σ φ) {ρ:Nat->Nat} {U3:AS} {any:Bool} {tag:Nat} {bb:Bool} {num str:List UInt8} {b:Bool} (RT:Good U3) (he:Bf ρ U3 s) (ht:t<σ.length) (hk:σ[t].kind=2) (hv0:σ[t].v=cu tag bb num str) (dK:abr any (cu tag bb num str) t b U3):
  cp (aE (n+3) (dJ 42) [a8 d.lp,.agg ⟨(eL 7 8 514 9 518).map (eC ρ)⟩] s) (λr s'=>∃(ρ':Nat->Nat) (BO U11:AS) (Fy:LVal) (sg:Int),r= .agg ⟨Fy.map (eC ρ')⟩∧Bf ρ' BO s'∧Good BO∧Grown s.nx s s'∧(∀i,i<BO.nx->i<12∧ρ' i=ρ i∨s.nx<ρ' i)∧Fy.length=5∧(∀x∈Fy,ui BO.nx x=true)∧Fy[3]? =some (.slice none 0 0)∧(du 43 [.agg ⟨Fy.take 3⟩] BO= .val (aw sg) U11∧(any=true∨sg<=0))):=by
 obtain⟨k3,r8,r9,U4,U5,U6,U7,U8,U9,BO,U11,A6,A7,A8,A9,Fy,sg,⟨f53,k4⟩,⟨f16,k5⟩,⟨f84,o6⟩,⟨f45,o7⟩,⟨apb,l8,o8⟩,⟨f77,l9,o9⟩,⟨f85,l10,o10⟩,I5,f43,hsg⟩:=dK;rw[axl];refine bG (by simp) λm hm=>?_;have h0:m.get 0=some (a8 d.lp):=by rw[hm];rfl
 have h1:m.get 1=some (.agg ⟨(eL 7 8 514 9 518).map (eC ρ)⟩):=by rw[hm];rfl
 clear hm;obtain⟨X,hX⟩:∃X,X=(eL 7 8 514 9 518).map (eC ρ):=⟨_,rfl⟩
 have hXe:X= [.bool false,.slice none 0 0,fF (ρ 7) 514,fF (ρ 8) 514,fF (ρ 9) 518]:=by rw[hX];rfl
 have hXl:X.length=5:=by rw[hXe];rfl
 rw[<-hX]at h1;obtain⟨sA,qS⟩:=dO (s.add (ca 54 X));have Ja:=cz qS hg;have nA:sA.nx=s.nx+1:=by rw[qS];rfl
 have vA:=jS qS hg;have zR:=cM qS hg;obtain⟨sB,BM⟩:=dO (sA.add (ca 54 zL));have Jc:=cz BM Ja;have nB:sB.nx=s.nx+2:=by rw[BM,ep,nA]
 have vB:ay sB (s.nx+1) 54 zL:=by rw[BM,<-nA];exact ay.new Ja 54 _
 have Z4:=cM BM Ja;have grB:Grown s.nx s sB:=zR.trans (Z4.le zR.nx);have vAB:=vA.grown Z4 (by omega);obtain⟨km,vp,uh⟩:=he.grown RT grB;have lC:=vAB.eA o0 pb (o:=0) (by omega) (by decide);rw[bK,hXe,show([Value.bool false,.slice none 0 0,fF (ρ 7) 514,fF (ρ 8) 514,fF (ρ 9) 518].take 3)= [Value.bool false,.slice none 0 0,fF (ρ 7) 514]from rfl]at lC;have m53:oF km U3.nx 12 (.agg ⟨[.bool false,.slice none 0 0,fF 7 514]⟩)=some (.agg ⟨[.bool false,.slice none 0 0,fF (ρ 7) 514]⟩):=by rw[dR (UU (by omega))];show some (Value.agg ⟨[.bool false,.slice none 0 0,fF (km 7) 514]⟩)=_;rw[uh 7 (by omega)]
 obtain⟨oM,v,s1,e53,hv,Fp,Z5,fV,zO,_,Nv⟩:=apart (n+1) (by rfl) L1 RT Jc vp (oD m53) f53;rw[dR (xY (by omega))]at hv;have hv:=(bh hv).symm;subst hv;have dv:=fV.bt;have n1:=fV.nx;obtain⟨C4,hC4⟩:∃C4,C4=(cL 12).map (eC oM):=⟨_,rfl⟩
 have Db:C4= [.bool false,.slice none 0 0,fF (oM 12) 514,.slice none 0 0,.slice none 0 0]:=by rw[hC4];rfl
 rw[<-hC4]at e53;obtain⟨sC,AA⟩:=dO (s1.add (ca 54 zL));have Fv:=cz AA dv;have nC:sC.nx=s1.nx+1:=by rw[AA];rfl
 have vC:=jS AA dv;have grC:=cM AA dv;have stD:=vC.kU Fv (us:=C4) (k:=5) (by rw[Db];rfl) (by rw[Db];rfl) (by decide) (by rw[Db];rfl);have hlC:=vC.lt Fv;obtain⟨sD,Zl⟩:=dO (sC.wr s1.nx (some (ca 54 C4)));rw[<-Zl]at stD;have Bg:Good sD:=by rw[Zl];exact bZ Fv hlC _
 have nD:sD.nx=s1.nx+1:=by rw[Zl];exact nC
 have vD:ay sD s1.nx 54 C4:=by rw[Zl];exact ay.set Fv hlC 54 _
 have grD:Grown s1.nx s1 sD:=by rw[Zl];exact grC.wr (af _) hlC _
 have Rz:Grown sB.nx sB sD:=fV.trans (grD.le fV.nx);have Dc:Grown s.nx s sD:=grB.trans (Rz.le grB.nx);have xD:=vAB.grown Rz (by omega);have zD:=vB.grown Rz (by omega);obtain⟨rW,Xq,LA⟩:=Fp.grown Z5 grD;have Z1:bE sD (ρ 8) 3 1 false [[aw (t:Int)]]:=by
  have fL:bE s (ρ 8) 3 1 false [[aw (t:Int)]]:=he.row r8 rfl λj hj Vg=>by simp at hj;subst hj;exact oD (nY .i64 (t:Int))
  exact fL.ext (Dc.eb _ (he.lt 8 (by omega)))
 have aoH:∀sx,Grown s.nx s sx->bE sx (ρ 9) 51 3 false [(jb b 10 11).map (eC ρ)]:= λsx rG=>by
  have fL:bE s (ρ 9) 51 3 false [(jb b 10 11).map (eC ρ)]:=he.row r9 rfl λj hj Vg=>by simp at hj;subst hj;exact tn (gL (by omega) (by omega))
  exact fL.ext (rG.eb _ (he.lt 9 (by omega)))
 have sl8:Sl sD.nx sD 3 1 (fF (ρ 8) 514) (ints [t]):=Sl.full (c:=514) (R:=ints [t]) (by have:=he.lt 8 (by omega);have:=Dc.nx;omega) Z1 (by simp[ints]) (.inr ⟨by decide,by decide⟩);have sl9:∀sx,Good sx->Grown s.nx s sx->Sl sx.nx sx 51 3 (fF (ρ 9) 518) [(jb b 10 11).map (eC ρ)]:= λsx hgx rG=>Sl.full (c:=518) (R:= [(jb b 10 11).map (eC ρ)]) (by have:=he.lt 9 (by omega);have:=rG.nx;omega) (aoH sx rG) (by simp) (.inr ⟨by decide,by decide⟩);have ld8:=xD.ld gu (o:=3) (by omega);have ld9:=xD.ld zF (o:=4) (by omega);simp only[hXe,ae,aZ]at ld8 ld9;have len8:dH [fF (ρ 8) 514]=some (aw 1):=rfl;have aoI:dH [fF (ρ 9) 518]=some (aw 1):=rfl;have ix8:=sl8.ix (P:=prog) (t:=38) (i:=0) (by simp[ints]) (k:= .i64);have lt8:=sl8.ld bM (i:=0) (by simp[ints]) (gJ (l:= [t]) (i:=0) (by simp));simp only[aW,ae,cO]at ix8 lt8;have aoJ:=h.ext hg Dc;obtain⟨r,sx,e33,rfl,rG⟩:=pX n Bg aoJ ht;rw[rG]at e33;obtain⟨Fs,v,s2,Zm,hv,he4,Z6,iE,RR,_,hx4⟩:=apart (n+1) (by rfl) L0 Z5 Bg Xq (oD (nY .i64 (t:Int))) f16;rw[dR (dY (by omega) (by omega) (by omega))]at hv;have hv:=(bh hv).symm;subst hv;have dI:=iE.bt;have n2:=iE.nx;obtain⟨C5,hC5⟩:∃C5,C5=(eL 13 14 513 15 513).map (eC Fs):=⟨_,rfl⟩
 have Lp:C5= [.bool false,.slice none 0 0,fF (Fs 13) 514,fF (Fs 14) 513,fF (Fs 15) 513]:=by rw[hC5];rfl
 rw[<-hC5]at Zm;obtain⟨sE,CW⟩:=dO (s2.add (ca 54 zL));have EE:=cz CW dI;have nE:sE.nx=s2.nx+1:=by rw[CW];rfl
 have vE:=jS CW dI;have grE:=cM CW dI;have stF:=vE.kU EE (us:=C5) (k:=5) (by rw[Lp];rfl) (by rw[Lp];rfl) (by decide) (by rw[Lp];rfl);have hlE:=vE.lt EE;obtain⟨sF,BN⟩:=dO (sE.wr s2.nx (some (ca 54 C5)));rw[<-BN]at stF;have hgF:Good sF:=by rw[BN];exact bZ EE hlE _
 have nF:sF.nx=s2.nx+1:=by rw[BN];exact nE
 have vF:ay sF s2.nx 54 C5:=by rw[BN];exact ay.set EE hlE 54 _
 have grF:Grown s2.nx s2 sF:=by rw[BN];exact grE.wr (af _) hlE _
 have WU:Grown sD.nx sD sF:=iE.trans (grF.le iE.nx);have RA:Grown s.nx s sF:=Dc.trans (WU.le Dc.nx);have Z7:=h.ext hg RA;have Z8:=Z7.own.ld eU (o:=0) (by simp);simp only[ae]at Z8;obtain⟨r,s3,e34,rfl,iZ⟩:=vU n hgF Z7.ts ht;have gQ:=iZ.bt;have n3:=iZ.nx;have WV:Grown s2.nx s2 s3:=grF.trans (iZ.le grF.nx);have oB:Grown s.nx s s3:=RA.trans (iZ.le RA.nx);have dk:decide ((σ[t].kind:Int)=2)=true:=aL (by omega);have agf:=h.ext hg oB;have ayp:=agf.own.ld eU (o:=0) (by simp);simp only[ae]at ayp;obtain⟨_,v1,e35,rfl,aal⟩:=Pn n gQ agf.ts ht;rw[hv0]at e35;have aLC:Grown s2.nx s2 v1:=WV.trans (aal.le WV.nx);obtain⟨ρa,Xg,hra⟩:=he4.grown Z6 aLC;obtain⟨ρb,v,v2,e84,hv,heb,af8,agh,hrb,nb,hxb⟩:=apart (n+1) (by rfl) atd Z6 aal.bt Xg (oD (aea _ _ _ _ _ _)) f84;rw[dR o6]at hv;have hv:=(bh hv).symm;subst hv;obtain⟨ρc,v,v3,e45,hv,hec,RC,agi,hrc,nc,hxc⟩:=apart (n+1) (by rfl) acr af8 agh.bt heb (oD (dR o6)) f45;rw[dR o7]at hv;have hv:=(bh hv).symm;subst hv;obtain⟨ρd,v,v4,agb,hv,hed,aag,aLD,Dm,nd,Ve⟩:=apart (n+1) (by rfl) L1 RC agi.bt hec (oD (dR o7)) apb;rw[dR o8]at hv;have hv:=(bh hv).symm;subst hv;obtain⟨C5',aam⟩:=dO (A8.map (eC ρd));have aoM:C5'.length=5:=by rw[aam,dP,l8]
 have aLE:cP C5'=true:=by rw[aam];refine om λv hv=>?_;obtain⟨u,hu,rfl⟩:=List.mem_map.1 hv;exact(lD (o8 u hu)).2
 rw[<-aam]at agb;have Lr:Grown s3.nx s3 v4:=aal.trans ((agh.trans ((agi.trans (aLD.le agi.nx)).le agh.nx)).le aal.nx);have aan:=Lr.bt;have ayq:=(vF.grown iZ (by omega)).grown Lr (by omega);have stP:=ayq.kU aan (us:=C5') (k:=5) (by rw[Lp];exact aoM) aoM.symm (by decide) aLE;have hlP:=ayq.lt aan;obtain⟨sP,hsP⟩:=dO (v4.wr s2.nx (some (ca 54 C5')));rw[<-hsP]at stP;have hgP:Good sP:=by rw[hsP];exact bZ aan hlP _
 have nP:sP.nx=v4.nx:=by rw[hsP];rfl
 have aoK:ay sP s2.nx 54 C5':=by rw[hsP];exact ay.set aan hlP 54 _
 have aLF:∀q,q≠s2.nx->sP.h.get q=v4.h.get q:= λq hq=>by rw[hsP,cj aan hlP,aC hq]
 have aLG:Grown s2.nx s2 sP:=by rw[hsP];exact(WV.trans (Lr.le WV.nx)).wr (af _) hlP _
 have aao:Grown sD.nx sD sP:=iE.trans (aLG.le iE.nx);have apf:Grown s.nx s sP:=Dc.trans (aao.le Dc.nx);have up:∀i,13<=i->sD.nx<=ρd i∧(i<U8.nx->ρd i≠s2.nx):= λi hi=>by
  have m1:=aal.nx;have m2:=agh.nx;have m3:=agi.nx;by_cases i1:i<U5.nx
  ·have e:ρd i=Fs i:=by rw[Dm i (by omega),hrc i (by omega),hrb i i1,hra i i1]
   rw[e];have:=hx4 i (by omega);have:=he4.lt i i1;exact⟨by omega,λ_=>by omega⟩
  ·by_cases i2:i<U6.nx
   ·have e:ρd i=ρb i:=by rw[Dm i (by omega),hrc i (by omega)]
    rw[e];have:=hxb i (by omega);exact⟨by omega,λ_=>by omega⟩
   ·by_cases i3:i<U7.nx
    ·have e:ρd i=ρc i:=by rw[Dm i (by omega)]
     rw[e];have:=hxc i (by omega);exact⟨by omega,λ_=>by omega⟩
    ·have:=Ve i (by omega);exact⟨by omega,λ_=>by omega⟩
 have low:∀i,i<13->ρd i=rW i:= λi hi=>by rw[Dm i (by omega),hrc i (by omega),hrb i (by omega),hra i (by omega),RR i (by omega)]
 have r30:∀i,i<12->rW i=ρ i:= λi hi=>by rw[LA i (by omega),zO i (by omega),uh i (by omega)]
 have e12:rW 12=oM 12:=LA 12 (by omega);have q12:sB.nx<=rW 12∧rW 12<s1.nx:=by rw[e12];exact⟨Nv 12 (by omega),Fp.lt 12 (by omega)⟩
 obtain⟨ρ5,he5,I4⟩:=hed.frame aag (s':=sP) (by omega) hgP (λi hi=>aLF _ (by
  by_cases aLH:13<=i
  ·exact(up i aLH).2 hi
  ·rw[low i (by omega)];by_cases aLI:i<12
   ·rw[r30 i aLI];have:=he.lt i (by omega);omega
   ·have:i=12:=by omega
    subst this;omega))
 have RB:=(vD.grown aao (by omega))
 have x3:=(xD.grown aao (by omega))
 have aoL:=(zD.grown aao (by omega))
 have aLa:C4.length=5:=by rw[Db];rfl
 have OB:=RB.eA fp ft (o:=0) (by omega) (by decide);have OC:=aoK.eA fp ft (o:=0) (by omega) (by decide);rw[bK,aP (by omega)]at OB OC;have Z9:=x3.ld zF (o:=4) (by omega);simp only[hXe,ae,aZ]at Z9;have s93:=sl9 sP hgP apf;have ix9:=s93.ix (P:=prog) (t:=52) (i:=0) (by simp) (k:= .i64);have lq9:=s93.eA o0 pb (by decide) (i:=0) (by simp);simp only[aW,ae]at ix9 lq9;have nU8:13<=U8.nx:=by omega
 have r50:∀i,i<12->ρ5 i=ρ i:= λi hi=>by rw[I4 i (by omega),low i (by omega),r30 i hi]
 have aoN:oF ρ5 U8.nx 12 (.agg ⟨A8⟩)=some (.agg ⟨C5'⟩):=by rw[dR o8,aam,fz (K:=U8.nx) (λi hi=>I4 i hi) o8]
 have aoO:oF ρ5 U8.nx 12 (.agg ⟨jb b 10 11⟩)=some (.agg ⟨(jb b 10 11).map (eC ρ)⟩):=by rw[dR (gL (by omega) (by omega)),fz (K:=12) r50 (gL (by omega) (by omega))]
 obtain⟨Ra,v,s4,e77,hv,he6,af9,nI,Q8,n6,hx6⟩:=apart (n+1) (by rfl) L2 aag hgP he5 (Rw aoN aoO) f77;rw[dR o9]at hv;have hv:=(bh hv).symm;subst hv;have iI:=nI.bt;have n4:=nI.nx;obtain⟨C6,hC6⟩:=dO (A9.map (eC Ra));have aoP:C6.length=5:=by rw[hC6,dP,l9]
 rw[<-hC6]at e77;have hb:=MD (t:=190) (v:= .agg ⟨C4⟩) (u:= .agg ⟨C6⟩) iI Ih K4 (by decide) (by rw[dn,Db];rfl) (by rw[dn];exact aoP);rw[dn,dn]at hb;obtain⟨sG,hsG⟩:=dO (s4.row 54 5 [C4,C6]);rw[<-hsG]at hb;have grG:Grown s4.nx s4 sG:=by rw[hsG];exact(Grown.refl iI _).row (af _) _ _ _
 have hgG:=grG.bt;have nG:sG.nx=s4.nx+1:=by rw[hsG];rfl
 have aoQ:kr (oF Ra U9.nx 12) (.cells (rowOf [cL 12,A9]) 5 2 false 54)=some (.cells (rowOf [C4,C6]) 5 2 false 54):=by
  refine Ps ?_ ?_
  ·rw[tn (xY (by omega)),hC4,fz (K:=13) (λi hi=>by rw[Q8 i (by omega),I4 i (by omega),low i (by omega),LA i (by omega)]) (xY (by omega))]
  ·rw[tn o9,hC6]
 obtain⟨Ny,he7,Xr,aaa⟩:=he6.add af9 iI aoQ;have aoR:Bf Ny (U9.add (.cells (rowOf [cL 12,A9]) 5 2 false 54)) sG:=by rw[hsG];exact he7
 have aEg:=fW af9 (.cells (rowOf [cL 12,A9]) 5 2 false 54);have k9':(U9.add (.cells (rowOf [cL 12,A9]) 5 2 false 54)).nx=U9.nx+1:=ep _ _;have m85:oF Ny (U9.add (.cells (rowOf [cL 12,A9]) 5 2 false 54)).nx 12 (.slice (some ⟨U9.nx,0,none⟩) 2 (bH 2))=some (.slice (some ⟨s4.nx,0,none⟩) 2 (bH 2)):=by rw[MB (by rw[k9'];exact aL (by omega))];show some (Value.slice (some ⟨Ny U9.nx,0,none⟩) 2 (bH 2))=_;rw[aaa]
 obtain⟨LD,v,s5,e85,hv,he8,BH,lE,hr8,n8,hx8⟩:=apart (n+1) (by rfl) acu aEg hgG aoR (oD m85) f85;rw[dR o10]at hv;have hv:=(bh hv).symm;subst hv;have jm:=lE.bt;obtain⟨C7,hC7⟩:=dO (Fy.map (eC LD));have Lq:C7.length=5:=by rw[hC7,dP,l10]
 have aab:cP C7=true:=by rw[hC7];refine om λv hv=>?_;obtain⟨u,hu,rfl⟩:=List.mem_map.1 hv;exact(lD (o10 u hu)).2
 rw[<-hC7]at e85;have Jh:Grown sP.nx sP s5:=(nI.trans (grG.le nI.nx)).trans (lE.le (by omega));have aac:=RB.grown Jh (by omega);have aoS:=aoL.grown Jh (by omega);have stH:=aac.kU jm (us:=C7) (k:=5) (by rw[Db];exact Lq) Lq.symm (by decide) aab;have Xt:=aac.lt jm;obtain⟨sH,Rb⟩:=dO (s5.wr s1.nx (some (ca 54 C7)));rw[<-Rb]at stH;have Zn:Good sH:=by rw[Rb];exact bZ jm Xt _
 have nH:sH.nx=s5.nx:=by rw[Rb];rfl
 have aoT:ay sH s1.nx 54 C7:=by rw[Rb];exact ay.set jm Xt 54 _
 have aad:ay sH (s.nx+1) 54 zL:=by rw[Rb];exact aoS.wr jm Xt (by omega) _
 have OD:=aoT.eA fp ft (o:=0) (by omega) (by decide);rw[bK,aP (by omega)]at OD;have stI:=aad.kU Zn (us:=C7) (k:=5) (by rw[Lq];rfl) Lq.symm (by decide) aab;have hlH:=aad.lt Zn;obtain⟨sI,RU⟩:=dO (sH.wr (s.nx+1) (some (ca 54 C7)));rw[<-RU]at stI;have hgI:Good sI:=by rw[RU];exact bZ Zn hlH _
 have aoU:ay sI (s.nx+1) 54 C7:=by rw[RU];exact ay.set Zn hlH 54 _
 have OE:=aoU.eA fp ft (o:=0) (by omega) (by decide);rw[bK,aP (by omega)]at OE;have Gh:Grown s.nx s s5:=apf.trans (Jh.le apf.nx);have aoV:Grown s.nx s sI:=by rw[RU];refine Grown.wr ?_ (by omega) (by omega) _;rw[Rb];exact Gh.wr (by omega) (by omega) _
 have av:∀i,i<BO.nx->LD i≠s1.nx∧LD i≠s.nx+1∧(i<12∧LD i=ρ i∨s.nx<LD i):= λi hi=>by
  have mD:=aao.nx;by_cases i0:i<U8.nx
  ·have e:LD i=ρd i:=by rw[hr8 i (by omega),Xr i (by omega),Q8 i i0,I4 i i0]
   by_cases i1:13<=i
   ·have:=(up i i1).1;exact⟨by omega,by omega,.inr (by omega)⟩
   ·rw[low i (by omega)]at e;by_cases i2:i<12
    ·have h1:=r30 i i2;have h2:=he.lt i (by omega);exact⟨by omega,by omega,.inl ⟨i2,by omega⟩⟩
    ·have:i=12:=by omega
     subst this;exact⟨by omega,by omega,.inr (by omega)⟩
  ·by_cases i1:i<U9.nx
   ·have e:LD i=Ra i:=by rw[hr8 i (by omega),Xr i i1]
    have:=hx6 i (by omega);exact⟨by omega,by omega,.inr (by omega)⟩
   ·by_cases i2:i=U9.nx
    ·subst i2;have e:LD U9.nx=s4.nx:=by rw[hr8 _ (by omega),aaa]
     exact⟨by omega,by omega,.inr (by omega)⟩
    ·have:=hx8 i (by omega);exact⟨by omega,by omega,.inr (by omega)⟩
 obtain⟨ρ9,he9,hr9⟩:=he8.frame BH (s':=sI) (by rw[RU];show s5.nx<=sH.nx;omega) hgI (λi hi=>by obtain⟨a1,a2,_⟩:=av i hi;rw[RU,cj Zn hlH,aC a2,Rb,cj jm Xt,aC a1])
 unfold c42;apply aJ;simp+decide only[ag,h0,h1,ez hg];rw[<-qS];have aoW:∀lo tm,tB 54 [.bool false,.slice none 0 0,.slice none 0 0,.slice none 0 0,.slice none 0 0] lo tm sA=some (a8 sA.nx,sB):= λlo tm=>by rw[BM];exact iH Ja 54 _
 have aoX:∀lo tm,tB 54 [.bool false,.slice none 0 0,.slice none 0 0,.slice none 0 0,.slice none 0 0] lo tm s1=some (a8 s1.nx,sC):= λlo tm=>by rw[AA];exact iH dv 54 _
 have aoY:∀lo tm,tB 54 [.bool false,.slice none 0 0,.slice none 0 0,.slice none 0 0,.slice none 0 0] lo tm s2=some (a8 s2.nx,sE):= λlo tm=>by rw[CW];exact iH dI 54 _
 simp+decide only[ag,aoW];apply aJ;simp+decide only[ag,bO,aG,lC,e53,aoX,stD];refine aT (WC.mono (Q:= λx m' s'=>x= .normal∧s'=sH∧m'.get 4=some (a8 (s.nx+1))∧m'.get 5=some (a8 s1.nx)) ?_ ?_)
 ·apply aJ;simp+decide only[ag,bO,aG,ld8,ld9,len8,aoI,FQ,LR,show min (1:Int) 1=1 from rfl];refine bY (eW (λm s'=>∃j:Nat,j<=1∧m.get 4=some (a8 (s.nx+1))∧m.get 5=some (a8 s1.nx)∧m.get 18=some (aw 1)∧m.get 19=some (aw (j:Int))∧(j=0->s'=sD∧m.get 0=some (a8 d.lp)∧m.get 3=some (a8 s.nx))∧(j=1->s'=sH))
   (λm _=>match m.get 19 with|some (.int _ j)=>(2-j).toNat|_=>0) ?_ ?_ ?_)
  ·exact⟨0,by omega,by simp+decide only[ag,nA],by simp+decide only[ag],by simp+decide only[ag],by simp+decide only[ag,aW],λ_=>⟨rfl,by simp+decide only[ag,h0],by simp+decide only[ag]⟩,by omega⟩
  ·simp+decide only[ag]
  rintro m s' ⟨j,hj,g4,g5,g18,Nz,Nw,Xc⟩;apply aJ;by_cases hz:j=0
  ·subst hz;obtain⟨hs,g0,g3⟩:=Nw rfl;rw[hs];have Nz:m.get 19=some (aw 0):=Nz;have d0:decide ((0:Int)<1)=true:=by decide
   simp+decide only[ag,g18,Nz,d0];refine aT (cK true (by simp+decide only[ag]) ?_);simp+decide only[ag];apply aR;apply kK;apply aJ;simp+decide only[ag,Nz];apply aJ;simp+decide only[ag,g0,g3,bO,aG,ld8,ix8,lt8,e33];apply aJ;simp+decide only[ag,Zm,aoY,stF];apply dh;apply ar;simp+decide only[ag,g0,cH,bO,aG,Z8,e34,dk];refine iP (by simp+decide only[ag]) ?_;apply ar;simp+decide only[ag,g0,cH,bO,aG,ayp,e35,e84,e45,agb,stP];have aoZ:=cB (gj (l:=C4) λv hv=>by rw[hC4]at hv;obtain⟨u,hu,rfl⟩:=List.mem_map.1 hv;exact(lD (xY (K:=13) (by omega) u hu)).1)
   have aae:=(RB.grown (nI.trans (grG.le nI.nx)) (by omega)).eA (P:=prog) fp ft (o:=0) (by omega) (by decide);rw[bK,aP (by omega)]at aae;have ao0:=cB (gj (l:=C5') λv hv=>by rw[aam]at hv;obtain⟨u,hu,rfl⟩:=List.mem_map.1 hv;exact(lD (o8 u hu)).1)
   have ao1:=cB (gj (l:=(jb b 10 11).map (eC ρ)) λv hv=>by obtain⟨u,hu,rfl⟩:=List.mem_map.1 hv;exact(lD (gL (K:=12) (by omega) (by omega) u hu)).1)
   have ao2:=cB s93.same;apply gY;simp+decide only[ag,g3,g5,bO,aG,OB,OC,Z9,ix9,lq9,e77,hb,aae,e85,stH,aoZ,ao0,ao1,ao2];apply ar;simp+decide only[ag,Nz,show IntKind.i64.wrap (0+1)=1 from rfl];exact⟨1,by omega,by simp+decide only[ag,g4],by simp+decide only[ag,g5],by simp+decide only[ag,g18],by simp+decide only[ag]<;>rfl,by omega,λ_=>trivial⟩
  ·have Rv:j=1:=by omega
   subst Rv;have hs:=Xc rfl;have Nz:m.get 19=some (aw 1):=Nz;have d0:decide ((1:Int)<1)=false:=by decide
   simp+decide only[ag,g18,Nz,d0];refine aT (cK false (by simp+decide only[ag]) ?_);simp+decide only[ag];apply aR;simp+decide only[ag];exact⟨hs,by simp+decide only[ag,g4],by simp+decide only[ag,g5]⟩
 rintro x m s' ⟨rfl,rfl,g4,g5⟩;simp+decide only[ag];apply aJ;simp+decide only[ag,g4,g5,OD,stI];refine aR (tM (u:=a8 (s.nx+1)) (v:= .agg ⟨C7⟩) (.inr rfl) g4 ?_ ⟨ρ9,BO,U11,Fy,sg,?_,he9,BH,aoV,λi hi=>?_,l10,o10,I5,f43,hsg⟩)
 ·rw[vS,OE]
 ·rw[hC7,fz (K:=BO.nx) (λi hi=>hr9 i hi) o10]
 ·have:=(av i hi).2.2;rw[hr9 i hi];exact this
def leC (n:Nat) (hg:Good s) (h:LS s d σ φ) (zP:TF φ) (fR:φ.length<900000) {ρ:Nat->Nat} {U3:AS} {any:Bool} {tag:Nat} {bb:Bool} {num str:List UInt8} {b:Bool} (RT:Good U3) (he:Bf ρ U3 s) (ht:t<σ.length) (hk:σ[t].kind=2) (hv0:σ[t].v=cu tag bb num str) (dK:abr any (cu tag bb num str) t b U3):
  cp (aE (n+7) (dJ 15) [a8 d.lp,.agg ⟨(eL 7 8 514 9 518).map (eC ρ)⟩] s) (λr s'=>∃z:Bool,r=aw ((if z then 0 else 1:Nat):Int)∧Grown s.nx s s'∧(any=false->z=true)):=by
 have k3:=dK.k3;rw[axk];refine bG (by simp) λm hm=>?_;have h0:m.get 0=some (a8 d.lp):=by rw[hm];rfl
 have h1:m.get 1=some (.agg ⟨(eL 7 8 514 9 518).map (eC ρ)⟩):=by rw[hm];rfl
 clear hm;obtain⟨X,hX⟩:∃X,X=(eL 7 8 514 9 518).map (eC ρ):=⟨_,rfl⟩
 have hXl:X.length=5:=by rw[hX];rfl
 rw[<-hX]at h1;obtain⟨sA,qS⟩:=dO (s.add (ca 54 X));have Ja:=cz qS hg;have nA:sA.nx=s.nx+1:=by rw[qS];rfl
 have vA:=jS qS hg;have zR:=cM qS hg;obtain⟨ρA,heA,hrA⟩:=he.grown RT zR;have lxA:=vA.eA fp ft (o:=0) (by omega) (by decide);rw[bK,aP (by omega),hX,<-fz (K:=12) (ρ:=ρ) (ρ':=ρA) (λi hi=>hrA i (by omega)) (dY (by omega) (by omega) (by omega))]at lxA;obtain⟨_,s1,e42,km,BO,U11,Fy,sg,rfl,vp,BH,fV,uh,l10,o10,I5,f43,hsg⟩:=aeb (n+3) Ja (h.ext hg zR) RT heA ht hk hv0 dK;have dv:=fV.bt;have n1:=fV.nx;have v1:=vA.grown fV (by omega);obtain⟨X7,Zo⟩:=dO (Fy.map (eC km));have ao6:X7.length=5:=by rw[Zo,dP,l10]
 have ao7:cP X7=true:=by rw[Zo];refine om λv hv=>?_;obtain⟨u,hu,rfl⟩:=List.mem_map.1 hv;exact(lD (o10 u hu)).2
 rw[<-Zo]at e42;have st2:=v1.kU dv (us:=X7) (k:=5) (by omega) ao6.symm (by decide) ao7;have QR:=v1.lt dv;obtain⟨s2,ee⟩:=dO (s1.wr s.nx (some (ca 54 X7)));rw[<-ee]at st2;have dI:Good s2:=by rw[ee];exact bZ dv QR _
 have n2:s2.nx=s1.nx:=by rw[ee];rfl
 have v2:ay s2 s.nx 54 X7:=by rw[ee];exact ay.set dv QR 54 _
 have ng:Grown s.nx s s2:=by rw[ee];exact(zR.trans (fV.le zR.nx)).wr (af _) QR _
 obtain⟨oM,Fp,zO⟩:=vp.frame BH (s':=s2) (by omega) dI (λi hi=>by
  rw[ee,cj dv QR,aC];rcases uh i hi with ⟨h12,h1⟩|h1
  ·rw[h1,hrA i (by omega)];have:=he.lt i (by omega);omega
  ·omega)
 have ld3:=v2.ld gu (o:=3) (by omega);have h3:X7[3]'(by omega)= .slice none 0 0:=by obtain⟨h3,h4⟩:=List.getElem?_eq_some_iff.1 I5;simp only[Zo,List.getElem_map,h4];rfl
 rw[h3]at ld3;have aLJ:dH [.slice none 0 0]=some (aw 0):=rfl;have d00:decide ((0:Int)=0)=true:=by decide
 have lc:=v2.eA o0 pb (o:=0) (by omega) (by decide);rw[bK]at lc;have o3:∀x∈Fy.take 3,ui BO.nx x=true:= λx hx=>o10 x (gV hx);have m43:oF oM BO.nx 12 (.agg ⟨Fy.take 3⟩)=some (.agg ⟨X7.take 3⟩):=by rw[dR o3,Zo,<-apm,fz (K:=BO.nx) (λi hi=>zO i hi) o3]
 obtain⟨rW,v,s3,e43,hv,Xq,aPx,iZ,LA,_,hx3⟩:=apart (n+5) (by rfl) acq BH dI Fp (oD m43) f43;rw[nY]at hv;have hv:=(bh hv).symm;subst hv;have oB:Grown s.nx s s3:=ng.trans (iZ.le ng.nx);have agf:=h.ext hg oB;obtain⟨_,s4,e22,rfl,nI⟩:=uX n iZ.bt agf zP fR (decide (sg<=0));have Xe:ia 54 s (.agg ⟨X⟩)=some (a8 s.nx,sA):=by rw[ez hg,dn,<-qS]
 rw[fz (K:=12) (ρ:=ρ) (ρ':=ρA) (λi hi=>hrA i (by omega)) (dY (by omega) (by omega) (by omega))]at lxA e42;unfold c15;apply aJ;simp+decide only[ag,h0,h1,Xe];apply dh;apply ar;simp+decide only[ag,h0,lz];refine dD (by simp+decide only[ag]) ?_;apply aJ;simp+decide only[ag,h0,lxA,e42,st2];apply dh;apply ar;simp+decide only[ag,bO,aG,ld3,aLJ,d00];refine iP (by simp+decide only[ag]) ?_;apply aJ;simp+decide only[ag,h0,bO,aG,lc,e43,e22];refine aR (b6 (v:=aw ((if decide (sg<=0)then 0 else 1:Nat):Int)) (.inr rfl) (by simp+decide only[ag]) ⟨decide (sg<=0),rfl,oB.trans (nI.le oB.nx),λha=>?_⟩);rcases hsg with h|h
 ·rw[ha]at h;cases h
 ·exact aL h
def aLK (n:Nat) (hg:Good s) (h:LS s d σ φ) (zP:TF φ) (hf:f<φ.length) (hk:φ[f].kind=0∨φ[f].kind=1) (fR:φ.length<900000):
  cp (aE (n+7) (dJ 20) [a8 d.lp,aw (f:Int)] s) (λr s'=>r=aw ((if φ[f].kind=0 then 1 else 0:Nat):Int)∧Grown s.nx s s'):=by
 rw[awW];refine bG (by simp) λm hm=>?_;have h0:m.get 0=some (a8 d.lp):=by rw[hm];rfl
 have h1:m.get 1=some (aw (f:Int)):=by rw[hm];rfl
 clear hm;obtain⟨s1,dm⟩:=dO (s.add (ca 24 [a8 d.lp]));have dv:=cz dm hg;have n1:s1.nx=s.nx+1:=by rw[dm];rfl
 have v1:=jS dm hg;have fV:=cM dm hg;obtain⟨s2,ee⟩:=dO (s1.add (ca 3 [aw (f:Int)]));have dI:=cz ee dv;have n2:s2.nx=s.nx+2:=by rw[ee,ep,n1]
 have w2:ay s2 (s.nx+1) 3 [aw (f:Int)]:=by rw[ee,<-n1];exact ay.new dv 3 _
 have v2:ay s2 s.nx 24 [a8 d.lp]:=by rw[ee];exact v1.add dv _
 have iE:Grown s.nx s s2:=by rw[ee];exact fV.add fV.nx _
 have fU:=w2.Fu dI (o:=0) (v:=aw (f:Int)) (by simp) rfl rfl;rw[dM]at fU;have nM:=w2.lt dI;obtain⟨s3,gy⟩:=dO (s2.wr (s.nx+1) (some (ca 3 [aw (f:Int)])));rw[<-gy]at fU;have gQ:Good s3:=by rw[gy];exact bZ dI nM _
 have n3:s3.nx=s.nx+2:=by rw[gy];exact n2
 have w3:ay s3 (s.nx+1) 3 [aw (f:Int)]:=by rw[gy];exact ay.set dI nM 3 _
 have v3:ay s3 s.nx 24 [a8 d.lp]:=by rw[gy];exact v2.wr dI nM (by omega) _
 have iZ:Grown s.nx s s3:=by rw[gy];exact iE.wr (by omega) nM _
 obtain⟨z,N4⟩:∃z:LVal,z= [aw 0,aw 0,aw 0,aw 0,.string ⟨⟨[]⟩⟩,.slice none 0 0,.bool false,.slice none 0 0,.slice none 0 0,.slice none 0 0,.slice none 0 0,aw 0,.string ⟨⟨[]⟩⟩]:=⟨_,rfl⟩
 obtain⟨s4,jW⟩:=dO (s3.add (ca 79 z));have iI:=cz jW gQ;have n4:s4.nx=s.nx+3:=by rw[jW,ep,n3]
 have x4:ay s4 (s.nx+2) 79 z:=by rw[jW,<-n3];exact ay.new gQ 79 _
 have w4:ay s4 (s.nx+1) 3 [aw (f:Int)]:=by rw[jW];exact w3.add gQ _
 have v4:ay s4 s.nx 24 [a8 d.lp]:=by rw[jW];exact v3.add gQ _
 have nI:Grown s.nx s s4:=by rw[jW];exact iZ.add iZ.nx _
 have eH:=h.uc _ (aV hf);have yN:=φ[f].dT eH;have Bl:=h.row_one (aV hf);have ZV:=x4.kU iI (us:=φ[f].row) (k:=13) (by rw[yN,N4];rfl) yN.symm (by decide) Bl;have pZ:=x4.lt iI;obtain⟨s5,oE⟩:=dO (s4.wr (s.nx+2) (some (ca 79 φ[f].row)));rw[<-oE]at ZV;have jm:Good s5:=by rw[oE];exact bZ iI pZ _
 have x5:ay s5 (s.nx+2) 79 φ[f].row:=by rw[oE];exact ay.set iI pZ 79 _
 have v5:ay s5 s.nx 24 [a8 d.lp]:=by rw[oE];exact v4.wr iI pZ (by omega) _
 have lE:Grown s.nx s s5:=by rw[oE];exact nI.wr (by omega) pZ _
 have lv2:=v2.ld cT (o:=0) (by simp);have lw2:=w2.ld bM (o:=0) (by simp);have lv3:=v3.ld cT (o:=0) (by simp);have lw3:=w3.ld bM (o:=0) (by simp);have lv4:=v4.ld cT (o:=0) (by simp);have lw4:=w4.ld bM (o:=0) (by simp);have lv5:=v5.ld cT (o:=0) (by simp);simp only[ae]at lv2 lw2 lv3 lw3 lv4 lw4 lv5;have h2:=h.ext hg iE;have h3:=h.ext hg iZ;have h4:=h.ext hg nI;have lf3:=h3.own.ld iC (o:=1) (by simp);have lf4:=h4.own.ld iC (o:=1) (by simp);simp only[ae,aZ]at lf3 lf4;have yM:f<(j8 φ).length:=by rw[gR];exact hf
 have Fw:=(h3.sl gQ).ix (P:=prog) (t:=61) yM (k:= .i64);have ld3:=(h3.sl gQ).eA ny nz (by decide) yM;have ld4:=(h4.sl iI).eA ny nz (by decide) yM;rw[j5 hf]at ld3 ld4;obtain⟨r,sx,et,rfl,rfl⟩:=D1 (n+5) dI h2 hf;have lk5:=x5.ld bM (o:=0) (by omega);rw[φ[f].ZS eH]at lk5;have h5:=h.ext hg lE;obtain⟨_,s6,e22,rfl,zQ⟩:=uX n jm h5 zP fR (decide ((φ[f].kind:Int)=1));have aow:Grown s.nx s s6:=lE.trans (zQ.le lE.nx);have Iq:=cB (gj (h.Pl (aV hf)));have aot:=cB (h.sl hg).same;unfold c20;apply aJ;simp+decide only[ag,h0,h1,ez hg];rw[show(Value.pointer (some ⟨d.lp,0,none⟩)).cells.toList= [a8 d.lp]from rfl,<-dm];simp+decide only[ag,ez dv];rw[show(Value.int .i64 (f:Int)).cells.toList= [aw (f:Int)]from rfl,<-ee];apply dh;apply ar;simp+decide only[ag,n1,lv2,lz];refine dD (by simp+decide only[ag]) ?_;apply aJ;simp+decide only[ag,n1,lv2,lw2,et,fU];refine aT (aT (gY ?_));simp+decide only[ag,n1,n3,lv3,lw3,lv4,lw4,cH,bO,aG,lf3,lf4,Fw,ld3,ld4,pM gQ,<-N4,<-jW,ZV,aot,Iq];apply aJ;simp+decide only[ag,bO,aG,lk5];refine bY (aT (aT (ar ?_)));have fin:∀m:TM 46,m.get 2=some (a8 s.nx)->m.get 5=some (a8 (s.nx+2))->WC (aE (n+6)) (ah aaP (aQ .ret)) (yX 0 (Seq (aE (n+6)) (ah ab2 (aQ .ret)) (Bq prog [.tmp 4] λr s'=>r=aw ((if φ[f].kind=0 then 1 else 0:Nat):Int)∧Grown s.nx s s'))) m s5:=by
  intro m t2 t5;unfold aaP;apply aJ;simp+decide only[ag,t2,t5,lv5,bO,aG,lk5,e22];apply aR;rw[mY,pL];refine b6 (v:=aw ((if decide ((φ[f].kind:Int)=1)then 0 else 1:Nat):Int)) (.inr rfl) (by simp+decide only[ag]) ⟨?_,aow⟩;rcases hk with hk|hk
  ·rw[hk];rfl
  ·rw[hk];rfl
 rcases hk with hk|hk
 ·have d0:decide ((φ[f].kind:Int)=0)=true:=aL (by omega);simp+decide only[ag,d0];refine iP (by simp+decide only[ag]) ?_;apply aR;refine cK true (by simp+decide only[ag]) ?_;simp only[jQ];exact fin _ (by simp+decide only[ag,n3]) (by simp+decide only[ag,n3])
 ·have d0:decide ((φ[f].kind:Int)=0)=false:=az (by omega);have d1:decide ((φ[f].kind:Int)=1)=true:=aL (by omega);simp+decide only[ag,d0];refine nN (by simp+decide only[ag]) ?_;apply ar;simp+decide only[ag,d1];refine cK true (by simp+decide only[ag]) ?_;simp only[jQ];exact fin _ (by simp+decide only[ag,n3]) (by simp+decide only[ag,n3])
def ayr (n:Nat) (hg:Good s) (h:LS s d σ φ) (zP:TF φ) {tag:Nat} (Ah:tag<6) (ht:t<σ.length) (hk:σ[t].kind=2) {T:Nat} (hT:σ[t].v[0]? =some (aw (T:Int))) (fR:φ.length<900000):
  cp (aE (n+7) (dJ 10) [a8 d.lp,aw (tag:Int),aw (t:Int)] s) (λr s'=>r=aw ((if T=tag then 0 else 1:Nat):Int)∧Grown s.nx s s'):=by
 obtain⟨r,s',e,i,d',fj,rfl,hp⟩:=aiC n hg h Ah ht hk hT fR;refine⟨_,s',e,?_⟩;have h2:=zP.two;have key:∀b:Bool,(b=true↔T=tag)->su s s' d σ φ ⟨if b then 0 else 1,0,0,0,[],.slice none 0 0,[],mv,1,BF b⟩ i d' fj->(Value.int .i64 ((i:Nat):Int)=aw ((if T=tag then 0 else 1:Nat):Int))∧Grown s.nx s s':=by
  intro b hb hp;cases hp with
  |uC hi hk fN=>
   refine⟨?_,fN⟩;cases b with
   |true=>have:=key_inj h.nodup hi (show 0<φ.length by omega) (hk.trans zP.tt.symm);rw[this,aU (hb.1 rfl)]
   |false=>have:=key_inj h.nodup hi (show 1<φ.length by omega) (hk.trans zP.ff.symm);rw[this,aC (λe=>by have:=hb.2 e;cases this)]
  |new hn hk hl=>
   cases b with
   |true=>exact(hn _ (aV (show 0<φ.length by omega)) zP.tt).elim
   |false=>exact(hn _ (aV (show 1<φ.length by omega)) zP.ff).elim
 exact key _ (by simp;omega) hp
def aLL (n:Nat) (hg:Good s) (h:LS s d σ φ) (zP:TF φ) {u:Nat} (ht:t<σ.length) (hu:u<σ.length) (hk:σ[t].kind=2) (uA:σ[u].kind=2) (fR:φ.length<900000):
  cp (aE (n+7) (dJ 75) [a8 d.lp,aw (t:Int),aw (u:Int)] s) (λr s'=>r=aw ((if t=u then 0 else 1:Nat):Int)∧Grown s.nx s s'):=by
 rw[axe];refine bG (by simp) λm hm=>?_;have h0:m.get 0=some (a8 d.lp):=by rw[hm];rfl
 have h1:m.get 1=some (aw (t:Int)):=by rw[hm];rfl
 have h2:m.get 2=some (aw (u:Int)):=by rw[hm];rfl
 clear hm;obtain⟨r,sx,e1,rfl,rG⟩:=pX (n+4) hg h ht;rw[rG]at e1;obtain⟨r,sx,e2,rfl,rG⟩:=pX (n+4) hg h hu;rw[rG]at e2;have lt:=h.own.ld eU (o:=0) (by simp);simp only[ae]at lt;obtain⟨r,s1,e3,rfl,fV⟩:=vU (n+4) hg h.ts ht;have Zs:=h.ext hg fV;have RS:=Zs.own.ld eU (o:=0) (by simp);simp only[ae]at RS;obtain⟨r,s2,e4,rfl,iE⟩:=vU (n+4) fV.bt Zs.ts hu;have ng:Grown s.nx s s2:=fV.trans (iE.le fV.nx);have ls2:=h.ext hg ng;have dk:decide ((σ[t].kind:Int)=2)=true:=aL (by omega);have dk2:decide ((σ[u].kind:Int)=2)=true:=aL (by omega);obtain⟨_,s3,e5,rfl,iZ⟩:=uX n iE.bt ls2 zP fR (decide (t=u));have oB:Grown s.nx s s3:=ng.trans (iZ.le ng.nx);unfold c75;apply aJ;simp+decide only[ag];apply dh;apply ar;simp+decide only[ag,h0,lz];refine dD (by simp+decide only[ag]) ?_;apply aJ;simp+decide only[ag,h0,h1,h2,e1,e2];apply aJ;simp+decide only[ag,h0,cH,bO,aG,lt,e3,dk,RS,e4,dk2];by_cases htu:t=u
 ·rw[aU htu];have dne:decide ((t:Int)=(u:Int))=true:=aL (by omega);have dnn:decide (t=u)=true:=aL htu;rw[dnn]at e5;apply kK;apply aJ;simp+decide only[ag,dne];refine iP (by simp+decide only[ag]) ?_;apply aJ;simp+decide only[ag,h0,e5];apply aR;rw[mY,pL];exact b6 (v:=aw 0) (.inr rfl) (by simp+decide only[ag]) ⟨rfl,oB⟩
 ·rw[aC htu];have dne:decide ((t:Int)=(u:Int))=false:=az (by omega);have dnn:decide (t=u)=false:=az htu;rw[dnn]at e5;apply kK;apply aJ;simp+decide only[ag,dne];refine nN (by simp+decide only[ag]) ?_;apply aJ;simp+decide only[ag];refine iP (by simp+decide only[ag]) ?_;apply aJ;simp+decide only[ag,h0,e5];apply aR;rw[mY,pL];exact b6 (v:=aw 1) (.inr rfl) (by simp+decide only[ag]) ⟨rfl,oB⟩
def orC (n:Nat) (hg:Good s) (h:LS s d σ φ) (zP:TF φ) (fR:φ.length<900000) {fs:Value} {L:List Nat} (hy:Sl s.nx s 3 1 fs (ints L)) (gP:∀x∈L,x<φ.length∧sJ φ x≠3) (hL:L.length<=900000) (hks:∀x∈L,(CX φ x).length<=900000) (hA:0∈L):
  cp (aE (n+11) (dJ 19) [a8 d.lp,fs] s) (λr s'=>r=aw 0∧Grown s.nx s s'):=by
 refine ama (n+10) (adL n hg h zP fR (K:=3) (by decide) hy (λx hx=>(gP x hx).1) hL hks ?_);rw[AY λx hx=>(gP x hx).2];exact hA
section
variable {lp p b3 b4 b5 b7 b8 b9 fh:Nat} {C C':Cx} {tag:Nat} {bb:Bool} {num str text:List UInt8}
def Fz (tag:Nat) (bb:Bool) (num str text:List UInt8) (σ:List cx):Prop:=∃h:0<σ.length,σ[0].da=pj 2 0 [] ⟨⟨text⟩⟩∧σ[0].v=cu tag bb num str
def Fz.mono (σ ρ:List cx) (h:Fz tag bb num str text σ):Fz tag bb num str text (σ++ρ):=by obtain⟨h1,h2⟩:=h;exact⟨by simp;omega,by rw[eO h1];exact h2⟩
def aap {e:cx} {text:List UInt8} (h:e.da=pj 2 0 [] ⟨⟨text⟩⟩):e.kind=2:=by simp only[cx.da,pj,ea,kS,rS,vH,zS]at h;omega
def sz0 (h:kL (Fz tag bb num str text) lp p 0 b3 b4 b5 b7 b8 b9 fh s C) (hg:Grown s.nx s s'):∃C',gD s C s' C'∧kL (Fz tag bb num str text) lp p 0 b3 b4 b5 b7 b8 b9 fh s' C'∧eu oO s s'∧C'=C:=by obtain⟨h1,h2⟩:=h.grown hg;exact⟨C,h2,h1,hg.an h.bt,rfl⟩
def FV (h:TF φ):sJ φ 0=0∧sJ φ 1=1:=by have h2:=h.two;exact⟨by rw[jc (by omega)];exact(dA.j2 h.tt).1,by rw[jc (by omega)];exact(dA.j2 h.ff).1⟩
def TGc (tag:Nat) (_:Cx) (a f:Nat):Prop:=f=if tag=a then 0 else 1
def NGc (tag:Nat) (_:Cx) (a f:Nat):Prop:=f=if tag=a then 1 else 0
def SGc (text:List UInt8) (_:Cx) (k f:Nat):Prop:=f=if text=Ad k then 0 else 1
def LPc (tag:Nat) (_:Cx) (f:Nat):Prop:=f<=1∧(tag≠2->f=0)
def abt (M:Nat) (hM:200<=M) (h:kL (Fz tag bb num str text) lp p 0 b3 b4 b5 b7 b8 b9 fh s C) (hz:C.sz<=160) (ha:a<6):cp (aE M (dJ 10) [a8 lp,aw ((a:Nat):Int),aw ((0:Nat):Int)] s) (λr s'=>∃C' f,r=aw ((f:Nat):Int)∧gD s C s' C'∧kL (Fz tag bb num str text) lp p 0 b3 b4 b5 b7 b8 b9 fh s' C'∧eu oO s s'∧TGc tag C' a f∧C'.sz<=C.sz+1):=by
 obtain⟨n,rfl⟩:∃n,M=n+7:=⟨M-7,by omega⟩
 have eR:=wS (C:=C);obtain⟨h0,hkc,hv⟩:=h.pt;obtain⟨_,s1,e1,rfl,gr⟩:=ayr n h.bt h.ls h.tf ha h0 (aap hkc) (T:=tag) (by rw[hv];rfl) (by omega);rw[h.LH]at e1;obtain⟨C',q1,q2,q3,rfl⟩:=sz0 h gr;exact⟨_,s1,e1,C',_,rfl,q1,q2,q3,rfl,by omega⟩
def aEh (M:Nat) (hM:200<=M) (h:kL (Fz tag bb num str text) lp p 0 b3 b4 b5 b7 b8 b9 fh s C) (hz:C.sz<=160) (hf:TGc tag C a f):cp (aE M (dJ 20) [a8 lp,aw ((f:Nat):Int)] s) (λr s'=>∃C' f,r=aw ((f:Nat):Int)∧gD s C s' C'∧kL (Fz tag bb num str text) lp p 0 b3 b4 b5 b7 b8 b9 fh s' C'∧eu oO s s'∧NGc tag C' a f∧C'.sz<=C.sz+1):=by
 obtain⟨n,rfl⟩:∃n,M=n+7:=⟨M-7,by omega⟩
 have eR:=wS (C:=C);have h2:=h.tf.two;obtain⟨k0,k1⟩:=FV h.tf;rw[jc (by omega)]at k0 k1;have EC:f<C.φ.length:=by rw[hf];split<;>omega
 have vY:(C.φ[f].kind=0∨C.φ[f].kind=1)∧(if C.φ[f].kind=0 then 1 else 0)=(if tag=a then 1 else 0):=by
  unfold TGc at hf;by_cases e:tag=a
  ·rw[aU e]at hf;subst hf;rw[k0,aU e];exact⟨.inl rfl,rfl⟩
  ·rw[aC e]at hf;subst hf;rw[k1,aC e];exact⟨.inr rfl,rfl⟩
 obtain⟨_,s1,e1,rfl,gr⟩:=aLK n h.bt h.ls h.tf EC vY.1 (by omega);rw[h.LH]at e1;obtain⟨C',q1,q2,q3,rfl⟩:=sz0 h gr;exact⟨_,s1,e1,C',_,rfl,q1,q2,q3,vY.2,by omega⟩
def aLM (M:Nat) (hM:200<=M) {u:Nat} (h:kL (Fz tag bb num str text) lp p 0 b3 b4 b5 b7 b8 b9 fh s C) (hz:C.sz<=160) (hu:CGn C k u):cp (aE M (dJ 75) [a8 lp,aw ((0:Nat):Int),aw ((u:Nat):Int)] s) (λr s'=>∃C' f,r=aw ((f:Nat):Int)∧gD s C s' C'∧kL (Fz tag bb num str text) lp p 0 b3 b4 b5 b7 b8 b9 fh s' C'∧eu oO s s'∧SGc text C' k f∧C'.sz<=C.sz+1):=by
 obtain⟨n,rfl⟩:∃n,M=n+7:=⟨M-7,by omega⟩
 have eR:=wS (C:=C);obtain⟨h0,hkc,hv⟩:=h.pt;obtain⟨hul,huk⟩:=hu;obtain⟨_,s1,e1,rfl,gr⟩:=aLL n h.bt h.ls h.tf h0 hul (aap hkc) (aap huk) (by omega);rw[h.LH]at e1;obtain⟨C',q1,q2,q3,rfl⟩:=sz0 h gr;have xm:0=u↔text=Ad k:=by
  constructor
  ·intro e;subst e;rw[hkc]at huk;simp only[pj,ea,kS,hZ,vH,zS]at huk;injection huk with h
   injection h
  ·intro e;rw[e,<-huk]at hkc;have hd:=h.ls.ts.nodup;exact(List.getElem_inj (h₀:=by simpa using h0) (h₁:=by simpa using hul) hd).1 (by simpa using hkc)
 refine⟨_,s1,e1,C',_,rfl,q1,q2,q3,?_,by omega⟩;unfold SGc;by_cases e:0=u
 ·rw[aU e,aU (xm.1 e)]
 ·rw[aC e,aC (λe2=>e (xm.2 e2))]
def aaq (M:Nat) (hM:200<=M) {w:Value} {L:List Nat} (h:kL (Fz tag bb num str text) lp p 0 b3 b4 b5 b7 b8 b9 fh s C) (hz:C.sz<=160) (hw:Sl s.nx s 3 1 w (ints L)) (gP:∀x∈L,x<=1) (hl:L.length<=6) (h0:0∈L):
  cp (aE M (dJ 19) [a8 lp,w] s) (λr s'=>∃C' y,r=aw ((y:Nat):Int)∧gD s C s' C'∧kL (Fz tag bb num str text) lp p 0 b3 b4 b5 b7 b8 b9 fh s' C'∧eu oO s s'∧y=0∧C'.sz<=C.sz+1):=by
 obtain⟨n,rfl⟩:∃n,M=n+11:=⟨M-11,by omega⟩
 have eR:=wS (C:=C);have h2:=h.tf.two;obtain⟨k0,k1⟩:=FV h.tf;have hx:∀x∈L,x<C.φ.length∧sJ C.φ x≠3:= λx hx=>by
  have:=gP x hx;refine⟨by omega,?_⟩
  match x,this with
  |0,_=>rw[k0];decide
  |1,_=>rw[k1];decide
 obtain⟨_,s1,e1,rfl,gr⟩:=orC n h.bt h.ls h.tf (by omega) hw hx (by omega) (λx xu=>by have Vf:=(hx x xu).1;have:=(h.fw x Vf).many;rw[qy Vf];omega) h0
 rw[h.LH]at e1;obtain⟨C',q1,q2,q3,rfl⟩:=sz0 h gr;exact⟨_,s1,e1,C',0,rfl,q1,q2,q3,rfl,by omega⟩
def aLN (M:Nat) (hM:200<=M) (hc:(tag,bb,num,str)∈consts) (h:kL (Fz tag bb num str text) lp p 0 b3 b4 b5 b7 b8 b9 fh s C) (hz:C.sz<=160) (b:Bool):∃v1 s1 v2 s2 v3 s3 f s4 C',aE M (dJ 16) [aw ((0:Nat):Int)] s= .val v1 s1∧aE M (dJ 54) [aw (cI b)] s1= .val v2 s2∧aE M (dJ 77) [v1,v2] s2= .val v3 s3∧aE M (dJ 15) [a8 lp,v3] s3= .val (aw ((f:Nat):Int)) s4∧Grown s.nx s s1∧Grown s1.nx s1 s2∧Grown s2.nx s2 s3∧gD s3 C s4 C'∧kL (Fz tag bb num str text) lp p 0 b3 b4 b5 b7 b8 b9 fh s4 C'∧eu oO s3 s4∧LPc tag C' f∧C'.sz<=C.sz+2:=by
 obtain⟨n,rfl⟩:∃n,M=n+7:=⟨M-7,by omega⟩
 have eR:=wS (C:=C);obtain⟨h0,hkc,hv⟩:=h.pt;have hg:=h.bt;obtain⟨U1,U2,U3,⟨f1,k1⟩,⟨f2,k2⟩,f3,dK⟩:=ad9 (ad8 hc b);obtain⟨km,v1,s1,e1,rV,vp,Z3,g1,uh,-,-⟩:=apart (n+6) (by rfl) L0 My hg (Su hg) (oD (nY .i64 0)) f1;rw[dR (dY (by omega) (by omega) (by omega))]at rV;have rV:=(bh rV).symm;subst rV;obtain⟨oM,v2,s2,e2,oo,Fp,apd,g2,zO,-,-⟩:=apart (n+6) (by rfl) SQ Z3 g1.bt vp (oD (nY .i64 (cI b))) f2;rw[dR (gL (by omega) (by omega))]at oo;have oo:=(bh oo).symm;subst oo;have m1:oF oM U2.nx 12 (.agg ⟨eL 0 1 513 2 513⟩)=some (.agg ⟨(eL 0 1 513 2 513).map (eC km)⟩):=by rw[dR (dY (by omega) (by omega) (by omega)),fz (K:=5) (λi hi=>zO i (by omega)) (dY (by omega) (by omega) (by omega))]
 obtain⟨rW,v3,s3,e3,BL,Xq,ape,g3,LA,-,-⟩:=apart (n+6) (by rfl) L2 apd g2.bt Fp (Rw m1 (dR (gL (by omega) (by omega)))) f3;rw[dR (dY (by have:=dK.k3;omega) (by have:=dK.k3;omega) (by have:=dK.k3;omega))]at BL;have BL:=(bh BL).symm;subst BL;have g03:Grown s.nx s s3:=g1.trans ((g2.trans (g3.le g2.nx)).le g1.nx);obtain⟨EF,x3⟩:=h.grown g03;obtain⟨_,s4,e4,z,rfl,nI,hz4⟩:=leC n EF.bt EF.ls EF.tf (by omega) ape Xq h0 (aap hkc) hv dK;rw[h.LH]at e4;obtain⟨C',q1,q2,q3,rfl⟩:=sz0 EF nI;refine⟨_,s1,_,s2,_,s3,_,s4,C',e1,e2,e3,e4,g1,g2,g3,q1,q2,q3,⟨by split<;>omega,λht=>?_⟩,by omega⟩;rw[hz4 (az ht)];rfl
end
section
variable {lp p b3 b4 b5 b7 b8 b9 fh:Nat} {C C':Cx} {tag:Nat} {bb:Bool} {num str text:List UInt8}
def aEi (M:Nat) (hM:201<=M) (hC:fZ tag bb num str text) (hc:(tag,bb,num,str)∈consts):Ob M lp 0 b3 b4 b5 b7 b8 b9 fh (kL (Fz tag bb num str text) lp p 0 b3 b4 b5 b7 b8 b9 fh) (λC L=>L.length=6∧∀a (h:a<L.length),TGc tag C a L[a]) (NGc tag) (SGc text) (λC f=>TGc tag C 2 f) (LPc tag) (λ_ _ y=>y=0) gD (Iy b4):=by
 obtain⟨m,rfl⟩:∃m,M=m+1:=⟨M-1,by omega⟩
 have cS:=hC.lt;refine⟨λh=>h.bt,λh=>⟨h.v3,h.v4,h.v5,h.v8,h.v9,h.v10⟩,λh hg=>h.grown hg,λh h'=>h.trans h',λ_ h=>h,λ_ h=>h,λ_ h=>h,λ_ h=>h,λels h=>Iy.new els h,λh hx=>h.ext hx,λh hd hc=>h.drop hd hc,?_,?_,?_,?_,?_,?_,?_,?_,?_,?_⟩
 ·intro s C w h hz hw;exact amk m (TG:=TGc tag) (λ_ h=>h) (λh hz ha=>abt m (by omega) h hz ha) h hz hw
 ·intro s C w L h hz hw hL;refine aaq (m+1) (by omega) h (by omega) hw (λx hx=>?_) (by rw[hL.1];decide) ?_
  ·obtain⟨i,hi,he⟩:=fE hx;have:=hL.2 i hi;unfold TGc at this;rw[<-he,this];split<;>omega
  ·have hi:tag<L.length:=by rw[hL.1];omega
   have:=hL.2 tag hi;unfold TGc at this;rw[aU rfl]at this;rw[<-this];exact aV hi
 ·intro s C a h hz ha;exact aml m (λh hz ha=>abt m (by omega) h hz ha) (λh hz hf=>aEh m (by omega) h hz hf) h hz ha
 ·intro s C w a b f g h hz jJ hb hw hf hg;unfold NGc at hf hg;refine aaq (m+1) (by omega) h (by omega) hw (λx hx=>?_) (by simp) ?_
  ·simp only[bu,aX,db]at hx;rcases hx with rfl|rfl
   ·rw[hf];split<;>omega
   ·rw[hg];split<;>omega
  ·by_cases e:tag=a
   ·rw[aC (by omega)]at hg;rw[hg];simp
   ·rw[aC e]at hf;rw[hf];simp
 ·intro s C h hz k vc hk;have key:∀ {tg:Nat} {b:Bool},fZ tg b [] [] (Ad k)->qQ 12 (.agg ⟨cu tg b [] []⟩) (.agg ⟨cu tg b [] []⟩)=true->cp (aE (m+1) (Gk b3 b4 b7) [.agg ⟨cu tg b [] []⟩] s) (λr s'=>∃C' f,r=aw ((f:Nat):Int)∧gD s C s' C'∧kL (Fz tag bb num str text) lp p 0 b3 b4 b5 b7 b8 b9 fh s' C'∧eu oO s s'∧SGc text C' k f∧C'.sz<=C.sz+2):= λhc hv=>
   amm m (CG:=CGn) (SG:=SGc text) rfl rfl hv (λh hz=>amn (λσ ρ h=>Fz.mono σ ρ h) m (by omega) hc h hz) (λh hz hu=>aLM m (by omega) h hz hu) h hz
  rcases hk with ⟨rfl,rfl⟩|⟨rfl,rfl⟩|⟨rfl,rfl⟩
  ·exact key (tg:=0) (b:=false) isNull (by rfl)
  ·exact key (tg:=1) (b:=true) isTrue (by rfl)
  ·exact key (tg:=1) (b:=false) isFalse (by rfl)
 ·intro s C w f g h hz hw hf hg;unfold NGc at hf;unfold SGc at hg;refine aaq (m+1) (by omega) h (by omega) hw (λx hx=>?_) (by simp) ?_
  ·simp only[bu,aX,db]at hx;rcases hx with rfl|rfl
   ·rw[hf];split<;>omega
   ·rw[hg];split<;>omega
  ·by_cases e:tag=0
   ·rw[aU (show text=Ad 0 from hC.null e)]at hg;rw[hg];simp
   ·rw[aC e]at hf;rw[hf];simp
 ·intro s C w f g i h hz hw hf hg hi;unfold NGc at hf;unfold SGc at hg hi;refine aaq (m+1) (by omega) h (by omega) hw (λx hx=>?_) (by simp) ?_
  ·simp only[bu,aX,db]at hx;rcases hx with rfl|rfl|rfl
   ·rw[hf];split<;>omega
   ·rw[hg];split<;>omega
   ·rw[hi];split<;>omega
  ·by_cases e:tag=1
   ·have hb:=hC.bool e;cases bb with
    |true=>rw[aU (by rw[hb];rfl)]at hg;rw[hg];simp
    |false=>rw[aU (by rw[hb];rfl)]at hi;rw[hi];simp
   ·rw[aC e]at hf;rw[hf];simp
 ·intro s C h hz;exact abt (m+1) (by omega) h (by omega) (by decide)
 ·intro s C h hz b;exact aLN (m+1) (by omega) hc h (by omega) b
 ·intro s C w f g h hz hw hf hg b;unfold TGc at hf;refine aaq (m+1) (by omega) h (by omega) hw (λx hx=>?_) (by simp) ?_
  ·simp only[bu,aX,db]at hx;rcases hx with rfl|rfl
   ·rw[hf];split<;>omega
   ·exact hg.1
  ·by_cases e:tag=2
   ·rw[aU e]at hf;rw[hf];simp
   ·rw[hg.2 e];simp
def aEj (k:Nat) (hk:3<=k) (b3 b4 b5 b7 b8 b9 fh:Nat):OnH k lp true (kL (Fz tag bb num str text) lp p 0 b3 b4 b5 b7 b8 b9 fh) (λ_ _ y=>y=0) gD (Iy b4):=by
 obtain⟨n,rfl⟩:∃n,k=n+3:=⟨k-3,by omega⟩
 refine⟨λh=>h.bt,λh hg=>h.grown hg,λhx=>hx.2.2.2,λ_ h=>h,λels h=>Iy.new els h,λh hx=>h.ext hx,λh Ay hn ho hq hm=>h.frame Ay hn ho hq hm,λ {s C j y} h hj ha=>?_,λ_ _ _ _ h=>by cases h⟩;have h2:=h.tf.two;have h0:0<C.φ.length:=by omega
 obtain⟨_,s1,e1,rfl,g1⟩:=yn n h.bt h.ls h0;rw[h.LH]at e1;obtain⟨k0,_⟩:=FV h.tf;rw[jc h0]at k0;subst ha;exact⟨C.φ[0].kind,⟨_,s1,e1,rfl,g1⟩,λ_=>k0,λh=>by cases h⟩
def aec (k:Nat) (hk:200<=k) (hC:fZ tag bb num str text) (hc:(tag,bb,num,str)∈consts) (hg:Good s) (h:LS s C.d C.σ C.φ) (hf:FW C.φ) (ht:TF C.φ) (Vv:Fz tag bb num str text C.σ) (hz:C.sz<=48):
  cp (aE (k+4) (dJ 8) [a8 C.d.lp,aw ((0:Nat):Int)] s) (λv s'=>∃C':Cx,Good s'∧LS s' C'.d C'.σ C'.φ∧C'.d.lp=C.d.lp∧TF C'.φ∧Fz tag bb num str text C'.σ∧C'.sz<=150∧K5 s s'∧Sl s'.nx s' 3 1 v []):=by
 obtain⟨r,s1,e1,C',R,⟨_,_,_,_,_,_,_,ok⟩,z6,k5,sl,hR,_⟩:=KZ (Pt:=Fz tag bb num str text) (t:=0) (tr:=true) k hg h hf ht Vv Vv.1 hz (λb3 b4 b5 b7 b8 b9 fh=>aEi (k+1) (by omega) hC hc) (λb3 b4 b5 b7 b8 b9 fh=>aEj k (by omega) b3 b4 b5 b7 b8 b9 fh);rw[hR rfl]at sl;exact⟨r,s1,e1,C',ok.bt,ok.ls,ok.LH,ok.tf,ok.pt,z6,k5,sl⟩
end
def Ug:ir prog 118=true:=by kernel_rfl
def Uh:qB prog 118=some [.slice none 0 0,.map none]:=by kernel_rfl
def Np:dB prog 118 1=some (1,1):=by kernel_rfl
def YT:ir prog 64=true:=by kernel_rfl
def YU:qB prog 64=some [.pointer none,.slice none 0 0,.map none,.slice none 0 0,.map none]:=by kernel_rfl
def Qv:dB prog 64 0=some (0,1):=by kernel_rfl
def Qw:dB prog 64 2=some (2,1):=by kernel_rfl
def Qx:dB prog 64 4=some (4,1):=by kernel_rfl
def aed (q:Nat):cA prog 118 [1] [.map (some q)]=some (.agg ⟨[.slice none 0 0,.map (some q)]⟩):=by refine fD Ug Uh ?_;show jq (dB prog 118) [(1,.map (some q))] _=_;rw[eV Np rfl (by simp),jV];rfl
def ajz (p a b:Nat):cA prog 64 [0,2,4] [a8 p,.map (some a),.map (some b)]=some (.agg ⟨[a8 p,.slice none 0 0,.map (some a),.slice none 0 0,.map (some b)]⟩):=by refine fD YT YU ?_;show jq (dB prog 64) [(0,a8 p),(2,.map (some a)),(4,.map (some b))] _=_;rw[eV Qv rfl (by simp),eV Qw rfl (by simp[Value.cells]),eV Qx rfl (by simp[Value.cells]),jV];rfl
def aLQ (n:Nat) (hg:Good s):cp (aE (n+1) (dJ 21) [] s) (λr s'=>r=a8 (s.nx+1)∧Grown s.nx s s'∧s'.nx=s.nx+2∧TS s' (s.nx+1) s.nx (.slice none 0 0) []):=by
 rw[aKj];refine bG (by simp) λm hm=>?_;clear hm;obtain⟨s1,dm⟩:=dO (s.add (.map 90 [] 0));have dv:=cz dm hg;have n1:s1.nx=s.nx+1:=by rw[dm];rfl
 have m1:cy s1 s.nx 90 [] 0:=by unfold cy;rw[dm,gF hg,aU rfl]
 have fV:=cM dm hg;obtain⟨s2,ee⟩:=dO (s1.add (ca 118 [.slice none 0 0,.map (some s.nx)]));have dI:=cz ee dv;have n2:s2.nx=s.nx+2:=by rw[ee,ep,n1]
 have v2:ay s2 (s.nx+1) 118 [.slice none 0 0,.map (some s.nx)]:=by rw[ee,<-n1];exact ay.new dv 118 _
 have iE:=cM ee dv;have hb:ia 118 s1 (.agg ⟨[.slice none 0 0,.map (some s.nx)]⟩)=some (a8 (s.nx+1),s2):=by rw[ez dv,dn,ee,n1]
 unfold c21;apply aT;unfold alA;apply ar;simp+decide only[ag];unfold alB;apply aJ;simp+decide only[ag,uP hg,<-dm,aed,hb];refine aR (b6 (v:=a8 (s.nx+1)) (.inr rfl) (by simp+decide only[ag]) ⟨rfl,fV.trans (iE.le fV.nx),n2,⟨v2,⟨none,.nil,λb hb=>by cases hb⟩,m1.eq (iE.eb _ (by omega)),by omega,by simp,by simp,by simp,by simp,by simp,λi hi=>by cases hi⟩⟩)
def aLR (n:Nat) (hg:Good s):cp (aE (n+7) (dJ 5) [] s) (λr s'=>∃d φ,r=a8 d.lp∧eu RQ s s'∧LS s' d [] φ∧FW φ∧TF φ∧φ.length=2):=by
 rw[ev5];refine bG (by simp) λm hm=>?_;clear hm;obtain⟨_,s1,e21,rfl,fV,n1,ts1⟩:=aLQ (n+5) hg;have dv:=fV.bt;obtain⟨s2,ee⟩:=dO (s1.add (.map 77 [] 0));have dI:=cz ee dv;have n2:s2.nx=s.nx+3:=by rw[ee,ep,n1]
 have m2:cy s2 s1.nx 77 [] 0:=by unfold cy;rw[ee,gF dv,aU rfl]
 have iE:=cM ee dv;obtain⟨s3,gy⟩:=dO (s2.add (.map 292 [] 0));have gQ:=cz gy dI;have n3:s3.nx=s.nx+4:=by rw[gy,ep,n2]
 have iZ:=cM gy dI;obtain⟨V,hV⟩:∃V:LVal,V= [a8 (s.nx+1),.slice none 0 0,.map (some s1.nx),.slice none 0 0,.map (some s2.nx)]:=⟨_,rfl⟩
 obtain⟨s4,jW⟩:=dO (s3.add (ca 64 V));have iI:=cz jW gQ;have v4:=jS jW gQ;have nI:=cM jW gQ;have aai:=iZ.trans (nI.le iZ.nx);have Lr:Grown s1.nx s1 s4:=iE.trans (aai.le iE.nx);have oC:Grown s.nx s s4:=fV.trans (Lr.le fV.nx);have hb:ia 64 s3 (.agg ⟨[a8 (s.nx+1),.slice none 0 0,.map (some s1.nx),.slice none 0 0,.map (some s2.nx)]⟩)=some (a8 s3.nx,s4):=by rw[ez gQ,dn,jW,hV]
 obtain⟨d,hd⟩:∃d:LV,d=⟨s3.nx,s.nx+1,s.nx,.slice none 0 0,s1.nx,.slice none 0 0,.slice none 0 0,s2.nx⟩:=⟨_,rfl⟩
 have ls4:LS s4 d [] []:=by rw[hd];exact⟨by rw[hV]at v4;exact v4,ts1.ext dv Lr.eb,⟨none,.nil⟩,m2.eq (aai.eb _ (by omega)),by simp,by simp,by simp,by simp⟩
 have hlp:d.lp=s3.nx:=by rw[hd]
 obtain⟨_,s5,e5,i5,d5,φ5,rfl,hp5⟩:=Ct n iI ls4 true (by simp);obtain⟨Lw,hi5,Zg,_⟩:=hp5.st iI ls4 (λi hi=>by cases hi) (e:=⟨if true=true then 0 else 1,0,0,0,[],.slice none 0 0,[],mv,1,BF true⟩) ⟨by decide,by decide,by simp,by simp,λh=>by rcases h with h|h|h<;>cases h⟩ (rn _);have jm:=Lw.an.bt;obtain⟨_,s6,e6,i6,d6,φ6,rfl,hp6⟩:=Ct n jm Lw.ls false (by have:=Lw.len;simp at this;omega);obtain⟨LG,hi6,hk6,_⟩:=hp6.st jm Lw.ls Lw.fw (e:=⟨if false=true then 0 else 1,0,0,0,[],.slice none 0 0,[],mv,1,BF false⟩) ⟨by decide,by decide,by simp,by simp,λh=>by rcases h with h|h|h<;>cases h⟩ (rn _);rw[Lw.lp]at e6;rw[hlp]at e5 e6;have l5:=Lw.len;have l6:=LG.len;simp at l5;have aUK:φ5.length=1:=by omega
 have i50:i5=0:=by omega
 subst i50;have g60:=LG.get (i:=0) (by omega);have i61:i6=1:=by
  rcases mH i6 1 with h|h
  ·have:i6=0:=by omega
   subst this;rw[g60,Zg]at hk6;simp[dA.key,ec]at hk6
  ·omega
 subst i61;have ays:xy 2 s4 s6 d [] [] d6 φ6:=Lw.trans LG;unfold c5;apply aT;unfold awY;apply ar;simp+decide only[ag];apply aT;unfold awZ;apply ar;simp+decide only[ag,e21,uP dv,<-ee,uP dI,<-gy,ajz,hb];apply aT;unfold aw0;apply ar;simp+decide only[ag,e5];apply aT;unfold aw1;apply ar;simp+decide only[ag,e6];apply aT;unfold aw2;apply ar;simp+decide only[ag];refine aR (b6 (v:=a8 s3.nx) (.inr rfl) (by simp+decide only[ag]) ⟨d6,φ6,by rw[ays.lp,hlp],(oC.an hg).trans ays.an,LG.ls,LG.fw,⟨by omega,?_,hk6⟩,by omega⟩);rw[g60];exact Zg
def K7:isAgg prog 22=some false:=by kernel_rfl
def aer:isAgg prog 5=some false:=by kernel_rfl
def Wi {e:EK} {c:Bool} (k:IntKind) (a b:Int) (h:b≠0):eJ .rem e c (.int k b) (.int k a)=some (.int k (a.tmod b)):=by show aD (tz k k) (aD (FY b (.ofNat 0)) none (m5 k (Int.tmod a b))) none=_;rw[iu,aS,oH,show decide (b=Int.ofNat 0)=false from az h,de,fI]
def Pz (k k':IntKind) (n:Int):xI (.int k) (.int k' n)=some (.int k (k.wrap n)):=jZ k n
def wrap_u8 (n:Int):0<=IntKind.u8.wrap n∧IntKind.u8.wrap n<256:=by have h:IntKind.u8.wrap n=n%256:=rfl;rw[h];omega
structure oh (dp:Nat) (s s':AS):Prop where
 bt:Good s'
 nx:s.nx<=s'.nx
 eb:∀j,j<s.nx->j≠dp->s'.h.get j=s.h.get j
def oh.trans {dp:Nat} {s s' j9:AS} (h:oh dp s s') (h':oh dp s' j9):oh dp s j9:=⟨h'.bt,di h.nx h'.nx,λj hj hd=>(h'.eb j (bC hj h.nx) hd).trans (h.eb j hj hd)⟩
def Grown.only {dp:Nat} (h:Grown s.nx s s'):oh dp s s':=⟨h.bt,h.nx,λj hj _=>h.eb j hj⟩
structure DS (s:AS) (dp:Nat) (bs:Value) (L:List UInt8) (a:Nat):Prop where
 var:ay s dp 28 [bs,aw (a:Int),aw 0,.bool false]
 row:Sl s.nx s 4096 1 bs (dL L)
def TyD (b:eX):Prop:=∃v,b=ca 28 v
def oh.an {dp:Nat} {v:LVal} (h:oh dp s s') (hg:Good s) (hv:ay s dp 28 v):eu TyD s s':=⟨h.bt,h.nx,λj b hb ht=>by
 have hj:j<s.nx:=dg λhle=>by rw[hg.none j hle]at hb;cases hb
 rw[h.eb j hj λe=>ht ?_];exact hb;rw[e]at hb;unfold ay at hv;rw[hv]at hb;cases hb;exact⟨_,rfl⟩⟩
def NW {c:T LVal} {sz:Nat} {ro:Bool} (h:et≠28):¬TyD (.cells c sz n ro et):= λ⟨v,hv⟩=>by
 unfold ca at hv;injection hv with _ _ _ _ h5
 exact h h5
def DS.grown {s s':AS} {dp a:Nat} {bs:Value} {L:List UInt8} (h:DS s dp bs L a) (hg:Good s) (fN:Grown s.nx s s'):DS s' dp bs L a:=⟨h.var.grown fN (h.var.lt hg),(h.row.ext fN.eb).le fN.nx⟩
def zg (n:Nat) {dp:Nat} {bs:Value} {L:List UInt8} (hg:Good s) (h:DS s dp bs L a) (ha:a<1000000) (hL:L.length<=1000000) (hk:0<k) (uA:k<=100):
  cp (aE (n+1) (dJ 26) [a8 dp,aw (k:Int)] s) (λr s'=>∃i a',r=aw ((i:Nat):Int)∧i<k∧oh dp s s'∧DS s' dp bs L a'∧a'<=a+1):=by
 rw[aKk];refine bG (by simp) λm hm=>?_;have h0:m.get 0=some (a8 dp):=by rw[hm];rfl
 have h1:m.get 1=some (aw (k:Int)):=by rw[hm];rfl
 clear hm;have l0:=h.var.ld K7 (o:=0) (by simp);have l1:=h.var.ld bM (o:=1) (by simp);simp only[ae,aZ]at l0 l1;have mi:=h.row.len;rw[eo]at mi;unfold c26;apply aT;unfold alC;apply ar;simp+decide only[ag];apply dh;unfold alD;apply ar;by_cases hz:L.length=0
 ·have d0:decide ((L.length:Int)=0)=true:=aL (by omega);simp+decide only[ag,h0,cH,bO,aG,l0,mi,d0];refine iP (by simp+decide only[ag]) ?_;apply aT;unfold alE;apply ar;simp+decide only[ag];exact aR (b6 (v:=aw 0) (.inr rfl) (by simp+decide only[ag]) ⟨0,a,rfl,hk,(Grown.refl hg _).only,h,by omega⟩)
 ·have d0:decide ((L.length:Int)=0)=false:=az (by omega);simp+decide only[ag,h0,cH,bO,aG,l0,mi,d0];refine dD (by simp+decide only[ag]) ?_;simp+decide only[ag];have w1:IntKind.i64.wrap ((a:Int)+1)=((a+1:Nat):Int):=by rw[wrap_i64 (by omega)];omega
  have st:=h.var.Fu hg (o:=1) (v:=aw ((a+1:Nat):Int)) (by simp) rfl rfl;simp only[List.set_cons_succ,dM]at st;have hl:=h.var.lt hg;obtain⟨s1,dm⟩:=dO (s.wr dp (some (ca 28 [bs,aw ((a+1:Nat):Int),aw 0,.bool false])));rw[<-dm]at st;have dv:Good s1:=by rw[dm];exact bZ hg hl _
  have v1:ay s1 dp 28 [bs,aw ((a+1:Nat):Int),aw 0,.bool false]:=by rw[dm];exact ay.set hg hl 28 _
  have on1:oh dp s s1:=⟨dv,by rw[dm];exact af _,λj _ hd=>by rw[dm,cj hg hl,aC hd]⟩
  have Rt:Sl s1.nx s1 4096 1 bs (dL L):=(h.row.an (on1.an hg h.var) λc m ro=>NW (by decide)).le on1.nx;have k0:=v1.ld K7 (o:=0) (by simp);have k1:=v1.ld bM (o:=1) (by simp);simp only[ae,aZ]at k0 k1;have w2:IntKind.i64.wrap (((a+1:Nat):Int)-1)=(a:Int):=by rw[wrap_i64 (by omega)];omega
  obtain⟨x,hx⟩:=dO (a%L.length);have Vf:x<L.length:=by rw[hx];exact uE _ (by omega)
  have rm:∀e c,eJ .rem e c (aw (L.length:Int)) (aw (a:Int))=some (aw (x:Int)):= λe c=>by rw[Wi _ _ _ (by omega),hx,agn (by omega)];rfl
  have hxi:x<(dL L).length:=by rw[eo];exact Vf
  have ix:=Rt.ix (P:=prog) (t:=22) hxi (k:= .i64);have ld:=Rt.ld aer hxi (x:= .int .u8 (L[x].toNat:Int)) (by simp[dL]);obtain⟨q,hq⟩:=dO (IntKind.i64.wrap ((a:Int).tdiv (L.length:Int)));have qu:∀e c,eJ .quo e c (aw (L.length:Int)) (aw (a:Int))=some (aw q):= λe c=>by rw[V2 _ _ _ (by omega),hq]
  obtain⟨y,hy⟩:∃y:Nat,IntKind.u8.wrap ((L[x].toNat:Int)+IntKind.u8.wrap q)=(y:Int)∧y<256:=by have:=wrap_u8 ((L[x].toNat:Int)+IntKind.u8.wrap q);exact⟨(IntKind.u8.wrap ((L[x].toNat:Int)+IntKind.u8.wrap q)).toNat,by omega,by omega⟩
  have w3:IntKind.i64.wrap (y:Int)=(y:Int):=wrap_i64 (by omega);have rm2:∀e c,eJ .rem e c (aw (k:Int)) (aw (y:Int))=some (aw ((y%k:Nat):Int)):= λe c=>by rw[Wi _ _ _ (by omega),agn (by omega)];rfl
  apply aT;unfold alF;apply ar;simp+decide only[ag,h0,cH,bO,aG,l1,w1,st];apply aT;unfold alG;apply gY;simp+decide only[ag,h0,h1,cH,bO,aG,k0,k1,w2,Rt.len,eo,cB Rt.same,rm,ix,ld,qu,Pz,hy.1,w3,rm2];exact aR (b6 (v:=aw ((y%k:Nat):Int)) (.inr rfl) (by simp+decide only[ag]) ⟨y%k,a+1,rfl,uE _ hk,on1,⟨v1,Rt⟩,af _⟩)
def Ii:fu prog 30=some 9:=by kernel_rfl
def K8:dW prog 9=some (1,[.string ⟨⟨[]⟩⟩]):=by kernel_rfl
def K9:isAgg prog 9=some false:=by kernel_rfl
def tw:dB prog 33 0=some (0,1):=by kernel_rfl
def Qy:dB prog 33 1=some (1,1):=by kernel_rfl
def Qz:dB prog 33 2=some (2,1):=by kernel_rfl
def QA:dB prog 33 3=some (3,1):=by kernel_rfl
def ajA (k:Nat):cA prog 33 [0] [aw (k:Int)]=some (.agg ⟨cu k false [] []⟩):=by refine fD u5 u6 ?_;show jq (dB prog 33) [(0,aw (k:Int))] _=_;rw[eV tw rfl (by simp[zeroV]),jV];rfl
def ajB (b:Bool):cA prog 33 [0,1] [aw 1,.bool b]=some (.agg ⟨cu 1 b [] []⟩):=by refine fD u5 u6 ?_;show jq (dB prog 33) [(0,aw 1),(1,.bool b)] _=_;rw[eV tw rfl (by simp[zeroV]),eV Qy rfl (by simp[zeroV,Value.cells]),jV];rfl
def ajC (t:List UInt8):cA prog 33 [0,2] [aw 2,.string ⟨⟨t⟩⟩]=some (.agg ⟨cu 2 false t []⟩):=by refine fD u5 u6 ?_;show jq (dB prog 33) [(0,aw 2),(2,.string ⟨⟨t⟩⟩)] _=_;rw[eV tw rfl (by simp[zeroV]),eV Qz rfl (by simp[zeroV,Value.cells]),jV];rfl
def ajD (t:List UInt8):cA prog 33 [0,3] [aw 3,.string ⟨⟨t⟩⟩]=some (.agg ⟨cu 3 false [] t⟩):=by refine fD u5 u6 ?_;show jq (dB prog 33) [(0,aw 3),(3,.string ⟨⟨t⟩⟩)] _=_;rw[eV tw rfl (by simp[zeroV]),eV QA rfl (by simp[zeroV,Value.cells]),jV];rfl
def ajE (hg:Good s) (a b c d e:Value) (ha:a.cells= #[a]) (hb:b.cells= #[b]) (hc:c.cells= #[c]) (hd:d.cells= #[d]) (he:e.cells= #[e]):bF prog 30 5 [0,1,2,3,4] s [a,b,c,d,e]=some (.slice (some ⟨s.nx,0,none⟩) 5 (bH 5),s.row 9 1 [[a],[b],[c],[d],[e]]):=by
 show ob (fu prog 30) (λt=>ob (dW prog t) λi=>aD (Nat.ble (Nat.mul 5 i.1) 16000000) (ob (tW i.2 5) λtX=>ob (iL i.1 [(0,a),(1,b),(2,c),(3,d),(4,e)] tX) λels=>jr s t i.1 els 5 5) none)=_;rw[Ii,cg,K8,cg];show ob (aD (Nat.beq (len a.cells.toList) 1) (ob (jE a.cells.toList 0 [[.string ⟨⟨[]⟩⟩],[.string ⟨⟨[]⟩⟩],[.string ⟨⟨[]⟩⟩],[.string ⟨⟨[]⟩⟩],[.string ⟨⟨[]⟩⟩]]) λr=>iL 1 [(1,b),(2,c),(3,d),(4,e)] r) none) (λels=>jr s 9 1 els 5 5)=_;rw[ha];show ob (aD (Nat.beq (len b.cells.toList) 1) (ob (jE b.cells.toList 1 [[a],[.string ⟨⟨[]⟩⟩],[.string ⟨⟨[]⟩⟩],[.string ⟨⟨[]⟩⟩],[.string ⟨⟨[]⟩⟩]]) λr=>iL 1 [(2,c),(3,d),(4,e)] r) none) (λels=>jr s 9 1 els 5 5)=_;rw[hb];show ob (aD (Nat.beq (len c.cells.toList) 1) (ob (jE c.cells.toList 2 [[a],[b],[.string ⟨⟨[]⟩⟩],[.string ⟨⟨[]⟩⟩],[.string ⟨⟨[]⟩⟩]]) λr=>iL 1 [(3,d),(4,e)] r) none) (λels=>jr s 9 1 els 5 5)=_;rw[hc];show ob (aD (Nat.beq (len d.cells.toList) 1) (ob (jE d.cells.toList 3 [[a],[b],[c],[.string ⟨⟨[]⟩⟩],[.string ⟨⟨[]⟩⟩]]) λr=>iL 1 [(4,e)] r) none) (λels=>jr s 9 1 els 5 5)=_;rw[hd];show ob (aD (Nat.beq (len e.cells.toList) 1) (ob (jE e.cells.toList 4 [[a],[b],[c],[d],[.string ⟨⟨[]⟩⟩]]) λr=>iL 1 [] r) none) (λels=>jr s 9 1 els 5 5)=_;rw[he];show jr s 9 1 [[a],[b],[c],[d],[e]] 5 5=_;exact oe (els:= [[a],[b],[c],[d],[e]]) hg 9 1 5 (λl hl=>by simp only[bu,aX,db]at hl;rcases hl with rfl|rfl|rfl|rfl|rfl<;>rfl)
def ay.only {dp:Nat} (h:ay s b t vs) (hg:Good s) (ho:oh dp s s') (ed:b≠dp):ay s' b t vs:=h.eq (ho.eb _ (h.lt hg) ed)
def oh.wr {dp b:Nat} {s0 s:AS} (h:oh dp s0 s) (hb:s0.nx<=b) (hl:b<s.nx) (k:Option eX):oh dp s0 (s.wr b k):=⟨bZ h.bt hl k,h.nx,λj hj hd=>by rw[cj h.bt hl,aC (by omega)];exact h.eb j hj hd⟩
def DS.wr {s:AS} {dp a b t:Nat} {bs:Value} {L:List UInt8} {vs us:LVal} (h:DS s dp bs L a) (hg:Good s) (hv:ay s b t vs) (ht:t≠28∧t≠4096) (hb:b≠dp):DS (s.wr b (some (ca t us))) dp bs L a:=by
 have hl:=hv.lt hg;refine⟨h.var.wr hg hl (λe=>hb e.symm) _,?_⟩;have hk:eu (λx=>∃v,x=ca t v) s (s.wr b (some (ca t us))):=⟨bZ hg hl _,af _,λj x hx hn=>by
  by_cases e:j=b
  ·subst e;unfold ay at hv;rw[hv]at hx;cases hx;exact(hn ⟨_,rfl⟩).elim
  ·rw[cj hg hl,aC e];exact hx⟩
 exact h.row.an hk λc m ro ⟨v,hv⟩=>by
  unfold ca at hv;injection hv with _ _ _ _ h5
  exact ht.2 h5.symm
def uY {dp a' tag:Nat} {bs:Value} {L:List UInt8} {bb:Bool} {num str:List UInt8} (hc:(tag,bb,num,str)∈consts) (ho:oh dp s0 s) (hd:DS s dp bs L a') (ha:a'<=a+2) (hv:ay s b 33 zeroV) (hb:s0.nx<=b) (hbd:dp<s0.nx):
  ∃s',jK 7 s (a8 b) (.agg ⟨cu tag bb num str⟩)=some (.tuple #[],s')∧∀(m:TM 32) (x:cZ),(x= .normal∨x= .ret)->m.get 2=some (a8 b)->Bq prog [.cell 2 33] (λr s'=>∃tag bb num str a',r= .agg ⟨cu tag bb num str⟩∧(tag,bb,num,str)∈consts∧oh dp s0 s'∧DS s' dp bs L a'∧a'<=a+2) x m s':=by
 have hg:=ho.bt;have st:=hv.kU hg (us:=cu tag bb num str) (k:=7) rfl rfl (by decide) rfl;have hl:=hv.lt hg;refine⟨_,st,λm x hx h2=>?_⟩;have v':=ay.set hg hl 33 (cu tag bb num str);have ld:=v'.eA oY oZ (o:=0) (by show 0+7<=7;decide) (by decide);exact tM (u:=a8 b) (v:= .agg ⟨cu tag bb num str⟩) hx h2 ld ⟨tag,bb,num,str,a',rfl,hc,ho.wr hb hl _,hd.wr hg hv (by decide) (by omega),ha⟩
def Yv (n:Nat) {dp:Nat} {bs:Value} {L:List UInt8} (hg:Good s) (h:DS s dp bs L a) (ha:a<900000) (hL:L.length<=1000000):
  cp (aE (n+2) (dJ 27) [a8 dp] s) (λr s'=>∃tag bb num str a',r= .agg ⟨cu tag bb num str⟩∧(tag,bb,num,str)∈consts∧oh dp s s'∧DS s' dp bs L a'∧a'<=a+2):=by
 rw[aKl];refine bG (by simp) λm hm=>?_;have h0:m.get 0=some (a8 dp):=by rw[hm];rfl
 clear hm;have hdp:=h.var.lt hg;obtain⟨s1,dm⟩:=dO (s.add (ca 33 zeroV));have dv:=cz dm hg;have n1:s1.nx=s.nx+1:=by rw[dm];rfl
 have v1:=jS dm hg;have fV:=cM dm hg;have al1:∀lo tm,tB 33 [aw 0,.bool false,.string ⟨⟨[]⟩⟩,.string ⟨⟨[]⟩⟩,.slice none 0 0,.slice none 0 0,aw 0] lo tm s=some (a8 s.nx,s1):= λlo tm=>by rw[dm];exact iH hg 33 _
 have d1:=h.grown hg fV;obtain⟨_,s2,e2,i,a2,rfl,hi,o2,d2,ha2⟩:=zg n dv d1 (by omega) hL (k:=8) (by decide) (by decide);have e2:aE (n+1) (dJ 26) [a8 dp,aw 8] s1= .val (aw (i:Int)) s2:=e2;have o02:oh dp s s2:=fV.only.trans o2;have v2:=v1.only dv o2 (by omega);have dI:=o2.bt;have n2:=o2.nx;unfold c27;apply aT;unfold alH;apply ar;simp+decide only[ag,al1];apply dh;unfold alI;apply ar;simp+decide only[ag,h0,e2];have test:∀k:Nat,decide ((i:Int)=(k:Int))=decide (i=k):= λk=>by
  by_cases e:i=k
  ·rw[aL e,aL (by omega)]
  ·rw[az e,az (by omega)]
 have t0:decide ((i:Int)=0)=decide (i=0):=test 0;have t1:decide ((i:Int)=1)=decide (i=1):=test 1;have t2:decide ((i:Int)=2)=decide (i=2):=test 2;have t3:decide ((i:Int)=3)=decide (i=3):=test 3;have t4:decide ((i:Int)=4)=decide (i=4):=test 4;refine bY (aT ?_);unfold alJ;apply ar;simp+decide only[ag,t0];by_cases i0:i=0
 ·rw[aL i0];refine iP (by simp+decide only[ag]) ?_;obtain⟨s3,st3,fin⟩:=uY (tag:=0) (bb:=false) (num:= []) (str:= []) (by decide) o02 d2 (show a2<=a+2 by omega) v2 (af _) hdp;have st3:jK 7 s2 (a8 s.nx) (.agg ⟨zeroV⟩)=some (.tuple #[],s3):=st3;apply aT;unfold alK;apply ar;simp+decide only[ag,B3,st3];apply aR;rw[mY,pL];exact fin _ _ (.inr rfl) (by simp+decide only[ag])
 rw[az i0];refine nN (by simp+decide only[ag]) ?_;apply aT;unfold alL;apply ar;simp+decide only[ag,t1];by_cases i1:i=1
 ·rw[aL i1];refine iP (by simp+decide only[ag]) ?_;obtain⟨_,s3,e3,j,a3,rfl,hj,o3,d3,ha3⟩:=zg n dI d2 (by omega) hL (k:=2) (by decide) (by decide);have e3:aE (n+1) (dJ 26) [a8 dp,aw 2] s2= .val (aw (j:Int)) s3:=e3;have v3:=v2.only dI o3 (by omega);obtain⟨s4,Zp,fin⟩:=uY (tag:=1) (bb:=decide ((j:Int)=1)) (num:= []) (str:= []) (by cases decide ((j:Int)=1)<;>decide) (o02.trans o3) d3 (show a3<=a+2 by omega) v3 (af _) hdp;apply aT;unfold alM;apply ar;simp+decide only[ag,h0,e3,ajB,Zp];apply aR;rw[mY,pL];exact fin _ _ (.inr rfl) (by simp+decide only[ag])
 rw[az i1];refine nN (by simp+decide only[ag]) ?_;have strs:i=2∨i=3->∀m:TM 32,m.get 0=some (a8 dp)->m.get 2=some (a8 s.nx)->WC (aE (n+1)) (ah aaY (aQ .ret)) (yX 0 (Seq (aE (n+1)) (ah SL (aQ .ret)) (Bq prog [.cell 2 33] (λr s'=>∃tag bb num str a',r= .agg ⟨cu tag bb num str⟩∧(tag,bb,num,str)∈consts∧oh dp s s'∧DS s' dp bs L a'∧a'<=a+2)))) m s2:=by
  intro _ m h0 h2;have hb:=vG (t:=30) (v:= .string ⟨⟨[97]⟩⟩) (u:= .string ⟨⟨[98]⟩⟩) dI Ii K8 rfl rfl;obtain⟨s3,gy⟩:=dO (s2.row 9 1 [[.string ⟨⟨[97]⟩⟩],[.string ⟨⟨[98]⟩⟩]]);have iZ:Grown s2.nx s2 s3:=by rw[gy];exact(Grown.refl dI _).row (af _) _ _ _
  have WW:bE s3 s2.nx 9 1 false [[.string ⟨⟨[97]⟩⟩],[.string ⟨⟨[98]⟩⟩]]:=by rw[gy];exact bE.new dI 9 1 _
  rw[<-gy]at hb;have n3:s3.nx=s2.nx+1:=by rw[gy];rfl
  have gQ:=iZ.bt;have d3:=d2.grown dI iZ;obtain⟨_,s4,e4,j,a4,rfl,hj,o4,d4,ha4⟩:=zg n gQ d3 (by omega) hL (k:=2) (by decide) (by decide);have e4:aE (n+1) (dJ 26) [a8 dp,aw 2] s3= .val (aw (j:Int)) s4:=e4;have aar:bE s4 s2.nx 9 1 false [[.string ⟨⟨[97]⟩⟩],[.string ⟨⟨[98]⟩⟩]]:=WW.ext (o4.eb _ (by omega) (by omega));have sl4:=Sl.full (c:=bH 2) (aar.lt o4.bt) aar (by rw[(cR _).1];exact af _) (.inl (cR _).2);have sl4:Sl s4.nx s4 9 1 (.slice (some ⟨s2.nx,0,none⟩) 2 (bH 2)) [[.string ⟨⟨[97]⟩⟩],[.string ⟨⟨[98]⟩⟩]]:=sl4;have ix:=sl4.ix (P:=prog) (t:=30) (i:=j) (by simpa using hj) (k:= .i64);obtain⟨str,apg,fU⟩:∃str,([[.string ⟨⟨[97]⟩⟩],[.string ⟨⟨[98]⟩⟩]]:List LVal)[j]? =some [.string ⟨⟨str⟩⟩]∧(3,false,[],str)∈consts:=by
   match j,hj with
   |0,_=>exact⟨[97],rfl,by decide⟩
   |1,_=>exact⟨[98],rfl,by decide⟩
  obtain⟨q1,q2⟩:=List.getElem?_eq_some_iff.1 apg;have ld:=sl4.ld K9 q1 q2;have v4:=(v2.grown iZ (by omega)).only gQ o4 (by omega);obtain⟨s5,Lw,fin⟩:=uY fU (o02.trans (iZ.only.trans o4)) d4 (show a4<=a+2 by omega) v4 (af _) hdp;apply aT;unfold aaY;apply ar;simp+decide only[ag,h0,h2,hb,e4,ix,ld,ajD,Lw];apply aR;rw[mY,pL];exact fin _ _ (.inr rfl) (by simp+decide only[ag,h2])
 apply dh;unfold alN;apply ar;simp+decide only[ag,t2];by_cases i2:i=2
 ·rw[aL i2];refine iP (by simp+decide only[ag]) ?_;apply aR;refine iP (by simp+decide only[ag]) ?_;exact strs (.inl i2) _ (by simp+decide only[ag,h0]) (by simp+decide only[ag])
 rw[az i2];refine nN (by simp+decide only[ag]) ?_;unfold alO;apply ar;simp+decide only[ag,t3];by_cases i3:i=3
 ·rw[aL i3];refine iP (by simp+decide only[ag]) ?_;exact strs (.inr i3) _ (by simp+decide only[ag,h0]) (by simp+decide only[ag])
 rw[az i3];refine nN (by simp+decide only[ag]) ?_;apply aT;unfold alP;apply ar;simp+decide only[ag,t4];by_cases i4:i=4
 ·rw[aL i4];refine iP (by simp+decide only[ag]) ?_;obtain⟨s3,st3,fin⟩:=uY (tag:=4) (bb:=false) (num:= []) (str:= []) (by decide) o02 d2 (show a2<=a+2 by omega) v2 (af _) hdp;have bc:cA prog 33 [0] [aw 4]=some (.agg ⟨cu 4 false [] []⟩):=ajA 4;apply aT;unfold acd;apply ar;simp+decide only[ag,bc,st3];apply aR;rw[mY,pL];exact fin _ _ (.inr rfl) (by simp+decide only[ag])
 rw[az i4];refine dD (by simp+decide only[ag]) ?_;simp+decide only[ag];have hb:=ajE dI (.string ⟨⟨[48]⟩⟩) (.string ⟨⟨[49]⟩⟩) (.string ⟨⟨[45,49]⟩⟩) (.string ⟨⟨[50]⟩⟩) (.string ⟨⟨[53]⟩⟩) rfl rfl rfl rfl rfl;obtain⟨R,hR⟩:∃R:List LVal,R= [[.string ⟨⟨[48]⟩⟩],[.string ⟨⟨[49]⟩⟩],[.string ⟨⟨[45,49]⟩⟩],[.string ⟨⟨[50]⟩⟩],[.string ⟨⟨[53]⟩⟩]]:=⟨_,rfl⟩
 rw[<-hR]at hb;have hRl:R.length=5:=by rw[hR];rfl
 obtain⟨s3,gy⟩:=dO (s2.row 9 1 R);have iZ:Grown s2.nx s2 s3:=by rw[gy];exact(Grown.refl dI _).row (af _) _ _ _
 have WW:bE s3 s2.nx 9 1 false R:=by rw[gy];exact bE.new dI 9 1 _
 rw[<-gy]at hb;have n3:s3.nx=s2.nx+1:=by rw[gy];rfl
 have gQ:=iZ.bt;have d3:=d2.grown dI iZ;obtain⟨_,s4,e4,j,a4,rfl,hj,o4,d4,ha4⟩:=zg n gQ d3 (by omega) hL (k:=5) (by decide) (by decide);have e4:aE (n+1) (dJ 26) [a8 dp,aw 5] s3= .val (aw (j:Int)) s4:=e4;have aar:bE s4 s2.nx 9 1 false R:=WW.ext (o4.eb _ (by omega) (by omega));have sl4:=Sl.full (c:=bH 5) (aar.lt o4.bt) aar (by rw[(cR _).1,hRl];exact af _) (.inl (cR _).2);rw[hRl]at sl4;have ix:=sl4.ix (P:=prog) (t:=30) (i:=j) (by omega) (k:= .i64);obtain⟨str,apg,fU⟩:∃str,R[j]? =some [.string ⟨⟨str⟩⟩]∧(2,false,str,[])∈consts:=by
  rw[hR]
  match j,hj with
  |0,_=>exact⟨_,rfl,by decide⟩
  |1,_=>exact⟨_,rfl,by decide⟩
  |2,_=>exact⟨_,rfl,by decide⟩
  |3,_=>exact⟨_,rfl,by decide⟩
  |4,_=>exact⟨_,rfl,by decide⟩
 obtain⟨q1,q2⟩:=List.getElem?_eq_some_iff.1 apg;have ld:=sl4.ld K9 q1 q2;have v4:=(v2.grown iZ (by omega)).only gQ o4 (by omega);obtain⟨s5,Lw,fin⟩:=uY fU (o02.trans (iZ.only.trans o4)) d4 (show a4<=a+2 by omega) v4 (af _) hdp;apply aT;unfold SL;apply ar;simp+decide only[ag,h0,hb,e4,ix,ld,ajC,Lw];exact aR (fin _ _ (.inr rfl) (by simp+decide only[ag]))
def Ee:ir prog 36=true:=by kernel_rfl
def kY (kind id:Nat) (v:LVal) (w:Value):LVal:=aw (kind:Int)::aw (id:Int)::v++ [w]
def Ef:qB prog 36=some (kY 0 0 zeroV (.slice none 0 0)):=by kernel_rfl
def Fh:dB prog 36 0=some (0,1):=by kernel_rfl
def QB:dB prog 36 1=some (1,1):=by kernel_rfl
def QC:dB prog 36 2=some (2,7):=by kernel_rfl
def QD:dB prog 36 3=some (9,1):=by kernel_rfl
def La:isAgg prog 36=some true:=by kernel_rfl
def Lb:dc prog 36=some 10:=by kernel_rfl
def Lc:fu prog 34=some 36:=by kernel_rfl
def Ld:dW prog 36=some (10,kY 0 0 zeroV (.slice none 0 0)):=by kernel_rfl
def Yw (id:Nat):cA prog 36 [1] [aw (id:Int)]=some (.agg ⟨kY 0 id zeroV (.slice none 0 0)⟩):=by refine fD Ee Ef ?_;show jq (dB prog 36) [(1,aw (id:Int))] _=_;rw[eV QB rfl (by simp[kY,zeroV]),jV];rfl
def TQ (tag:Nat) (bb:Bool) (num str:List UInt8):cA prog 36 [0,2] [aw 2,.agg ⟨cu tag bb num str⟩]=some (.agg ⟨kY 2 0 (cu tag bb num str) (.slice none 0 0)⟩):=by refine fD Ee Ef ?_;show jq (dB prog 36) [(0,aw 2),(2,.agg ⟨cu tag bb num str⟩)] _=_;rw[eV Fh rfl (by simp[kY,zeroV]),eV QC (by rw[dn];rfl) (by simp[kY,zeroV,Value.cells]),jV,dn];rfl
def Ib (k:Nat) (v:Value) (hv:v.cells= #[v]):cA prog 36 [0,3] [aw (k:Int),v]=some (.agg ⟨kY k 0 zeroV v⟩):=by refine fD Ee Ef ?_;show jq (dB prog 36) [(0,aw (k:Int)),(3,v)] _=_;rw[eV Fh rfl (by simp[kY,zeroV]),eV QD (by rw[hv];rfl) (by simp[kY,zeroV,Value.cells]),jV,hv];rfl
def ajF {sz:Nat} {z:LVal} {w:Value} (hg:Good s) (he:fu prog t=some e) (hi:dW prog e=some (sz,z)) (eR:sz<=1000000) (hv:v.cells.toList.length=sz) (hu:u.cells.toList.length=sz) (hw:w.cells.toList.length=sz):bF prog t 3 [0,1,2] s [v,u,w]=some (.slice (some ⟨s.nx,0,none⟩) 3 (bH 3),s.row e sz [v.cells.toList,u.cells.toList,w.cells.toList]):=by
 show ob (fu prog t) (λe=>ob (dW prog e) λi=>aD (Nat.ble (Nat.mul 3 i.1) 16000000) (ob (tW i.2 3) λtX=>ob (iL i.1 [(0,v),(1,u),(2,w)] tX) λels=>jr s e i.1 els 3 3) none)=_;rw[he,cg,hi,cg];show aD (Nat.ble (Nat.mul 3 sz) 16000000) (ob (aD (Nat.beq (len v.cells.toList) sz) (ob (jE v.cells.toList 0 [z,z,z]) λr=>aD (Nat.beq (len u.cells.toList) sz) (ob (jE u.cells.toList 1 r) λr=>aD (Nat.beq (len w.cells.toList) sz) (ob (jE w.cells.toList 2 r) λr=>some r) none) none) none) (λels=>jr s e sz els 3 3)) none=_;rw[show Nat.ble (Nat.mul 3 sz) 16000000=true from bg (by show 3*sz<=_;omega),aS,dQ,hv,bj,dQ,hu,bj,dQ,hw,bj];exact oe (els:= [v.cells.toList,u.cells.toList,w.cells.toList]) hg e sz 3 (λl hl=>by
  simp at hl;rcases hl with rfl|rfl|rfl
  ·exact hv
  ·exact hu
  ·exact hw)
inductive DT (n:Nat) (s:AS):Nat->LVal->Prop where
 |var {d:Nat} (id:Nat) (h:id<5):DT n s d (kY 0 id zeroV (.slice none 0 0))
 |con {d tag:Nat} {bb:Bool} {num str:List UInt8} (h:(tag,bb,num,str)∈consts):DT n s d (kY 2 0 (cu tag bb num str) (.slice none 0 0))
 |sel {d:Nat} {w:Value} {x y:LVal} (h:Sl n s 36 10 w [x,y]) (hx:DT n s d x) (hy:DT n s d y):DT n s (d+1) (kY 3 0 zeroV w)
 |qi {d:Nat} {w:Value} {x y z:LVal} (h:Sl n s 36 10 w [x,y,z]) (hx:DT n s d x) (hy:DT n s d y) (hz:DT n s d z):DT n s (d+1) (kY 4 0 zeroV w)
def Sl.Va {T:eX->Prop} {sz:Nat} (h:Sl n s et sz v rows) (h2:2<=rows.length) (hk:eu T s s') (ht:∀c m ro,2<=m->¬T (.cells c sz m ro et)):Sl n s' et sz v rows:=by
 cases h with
 |nil=>exact .nil
 |mk hb h hl hr hc hx=>exact .mk hb (h.an hk λc=>ht c _ _ (by omega)) hl hr hc hx
def DT.an {T:eX->Prop} {n':Nat} {d:Nat} {c:LVal} (h:DT n s d c) (hk:eu T s s') (hn:n<=n') (ht:∀c m ro,2<=m->¬T (.cells c 10 m ro 36)):DT n' s' d c:=by
 induction h with
 |var id h=>exact .var id h
 |con h=>exact .con h
 |sel h _ _ ix iy=>exact .sel ((h.Va (by simp) hk ht).le hn) ix iy
 |qi h _ _ _ ix iy iz=>exact .qi ((h.Va (by simp) hk ht).le hn) ix iy iz
def DT.len {d:Nat} {c:LVal} (h:DT n s d c):c.length=10∧cP c=true:=by
 cases h with
 |var id h=>exact⟨rfl,rfl⟩
 |con h=>exact⟨rfl,rfl⟩
 |sel h _ _=>cases h;exact⟨rfl,rfl⟩
 |qi h _ _ _=>cases h;exact⟨rfl,rfl⟩
def DT.grown {d:Nat} {c:LVal} (h:DT s.nx s d c) (hg:Good s) (fN:Grown s.nx s s'):DT s'.nx s' d c:=h.an (fN.an (T:= λ_=>False) hg) fN.nx λ_ _ _ _ h=>h
def DT.only {dp:Nat} {d:Nat} {c v:LVal} (h:DT s.nx s d c) (hg:Good s) (ho:oh dp s s') (hv:ay s dp 28 v):DT s'.nx s' d c:=h.an (ho.an hg hv) ho.nx λ_ _ _ _=>NW (by decide)
def Cv {dp a' d:Nat} {bs:Value} {L:List UInt8} {c:LVal} (hc:DT s.nx s d c) (ho:oh dp s0 s) (hd:DS s dp bs L a') (ha:a'<=a+k) (hv:ay s b 36 (kY 0 0 zeroV (.slice none 0 0))) (hb:s0.nx<=b) (hbd:dp<s0.nx):
  ∃s',jK 10 s (a8 b) (.agg ⟨c⟩)=some (.tuple #[],s')∧∀(m:TM 80) (x:cZ),(x= .normal∨x= .ret)->m.get 6=some (a8 b)->Bq prog [.cell 6 36] (λr s'=>∃c a',r= .agg ⟨c⟩∧DT s'.nx s' d c∧oh dp s0 s'∧DS s' dp bs L a'∧a'<=a+k) x m s':=by
 have hg:=ho.bt;obtain⟨NU,h1⟩:=hc.len;have st:=hv.kU hg (us:=c) (k:=10) (by rw[NU];rfl) NU.symm (by decide) h1;have hl:=hv.lt hg;refine⟨_,st,λm x hx h2=>?_⟩;have v':=ay.set hg hl 36 c;have ld:=v'.eA La Lb (o:=0) (by rw[NU];decide) (by decide);rw[bK,aP (by omega)]at ld;have Iu:eu (λx=>∃v,x=ca 36 v) s (s.wr b (some (ca 36 c))):=⟨bZ hg hl _,af _,λj x hx hn=>by
  by_cases e:j=b
  ·subst e;unfold ay at hv;rw[hv]at hx;cases hx;exact(hn ⟨_,rfl⟩).elim
  ·rw[cj hg hl,aC e];exact hx⟩
 refine tM (u:=a8 b) (v:= .agg ⟨c⟩) hx h2 ld ⟨c,a',rfl,hc.an Iu (af _) λc m ro hm ⟨v,hv⟩=>?_,ho.wr hb hl _,hd.wr hg hv (by decide) (by omega),ha⟩;unfold ca at hv;injection hv with _ _ h3 _ _
 omega
def Ic {dp:Nat} {bs:Value} {L:List UInt8} (hL:L.length<=1000000) (m' d:Nat) (hd2:d<=2) (ih:∀d',d=d'+1->∀ {s:AS} {a:Nat},Good s->DS s dp bs L a->a+4^(d'+1)<=800000->cp (aE (m'+2) (dJ 7) [a8 dp,aw (d':Int),aw 0] s) (λr s'=>∃c a',r= .agg ⟨c⟩∧DT s'.nx s' d' c∧oh dp s s'∧DS s' dp bs L a'∧a'<=a+4^(d'+1))) (hg:Good s) (h:DS s dp bs L a) (ha:a+4^(d+1)<=800000):
  cp (aE (m'+3) (dJ 7) [a8 dp,aw (d:Int),aw 0] s) (λr s'=>∃c a',r= .agg ⟨c⟩∧DT s'.nx s' d c∧oh dp s s'∧DS s' dp bs L a'∧a'<=a+4^(d+1)):=by
 rw[ev7];refine bG (by simp) λm hm=>?_;have h0:m.get 0=some (a8 dp):=by rw[hm];rfl
 have h1:m.get 1=some (aw (d:Int)):=by rw[hm];rfl
 have h2:m.get 2=some (aw 0):=by rw[hm];rfl
 clear hm;have hdp:=h.var.lt hg;have pw:4^(d+1)=4*4^d:=by rw[ayI];omega
 have pw1:1<=4^d:=Nat.one_le_pow _ _ (by decide);obtain⟨s1,dm⟩:=dO (s.add (ca 36 (kY 0 0 zeroV (.slice none 0 0))));have dv:=cz dm hg;have n1:s1.nx=s.nx+1:=by rw[dm];rfl
 have v1:=jS dm hg;have fV:=cM dm hg;have al1:∀lo tm,tB 36 [aw 0,aw 0,aw 0,.bool false,.string ⟨⟨[]⟩⟩,.string ⟨⟨[]⟩⟩,.slice none 0 0,.slice none 0 0,aw 0,.slice none 0 0] lo tm s=some (a8 s.nx,s1):= λlo tm=>by rw[dm];exact iH hg 36 _
 have d1:=h.grown hg fV;obtain⟨_,s2,e2,i,a2,rfl,hi,o2,d2,ha2⟩:=zg (m'+1) dv d1 (by omega) hL (k:=8) (by decide) (by decide);have e2:aE (m'+2) (dJ 26) [a8 dp,aw 8] s1= .val (aw (i:Int)) s2:=e2;have o02:oh dp s s2:=fV.only.trans o2;have v2:=v1.only dv o2 (by omega);have dI:=o2.bt;have n2:=o2.nx;unfold c7;apply aT;unfold axv;apply ar;simp+decide only[ag,al1];apply dh;unfold axw;apply ar;simp+decide only[ag,h0,e2];have test:∀k:Nat,decide ((i:Int)<(k:Int))=decide (i<k):= λk=>by
  by_cases e:i<k
  ·rw[aL e,aL (by omega)]
  ·rw[az e,az (by omega)]
 have t3:decide ((i:Int)<3)=decide (i<3):=test 3;have t4:decide ((i:Int)<4)=decide (i<4):=test 4;have t6:decide ((i:Int)<6)=decide (i<6):=test 6;have t7:decide ((i:Int)<7)=decide (i<7):=test 7;refine bY (aT ?_);unfold axx;apply ar;simp+decide only[ag,t3];by_cases i3:i<3
 ·rw[aL i3];refine iP (by simp+decide only[ag]) ?_;obtain⟨_,s3,e3,j,a3,rfl,hj,o3,d3,ha3⟩:=zg (m'+1) dI d2 (by omega) hL (k:=4) (by decide) (by decide);have e3:aE (m'+2) (dJ 26) [a8 dp,aw 4] s2= .val (aw (j:Int)) s3:=e3;have v3:=v2.only dI o3 (by omega);have w1:IntKind.i64.wrap (1+(j:Int))=((1+j:Nat):Int):=by rw[wrap_i64 (by omega)];omega
  obtain⟨s4,Zp,fin⟩:=Cv (k:=4^(d+1)) (DT.var (d:=d) (n:=s3.nx) (s:=s3) (1+j) (by omega)) (o02.trans o3) d3 (show a3<=a+4^(d+1) by omega) v3 (af _) hdp;apply aT;unfold axy;apply ar;simp+decide only[ag,h0,e3,w1,Yw,Zp];apply aR;rw[mY,pL];exact fin _ _ (.inr rfl) (by simp+decide only[ag])
 rw[az i3];refine nN (by simp+decide only[ag]) ?_;apply aT;unfold axz;apply ar;have lp2:=d2.var.ld bM (o:=2) (by simp);simp only[ae,aZ]at lp2;have w0:IntKind.i64.wrap ((0:Int)+0)=0:=rfl;have d00:decide ((0:Int)<0)=false:=rfl;have rest:∀m:TM 80,m.get 0=some (a8 dp)->m.get 1=some (aw (d:Int))->m.get 2=some (aw 0)->m.get 6=some (a8 s.nx)->m.get 7=some (aw (i:Int))->WC (aE (m'+2)) (ah an4 (bw (aK 38) (ah afS (aQ .ret)) (ah an5 (bw (aK 48) (ah an6 (aQ .ret)) (aQ .normal))))) (yX 0 (Seq (aE (m'+2)) (ah UD (aQ .ret)) (Bq prog [.cell 6 36] (λr s'=>∃c a',r= .agg ⟨c⟩∧DT s'.nx s' d c∧oh dp s s'∧DS s' dp bs L a'∧a'<=a+4^(d+1))))) m s2:=by
  intro m h0 h1 h2 h6 h7;apply aT;unfold an4;apply ar;have const:∀m:TM 80,m.get 0=some (a8 dp)->m.get 6=some (a8 s.nx)->WC (aE (m'+2)) (ah afS (aQ .ret)) (yX 0 (Seq (aE (m'+2)) (ah UD (aQ .ret)) (Bq prog [.cell 6 36] (λr s'=>∃c a',r= .agg ⟨c⟩∧DT s'.nx s' d c∧oh dp s s'∧DS s' dp bs L a'∧a'<=a+4^(d+1))))) m s2:=by intro m h0 h6;obtain⟨_,s3,e3,tag,bb,num,str,a3,rfl,hc,o3,d3,ha3⟩:=Yv m' dI d2 (by omega) hL;have v3:=v2.only dI o3 (by omega);obtain⟨s4,Zp,fin⟩:=Cv (k:=4^(d+1)) (DT.con (d:=d) (n:=s3.nx) (s:=s3) hc) (o02.trans o3) d3 (show a3<=a+4^(d+1) by omega) v3 (af _) hdp;apply aT;unfold afS;apply ar;simp+decide only[ag,h0,h6,e3,TQ,Zp];apply aR;rw[mY,pL];exact fin _ _ (.inr rfl) (by simp+decide only[ag,h6])
  by_cases i6:i<6
  ·have d6:decide (i<6)=true:=aL i6;simp+decide only[ag,h7,t6,d6];refine iP (by simp+decide only[ag]) ?_;exact const _ (by simp+decide only[ag,h0]) (by simp+decide only[ag,h6])
  have d6:decide (i<6)=false:=az i6;by_cases hd:d=0
  ·have dd:decide ((d:Int)<1)=true:=aL (by omega);simp+decide only[ag,h1,h7,t6,d6,dd];refine iP (by simp+decide only[ag]) ?_;exact const _ (by simp+decide only[ag,h0]) (by simp+decide only[ag,h6])
  have dd:decide ((d:Int)<1)=false:=az (by omega);simp+decide only[ag,h1,h7,t6,d6,dd];refine nN (by simp+decide only[ag]) ?_;obtain⟨d',rfl⟩:∃d',d=d'+1:=⟨d-1,by omega⟩
  have ih:= @ih d' rfl;have w1:IntKind.i64.wrap (((d'+1:Nat):Int)-1)=(d':Int):=by rw[wrap_i64 (by omega)];omega
  have pw':4^(d'+1+1)=4*4^(d'+1):=by rw[ayI];omega
  obtain⟨_,s3,e3,x,a3,rfl,dx3,o3,d3,ha3⟩:=ih dI d2 (by omega);have gQ:=o3.bt;obtain⟨_,s4,e4,y,a4,rfl,dy4,o4,d4,ha4⟩:=ih gQ d3 (by omega);have iI:=o4.bt;have dx4:=dx3.only gQ o4 d3.var;have o04:oh dp s s4:=(o02.trans o3).trans o4;have v4:=(v2.only dI o3 (by omega)).only gQ o4 (by omega);have n3:=o3.nx;have n4:=o4.nx;apply aT;unfold an5;apply ar;simp+decide only[ag,h7,t7];by_cases i7:i<7
  ·rw[aL i7];refine iP (by simp+decide only[ag]) ?_;have hb:=MD (t:=34) (v:= .agg ⟨x⟩) (u:= .agg ⟨y⟩) iI Lc Ld (by decide) (by rw[dn];exact dx4.len.1) (by rw[dn];exact dy4.len.1);rw[dn,dn]at hb;obtain⟨s5,oE⟩:=dO (s4.row 36 10 [x,y]);rw[<-oE]at hb;have lE:Grown s4.nx s4 s5:=by rw[oE];exact(Grown.refl iI _).row (af _) _ _ _
   have I4:bE s5 s4.nx 36 10 false [x,y]:=by rw[oE];exact bE.new iI 36 10 _
   have sl5:=Sl.full (c:=bH 2) (I4.lt lE.bt) I4 (by rw[(cR _).1];exact af _) (.inl (cR _).2);obtain⟨s6,LG,fin⟩:=Cv (k:=4^(d'+1+1)) (DT.sel sl5 (dx4.grown iI lE) (dy4.grown iI lE)) (o04.trans lE.only) (d4.grown iI lE) (show a4<=a+4^(d'+1+1) by omega) (v4.grown lE (by omega)) (af _) hdp;have bs3:cA prog 36 [0,3] [aw 3,.slice (some ⟨s4.nx,0,none⟩) 2 (bH 2)]=some (.agg ⟨kY 3 0 zeroV (.slice (some ⟨s4.nx,0,none⟩) 2 (bH 2))⟩):=Ib 3 _ rfl;have LG:jK 10 s5 (a8 s.nx) (.agg ⟨kY 3 0 zeroV (.slice (some ⟨s4.nx,0,none⟩) 2 (bH 2))⟩)=some (.tuple #[],s6):=LG;apply aT;unfold an6;apply ar;simp+decide only[ag,h0,h1,h2,h6,w1,e3,e4,hb,bs3,LG];apply aR;rw[mY,pL];exact fin _ _ (.inr rfl) (by simp+decide only[ag,h6])
  ·rw[az i7];refine dD (by simp+decide only[ag]) ?_;rw[Sk,Oo];obtain⟨_,s5,e5,z,a5,rfl,dz5,o5,d5,ha5⟩:=ih iI d4 (by omega);have jm:=o5.bt;have n5:=o5.nx;have dx5:=dx4.only iI o5 d4.var;have dy5:=dy4.only iI o5 d4.var;have v5:=v4.only iI o5 (by omega);have hb:=ajF (t:=34) (v:= .agg ⟨x⟩) (u:= .agg ⟨y⟩) (w:= .agg ⟨z⟩) jm Lc Ld (by decide) (by rw[dn];exact dx5.len.1) (by rw[dn];exact dy5.len.1) (by rw[dn];exact dz5.len.1);rw[dn,dn,dn]at hb;obtain⟨s6,qj⟩:=dO (s5.row 36 10 [x,y,z]);rw[<-qj]at hb;have zQ:Grown s5.nx s5 s6:=by rw[qj];exact(Grown.refl jm _).row (af _) _ _ _
   have Q8:bE s6 s5.nx 36 10 false [x,y,z]:=by rw[qj];exact bE.new jm 36 10 _
   have sl6:=Sl.full (c:=bH 3) (Q8.lt zQ.bt) Q8 (by rw[(cR _).1];exact af _) (.inl (cR _).2);obtain⟨s7,Vu,fin⟩:=Cv (k:=4^(d'+1+1)) (DT.qi sl6 (dx5.grown jm zQ) (dy5.grown jm zQ) (dz5.grown jm zQ)) ((o04.trans o5).trans zQ.only) (d5.grown jm zQ) (show a5<=a+4^(d'+1+1) by omega) (v5.grown zQ (by omega)) (af _) hdp;have bs4:cA prog 36 [0,3] [aw 4,.slice (some ⟨s5.nx,0,none⟩) 3 (bH 3)]=some (.agg ⟨kY 4 0 zeroV (.slice (some ⟨s5.nx,0,none⟩) 3 (bH 3))⟩):=Ib 4 _ rfl;have Vu:jK 10 s6 (a8 s.nx) (.agg ⟨kY 4 0 zeroV (.slice (some ⟨s5.nx,0,none⟩) 3 (bH 3))⟩)=some (.tuple #[],s7):=Vu;apply aT;unfold UD;apply ar;simp+decide only[ag,h0,h1,h2,h6,w1,e3,e4,e5,hb,bs4,Vu];exact aR (fin _ _ (.inr rfl) (by simp+decide only[ag,h6]))
 by_cases i4:i<4
 ·have d4:decide (i<4)=true:=aL i4;simp+decide only[ag,h0,h2,t4,d4,cH,bO,aG,lp2,w0,d00];refine nN (by simp+decide only[ag]) ?_;exact rest _ (by simp+decide only[ag,h0]) (by simp+decide only[ag,h1]) (by simp+decide only[ag,h2]) (by simp+decide only[ag]) (by simp+decide only[ag])
 ·have d4:decide (i<4)=false:=az i4;simp+decide only[ag,h0,h2,t4,d4];refine nN (by simp+decide only[ag]) ?_;exact rest _ (by simp+decide only[ag,h0]) (by simp+decide only[ag,h1]) (by simp+decide only[ag,h2]) (by simp+decide only[ag]) (by simp+decide only[ag])
def aee {dp:Nat} {bs:Value} {L:List UInt8} (hL:L.length<=1000000) (n:Nat):∀(d:Nat) {s:AS} {a:Nat},Good s->DS s dp bs L a->d<=2->a+4^(d+1)<=800000->
  cp (aE (n+3+d) (dJ 7) [a8 dp,aw (d:Int),aw 0] s) (λr s'=>∃c a',r= .agg ⟨c⟩∧DT s'.nx s' d c∧oh dp s s'∧DS s' dp bs L a'∧a'<=a+4^(d+1)):=by
 intro d;induction d with
 |zero=>intro s a hg h hd ha;exact Ic hL n 0 (by decide) (λd' h=>by omega) hg h ha
 |succ d ih=>
  intro s a hg h hd ha;have:=Ic hL (n+1+d) (d+1) hd (λd' Ir=>by
   have e:d'=d:=by omega
   subst e;intro s a hg h ha;have:=ih hg h (by omega) ha;rw[show n+1+d'+2=n+3+d' by omega];exact this) hg h ha
  rw[show n+3+(d+1)=n+1+d+3 by omega];exact this
def YV:isAgg prog 34=some false:=by kernel_rfl
def LS.frame (hg:Good s) (h:LS s d σ φ) (hn:s.nx<=s'.nx) (ho:∀b,o=some b->(∀e∈φ,∀b' of m c,e.kv= .slice (some ⟨b',of,none⟩) m c->b'≠b)∧∃c sz n ro,s.h.get b=some (.cells c sz n ro 3)) (hq:∀q b,s.h.get q=some b->some q≠o->s'.h.get q=some b):LS s' d σ φ:=by
 have hc:∀ {q sz n et:Nat} {c:T LVal} {ro:Bool},s.h.get q=some (.cells c sz n ro et)->et≠3->s'.h.get q=some (.cells c sz n ro et):= λ {q sz n et c ro} h1 h3=>hq q _ h1 (λe=>by obtain⟨_,c',vV,n',ro',h4⟩:=ho q e.symm;rw[h1]at h4;cases h4;exact h3 rfl)
 have hv:∀ {q t:Nat} {vs:LVal},ay s q t vs->t≠3->ay s' q t vs:= λh1 h3=>hc h1 h3;have hmp:∀ {q kt ck:Nat} {es:List (Value×Value×Nat)},cy s q kt es ck->cy s' q kt es ck:= λ {q kt ck es} h1=>hq q _ h1 (λe=>by obtain⟨_,c',vV,n',ro',h4⟩:=ho q e.symm;have h1:s.h.get q=_:=h1;rw[h1]at h4;cases h4)
 have how:∀ {n et sz:Nat} {v:Value} {R:List LVal} {ob':Option Nat},Own n s et sz v R ob'->et≠3->Own n s' et sz v R ob':= λ {n et sz v R ob'} h1 h3=>h1.ext hg λq _ b hb LF=>by subst LF;subst hb;obtain⟨c,m,h4⟩:=h1.jI;rw[hc h4 h3,h4]
 obtain⟨ob',fL⟩:=h.rows;obtain⟨tb,hto,htb⟩:=h.ts.rows;refine⟨hv h.own (by decide),⟨hv h.ts.own (by decide),⟨tb,how hto (by decide),htb⟩,hmp h.ts.found,h.ts.pq,h.ts.ua,h.ts.Iv,h.ts.nodup,λe he=>?_,h.ts.xL,h.ts.wf⟩,⟨ob',how fL (by decide)⟩,hmp h.found,h.uc,λe he=>?_,h.Iv,h.nodup⟩
 ·obtain⟨es,ck,h1,h2⟩:=h.ts.vars e he;exact⟨es,ck,hmp h1,h2⟩
 ·have hk:=h.kids e he;have wW:= λb hb=>(ho b hb).1 e he;generalize e.kv=kv at hk wW;generalize ints e.kids=rr at hk;cases hk with
  |nil=>exact .nil
  | @mk b o' c ro R rows hb h1 hl hr hcc hx=>obtain⟨cc,h2,h3⟩:=h1.row;exact .mk (by omega) ⟨cc,hq _ _ h2 (λe=>wW b e.symm b _ _ _ rfl rfl),h3⟩ hl hr hcc hx
structure MR (s0:AS) (d0:LV) (ma:List cx) (φ:List dA) (k:Nat) (s:AS) (v:Value) (σ:List cx):Prop where
 an:eu TyT s0 s
 ls:LS s {d0 with v:=v} σ φ
 ext:∃ρ,σ=ma++ρ∧ρ.length<=k
def MR.len {d0:LV} {ma:List cx} (h:MR s0 d0 ma φ k s v σ):ma.length<=σ.length∧σ.length<=ma.length+k:=by obtain⟨ρ,h1,h2⟩:=h.ext;rw[h1];simp;omega
def MR.get {d0:LV} {ma:List cx} (h:MR s0 d0 ma φ k s v σ) (hi:i<ma.length):i<σ.length∧dC σ i=dC ma i:=by obtain⟨ρ,h1,h2⟩:=h.ext;subst h1;refine⟨by simp;omega,?_⟩;unfold dC;rw[cD hi]
def MR.trans {s0:AS} {d0:LV} {ma:List cx} {φ:List dA} {k k':Nat} {s s':AS} {v v':Value} {σ Ds:List cx} (h:MR s0 d0 ma φ k s v σ) (h':MR s {d0 with v:=v} σ φ k' s' v' Ds):MR s0 d0 ma φ (k+k') s' v' Ds:=by obtain⟨ρ,h1,h2⟩:=h.ext;obtain⟨ρ',h3,h4⟩:=h'.ext;exact⟨h.an.trans h'.an,h'.ls,ρ++ρ',by rw[h3,h1,ey],by simp;omega⟩
def MR.mono {d0:LV} {ma:List cx} {k':Nat} (h:MR s0 d0 ma φ k s v σ) (hk:k<=k'):MR s0 d0 ma φ k' s v σ:=by obtain⟨ρ,h1,h2⟩:=h.ext;exact⟨h.an,h.ls,ρ,h1,by omega⟩
def MR.grown {d0:LV} {ma:List cx} (h:MR s0 d0 ma φ k s v σ) (hg:Grown s.nx s s'):MR s0 d0 ma φ k s' v σ:=⟨h.an.trans (hg.an h.an.bt),h.ls.ext h.an.bt hg,h.ext⟩
def MR.refl {s0:AS} {d0:LV} {ma:List cx} {φ:List dA} (hg:Good s0) (h:LS s0 d0 ma φ):MR s0 d0 ma φ 0 s0 d0.v ma:=⟨(Grown.refl hg _).an hg,h,[],by simp,af _⟩
def GD {c:T LVal} {sz m:Nat} {ro:Bool} (h:et≠118∧et≠125):¬TyT (.cells c sz m ro et):=by
 rintro(h1|h1)
 ·exact h.1 h1
 ·exact h.2 h1
def MR.push {d0:LV} {ma:List cx} {w:Value} {R:List Nat} {x:Nat} (Vp:Good s0) (aLT:LS s0 d0 ma φ) (h:MR s0 d0 ma φ k s v σ) (ow:Own s0.nx s 3 1 w (ints R) o) (hl:R.length<=1000) (hy:Sl s.nx s 3 1 y (ints [x])):
  ∃w' s',vj 3 1 s [w,y]=some (w',s')∧MR s0 d0 ma φ k s' v σ∧Own s0.nx s' 3 1 w' (ints (R++ [x])) (some s.nx)∧s.nx<=s'.nx∧(∀j,j<s0.nx->s'.h.get j=s.h.get j):=by
 have hg:=h.an.bt;have oA:=ze ow hy hg (by decide) (by decide) (kN _) (kN _) (λl hl=>by simp[ints]at hl;subst hl;rfl) (by simp[ints];omega) (by simp[ints]);have hR:ints R++ints [x]=ints (R++ [x]):=by simp[ints]
 have kn:=h.an.nx;have RO:∀b,o=some b->s0.nx<=b∧b<s.nx∧∃c sz n ro,s.h.get b=some (.cells c sz n ro 3):= λb hb=>by have Nt:=ow.Ez.2 b hb;subst hb;obtain⟨c,m,hc⟩:=ow.jI;exact⟨Nt,dg (λhle=>by rw[hg.none b hle]at hc;cases hc),_,_,_,_,hc⟩
 obtain⟨Bg,nD,qD⟩:Good (cW s w)∧(cW s w).nx=s.nx∧∀q,some q≠o->(cW s w).h.get q=s.h.get q:=by
  rcases ow.Ez.1 with he|⟨b,hb,he⟩
  ·rw[he];exact⟨hg,rfl,λ_ _=>rfl⟩
  ·have Lt:=(RO b hb).2.1;rw[he];exact⟨bZ hg Lt _,rfl,λq hq=>by rw[cj hg Lt,aC (λe=>hq (by rw[hb,e]))]⟩
 have lsD:LS (cW s w) {d0 with v:=v} σ φ:=h.ls.frame hg (o:=o) (by omega) (λb hb=>⟨λe he b' of m c Iu=>by
  have:=aLT.kids e he;rw[Iu]at this;have iR:b'<s0.nx:=by
   generalize hr:ints e.kids=rr at this;cases this with
   |mk hb _ _ _ _ _=>exact hb
  have:=(RO b hb).1;omega,(RO b hb).2.2⟩) λq b hq ed=>by rw[qD q ed];exact hq
 have kD:eu TyT s0 (cW s w):=⟨Bg,by omega,λj bk hj ht=>by
  have Nw:j<s0.nx:=dg λhle=>by rw[Vp.none j hle]at hj;cases hj
  rw[qD j (λe=>by have:=(RO j e.symm).1;omega)];exact h.an.eb j bk hj ht⟩
 obtain⟨sN,Re⟩:∃sN,sN=(cW s w).row 3 1 (ints (R++ [x])):=⟨_,rfl⟩
 have grN:Grown (cW s w).nx (cW s w) sN:=by rw[Re];exact(Grown.refl Bg _).row (af _) _ _ _
 rw[hR,<-Re]at oA;refine⟨_,sN,oA,⟨kD.trans (grN.an Bg),lsD.ext Bg grN,h.ext⟩,?_,by rw[Re,tN,nD];omega,λj hj=>?_⟩
 ·exact .lb kn (by rw[Re,<-nD];exact bE.new Bg 3 1 _)
 ·rw[grN.eb j (by omega),qD j λe=>by have:=(RO j e.symm).1;omega]
def MR.put {kind:Nat} {id:Int} {l:List Nat} {text:ByteArray} {vc:LVal} (hg:Good s) (h:LS s d σ φ) (hp:Q5 s s' d.p d.q d.v σ kind id l text vc i):∃v' Ds,MR s d σ φ 1 s' v' Ds∧(∃hi:i<Ds.length,Ds[i].da=pj kind id l text∧(σ= []->i=0∧Ds[i].v=vc)):=by
 cases hp with
 |uC hi hk fN=>exact⟨d.v,σ,⟨fN.an hg,h.ext hg fN,[],by simp,by simp⟩,hi,hk,λe=>by subst e;cases hi⟩
 |new hn ha ht=>exact⟨_,_,⟨ha.an h.ts hg,h.al2 (ha.an h.ts hg) ht,_,rfl,by simp⟩,by simp,by simp[cx.da,pj,ea],λe=>by subst e;exact⟨rfl,rfl⟩⟩
def aef (hw:WFs σ) {kind:Nat} {id:Int} {l:List Nat} {text:ByteArray} (hi:i<σ.length) (hk:σ[i].da=pj kind id l text) (hl:kind<=2∧l= []∨kind=3∧l.length=2∨kind=4∧l.length=3):σ[i].kind=kind∧σ[i].size<=1+(l.map (dC σ)).sum:=by
 simp only[cx.da,pj,ea,kS,rS,hZ,vH,zS]at hk;obtain⟨k1,k2,k3,k4,k5,k6⟩:=hk;have UW:σ[i].kind=kind:=by omega
 refine⟨UW,?_⟩;have hs:=(hw i hi).size;have RK:=(hw i hi).shape;have hp:σ[i].parts=l:=by
  unfold cx.parts;rcases hl with ⟨h1,h2⟩|⟨h1,h2⟩|⟨h1,h2⟩
  ·have:σ[i].many=0:=by omega
   rw[this,h2];rfl
  ·have:σ[i].many=2:=by omega
   rw[this]
   match l,h2 with
   | [a,b],_=>
    simp at k3 k4;have e1:σ[i].p0=a:=by omega
    have e2:σ[i].p1=b:=by omega
    rw[e1,e2];rfl
  ·have:σ[i].many=3:=by omega
   rw[this]
   match l,h2 with
   | [a,b,c],_=>
    simp at k3 k4 k5;have e1:σ[i].p0=a:=by omega
    have e2:σ[i].p1=b:=by omega
    have e3:σ[i].p2=c:=by omega
    rw[e1,e2,e3];rfl
 rw[hs,hp];have key:∀(l:List Nat) (z:Nat),l.foldl (λz x=>min (z+dC σ x) 4097) z<=z+(l.map (dC σ)).sum:=by
  intro l;induction l with
  |nil=>intro z;simp
  |cons x l ih=>intro z;rw[np,br,nJ];have:=ih (min (z+dC σ x) 4097);omega
 exact key l 1
def Yx {tag:Nat} {bb:Bool} {num str:List UInt8} (h:(tag,bb,num,str)∈consts):∃text,fZ tag bb num str text:=by
 simp only[consts,bu,aX,db,Prod.mk.injEq]at h;rcases h with ⟨rfl,rfl,rfl,rfl⟩|⟨rfl,rfl,rfl,rfl⟩|⟨rfl,rfl,rfl,rfl⟩|⟨rfl,rfl,rfl,rfl⟩|⟨rfl,rfl,rfl,rfl⟩|⟨rfl,rfl,rfl,rfl⟩|⟨rfl,rfl,rfl,rfl⟩|⟨rfl,rfl,rfl,rfl⟩|⟨rfl,rfl,rfl,rfl⟩|⟨rfl,rfl,rfl,rfl⟩|⟨rfl,rfl,rfl,rfl⟩
 ·exact⟨_,isNull⟩
 ·exact⟨_,isTrue⟩
 ·exact⟨_,isFalse⟩
 ·exact⟨_,asI⟩
 ·exact⟨_,asJ⟩
 ·exact⟨_,aih⟩
 ·exact⟨_,asK⟩
 ·exact⟨_,asL⟩
 ·exact⟨_,asM⟩
 ·exact⟨_,asN⟩
 ·exact⟨_,asO⟩
def Sz:Nat->Nat
 |0=>1
 |d+1=>1+3*Sz d
def Kd (ma σ:List cx) (i:Nat):Prop:=(∃hi:i<σ.length,σ[i].kind≠2)∨(ma= []->i=0∧∃tag bb num str text,(tag,bb,num,str)∈consts∧fZ tag bb num str text∧Fz tag bb num str text σ)
def OH (k:Nat) (s:AS) (d0:LV) (ma:List cx) (φ:List dA) (r:Value) (s':AS):Prop:=∃(i:Nat) (v:Value) (σ:List cx),r=aw ((i:Nat):Int)∧MR s d0 ma φ k s' v σ∧i<σ.length∧dC σ i<=k∧Kd ma σ i
def zB {m0 dd:Nat} {d0:LV} {ma:List cx} {c:LVal} {kw:Value} {ch:List LVal} {m:TM 68} {Q:cZ->TM 68->AS->Prop} (hg:Good s) (Ly:LS s d0 ma φ) (hv:ay s b 36 c) (hc9:c.length=10) (hcw:c[9]'(by omega)=kw) (hkw:Sl s.nx s 36 10 kw ch) (hdt:∀x∈ch,DT s.nx s dd x) (hn:ch.length<=3) (fR:ma.length+ch.length*Sz dd<=800000) (ih:ch≠ []->∀ {s:AS} {d0:LV} {ma:List cx} {c:LVal},Good s->LS s d0 ma φ->DT s.nx s dd c->ma.length+Sz dd<=800000->cp (aE m0 (dJ 6) [a8 d0.lp,.agg ⟨c⟩] s) (OH (Sz dd) s d0 ma φ)) (h0:m.get 0=some (a8 d0.lp)) (h3:m.get 3=some (a8 b)) (h5:m.get 5=some (.slice none 0 0)) (hQ:∀m' s' v σ w R,m'.get 0=some (a8 d0.lp)->m'.get 3=some (a8 b)->m'.get 5=some w->MR s d0 ma φ (ch.length*Sz dd) s' v σ->Sl s'.nx s' 3 1 w (ints R)->R.length=ch.length->(∀x∈R,x<σ.length∧dC σ x<=Sz dd)->ay s' b 36 c->Q .normal m' s'):
  WC (aE m0) (ah an7 (bP 0 (fM (ah (ah an8 (bw (aK 12) (aQ .normal) (aQ (.exit 0)))) (ah (bP 1 an9) aoa))))) Q m s:=by
 have Lt:=hv.lt hg;have hlen:=hkw.len;unfold an7;apply aJ;simp+decide only[ag];refine bY (eW (λm s'=>∃(j:Nat) (v:Value) (σ:List cx) (w:Value) (R:List Nat) (o:Option Nat),j<=ch.length∧m.get 0=some (a8 d0.lp)∧m.get 3=some (a8 b)∧m.get 5=some w∧m.get 6=some (aw ((j:Nat):Int))∧MR s d0 ma φ (j*Sz dd) s' v σ∧Own s.nx s' 3 1 w (ints R) o∧R.length=j∧(∀x∈R,x<σ.length∧dC σ x<=Sz dd)∧ay s' b 36 c)
  (λm _=>match m.get 6 with|some (.int _ j)=>(4-j).toNat|_=>0) ?_ ?_ ?_)
 ·refine⟨0,d0.v,ma,.slice none 0 0,[],none,by omega,by simp+decide only[ag,h0],by simp+decide only[ag,h3],by simp+decide only[ag,h5],by simp+decide only[ag,aW],?_,.nil,rfl,by simp,hv⟩;rw[oX];exact MR.refl hg Ly
 ·simp+decide only[ag]
 rintro m s' ⟨j,v,σ,w,R,o,hj,h0,h3,h5,h6,mr,ow,hR,Vw,mu⟩;have Ay:=mr.an.bt;have ld:=mu.ld YV (o:=9) (by omega);rw[hcw]at ld;apply dh;unfold an8;apply ar;by_cases cS:j<ch.length
 ·have hd:decide ((j:Int)<(ch.length:Int))=true:=aL (by omega);simp+decide only[ag,h3,h6,bO,aG,ld,hlen,hd];refine iP (by simp+decide only[ag]) ?_;apply aR;simp+decide only[ag];have sl':=hkw.an mr.an λ_ _ _=>GD (by decide);have ix:=sl'.ix (P:=prog) (t:=34) cS (k:= .i64);have lda:=sl'.eA La Lb (by decide) cS;have dt':=(hdt _ (aV cS)).an mr.an mr.an.nx λ_ _ _ _=>GD (by decide);have Xb:=mr.len;have hj2:(j+1)*Sz dd<=ch.length*Sz dd:=wH _ (by omega);rw[dy,Bh]at hj2;obtain⟨_,s2,e2,i,v2,σ2,rfl,mr2,hi,eR,-⟩:=ih (λe=>by rw[e]at cS;simp at cS) Ay mr.ls dt' (by omega);have dI:=mr2.an.bt;obtain⟨zR,AB⟩:=tP dI [i];obtain⟨sA,qS⟩:=dO (s2.row 3 1 (ints [i]));have Od:bF prog 38 1 [0] s2 [aw (i:Int)]=some (.slice (some ⟨s2.nx,0,none⟩) 1 (bH 1),s2.row 3 1 (ints [i])):=qt dI fm fX rfl;rw[<-qS]at zR AB Od;have AB:Sl sA.nx sA 3 1 (.slice (some ⟨s2.nx,0,none⟩) 1 (bH 1)) (ints [i]):=AB;have mrA:=(mr.trans mr2).grown zR;have owA:=(ow.an mr2.an λ_ _ _=>GD (by decide)).an (zR.an (T:=TyT) dI) λ_ _ _=>GD (by decide);have vA:=(mu.an mr2.an (GD (by decide))).an (zR.an (T:=TyT) dI) (GD (by decide));obtain⟨w3,s3,oA,mr3,ow3,n3,q3⟩:=MR.push hg Ly mrA owA (by omega) AB;have v3:=vA.eq (q3 b Lt);have w1:IntKind.i64.wrap ((j:Int)+1)=((j+1:Nat):Int):=by rw[wrap_i64 (by omega)];omega
  refine aT (bY ?_);unfold an9;apply ar;simp+decide only[ag,h0,h3,h5,h6,bO,aG,ld,ix,lda,e2,Od,oA];unfold aoa;apply ar;simp+decide only[ag,h6,w1];refine⟨⟨j+1,v2,σ2,w3,R++ [i],some sA.nx,by omega,h0,h3,rfl,rfl,?_,ow3,by simp;omega,λx hx=>?_,v3⟩,by omega⟩
  ·rw[dy,Bh];exact mr3
  ·rcases List.mem_append.1 hx with hx|hx
   ·obtain⟨hx1,Nv⟩:=Vw x hx;obtain⟨hx3,hx4⟩:=mr2.get hx1;exact⟨hx3,by rw[hx4];exact Nv⟩
   ·simp at hx;subst hx;exact⟨hi,eR⟩
 ·have hd:decide ((j:Int)<(ch.length:Int))=false:=az (by omega);simp+decide only[ag,h3,h6,bO,aG,ld,hlen,hd];refine dD (by simp+decide only[ag]) ?_;simp+decide only[ag];have Vs:j=ch.length:=by omega
  subst Vs;exact hQ _ _ _ _ _ _ (by simp+decide only[ag,h0]) (by simp+decide only[ag,h3]) (by simp+decide only[ag,h5]) mr (ow.sl Ay (by decide)) hR Vw mu
def Kd.of {ma:List cx} {kind:Nat} {id:Int} {l:List Nat} {text:ByteArray} (hi:i<σ.length) (hk:σ[i].kind=kind) (h:kind≠2):Kd ma σ i:= .inl ⟨hi,by rw[hk];exact h⟩
def acB {l:List Nat} {f:Nat->Nat} (h:∀x∈l,f x<=k):(l.map f).sum<=l.length*k:=by
 induction l with
 |nil=>simp
 |cons x l ih=>rw[br,nJ,bU,dy,Bh];have h1:=h x (by simp);have h2:=ih λy hy=>h y (by simp[hy]);omega
def K1 {m d:Nat} (ih:∀d',d=d'+1->∀ {s:AS} {d0:LV} {ma:List cx} {c:LVal},Good s->LS s d0 ma φ->DT s.nx s d' c->ma.length+Sz d'<=800000->cp (aE (m+3) (dJ 6) [a8 d0.lp,.agg ⟨c⟩] s) (OH (Sz d') s d0 ma φ)) {d0:LV} {ma:List cx} {c:LVal} (hg:Good s) (Ly:LS s d0 ma φ) (hdt:DT s.nx s d c) (fR:ma.length+Sz d<=800000):
  cp (aE (m+4) (dJ 6) [a8 d0.lp,.agg ⟨c⟩] s) (OH (Sz d) s d0 ma φ):=by
 rw[ev6];refine bG (by simp) λm' hm=>?_;have h0:m'.get 0=some (a8 d0.lp):=by rw[hm];rfl
 have h1:m'.get 1=some (.agg ⟨c⟩):=by rw[hm];rfl
 clear hm;obtain⟨aUL,Io⟩:=hdt.len;obtain⟨s1,dm⟩:=dO (s.add (ca 36 c));have dv:=cz dm hg;have v1:=jS dm hg;have fV:=cM dm hg;have qR:ia 36 s (.agg ⟨c⟩)=some (a8 s.nx,s1):=by rw[ez hg,dn,dm]
 have Zs:=Ly.ext hg fV;have dt1:=hdt.grown hg fV;have mr1:MR s d0 ma φ 0 s1 d0.v ma:=(MR.refl hg Ly).grown fV;unfold c6;apply aT;unfold axA;apply ar;simp+decide only[ag,h0,h1,qR];apply aT;unfold axB;apply ar;simp+decide only[ag];have head:∀(mm:TM 68) (s2:AS) (v:Value) (σ:List cx) (k:Nat) (Q:cZ->TM 68->AS->Prop) (rest:CF),mm.get 0=some (a8 d0.lp)->LS s2 {d0 with v:=v} σ φ->(∀m2:TM 68,m2=mm.set 7 (a8 d0.p)->WC (aE (m+3)) rest Q m2 s2)->WC (aE (m+3)) (ah aob rest) Q mm s2:=by intro mm s2 v σ k Q rest g0 ls2 aaC;obtain⟨_,s2',Vt,rfl,ee⟩:=He (m+2) ls2;rw[ee]at Vt;have Vt:aE (m+3) (dJ 13) [a8 d0.lp] s2= .val (a8 d0.p) s2:=Vt;unfold aob;apply aJ;simp+decide only[ag,g0,Vt];exact aaC _ rfl
 have fin:∀ {k n:Nat} {id:Int} {l R:List Nat} {text:ByteArray} {vc:LVal} {s2 s3:AS} {v:Value} {σ:List cx} {i:Nat},MR s1 d0 ma φ n s2 v σ->Q5 s2 s3 d0.p d0.q v σ k id l text vc i->n+1<=Sz d->(k<=2∧l= []∨k=3∧l.length=2∨k=4∧l.length=3)->(∀x∈l,x<σ.length)->(l.map (dC σ)).sum+1<=Sz d->(k≠2∨n=0∧∃tag bb num str tx,(tag,bb,num,str)∈consts∧fZ tag bb num str tx∧text=⟨⟨tx⟩⟩∧vc=cu tag bb num str∧id=0∧l= [])->OH (Sz d) s d0 ma φ (aw ((i:Nat):Int)) s3:=by
  intro k n id l R text vc s2 s3 v σ i mr hp hn hl hlx NN hk;obtain⟨v',Ds,mrp,hi,qG,lG⟩:=MR.put (d:={d0 with v:=v}) mr.an.bt mr.ls hp;obtain⟨hkk,eR⟩:=aef mrp.ls.ts.wf hi qG hl;have dU:l.map (dC Ds)=l.map (dC σ):=eS λx hx=>(mrp.get (hlx x hx)).2;rw[dU]at eR;have mt:MR s d0 ma φ (n+1) s3 v' Ds:=by have:=mr1.trans (mr.trans mrp);rw[aG]at this;exact this
  refine⟨i,v',Ds,rfl,mt.mono hn,hi,by rw[rj hi];omega,?_⟩;rcases hk with hk|⟨vX,tag,bb,num,str,tx,h1,h2,h3,h4,h5,h6⟩
  ·exact .inl ⟨hi,by rw[hkk];exact hk⟩
  ·by_cases e2:k=2
   ·refine .inr λhσ=>?_;have aLU:σ= []:=by
     have:=mr.len;rw[hσ]at this;simp at this;exact Y4 (by omega)
    obtain⟨hi0,hv⟩:=lG aLU;subst hi0;refine⟨rfl,tag,bb,num,str,tx,h1,h2,hi,?_,by rw[hv,h4]⟩;rw[qG,h3,h5,h6,e2]
   ·exact .inl ⟨hi,by rw[hkk];exact e2⟩
 have qz:1<=Sz d:=by cases d<;>simp[Sz]
 have xe:∀ {sx:AS} {kd id:Nat} {vc:LVal} {kw:Value},ay sx s.nx 36 (kY kd id vc kw)->vc.length=7->aM prog 3 sx (a8 s.nx)=some (aw (kd:Int))∧aM prog 3 sx (.pointer (some ⟨s.nx,1,none⟩))=some (aw (id:Int))∧aM prog 33 sx (.pointer (some ⟨s.nx,2,none⟩))=some (.agg ⟨vc⟩):= λ {sx kd id vc kw} hv hl=>by refine⟨hv.ld bM (o:=0) (by simp[kY]),hv.ld bM (o:=1) (by simp[kY]),?_⟩;rw[hv.eA oY oZ (o:=2) (by simp[kY];omega) (by decide)];show some (Value.agg ⟨(vc++ [kw]).take 7⟩)=_;rw[Y5 (by omega),aP (by omega)]
 cases hdt with
 |var id hid=>refine aT (zB (dd:=0) (kw:= .slice none 0 0) (ch:= []) dv Zs v1 rfl rfl .nil (by simp) (by decide) (by simp;omega) (λh=>(h rfl).elim) (by simp+decide only[ag,h0]) (by simp+decide only[ag]) (by simp+decide only[ag]) ?_);intro m2 s2 v σ w R g0 g3 g5 mr sl hR Vw v36;simp+decide only[ag];refine head m2 s2 v σ 0 _ _ g0 mr.ls λm3 N5=>?_;obtain⟨l0,l1,-⟩:=xe v36 rfl;have Xb:=mr.len;obtain⟨_,s3,e14,i,rfl,fP⟩:=asR m mr.an.bt mr.ls.ts (id:Int) (by omega) (by simp at Xb;omega);rw[N5];apply dh;unfold ZG;apply ar;simp+decide only[ag,g3,bO,aG,l0];refine bY (aT ?_);unfold ZH;apply ar;simp+decide only[ag,show decide (((0:Nat):Int)=0)=true from rfl,show decide ((0:Int)=0)=true from rfl];refine iP (by simp+decide only[ag]) ?_;apply aT;unfold axC;apply ar;simp+decide only[ag,g3,bO,aG,l1,e14];apply aR;rw[mY,pL];exact b6 (v:=aw (i:Int)) (.inr rfl) (by simp+decide only[ag]) (fin (R:=R) mr fP (by simp;omega) (.inl ⟨by decide,rfl⟩) (by simp) (by simp;omega) (.inl (by decide)))
 | @con _ tag bb num str hc=>obtain⟨tx,Jd⟩:=Yx hc;refine aT (zB (dd:=0) (kw:= .slice none 0 0) (ch:= []) dv Zs v1 rfl rfl .nil (by simp) (by decide) (by simp;omega) (λh=>(h rfl).elim) (by simp+decide only[ag,h0]) (by simp+decide only[ag]) (by simp+decide only[ag]) ?_);intro m2 s2 v σ w R g0 g3 g5 mr sl hR Vw v36;simp+decide only[ag];refine head m2 s2 v σ 0 _ _ g0 mr.ls λm3 N5=>?_;obtain⟨l0,l1,l2⟩:=xe v36 rfl;have Xb:=mr.len;obtain⟨_,s3,e17,i,rfl,fP⟩:=Pf m mr.an.bt mr.ls.ts Jd (by simp at Xb;omega);rw[N5];apply dh;unfold ZG;apply ar;simp+decide only[ag,g3,bO,aG,l0];refine bY (aT ?_);unfold ZH;apply ar;simp+decide only[ag,show decide (((2:Nat):Int)=0)=false from rfl,show decide ((2:Int)=0)=false from rfl];refine nN (by simp+decide only[ag]) ?_;apply aT;unfold UE;apply ar;simp+decide only[ag,show decide (((2:Nat):Int)=1)=false from rfl,show decide ((2:Int)=1)=false from rfl];refine nN (by simp+decide only[ag]) ?_;apply aT;unfold UF;apply ar;simp+decide only[ag,show decide (((2:Nat):Int)=2)=true from rfl,show decide ((2:Int)=2)=true from rfl];refine iP (by simp+decide only[ag]) ?_;apply aT;unfold alQ;apply ar;simp+decide only[ag,g3,bO,aG,l2,e17];apply aR;rw[mY,pL];exact b6 (v:=aw (i:Int)) (.inr rfl) (by simp+decide only[ag]) (fin (R:=R) mr fP (by simp;omega) (.inl ⟨by decide,rfl⟩) (by simp) (by simp;omega) (.inr ⟨by simp,tag,bb,num,str,tx,hc,Jd,rfl,rfl,rfl,rfl⟩))
 | @sel dd kw x y h hx hy=>
  cases h with
  | @mk bk ok ck rk Rk rows hb fL hl hr hcc hxx=>
  have hk:=Sl.mk hb fL hl hr hcc hxx;have vt:=(hk.Va (T:= λ_=>False) (by simp) (fV.an hg) λ_ _ _ _ h=>h).le fV.nx;have hch:∀z∈ [x,y],DT s1.nx s1 dd z:= λz hz=>by
   simp only[bu,aX,db]at hz;rcases hz with rfl|rfl
   ·exact hx.grown hg fV
   ·exact hy.grown hg fV
  have hSz:Sz (dd+1)=1+3*Sz dd:=rfl;refine aT (zB (dd:=dd) (kw:= .slice (some ⟨bk,ok*10,none⟩) [x,y].length ck) (ch:= [x,y]) dv Zs v1 rfl rfl vt hch (by simp) (by simp;omega) (λ_=>ih dd rfl) (by simp+decide only[ag,h0]) (by simp+decide only[ag]) (by simp+decide only[ag]) ?_);intro m2 s2 v σ w R g0 g3 g5 mr sl hR Vw v36;simp+decide only[ag];refine head m2 s2 v σ 0 _ _ g0 mr.ls λm3 N5=>?_;obtain⟨l0,-,-⟩:=xe v36 rfl;have Xb:=mr.len;simp only[bU,gH]at hR Xb
  match R,hR with
  | [a,b],_=>
  obtain⟨ha1,ha2⟩:=Vw a (by simp);obtain⟨qR,wV⟩:=Vw b (by simp);obtain⟨_,s3,e24,i,rfl,fP⟩:=asS m mr.an.bt mr.ls.ts ha1 qR (by omega);have ix0:=sl.ix (P:=prog) (t:=38) (i:=0) (by simp[ints]) (k:= .i64);have ix1:=sl.ix (P:=prog) (t:=38) (i:=1) (by simp[ints]) (k:= .i64);have ld0:=sl.ld bM (i:=0) (by simp[ints]) (x:=aw (a:Int)) (by simp[ints]);have ld1:=sl.ld bM (i:=1) (by simp[ints]) (x:=aw (b:Int)) (by simp[ints]);simp only[aW,gO]at ix0 ix1;have ix1:ki prog 38 1 w (aw 1)=some (wR 1 w 1):=ix1;rw[N5];apply dh;unfold ZG;apply ar;simp+decide only[ag,g3,bO,aG,l0];refine bY (aT ?_);unfold ZH;apply ar;simp+decide only[ag,show decide (((3:Nat):Int)=0)=false from rfl,show decide ((3:Int)=0)=false from rfl];refine nN (by simp+decide only[ag]) ?_;apply aT;unfold UE;apply ar;simp+decide only[ag,show decide (((3:Nat):Int)=1)=false from rfl,show decide ((3:Int)=1)=false from rfl];refine nN (by simp+decide only[ag]) ?_;apply aT;unfold UF;apply ar;simp+decide only[ag,show decide (((3:Nat):Int)=2)=false from rfl,show decide ((3:Int)=2)=false from rfl];refine nN (by simp+decide only[ag]) ?_;apply aT;unfold aaZ;apply ar;simp+decide only[ag,show decide (((3:Nat):Int)=3)=true from rfl,show decide ((3:Int)=3)=true from rfl];refine iP (by simp+decide only[ag]) ?_;apply aT;unfold alR;apply gY;simp+decide only[ag,g5,ix0,ix1,ld0,ld1,e24];apply aR;rw[mY,pL];refine b6 (v:=aw (i:Int)) (.inr rfl) (by simp+decide only[ag]) (fin (R:= [a,b]) mr fP (by simp;omega) (.inr (.inl ⟨rfl,rfl⟩)) (λz hz=>?_) ?_ (.inl (by decide)))
  ·simp only[bu,aX,db]at hz;rcases hz with rfl|rfl<;>assumption
  ·have:=acB (l:= [a,b]) (f:=dC σ) (k:=Sz dd) λz hz=>(Vw z hz).2;simp only[bU,gH]at this;omega
 | @qi dd kw x y z h hx hy hz=>
  cases h with
  | @mk bk ok ck rk Rk rows hb fL hl hr hcc hxx=>
  have hk:=Sl.mk hb fL hl hr hcc hxx;have vt:=(hk.Va (T:= λ_=>False) (by simp) (fV.an hg) λ_ _ _ _ h=>h).le fV.nx;have hch:∀u∈ [x,y,z],DT s1.nx s1 dd u:= λu hu=>by
   simp only[bu,aX,db]at hu;rcases hu with rfl|rfl|rfl
   ·exact hx.grown hg fV
   ·exact hy.grown hg fV
   ·exact hz.grown hg fV
  have hSz:Sz (dd+1)=1+3*Sz dd:=rfl;refine aT (zB (dd:=dd) (kw:= .slice (some ⟨bk,ok*10,none⟩) [x,y,z].length ck) (ch:= [x,y,z]) dv Zs v1 rfl rfl vt hch (by simp) (by simp;omega) (λ_=>ih dd rfl) (by simp+decide only[ag,h0]) (by simp+decide only[ag]) (by simp+decide only[ag]) ?_);intro m2 s2 v σ w R g0 g3 g5 mr sl hR Vw v36;simp+decide only[ag];refine head m2 s2 v σ 0 _ _ g0 mr.ls λm3 N5=>?_;obtain⟨l0,-,-⟩:=xe v36 rfl;have Xb:=mr.len;simp only[bU,gH]at hR Xb
  match R,hR with
  | [a,b,e],_=>
  obtain⟨ha1,ha2⟩:=Vw a (by simp);obtain⟨qR,wV⟩:=Vw b (by simp);obtain⟨vp,Fp⟩:=Vw e (by simp);obtain⟨_,s3,e25,i,rfl,fP⟩:=asT m mr.an.bt mr.ls.ts ha1 qR vp (by omega);have ix0:=sl.ix (P:=prog) (t:=38) (i:=0) (by simp[ints]) (k:= .i64);have ix1:=sl.ix (P:=prog) (t:=38) (i:=1) (by simp[ints]) (k:= .i64);have ix2:=sl.ix (P:=prog) (t:=38) (i:=2) (by simp[ints]) (k:= .i64);have ld0:=sl.ld bM (i:=0) (by simp[ints]) (x:=aw (a:Int)) (by simp[ints]);have ld1:=sl.ld bM (i:=1) (by simp[ints]) (x:=aw (b:Int)) (by simp[ints]);have ld2:=sl.ld bM (i:=2) (by simp[ints]) (x:=aw (e:Int)) (by simp[ints]);simp only[aW]at ix0;have ix1:ki prog 38 1 w (aw 1)=some (wR 1 w 1):=ix1;have ix2:ki prog 38 1 w (aw 2)=some (wR 1 w 2):=ix2;rw[N5];apply dh;unfold ZG;apply ar;simp+decide only[ag,g3,bO,aG,l0];refine bY (aT ?_);unfold ZH;apply ar;simp+decide only[ag,show decide (((4:Nat):Int)=0)=false from rfl,show decide ((4:Int)=0)=false from rfl];refine nN (by simp+decide only[ag]) ?_;apply aT;unfold UE;apply ar;simp+decide only[ag,show decide (((4:Nat):Int)=1)=false from rfl,show decide ((4:Int)=1)=false from rfl];refine nN (by simp+decide only[ag]) ?_;apply aT;unfold UF;apply ar;simp+decide only[ag,show decide (((4:Nat):Int)=2)=false from rfl,show decide ((4:Int)=2)=false from rfl];refine nN (by simp+decide only[ag]) ?_;apply aT;unfold aaZ;apply ar;simp+decide only[ag,show decide (((4:Nat):Int)=3)=false from rfl,show decide ((4:Int)=3)=false from rfl];refine dD (by simp+decide only[ag]) ?_;rw[Sk,Oo];apply aT;unfold alS;apply gY;simp+decide only[ag,g5,ix0,ix1,ix2,ld0,ld1,ld2,e25];refine aR (b6 (v:=aw (i:Int)) (.inr rfl) (by simp+decide only[ag]) (fin (R:= [a,b,e]) mr fP (by simp;omega) (.inr (.inr ⟨rfl,rfl⟩)) (λu hu=>?_) ?_ (.inl (by decide))))
  ·simp only[bu,aX,db]at hu;rcases hu with rfl|rfl|rfl<;>assumption
  ·have:=acB (l:= [a,b,e]) (f:=dC σ) (k:=Sz dd) λu hu=>(Vw u hu).2;simp only[bU,gH]at this;omega
def ajG (n:Nat):∀(d:Nat) {s:AS} {d0:LV} {ma:List cx} {c:LVal},Good s->LS s d0 ma φ->DT s.nx s d c->ma.length+Sz d<=800000->cp (aE (n+4+d) (dJ 6) [a8 d0.lp,.agg ⟨c⟩] s) (OH (Sz d) s d0 ma φ):=by
 intro d;induction d with
 |zero=>intro s d0 ma c hg h hd hf;exact K1 (m:=n) (λd' e=>by omega) hg h hd hf
 |succ d ih=>
  intro s d0 ma c hg h hd hf;have:=K1 (m:=n+1+d) (d:=d+1) (λd' e=>by
   have e:d'=d:=by omega
   subst e;intro s d0 ma c hg h hd hf;rw[show n+1+d'+3=n+4+d' by omega];exact ih hg h hd hf) hg h hd hf
  rw[show n+4+(d+1)=n+1+d+4 by omega];exact this
