import Derived.Test.YtgdddkffkmcmcaaGreatDoorZBb
/- Part of the proof that TagsOne answers true. -/
set_option linter.all false
set_option maxRecDepth 100000
noncomputable section
namespace Go.Eng
open Go Go.Proofs Go.Proofs.Tryz
variable {s s' s0:AS} {v u y x v' x':Value} {n t b i k f a r p q j et ck nt kt e ty off:Nat} {w w':World} {o:Option Nat} {l vs l':LVal} {rows R els:List LVal} {tm tm':T Value} {es:List (Value×Value×Nat)} {ts:Array TypeId} {lo:Lo} {X:QJ} {P:Program} {F:Fence} {S:List Nat} {ρ ρ':Ren} {m:TM n} {σ:List cx} {φ fj:List dA} {d d':LV}
def adU (t:Nat) (ht:t<13) (b:Bool):nO t b=true:=by
 match t,ht,b with
 |0,_,false=>exact aiL
 |0,_,true=>exact aiM
 |1,_,false=>exact aiN
 |1,_,true=>exact aiO
 |2,_,false=>exact aiP
 |2,_,true=>exact aiQ
 |3,_,false=>exact aiR
 |3,_,true=>exact aiS
 |4,_,false=>exact aiT
 |4,_,true=>exact aiU
 |5,_,false=>exact aiV
 |5,_,true=>exact aiW
 |6,_,false=>exact aiX
 |6,_,true=>exact aiY
 |7,_,false=>exact aiZ
 |7,_,true=>exact ai0
 |8,_,false=>exact ai1
 |8,_,true=>exact ai2
 |9,_,false=>exact ai3
 |9,_,true=>exact ai4
 |10,_,false=>exact adO
 |10,_,true=>exact adP
 |11,_,false=>exact adQ
 |11,_,true=>exact adR
 |12,_,false=>exact adS
 |12,_,true=>exact adT
def apart (n:Nat) (hl:lr f ga=some qP) (hm:(iN prog cC f).isSome=true) {args args':LVal} {ρ:Nat->Nat} {W W':AS} {wv:Value} (N7:Good W) (hg:Good s) (he:Bf ρ W s) (ha:dj (oF ρ W.nx 12) args=some args') (h:du f args W= .val wv W'):
  ∃ρ' v s',aE (n+1) (dJ f) args' s= .val v s'∧oF ρ' W'.nx 12 wv=some v∧Bf ρ' W' s'∧Good W'∧Grown s.nx s s'∧(∀i,i<W.nx->ρ' i=ρ i)∧W.nx<=W'.nx∧(∀i,W.nx<=i->s.nx<=ρ' i):=by
 obtain⟨F,hm⟩:∃F,iN prog cC f=some F:=by
  cases hq:iN prog cC f with
  |none=>rw[hq]at hm;cases hm
  |some F=>exact⟨F,rfl⟩
 obtain⟨ρ',v,s',h1,h2,h3,h4,h5,h6,h7,h8⟩:=KA N7 hg he ha h;refine⟨ρ',v,s',?_,h2,h3,h4,h5,h6,h7,h8⟩;have hmI:pK prog cC ga f=some (uv qP f F):=by unfold pK;rw[hm,cg,hl]
 have h0:aE (n+1) (dJ f) args' s=uv qP f F (aE n) (app [] (app args' [])) s:=by show oR Out .no (λF=>F (jH prog cC ga n) (app [] (app args' [])) s) (pK prog cC ga f)=_;rw[hmI];rfl
 rw[h0,mW,mW,jD,List.append_nil];unfold uv;rw[h1];rfl
def L0:(iN prog cC 16).isSome=true:=by kernel_rfl
def acq:(iN prog cC 43).isSome=true:=by kernel_rfl
def ata:(iN prog cC 44).isSome=true:=by kernel_rfl
def acr:(iN prog cC 45).isSome=true:=by kernel_rfl
def atb:(iN prog cC 46).isSome=true:=by kernel_rfl
def acs:(iN prog cC 50).isSome=true:=by kernel_rfl
def atc:(iN prog cC 52).isSome=true:=by kernel_rfl
def L1:(iN prog cC 53).isSome=true:=by kernel_rfl
def SQ:(iN prog cC 54).isSome=true:=by kernel_rfl
def L2:(iN prog cC 77).isSome=true:=by kernel_rfl
def atd:(iN prog cC 84).isSome=true:=by kernel_rfl
def acu:(iN prog cC 85).isSome=true:=by kernel_rfl
def ai5:(iN prog cC 106).isSome=true:=by kernel_rfl
def We:(iN prog cC 108).isSome=true:=by kernel_rfl
def eC (ρ:Nat->Nat):Value->Value
 | .slice (some ⟨b,o,none⟩) m c=> .slice (some ⟨ρ b,o,none⟩) m c
 |v=>v
def ui (K:Nat):Value->Bool
 | .bool _=>true
 | .int _ _=>true
 | .slice none 0 0=>true
 | .slice (some ⟨b,_,none⟩) _ _=>decide (b<K)
 |_=>false
def MB {ρ:Nat->Nat} {K:Nat} (h:ui K v=true):oF ρ K (n+1) v=some (eC ρ v):=by
 unfold ui at h;split at h
 ·rename_i b;cases b<;>rfl
 ·exact fI _ _
 ·rfl
 ·rename_i b o m c;have hb:b<K:=sQ h;show(ob (if b<K then some (ρ b)else none) λb'=>cG o λo'=>cG m λm'=>cG c λc'=>some (Value.slice (some ⟨b',o',none⟩) m' c'))=_;rw[aU hb,cg,bD,bD,bD];rfl
 ·cases h
def tn {ρ:Nat->Nat} {K n:Nat}:∀ {l:LVal},(∀v∈l,ui K v=true)->dj (oF ρ K (n+1)) l=some (l.map (eC ρ))
 | [],_=>rfl
 |v::l,h=>by show ob (oF ρ K (n+1) v) (λv'=>ob (dj (oF ρ K (n+1)) l) λl'=>some (v'::l'))=_;rw[MB (h v (by simp)),cg,tn λu hu=>h u (by simp[hu]),cg];rfl
def dR {ρ:Nat->Nat} {K:Nat} (h:∀v∈l,ui K v=true):oF ρ K 12 (.agg ⟨l⟩)=some (.agg ⟨l.map (eC ρ)⟩):=by show ob (dj (oF ρ K 11) l) (λa'=>some (Value.agg ⟨a'⟩))=_;rw[tn h,cg]
def oD {ρ:Nat->Nat} {K:Nat} (h:oF ρ K 12 v=some v'):dj (oF ρ K 12) [v]=some [v']:=by show ob (oF ρ K 12 v) (λv'=>ob (some []) λl'=>some (v'::l'))=_;rw[h,cg,cg]
def Rw {ρ:Nat->Nat} {K:Nat} {u':Value} (h:oF ρ K 12 v=some v') (h2:oF ρ K 12 u=some u'):dj (oF ρ K 12) [v,u]=some [v',u']:=by show ob (oF ρ K 12 v) (λv'=>ob (dj (oF ρ K 12) [u]) λl'=>some (v'::l'))=_;rw[h,cg,oD h2,cg]
def lD {K:Nat} {ρ:Nat->Nat} (h:ui K v=true):Flat (eC ρ v)∧dZ (eC ρ v)=true:=by
 unfold ui at h;split at h
 ·exact⟨q8 _,rfl⟩
 ·exact⟨gk _ _,rfl⟩
 ·exact⟨jL,rfl⟩
 ·exact⟨V7 _ _ _ _,rfl⟩
 ·cases h
def om:∀ {l:LVal},(∀v∈l,dZ v=true)->cP l=true
 | [],_=>rfl
 |v::l,h=>tV (h v (by simp)) (om λu hu=>h u (by simp[hu]))
def adV {K:Nat} {ρ:Nat->Nat} (hl:l.length=5) (h:∀v∈l,ui K v=true):pO (l.map (eC ρ)):=by
 refine⟨by simp[hl],om λv hv=>?_,λv hv=>?_⟩
 ·obtain⟨u,hu,rfl⟩:=List.mem_map.1 hv;exact(lD (h u hu)).2
 ·obtain⟨u,hu,rfl⟩:=List.mem_map.1 hv;exact(lD (h u hu)).1
def acv {K K':Nat} (hK:K<=K') (h:ui K v=true):ui K' v=true:=by
 unfold ui at h⊢;split at h
 ·rfl
 ·rfl
 ·rfl
 ·exact aL (by have:=sQ h;omega)
 ·cases h
def ai6 {K:Nat} {ρ ρ':Nat->Nat} (hr:∀i,i<K->ρ' i=ρ i) (h:ui K v=true):eC ρ' v=eC ρ v:=by
 unfold ui at h;split at h
 ·rfl
 ·rfl
 ·rfl
 ·have:=sQ h;show Value.slice (some ⟨ρ' _,_,none⟩) _ _=Value.slice (some ⟨ρ _,_,none⟩) _ _;rw[hr _ this]
 ·cases h
def fz {K:Nat} {ρ ρ':Nat->Nat} (hr:∀i,i<K->ρ' i=ρ i) (h:∀v∈l,ui K v=true):l.map (eC ρ')=l.map (eC ρ):=eS λv hv=>ai6 hr (h v hv)
def nY {ρ:Nat->Nat} {K:Nat} (k:IntKind) (i:Int):oF ρ K 12 (.int k i)=some (.int k i):=fI k i
theorem SR {ρ:Nat->Nat} {K:Nat} (b:ByteArray):oF ρ K 12 (.string b)=some (.string b):=rfl
def fp:isAgg prog 54=some true:=by kernel_rfl
def ft:dc prog 54=some 5:=by kernel_rfl
def o0:isAgg prog 51=some true:=by kernel_rfl
def pb:dc prog 51=some 3:=by kernel_rfl
def leT (σ:List cx) (A B:List UInt8) (t:Nat):List UInt8:=([40,108,101]++(([32]++A)++ [32]++cF σ t))++ [32]++B++ [41]
structure MC (t:Nat) (W:AS) (wx:LVal) (T A B:List UInt8):Prop where
 len:wx.length=5
 ok:∀v∈wx,ui W.nx v=true
 lt:T.length<=100
 la:A.length<=100
 lb:B.length<=100
 run:∃(U1 U2 U3 U4:AS) (wq:LVal),du 106 [.agg ⟨wx⟩] W= .val (.string ⟨⟨T⟩⟩) U1∧du 50 [.agg ⟨wx⟩,aw (t:Int)] U1= .val (.agg ⟨wq⟩) U2∧(∀v∈wq,ui U2.nx v=true)∧du 108 [.agg ⟨wq⟩] U2= .val (.string ⟨⟨A⟩⟩) U3∧du 108 [.agg ⟨wx.take 3⟩] U3= .val (.string ⟨⟨B⟩⟩) U4
def adW (n:Nat) (hg:Good s) (h:LS s d σ φ) {ρ:Nat->Nat} {U1 U2 U3 U4:AS} {wx wq:LVal} {A B:List UInt8} (N7:Good U1) (he:Bf ρ U1 s) (Xn:wx.length=5) (eH:∀v∈wx,ui U1.nx v=true) (ht:t<σ.length) (f50:du 50 [.agg ⟨wx⟩,aw (t:Int)] U1= .val (.agg ⟨wq⟩) U2) (hq:∀v∈wq,ui U2.nx v=true) (f108:du 108 [.agg ⟨wq⟩] U2= .val (.string ⟨⟨A⟩⟩) U3) (abm:du 108 [.agg ⟨wx.take 3⟩] U3= .val (.string ⟨⟨B⟩⟩) U4) (la:A.length<=100) (lb:B.length<=100) {bo bl bx:Nat} {order:Value} (hvo:ay s bo 38 [order]) (Au:ay s bl 24 [a8 d.lp]) (hvx:ay s bx 54 (wx.map (eC ρ))) (aoG:Sl s.nx s 3 1 order (ints [t])) (hn:σ.length+8<=n):
  Gy (n+1) s (.func (.func 107) ⟨[]⟩ ⟨[a8 bo,a8 bl,a8 bx]⟩) (1+dC σ t) (leT σ A B t):=by
 intro s1 dv gz;obtain⟨k,rfl⟩:∃k,n=k+8:=⟨n-8,by omega⟩
 rw[qw,aC1];refine bG (by simp) λm hm=>?_;have h0:m.get 0=some (a8 bo):=by rw[hm];rfl
 have h1:m.get 1=some (a8 bl):=by rw[hm];rfl
 have h2:m.get 2=some (a8 bx):=by rw[hm];rfl
 clear hm;have lo:=(hvo.grown gz (hvo.lt hg)).ld gu (o:=0) (by simp);simp only[ae]at lo;have I9:=aoG.ext gz.eb;have mi:=I9.len;have mi:dH [order]=some (aw 1):=mi;have i0:=I9.ix (P:=prog) (t:=38) (i:=0) (by simp[ints]) (k:= .i64);have l0:=I9.ld bM (i:=0) (by simp[ints]) (gJ (l:= [t]) (i:=0) (by simp));simp only[aW,ae,cO]at i0 l0;have af2:=h.ext hg gz;have Zj:=(Au.grown gz (Au.lt hg)).ld cT (o:=0) (by simp);have RS:=af2.own.ld eU (o:=0) (by simp);simp only[ae]at Zj RS;obtain⟨r,s2,e2,rfl,iE⟩:=V5 (k+6) dv af2.ts ht;have dI:=iE.bt;have ng:Grown s.nx s s2:=gz.trans (iE.le gz.nx);have Gg:=h.ext hg ng;obtain⟨km,vp,uh⟩:=he.grown N7 ng;have Vf:(wx.map (eC ρ)).length=5:=by simp[Xn]
 have Nv:=hvx.grown ng (hvx.lt hg);have lx2:=Nv.eA fp ft (o:=0) (by omega) (by decide);rw[bK,aP (by omega)]at lx2;have hmx:oF km U1.nx 12 (.agg ⟨wx⟩)=some (.agg ⟨wx.map (eC ρ)⟩):=by rw[dR eH,fz uh eH]
 obtain⟨oM,v2,s3,e3,oo,Fp,aK7,iZ,zO,Q4,_⟩:=apart (k+7) (by rfl) acs N7 dI vp (Rw hmx (nY .i64 (t:Int))) f50;rw[dR hq]at oo;have oo:=(bh oo).symm;subst oo;obtain⟨rW,v3,s4,e4,BL,Xq,ax5,nI,LA,Ze,_⟩:=apart (k+7) (by rfl) We aK7 iZ.bt Fp (oD (dR hq)) f108;rw[SR]at BL;have BL:=(bh BL).symm;subst BL;have WT:Grown s2.nx s2 s4:=iZ.trans (nI.le iZ.nx);have iI:=nI.bt;have oC:Grown s.nx s s4:=ng.trans (WT.le ng.nx);have Z2:=h.ext hg oC;obtain⟨r,s5,e5,rfl,lE⟩:=FT t (k+8) iI Z2.ts ht (by have:=hn;omega);have jm:=lE.bt;have Gh:Grown s.nx s s5:=oC.trans (lE.le oC.nx);have ll2:=(Au.grown ng (Au.lt hg)).ld cT (o:=0) (by simp);have Zi:=Gg.own.ld eU (o:=0) (by simp);have oB:Grown s.nx s s3:=ng.trans (iZ.le ng.nx);have ll3:=(Au.grown oB (Au.lt hg)).ld cT (o:=0) (by simp);have lt3:=(h.ext hg oB).own.ld eU (o:=0) (by simp);have ll4:=(Au.grown oC (Au.lt hg)).ld cT (o:=0) (by simp);have lt4:=Z2.own.ld eU (o:=0) (by simp);simp only[ae]at ll2 Zi ll3 lt3 ll4 lt4;obtain⟨Fs,he4,RR⟩:=Xq.grown ax5 lE;have hx5:=hvx.grown Gh (hvx.lt hg);have lx5:=hx5.eA o0 pb (o:=0) (by omega) (by decide);rw[bK]at lx5;have aK8:∀v∈wx.take 3,ui U3.nx v=true:= λv hv=>acv (by omega) (eH v (gV hv));have ax8:∀i,i<U1.nx->Fs i=ρ i:= λi hi=>by rw[RR i (by omega),LA i (by omega),zO i hi,uh i hi]
 have N5:oF Fs U3.nx 12 (.agg ⟨wx.take 3⟩)=some (.agg ⟨(wx.map (eC ρ)).take 3⟩):=by rw[dR aK8,fz (K:=U1.nx) ax8 (λv hv=>eH v (gV hv)),apm]
 obtain⟨ρ5,v5,s6,e6,hv5,he5,aUz,zQ,I4,hn5,_⟩:=apart (k+7) (by rfl) We ax5 jm he4 (oD N5) abm;rw[SR]at hv5;have hv5:=(bh hv5).symm;subst hv5;have htl:=ym h.ts.wf t ht;have aUA:(cF σ t).length<=262144:=by omega
 have eR:dC σ t<=4097:=by rw[rj ht];exact(h.ts.xL _ (aV ht)).2
 have w1:IntKind.i64.wrap (1+(dC σ t:Int))=((1+dC σ t:Nat):Int):=by rw[wrap_i64 (by omega)];omega
 rw[<-rj ht]at e2;have Io:∀e c,eJ .add e c (.string ⟨⟨A⟩⟩) (.string ⟨⟨[32]⟩⟩)=some (.string ⟨⟨[32]++A⟩⟩):= λe c=>gZ _ _ (by simp;omega);have Dj:∀e c,eJ .add e c (.string ⟨⟨[32]⟩⟩) (.string ⟨⟨[32]++A⟩⟩)=some (.string ⟨⟨[32]++A++ [32]⟩⟩):= λe c=>gZ _ _ (by simp;omega);have Dk:∀e c,eJ .add e c (.string ⟨⟨cF σ t⟩⟩) (.string ⟨⟨[32]++A++ [32]⟩⟩)=some (.string ⟨⟨[32]++A++ [32]++cF σ t⟩⟩):= λe c=>gZ _ _ (by simp;omega);have hc4:∀e c,eJ .add e c (.string ⟨⟨[32]++A++ [32]++cF σ t⟩⟩) (.string ⟨⟨[40,108,101]⟩⟩)=some (.string ⟨⟨[40,108,101]++([32]++A++ [32]++cF σ t)⟩⟩):= λe c=>gZ _ _ (by simp;omega);have hc5:∀e c,eJ .add e c (.string ⟨⟨[32]⟩⟩) (.string ⟨⟨[40,108,101]++([32]++A++ [32]++cF σ t)⟩⟩)=some (.string ⟨⟨[40,108,101]++([32]++A++ [32]++cF σ t)++ [32]⟩⟩):= λe c=>gZ _ _ (by simp;omega);have hc6:∀e c,eJ .add e c (.string ⟨⟨B⟩⟩) (.string ⟨⟨[40,108,101]++([32]++A++ [32]++cF σ t)++ [32]⟩⟩)=some (.string ⟨⟨[40,108,101]++([32]++A++ [32]++cF σ t)++ [32]++B⟩⟩):= λe c=>gZ _ _ (by simp;omega);have hc7:∀e c,eJ .add e c (.string ⟨⟨[41]⟩⟩) (.string ⟨⟨[40,108,101]++([32]++A++ [32]++cF σ t)++ [32]++B⟩⟩)=some (.string ⟨⟨leT σ A B t⟩⟩):= λe c=>gZ _ _ (by simp;omega);have rG:=cB (gj (l:=wx.map (eC ρ)) λv hv=>by obtain⟨u,hu,rfl⟩:=List.mem_map.1 hv;exact(lD (eH u hu)).1)
 unfold axn;apply aJ;simp+decide only[ag];apply aJ;simp+decide only[ag];refine aT (WC.mono (Q:= λx m' s'=>x= .normal∧s'=s5∧m'.get 2=some (a8 bx)∧m'.get 3=some (aw ((1+dC σ t:Nat):Int))∧m'.get 4=some (.string ⟨⟨[40,108,101]++([32]++A++ [32]++cF σ t)⟩⟩)) ?_ ?_)
 ·apply aJ;simp+decide only[ag,h0,lo,mi];refine bY (eW (λm s'=>∃j:Nat,j<=1∧m.get 2=some (a8 bx)∧m.get 7=some order∧m.get 8=some (aw 1)∧m.get 9=some (aw (j:Int))∧(j=0->s'=s1∧m.get 1=some (a8 bl)∧m.get 3=some (aw 1)∧m.get 4=some (.string ⟨⟨[40,108,101]⟩⟩))∧(j=1->s'=s5∧m.get 3=some (aw ((1+dC σ t:Nat):Int))∧m.get 4=some (.string ⟨⟨[40,108,101]++([32]++A++ [32]++cF σ t)⟩⟩)))
   (λm _=>match m.get 9 with|some (.int _ j)=>(2-j).toNat|_=>0) ?_ ?_ ?_)
  ·exact⟨0,by omega,by simp+decide only[ag,h2],by simp+decide only[ag],by simp+decide only[ag],by simp+decide only[ag,aW],λ_=>⟨rfl,by simp+decide only[ag,h1],by simp+decide only[ag],by simp+decide only[ag]⟩,by omega⟩
  ·simp+decide only[ag]
  rintro m s' ⟨j,hj,g2,g7,g8,g9,Nw,Xc⟩;apply aJ;by_cases hz:j=0
  ·subst hz;obtain⟨hs,g1,g3,g4⟩:=Nw rfl;subst hs;have g9:m.get 9=some (aw 0):=g9;have d0:decide ((0:Int)<1)=true:=by decide
   simp+decide only[ag,g8,g9,d0];refine aT (cK true (by simp+decide only[ag]) ?_);simp+decide only[ag];apply aR;apply kK;apply aJ;simp+decide only[ag,g7,g9,i0,l0];apply aJ;simp+decide only[ag,g1,g3,Zj,cH,bO,aG,RS,e2,w1];apply gY;simp+decide only[ag,g1,g2,g4,lx2,ll2,cH,bO,aG,Zi,e3,ll3,lt3,e4,Io,Dj,ll4,lt4,e5,Dk,hc4,rG];apply ar;simp+decide only[ag,g9,show IntKind.i64.wrap (0+1)=1 from rfl];exact⟨1,by omega,by simp+decide only[ag,g2],by simp+decide only[ag,g7],by simp+decide only[ag,g8],by simp+decide only[ag]<;>rfl,by omega,λ_=>trivial⟩
  ·have Rv:j=1:=by omega
   subst Rv;obtain⟨hs,g3,g4⟩:=Xc rfl;have g9:m.get 9=some (aw 1):=g9;have d0:decide ((1:Int)<1)=false:=by decide
   simp+decide only[ag,g8,g9,d0];refine aT (cK false (by simp+decide only[ag]) ?_);simp+decide only[ag];apply aR;simp+decide only[ag];exact⟨hs,by simp+decide only[ag,g2],by simp+decide only[ag,g3],by simp+decide only[ag,g4]⟩
 rintro x m s' ⟨rfl,rfl,g2,g3,g4⟩;simp+decide only[ag];apply aJ;simp+decide only[ag,g2,g3,g4,hc5,bO,aG,lx5,e6,hc6,hc7];exact aR (Dg (v:=aw ((1+dC σ t:Nat):Int)) (w:= .string ⟨⟨leT σ A B t⟩⟩) (.inr rfl) (by simp+decide only[ag]) (by simp+decide only[ag]) ⟨rfl,(iE.trans (WT.le iE.nx)).trans ((lE.trans (zQ.le lE.nx)).le (by have:=iE.nx;have:=WT.nx;omega))⟩)
def Qt:dB prog 79 2=some (6,5):=by kernel_rfl
def Yq (h:l.length=5):cA prog 79 [2] [.agg ⟨l⟩]=some (.agg ⟨iQ (ec 0 0 0 0 []) (.slice none 0 0) l 0 []⟩):=by refine fD Ec Ed ?_;show jq (dB prog 79) [(2,.agg ⟨l⟩)] _=_;rw[eV Qt (by rw[dn];exact h) (by simp[iQ,ec,mv]),jV,dn];rfl
def acw (n:Nat) (hg:Good s) (h:LS s d σ φ) {ρ:Nat->Nat} {U:AS} {wx:LVal} {T A B:List UInt8} {order:Value} (RT:Good U) (he:Bf ρ U s) (hf:MC t U wx T A B) (ht:t<σ.length) (hoc:order.cells= #[order]) (aoG:Sl s.nx s 3 1 order (ints [t])) (hn:σ.length+8<=n) (fR:φ.length<900000):
  cp (aE (n+3) (dJ 51) [a8 d.lp,.agg ⟨wx.map (eC ρ)⟩,order] s) (λr s'=>∃i d' fj,r=aw ((i:Nat):Int)∧su s s' d σ φ ⟨5,0,0,0,T,.slice none 0 0,[],wx.map (eC ρ),if 4096<1+dC σ t then 4097 else 1+dC σ t,if 4096<1+dC σ t then []else leT σ A B t⟩ i d' fj):=by
 obtain⟨U1,U2,U3,U4,wq,f106,f50,hq,f108,abm⟩:=hf.run;have Xn:=hf.len;have eH:=hf.ok;rw[aJ7];refine bG (by simp) λm hm=>?_;have h0:m.get 0=some (a8 d.lp):=by rw[hm];rfl
 have h1:m.get 1=some (.agg ⟨wx.map (eC ρ)⟩):=by rw[hm];rfl
 have h2:m.get 2=some order:=by rw[hm];rfl
 clear hm;obtain⟨X,hX⟩:=dO (wx.map (eC ρ));have hXl:X.length=5:=by rw[hX];simp[Xn]
 rw[<-hX]at h1⊢;obtain⟨s1,dm⟩:=dO (s.add (ca 24 [a8 d.lp]));have dv:=cz dm hg;have n1:s1.nx=s.nx+1:=by rw[dm];rfl
 have v1:=jS dm hg;have fV:=cM dm hg;obtain⟨s2,ee⟩:=dO (s1.add (ca 54 X));have dI:=cz ee dv;have n2:s2.nx=s.nx+2:=by rw[ee,ep,n1]
 have v2:ay s2 (s.nx+1) 54 X:=by rw[ee,<-n1];exact ay.new dv 54 _
 have iE:=cM ee dv;obtain⟨s3,gy⟩:=dO (s2.add (ca 38 [order]));have gQ:=cz gy dI;have n3:s3.nx=s.nx+3:=by rw[gy,ep,n2]
 have v3:ay s3 (s.nx+2) 38 [order]:=by rw[gy,<-n2];exact ay.new dI 38 _
 have iZ:=cM gy dI;have ER:Grown s1.nx s1 s3:=iE.trans (iZ.le iE.nx);have oB:Grown s.nx s s3:=fV.trans (ER.le fV.nx);have w1:=v1.grown ER (by omega);have w2:=v2.grown iZ (by omega);obtain⟨km,vp,uh⟩:=he.grown RT oB;have hmx:oF km U.nx 12 (.agg ⟨wx⟩)=some (.agg ⟨X⟩):=by rw[dR eH,fz uh eH,hX]
 obtain⟨oM,vT,s4,e4,hvT,Fp,Z3,nI,zO,Q4,_⟩:=apart (n+1) (by rfl) ai5 RT gQ vp (oD hmx) f106;rw[SR]at hvT;have hvT:=(bh hvT).symm;subst hvT;have iI:=nI.bt;have oC:Grown s.nx s s4:=oB.trans (nI.le oB.nx);have x1:=w1.grown nI (by omega);have x2:=w2.grown nI (by omega);have x3:=v3.grown nI (by omega);have Z2:=h.ext hg oC;have hX2:X=wx.map (eC oM):=by rw[hX,fz (K:=U.nx) (ρ:=ρ) (ρ':=oM) (λi hi=>by rw[zO i hi,uh i hi]) eH]
 have aK9:∀v∈wx,ui U1.nx v=true:= λv hv=>acv Q4 (eH v hv);have BG:=adW n iI Z2 Z3 Fp Xn aK9 ht f50 hq f108 abm hf.la hf.lb x3 x1 (by rw[<-hX2];exact x2) ((aoG.ext oC.eb).le oC.nx) hn;have xq:pO X:=by rw[hX];exact adV Xn eH
 obtain⟨r,s5,e5,i,d',fj,rfl,hp⟩:=B4 (n+1) iI Z2 (kind:=5) (number:=0) (a0:=0) (a1:=0) (rest:=T) (mz:=X) (kids:= []) (Sl.nil (n:=s4.nx) (s:=s4) (et:=3) (sz:=1)) xq fR BG;have ll3:=w1.ld cT (o:=0) (by simp);have ll4:=x1.ld cT (o:=0) (by simp);simp only[ae]at ll3 ll4;have lx3:=w2.eA fp ft (o:=0) (by omega) (by decide);have lx4:=x2.eA fp ft (o:=0) (by omega) (by decide);rw[bK,aP (by omega)]at lx3 lx4;have hb:=Yq hXl;have N9:=cB (gj (l:=X) λv hv=>by rw[hX]at hv;obtain⟨u,hu,rfl⟩:=List.mem_map.1 hv;exact(lD (eH u hu)).1)
 unfold c51;apply aJ;simp+decide only[ag,h0,h1,h2,ez hg];rw[show(Value.pointer (some ⟨d.lp,0,none⟩)).cells.toList= [a8 d.lp]from rfl,<-dm];simp+decide only[ag,ez dv,<-ee,ez dI];rw[hoc,show(#[order]:Array Value).toList= [order]from rfl,<-gy];apply lV;simp only[ec,aW,gO]at e5;simp+decide only[ag,n1,n2,ll3,ll4,lx3,lx4,hb,jz,e4,AX,ec,aW,e5,N9];exact aR (b6 (v:=aw (i:Int)) (.inr rfl) (by simp+decide only[ag]) ⟨i,d',fj,rfl,hp.before hg oC⟩)
def acx (a b:LVal):rowOf [a,b]= .n (some a) (.n (some b) .e .e) .e:=by rfl
def Ps {q:Value->bQ} {a b a' b':LVal} {sz:Nat} (ha:dj q a=some a') (hb:dj q b=some b'):kr q (.cells (rowOf [a,b]) sz 2 false et)=some (.cells (rowOf [a',b']) sz 2 false et):=by
 rw[rR,acx,acx];have h1:ju q (.n (some b) .e .e)=some (.n (some b') .e .e):=by show ob (dj q b) (λc'=>some (T.n (some c') .e .e))=_;rw[hb,cg]
 have h2:ju q (.n (some a) (.n (some b) .e .e) .e)=some (.n (some a') (.n (some b') .e .e) .e):=by show ob (ju q (.n (some b) .e .e)) (λl=>ob (ju q .e) λr'=>ob (dj q a) λc'=>some (T.n (some c') l r'))=_;rw[h1,cg];show ob (dj q a) (λc'=>some (T.n (some c') (T.n (some b') .e .e) .e))=_;rw[ha,cg]
 rw[h2,cg]
def Ih:fu prog 190=some 54:=by kernel_rfl
def K4:dW prog 54=some (5,[.bool false,.slice none 0 0,.slice none 0 0,.slice none 0 0,.slice none 0 0]):=by kernel_rfl
def zF:isAgg prog 52=some false:=by kernel_rfl
def MD {sz:Nat} {z:LVal} (hg:Good s) (he:fu prog t=some e) (hi:dW prog e=some (sz,z)) (eR:sz<=1000000) (hv:v.cells.toList.length=sz) (hu:u.cells.toList.length=sz):bF prog t 2 [0,1] s [v,u]=some (.slice (some ⟨s.nx,0,none⟩) 2 (bH 2),s.row e sz [v.cells.toList,u.cells.toList]):=by
 show ob (fu prog t) (λe=>ob (dW prog e) λi=>aD (Nat.ble (Nat.mul 2 i.1) 16000000) (ob (tW i.2 2) λtX=>ob (iL i.1 [(0,v),(1,u)] tX) λels=>jr s e i.1 els 2 2) none)=_;rw[he,cg,hi,cg];show aD (Nat.ble (Nat.mul 2 sz) 16000000) (ob (aD (Nat.beq (len v.cells.toList) sz) (ob (jE v.cells.toList 0 [z,z]) λr=>aD (Nat.beq (len u.cells.toList) sz) (ob (jE u.cells.toList 1 r) λr=>some r) none) none) (λels=>jr s e sz els 2 2)) none=_;rw[show Nat.ble (Nat.mul 2 sz) 16000000=true from bg (by show 2*sz<=_;omega),aS,dQ,hv,bj,dQ,hu,bj];exact oe (els:= [v.cells.toList,u.cells.toList]) hg e sz 2 (λl hl=>by
  simp at hl;rcases hl with rfl|rfl
  ·exact hv
  ·exact hu)
def zL:LVal:= [.bool false,.slice none 0 0,.slice none 0 0,.slice none 0 0,.slice none 0 0]
def cL (d:Nat):LVal:= [.bool false,.slice none 0 0,fF d 514,.slice none 0 0,.slice none 0 0]
def dY {K d v vc kc:Nat} (h1:d<K) (h2:v<K) (h3:k<K):∀x∈eL d v vc k kc,ui K x=true:= λx hx=>by
 simp only[eL,fF,bu,aX,db]at hx;rcases hx with rfl|rfl|rfl|rfl|rfl
 ·rfl
 ·rfl
 ·exact aL h1
 ·exact aL h2
 ·exact aL h3
def gL {K:Nat} {b:Bool} {d:Nat} (h1:n<K) (h2:d<K):∀x∈jb b n d,ui K x=true:= λx hx=>by
 simp only[jb,fF,bu,aX,db]at hx;rcases hx with rfl|rfl|rfl
 ·rfl
 ·exact aL h1
 ·exact aL h2
def xY {K d:Nat} (h1:d<K):∀x∈cL d,ui K x=true:= λx hx=>by
 simp only[cL,fF,bu,aX,db]at hx;rcases hx with rfl|rfl|rfl|rfl|rfl
 ·rfl
 ·rfl
 ·exact aL h1
 ·rfl
 ·rfl
def UU {K d:Nat} (h1:d<K):∀x∈ [Value.bool false,.slice none 0 0,fF d 514],ui K x=true:= λx hx=>by
 simp only[fF,bu,aX,db]at hx;rcases hx with rfl|rfl|rfl
 ·rfl
 ·rfl
 ·exact aL h1
def adX (n:Nat) (hg:Good s) (h:LS s d σ φ) {ρ:Nat->Nat} {U3 U4 U5 U6 U7:AS} {b:Bool} (RT:Good U3) (he:Bf ρ U3 s) (ht:t<σ.length) (hk:σ[t].kind≠2) (k3:U3.nx=12) (r8:bE U3 8 3 1 false [[aw (t:Int)]]) (r9:bE U3 9 51 3 false [jb b 10 11]) (f53:du 53 [.agg ⟨[.bool false,.slice none 0 0,fF 7 514]⟩] U3= .val (.agg ⟨cL 12⟩) U4) (k4:U4.nx=13) (f16:du 16 [aw (t:Int)] U4= .val (.agg ⟨eL 13 14 513 15 513⟩) U5) (k5:U5.nx=18) (f77:du 77 [.agg ⟨eL 13 14 513 15 513⟩,.agg ⟨jb b 10 11⟩] U5= .val (.agg ⟨eL 18 19 514 20 518⟩) U6) (k6:U6.nx=23) (f85:du 85 [.slice (some ⟨23,0,none⟩) 2 (bH 2)] (U6.add (.cells (rowOf [cL 12,eL 18 19 514 20 518]) 5 2 false 54))= .val (.agg ⟨eL 24 25 514 26 518⟩) U7) (k7:U7.nx=29):
  cp (aE (n+3) (dJ 42) [a8 d.lp,.agg ⟨(eL 7 8 514 9 518).map (eC ρ)⟩] s) (λr s'=>∃ρ',r= .agg ⟨(eL 24 25 514 26 518).map (eC ρ')⟩∧Bf ρ' U7 s'∧Good U7∧Grown s.nx s s'∧(∀i,i<12->ρ' i=ρ i)∧(∀i,12<=i->s.nx<ρ' i)):=by
 rw[axl];refine bG (by simp) λm hm=>?_;have h0:m.get 0=some (a8 d.lp):=by rw[hm];rfl
 have h1:m.get 1=some (.agg ⟨(eL 7 8 514 9 518).map (eC ρ)⟩):=by rw[hm];rfl
 clear hm;obtain⟨X,hX⟩:∃X,X=(eL 7 8 514 9 518).map (eC ρ):=⟨_,rfl⟩
 have hXe:X= [.bool false,.slice none 0 0,fF (ρ 7) 514,fF (ρ 8) 514,fF (ρ 9) 518]:=by rw[hX];rfl
 have hXl:X.length=5:=by rw[hXe];rfl
 rw[<-hX]at h1;obtain⟨sA,qS⟩:=dO (s.add (ca 54 X));have Ja:=cz qS hg;have nA:sA.nx=s.nx+1:=by rw[qS];rfl
 have vA:=jS qS hg;have zR:=cM qS hg;obtain⟨sB,BM⟩:=dO (sA.add (ca 54 zL));have Jc:=cz BM Ja;have nB:sB.nx=s.nx+2:=by rw[BM,ep,nA]
 have vB:ay sB (s.nx+1) 54 zL:=by rw[BM,<-nA];exact ay.new Ja 54 _
 have Z4:=cM BM Ja;have grB:Grown s.nx s sB:=zR.trans (Z4.le zR.nx);have vAB:=vA.grown Z4 (by omega);obtain⟨km,vp,uh⟩:=he.grown RT grB;have lC:=vAB.eA o0 pb (o:=0) (by omega) (by decide);rw[bK,hXe,show([Value.bool false,.slice none 0 0,fF (ρ 7) 514,fF (ρ 8) 514,fF (ρ 9) 518].take 3)= [Value.bool false,.slice none 0 0,fF (ρ 7) 514]from rfl]at lC;have m53:oF km U3.nx 12 (.agg ⟨[.bool false,.slice none 0 0,fF 7 514]⟩)=some (.agg ⟨[.bool false,.slice none 0 0,fF (ρ 7) 514]⟩):=by rw[dR (UU (by omega))];show some (Value.agg ⟨[.bool false,.slice none 0 0,fF (km 7) 514]⟩)=_;rw[uh 7 (by omega)]
 obtain⟨oM,v,s1,e53,hv,Fp,Z5,fV,zO,_,Nv⟩:=apart (n+1) (by rfl) L1 RT Jc vp (oD m53) f53;rw[dR (xY (by omega))]at hv;have hv:=(bh hv).symm;subst hv;have dv:=fV.bt;have n1:=fV.nx;obtain⟨C4,hC4⟩:∃C4,C4=(cL 12).map (eC oM):=⟨_,rfl⟩
 have Db:C4= [.bool false,.slice none 0 0,fF (oM 12) 514,.slice none 0 0,.slice none 0 0]:=by rw[hC4];rfl
 rw[<-hC4]at e53;obtain⟨sC,AA⟩:=dO (s1.add (ca 54 zL));have Fv:=cz AA dv;have nC:sC.nx=s1.nx+1:=by rw[AA];rfl
 have vC:=jS AA dv;have grC:=cM AA dv;have stD:=vC.kU Fv (us:=C4) (k:=5) (by rw[Db];rfl) (by rw[Db];rfl) (by decide) (by rw[Db];rfl);have hlC:=vC.lt Fv;obtain⟨sD,Zl⟩:=dO (sC.wr s1.nx (some (ca 54 C4)));rw[<-Zl]at stD;have Bg:Good sD:=by rw[Zl];exact bZ Fv hlC _
 have nD:sD.nx=s1.nx+1:=by rw[Zl];exact nC
 have vD:ay sD s1.nx 54 C4:=by rw[Zl];exact ay.set Fv hlC 54 _
 have grD:Grown s1.nx s1 sD:=by rw[Zl];exact grC.wr (af _) hlC _
 have Rz:Grown sB.nx sB sD:=fV.trans (grD.le fV.nx);have Dc:Grown s.nx s sD:=grB.trans (Rz.le grB.nx);have xD:=vAB.grown Rz (by omega);have zD:=vB.grown Rz (by omega);obtain⟨rW,Xq,LA⟩:=Fp.grown Z5 grD;have Z1:bE sD (ρ 8) 3 1 false [[aw (t:Int)]]:=by
  have fL:bE s (ρ 8) 3 1 false [[aw (t:Int)]]:=he.row r8 rfl λj hj Vg=>by simp at hj;subst hj;exact oD (nY .i64 (t:Int))
  exact fL.ext (Dc.eb _ (he.lt 8 (by omega)))
 have aoH:∀sx,Grown s.nx s sx->bE sx (ρ 9) 51 3 false [(jb b 10 11).map (eC ρ)]:= λsx rG=>by
  have fL:bE s (ρ 9) 51 3 false [(jb b 10 11).map (eC ρ)]:=he.row r9 rfl λj hj Vg=>by simp at hj;subst hj;exact tn (gL (by omega) (by omega))
  exact fL.ext (rG.eb _ (he.lt 9 (by omega)))
 have sl8:Sl sD.nx sD 3 1 (fF (ρ 8) 514) (ints [t]):=Sl.full (c:=514) (R:=ints [t]) (by have:=he.lt 8 (by omega);have:=Dc.nx;omega) Z1 (by simp[ints]) (.inr ⟨by decide,by decide⟩);have sl9:∀sx,Good sx->Grown s.nx s sx->Sl sx.nx sx 51 3 (fF (ρ 9) 518) [(jb b 10 11).map (eC ρ)]:= λsx hgx rG=>Sl.full (c:=518) (R:= [(jb b 10 11).map (eC ρ)]) (by have:=he.lt 9 (by omega);have:=rG.nx;omega) (aoH sx rG) (by simp) (.inr ⟨by decide,by decide⟩);have ld8:=xD.ld gu (o:=3) (by omega);have ld9:=xD.ld zF (o:=4) (by omega);simp only[hXe,ae,aZ]at ld8 ld9;have len8:dH [fF (ρ 8) 514]=some (aw 1):=rfl;have aoI:dH [fF (ρ 9) 518]=some (aw 1):=rfl;have ix8:=sl8.ix (P:=prog) (t:=38) (i:=0) (by simp[ints]) (k:= .i64);have lt8:=sl8.ld bM (i:=0) (by simp[ints]) (gJ (l:= [t]) (i:=0) (by simp));simp only[aW,ae,cO]at ix8 lt8;have aoJ:=h.ext hg Dc;obtain⟨r,sx,e33,rfl,rG⟩:=pX n Bg aoJ ht;rw[rG]at e33;obtain⟨Fs,v,s2,Zm,hv,he4,Z6,iE,RR,_,hx4⟩:=apart (n+1) (by rfl) L0 Z5 Bg Xq (oD (nY .i64 (t:Int))) f16;rw[dR (dY (by omega) (by omega) (by omega))]at hv;have hv:=(bh hv).symm;subst hv;have dI:=iE.bt;have n2:=iE.nx;obtain⟨C5,hC5⟩:∃C5,C5=(eL 13 14 513 15 513).map (eC Fs):=⟨_,rfl⟩
 have Lp:C5= [.bool false,.slice none 0 0,fF (Fs 13) 514,fF (Fs 14) 513,fF (Fs 15) 513]:=by rw[hC5];rfl
 rw[<-hC5]at Zm;obtain⟨sE,CW⟩:=dO (s2.add (ca 54 zL));have EE:=cz CW dI;have nE:sE.nx=s2.nx+1:=by rw[CW];rfl
 have vE:=jS CW dI;have grE:=cM CW dI;have stF:=vE.kU EE (us:=C5) (k:=5) (by rw[Lp];rfl) (by rw[Lp];rfl) (by decide) (by rw[Lp];rfl);have hlE:=vE.lt EE;obtain⟨sF,BN⟩:=dO (sE.wr s2.nx (some (ca 54 C5)));rw[<-BN]at stF;have hgF:Good sF:=by rw[BN];exact bZ EE hlE _
 have nF:sF.nx=s2.nx+1:=by rw[BN];exact nE
 have vF:ay sF s2.nx 54 C5:=by rw[BN];exact ay.set EE hlE 54 _
 have grF:Grown s2.nx s2 sF:=by rw[BN];exact grE.wr (af _) hlE _
 have WU:Grown sD.nx sD sF:=iE.trans (grF.le iE.nx);have RA:Grown s.nx s sF:=Dc.trans (WU.le Dc.nx);have Z7:=h.ext hg RA;have Z8:=Z7.own.ld eU (o:=0) (by simp);simp only[ae]at Z8;obtain⟨r,s3,e34,rfl,iZ⟩:=vU n hgF Z7.ts ht;have gQ:=iZ.bt;have n3:=iZ.nx;have WV:Grown s2.nx s2 s3:=grF.trans (iZ.le grF.nx);have oB:Grown s.nx s s3:=RA.trans (iZ.le RA.nx);have dk:decide ((σ[t].kind:Int)=2)=false:=az (by omega);obtain⟨ρ5,he5,I4⟩:=he4.grown Z6 WV;have RB:=(vD.grown WU (by omega)).grown iZ (by omega);have aoK:=vF.grown iZ (by omega);have x3:=(xD.grown WU (by omega)).grown iZ (by omega);have aoL:=(zD.grown WU (by omega)).grown iZ (by omega);have aLa:C4.length=5:=by rw[Db];rfl
 have aoM:C5.length=5:=by rw[Lp];rfl
 have OB:=RB.eA fp ft (o:=0) (by omega) (by decide);have OC:=aoK.eA fp ft (o:=0) (by omega) (by decide);rw[bK,aP (by omega)]at OB OC;have Z9:=x3.ld zF (o:=4) (by omega);simp only[hXe,ae,aZ]at Z9;have s93:=sl9 s3 gQ oB;have ix9:=s93.ix (P:=prog) (t:=52) (i:=0) (by simp) (k:= .i64);have lq9:=s93.eA o0 pb (by decide) (i:=0) (by simp);simp only[aW,ae]at ix9 lq9;have r50:∀i,i<12->ρ5 i=ρ i:= λi hi=>by rw[I4 i (by omega),RR i (by omega),LA i (by omega),zO i (by omega),uh i (by omega)]
 have aoN:oF ρ5 U5.nx 12 (.agg ⟨eL 13 14 513 15 513⟩)=some (.agg ⟨C5⟩):=by rw[dR (dY (by omega) (by omega) (by omega)),hC5,fz (K:=18) (λi hi=>I4 i (by omega)) (dY (by omega) (by omega) (by omega))]
 have aoO:oF ρ5 U5.nx 12 (.agg ⟨jb b 10 11⟩)=some (.agg ⟨(jb b 10 11).map (eC ρ)⟩):=by rw[dR (gL (by omega) (by omega)),fz (K:=12) r50 (gL (by omega) (by omega))]
 obtain⟨Ra,v,s4,e77,hv,he6,af8,nI,Q8,_,hx6⟩:=apart (n+1) (by rfl) L2 Z6 gQ he5 (Rw aoN aoO) f77;rw[dR (dY (by omega) (by omega) (by omega))]at hv;have hv:=(bh hv).symm;subst hv;have iI:=nI.bt;have n4:=nI.nx;obtain⟨C6,hC6⟩:∃C6,C6=(eL 18 19 514 20 518).map (eC Ra):=⟨_,rfl⟩
 have aoP:C6.length=5:=by rw[hC6];rfl
 rw[<-hC6]at e77;have hb:=MD (t:=190) (v:= .agg ⟨C4⟩) (u:= .agg ⟨C6⟩) iI Ih K4 (by decide) (by rw[dn,Db];rfl) (by rw[dn];exact aoP);rw[dn,dn]at hb;obtain⟨sG,hsG⟩:=dO (s4.row 54 5 [C4,C6]);rw[<-hsG]at hb;have grG:Grown s4.nx s4 sG:=by rw[hsG];exact(Grown.refl iI _).row (af _) _ _ _
 have hgG:=grG.bt;have nG:sG.nx=s4.nx+1:=by rw[hsG];rfl
 have aoQ:kr (oF Ra U6.nx 12) (.cells (rowOf [cL 12,eL 18 19 514 20 518]) 5 2 false 54)=some (.cells (rowOf [C4,C6]) 5 2 false 54):=by
  refine Ps ?_ ?_
  ·rw[tn (xY (by omega)),hC4,fz (K:=13) (λi hi=>by rw[Q8 i (by omega),I4 i (by omega),RR i (by omega),LA i (by omega)]) (xY (by omega))]
  ·rw[tn (dY (by omega) (by omega) (by omega)),hC6]
 obtain⟨Ny,he7,Xr,aaa⟩:=he6.add af8 iI aoQ;have aoR:Bf Ny (U6.add (.cells (rowOf [cL 12,eL 18 19 514 20 518]) 5 2 false 54)) sG:=by rw[hsG];exact he7
 have aDU:=fW af8 (.cells (rowOf [cL 12,eL 18 19 514 20 518]) 5 2 false 54);have k6':(U6.add (.cells (rowOf [cL 12,eL 18 19 514 20 518]) 5 2 false 54)).nx=24:=by rw[ep,k6]
 have m85:oF Ny (U6.add (.cells (rowOf [cL 12,eL 18 19 514 20 518]) 5 2 false 54)).nx 12 (.slice (some ⟨23,0,none⟩) 2 (bH 2))=some (.slice (some ⟨s4.nx,0,none⟩) 2 (bH 2)):=by rw[MB (by rw[k6'];rfl)];show some (Value.slice (some ⟨Ny 23,0,none⟩) 2 (bH 2))=_;rw[<-k6,aaa]
 obtain⟨LD,v,s5,e85,hv,he8,RC,lE,hr8,_,hx8⟩:=apart (n+1) (by rfl) acu aDU hgG aoR (oD m85) f85;rw[dR (dY (by omega) (by omega) (by omega))]at hv;have hv:=(bh hv).symm;subst hv;have jm:=lE.bt;have n5:=lE.nx;obtain⟨C7,hC7⟩:∃C7,C7=(eL 24 25 514 26 518).map (eC LD):=⟨_,rfl⟩
 have Lq:C7.length=5:=by rw[hC7];rfl
 have aab:cP C7=true:=by rw[hC7];rfl
 rw[<-hC7]at e85;have Jh:Grown s3.nx s3 s5:=(nI.trans (grG.le nI.nx)).trans (lE.le (by omega));have aac:=RB.grown Jh (by omega);have aoS:=aoL.grown Jh (by omega);have stH:=aac.kU jm (us:=C7) (k:=5) (by rw[Db];exact Lq) Lq.symm (by decide) aab;have Xt:=aac.lt jm;obtain⟨sH,Rb⟩:=dO (s5.wr s1.nx (some (ca 54 C7)));rw[<-Rb]at stH;have Zn:Good sH:=by rw[Rb];exact bZ jm Xt _
 have nH:sH.nx=s5.nx:=by rw[Rb];rfl
 have aoT:ay sH s1.nx 54 C7:=by rw[Rb];exact ay.set jm Xt 54 _
 have aad:ay sH (s.nx+1) 54 zL:=by rw[Rb];exact aoS.wr jm Xt (by omega) _
 have OD:=aoT.eA fp ft (o:=0) (by omega) (by decide);rw[bK,aP (by omega)]at OD;have stI:=aad.kU Zn (us:=C7) (k:=5) (by rw[Lq];rfl) Lq.symm (by decide) aab;have hlH:=aad.lt Zn;obtain⟨sI,RU⟩:=dO (sH.wr (s.nx+1) (some (ca 54 C7)));rw[<-RU]at stI;have hgI:Good sI:=by rw[RU];exact bZ Zn hlH _
 have aoU:ay sI (s.nx+1) 54 C7:=by rw[RU];exact ay.set Zn hlH 54 _
 have OE:=aoU.eA fp ft (o:=0) (by omega) (by decide);rw[bK,aP (by omega)]at OE;have Gh:Grown s.nx s s5:=oB.trans (Jh.le oB.nx);have aoV:Grown s.nx s sI:=by rw[RU];refine Grown.wr ?_ (by omega) (by omega) _;rw[Rb];exact Gh.wr (by omega) (by omega) _
 have r80:∀i,i<12->LD i=ρ i:= λi hi=>by rw[hr8 i (by omega),Xr i (by omega),Q8 i (by omega),r50 i hi]
 have av:∀i,i<29->LD i≠s1.nx∧LD i≠s.nx+1∧(12<=i->s.nx<LD i):= λi hi=>by
  by_cases i1:i<12
  ·rw[r80 i i1];have:=he.lt i (by omega);exact⟨by omega,by omega,by omega⟩
  ·by_cases i2:i<13
   ·have e:LD i=oM i:=by rw[hr8 i (by omega),Xr i (by omega),Q8 i (by omega),I4 i (by omega),RR i (by omega),LA i (by omega)]
    rw[e];have h1:=Nv i (by omega);have h2:=Fp.lt i (by omega);exact⟨by omega,by omega,by omega⟩
   ·by_cases i3:i<18
    ·have e:LD i=Fs i:=by rw[hr8 i (by omega),Xr i (by omega),Q8 i (by omega),I4 i (by omega)]
     rw[e];have h1:=hx4 i (by omega);exact⟨by omega,by omega,by omega⟩
    ·by_cases i4:i<23
     ·have e:LD i=Ra i:=by rw[hr8 i (by omega),Xr i (by omega)]
      rw[e];have h1:=hx6 i (by omega);exact⟨by omega,by omega,by omega⟩
     ·by_cases i5:i<24
      ·have e:LD i=s4.nx:=by rw[hr8 i (by omega),show i=U6.nx by omega,aaa]
       rw[e];exact⟨by omega,by omega,by omega⟩
      ·have h1:=hx8 i (by omega);exact⟨by omega,by omega,by omega⟩
 obtain⟨ρ9,he9,hr9⟩:=he8.frame RC (s':=sI) (by rw[RU];show s5.nx<=sH.nx;omega) hgI (λi hi=>by obtain⟨a1,a2,_⟩:=av i (by omega);rw[RU,cj Zn hlH,aC a2,Rb,cj jm Xt,aC a1])
 unfold c42;apply aJ;simp+decide only[ag,h0,h1,ez hg];rw[<-qS];have aoW:∀lo tm,tB 54 [.bool false,.slice none 0 0,.slice none 0 0,.slice none 0 0,.slice none 0 0] lo tm sA=some (a8 sA.nx,sB):= λlo tm=>by rw[BM];exact iH Ja 54 _
 have aoX:∀lo tm,tB 54 [.bool false,.slice none 0 0,.slice none 0 0,.slice none 0 0,.slice none 0 0] lo tm s1=some (a8 s1.nx,sC):= λlo tm=>by rw[AA];exact iH dv 54 _
 have aoY:∀lo tm,tB 54 [.bool false,.slice none 0 0,.slice none 0 0,.slice none 0 0,.slice none 0 0] lo tm s2=some (a8 s2.nx,sE):= λlo tm=>by rw[CW];exact iH dI 54 _
 simp+decide only[ag,aoW];apply aJ;simp+decide only[ag,bO,aG,lC,e53,aoX,stD];refine aT (WC.mono (Q:= λx m' s'=>x= .normal∧s'=sH∧m'.get 4=some (a8 (s.nx+1))∧m'.get 5=some (a8 s1.nx)) ?_ ?_)
 ·apply aJ;simp+decide only[ag,bO,aG,ld8,ld9,len8,aoI,FQ,LR,show min (1:Int) 1=1 from rfl];refine bY (eW (λm s'=>∃j:Nat,j<=1∧m.get 4=some (a8 (s.nx+1))∧m.get 5=some (a8 s1.nx)∧m.get 18=some (aw 1)∧m.get 19=some (aw (j:Int))∧(j=0->s'=sD∧m.get 0=some (a8 d.lp)∧m.get 3=some (a8 s.nx))∧(j=1->s'=sH))
   (λm _=>match m.get 19 with|some (.int _ j)=>(2-j).toNat|_=>0) ?_ ?_ ?_)
  ·exact⟨0,by omega,by simp+decide only[ag,nA],by simp+decide only[ag],by simp+decide only[ag],by simp+decide only[ag,aW],λ_=>⟨rfl,by simp+decide only[ag,h0],by simp+decide only[ag]⟩,by omega⟩
  ·simp+decide only[ag]
  rintro m s' ⟨j,hj,g4,g5,g18,Nz,Nw,Xc⟩;apply aJ;by_cases hz:j=0
  ·subst hz;obtain⟨hs,g0,g3⟩:=Nw rfl;rw[hs];have Nz:m.get 19=some (aw 0):=Nz;have d0:decide ((0:Int)<1)=true:=by decide
   simp+decide only[ag,g18,Nz,d0];refine aT (cK true (by simp+decide only[ag]) ?_);simp+decide only[ag];apply aR;apply kK;apply aJ;simp+decide only[ag,Nz];apply aJ;simp+decide only[ag,g0,g3,bO,aG,ld8,ix8,lt8,e33];apply aJ;simp+decide only[ag,Zm,aoY,stF];apply dh;apply ar;simp+decide only[ag,g0,cH,bO,aG,Z8,e34,dk];refine dD (by simp+decide only[ag]) ?_;simp+decide only[ag];have aoZ:=cB (gj (l:=C4) λv hv=>by rw[hC4]at hv;obtain⟨u,hu,rfl⟩:=List.mem_map.1 hv;exact(lD (xY (K:=13) (by omega) u hu)).1)
   have aae:=(RB.grown (nI.trans (grG.le nI.nx)) (by omega)).eA (P:=prog) fp ft (o:=0) (by omega) (by decide);rw[bK,aP (by omega)]at aae;have ao0:=cB (gj (l:=C5) λv hv=>by rw[hC5]at hv;obtain⟨u,hu,rfl⟩:=List.mem_map.1 hv;exact(lD (dY (K:=18) (by omega) (by omega) (by omega) u hu)).1)
   have ao1:=cB (gj (l:=(jb b 10 11).map (eC ρ)) λv hv=>by obtain⟨u,hu,rfl⟩:=List.mem_map.1 hv;exact(lD (gL (K:=12) (by omega) (by omega) u hu)).1)
   have ao2:=cB s93.same;apply gY;simp+decide only[ag,g3,g5,bO,aG,OB,OC,Z9,ix9,lq9,e77,hb,aae,e85,stH,aoZ,ao0,ao1,ao2];apply ar;simp+decide only[ag,Nz,show IntKind.i64.wrap (0+1)=1 from rfl];exact⟨1,by omega,by simp+decide only[ag,g4],by simp+decide only[ag,g5],by simp+decide only[ag,g18],by simp+decide only[ag]<;>rfl,by omega,λ_=>trivial⟩
  ·have Rv:j=1:=by omega
   subst Rv;have hs:=Xc rfl;have Nz:m.get 19=some (aw 1):=Nz;have d0:decide ((1:Int)<1)=false:=by decide
   simp+decide only[ag,g18,Nz,d0];refine aT (cK false (by simp+decide only[ag]) ?_);simp+decide only[ag];apply aR;simp+decide only[ag];exact⟨hs,by simp+decide only[ag,g4],by simp+decide only[ag,g5]⟩
 rintro x m s' ⟨rfl,rfl,g4,g5⟩;simp+decide only[ag];apply aJ;simp+decide only[ag,g4,g5,OD,stI];refine aR (tM (u:=a8 (s.nx+1)) (v:= .agg ⟨C7⟩) (.inr rfl) g4 ?_ ⟨ρ9,?_,he9,RC,aoV,λi hi=>by rw[hr9 i (by omega),r80 i hi],?_⟩)
 ·rw[vS,OE]
 ·rw[hC7,fz (K:=29) (λi hi=>hr9 i (by omega)) (dY (by omega) (by omega) (by omega))]
 ·intro i hi;by_cases h29:i<29
  ·rw[hr9 i (by omega)];exact(av i h29).2.2 hi
  ·have:=he9.hi i (by omega);have hnI:sI.nx=s5.nx:=by rw[RU];exact nH
   omega
def ao3 (k:Nat):Bool:=nR Bool true (λi ih=>aD ih (lF ((gg i).any λb=>b==32)) false) k
def L3 (i k:Nat):Bool:=nR Bool true (λj ih=>aD ih (aD (Nat.beq i j) true (lF (gg i==gg j))) false) k
def SS (k:Nat):Bool:=nR Bool true (λi ih=>aD ih (L3 i 200) false) k
def Wf:ao3 200=true:=by kernel_rfl
def Yr:SS 200=true:=by kernel_rfl
def ME {a b:Bool} (h:aD a b false=true):a=true∧b=true:=by cases a<;>simp_all[aD]
def MF:∀ {k:Nat},ao3 k=true->∀i,i<k->(32:UInt8)∉gg i
 |0,_,i,hi=>by omega
 |k+1,h,i,hi=>by
  have h:aD (ao3 k) (lF ((gg k).any λb=>b==32)) false=true:=h;obtain⟨h1,h2⟩:=ME h;by_cases e:i=k
  ·subst e;rw[lq]at h2;intro hm;have:((gg i).any λb=>b==32)=true:=List.any_eq_true.2 ⟨32,hm,by simp⟩;rw[this]at h2;cases h2
  ·exact MF h1 i (by omega)
def KX:∀ {i k:Nat},L3 i k=true->∀j,j<k->i≠j->gg i≠gg j
 |i,0,_,j,hj,_=>by omega
 |i,k+1,h,j,hj,zK=>by
  have h:aD (L3 i k) (aD (Nat.beq i k) true (lF (gg i==gg k))) false=true:=h;obtain⟨h1,h2⟩:=ME h;by_cases e:j=k
  ·subst e;rw[show Nat.beq i j=false from by cases hb:Nat.beq i j with|false=>rfl|true=>exact(zK (au hb)).elim,de,lq]at h2;intro he;rw[he]at h2;simp at h2
  ·exact KX h1 j (by omega) zK
def KY:∀ {k:Nat},SS k=true->∀i,i<k->∀j,j<200->i≠j->gg i≠gg j
 |0,_,i,hi=>by omega
 |k+1,h,i,hi=>by
  have h:aD (SS k) (L3 k 200) false=true:=h;obtain⟨h1,h2⟩:=ME h;by_cases e:i=k
  ·subst e;exact KX h2
  ·exact KY h1 i (by omega)
def adY (hi:i<200) (hj:j<200) (h:gg i=gg j):i=j:=by
 by_cases e:i=j
 ·exact e
 ·exact(KY Yr i hi j hj e h).elim
def amc:∀ {a b:List UInt8} {x y:List UInt8},(32:UInt8)∉a->(32:UInt8)∉b->a++32::x=b++32::y->a=b∧x=y
 | [],[],x,y,_,_,h=>by simp at h;exact⟨rfl,h⟩
 | [],c::b,x,y,_,hb,h=>by simp at h;exact(hb (by rw[<-h.1];simp)).elim
 |c::a,[],x,y,ha,_,h=>by simp at h;exact(ha (by rw[h.1];simp)).elim
 |c::a,e::b,x,y,ha,hb,h=>by simp at h;obtain⟨h1,h2⟩:=amc (a:=a) (b:=b) (λhm=>ha (by simp[hm])) (λhm=>hb (by simp[hm])) h.2;exact⟨by rw[h.1,h1],h2⟩
def zz (n:Nat) (l:List Nat):qI (n::l)=gg n++32::qI l:=by simp[qI]
def Pu:∀ {l l':List Nat},(∀x∈l,x<200)->(∀x∈l',x<200)->qI l=qI l'->l=l'
 | [],[],_,_,_=>rfl
 | [],n::l',_,h',h=>by rw[zz]at h;simp[qI]at h
 |n::l,[],hl,_,h=>by rw[zz]at h;simp[qI]at h
 |n::l,n'::l',hl,N1,h=>by rw[zz,zz]at h;have hn:=hl n (by simp);have hn':=N1 n' (by simp);obtain⟨h1,h2⟩:=amc (MF Wf n hn) (MF Wf n' hn') h;rw[adY hn hn' h1,Pu (λx hx=>hl x (by simp[hx])) (λx hx=>N1 x (by simp[hx])) h2]
def txB (k:Nat):Nat:=if k=2∨k=3 then 100000 else if k=4 then 3010 else 3000
def Pv (h:5<=k):txB k=3000:=by unfold txB;rw[aC (by omega),aC (by omega)]
def aDV (h:4<=k):txB k<=3010:=by unfold txB;rw[aC (by omega)];split<;>omega
structure FWE (i:Nat) (e:dA):Prop where
 size:e.size<=4097
 text:e.text.length<=txB e.kind
 many:e.kids.length<=200
 kids:∀k∈e.kids,k<i∧k<200
 rest:e.kind=2∨e.kind=3∨e.kind=4->e.rest=qI e.kids
def FW (φ:List dA):Prop:=∀i (hi:i<φ.length),FWE i φ[i]
def FW.snoc {e:dA} (h:FW φ) (he:FWE φ.length e):FW (φ++ [e]):= λi hi=>by
 by_cases cS:i<φ.length
 ·rw[eO cS];exact h i cS
 ·have hl:i=φ.length:=by simp at hi;omega
  subst hl;simpa using he
def GA (n:Nat) (v:Value):Prop:=∀b o m c,v= .slice (some ⟨b,o,none⟩) m c->n<=b
structure xy (k:Nat) (s s':AS) (d:LV) (σ:List cx) (φ:List dA) (d':LV) (fj:List dA):Prop where
 ls:LS s' d' σ fj
 fw:FW fj
 pre:∃τ,fj=φ++τ∧τ.length<=k∧∀e∈τ,GA s.nx e.kv
 an:eu RQ s s'
 same:d'={d with fv:=d'.fv}
def xy.trans {k k':Nat} {s s' j9:AS} {d d' d'':LV} {σ:List cx} {φ fj aaf:List dA} (h:xy k s s' d σ φ d' fj) (h':xy k' s' j9 d' σ fj d'' aaf):xy (k+k') s j9 d σ φ d'' aaf:=by
 obtain⟨τ,h1,h2,h5⟩:=h.pre;obtain⟨τ',h3,h4,h6⟩:=h'.pre;refine⟨h'.ls,h'.fw,⟨τ++τ',by rw[h3,h1,ey],by simp;omega,λe he=>?_⟩,h.an.trans h'.an,?_⟩
 ·rcases List.mem_append.1 he with he|he
  ·exact h5 e he
  ·exactλb o m c hb=>di h.an.nx (h6 e he b o m c hb)
 rw[h'.same,h.same]
def xy.len (h:xy k s s' d σ φ d' fj):φ.length<=fj.length∧fj.length<=φ.length+k:=by obtain⟨τ,h1,h2,_⟩:=h.pre;rw[h1];simp;omega
def xy.get (h:xy k s s' d σ φ d' fj) (hi:i<φ.length):fj[i]'(by have:=h.len;omega)=φ[i]:=by obtain⟨τ,h1,h2,_⟩:=h.pre;subst h1;exact eO hi
def xy.lp {k:Nat} {s s':AS} {d d':LV} {σ:List cx} {φ fj:List dA} (h:xy k s s' d σ φ d' fj):d'.lp=d.lp:=by rw[h.same]
def xy.tf (h:xy k s s' d σ φ d' fj) (ht:TF φ):TF fj:=by
 have h2:=ht.two;have hl:=h.len;refine⟨by omega,?_,?_⟩
 ·rw[h.get (i:=0) (by omega)];exact ht.tt
 ·rw[h.get (i:=1) (by omega)];exact ht.ff
def xy.grown (hg:Good s) (h:LS s d σ φ) (hf:FW φ) (fN:Grown s.nx s s'):xy 0 s s' d σ φ d φ:=⟨h.ext hg fN,hf,⟨[],by simp,af _,by simp⟩,fN.an hg,rfl⟩
def xy.mono {k':Nat} (h:xy k s s' d σ φ d' fj) (hk:k<=k'):xy k' s s' d σ φ d' fj:=by obtain⟨τ,h1,h2,h3⟩:=h.pre;exact⟨h.ls,h.fw,⟨τ,h1,by omega,h3⟩,h.an,h.same⟩
def su.st {e:dA} (hg:Good s) (h:LS s d σ φ) (hf:FW φ) (hp:su s s' d σ φ e i d' fj) (he:FWE φ.length e) (Iu:GA s.nx e.kv):xy 1 s s' d σ φ d' fj∧∃hi:i<fj.length,fj[i].key=e.key∧(e.kind=2∨e.kind=3∨e.kind=4->fj[i].kids=e.kids):=by
 have key:∀x:dA,x.key=e.key->x.kind=e.kind∧x.rest=e.rest:= λx hx=>by unfold dA.key ec at hx;simp only[kS,rS,vH,hZ,zS]at hx;obtain⟨h1,_,_,_,h5⟩:=hx;refine⟨by omega,?_⟩;injection h5 with h5;injection h5
 cases hp with
 |uC hi hk fN=>refine⟨(xy.grown hg h hf fN).mono (by omega),hi,hk,λUW=>?_⟩;obtain⟨k1,k2⟩:=key _ hk;have w:=hf i hi;have r1:=w.rest (by rw[k1];exact UW);have r2:=he.rest UW;exact Pu (λx hx=>(w.kids x hx).2) (λx hx=>(he.kids x hx).2) (by rw[<-r1,<-r2,k2])
 |new hn hk hl=>exact⟨⟨hl,hf.snoc he,⟨[e],rfl,af _,λx hx=>by simp at hx;subst hx;exact Iu⟩,hk,rfl⟩,by simp,by simp,by simp⟩
def xy.after (hg:Good s0) (fN:Grown s0.nx s0 s) (h:xy k s s' d σ φ d' fj):xy k s0 s' d σ φ d' fj:=by obtain⟨τ,h1,h2,h3⟩:=h.pre;exact⟨h.ls,h.fw,⟨τ,h1,h2,λe he b o m c hb=>di fN.nx (h3 e he b o m c hb)⟩,(fN.an hg).trans h.an,h.same⟩
def rn (n:Nat):GA n (.slice none 0 0):= λb o m c h=>by cases h
def Pw {m c:Nat} (h:n<=b):GA n (.slice (some ⟨b,0,none⟩) m c):= λb' o m' c' hb=>by
 injection hb with h1 _ _
 injection h1 with h1
 injection h1 with h1 _ _
 omega
def dA.j2 {e:dA} {kind:Nat} {number a0 a1:Int} {rest:List UInt8} (h:e.key=ec kind number a0 a1 rest):e.kind=kind∧e.number=number∧e.a0=a0∧e.a1=a1∧e.rest=rest:=by unfold dA.key ec at h;simp only[kS,rS,vH,hZ,zS]at h;obtain⟨h1,h2,h3,h4,h5⟩:=h;refine⟨by omega,h2,h3,h4,?_⟩;injection h5 with h5;injection h5
def ao4 (z:Nat):(if 4096<z then 4097 else z)<=4097:=by split<;>omega
def ao5 (z k:Nat) (tx:List UInt8) (h:tx.length<=k):(if 4096<z then []else tx).length<=k:=by
 split
 ·simp
 ·exact h
def FWE.atom {kind:Nat} {number a0 a1:Int} {kv:Value} {z:Nat} {tx:List UInt8} {rest:List UInt8} {mz:LVal} (hk:5<=kind) (ht:tx.length<=3000):FWE i ⟨kind,number,a0,a1,rest,kv,[],mz,if 4096<z then 4097 else z,if 4096<z then []else tx⟩:=by
 refine⟨ao4 z,?_,by simp,(λk hk=>by simp at hk),λh=>?_⟩
 ·show(if 4096<z then []else tx).length<=txB kind;rw[Pv hk];exact ao5 z _ tx ht
 ·rcases h with h|h|h<;>(have h:kind=_:=h;omega)
def aLb (n:Nat) (hg:Good s) (h:LS s d σ φ) (hf:FW φ) {tag:Nat} (Ah:tag<6) (ht:t<σ.length) (hk:σ[t].kind≠2) (hn:σ.length+8<=n) (fR:φ.length<900000) (hT:(cF σ t).length<=2000):
  cp (aE (n+4) (dJ 10) [a8 d.lp,aw (tag:Int),aw (t:Int)] s) (λr s'=>∃i d' fj,r=aw ((i:Nat):Int)∧xy 1 s s' d σ φ d' fj∧∃hi:i<fj.length,fj[i].key=ec 7 (tag:Int) (t:Int) (-1) []):=by
 obtain⟨r,s',e,i,d',fj,rfl,hp⟩:=as3 n hg h Ah ht hk hn fR;have htn:=Po tag;obtain⟨fU,hi,qG,_⟩:=hp.st hg h hf (FWE.atom (by omega) (by simp[nS];omega)) (rn _);exact⟨_,s',e,i,d',fj,rfl,fU,hi,qG⟩
def aya (n:Nat) (hg:Good s) (h:LS s d σ φ) (hf:FW φ) (EC:f<φ.length) (hk:5<=φ[f].kind) (Xm:f<200) (fR:φ.length<900000):
  cp (aE (n+5) (dJ 20) [a8 d.lp,aw (f:Int)] s) (λr s'=>∃i d' fj,r=aw ((i:Nat):Int)∧xy 1 s s' d σ φ d' fj∧∃hi:i<fj.length,fj[i].kind=4∧fj[i].kids= [f]):=by
 have w:=hf f EC;have hz:=w.size;have RP:=w.text;rw[Pv hk]at RP;obtain⟨r,s',e,i,d',fj,kv,⟨kb,kc,Iu,hkb⟩,rfl,hp⟩:=as4 n hg h EC (by omega) (by omega) (by omega) Xm (by omega) (by omega) fR;obtain⟨fU,hi,qG,OA⟩:=hp.st hg h hf ⟨ao4 _,by show(if 4096<1+φ[f].size then []else [40,110,111,116,32]++φ[f].text++ [41]).length<=3010;exact ao5 _ _ _ (by simp;omega),by simp,λk hk=>by simp at hk;subst hk;exact⟨EC,Xm⟩,λ_=>rfl⟩ (by show GA s.nx kv;rw[Iu];exact Pw hkb)
 exact⟨_,s',e,i,d',fj,rfl,fU,hi,(dA.j2 qG).1,OA (by simp)⟩
def Ys (L:List (List UInt8)):(nf [32] L).length<=L.length+ku L:=by
 cases L with
 |nil=>simp[nf]
 |cons x L=>rw[yl,iY,bU];omega
def orF (n:Nat) (hg:Good s) (h:LS s d σ φ) (hf:FW φ) (zP:TF φ) (fR:φ.length<900000) {fs:Value} {L:List Nat} (hy:Sl s.nx s 3 1 fs (ints L)) (gP:∀x∈L,x<φ.length∧x<200∧4<=sJ φ x) (hd:L.Nodup) (h2:2<=L.length) (h6:L.length<=6) (hp:∀x∈L,sJ φ x=4->∃k,(CX φ x)[0]? =some k∧k∉L∧5<=sJ φ k):
  cp (aE (n+11) (dJ 19) [a8 d.lp,fs] s) (λr s'=>∃i d' fj,r=aw ((i:Nat):Int)∧xy 1 s s' d σ φ d' fj∧∃hi:i<fj.length,fj[i].kind=3∧fj[i].kids=fJ L.reverse):=by
 have Ew:jt φ 3 L=L:=AY λx hx=>by have:=(gP x hx).2.2;omega
 have htt:=zP.tt;have hff:=zP.ff;have aLc:=zP.two;have h01:∀x∈L,x≠1∧x≠0:= λx hx=>by
  have h4:=(gP x hx).2.2;refine⟨λe=>?_,λe=>?_⟩
  ·subst e;rw[jc (by omega),(dA.j2 hff).1]at h4;omega
  ·subst e;rw[jc (by omega),(dA.j2 htt).1]at h4;omega
 have hS:L.reverse=Gi (if 3=2 then 0 else 1) (jt φ 3 L):=by rw[Ew,aC (by omega),TP hd λx hx=>(h01 x hx).1]
 have hA:(if 3=2 then 1 else 0)∉jt φ 3 L:=by rw[Ew,aC (by omega)];intro hm;exact(h01 0 hm).2 rfl
 have hw:∀x∈L,(xw φ x).length<=3010∧fsz φ x<=4097:= λx hx=>by obtain⟨h1,h2,h3⟩:=gP x hx;have w:=hf x h1;have w1:=w.text;have w2:=w.size;rw[jc h1]at h3;rw[acn h1,acm h1];have:=aDV h3;exact⟨by omega,w2⟩
 have NN:∀M:List Nat,(∀x∈M,x∈L)->ku (M.map (xw φ))<=3010*M.length:= λM hM=>by have:=wB (L:=M) (f:= λx=>(xw φ x).length) (k:=3010) λx hx=>(hw x (hM x hx)).1;unfold ku;rw[iv];exact this
 have hsr:=NN L.reverse λx hx=>List.mem_reverse.1 hx;rw[gh]at hsr;have abl:=adK n hg h zP fR (K:=3) (by decide) (name:= [111,114]) (by decide) hy (λx hx=>(gP x hx).1) (by omega) (λx hx=>by
  obtain⟨h1,_⟩:=gP x hx;have w:=(hf x h1).many;rw[qy h1];omega) hS hA (λx hx=>by
  have hm:=List.mem_reverse.1 hx;refine⟨(gP x hm).1,λh4=>?_⟩;obtain⟨k,k1,k2,k3⟩:=hp x hm h4;have Vf:=(gP x hm).1;have hkl:k<x:=by have w:=hf x Vf;rw[qy Vf]at k1;exact(w.kids k (cY k1)).1
  exact⟨k,k1,by omega,λhk=>k2 (List.mem_reverse.1 hk),by omega⟩) (by simpa using h2) (by simp;omega) (λx hx=>(gP x (List.mem_reverse.1 hx)).2.1) (λx hx=>by have:=(hw x (List.mem_reverse.1 hx)).2;omega) (by omega)
 obtain⟨r,s',e,i,d',fj,kv,⟨kb,kc,Iu,hkb⟩,rfl,fP⟩:=ama (n+10) abl;obtain⟨fU,hi,qG,OA⟩:=fP.st hg h hf ⟨ao4 _,by
   show(if 4096<rD φ (fJ L.reverse)then []else J3 φ [111,114] (fJ L.reverse)).length<=100000;refine ao5 _ _ _ ?_;have hj:=Ys (nT ((fJ L.reverse).map (xw φ)));have wP:=jC L.reverse;have QR:(nT ((fJ L.reverse).map (xw φ))).length=L.length:=by rw[D2,dP,gf,gh]
   have dm:=NN (fJ L.reverse) λx hx=>List.mem_reverse.1 (wP.mem_iff.1 hx);rw[gf,gh]at dm;rw[KS]at hj;simp only[J3,bL,bU,gH];omega,by show(fJ L.reverse).length<=200;rw[gf,gh];omega,λk hk=>by
  have hm:=List.mem_reverse.1 ((jC L.reverse).mem_iff.1 hk);exact⟨(gP k hm).1,(gP k hm).2.1⟩,λ_=>rfl⟩ (by show GA s.nx kv;rw[Iu];exact Pw hkb)
 exact⟨_,s',e,i,d',fj,rfl,fU,hi,(dA.j2 qG).1,OA (by simp)⟩
def eqF (n:Nat) (hg:Good s) (h:LS s d σ φ) (hf:FW φ) {u:Nat} (ht:t<σ.length) (hu:u<σ.length) (ed:t≠u) (hk:σ[t].kind≠2) (hn:σ.length+8<=n) (fR:φ.length<900000) (hT:(cF σ t).length<=2000) (hU:(cF σ u).length<=900):
  cp (aE (n+4) (dJ 75) [a8 d.lp,aw (t:Int),aw (u:Int)] s) (λr s'=>∃i d' fj a b,r=aw ((i:Nat):Int)∧xy 1 s s' d σ φ d' fj∧(a=t∧b=u∨a=u∧b=t)∧∃hi:i<fj.length,fj[i].key=ec 6 0 ((a:Nat):Int) ((b:Nat):Int) []):=by
 obtain⟨r,s',e,a,b,i,d',fj,z,tx,jJ,rfl,rfl,rfl,hp⟩:=aDR n hg h ht hu ed hk hn fR;obtain⟨fU,hi,qG,_⟩:=hp.st hg h hf (FWE.atom (by omega) (by
  have:(cF σ a).length+(cF σ b).length<=2900:=by rcases jJ with ⟨rfl,rfl⟩|⟨rfl,rfl⟩<;>omega
  simp[nS];omega)) (rn _)
 exact⟨_,s',e,i,d',fj,a,b,rfl,fU,jJ,hi,qG⟩
def neL:LVal:= [.bool false,fF 41 514,fF 42 514,fF 43 514,fF 44 518]
structure amd (t:Nat) (b:Bool) (U3:AS):Prop where
 k3:U3.nx=12
 r8:bE U3 8 3 1 false [[aw (t:Int)]]
 r9:bE U3 9 51 3 false [jb b 10 11]
 run:∃U4 U5 U6 U7 U8 U9 BO U12 U13:AS,
  (du 53 [.agg ⟨[.bool false,.slice none 0 0,fF 7 514]⟩] U3= .val (.agg ⟨cL 12⟩) U4∧U4.nx=13)∧
  (du 16 [aw (t:Int)] U4= .val (.agg ⟨eL 13 14 513 15 513⟩) U5∧U5.nx=18)∧
  (du 77 [.agg ⟨eL 13 14 513 15 513⟩,.agg ⟨jb b 10 11⟩] U5= .val (.agg ⟨eL 18 19 514 20 518⟩) U6∧U6.nx=23)∧
  (du 85 [.slice (some ⟨23,0,none⟩) 2 (bH 2)] (U6.add (.cells (rowOf [cL 12,eL 18 19 514 20 518]) 5 2 false 54))= .val (.agg ⟨eL 24 25 514 26 518⟩) U7∧U7.nx=29)∧
  (du 44 [.agg ⟨eL 24 25 514 26 518⟩] U7= .val (.agg ⟨eL 29 30 514 31 518⟩) U8∧U8.nx=34)∧bE U8 30 3 1 false [[aw (t:Int)]]∧
  (du 46 [.agg ⟨[.bool false,.slice none 0 0,fF 29 514]⟩] U8= .val (.agg ⟨[.bool false,.slice none 0 0]⟩) U9∧U9.nx=34)∧
  (du 45 [.agg ⟨[.bool false,.slice none 0 0]⟩] U9= .val (.agg ⟨[.bool false,.slice none 0 0,fF 34 514]⟩) BO∧BO.nx=35)∧
  (du 50 [.agg ⟨eL 34 30 514 31 518⟩,aw (t:Int)] BO= .val (.agg ⟨jb b 35 36⟩) U12∧U12.nx=37)∧
  (du 43 [.agg ⟨jb b 35 36⟩] U12= .val (aw (cI b)) U13∧U13.nx=37)∧
  (b=false->∃T A B,MC t U13 (eL 34 30 514 31 518) T A B)∧
  (b=true->∃U14 U15 U16:AS,(du 54 [aw 1] U13= .val (.agg ⟨jb false 37 38⟩) U14∧U14.nx=39)∧
   (du 53 [.agg ⟨jb false 37 38⟩] U14= .val (.agg ⟨[.bool false,fF 39 514,fF 40 514,.slice none 0 0,.slice none 0 0]⟩) U15∧U15.nx=41)∧
   (du 52 [.agg ⟨[.bool false,fF 39 514,fF 40 514,.slice none 0 0,.slice none 0 0]⟩,.agg ⟨eL 34 30 514 31 518⟩] U15= .val (.agg ⟨neL⟩) U16∧U16.nx=47)∧
   ∃T A B,MC t U16 neL T A B)
def Wg {K:Nat} (h:44<K):∀x∈neL,ui K x=true:= λx hx=>by
 simp only[neL,fF,bu,aX,db]at hx;rcases hx with rfl|rfl|rfl|rfl|rfl
 ·rfl
 all_goals exact aL (by omega)
def adZ {b:Bool} (h:nO t b=true):∃U1 U2 U3:AS,(du 16 [aw (t:Int)] W0= .val (.agg ⟨eL 0 1 513 2 513⟩) U1∧U1.nx=5)∧(du 54 [aw (cI b)] U1= .val (.agg ⟨jb b 5 6⟩) U2∧U2.nx=7)∧du 77 [.agg ⟨eL 0 1 513 2 513⟩,.agg ⟨jb b 5 6⟩] U2= .val (.agg ⟨eL 7 8 514 9 518⟩) U3∧amd t b U3:=by
 unfold nO at h;obtain⟨U1,e1,k1,h⟩:=gG h;obtain⟨U2,e2,k2,h⟩:=gG h;obtain⟨U3,e3,k3,h⟩:=gG h;obtain⟨r8,h⟩:=ux h;obtain⟨r9,h⟩:=ux h;obtain⟨U4,e4,k4,h⟩:=gG h;obtain⟨U5,e5,k5,h⟩:=gG h;obtain⟨U6,e6,k6,h⟩:=gG h;obtain⟨U7,e7,k7,h⟩:=gG h;obtain⟨U8,e8,k8,h⟩:=gG h;obtain⟨r30,h⟩:=ux h;obtain⟨U9,e9,k9,h⟩:=gG h;obtain⟨BO,e10,k10,h⟩:=gG h;obtain⟨U12,e12,k12,h⟩:=gG h;obtain⟨U13,Vt,k13,h⟩:=gG h;refine⟨U1,U2,U3,⟨e1,k1⟩,⟨e2,k2⟩,e3,k3,qf r8,qf r9,U4,U5,U6,U7,U8,U9,BO,U12,U13,⟨e4,k4⟩,⟨e5,k5⟩,⟨e6,k6⟩,⟨e7,k7⟩,⟨e8,k8⟩,qf r30,⟨e9,k9⟩,⟨e10,k10⟩,⟨e12,k12⟩,⟨Vt,k13⟩,λhb=>?_,λhb=>?_⟩
 ·subst hb;obtain⟨T,U14,e14,lT,k14,h⟩:=zf h;obtain⟨U15,e15,k15,h⟩:=gG h;obtain⟨A,U16,Zm,lA,k16,h⟩:=zf h;obtain⟨B,U17,e17,lB,k17,h⟩:=zf h;exact⟨T,A,B,rfl,dY (by omega) (by omega) (by omega),lT,lA,lB,U14,U15,U16,U17,_,e14,e15,gL (by omega) (by omega),Zm,e17⟩
 ·subst hb;obtain⟨U14,e14,k14,h⟩:=gG h;obtain⟨U15,e15,k15,h⟩:=gG h;obtain⟨U16,Zm,k16,h⟩:=gG h;obtain⟨T,U17,e17,lT,k17,h⟩:=zf h;obtain⟨U18,e18,k18,h⟩:=gG h;obtain⟨A,U19,e19,lA,k19,h⟩:=zf h;obtain⟨B,U20,e20,lB,k20,h⟩:=zf h;exact⟨U14,U15,U16,⟨e14,k14⟩,⟨e15,k15⟩,⟨Zm,k16⟩,T,A,B,rfl,Wg (by omega),lT,lA,lB,U17,U18,U19,U20,_,e17,e18,gL (by omega) (by omega),e19,e20⟩
theorem ad0 (ρ:Nat->Nat) (d v vc k kc:Nat):(eL d v vc k kc).map (eC ρ)= [.bool false,.slice none 0 0,fF (ρ d) 514,fF (ρ v) vc,fF (ρ k) kc]:=rfl
def ad1 {K:Nat} {ρ:Nat->Nat} (h:∀v∈l,ui K v=true):qQ 12 (.agg ⟨l.map (eC ρ)⟩) (.agg ⟨l.map (eC ρ)⟩)=true:=cB (gj λv hv=>by obtain⟨u,hu,rfl⟩:=List.mem_map.1 hv;exact(lD (h u hu)).1)
def leF (n:Nat) (hg:Good s) (h:LS s d σ φ) (hf:FW φ) {ρ:Nat->Nat} {U3:AS} {b:Bool} (RT:Good U3) (he:Bf ρ U3 s) (dK:amd t b U3) (ht:t<σ.length) (hk:σ[t].kind≠2) (hn:σ.length+8<=n) (fR:φ.length<190) (hT:(cF σ t).length<=2000):
  cp (aE (n+6) (dJ 15) [a8 d.lp,.agg ⟨(eL 7 8 514 9 518).map (eC ρ)⟩] s) (λr s'=>∃i d' fj,r=aw ((i:Nat):Int)∧xy 2 s s' d σ φ d' fj∧i<fj.length∧(sJ fj i=5∨sJ fj i=4∧∃k,(CX fj i)[0]? =some k∧sJ fj k=5)):=by
 obtain⟨k3,r8,r9,U4,U5,U6,U7,U8,U9,BO,U12,U13,⟨f53,k4⟩,⟨f16,k5⟩,⟨f77,k6⟩,⟨f85,k7⟩,⟨f44,k8⟩,r30,⟨f46,k9⟩,⟨f45,k10⟩,⟨f50,k12⟩,⟨f43,k13⟩,NH,anL⟩:=dK;rw[axk];refine bG (by simp) λm hm=>?_;have h0:m.get 0=some (a8 d.lp):=by rw[hm];rfl
 have h1:m.get 1=some (.agg ⟨(eL 7 8 514 9 518).map (eC ρ)⟩):=by rw[hm];rfl
 clear hm;obtain⟨X,hX⟩:∃X,X=(eL 7 8 514 9 518).map (eC ρ):=⟨_,rfl⟩
 have hXl:X.length=5:=by rw[hX];rfl
 rw[<-hX]at h1;obtain⟨sA,qS⟩:=dO (s.add (ca 54 X));have Ja:=cz qS hg;have nA:sA.nx=s.nx+1:=by rw[qS];rfl
 have vA:=jS qS hg;have zR:=cM qS hg;obtain⟨ρA,heA,hrA⟩:=he.grown RT zR;have lxA:=vA.eA fp ft (o:=0) (by omega) (by decide);rw[bK,aP (by omega),hX,<-fz (K:=12) (ρ:=ρ) (ρ':=ρA) (λi hi=>hrA i (by omega)) (dY (by omega) (by omega) (by omega))]at lxA;obtain⟨v7,s1,e42,km,rfl,vp,RC,fV,uh,hx1⟩:=adX (n+2) Ja (h.ext hg zR) RT heA ht hk k3 r8 r9 f53 k4 f16 k5 f77 k6 f85 k7;have dv:=fV.bt;have n1:=fV.nx;have v1:=vA.grown fV (by omega);obtain⟨X7,Zo⟩:∃X7,X7=(eL 24 25 514 26 518).map (eC km):=⟨_,rfl⟩
 have ao6:X7.length=5:=by rw[Zo];rfl
 have ao7:cP X7=true:=by rw[Zo];rfl
 rw[<-Zo]at e42;have st2:=v1.kU dv (us:=X7) (k:=5) (by omega) ao6.symm (by decide) ao7;have QR:=v1.lt dv;obtain⟨s2,ee⟩:=dO (s1.wr s.nx (some (ca 54 X7)));rw[<-ee]at st2;have dI:Good s2:=by rw[ee];exact bZ dv QR _
 have n2:s2.nx=s1.nx:=by rw[ee];rfl
 have v2:ay s2 s.nx 54 X7:=by rw[ee];exact ay.set dv QR 54 _
 have ng:Grown s.nx s s2:=by rw[ee];exact(zR.trans (fV.le zR.nx)).wr (af _) QR _
 have av1:∀i,i<29->km i≠s.nx:= λi hi=>by
  by_cases h12:i<12
  ·rw[uh i h12,hrA i (by omega)];have:=he.lt i (by omega);omega
  ·have:=hx1 i (by omega);omega
 obtain⟨oM,Fp,zO⟩:=vp.frame RC (s':=s2) (by omega) dI (λi hi=>by rw[ee,cj dv QR,aC (av1 i (by omega))]);have ayb:=v2.ld gu (o:=3) (by omega);have aLd:X7= [.bool false,.slice none 0 0,fF (km 24) 514,fF (km 25) 514,fF (km 26) 518]:=by rw[Zo];rfl
 simp only[aLd,ae,aZ]at ayb;have aDW:∀q c,dH [fF q c]=some (aw 1):= λq c=>rfl;have d10:decide ((1:Int)=0)=false:=by decide
 have lx2:=v2.eA fp ft (o:=0) (by omega) (by decide);rw[bK,aP (by omega)]at lx2;have m44:oF oM U7.nx 12 (.agg ⟨eL 24 25 514 26 518⟩)=some (.agg ⟨X7⟩):=by rw[dR (dY (by omega) (by omega) (by omega)),Zo,fz (K:=29) (λi hi=>zO i (by omega)) (dY (by omega) (by omega) (by omega))]
 obtain⟨rW,v,s3,e44,hv,Xq,aag,iZ,LA,_,hx3⟩:=apart (n+4) (by rfl) ata RC dI Fp (oD m44) f44;rw[dR (dY (by omega) (by omega) (by omega))]at hv;have hv:=(bh hv).symm;subst hv;have gQ:=iZ.bt;have n3:=iZ.nx;obtain⟨X8,hX8⟩:∃X8,X8=(eL 29 30 514 31 518).map (eC rW):=⟨_,rfl⟩
 have ayc:X8= [.bool false,.slice none 0 0,fF (rW 29) 514,fF (rW 30) 514,fF (rW 31) 518]:=by rw[hX8];rfl
 have aLe:X8.length=5:=by rw[hX8];rfl
 have aLf:cP X8=true:=by rw[hX8];rfl
 rw[<-hX8]at e44;have v3:=v2.grown iZ (by omega);have Zp:=v3.kU gQ (us:=X8) (k:=5) (by omega) aLe.symm (by decide) aLf;have hl3:=v3.lt gQ;obtain⟨s4,jW⟩:=dO (s3.wr s.nx (some (ca 54 X8)));rw[<-jW]at Zp;have iI:Good s4:=by rw[jW];exact bZ gQ hl3 _
 have n4:s4.nx=s3.nx:=by rw[jW];rfl
 have v4:ay s4 s.nx 54 X8:=by rw[jW];exact ay.set gQ hl3 54 _
 have oC:Grown s.nx s s4:=by rw[jW];exact(ng.trans (iZ.le ng.nx)).wr (af _) hl3 _
 have av3:∀i,i<34->rW i≠s.nx:= λi hi=>by
  by_cases h29:i<29
  ·rw[LA i (by omega),zO i (by omega)];exact av1 i h29
  ·have:=hx3 i (by omega);omega
 obtain⟨Fs,he4,RR⟩:=Xq.frame aag (s':=s4) (by omega) iI (λi hi=>by rw[jW,cj gQ hl3,aC (av3 i (by omega))]);have lc4:=v4.eA o0 pb (o:=0) (by omega) (by decide);rw[bK,ayc,show([Value.bool false,.slice none 0 0,fF (rW 29) 514,fF (rW 30) 514,fF (rW 31) 518].take 3)= [Value.bool false,.slice none 0 0,fF (rW 29) 514]from rfl]at lc4;have m46:oF Fs U8.nx 12 (.agg ⟨[.bool false,.slice none 0 0,fF 29 514]⟩)=some (.agg ⟨[.bool false,.slice none 0 0,fF (rW 29) 514]⟩):=by rw[dR (UU (by omega))];show some (Value.agg ⟨[.bool false,.slice none 0 0,fF (Fs 29) 514]⟩)=_;rw[RR 29 (by omega)]
 obtain⟨ρ5,v,s5,e46,hv,he5,af9,lE,I4,_,hx5⟩:=apart (n+4) (by rfl) atb aag iI he4 (oD m46) f46;have hv:some (Value.agg ⟨[.bool false,.slice none 0 0]⟩)=some v:=hv;have hv:=(bh hv).symm;subst hv;obtain⟨Ra,v,s6,e45,hv,he6,BH,zQ,Q8,_,hx6⟩:=apart (n+4) (by rfl) acr af9 lE.bt he5 (oD (v:= .agg ⟨[.bool false,.slice none 0 0]⟩) (v':= .agg ⟨[.bool false,.slice none 0 0]⟩) rfl) f45;rw[dR (UU (by omega))]at hv;have hv:=(bh hv).symm;subst hv;have e45:aE (n+5) (dJ 45) [.agg ⟨[.bool false,.slice none 0 0]⟩] s5= .val (.agg ⟨[.bool false,.slice none 0 0,fF (Ra 34) 514]⟩) s6:=e45;have lZ:=zQ.bt;have aga:Grown s4.nx s4 s6:=lE.trans (zQ.le lE.nx);have n6:=aga.nx;have v6:=v4.grown aga (by omega);have Vu:=v6.acg lZ (o:=0) (us:= [.bool false,.slice none 0 0,fF (Ra 34) 514]) (k:=3) rfl (by omega) (by decide) rfl;rw[ayc,show([Value.bool false,.slice none 0 0,fF (rW 29) 514,fF (rW 30) 514,fF (rW 31) 518].take 0++ [.bool false,.slice none 0 0,fF (Ra 34) 514]++ [Value.bool false,.slice none 0 0,fF (rW 29) 514,fF (rW 30) 514,fF (rW 31) 518].drop (0+3))= [Value.bool false,.slice none 0 0,fF (Ra 34) 514,fF (rW 30) 514,fF (rW 31) 518]from rfl]at Vu;obtain⟨Xu,ao8⟩:∃Xu,Xu= [Value.bool false,.slice none 0 0,fF (Ra 34) 514,fF (rW 30) 514,fF (rW 31) 518]:=⟨_,rfl⟩
 have aPw:Xu.length=5:=by rw[ao8];rfl
 rw[<-ao8]at Vu;have Q9:=v6.lt lZ;obtain⟨s7,rF⟩:=dO (s6.wr s.nx (some (ca 54 Xu)));rw[<-rF]at Vu;have rX:Good s7:=by rw[rF];exact bZ lZ Q9 _
 have n7:s7.nx=s6.nx:=by rw[rF];rfl
 have v7:ay s7 s.nx 54 Xu:=by rw[rF];exact ay.set lZ Q9 54 _
 have Ln:Grown s.nx s s7:=by rw[rF];exact(oC.trans (aga.le oC.nx)).wr (af _) Q9 _
 have r63:∀i,i<34->Ra i=rW i:= λi hi=>by rw[Q8 i (by omega),I4 i (by omega),RR i (by omega)]
 have av6:∀i,i<35->Ra i≠s.nx:= λi hi=>by
  by_cases h34:i<34
  ·rw[r63 i h34];exact av3 i h34
  ·have:=hx6 i (by omega);have:=lE.nx;omega
 obtain⟨Ny,he7,Xr⟩:=he6.frame BH (s':=s7) (by omega) rX (λi hi=>by rw[rF,cj lZ Q9,aC (av6 i (by omega))]);have UX:Xu=(eL 34 30 514 31 518).map (eC Ny):=by rw[ao8,ad0,Xr 34 (by omega),Xr 30 (by omega),Xr 31 (by omega),r63 30 (by omega),r63 31 (by omega)]
 have ayd:=v7.ld gu (o:=3) (by omega);have aDX:Xu= [.bool false,.slice none 0 0,fF (Ny 34) 514,fF (Ny 30) 514,fF (Ny 31) 518]:=by rw[UX];rfl
 simp only[aDX,ae,aZ]at ayd;have aDY:bE s4 (Fs 30) 3 1 false [[aw (t:Int)]]:=he4.row r30 rfl λj hj Vg=>by simp at hj;subst hj;exact oD (nY .i64 (t:Int))
 have e30:Ny 30=Fs 30:=by rw[Xr 30 (by omega),Q8 30 (by omega),I4 30 (by omega)]
 have acy:bE s7 (Ny 30) 3 1 false (ints [t]):=by
  rw[e30];refine aDY.ext ?_;have h4:=he4.lt 30 (by omega);have ed:Fs 30≠s.nx:=by rw[RR 30 (by omega)];exact av3 30 (by omega)
  rw[rF,cj lZ Q9,aC ed,aga.eb _ h4]
 have aLg:Sl s7.nx s7 3 1 (fF (Ny 30) 514) (ints [t]):=Sl.full (c:=514) (R:=ints [t]) (acy.lt rX) acy (by simp[ints]) (.inr ⟨by decide,by decide⟩);obtain⟨v,s8,e48,rfl,Iw⟩:=Yp (n+4) (y:=fF (Ny 30) 514) rX rfl;have JQ:=cz Iw rX;have n8:s8.nx=s7.nx+1:=by rw[Iw];rfl
 have Jf:=cM Iw rX;have v8:=jS Iw rX;obtain⟨w,s9,e47,gr9,⟨wb,wc,hwe⟩,hws⟩:=Qh n (cv:= .func (.func 49) ⟨[a8 d.lp]⟩ ⟨[]⟩) JQ v8 ((aLg.ext Jf.eb).le Jf.nx);have Zk:=gr9.bt;have n9:=gr9.nx;have ao9:Grown s7.nx s7 s9:=Jf.trans (gr9.le Jf.nx);have ZY:Grown s.nx s s9:=Ln.trans (ao9.le Ln.nx);have x9:=v7.grown ao9 (by omega);have lx9:=x9.eA fp ft (o:=0) (by omega) (by decide);rw[bK,aP (by omega)]at lx9;have iw:=hws.ix (P:=prog) (t:=38) (i:=0) (by simp[ints]) (k:= .i64);have lw:=hws.ld bM (i:=0) (by simp[ints]) (gJ (l:= [t]) (i:=0) (by simp));simp only[aW,ae,cO]at iw lw;obtain⟨ρ9,he9,hr9⟩:=he7.grown BH ao9;have m50:oF ρ9 BO.nx 12 (.agg ⟨eL 34 30 514 31 518⟩)=some (.agg ⟨Xu⟩):=by rw[dR (dY (by omega) (by omega) (by omega)),UX,fz (K:=35) (λi hi=>hr9 i (by omega)) (dY (by omega) (by omega) (by omega))]
 obtain⟨aUB,v,s10,e50,hv,aLh,aDZ,WS,aLi,_,aUC⟩:=apart (n+4) (by rfl) acs BH Zk he9 (Rw m50 (nY .i64 (t:Int))) f50;rw[dR (gL (by omega) (by omega))]at hv;have hv:=(bh hv).symm;subst hv;obtain⟨aye,v,Xp,e43,hv,ayf,ame,af5,aLj,_,aUD⟩:=apart (n+4) (by rfl) acq aDZ WS.bt aLh (oD (dR (gL (by omega) (by omega)))) f43;rw[nY]at hv;have hv:=(bh hv).symm;subst hv;have Ll:=af5.bt;have OF:Grown s9.nx s9 Xp:=WS.trans (af5.le WS.nx);have n11:=OF.nx;have UY:Grown s.nx s Xp:=ZY.trans (OF.le ZY.nx);have amf:Xu=(eL 34 30 514 31 518).map (eC aye):=by rw[UX];exact(fz (K:=35) (ρ:=Ny) (ρ':=aye) (λi hi=>by rw[aLj i (by omega),aLi i (by omega),hr9 i (by omega)]) (dY (by omega) (by omega) (by omega))).symm
 have x11:=x9.grown OF (by omega);have apa:=x11.eA fp ft (o:=0) (by omega) (by decide);rw[bK,aP (by omega)]at apa;have amg:=h.ext hg UY;have w11:Sl Xp.nx Xp 3 1 w (ints [t]):=(hws.ext OF.eb).le OF.nx;have hoc:w.cells= #[w]:=by rw[hwe];rfl
 have rG:qQ 12 (.agg ⟨Xu⟩) (.agg ⟨Xu⟩)=true:=by rw[UX];exact ad1 (K:=35) (dY (by omega) (by omega) (by omega))
 have hsw:=cB hws.same;have htl:(cF σ t).length<=2000:=hT;have Xe:ia 54 s (.agg ⟨X⟩)=some (a8 s.nx,sA):=by rw[ez hg,dn,<-qS]
 rw[fz (K:=12) (ρ:=ρ) (ρ':=ρA) (λi hi=>hrA i (by omega)) (dY (by omega) (by omega) (by omega))]at lxA e42;unfold c15;apply aJ;simp+decide only[ag,h0,h1,Xe];apply dh;apply ar;simp+decide only[ag,h0,lz];refine dD (by simp+decide only[ag]) ?_;apply aJ;simp+decide only[ag,h0,lxA,e42,st2];apply dh;apply ar;simp+decide only[ag,bO,aG,ayb,aDW,d10];refine dD (by simp+decide only[ag]) ?_;apply aJ;simp+decide only[ag,lx2,e44,Zp];apply aJ;simp+decide only[ag,bO,aG,lc4,e46,e45,Vu];apply aJ;simp+decide only[ag,h0,bO,aG,ayd,e48,jz,e47];refine aT (aT (gY ?_));simp+decide only[ag,lx9,iw,lw,e50,e43,rG,hsw];have tail:∀i d' fj s',xy 1 Xp s' d σ φ d' fj->(∃hi:i<fj.length,fj[i].kind=5)->xy 2 s s' d σ φ d' fj∧i<fj.length∧sJ fj i=5:= λi d' fj s' fU hi=>by obtain⟨hi,hki⟩:=hi;exact⟨(fU.after hg UY).mono (by omega),hi,by rw[jc hi];exact hki⟩
 cases b with
 |false=>
  obtain⟨T,A,B,AI⟩:=NH rfl;obtain⟨r,s12,e51,i,d',fj,rfl,hp⟩:=acw (n+2) Ll amg ame ayf AI ht hoc w11 (by omega) (by omega);rw[<-amf]at e51;obtain⟨fU,hi,qG,_⟩:=hp.st Ll amg hf (FWE.atom (by omega) (by have:=AI.la;have:=AI.lb;simp[leT];omega)) (rn _)
  obtain⟨q1,q2,q3⟩:=tail i d' fj s12 fU ⟨hi,(dA.j2 qG).1⟩;have dlt:decide (cI false<0)=false:=rfl;refine dD (by simp+decide only[ag,dlt]) ?_;apply aJ;simp+decide only[ag,h0,apa,e51];exact aR (b6 (v:=aw (i:Int)) (.inr rfl) (by simp+decide only[ag]) ⟨i,d',fj,rfl,q1,q2,.inl q3⟩)
 |true=>
  obtain⟨U14,U15,U16,⟨f54,k14⟩,⟨apb,k15⟩,⟨f52,k16⟩,T,A,B,AI⟩:=anL rfl;obtain⟨aUE,v,s12,e54,hv,aLk,aD0,Jg,aLl,_,aUF⟩:=apart (n+4) (by rfl) SQ ame Ll ayf (oD (nY .i64 1)) f54;rw[dR (gL (by omega) (by omega))]at hv;have hv:=(bh hv).symm;subst hv;obtain⟨aLm,v,s13,agb,hv,aLn,aD1,ER,aLo,_,aUG⟩:=apart (n+4) (by rfl) L1 aD0 Jg.bt aLk (oD (dR (gL (by omega) (by omega)))) apb;have okP:∀x∈ [Value.bool false,fF 39 514,fF 40 514,.slice none 0 0,.slice none 0 0],ui U15.nx x=true:= λx hx=>by
   simp only[fF,bu,aX,db]at hx;rcases hx with rfl|rfl|rfl|rfl|rfl
   ·rfl
   ·exact aL (by omega)
   ·exact aL (by omega)
   ·rfl
   ·rfl
  rw[dR okP]at hv;have hv:=(bh hv).symm;subst hv;have m52:oF aLm U15.nx 12 (.agg ⟨eL 34 30 514 31 518⟩)=some (.agg ⟨Xu⟩):=by rw[dR (dY (by omega) (by omega) (by omega)),amf,fz (K:=35) (λi hi=>by rw[aLo i (by omega),aLl i (by omega)]) (dY (by omega) (by omega) (by omega))]
  obtain⟨aUH,v,s14,e52,hv,aLp,aD2,Lr,ax8,_,aUI⟩:=apart (n+4) (by rfl) atc aD1 ER.bt aLn (Rw (dR okP) m52) f52;rw[dR (Wg (by omega))]at hv;have hv:=(bh hv).symm;subst hv;have ayg:=Lr.bt;have SU:Grown Xp.nx Xp s13:=Jg.trans (ER.le Jg.nx);have SV:Grown Xp.nx Xp s14:=SU.trans (Lr.le SU.nx);have amh:Grown s.nx s s14:=UY.trans (SV.le UY.nx);have ami:=h.ext hg amh;have w14:Sl s14.nx s14 3 1 w (ints [t]):=(w11.ext SV.eb).le SV.nx;have ayh:=(x11.grown Jg (by omega)).eA (P:=prog) fp ft (o:=0) (by omega) (by decide);have ayi:=(x11.grown SU (by omega)).eA (P:=prog) fp ft (o:=0) (by omega) (by decide);rw[bK,aP (by omega)]at ayh ayi;obtain⟨r,s15,e51,i,d',fj,rfl,hp⟩:=acw (n+2) ayg ami aD2 aLp AI ht hoc w14 (by omega) (by omega);obtain⟨fU,hi,qG,_⟩:=hp.st ayg ami hf (FWE.atom (by omega) (by have:=AI.la;have:=AI.lb;simp[leT];omega)) (rn _)
  have hki:fj[i].kind=5:=(dA.j2 qG).1;have hlen:=fU.len;obtain⟨r,s16,e20,j,d'',aaf,rfl,WM,hj,hj4,hjk⟩:=aya n fU.an.bt fU.ls fU.fw (f:=i) hi (by omega) (by omega) (by omega);rw[fU.lp]at e20;have iO:xy 2 s s16 d σ φ d'' aaf:=(fU.after hg amh).trans WM;have dlt:decide (cI true<0)=true:=rfl;refine iP (by simp+decide only[ag,dlt]) ?_;apply lV;simp+decide only[ag,h0,apa,ayh,ayi,e54,agb,e52,e51,e20,rG];refine aR (b6 (v:=aw (j:Int)) (.inr rfl) (by simp+decide only[ag]) ⟨j,d'',aaf,rfl,iO,hj,.inr ⟨by rw[jc hj];exact hj4,i,?_,?_⟩⟩)
  ·rw[qy hj,hjk];rfl
  ·have Xd:=WM.len;rw[jc (by omega),WM.get hi];exact hki
structure Cx where
 d:LV
 σ:List cx
 φ:List dA
def Cx.sz (C:Cx):Nat:=C.σ.length+C.φ.length
def acz (f a b:Nat):qQ 12 (.func (.func f) ⟨[]⟩ ⟨[a8 a,a8 b]⟩) (.func (.func f) ⟨[]⟩ ⟨[a8 a,a8 b]⟩)=true:=by have hf:xQ (.func f) (.func f)=true:=bj f;show aD (xQ (.func f) (.func f)) (aD true (aD (nZ ⟨a,0,none⟩ ⟨a,0,none⟩) (aD (nZ ⟨b,0,none⟩ ⟨b,0,none⟩) true false) false) false) false=true;rw[hf,jB,jB];rfl
def Ls (b3 b4:Nat):Value:= .func (.func 72) ⟨[]⟩ ⟨[a8 b3,a8 b4]⟩
def Gj (b3 b4:Nat):Value:= .func (.func 73) ⟨[]⟩ ⟨[a8 b3,a8 b4]⟩
def Gk (b3 b4 b7:Nat):Value:= .func (.func 74) ⟨[]⟩ ⟨[a8 b3,a8 b4,a8 b7]⟩
def atf (hg:Good s):bF prog 38 6 [0,1,2,3,4,5] s [aw 0,aw 1,aw 2,aw 3,aw 4,aw 5]=some (.slice (some ⟨s.nx,0,none⟩) 6 (bH 6),s.row 3 1 (ints [0,1,2,3,4,5])):=by show ob (fu prog 38) (λe=>ob (dW prog e) λi=>aD (Nat.ble (Nat.mul 6 i.1) 16000000) (ob (tW i.2 6) λtX=>ob (iL i.1 [(0,aw 0),(1,aw 1),(2,aw 2),(3,aw 3),(4,aw 4),(5,aw 5)] tX) λels=>jr s e i.1 els 6 6) none)=_;rw[fm,cg,fX,cg];show jr s 3 1 (ints [0,1,2,3,4,5]) 6 6=_;exact oe (els:=ints [0,1,2,3,4,5]) hg 3 1 6 (kN _)
def tP (hg:Good s) (l:List Nat):Grown s.nx s (s.row 3 1 (ints l))∧Sl (s.row 3 1 (ints l)).nx (s.row 3 1 (ints l)) 3 1 (.slice (some ⟨s.nx,0,none⟩) l.length (bH l.length)) (ints l):=by have gr:Grown s.nx s (s.row 3 1 (ints l)):=(Grown.refl hg _).row (af _) _ _ _;have hr:=bE.new hg 3 1 (ints l);have:=Sl.full (c:=bH l.length) (hr.lt gr.bt) hr (by rw[(cR _).1,dE];exact af _) (.inl (cR _).2);rw[dE]at this;exact⟨gr,this⟩
def pos (a b:Nat):Nat:=1+a*(11-a)/2+(b-a-1)
def abn:LVal:= [aw 1,.bool true,.string ⟨⟨[]⟩⟩,.string ⟨⟨[]⟩⟩,.slice none 0 0,.slice none 0 0,aw 0]
def SW:LVal:= [aw 1,.bool false,.string ⟨⟨[]⟩⟩,.string ⟨⟨[]⟩⟩,.slice none 0 0,.slice none 0 0,aw 0]
structure Ob (N lp t:Nat) (b3 b4 b5 b7 b8 b9 fh:Nat) (OK:AS->Cx->Prop) (Jj:Cx->List Nat->Prop) (p6:Cx->Nat->Nat->Prop) (kX:Cx->Nat->Nat->Prop) (sw CY:Cx->Nat->Prop) (Ax:Cx->Nat->Nat->Prop) (ext:AS->Cx->AS->Cx->Prop) (Dr:Nat->AS->Cx->Prop):Prop where
 bt:∀ {s C},OK s C->Good s
 boxes:∀ {s C},OK s C->ay s b3 24 [a8 lp]∧ay s b4 3 [aw (t:Int)]∧ay s b5 4 [.bool true]∧ay s b8 120 [Ls b3 b4]∧ay s b9 40 [Gj b3 b4]∧ay s fh 56 [Gk b3 b4 b7]
 grown:∀ {s C s'},OK s C->Grown s.nx s s'->OK s' C∧ext s C s' C
 trans:∀ {s C s' C' j9 C''},ext s C s' C'->ext s' C' j9 C''->ext s C j9 C''
 notM:∀ {s C s' C' a f},ext s C s' C'->p6 C a f->p6 C' a f
 UZ:∀ {s C s' C' k f},ext s C s' C'->kX C k f->kX C' k f
 Oc:∀ {s C s' C' j y},ext s C s' C'->Ax C j y->Ax C' j y
 aLq:∀ {s C s' C' f},ext s C s' C'->sw C f->sw C' f
 U0:∀ {s C} (els:List LVal),OK s C->Dr s.nx (s.row 3 1 els) C
 GB:∀ {s C s' C' b},Dr b s C->ext s C s' C'->Dr b s' C'
 drop:∀ {s C b},OK s C->Dr b s C->(∃c sz n ro,s.h.get b=some (.cells c sz n ro 3))->OK (s.wr b none) C∧ext s C (s.wr b none) C
 is6:∀ {s C w},OK s C->C.sz<=150->Sl s.nx s 3 1 w (ints [0,1,2,3,4,5])->cp (aE N (Ls b3 b4) [w] s) (λr s'=>∃C' L,ext s C s' C'∧OK s' C'∧eu oO s s'∧Sl s'.nx s' 3 1 r (ints L)∧Jj C' L∧C'.sz<=C.sz+6)
 or6:∀ {s C w L},OK s C->C.sz<=150->Sl s.nx s 3 1 w (ints L)->Jj C L->cp (aE N (dJ 19) [a8 lp,w] s) (λr s'=>∃C' y,r=aw ((y:Nat):Int)∧ext s C s' C'∧OK s' C'∧eu oO s s'∧Ax C' 0 y∧C'.sz<=C.sz+1)
 not:∀ {s C a},OK s C->C.sz<=150->a<6->cp (aE N (Gj b3 b4) [aw ((a:Nat):Int)] s) (λr s'=>∃C' f,r=aw ((f:Nat):Int)∧ext s C s' C'∧OK s' C'∧eu oO s s'∧p6 C' a f∧C'.sz<=C.sz+2)
 or2:∀ {s C w a b f g},OK s C->C.sz<=150->a<b->b<6->Sl s.nx s 3 1 w (ints [f,g])->p6 C a f->p6 C b g->cp (aE N (dJ 19) [a8 lp,w] s) (λr s'=>∃C' y,r=aw ((y:Nat):Int)∧ext s C s' C'∧OK s' C'∧eu oO s s'∧Ax C' (pos a b) y∧C'.sz<=C.sz+1)
 same:∀ {s C},OK s C->C.sz<=150->∀k vc,(k=0∧vc=zeroV∨k=1∧vc=abn∨k=2∧vc=SW)->cp (aE N (Gk b3 b4 b7) [.agg ⟨vc⟩] s) (λr s'=>∃C' f,r=aw ((f:Nat):Int)∧ext s C s' C'∧OK s' C'∧eu oO s s'∧kX C' k f∧C'.sz<=C.sz+2)
 aLr:∀ {s C w f g},OK s C->C.sz<=150->Sl s.nx s 3 1 w (ints [f,g])->p6 C 0 f->kX C 0 g->cp (aE N (dJ 19) [a8 lp,w] s) (λr s'=>∃C' y,r=aw ((y:Nat):Int)∧ext s C s' C'∧OK s' C'∧eu oO s s'∧Ax C' 16 y∧C'.sz<=C.sz+1)
 aLs:∀ {s C w f g h},OK s C->C.sz<=150->Sl s.nx s 3 1 w (ints [f,g,h])->p6 C 1 f->kX C 1 g->kX C 2 h->cp (aE N (dJ 19) [a8 lp,w] s) (λr s'=>∃C' y,r=aw ((y:Nat):Int)∧ext s C s' C'∧OK s' C'∧eu oO s s'∧Ax C' 17 y∧C'.sz<=C.sz+1)
 tag:∀ {s C},OK s C->C.sz<=150->cp (aE N (dJ 10) [a8 lp,aw 2,aw (t:Int)] s) (λr s'=>∃C' f,r=aw ((f:Nat):Int)∧ext s C s' C'∧OK s' C'∧eu oO s s'∧sw C' f∧C'.sz<=C.sz+1)
 leq:∀ {s C},OK s C->C.sz<=150->∀b:Bool,∃v1 s1 v2 s2 v3 s3 f s4 C',aE N (dJ 16) [aw (t:Int)] s= .val v1 s1∧aE N (dJ 54) [aw (cI b)] s1= .val v2 s2∧aE N (dJ 77) [v1,v2] s2= .val v3 s3∧aE N (dJ 15) [a8 lp,v3] s3= .val (aw ((f:Nat):Int)) s4∧Grown s.nx s s1∧Grown s1.nx s1 s2∧Grown s2.nx s2 s3∧ext s3 C s4 C'∧OK s4 C'∧eu oO s3 s4∧CY C' f∧C'.sz<=C.sz+2
 orL:∀ {s C w f g},OK s C->C.sz<=150->Sl s.nx s 3 1 w (ints [f,g])->sw C f->CY C g->∀b:Bool,cp (aE N (dJ 19) [a8 lp,w] s) (λr s'=>∃C' y,r=aw ((y:Nat):Int)∧ext s C s' C'∧OK s' C'∧eu oO s s'∧Ax C' (if b then 19 else 18) y∧C'.sz<=C.sz+1)
structure YiH (N:Nat) (yv:Value) (OK:AS->Cx->Prop) (Ax:Cx->Nat->Nat->Prop) (ext:AS->Cx->AS->Cx->Prop) (YI:Nat->Option Nat->AS->Cx->Prop):Prop where
 an:∀ {j o s C s' C'},YI j o s C->ext s C s' C'->eu oO s s'->YI j o s' C'
 drop:∀ {j o s C b},YI j o s C->Good s->b<s.nx->some b≠o->(∃c sz n ro,s.h.get b=some (.cells c sz n ro 3))->ext s C (s.wr b none) C->YI j o (s.wr b none) C
 lt:∀ {j o s C b},YI j o s C->o=some b->b<s.nx
 yd:∀ {j o s C y},YI j o s C->OK s C->j<20->Ax C j y->cp (aE N yv [aw ((y:Nat):Int)] s) (λr s'=>r= .bool true∧∃o',YI (j+1) o' s' C∧OK s' C∧ext s C s' C∧s.nx<=s'.nx∧(∀q c sz n ro,s.h.get q=some (.cells c sz n ro 3)->some q≠o->s'.h.get q=s.h.get q)∧(o'=o∨∃b,o'=some b∧s.nx<=b))
def ai7:∀a,a<6->pos a 6=pos (a+1) (a+2):=by
 intro a ha
 match a,ha with
 |0,_=>rfl
 |1,_=>rfl
 |2,_=>rfl
 |3,_=>rfl
 |4,_=>rfl
 |5,_=>rfl
def Px (a b:Nat) (h:a<b):pos a (b+1)=pos a b+1:=by unfold pos;omega
section
def Ud:isAgg prog 120=some false:=by kernel_rfl
def YR:isAgg prog 40=some false:=by kernel_rfl
def YS:isAgg prog 56=some false:=by kernel_rfl
def aep:isAgg prog 2=some false:=by kernel_rfl
def aD4 (a b:Nat):qQ 12 (Ls a b) (Ls a b)=true:=acz 72 a b
def amj (a b:Nat):qQ 12 (Gj a b) (Gj a b)=true:=acz 73 a b
def aD5 (a b c:Nat):qQ 12 (Gk a b c) (Gk a b c)=true:=acp 74 a b c
def Ix (m:TM 101) (yv:Value) (b3 b4 b5 b8 b9 fh:Nat):Prop:=m.get 0=some yv∧m.get 1=some (a8 b3)∧m.get 2=some (a8 b8)∧m.get 3=some (a8 b9)∧m.get 4=some (a8 fh)∧m.get 5=some (a8 b5)∧m.get 6=some (a8 b4)
def Ix.eq {m m':TM 101} {yv:Value} {b3 b4 b5 b8 b9 fh:Nat} (h:Ix m yv b3 b4 b5 b8 b9 fh) (he:∀j,j<7->m'.get j=m.get j):Ix m' yv b3 b4 b5 b8 b9 fh:=by unfold Ix;rw[he 0 (by decide),he 1 (by decide),he 2 (by decide),he 3 (by decide),he 4 (by decide),he 5 (by decide),he 6 (by decide)];exact h
def Ix.set {m:TM 101} {yv:Value} {b3 b4 b5 b8 b9 fh:Nat} (h:Ix m yv b3 b4 b5 b8 b9 fh) (k:Nat) (hk:7<=k∧k<101) (v:Value):Ix (m.set k v) yv b3 b4 b5 b8 b9 fh:=h.eq λj hj=>by rw[TM.iT _ _ _ _ hk.2,aC (by omega)]
variable {N lp t b3 b4 b5 b7 b8 b9 fh:Nat} {OK:AS->Cx->Prop} {Jj:Cx->List Nat->Prop} {p6 kX:Cx->Nat->Nat->Prop} {sw CY:Cx->Nat->Prop} {Ax:Cx->Nat->Nat->Prop} {ext:AS->Cx->AS->Cx->Prop} {Dr:Nat->AS->Cx->Prop} {yv:Value} {YI:Nat->Option Nat->AS->Cx->Prop}
def Ob.xe (H:Ob N lp t b3 b4 b5 b7 b8 b9 fh OK Jj p6 kX sw CY Ax ext Dr) {C:Cx} (h:OK s C):aM prog 24 s (a8 b3)=some (a8 lp)∧aM prog 3 s (a8 b4)=some (aw (t:Int))∧aM prog 4 s (a8 b5)=some (.bool true)∧aM prog 120 s (a8 b8)=some (Ls b3 b4)∧aM prog 40 s (a8 b9)=some (Gj b3 b4)∧aM prog 56 s (a8 fh)=some (Gk b3 b4 b7):=by obtain⟨h1,h2,h3,h4,h5,h6⟩:=H.boxes h;exact⟨h1.ld cT (o:=0) (by simp),h2.ld bM (o:=0) (by simp),h3.ld Hj (o:=0) (by simp),h4.ld Ud (o:=0) (by simp),h5.ld YR (o:=0) (by simp),h6.ld YS (o:=0) (by simp)⟩
def aD6 (H:Ob N lp t b3 b4 b5 b7 b8 b9 fh OK Jj p6 kX sw CY Ax ext Dr) (Y:YiH N yv OK Ax ext YI) {C:Cx} {m:TM 101} {Q:cZ->TM 101->AS->Prop} (hT:Ix m yv b3 b4 b5 b8 b9 fh) (eH:OK s C) (hy:YI 0 o s C) {z:Nat} (hz:C.sz<=z) (hz2:z<=48) (hQ:∀m' s' C' o',C'.sz<=z+7->Ix m' yv b3 b4 b5 b8 b9 fh->m'.get 22=some (.bool false)->OK s' C'->YI 1 o' s' C'->Q .normal m' s'):WC (aE N) aaQ Q m s:=by
 have hg:=H.bt eH;obtain⟨gA,AB⟩:=tP hg [0,1,2,3,4,5];obtain⟨sA,qS⟩:=dO (s.row 3 1 (ints [0,1,2,3,4,5]));have hb6:=atf hg;rw[<-qS]at gA AB hb6;have AB:Sl sA.nx sA 3 1 (.slice (some ⟨s.nx,0,none⟩) 6 (bH 6)) (ints [0,1,2,3,4,5]):=AB;obtain⟨Jk,xA⟩:=H.grown eH gA;obtain⟨w1,s1,e1,C1,L,x1,sW,k1,sl1,is1,z1⟩:=H.is6 Jk (by omega) AB;obtain⟨_,s2,e2,C2,y,rfl,x2,CZ,k2,ax2,z2⟩:=H.or6 sW (by omega) sl1 is1;have y2:YI 0 o s2 C2:=Y.an (Y.an (Y.an hy xA (gA.an hg)) x1 k1) x2 k2;obtain⟨_,s3,e3,rfl,o',y3,EF,x3,_⟩:=Y.yd y2 CZ (by decide) ax2;obtain⟨t0,t1,t2,t3,t4,t5,t6⟩:=id hT;obtain⟨la1,la2,la3,la4,la5,la6⟩:=H.xe eH;obtain⟨lb1,lb2,lb3,lb4,lb5,lb6⟩:=H.xe sW;obtain⟨lc1,lc2,lc3,lc4,lc5,lc6⟩:=H.xe CZ;obtain⟨lA1,lA2,lA3,lA4,lA5,lA6⟩:=H.xe Jk;unfold aaQ;apply gY;simp+decide only[ag,t0,t1,t2,la1,la4,hb6,lA1,lA4,e1,lb1,lb4,aD4,e2,lc1,e3];refine hQ _ _ _ _ (by omega) ?_ ?_ EF y3
 ·exact hT.set 22 (by decide) _
 ·simp+decide only[ag]
def SX (ha:a<6) (jJ:a<b) (hb:b<6):pos a b<=15:=by
 match a,ha with
 |0,_=>unfold pos;omega
 |1,_=>unfold pos;omega
 |2,_=>unfold pos;omega
 |3,_=>unfold pos;omega
 |4,_=>unfold pos;omega
 |5,_=>omega
def aD7 (H:Ob N lp t b3 b4 b5 b7 b8 b9 fh OK Jj p6 kX sw CY Ax ext Dr) (Y:YiH N yv OK Ax ext YI) {C:Cx} {m:TM 101} {Q:cZ->TM 101->AS->Prop} (hT:Ix m yv b3 b4 b5 b8 b9 fh) (eH:OK s C) (hy:YI (pos a b) o s C) (jJ:a<b) (hb:b<6) (h8:m.get 8=some (aw (a:Int))) (h9:m.get 9=some (aw (b:Int))) (hz:C.sz<=140) (hQ:∀s' C' o',C'.sz<=C.sz+5->OK s' C'->YI (pos a (b+1)) o' s' C'->Q .normal (m.set 43 (.bool false)) s'):WC (aE N) UC Q m s:=by
 have hg:=H.bt eH;obtain⟨_,s1,e1,C1,f,rfl,x1,sW,k1,n1,z1⟩:=H.not eH (by omega) (a:=a) (by omega);obtain⟨_,s2,e2,C2,g,rfl,x2,CZ,k2,n2,z2⟩:=H.not sW (by omega) (a:=b) hb;have dI:=H.bt CZ;obtain⟨gA,AB⟩:=tP dI [f,g];obtain⟨sA,qS⟩:=dO (s2.row 3 1 (ints [f,g]));have wV:bF prog 38 2 [0,1] s2 [aw (f:Int),aw (g:Int)]=some (.slice (some ⟨s2.nx,0,none⟩) 2 (bH 2),s2.row 3 1 (ints [f,g])):=vG dI fm fX rfl rfl;rw[<-qS]at gA AB wV;have AB:Sl sA.nx sA 3 1 (.slice (some ⟨s2.nx,0,none⟩) 2 (bH 2)) (ints [f,g]):=AB;obtain⟨Jk,xA⟩:=H.grown CZ gA;obtain⟨_,s3,e3,C3,y,rfl,x3,EF,k3,ax3,z3⟩:=H.or2 Jk (by omega) jJ hb AB (H.notM xA (H.notM x2 n1)) (H.notM xA n2);have y3:YI (pos a b) o s3 C3:=Y.an (Y.an (Y.an (Y.an hy x1 k1) x2 k2) xA (gA.an dI)) x3 k3;have hp:pos a b<20:=by have:=SX (by omega) jJ hb;omega
 obtain⟨_,s4,e4,rfl,o',y4,ok4,x4,_⟩:=Y.yd y3 EF hp ax3;rw[<-Px a b jJ]at y4;obtain⟨t0,t1,t2,t3,t4,t5,t6⟩:=id hT;obtain⟨la1,la2,la3,la4,la5,la6⟩:=H.xe eH;obtain⟨lb1,lb2,lb3,lb4,lb5,lb6⟩:=H.xe sW;obtain⟨lc1,lc2,lc3,lc4,lc5,lc6⟩:=H.xe CZ;obtain⟨lA1,lA2,lA3,lA4,lA5,lA6⟩:=H.xe Jk;obtain⟨ld1,ld2,ld3,ld4,ld5,ld6⟩:=H.xe EF;unfold UC;apply gY;simp+decide only[ag,t0,t1,t3,h8,h9,la1,la5,e1,lb1,lb5,amj,e2,lc1,lc5,wV,lA1,lA5,e3,ld1,ld5,e4];exact hQ _ _ _ (by omega) ok4 y4
def aD8 (H:Ob N lp t b3 b4 b5 b7 b8 b9 fh OK Jj p6 kX sw CY Ax ext Dr) (Y:YiH N yv OK Ax ext YI) {C:Cx} {m:TM 101} {Q:cZ->TM 101->AS->Prop} (hT:Ix m yv b3 b4 b5 b8 b9 fh) (eH:OK s C) (hy:YI 1 o s C) (h23:m.get 23=some (aw 0)) {z:Nat} (hz:C.sz<=z+7) (hz2:z<=48) (hQ:∀m' s' C' o',C'.sz<=z+82->Ix m' yv b3 b4 b5 b8 b9 fh->OK s' C'->YI 16 o' s' C'->Q .normal m' s'):WC (aE N) (bP 0 (fM (ah aaR (ah (bw (aK 24) (aQ .normal) (aQ (.exit 0))) (ah (bP 1 (ah aaS (ah aaT (bP 2 (fM (ah (ah aaU (bw (aK 29) (aQ .normal) (aQ (.exit 2)))) (ah (bP 3 (ah UC (bw (aK 43) (aQ .ret) (aQ .normal)))) aaV))))))) aaW))))) Q m s:=by
 refine bY (eW (λm s=>∃a C o,a<=6∧Ix m yv b3 b4 b5 b8 b9 fh∧m.get 23=some (aw ((a:Nat):Int))∧C.sz+5<=z+7+5*pos a (a+1)∧OK s C∧YI (pos a (a+1)) o s C)
  (λm _=>match m.get 23 with|some (.int _ j)=>(6-j).toNat|_=>0) ?_ ?_ ?_)
 ·exact⟨0,C,o,by omega,hT,h23,(show _<=z+7+5*1 by omega),eH,hy⟩
 ·rw[h23];decide
 rintro m s ⟨a,C,o,ha,hT,h23,hz,eH,hy⟩;unfold aaR;apply aJ;by_cases cS:a<6
 ·have hd:decide ((a:Int)<6)=true:=aL (by omega);simp+decide only[ag,h23,hd];refine aT (cK true (by simp+decide only[ag]) ?_);simp+decide only[ag];apply aR;simp+decide only[ag];have w1:IntKind.i64.wrap ((a:Int)+1)=((a+1:Nat):Int):=by rw[wrap_i64 (by omega)];omega
  unfold aaS;apply kK;apply aJ;simp+decide only[ag,h23];unfold aaT;apply aJ;simp+decide only[ag,w1];refine bY (eW (λm s=>∃b C o,a<b∧b<=6∧Ix m yv b3 b4 b5 b8 b9 fh∧m.get 23=some (aw (a:Int))∧m.get 8=some (aw (a:Int))∧m.get 9=some (aw ((b:Nat):Int))∧C.sz+5<=z+7+5*pos a b∧OK s C∧YI (pos a b) o s C)
   (λm _=>match m.get 9 with|some (.int _ j)=>(6-j).toNat|_=>0) ?_ ?_ ?_)
  ·refine⟨a+1,C,o,by omega,by omega,?_,by simp+decide only[ag,h23],by simp+decide only[ag],by simp+decide only[ag],hz,eH,hy⟩;exact((hT.set 24 (by decide) _).set 8 (by decide) _).set 9 (by decide) _
  ·simp+decide only[ag];omega
  rintro m s ⟨b,C,o,jJ,hb,hT,h23,h8,h9,hz,eH,hy⟩;unfold aaU;apply dh;apply ar;by_cases hlb:b<6
  ·have hd:decide ((b:Int)<6)=true:=aL (by omega);simp+decide only[ag,h9,hd];refine iP (by simp+decide only[ag]) ?_;apply aR;refine aT (bY (aT ?_));refine aD7 H Y (a:=a) (b:=b) (hT.set 29 (by decide) _) eH hy jJ hlb (by simp+decide only[ag,h8]) (by simp+decide only[ag,h9]) (by have:=SX cS jJ hlb;omega) λs' C' o' hz' ok' y'=>?_;simp+decide only[ag];refine dD (by simp+decide only[ag]) ?_;simp+decide only[ag];have w2:IntKind.i64.wrap ((b:Int)+1)=((b+1:Nat):Int):=by rw[wrap_i64 (by omega)];omega
   unfold aaV;apply ar;simp+decide only[ag,h9,w2];refine⟨⟨b+1,C',o',by omega,by omega,?_,h23,h8,rfl,by rw[Px a b jJ];omega,ok',y'⟩,?_⟩
   ·exact((hT.set 29 (by decide) _).set 43 (by decide) _).set 9 (by decide) _
   ·omega
  ·have hd:decide ((b:Int)<6)=false:=az (by omega);simp+decide only[ag,h9,hd];refine dD (by simp+decide only[ag]) ?_;simp+decide only[ag];have hb6:b=6:=by omega
   rw[hb6,ai7 a cS]at hy hz;unfold aaW;apply ar;simp+decide only[ag,h23,w1];refine⟨⟨a+1,C,o,by omega,?_,rfl,hz,eH,hy⟩,?_⟩
   ·exact(hT.set 29 (by decide) _).set 23 (by decide) _
   ·omega
 ·have hd:decide ((a:Int)<6)=false:=az (by omega);simp+decide only[ag,h23,hd];refine aT (cK false (by simp+decide only[ag]) ?_);simp+decide only[ag];apply aR;simp+decide only[ag];have ha6:a=6:=by omega
  subst ha6;exact hQ _ _ _ _ (by have:pos 6 (6+1)=16:=rfl;omega) (hT.set 24 (by decide) _) eH hy
end
section
def ad3:cA prog 33 [0,1] [aw 1,.bool true]=some (.agg ⟨abn⟩):=by kernel_rfl
def ad4:cA prog 33 [0] [aw 1]=some (.agg ⟨SW⟩):=by kernel_rfl
def Ue:fu prog 121=some 2:=by kernel_rfl
def aeq:dW prog 2=some (1,[aw 0]):=by kernel_rfl
variable {N lp t b3 b4 b5 b7 b8 b9 fh:Nat} {OK:AS->Cx->Prop} {Jj:Cx->List Nat->Prop} {p6 kX:Cx->Nat->Nat->Prop} {sw CY:Cx->Nat->Prop} {Ax:Cx->Nat->Nat->Prop} {ext:AS->Cx->AS->Cx->Prop} {Dr:Nat->AS->Cx->Prop} {yv:Value} {YI:Nat->Option Nat->AS->Cx->Prop}
def RD {c:T LVal} {sz m:Nat} {ro:Bool} (h:et≠118∧et≠125∧et≠64∧et≠79):¬oO (.cells c sz m ro et):=by
 rintro((h1|h1)|(h1|h1))
 ·exact h.1 h1
 ·exact h.2.1 h1
 ·exact h.2.2.1 h1
 ·exact h.2.2.2 h1
def Rc (Dr:Nat->AS->Cx->Prop) (w:Value) (R:List Nat) (o:Option Nat) (s:AS) (C:Cx):Prop:=∃bR,Own 0 s 3 1 w (ints R) (some bR)∧Dr bR s C∧bR<s.nx∧some bR≠o
def Rc.an (H:Ob N lp t b3 b4 b5 b7 b8 b9 fh OK Jj p6 kX sw CY Ax ext Dr) {w:Value} {R:List Nat} {o:Option Nat} {s s':AS} {C C':Cx} (h:Rc Dr w R o s C) (hx:ext s C s' C') (hk:eu oO s s'):Rc Dr w R o s' C':=by obtain⟨b,h1,h2,h3,h4⟩:=h;exact⟨b,h1.an hk λ_ _ _=>RD (by decide),H.GB h2 hx,bC h3 hk.nx,h4⟩
def Own.WW {w:Value} (h:Own 0 s 3 1 w R (some b)):bE s b 3 1 false R∧(cW s w=s∨cW s w=s.wr b none):=by
 cases h with
 |ex hb h=>exact⟨h,.inl (aU (cR _).2)⟩
 |lb hb h=>exact⟨h,.inr (aC (by rw[(j1 _ 1 (by decide)).2.1];decide))⟩
def Rc.push (H:Ob N lp t b3 b4 b5 b7 b8 b9 fh OK Jj p6 kX sw CY Ax ext Dr) (Y:YiH N yv OK Ax ext YI) {w:Value} {R:List Nat} {C:Cx} {y:Nat} (h:Rc Dr w R o s C) (eH:OK s C) (hy:YI j o s C) (hl:R.length<=1000) (hv:Sl s.nx s 3 1 v (ints [y])):
  ∃w' s',vj 3 1 s [w,v]=some (w',s')∧OK s' C∧ext s C s' C∧YI j o s' C∧Rc Dr w' (R++ [y]) o s' C∧∀q c sz n ro,s.h.get q=some (.cells c sz n ro 2)->s'.h.get q=some (.cells c sz n ro 2):=by
 have hg:=H.bt eH;obtain⟨b,h1,h2,h3,h4⟩:=h;have oA:=ze h1 hv hg (by decide) (by decide) (kN _) (kN _) (λl hl=>by simp[ints]at hl;subst hl;rfl) (by simp[ints];omega) (by simp[ints]);have hR:ints R++ints [y]=ints (R++ [y]):=by simp[ints]
 obtain⟨fL,hd⟩:=h1.WW;obtain⟨okD,xD,yD,nD⟩:OK (cW s w) C∧ext s C (cW s w) C∧YI j o (cW s w) C∧(cW s w).nx=s.nx:=by
  rcases hd with hd|hd
  ·rw[hd];have:=H.grown eH (Grown.refl hg _);exact⟨eH,this.2,hy,rfl⟩
  ·rw[hd];obtain⟨c,hc,_⟩:=fL;obtain⟨p1,p2⟩:=H.drop eH h2 ⟨_,_,_,_,hc⟩;exact⟨p1,p2,Y.drop hy hg h3 h4 ⟨_,_,_,_,hc⟩ p2,rfl⟩
 have Bg:=H.bt okD;obtain⟨sN,Re⟩:∃sN,sN=(cW s w).row 3 1 (ints (R++ [y])):=⟨_,rfl⟩
 have grN:Grown (cW s w).nx (cW s w) sN:=by rw[Re];exact(Grown.refl Bg _).row (af _) _ _ _
 obtain⟨okN,xN⟩:=H.grown okD grN;rw[hR,<-Re]at oA;refine⟨_,sN,oA,okN,H.trans xD xN,Y.an yD xN (grN.an Bg),⟨s.nx,?_,?_,?_,?_⟩,λq c sz n ro hq=>?_⟩
 ·exact .lb (gS _) (by rw[Re,<-nD];exact bE.new Bg 3 1 _)
 ·rw[Re,<-nD];exact H.U0 _ okD
 ·rw[Re,<-nD];exact D4 _
 ·intro he;have:=Y.lt hy he.symm;omega
 ·have hqn:q<s.nx:=iV λhc=>by
   rw[hg.none q (by omega)]at hq;cases hq
  rw[grN.eb q (by omega)];rcases hd with hd|hd
  ·rw[hd];exact hq
  ·rw[hd,cj hg h3];obtain⟨c',Bb,_⟩:=fL;by_cases LF:q=b
   ·subst LF;rw[Bb]at hq;simp at hq
   ·rw[aC LF];exact hq
def aEa (H:Ob N lp t b3 b4 b5 b7 b8 b9 fh OK Jj p6 kX sw CY Ax ext Dr) (Y:YiH N yv OK Ax ext YI) {C:Cx} {m:TM 101} {Q:cZ->TM 101->AS->Prop} (hT:Ix m yv b3 b4 b5 b8 b9 fh) (eH:OK s C) (hy:YI 16 o s C) (hz:C.sz<=135) (hQ:∀s' C' w y z,C'.sz<=C.sz+12->OK s' C'->YI 16 o s' C'->Rc Dr w [y,z] o s' C'->Ax C' 16 y->Ax C' 17 z->Q .normal (m.set 10 w) s'):WC (aE N) aaX Q m s:=by
 have hg:=H.bt eH;obtain⟨_,s1,e1,C1,f,rfl,x1,sW,k1,n1,z1⟩:=H.not eH (by omega) (a:=0) (by omega);obtain⟨_,s2,e2,C2,g,rfl,x2,CZ,k2,n2,z2⟩:=H.same sW (by omega) 0 zeroV (.inl ⟨rfl,rfl⟩);have dI:=H.bt CZ;obtain⟨gA,AB⟩:=tP dI [f,g];obtain⟨sA,qS⟩:=dO (s2.row 3 1 (ints [f,g]));have Od:bF prog 38 2 [0,1] s2 [aw (f:Int),aw (g:Int)]=some (.slice (some ⟨s2.nx,0,none⟩) 2 (bH 2),s2.row 3 1 (ints [f,g])):=vG dI fm fX rfl rfl;rw[<-qS]at gA AB Od;have AB:Sl sA.nx sA 3 1 (.slice (some ⟨s2.nx,0,none⟩) 2 (bH 2)) (ints [f,g]):=AB;obtain⟨Jk,xA⟩:=H.grown CZ gA;obtain⟨_,s3,e3,C3,y,rfl,x3,EF,k3,ax3,z3⟩:=H.aLr Jk (by omega) AB (H.notM xA (H.notM x2 n1)) (H.UZ xA n2);have y3:YI 16 o s3 C3:=Y.an (Y.an (Y.an (Y.an hy x1 k1) x2 k2) xA (gA.an dI)) x3 k3;obtain⟨_,s4,e4,C4,f4,rfl,x4,ok4,k4,n4,z4⟩:=H.not EF (by omega) (a:=1) (by omega);obtain⟨_,s5,e5,C5,f5,rfl,x5,Zq,k5,n5,z5⟩:=H.same ok4 (by omega) 1 abn (.inr (.inl ⟨rfl,rfl⟩));obtain⟨_,s6,e6,C6,f6,rfl,x6,ok6,k6,n6,z6⟩:=H.same Zq (by omega) 2 SW (.inr (.inr ⟨rfl,rfl⟩));have lZ:=H.bt ok6;obtain⟨gB,slB⟩:=tP lZ [f4,f5,f6];obtain⟨sB,BM⟩:=dO (s6.row 3 1 (ints [f4,f5,f6]));have hbB:bF prog 38 3 [0,1,2] s6 [aw (f4:Int),aw (f5:Int),aw (f6:Int)]=some (.slice (some ⟨s6.nx,0,none⟩) 3 (bH 3),s6.row 3 1 (ints [f4,f5,f6])):=abQ lZ fm fX rfl rfl rfl;rw[<-BM]at gB slB hbB;have slB:Sl sB.nx sB 3 1 (.slice (some ⟨s6.nx,0,none⟩) 3 (bH 3)) (ints [f4,f5,f6]):=slB;obtain⟨okB,xB⟩:=H.grown ok6 gB;obtain⟨_,s7,e7,C7,z,rfl,x7,ok7,k7,ax7,z7⟩:=H.aLs okB (by omega) slB (H.notM xB (H.notM x6 (H.notM x5 n4))) (H.UZ xB (H.UZ x6 n5)) (H.UZ xB n6);have y7:YI 16 o s7 C7:=Y.an (Y.an (Y.an (Y.an (Y.an y3 x4 k4) x5 k5) x6 k6) xB (gB.an lZ)) x7 k7;have rX:=H.bt ok7;obtain⟨gC,slC⟩:=tP rX [y,z];obtain⟨sC,AA⟩:=dO (s7.row 3 1 (ints [y,z]));have hbC:bF prog 38 2 [0,1] s7 [aw (y:Int),aw (z:Int)]=some (.slice (some ⟨s7.nx,0,none⟩) 2 (bH 2),s7.row 3 1 (ints [y,z])):=vG rX fm fX rfl rfl;rw[<-AA]at gC hbC;obtain⟨ui,xC⟩:=H.grown ok7 gC;have yC:YI 16 o sC C7:=Y.an y7 xC (gC.an rX);have hR:Rc Dr (.slice (some ⟨s7.nx,0,none⟩) 2 (bH 2)) [y,z] o sC C7:=by
  refine⟨s7.nx,?_,?_,?_,?_⟩
  ·exact .ex (R:=ints [y,z]) (gS _) (by rw[AA];exact bE.new rX 3 1 _)
  ·rw[AA];exact H.U0 _ ok7
  ·rw[AA];exact D4 _
  ·intro he;have:=Y.lt y7 he.symm;omega
 obtain⟨t0,t1,t2,t3,t4,t5,t6⟩:=id hT;obtain⟨l01,-,-,-,l05,l06⟩:=H.xe eH;obtain⟨Nx,-,-,-,l15,l16⟩:=H.xe sW;obtain⟨l21,-,-,-,l25,l26⟩:=H.xe CZ;obtain⟨l31,-,-,-,l35,l36⟩:=H.xe EF;obtain⟨l41,-,-,-,l45,l46⟩:=H.xe ok4;obtain⟨l51,-,-,-,l55,l56⟩:=H.xe Zq;obtain⟨l61,-,-,-,l65,l66⟩:=H.xe ok6;obtain⟨l71,-,-,-,l75,l76⟩:=H.xe ok7;obtain⟨lA1,-,-,-,lA5,lA6⟩:=H.xe Jk;obtain⟨lB1,-,-,-,lB5,lB6⟩:=H.xe okB;have e1:aE N (Gj b3 b4) [aw 0] s= .val (aw (f:Int)) s1:=e1;have e4:aE N (Gj b3 b4) [aw 1] s3= .val (aw (f4:Int)) s4:=e4;unfold aaX;apply gY;simp+decide only[ag,t0,t1,t3,t4,B3,ad3,ad4,amj,aD5,l01,l05,l06,e1,Nx,l15,l16,e2,l21,l25,l26,Od,lA1,lA5,lA6,e3,l31,l35,l36,e4,l41,l45,l46,e5,l51,l55,l56,e6,l61,l65,l66,hbB,lB1,lB5,lB6,e7,l71,l75,l76,hbC];exact hQ _ _ _ _ _ (by omega) ui yC hR (H.Oc xC (H.Oc x7 (H.Oc xB (H.Oc x6 (H.Oc x5 (H.Oc x4 ax3)))))) (H.Oc xC ax7)
end
section
variable {N lp t b3 b4 b5 b7 b8 b9 fh:Nat} {OK:AS->Cx->Prop} {Jj:Cx->List Nat->Prop} {p6 kX:Cx->Nat->Nat->Prop} {sw CY:Cx->Nat->Prop} {Ax:Cx->Nat->Nat->Prop} {ext:AS->Cx->AS->Cx->Prop} {Dr:Nat->AS->Cx->Prop} {yv:Value} {YI:Nat->Option Nat->AS->Cx->Prop}
def atg (H:Ob N lp t b3 b4 b5 b7 b8 b9 fh OK Jj p6 kX sw CY Ax ext Dr) (Y:YiH N yv OK Ax ext YI) {C:Cx} {m:TM 101} {Q:cZ->TM 101->AS->Prop} {w:Value} {R:List Nat} (b:Bool) (hT:Ix m yv b3 b4 b5 b8 b9 fh) (eH:OK s C) (hy:YI 16 o s C) (hr:Rc Dr w R o s C) (hl:R.length<=1000) (Be:m.get 10=some w) (h12:m.get 12=some (aw (cI b))) (hz:C.sz<=146) (hQ:∀s' C' w' y,C'.sz<=C.sz+4->OK s' C'->YI 16 o s' C'->Rc Dr w' (R++ [y]) o s' C'->Ax C' (if b then 19 else 18) y->ext s C s' C'->(∀q c sz n ro,s.h.get q=some (.cells c sz n ro 2)->s'.h.get q=some (.cells c sz n ro 2))->Q .normal (m.set 10 w') s'):WC (aE N) LW Q m s:=by
 have hg:=H.bt eH;obtain⟨_,s1,e1,C1,f,rfl,x1,sW,k1,n1,z1⟩:=H.tag eH (by omega);have dv:=H.bt sW;obtain⟨v1,s2,v2,s3,v3,s4,g,s5,C5,e2,e3,e4,e5,g2,g3,g4,x5,Zq,k5,n5,z5⟩:=H.leq sW (by omega) b;obtain⟨CZ,x2⟩:=H.grown sW g2;obtain⟨EF,x3⟩:=H.grown CZ g3;obtain⟨ok4,x4⟩:=H.grown EF g4;have jm:=H.bt Zq;obtain⟨gA,AB⟩:=tP jm [f,g];obtain⟨sA,qS⟩:=dO (s5.row 3 1 (ints [f,g]));have Od:bF prog 38 2 [0,1] s5 [aw (f:Int),aw (g:Int)]=some (.slice (some ⟨s5.nx,0,none⟩) 2 (bH 2),s5.row 3 1 (ints [f,g])):=vG jm fm fX rfl rfl;rw[<-qS]at gA AB Od;have AB:Sl sA.nx sA 3 1 (.slice (some ⟨s5.nx,0,none⟩) 2 (bH 2)) (ints [f,g]):=AB;obtain⟨Jk,xA⟩:=H.grown Zq gA;have xs:ext s1 C1 sA C5:=H.trans (H.trans (H.trans (H.trans x2 x3) x4) x5) xA;have ks:eu oO s1 sA:=((((g2.an dv).trans (g3.an g2.bt)).trans (g4.an g3.bt)).trans k5).trans (gA.an jm);obtain⟨_,s6,e6,C6,y,rfl,x6,ok6,k6,ax6,z6⟩:=H.orL Jk (by omega) AB (H.aLq xs n1) (by exact n5) b
 have x06:ext s C s6 C6:=H.trans (H.trans x1 xs) x6;have k06:eu oO s s6:=(k1.trans ks).trans k6;have lZ:=H.bt ok6;obtain⟨gB,slB⟩:=tP lZ [y];obtain⟨sB,BM⟩:=dO (s6.row 3 1 (ints [y]));have hbB:bF prog 38 1 [0] s6 [aw (y:Int)]=some (.slice (some ⟨s6.nx,0,none⟩) 1 (bH 1),s6.row 3 1 (ints [y])):=qt lZ fm fX rfl;rw[<-BM]at gB slB hbB;have slB:Sl sB.nx sB 3 1 (.slice (some ⟨s6.nx,0,none⟩) 1 (bH 1)) (ints [y]):=slB;obtain⟨okB,xB⟩:=H.grown ok6 gB;have kB:=gB.an (T:=oO) lZ;have k0B:eu oO s sB:=k06.trans kB;obtain⟨w',sC,e7,ui,xC,yC,rC,fC⟩:=Rc.push H Y (hr.an H (H.trans x06 xB) k0B) okB (Y.an hy (H.trans x06 xB) k0B) hl slB;obtain⟨t0,t1,t2,t3,t4,t5,t6⟩:=id hT;obtain⟨l01,l02,-,-,-,-⟩:=H.xe eH;obtain⟨Nx,l12,-,-,-,-⟩:=H.xe sW;obtain⟨l21,l22,-,-,-,-⟩:=H.xe CZ;obtain⟨l31,l32,-,-,-,-⟩:=H.xe EF;obtain⟨l41,l42,-,-,-,-⟩:=H.xe ok4;obtain⟨l51,l52,-,-,-,-⟩:=H.xe Zq;obtain⟨l61,l62,-,-,-,-⟩:=H.xe ok6;obtain⟨lA1,lA2,-,-,-,-⟩:=H.xe Jk;obtain⟨lB1,lB2,-,-,-,-⟩:=H.xe okB;unfold LW;apply gY;simp+decide only[ag,t0,t1,t6,Be,h12,l01,l02,e1,Nx,l12,e2,l21,l22,e3,l31,l32,e4,l41,l42,e5,l51,l52,Od,lA1,lA2,e6,l61,l62,hbB,lB1,lB2,e7];exact hQ sC C6 w' y (by omega) ui yC rC (H.Oc xC (H.Oc xB ax6)) (H.trans (H.trans x06 xB) xC) λq c sz n ro hq=>fC q c sz n ro (k0B.eb _ _ hq (RD (by decide)))
def ath (H:Ob N lp t b3 b4 b5 b7 b8 b9 fh OK Jj p6 kX sw CY Ax ext Dr) (Y:YiH N yv OK Ax ext YI) {C:Cx} {m:TM 101} {Q:cZ->TM 101->AS->Prop} {w:Value} {y z:Nat} (hT:Ix m yv b3 b4 b5 b8 b9 fh) (eH:OK s C) (hy:YI 16 o s C) (hr:Rc Dr w [y,z] o s C) (Be:m.get 10=some w) (Dt:Ax C 16 y) (h17:Ax C 17 z) {z0:Nat} (hz:C.sz<=z0) (hz0:z0<=142) (hQ:∀m' s' C' w' R,C'.sz<=z0+8->Ix m' yv b3 b4 b5 b8 b9 fh->m'.get 10=some w'->OK s' C'->YI 16 o s' C'->Rc Dr w' R o s' C'->R.length=4->(∀i (h:i<R.length),Ax C' (16+i) R[i])->Q .normal m' s'):WC (aE N) (ah Sy (bP 4 (fM (ah SA (ah (bw (aK 68) (aQ .normal) (aQ (.exit 4))) (ah (bP 5 (ah SB (ah (ah SC (bw (aK 72) (aQ (.exit 4)) (aQ .normal))) LW))) SD)))))) Q m s:=by
 have hg:=H.bt eH;obtain⟨sA,qS⟩:=dO (s.row 2 1 [[aw 1],[aw (Int.negSucc 0)]]);have Od:bF prog 121 2 [0,1] s [aw 1,aw (Int.negSucc 0)]=some (.slice (some ⟨s.nx,0,none⟩) 2 (bH 2),s.row 2 1 [[aw 1],[aw (Int.negSucc 0)]]):=vG hg Ue aeq rfl rfl;have zR:Grown s.nx s sA:=by rw[qS];exact(Grown.refl hg _).row (af _) _ _ _
 have aLv:bE sA s.nx 2 1 false [[aw 1],[aw (Int.negSucc 0)]]:=by rw[qS];exact bE.new hg 2 1 _
 rw[<-qS]at Od;obtain⟨Jk,xA⟩:=H.grown eH zR;have kA:=zR.an (T:=oO) hg;have yA:=Y.an hy xA kA;have rA:=hr.an H xA kA;have aA:=H.Oc xA Dt;have bA:=H.Oc xA h17;unfold Sy;apply aJ;simp+decide only[ag,Od];refine bY (eW (λm s'=>∃(i:Nat) (C:Cx) (w:Value) (R:List Nat),i<=2∧C.sz<=z0+4*i∧Ix m yv b3 b4 b5 b8 b9 fh∧m.get 10=some w∧m.get 65=some (.slice (some ⟨s.nx,0,none⟩) 2 (bH 2))∧m.get 66=some (aw 2)∧m.get 67=some (aw ((i:Nat):Int))∧OK s' C∧YI 16 o s' C∧Rc Dr w R o s' C∧R.length=2+i∧(∀j (h:j<R.length),Ax C (16+j) R[j])∧bE s' s.nx 2 1 false [[aw 1],[aw (Int.negSucc 0)]])
  (λm _=>match m.get 67 with|some (.int _ j)=>(2-j).toNat|_=>0) ?_ ?_ ?_)
 ·refine⟨0,C,w,[y,z],by omega,by omega,?_,by simp+decide only[ag,Be],by simp+decide only[ag],?_,?_,Jk,yA,rA,rfl,?_,aLv⟩
  ·exact((hT.set 65 (by decide) _).set 66 (by decide) _).set 67 (by decide) _
  ·simp+decide only[ag]
  ·simp+decide only[ag]
  ·intro j hj
   match j,hj with
   |0,_=>exact aA
   |1,_=>exact bA
 ·simp+decide only[ag]
 rintro m s' ⟨i,C,w,R,hi,hz,hT,Be,h65,h66,h67,eH,hy,hr,hR,hax,fL⟩;have Ay:=H.bt eH;unfold SA;apply aJ;by_cases cS:i<2
 ·have hd:decide ((i:Int)<2)=true:=aL (by omega);simp+decide only[ag,h66,h67,hd];refine aT (cK true (by simp+decide only[ag]) ?_);simp+decide only[ag];apply aR;simp+decide only[ag];have sl:=Sl.full (c:=bH 2) (fL.lt Ay) fL (by rw[(cR _).1];exact af _) (.inl (cR _).2);have sl:Sl s'.nx s' 2 1 (.slice (some ⟨s.nx,0,none⟩) 2 (bH 2)) [[aw 1],[aw (Int.negSucc 0)]]:=sl;have ix:=sl.ix (P:=prog) (t:=121) (i:=i) (by simpa using cS) (k:= .i64);obtain⟨b,hb,hib⟩:∃b:Bool,([[aw 1],[aw (Int.negSucc 0)]]:List LVal)[i]? =some [aw (cI b)]∧i=if b then 1 else 0:=by
   match i,cS with
   |0,_=>exact⟨false,rfl,rfl⟩
   |1,_=>exact⟨true,rfl,rfl⟩
  obtain⟨qR,wV⟩:=List.getElem?_eq_some_iff.1 hb;have ld:=sl.ld aep qR wV;have w1:IntKind.i64.wrap ((i:Int)+1)=((i+1:Nat):Int):=by rw[wrap_i64 (by omega)];omega
  obtain⟨-,-,l5,-,-,-⟩:=H.xe eH;have t5:=hT.2.2.2.2.2.1;unfold SB;apply kK;apply aJ;simp+decide only[ag,h65,h67,ix,ld];unfold SC;apply dh;apply ar;simp+decide only[ag,t5,l5];refine dD (by simp+decide only[ag]) ?_;simp+decide only[ag];refine atg H Y b (w:=w) (R:=R) ?_ eH hy hr (by omega) (by simp+decide only[ag,Be]) (by simp+decide only[ag]) (by omega) λs2 C2 w2 y2 hz2 CZ yi2 r2 a2 x2 f2=>?_
  ·exact((hT.set 68 (by decide) _).set 12 (by decide) _).set 72 (by decide) _
  simp+decide only[ag];unfold SD;apply ar;simp+decide only[ag,h67,w1];refine⟨⟨i+1,C2,w2,R++ [y2],by omega,by omega,?_,rfl,h65,h66,rfl,CZ,yi2,r2,by simp;omega,?_,?_⟩,?_⟩
  ·exact((((hT.set 68 (by decide) _).set 12 (by decide) _).set 72 (by decide) _).set 10 (by decide) _).set 67 (by decide) _
  ·intro j hj;by_cases hjR:j<R.length
   ·rw[eO hjR];exact H.Oc x2 (hax j hjR)
   ·have Vg:j=R.length:=by simp at hj;omega
    subst Vg;rw[pP (af _)];simp only[Fk,ae];rw[show 16+R.length=if b=true then 19 else 18 by rw[hR,hib];cases b<;>rfl];exact a2
  ·obtain⟨c,hc,Dj⟩:=fL;exact⟨c,f2 _ _ _ _ _ hc,Dj⟩
  ·omega
 ·have hd:decide ((i:Int)<2)=false:=az (by omega);simp+decide only[ag,h66,h67,hd];refine aT (cK false (by simp+decide only[ag]) ?_);simp+decide only[ag];apply aR;simp+decide only[ag];exact hQ _ _ _ _ _ (by omega) (hT.set 68 (by decide) _) (by simp+decide only[ag,Be]) eH hy hr (by omega) hax
def ai8 (H:Ob N lp t b3 b4 b5 b7 b8 b9 fh OK Jj p6 kX sw CY Ax ext Dr) (Y:YiH N yv OK Ax ext YI) {C:Cx} {m:TM 101} {Q:cZ->TM 101->AS->Prop} {w:Value} {R:List Nat} (hT:Ix m yv b3 b4 b5 b8 b9 fh) (eH:OK s C) (hy:YI 16 o s C) (hr:Rc Dr w R o s C) (Be:m.get 10=some w) (hR:R.length=4) (hax:∀i (h:i<R.length),Ax C (16+i) R[i]) (hQ:∀m' s' o',OK s' C->YI 20 o' s' C->ext s C s' C->Q .normal m' s'):WC (aE N) (ah SE (bP 6 (fM (ah SH (ah (bw (aK 93) (aQ .normal) (aQ (.exit 6))) (ah (bP 7 (ah SI (ah SJ (bw (aK 99) (aQ .ret) (aQ .normal))))) SK)))))) Q m s:=by
 obtain⟨bR,lN,-,cS,ed⟩:=hr;have hg:=H.bt eH;obtain⟨fL,-⟩:=lN.WW;have qh:=lN.sl hg (by decide);have hlen:=qh.len;rw[dE,hR]at hlen;have hw:∀s':AS,Good s'->s'.h.get bR=s.h.get bR->Sl s'.nx s' 3 1 w (ints R):= λs' Ay he=>by
  have:Own 0 s' 3 1 w (ints R) (some bR):=lN.ext hg λj _ b hb hjb=>by cases hb;subst hjb;exact he
  exact this.sl Ay (by decide)
 obtain⟨c,hc,-⟩:=fL;unfold SE;apply aJ;simp+decide only[ag,Be,hlen];refine bY (eW (λm s'=>∃(i:Nat) (o:Option Nat),i<=4∧m.get 0=some yv∧m.get 90=some w∧m.get 91=some (aw 4)∧m.get 92=some (aw ((i:Nat):Int))∧OK s' C∧YI (16+i) o s' C∧s'.h.get bR=s.h.get bR∧s.nx<=s'.nx∧some bR≠o∧ext s C s' C)
  (λm _=>match m.get 92 with|some (.int _ j)=>(4-j).toNat|_=>0) ?_ ?_ ?_)
 ·exact⟨0,o,by omega,by simp+decide only[ag,hT.1],by simp+decide only[ag,Be],by simp+decide only[ag],by simp+decide only[ag],eH,hy,rfl,af _,ed,(H.grown eH (Grown.refl hg _)).2⟩
 ·simp+decide only[ag]
 rintro m s' ⟨i,o,hi,h0,h90,h91,h92,eH,hy,he,hn,ed,hx⟩;have Ay:=H.bt eH;unfold SH;apply aJ;by_cases pZ:i<4
 ·have hd:decide ((i:Int)<4)=true:=aL (by omega);simp+decide only[ag,h91,h92,hd];refine aT (cK true (by simp+decide only[ag]) ?_);simp+decide only[ag];apply aR;simp+decide only[ag];have pQ:i<R.length:=by omega
  have Y9:i<(ints R).length:=by rw[dE];exact pQ
  have sl:=hw s' Ay he;have ix:=sl.ix (P:=prog) (t:=38) (i:=i) Y9 (k:= .i64);have ld:=sl.ld bM Y9 (gJ pQ);rw[cO]at ld;obtain⟨_,s2,e2,rfl,o2,y2,CZ,x2,n2,f2,N2⟩:=Y.yd hy eH (by omega) (hax i pQ);have w1:IntKind.i64.wrap ((i:Int)+1)=((i+1:Nat):Int):=by rw[wrap_i64 (by omega)];omega
  unfold SI;apply kK;apply aJ;simp+decide only[ag,h90,h92,ix,ld];unfold SJ;apply aJ;simp+decide only[ag,h0,e2];refine dD (by simp+decide only[ag]) ?_;unfold SK;apply ar;simp+decide only[ag,h92,w1];refine⟨⟨i+1,o2,by omega,h0,h90,h91,rfl,CZ,y2,?_,by omega,?_,H.trans hx x2⟩,by omega⟩
  ·rw[<-he];exact f2 _ _ _ _ _ (by rw[he];exact hc) ed
  ·rcases N2 with rfl|⟨b,rfl,hb⟩
   ·exact ed
   ·intro EA;cases EA;omega
 ·have hd:decide ((i:Int)<4)=false:=az (by omega);simp+decide only[ag,h91,h92,hd];refine aT (cK false (by simp+decide only[ag]) ?_);simp+decide only[ag];apply aR;simp+decide only[ag];have hi4:i=4:=by omega
  subst hi4;exact hQ _ _ _ eH hy hx
def ati (H:Ob N lp t b3 b4 b5 b7 b8 b9 fh OK Jj p6 kX sw CY Ax ext Dr) (Y:YiH N yv OK Ax ext YI) {C:Cx} (eH:OK s C) (hy:YI 0 o s C) (hz:C.sz<=48):
  cp (aE (N+1) (dJ 76) [yv,a8 b3,a8 b8,a8 b9,a8 fh,a8 b5,a8 b4] s) (λr s'=>r= .tuple #[]∧∃C' o',OK s' C'∧YI 20 o' s' C'∧C'.sz<=150):=by
 rw[aKg];refine bG (by simp) λm hm=>?_;have hT:Ix m yv b3 b4 b5 b8 b9 fh:=by refine⟨?_,?_,?_,?_,?_,?_,?_⟩<;>rw[hm]<;>rfl
 clear hm;unfold c76;apply dh;refine aD6 H Y hT eH hy hz (af _) λm s C o hz hT h22 eH hy=>?_;simp+decide only[ag];refine cK false h22 ?_;simp+decide only[ag];apply aR;unfold alp;apply dh;apply ar;simp+decide only[ag];refine aD8 H Y (hT.set 23 (by decide) _) eH hy (by simp+decide only[ag]) hz (af _) λm s C o hz hT eH hy=>?_;simp+decide only[ag];refine aT (aEa H Y hT eH hy (by omega) λs C w y z hz eH hy hr Dt h17=>?_);simp+decide only[ag];refine aT (ath H Y (hT.set 10 (by decide) _) eH hy hr (by simp+decide only[ag]) Dt h17 (z0:=142) (by omega) (by omega) λm s C w R hz hT Be eH hy hr hR hax=>?_);simp+decide only[ag];refine ai8 H Y hT eH hy hr Be hR hax λm s o eH hy _=>?_;exact mZ (.inl rfl) ⟨rfl,C,o,eH,hy,by omega⟩
end
structure RE (es:List (Value×Value×Nat)) (f:Nat->Nat):Prop where
 nodup:(es.map (·.1)).Nodup
 keys:∀e∈es,∃x:Nat,e.1=aw (x:Int)∧f x≠0
 ua:∀x:Nat,f x≠0->∃b,(Value.int .i64 (x:Int),Value.int .i64 (f x:Int),b)∈es
def kq (s:AS) (r:Nat) (f:Nat->Nat):Prop:=∃es ck,cy s r 3 es ck∧RE es f
def RE.fits {f:Nat->Nat} (h:RE es f) (x:Nat):Keys (aw (x:Int)) es:= λp hp=>by obtain⟨y,h1,_⟩:=h.keys p hp;rw[h1];exact⟨_,ly 7 _ _ _⟩
def RE.uC {f:Nat->Nat} (h:RE es f) {x:Nat} (hx:f x≠0):∃b,jj (aw (x:Int)) es=some (some (aw (f x:Int),b)):=by obtain⟨b,hb⟩:=h.ua x hx;exact⟨b,Cm (h.fits x) h.nodup hb⟩
def RE.ZX {f:Nat->Nat} (h:RE es f) {x:Nat} (hx:f x=0):jj (aw (x:Int)) es=some none:=
 uV (h.fits x) λp hp e=>by
  obtain⟨y,h1,h2⟩:=h.keys p hp;rw[h1]at e;injection e with _ e
  exact h2 (by rw[qE e];exact hx)
def zG:keyOf prog 73=some (3,3):=by kernel_rfl
def K6:isAgg prog 73=some false:=by kernel_rfl
def kq.look {f:Nat->Nat} (h:kq s r f) (x:Nat):jR prog s 73 false (aw (x:Int)) (.map (some r))=some (aw (f x:Int)):=by
 obtain⟨es,ck,h1,h2⟩:=h;by_cases hx:f x=0
 ·rw[(zr h1 zG (og _) (h2.ZX hx) Hh).2,hx];rfl
 ·obtain⟨b,hb⟩:=h2.uC hx;rw[(Cn h1 zG (og _) hb).2]
def Py {x:Nat} {v:Value} {ck:Nat}:∀ {es:List (Value×Value×Nat)},(es.map (·.1)).Nodup->(∀e∈es,∃y:Nat,e.1=aw (y:Int))->(∃e∈es,e.1=aw (x:Int))->∃ig,qW (aw (x:Int)) v ck es=some ig∧ig.map (·.1)=es.map (·.1)∧(∃b,(aw (x:Int),v,b)∈ig)∧(∀e∈es,e.1≠aw (x:Int)->e∈ig)
 | [],_,_,h=>by obtain⟨e,he,_⟩:=h;cases he
 |e::es,hd,hk,hx=>by
  obtain⟨y,hy⟩:=hk e (by simp);have e0:qW (aw (x:Int)) v ck (e::es)=oR (Option (List (Value×Value×Nat))) none (λb=>aD b (some ((aw (x:Int),v,e.2.2)::es)) (ob (qW (aw (x:Int)) v ck es) λr=>some (e::r))) (vn 8 (aw (x:Int)) e.1):=rfl;rw[e0,hy,ly];rw[br]at hd;by_cases Nu:x=y
  ·subst Nu;refine⟨(aw (x:Int),v,e.2.2)::es,by simp[aD],by rw[br,br,hy],⟨_,gN ..⟩,λe' vW ed=>?_⟩;rcases List.mem_cons.1 vW with rfl|vW
   ·exact(ed hy).elim
   ·exact cV _ vW
  ·have xu:∃e∈es,e.1=aw (x:Int):=by
    obtain⟨e',vW,h1⟩:=hx;rcases List.mem_cons.1 vW with rfl|vW
    ·rw[hy]at h1;injection h1 with _ h1
     exact(Nu (qE h1).symm).elim
    ·exact⟨e',vW,h1⟩
   obtain⟨ig,h5,h6,⟨b,h7⟩,h8⟩:=Py (v:=v) (ck:=ck) (List.nodup_cons.1 hd).2 (λe he=>hk e (cV _ he)) xu;refine⟨e::ig,?_,by rw[br,br,h6],⟨b,cV _ h7⟩,λe' vW ed=>?_⟩
   ·show aD (decide ((x:Int)=(y:Int))) _ _=_;rw[az (by omega),de,h5,cg]
   ·rcases List.mem_cons.1 vW with rfl|vW
    ·exact gN ..
    ·exact cV _ (h8 _ vW ed)
def xt (f:Nat->Nat) (x:Nat):Nat->Nat:= λy=>if y=x then f x+1 else f y
def kq.put {f:Nat->Nat} (hg:Good s) (h:kq s r f) (x:Nat):∃b,iF prog 73 s (.map (some r)) (aw (x:Int)) (aw ((f x+1:Nat):Int))=some (.tuple #[],s.wr r (some b))∧kq (s.wr r (some b)) r (xt f x)∧(∃es ck,b= .map 3 es ck):=by
 obtain⟨es,ck,h1,h2⟩:=h;have hr:=h1.lt hg;by_cases hx:f x=0
 ·refine⟨.map 3 ((aw (x:Int),aw ((f x+1:Nat):Int),ck+1)::es) (ck+1),BX hg h1 zG (og _) (h2.ZX hx),⟨_,_,cy.set hg hr 3 _ _,?_,?_,?_⟩,_,_,rfl⟩
  ·rw[br];refine List.nodup_cons.2 ⟨λhm=>?_,h2.nodup⟩;obtain⟨e,he,h3⟩:=List.mem_map.1 hm;obtain⟨y,h4,h5⟩:=h2.keys e he;rw[h4]at h3;injection h3 with _ h3
   exact h5 (by rw[qE h3];exact hx)
  ·intro e he;rcases List.mem_cons.1 he with rfl|he
   ·exact⟨x,rfl,by unfold xt;rw[aU rfl];omega⟩
   ·obtain⟨y,h4,h5⟩:=h2.keys e he;refine⟨y,h4,?_⟩;unfold xt;split
    ·omega
    ·exact h5
  ·intro y hy;by_cases Vd:y=x
   ·subst Vd;exact⟨ck+1,by unfold xt;rw[aU rfl];exact gN ..⟩
   ·have he:xt f x y=f y:=by unfold xt;rw[aC Vd]
    rw[he]at hy⊢;obtain⟨b,hb⟩:=h2.ua y hy;exact⟨b,cV _ hb⟩
 ·obtain⟨b,hb⟩:=h2.uC hx;obtain⟨b0,Vj⟩:=h2.ua x hx;obtain⟨ig,h5,h6,⟨b7,h7⟩,h8⟩:=Py (x:=x) (v:=aw ((f x+1:Nat):Int)) (ck:=Nat.succ ck) h2.nodup (λe he=>by obtain⟨y,hy,_⟩:=h2.keys e he;exact⟨y,hy⟩) ⟨_,Vj,rfl⟩;refine⟨.map 3 ig ck,?_,⟨ig,ck,cy.set hg hr 3 _ _,?_,?_,?_⟩,_,_,rfl⟩
  ·show ob (keyOf prog 73) _=_;rw[zG,cg];show aD (eB prog 3 (aw (x:Int))) _ none=_;rw[og,aS];unfold cy at h1;show mapOf (s.h.get r) _=_;rw[h1];show aD (Nat.beq 3 3) (ob (jj (.int .i64 (x:Int)) es) λo=>match o with
     |some _=>ob (qW (aw (x:Int)) (aw ((f x+1:Nat):Int)) (Nat.succ ck) es) λig=>ob (s.set r (some (.map 3 ig ck))) λs'=>some (Value.tuple #[],s')
     |none=>cG (Nat.succ ck) λmT=>ob (s.set r (some (.map 3 ((aw (x:Int),aw ((f x+1:Nat):Int),mT)::es) mT))) λs'=>some (Value.tuple #[],s')) none=_
   rw[hb];show ob (qW (aw (x:Int)) (aw ((f x+1:Nat):Int)) (Nat.succ ck) es) (λig=>ob (s.set r (some (.map 3 ig ck))) λs'=>some (Value.tuple #[],s'))=_;rw[h5,cg,qs hg hr];rfl
  ·rw[h6];exact h2.nodup
  ·intro e he;have hm:e.1∈es.map (·.1):=by rw[<-h6];exact List.mem_map.2 ⟨e,he,rfl⟩
   obtain⟨e',vW,h9⟩:=List.mem_map.1 hm;obtain⟨y,Be,h11⟩:=h2.keys e' vW;refine⟨y,by rw[<-h9,Be],?_⟩;unfold xt;split
   ·omega
   ·exact h11
  ·intro y hy;by_cases Vd:y=x
   ·subst Vd;exact⟨b7,by unfold xt;rw[aU rfl];exact h7⟩
   ·have he:xt f x y=f y:=by unfold xt;rw[aC Vd]
    rw[he]at hy⊢;obtain⟨b,hb⟩:=h2.ua y hy;refine⟨b,h8 _ hb λe=>?_⟩;injection e with _ e
    exact Vd (qE e)
def kq.eq {s s':AS} {r:Nat} {f:Nat->Nat} (h:kq s r f) (he:s'.h.get r=s.h.get r):kq s' r f:=by obtain⟨es,ck,h1,h2⟩:=h;exact⟨es,ck,h1.eq he,h2⟩
def kq.lt {s:AS} {r:Nat} {f:Nat->Nat} (h:kq s r f) (hg:Good s):r<s.nx:=by obtain⟨es,ck,h1,h2⟩:=h;exact h1.lt hg
def kq.new (hg:Good s):kq (s.add (.map 3 [] 0)) s.nx λ_=>0:=⟨[],0,by unfold cy;rw[gF hg,aU rfl],Jn,by simp,λx h=>(h rfl).elim⟩
section
def Uf:kept 8389615 9=true:=by kernel_rfl
def TyO:eX->Prop
 | .cells _ _ _ _ et=>et=38
 | .loop .. =>True
 |_=>False
def K5 (s s':AS):Prop:=∀q c sz n ro,s.h.get q=some (.cells c sz n ro 4096)->s'.h.get q=some (.cells c sz n ro 4096)
def K5.trans {j9:AS} (h:K5 s s') (h':K5 s' j9):K5 s j9:= λq c sz n ro hq=>h' q c sz n ro (h q c sz n ro hq)
def eu.k5 {T:eX->Prop} (h:eu T s s') (ht:∀c sz n ro,¬T (.cells c sz n ro 4096)):K5 s s':= λq c sz n ro hq=>h.eb _ _ hq (ht c sz n ro)
def Grown.k5 {s s':AS} (h:Grown s.nx s s') (hg:Good s):K5 s s':=(h.an (T:= λ_=>False) hg).k5 λ_ _ _ _ h=>h
structure OnH (k lp:Nat) (tr:Bool) (OK:AS->Cx->Prop) (Ax:Cx->Nat->Nat->Prop) (ext:AS->Cx->AS->Cx->Prop) (Dr:Nat->AS->Cx->Prop):Prop where
 bt:∀ {s C},OK s C->Good s
 grown:∀ {s C s'},OK s C->Grown s.nx s s'->OK s' C∧ext s C s' C
 k5:∀ {s C s' C'},ext s C s' C'->K5 s s'
 Oc:∀ {s C s' C' j y},ext s C s' C'->Ax C j y->Ax C' j y
 U0:∀ {s C} (els:List LVal),OK s C->Dr s.nx (s.row 3 1 els) C
 GB:∀ {s C s' C' b},Dr b s C->ext s C s' C'->Dr b s' C'
 frame:∀ {s C s'} {o:Option Nat},OK s C->Good s'->s.nx<=s'.nx->(∀b,o=some b->Dr b s C∧∃c sz n ro,s.h.get b=some (.cells c sz n ro 3))->(∀q b,s.h.get q=some b->¬TyO b->some q≠o->(∀es ck,b≠.map 3 es ck)->s'.h.get q=some b)->(∀q es ck,s.h.get q=some (.map 3 es ck)->iA es->∃ig mT,s'.h.get q=some (.map 3 ig mT)∧iA ig)->OK s' C∧ext s C s' C
 kind:∀ {s C j y},OK s C->j<20->Ax C j y->∃kd:Nat,cp (aE k (dJ 9) [a8 lp,aw ((y:Nat):Int)] s) (λr s'=>r=aw (kd:Int)∧Grown s.nx s s')∧(tr=true->kd=0)∧(tr=false->j<16->kd≠0)
 new:∀ {C i j y},i<16->j<16->Ax C i y->Ax C j y->tr=false->i=j
def Aj (M:TM 29) (st:LoopState):eX:= .loop st none 29 29 8389615 M.t [9] BZ B0
def kq.ints {f:Nat->Nat} (h:kq s r f):∃es ck,s.h.get r=some (.map 3 es ck)∧iA es:=by obtain⟨es,ck,h1,h2⟩:=h;exact⟨es,ck,h1,λx hx=>by obtain⟨y,hy,_⟩:=h2.keys x hx;exact⟨_,hy⟩⟩
def MG (hr:∀es ck,s.h.get r=some (.map 3 es ck)->∃ig mT,s'.h.get r=some (.map 3 ig mT)∧iA ig) (h:∀q es ck,s.h.get q=some (.map 3 es ck)->q≠r->s'.h.get q=s.h.get q):∀q es ck,s.h.get q=some (.map 3 es ck)->iA es->∃ig mT,s'.h.get q=some (.map 3 ig mT)∧iA ig:= λq es ck hq hi=>by
 by_cases e:q=r
 ·subst e;exact hr _ _ hq
 ·exact⟨es,ck,by rw[h q es ck hq e];exact hq,hi⟩
def zA (h:∀q es ck,s.h.get q=some (.map 3 es ck)->s'.h.get q=s.h.get q):∀q es ck,s.h.get q=some (.map 3 es ck)->iA es->∃ig mT,s'.h.get q=some (.map 3 ig mT)∧iA ig:= λq es ck hq hi=>⟨es,ck,by rw[h q es ck hq];exact hq,hi⟩
structure aah (tr:Bool) (Ax:Cx->Nat->Nat->Prop) (C:Cx) (j:Nat) (f:Nat->Nat) (R:List Nat):Prop where
 le:R.length<=j
 yL:∀x,f x<=j
 tru:tr=true->R= []
 Iv:tr=false->R.length<16->R.length=j
 ax:tr=false->∀i (h:i<R.length),i<16->Ax C i R[i]
 seen:tr=false->j<16->∀x,f x≠0->x∈R
structure OnY (tr:Bool) (Ax:Cx->Nat->Nat->Prop) (Dr:Nat->AS->Cx->Prop) (s0:AS) (M:TM 29) (lp r B:Nat) (j:Nat) (o:Option Nat) (s:AS) (C:Cx):Prop where
 vl:ay s B 24 [a8 lp]
 vm:ay s (B+1) 73 [.map (some r)]
 yL:∃f w R,kq s r f∧ay s (B+2) 38 [w]∧Own (B+4) s 3 1 w (ints R) o∧aah tr Ax C j f R
 loop:s.h.get (B+3)=some (Aj M .ready)
 rB:r<B
 nx:B+4<=s.nx
 dr:∀b,o=some b->Dr b s C∧b<s.nx
 k5:K5 s0 s
variable {k lp r B:Nat} {tr:Bool} {OK:AS->Cx->Prop} {Ax:Cx->Nat->Nat->Prop} {ext:AS->Cx->AS->Cx->Prop} {Dr:Nat->AS->Cx->Prop} {M:TM 29}
def aah.Oc {C C':Cx} {f:Nat->Nat} {R:List Nat} (h:aah tr Ax C j f R) (hm:∀j y,Ax C j y->Ax C' j y):aah tr Ax C' j f R:=
 ⟨h.le,h.yL,h.tru,h.Iv,λht i hi Dt=>hm _ _ (h.ax ht i hi Dt),h.seen⟩
def L4 (h:t≠118∧t≠125∧t≠64∧t≠79):¬oO (ca t vs):=RD h
def ai9 (H:OnH k lp tr OK Ax ext Dr) {C C':Cx} (h:OnY tr Ax Dr s0 M lp r B j o s C) (hx:ext s C s' C') (hk:eu oO s s'):OnY tr Ax Dr s0 M lp r B j o s' C':=by
 obtain⟨f,w,R,⟨es,ck,h1,h2⟩,h3,h4,h5⟩:=h.yL;refine⟨h.vl.an hk (L4 (by decide)),h.vm.an hk (L4 (by decide)),⟨f,w,R,⟨es,ck,h1.an hk ?_,h2⟩,h3.an hk (L4 (by decide)),h4.an hk λ_ _ _=>RD (by decide),h5.Oc λ_ _=>H.Oc hx⟩,hk.eb _ _ h.loop ?_,h.rB,di h.nx hk.nx,λb hb=>⟨H.GB (h.dr b hb).1 hx,bC (h.dr b hb).2 hk.nx⟩,h.k5.trans (H.k5 hx)⟩
 ·rintro(h|h)<;>cases h
 ·rintro(h|h)<;>exact h
def Own.Ez {w:Value} (h:Own n s 3 1 w R o):(cW s w=s∨∃b,o=some b∧cW s w=s.wr b none)∧∀b,o=some b->n<=b:=by
 cases h with
 |nil=>exact⟨.inl rfl,λb hb=>by cases hb⟩
 |ex hb h=>exact⟨.inl (aU (cR _).2),λb h=>by cases h;exact hb⟩
 |lb hb h=>exact⟨.inr ⟨_,rfl,aC (by rw[(j1 _ 1 (by decide)).2.1];decide)⟩,λb h=>by cases h;exact hb⟩
def aja (H:OnH k lp tr OK Ax ext Dr) {C:Cx} (h:OnY tr Ax Dr s0 M lp r B j o s C) (hg:Good s) (hb:b<s.nx) (hbo:some b≠o) (hc:∃c sz n ro,s.h.get b=some (.cells c sz n ro 3)) (hx:ext s C (s.wr b none) C):OnY tr Ax Dr s0 M lp r B j o (s.wr b none) C:=by
 obtain⟨f,w,R,h1,h3,h4,h5⟩:=h.yL;obtain⟨c,sz,n,ro,hc⟩:=hc;have hq:∀q bk,s.h.get q=some bk->(∀c sz n ro,bk≠.cells c sz n ro 3)->(s.wr b none).h.get q=s.h.get q:= λq bk hq ed=>by rw[cj hg hb,aC];intro e;subst e;rw[hc]at hq;cases hq;exact ed _ _ _ _ rfl
 refine⟨h.vl.eq (hq _ _ h.vl λ_ _ _ _ e=>by cases e),h.vm.eq (hq _ _ h.vm λ_ _ _ _ e=>by cases e),⟨f,w,R,h1.eq ?_,h3.eq (hq _ _ h3 λ_ _ _ _ e=>by cases e),h4.ext hg λq _ b' iR LF=>?_,h5⟩,by rw[hq _ _ h.loop λ_ _ _ _ e=>by cases e];exact h.loop,h.rB,h.nx,λb hb=>⟨H.GB (h.dr b hb).1 hx,(h.dr b hb).2⟩,h.k5.trans (H.k5 hx)⟩
 ·obtain⟨es,ck,h1,_⟩:=h1;exact hq _ _ h1 λ_ _ _ _ e=>by cases e
 ·subst LF;rw[cj hg hb,aC (λe=>hbo (by rw[iR,e]))]
def aEc (H:OnH k lp tr OK Ax ext Dr) (t3:M.get 3=some (a8 B)) (t5:M.get 5=some (a8 (B+1))) (t6:M.get 6=some (a8 (B+2))) {C:Cx} {y:Nat} (h:OnY tr Ax Dr s0 M lp r B j o s C) (eH:OK s C) (hj:j<20) (ha:Ax C j y):
  cp (aE (k+1) (.func (.yield (B+3)) #[] #[]) [aw ((y:Nat):Int)] s) (λv s'=>v= .bool true∧∃o',OnY tr Ax Dr s0 M lp r B (j+1) o' s' C∧OK s' C∧ext s C s' C∧s.nx<=s'.nx∧(∀q c sz n ro,s.h.get q=some (.cells c sz n ro 3)->some q≠o->s'.h.get q=s.h.get q)∧(o'=o∨∃b,o'=some b∧s.nx<=b)):=by
 have hg:=H.bt eH;obtain⟨f,w,R,apc,hw,lN,hrel⟩:=h.yL;have IT:=h.nx;have hrB:=h.rB;have N6:=lN.Ez.2;have hfy:=hrel.yL y;have hle:=hrel.le;obtain⟨sb,JR⟩:=dO (s.wr (B+3) (some (Aj M .busy)));have Bd:Good sb:=by rw[JR];exact bZ hg (by omega) _
 have nb:sb.nx=s.nx:=by rw[JR];rfl
 have qb:∀q,q≠B+3->sb.h.get q=s.h.get q:= λq hq=>by rw[JR,cj hg (by omega),aC hq]
 have lb:sb.h.get (B+3)=some (Aj M .busy):=by rw[JR,cj hg (by omega),aU rfl]
 have cb:=apc.eq (qb r (by omega));obtain⟨mb,af6,cm,ig,mT,hmb⟩:=cb.put Bd y;obtain⟨sm,N9⟩:=dO (sb.wr r (some mb));rw[<-N9]at af6 cm;have hgm:Good sm:=by rw[N9];exact bZ Bd (by omega) _
 have nm:sm.nx=s.nx:=by rw[N9,rz,nb]
 have qm:∀q,q≠B+3->q≠r->sm.h.get q=s.h.get q:= λq h1 h2=>by rw[N9,cj Bd (by omega),aC h2,qb q h1]
 have lm:sm.h.get (B+3)=some (Aj M .busy):=by rw[N9,cj Bd (by omega),aC (by omega),lb]
 have lrO:∀b,s.h.get r=some b->¬ ∀es ck,b≠.map 3 es ck:= λb hb ed=>by obtain⟨es,ck,h1,_⟩:=apc;unfold cy at h1;rw[h1]at hb;cases hb;exact ed _ _ rfl
 have l3M:∀es ck,s.h.get (B+3)≠some (.map 3 es ck):= λes ck e=>by rw[h.loop]at e;cases e
 have l2M:∀es ck,s.h.get (B+2)≠some (.map 3 es ck):= λes ck e=>by have xb:=hw;unfold ay at xb;rw[xb]at e;cases e
 have loM:∀q es ck,some q=o->s.h.get q≠some (.map 3 es ck):= λq es ck e hq=>by subst e;obtain⟨c,m,hc⟩:=lN.jI;rw[hc]at hq;cases hq
 have l3O:∀b,s.h.get (B+3)=some b->TyO b:= λb hb=>by rw[h.loop]at hb;cases hb;trivial
 obtain⟨okm,-⟩:=H.frame (o:=none) eH hgm (by omega) (λb hb=>by cases hb) (λq b hq hO _ hM=>by rw[qm q (λe=>hO (l3O b (by rw[<-e];exact hq))) (λe=>lrO b (by rw[<-e];exact hq) hM)];exact hq) (MG (r:=r) (λ_ _ _=>cm.ints) λq es ck hq hqr=>qm q (λe=>l3M es ck (by rw[<-e];exact hq)) hqr)
 have ldm:=(h.vm.eq (qb (B+1) (by omega))).ld K6 (o:=0) (by simp);have agd:=(h.vm.eq (qm (B+1) (by omega) (by omega))).ld K6 (o:=0) (by simp);have ldl:=(h.vl.eq (qm B (by omega) (by omega))).ld cT (o:=0) (by simp);simp only[ae]at ldm agd ldl;have lk:=cb.look y;have lk2:=cm.look y;have gP:xt f y y=f y+1:=aU rfl;rw[gP]at lk2;have axm:Ax C j y:=ha;obtain⟨kd,⟨_,sk,ek,rfl,Rf⟩,vt,uA⟩:=H.kind okm hj axm;have ek:jH prog cC ga k (dJ 9) [a8 lp,aw (y:Int)] sm= .val (aw (kd:Int)) sk:=ek;have Zr:=Rf.bt;have nk:=Rf.nx;have w1:IntKind.i64.wrap ((f y:Int)+1)=((f y+1:Nat):Int):=by rw[wrap_i64 (by omega)];omega
 have abo:∀x,xt f y x<=j+1:= λx=>by have:=hrel.yL x;unfold xt;split<;>omega
 have hlb:∀st,(eX.loop st none 29 29 8389615 M.t [9] BZ B0)=Aj M st:= λst=>rfl;have ayk:∀b,o=some b->Dr b s C∧∃c sz n ro,s.h.get b=some (.cells c sz n ro 3):= λb hb=>⟨(h.dr b hb).1,by subst hb;obtain⟨c,m,hc⟩:=lN.jI;exact⟨_,_,_,_,hc⟩⟩
 have fin:∀(s4:AS) (o':Option Nat) (w':Value) (R':List Nat),Good s4->s.nx<=s4.nx->(∀q,q≠B+3->q≠r->q≠B+2->q<s.nx->some q≠o->s4.h.get q=s.h.get q)->s4.h.get (B+3)=some (Aj M .busy)->kq s4 r (xt f y)->ay s4 (B+2) 38 [w']->Own (B+4) s4 3 1 w' (ints R') o'->aah tr Ax C (j+1) (xt f y) R'->(o'=o∨∃b,o'=some b∧s.nx<=b∧b<s4.nx∧Dr b s4 C∧OK s4 C)->an2 (n:=29) (B+3) 29 29 8389615 M.t [9] BZ B0 (λv s'=>v= .bool true∧∃o',OnY tr Ax Dr s0 M lp r B (j+1) o' s' C∧OK s' C∧ext s C s' C∧s.nx<=s'.nx∧(∀q c sz n ro,s.h.get q=some (.cells c sz n ro 3)->some q≠o->s'.h.get q=s.h.get q)∧(o'=o∨∃b,o'=some b∧s.nx<=b)) .normal M s4:=by
  intro s4 o' w' R' iI n4 q4 l4 c4 v4 ow4 aLw sU;refine⟨iI,by omega,.busy,none,by rw[l4];rfl,?_⟩;show _∧_;rw[hlb];have jm:Good (s4.wr (B+3) (some (Aj M .ready))):=bZ iI (by omega) _;have q5:∀q,q≠B+3->(s4.wr (B+3) (some (Aj M .ready))).h.get q=s4.h.get q:= λq hq=>by rw[cj iI (by omega),aC hq]
  have hf:∀q b,s.h.get q=some b->¬TyO b->some q≠o->(∀es ck,b≠.map 3 es ck)->(s4.wr (B+3) (some (Aj M .ready))).h.get q=some b:= λq b hq hO hqo hM=>by
   have hqn:q<s.nx:=iV λhc=>by rw[hg.none q (by omega)]at hq;cases hq
   have h3:q≠B+3:= λe=>hO (l3O b (by rw[<-e];exact hq));have h1:q≠r:= λe=>lrO b (by rw[<-e];exact hq) hM;have h2:q≠B+2:= λe=>hO (by subst e;have xb:=hw;unfold ay at xb;rw[xb]at hq;cases hq;rfl)
   rw[q5 q h3,q4 q h3 h1 h2 hqn hqo];exact hq
  obtain⟨Zq,x5⟩:=H.frame eH jm (show s.nx<=s4.nx from n4) ayk hf (MG (r:=r) (λ_ _ _=>(c4.eq (q5 r (by omega))).ints) λq es ck hq hqr=>by
   have hqn:q<s.nx:=iV λhc=>by rw[hg.none q (by omega)]at hq;cases hq
   have h3:q≠B+3:= λe=>l3M es ck (by rw[<-e];exact hq);rw[q5 q h3,q4 q h3 hqr (λe=>l2M es ck (by rw[<-e];exact hq)) hqn λe=>loM q es ck e hq])
  have v4':ay (s4.wr (B+3) (some (Aj M .ready))) B 24 [a8 lp]:=by refine h.vl.eq ?_;rw[q5 _ (by omega),q4 _ (by omega) (by omega) (by omega) (by omega) (λe=>by have:=N6 _ e.symm;omega)]
  have v5':ay (s4.wr (B+3) (some (Aj M .ready))) (B+1) 73 [.map (some r)]:=by refine h.vm.eq ?_;rw[q5 _ (by omega),q4 _ (by omega) (by omega) (by omega) (by omega) (λe=>by have:=N6 _ e.symm;omega)]
  refine⟨rfl,o',⟨v4',v5',⟨xt f y,w',R',c4.eq (q5 r (by omega)),v4.eq (q5 _ (by omega)),ow4.ext iI λq _ b hb LF=>?_,aLw⟩,?_,hrB,by rw[rz];omega,λb hb=>?_,h.k5.trans (H.k5 x5)⟩,Zq,x5,n4,λq c sz n ro hq hqo=>?_,?_⟩
  ·subst LF;have:=ow4.Ez.2 _ hb;exact q5 _ (by omega)
  ·rw[cj iI (by omega),aU rfl]
  ·rcases sU with rfl|⟨b',rfl,qR,wV,hb3,hb4⟩
   ·exact⟨H.GB (h.dr b hb).1 x5,by rw[rz];have:=(h.dr b hb).2;omega⟩
   ·cases hb;refine⟨H.GB hb3 (H.frame (o:=none) hb4 jm (af _) (λb hb=>by cases hb) (λq b hq hO _ _=>?_) (zA λq es ck hq=>q5 q λe=>by rw[e,l4]at hq;cases hq)).2,by rw[rz];exact wV⟩;rw[q5 q (λe=>by rw[e,l4]at hq;cases hq;exact hO trivial)];exact hq
  ·rw[hf q _ hq (by intro e;cases e) hqo (λ_ _ e=>by cases e),hq]
  ·rcases sU with rfl|⟨b',rfl,qR,_⟩
   ·exact .inl rfl
   ·exact .inr ⟨b',rfl,qR⟩
 refine DJ (X:=cC) (L:=ga) (k:=k) (m:=M) (m1:=M.set 9 (aw (y:Int))) (pend:=none) (by rw[h.loop];rfl) aid aie (yH Uf (by decide)) ?_;unfold alu als;apply ar;simp+decide only[ag];refine⟨hg,by omega,none,by rw[h.loop];rfl,?_⟩;rw[hlb,<-JR];unfold aly;refine bY (aT ?_);unfold alv;apply ar;simp+decide only[ag,t5,ldm,lk,w1,af6];apply aT;unfold alw;apply ar;by_cases hf0:f y=0
 ·have Xf:decide (((f y+1:Nat):Int)=1)=true:=aL (by omega);by_cases I8:kd=0
  ·have hd2:decide ((kd:Int)=0)=true:=aL (by omega);simp+decide only[ag,t3,t5,agd,lk2,Xf,ldl,ek,hd2];refine dD (by simp+decide only[ag]) ?_;simp+decide only[ag];refine fin sk o w R Zr (by omega) (λq h1 h2 _ h4 _=>by rw[Rf.eb q (by omega),qm q h1 h2]) (by rw[Rf.eb _ (by omega),lm]) (cm.eq (Rf.eb _ (by omega))) (hw.eq (by rw[Rf.eb _ (by omega),qm _ (by omega) (by omega)])) ?_ ⟨by omega,abo,hrel.tru,λht Dt=>?_,hrel.ax,λht Dt x hx=>?_⟩ (.inl rfl)
   ·refine lN.ext hg λq hq b hb LF=>?_;subst LF;have:=N6 q hb;rw[Rf.eb _ (by omega),qm _ (by omega) (by omega)]
   ·have hl:=hrel.Iv ht Dt;exact(uA ht (by omega) I8).elim
   ·exact(uA ht (by omega) I8).elim
  ·have hd2:decide ((kd:Int)=0)=false:=az (by omega);simp+decide only[ag,t3,t5,agd,lk2,Xf,ldl,ek,hd2];refine iP (by simp+decide only[ag]) ?_;have htr:tr=false:=by
    cases tr with
    |false=>rfl
    |true=>exact(I8 (vt rfl)).elim
   have hwk:ay sk (B+2) 38 [w]:=hw.eq (by rw[Rf.eb _ (by omega),qm _ (by omega) (by omega)]);have owk:Own (B+4) sk 3 1 w (ints R) o:=lN.ext hg λq hq b hb LF=>by subst LF;have:=N6 q hb;rw[Rf.eb _ (by omega),qm _ (by omega) (by omega)]
   have ldw:=hwk.ld rp (o:=0) (by simp);simp only[ae]at ldw;obtain⟨grr,slr⟩:=tP Zr [y];obtain⟨sr,hsr⟩:=dO (sk.row 3 1 (ints [y]));have hbr:bF prog 38 1 [0] sk [aw (y:Int)]=some (.slice (some ⟨sk.nx,0,none⟩) 1 (bH 1),sk.row 3 1 (ints [y])):=qt Zr fm fX rfl;rw[<-hsr]at grr slr hbr;have slr:Sl sr.nx sr 3 1 (.slice (some ⟨sk.nx,0,none⟩) 1 (bH 1)) (ints [y]):=slr;have fN:=grr.bt;have nr:sr.nx=sk.nx+1:=by rw[hsr];rfl
   have owr:Own (B+4) sr 3 1 w (ints R) o:=owk.ext Zr λq hq _ _ _=>grr.eb q hq;have oA:=ze owr slr fN (by decide) (by decide) (kN _) (kN _) (λl hl=>by simp[ints]at hl;subst hl;rfl) (by simp[ints];omega) (by simp[ints]);have hR:ints R++ints [y]=ints (R++ [y]):=by simp[ints]
   rw[hR]at oA;obtain⟨sd,hsd⟩:=dO (cW sr w);rw[<-hsd]at oA;obtain⟨Q6,nd,qd⟩:Good sd∧sd.nx=sr.nx∧∀q,some q≠o->sd.h.get q=sr.h.get q:=by
    rcases owr.Ez.1 with he|⟨b,hb,he⟩
    ·rw[hsd,he];exact⟨fN,rfl,λ_ _=>rfl⟩
    ·have Lt:=(h.dr b hb).2;rw[hsd,he];exact⟨bZ fN (by omega) _,rfl,λq hq=>by rw[cj fN (by omega),aC (λe=>hq (by rw[hb,e]))]⟩
   obtain⟨sn,hsn⟩:=dO (sd.row 3 1 (ints (R++ [y])));rw[<-hsn]at oA;have grn:Grown sd.nx sd sn:=by rw[hsn];exact(Grown.refl Q6 _).row (af _) _ _ _
   have hgn:=grn.bt;have nn:sn.nx=sr.nx+1:=by rw[hsn,tN,nd]
   have aLx:bE sn sr.nx 3 1 false (ints (R++ [y])):=by rw[hsn,<-nd];exact bE.new Q6 3 1 _
   have qK:∀q,q<B+4->some q≠o:= λq hq e=>by have:=N6 q e.symm;omega
   have qn:∀q,q<sr.nx->some q≠o->sn.h.get q=sr.h.get q:= λq h1 h2=>by rw[grn.eb q (by omega),qd q h2]
   have wn:ay sn (B+2) 38 [w]:=hwk.eq (by rw[qn _ (by omega) (qK _ (by omega)),grr.eb _ (by omega)]);obtain⟨w',xb⟩:=dO (Value.slice (some ⟨sr.nx,0,none⟩) (ints (R++ [y])).length (cq (ints (R++ [y])).length 1));rw[<-xb]at oA;have fU:=wn.Fu hgn (o:=0) (v:=w') (by simp) (by rw[xb];rfl) (by rw[xb];rfl);rw[dM]at fU;obtain⟨sv,Vo⟩:=dO (sn.wr (B+2) (some (ca 38 [w'])));rw[<-Vo]at fU;have hgv:Good sv:=by rw[Vo];exact bZ hgn (by omega) _
   have nv:sv.nx=sn.nx:=by rw[Vo];rfl
   have qv:∀q,q≠B+2->sv.h.get q=sn.h.get q:= λq hq=>by rw[Vo,cj hgn (by omega),aC hq]
   have vv:ay sv (B+2) 38 [w']:=by rw[Vo];exact ay.set hgn (by omega) 38 _
   unfold alx;apply ar;simp+decide only[ag,t6,ldw,hbr,oA,fU];have qq:∀q,q≠B+2->q<sk.nx->some q≠o->sv.h.get q=sk.h.get q:= λq h1 h2 h3=>by rw[qv q h1,qn q (by omega) h3,grr.eb q h2]
   refine fin sv (some sr.nx) w' (R++ [y]) hgv (by omega) (λq h1 h2 h3 h4 h5=>by rw[qq q h3 (by omega) h5,Rf.eb q (by omega),qm q h1 h2]) (by rw[qq _ (by omega) (by omega) (qK _ (by omega)),Rf.eb _ (by omega),lm]) (cm.eq (by rw[qq _ (by omega) (by omega) (qK _ (by omega)),Rf.eb _ (by omega)])) vv ?_ ⟨by simp;omega,abo,(λht=>by rw[htr]at ht;cases ht),λht Dt=>?_,λht i hi Dt=>?_,λht Dt x hx=>?_⟩ (.inr ⟨sr.nx,rfl,by omega,by omega,?_⟩)
   ·rw[xb];exact .lb (by omega) (aLx.ext (qv _ (by omega)))
   ·simp at Dt⊢;exact hrel.Iv ht (by omega)
   ·by_cases hiR:i<R.length
    ·rw[eO hiR];exact hrel.ax ht i hiR Dt
    ·have:i=R.length:=by simp at hi;omega
     subst this;rw[pP (af _)];simp only[Fk,ae];rw[hrel.Iv ht Dt];exact ha
   ·by_cases Nu:x=y
    ·simp[Nu]
    ·unfold xt at hx;rw[aC Nu]at hx;exact List.mem_append_left _ (hrel.seen ht (by omega) x hx)
   ·obtain⟨okd,-⟩:=H.frame (s':=sd) (o:=o) eH Q6 (by omega) ayk (λq b hq hO hqo hM=>by
     have hqn:q<s.nx:=iV λhc=>by rw[hg.none q (by omega)]at hq;cases hq
     rw[qd q hqo,grr.eb q (by omega),Rf.eb q (by omega),qm q (λe=>hO (l3O b (by rw[<-e];exact hq))) (λe=>lrO b (by rw[<-e];exact hq) hM)];exact hq) (MG (r:=r) (λ_ _ _=>((cm.eq (Rf.eb r (by omega))).eq (grr.eb r (by omega))|>.eq (qd r (qK r (by omega)))).ints) λq es ck hq hqr=>by
     have hqn:q<s.nx:=iV λhc=>by rw[hg.none q (by omega)]at hq;cases hq
     rw[qd q (λe=>loM q es ck e hq),grr.eb q (by omega),Rf.eb q (by omega),qm q (λe=>l3M es ck (by rw[<-e];exact hq)) hqr])
    have drn:=H.U0 (ints (R++ [y])) okd;rw[<-hsn,nd]at drn;obtain⟨okn,-⟩:=H.grown okd grn;obtain⟨okv,xv⟩:=H.frame (s':=sv) (o:=none) okn hgv (by omega) (λb hb=>by cases hb) (λq b hq hO _ _=>by
     rw[qv q (λe=>hO (by rw[e]at hq;have wn':=wn;unfold ay at wn';rw[wn']at hq;cases hq;rfl))];exact hq) (zA λq es ck hq=>qv q λe=>by
     rw[e]at hq;have wn':=wn;unfold ay at wn';rw[wn']at hq;cases hq)
    exact⟨H.GB drn xv,okv⟩
 ·have Xf:decide (((f y+1:Nat):Int)=1)=false:=az (by omega);simp+decide only[ag,t3,t5,agd,lk2,Xf];refine dD (by simp+decide only[ag]) ?_;simp+decide only[ag];refine fin sm o w R hgm (by omega) (λq h1 h2 _ h4 _=>qm q h1 h2) lm cm (hw.eq (qm _ (by omega) (by omega))) ?_ ⟨by omega,abo,hrel.tru,λht Dt=>?_,hrel.ax,λht Dt x hx=>?_⟩ (.inl rfl)
  ·refine lN.ext hg λq hq b hb LF=>?_;subst LF;have:=N6 q hb;exact qm _ (by omega) (by omega)
  ·have hl:=hrel.Iv ht Dt;have hy:=hrel.seen ht (by omega) y hf0;obtain⟨i,hi,he⟩:=fE hy;have:=H.new (j:=j) (by omega) (by omega) (hrel.ax ht i hi (by omega)) (by rw[he];exact ha) ht;omega
  ·have hl:=hrel.Iv ht (by omega);have hy:=hrel.seen ht (by omega) y hf0;obtain⟨i,hi,he⟩:=fE hy;have:=H.new (j:=j) (by omega) (by omega) (hrel.ax ht i hi (by omega)) (by rw[he];exact ha) ht;omega
end
section
def Qu (a b:Array Value):mO prog (.func (.func 76) a b)=true:=by
 have h:∃c,Tryz.f76.body=some c:=⟨_,rfl⟩
 obtain⟨c,hc⟩:=h;show(match prog.funcs[76]? with|some fn=>(match fn.body with|some _=>true|none=>false)|none=>false)=true;rw[func76];show(match Tryz.f76.body with|some _=>true|none=>false)=true;rw[hc]
def RF (b3 b4 b5 b8 b9 fh:Nat):Value:= .func (.func 76) ⟨[]⟩ ⟨[a8 b3,a8 b8,a8 b9,a8 fh,a8 b5,a8 b4]⟩
variable {k lp t r b3 b4 b5 b7 b8 b9 fh:Nat} {tr:Bool} {OK:AS->Cx->Prop} {Jj:Cx->List Nat->Prop} {p6 kX:Cx->Nat->Nat->Prop} {sw CY:Cx->Nat->Prop} {Ax:Cx->Nat->Nat->Prop} {ext:AS->Cx->AS->Cx->Prop} {Dr:Nat->AS->Cx->Prop}
def Own.ayl {w:Value} (h:Own n s 3 1 w R o):w.cells= #[w]∧dZ w=true:=by cases h<;>exact⟨rfl,rfl⟩
def ajb (H:OnH k lp tr OK Ax ext Dr) (HA:Ob (k+1) lp t b3 b4 b5 b7 b8 b9 fh OK Jj p6 kX sw CY Ax ext Dr) {C:Cx} (eH:OK s C) (hc:kq s r λ_=>0) (hz:C.sz<=48):
  cp (aE (k+3) (dJ 29) [a8 lp,RF b3 b4 b5 b8 b9 fh,.map (some r)] s) (λv s'=>∃C' R,OK s' C'∧C'.sz<=150∧K5 s s'∧Sl s'.nx s' 3 1 v (ints R)∧(tr=true->R= [])∧(tr=false->16<=R.length∧∀i (h:i<R.length),i<16->Ax C' i R[i])):=by
 have hg:=H.bt eH;rw[aKh];refine bG (by simp) λm hm=>?_;have h0:m.get 0=some (a8 lp):=by rw[hm];rfl
 have h1:m.get 1=some (RF b3 b4 b5 b8 b9 fh):=by rw[hm];rfl
 have h2:m.get 2=some (.map (some r)):=by rw[hm];rfl
 clear hm;have yN:=hc.lt hg;obtain⟨s1,dm⟩:=dO (s.add (ca 24 [a8 lp]));have dv:=cz dm hg;have n1:s1.nx=s.nx+1:=by rw[dm];rfl
 have v1:=jS dm hg;have fV:=cM dm hg;obtain⟨s2,ee⟩:=dO (s1.add (ca 73 [.map (some r)]));have dI:=cz ee dv;have n2:s2.nx=s.nx+2:=by rw[ee,ep,n1]
 have v2:ay s2 (s.nx+1) 73 [.map (some r)]:=by rw[ee,<-n1];exact ay.new dv 73 _
 have iE:=cM ee dv;obtain⟨s3,gy⟩:=dO (s2.add (ca 38 [.slice none 0 0]));have gQ:=cz gy dI;have n3:s3.nx=s.nx+3:=by rw[gy,ep,n2]
 have v3:ay s3 (s.nx+2) 38 [.slice none 0 0]:=by rw[gy,<-n2];exact ay.new dI 38 _
 have iZ:=cM gy dI;have qR:ia 24 s (a8 lp)=some (a8 s.nx,s1):=by rw[ez hg,dm];rfl
 have wV:ia 73 s1 (.map (some r))=some (a8 (s.nx+1),s2):=by rw[ez dv,ee,n1];rfl
 have hb3:∀lo tm,tB 38 [.slice none 0 0] lo tm s2=some (a8 (s.nx+2),s3):= λlo tm=>by rw[gy,<-n2];exact iH dI _ _
 unfold c29;apply aT;unfold alq;apply ar;simp+decide only[ag,h0,h2,qR,wV,hb3];apply dh;unfold alr;apply ar;simp+decide only[ag,h1];obtain⟨M,hM⟩:∃M,M=(((m.set 3 (a8 s.nx)).set 5 (a8 (s.nx+1))).set 6 (a8 (s.nx+2))).set 8 (RF b3 b4 b5 b8 b9 fh):=⟨_,rfl⟩
 have M3:M.get 3=some (a8 s.nx):=by rw[hM];simp+decide only[ag]
 have M5:M.get 5=some (a8 (s.nx+1)):=by rw[hM];simp+decide only[ag]
 have M6:M.get 6=some (a8 (s.nx+2)):=by rw[hM];simp+decide only[ag]
 have M8:M.get 8=some (RF b3 b4 b5 b8 b9 fh):=by rw[hM];simp+decide only[ag]
 rw[<-hM];clear hM;obtain⟨s4,jW⟩:=dO (s3.add (Aj M .ready));have n4:s4.nx=s.nx+4:=by rw[jW,ep,n3]
 have nI:=cM jW gQ;have l4:s4.h.get (s.nx+3)=some (Aj M .ready):=by rw[jW,gF gQ,n3,aU rfl]
 have aai:=iZ.trans (nI.le iZ.nx);have WT:=iE.trans (aai.le iE.nx);have oC:Grown s.nx s s4:=fV.trans (WT.le fV.nx);obtain⟨ok4,-⟩:=H.grown eH oC;have Y:YiH (k+1) (.func (.yield (s.nx+3)) #[] #[]) OK Ax ext (OnY tr Ax Dr s M lp r s.nx):=
  ⟨λh hx hk=>ai9 H h hx hk,λh hg hb hbo hc hx=>aja H h hg hb hbo hc hx,λh e=>(h.dr _ e).2,λh eH hj ha=>aEc H M3 M5 M6 h eH hj ha⟩
 have y4:OnY tr Ax Dr s M lp r s.nx 0 none s4 C:=by refine⟨v1.grown WT (by omega),v2.grown aai (by omega),⟨λ_=>0,.slice none 0 0,[],hc.eq (oC.eb _ yN),v3.grown nI (by omega),.nil,⟨af _,λ_=>af _,λ_=>rfl,λ_ _=>rfl,(λ_ i hi=>by cases hi),λ_ _ x h=>(h rfl).elim⟩⟩,l4,yN,by omega,(λb hb=>by cases hb),oC.k5 hg⟩
 obtain⟨_,s5,e5,rfl,C',o',Zq,y5,z5⟩:=ati HA Y ok4 y4 hz;refine bY (AV (fv:=RF b3 b4 b5 b8 b9 fh) gQ M8 (Qu _ _) ⟨.tuple #[],s5,?_,?_⟩)
 ·show aE (k+2) (.func (.func 76) ⟨[]⟩ _) _ _=_;rw[qw];rw[jW,<-n3]at e5;exact e5
 have jm:=H.bt Zq;have IT:=y5.nx;obtain⟨f,w,R,apc,hw,lN,hrel⟩:=y5.yL;refine⟨jm,by omega,.ready,none,by rw[n3,y5.loop];rfl,(λh=>by cases h),?_⟩;show yX 0 _ .normal M (s5.wr s3.nx (some (Aj M .exhausted)));rw[n3];obtain⟨s6,qj⟩:=dO (s5.wr (s.nx+3) (some (Aj M .exhausted)));rw[<-qj];have lZ:Good s6:=by rw[qj];exact bZ jm (by omega) _
 have n6:s6.nx=s5.nx:=by rw[qj];rfl
 have q6:∀q,q≠s.nx+3->s6.h.get q=s5.h.get q:= λq hq=>by rw[qj,cj jm (by omega),aC hq]
 have w6:ay s6 (s.nx+2) 38 [w]:=hw.eq (q6 _ (by omega));have ld6:=w6.ld rp (o:=0) (by simp);have LG:=w6.Fu lZ (o:=0) (v:=w) (by simp) lN.ayl.1 lN.ayl.2;rw[dM]at LG;simp only[ae]at ld6;obtain⟨s7,rF⟩:=dO (s6.wr (s.nx+2) (some (ca 38 [w])));rw[<-rF]at LG;have rX:Good s7:=by rw[rF];exact bZ lZ (by omega) _
 have n7:s7.nx=s6.nx:=by rw[rF];rfl
 have q7:∀q,q≠s.nx+2->s7.h.get q=s6.h.get q:= λq hq=>by rw[rF,cj lZ (by omega),aC hq]
 have v7:ay s7 (s.nx+2) 38 [w]:=by rw[rF];exact ay.set lZ (by omega) 38 _
 have ld7:=v7.ld rp (o:=0) (by simp);simp+decide only[ag];apply aT;unfold alz;apply ar;simp+decide only[ag,M6,ld6,LG];obtain⟨ok7,x7⟩:=H.frame (s':=s7) (o:=none) Zq rX (by omega) (λb hb=>by cases hb) (λq b hq hO _ _=>by
  rw[q7 q (λe=>hO (by
   rw[e]at hq;have xb:=hw;unfold ay at xb;rw[xb]at hq;cases hq;rfl)),q6 q (λe=>hO (by
   rw[e,y5.loop]at hq;cases hq;trivial))];exact hq) (zA λq es ck hq=>by
  rw[q7 q (λe=>by
   rw[e]at hq;have xb:=hw;unfold ay at xb;rw[xb]at hq;cases hq),q6 q (λe=>by
   rw[e,y5.loop]at hq;cases hq)])
 refine aR (tM (u:=a8 (s.nx+2)) (v:=w) (.inr rfl) (by simp+decide only[ag,M6]) ld7 ⟨C',R,ok7,z5,y5.k5.trans (H.k5 x7),?_,hrel.tru,λht=>⟨?_,λi hi Dt=>hrel.ax ht i hi Dt⟩⟩)
 ·have ow7:Own (s.nx+4) s7 3 1 w (ints R) o':=lN.ext jm λq hq b hb LF=>by
   subst LF;have:=lN.Ez.2 _ hb;rw[q7 _ (by omega),q6 _ (by omega)]
  exact ow7.sl rX (by decide)
 ·have:=hrel.Iv ht;omega
end
section
structure kL (Pt:List cx->Prop) (lp p t b3 b4 b5 b7 b8 b9 fh:Nat) (s:AS) (C:Cx):Prop where
 bt:Good s
 ls:LS s C.d C.σ C.φ
 fw:FW C.φ
 tf:TF C.φ
 LH:C.d.lp=lp
 pe:C.d.p=p
 pt:Pt C.σ
 v3:ay s b3 24 [a8 lp]
 v4:ay s b4 3 [aw (t:Int)]
 v5:ay s b5 4 [.bool true]
 v7:ay s b7 44 [a8 p]
 v8:ay s b8 120 [Ls b3 b4]
 v9:ay s b9 40 [Gj b3 b4]
 v10:ay s fh 56 [Gk b3 b4 b7]
def gD (s:AS) (C:Cx) (s':AS) (C':Cx):Prop:=s.nx<=s'.nx∧(∃τ,C'.φ=C.φ++τ∧∀e∈τ,GA s.nx e.kv)∧(∃ρ,C'.σ=C.σ++ρ)∧K5 s s'
def Iy (b4 b:Nat) (s:AS) (C:Cx):Prop:=b<s.nx∧b≠b4∧∀e∈C.φ,∀b' o m c,e.kv= .slice (some ⟨b',o,none⟩) m c->b'≠b
variable {Pt:List cx->Prop} {lp p t b3 b4 b5 b7 b8 b9 fh:Nat} {s s' j9:AS} {C C' C'':Cx}
def gD.refl (s:AS) (C:Cx) {s':AS} (h:s.nx<=s'.nx) (h5:K5 s s'):gD s C s' C:=⟨h,⟨[],by simp,by simp⟩,⟨[],by simp⟩,h5⟩
def gD.trans (h:gD s C s' C') (h':gD s' C' j9 C''):gD s C j9 C'':=by
 obtain⟨h1,⟨τ,h2,h3⟩,⟨ρ,h4⟩,h9⟩:=h;obtain⟨h5,⟨τ',h6,h7⟩,⟨ρ',h8⟩,Be⟩:=h';refine⟨di h1 h5,⟨τ++τ',by rw[h6,h2,ey],λe he=>?_⟩,⟨ρ++ρ',by rw[h8,h4,ey]⟩,h9.trans Be⟩;rcases List.mem_append.1 he with he|he
 ·exact h3 e he
 ·exactλb o m c hb=>di h1 (h7 e he b o m c hb)
def kL.grown (h:kL Pt lp p t b3 b4 b5 b7 b8 b9 fh s C) (hg:Grown s.nx s s'):kL Pt lp p t b3 b4 b5 b7 b8 b9 fh s' C∧gD s C s' C:=
 ⟨⟨hg.bt,h.ls.ext h.bt hg,h.fw,h.tf,h.LH,h.pe,h.pt,h.v3.grown hg (h.v3.lt h.bt),h.v4.grown hg (h.v4.lt h.bt),h.v5.grown hg (h.v5.lt h.bt),h.v7.grown hg (h.v7.lt h.bt),h.v8.grown hg (h.v8.lt h.bt),h.v9.grown hg (h.v9.lt h.bt),h.v10.grown hg (h.v10.lt h.bt)⟩,gD.refl _ _ hg.nx (hg.k5 h.bt)⟩
def kL.st (h:kL Pt lp p t b3 b4 b5 b7 b8 b9 fh s C) (hf:xy k s s' C.d C.σ C.φ d' fj):kL Pt lp p t b3 b4 b5 b7 b8 b9 fh s' ⟨d',C.σ,fj⟩∧gD s C s' ⟨d',C.σ,fj⟩∧eu oO s s':=by
 have kp:=hf.an;have nl:∀ {t:Nat} {vs:LVal},t≠64∧t≠79->¬RQ (ca t vs):= λh h'=>by
  rcases h' with h1|h1
  ·exact h.1 h1
  ·exact h.2 h1
 obtain⟨τ,h1,h2,h3⟩:=hf.pre;exact⟨⟨kp.bt,hf.ls,hf.fw,hf.tf h.tf,by rw[hf.same];exact h.LH,by rw[hf.same];exact h.pe,h.pt,h.v3.an kp (nl (by decide)),h.v4.an kp (nl (by decide)),h.v5.an kp (nl (by decide)),h.v7.an kp (nl (by decide)),h.v8.an kp (nl (by decide)),h.v9.an kp (nl (by decide)),h.v10.an kp (nl (by decide))⟩,⟨kp.nx,⟨τ,h1,h3⟩,⟨[],by simp⟩,kp.k5 λ_ _ _ _=>by rintro(h|h)<;>exact absurd h (by decide)⟩,kp.mono λb hb=> .inr hb⟩
def kL.put {kind:Nat} {id:Int} {l:List Nat} {text:ByteArray} {vc:LVal} (hPt:∀σ ρ,Pt σ->Pt (σ++ρ)) (h:kL Pt lp p t b3 b4 b5 b7 b8 b9 fh s C) (hp:Q5 s s' C.d.p C.d.q C.d.v C.σ kind id l text vc i):∃C',kL Pt lp p t b3 b4 b5 b7 b8 b9 fh s' C'∧gD s C s' C'∧eu oO s s'∧C'.φ=C.φ∧C'.σ.length<=C.σ.length+1∧∃hi:i<C'.σ.length,C'.σ[i].da=pj kind id l text:=by
 obtain⟨kp,v',Ds,h1,h2,h3⟩:=hp.out h.bt h.ls.ts;have nl:∀ {t:Nat} {vs:LVal},t≠118∧t≠125->¬TyT (ca t vs):= λh h'=>by
  rcases h' with h1|h1
  ·exact h.1 h1
  ·exact h.2 h1
 have hσ:∃ρ,Ds=C.σ++ρ∧ρ.length<=1:=by
  rcases h2 with h2|⟨z,b,h2⟩
  ·exact⟨[],by simp[h2],by simp⟩
  ·exact⟨_,h2,by simp⟩
 obtain⟨ρ,rE,aUJ⟩:=hσ;refine⟨⟨{C.d with v:=v'},Ds,C.φ⟩,⟨kp.bt,h.ls.al2 kp h1,h.fw,h.tf,h.LH,h.pe,by rw[show(⟨{C.d with v:=v'},Ds,C.φ⟩:Cx).σ=C.σ++ρ from rE];exact hPt _ _ h.pt,h.v3.an kp (nl (by decide)),h.v4.an kp (nl (by decide)),h.v5.an kp (nl (by decide)),h.v7.an kp (nl (by decide)),h.v8.an kp (nl (by decide)),h.v9.an kp (nl (by decide)),h.v10.an kp (nl (by decide))⟩,⟨kp.nx,⟨[],by simp,by simp⟩,⟨ρ,rE⟩,kp.k5 λ_ _ _ _=>by rintro(h|h)<;>exact absurd h (by decide)⟩,kp.mono λb hb=> .inl hb,rfl,?_,h3⟩;show Ds.length<=_;rw[rE];simp;omega
def Iy.new (els:List LVal) (h:kL Pt lp p t b3 b4 b5 b7 b8 b9 fh s C):Iy b4 s.nx (s.row 3 1 els) C:=by
 refine⟨D4 _,λe=>?_,λe he b' o m c Iu=>?_⟩
 ·have:=h.v4.lt h.bt;omega
 ·have:=h.ls.kids e he;rw[Iu]at this;have hb:b'<s.nx:=by
   generalize hr:ints e.kids=rr at this;cases this with
   |mk hb _ _ _ _ _=>exact hb
  omega
def Iy.ext (h:Iy b4 b s C) (hx:gD s C s' C'):Iy b4 b s' C':=by
 obtain⟨h1,h2,h3⟩:=h;obtain⟨h4,⟨τ,h5,h6⟩,_⟩:=hx;refine⟨by omega,h2,λe he b' o m c Iu=>?_⟩;rw[h5]at he;rcases List.mem_append.1 he with he|he
 ·exact h3 e he b' o m c Iu
 ·have:=h6 e he b' o m c Iu;omega
def kL.frame (h:kL Pt lp p t b3 b4 b5 b7 b8 b9 fh s C) (Ay:Good s') (hn:s.nx<=s'.nx) (ho:∀b,o=some b->Iy b4 b s C∧∃c sz n ro,s.h.get b=some (.cells c sz n ro 3)) (hq:∀q b,s.h.get q=some b->¬TyO b->some q≠o->(∀es ck,b≠.map 3 es ck)->s'.h.get q=some b) (hm:∀q es ck,s.h.get q=some (.map 3 es ck)->iA es->∃ig mT,s'.h.get q=some (.map 3 ig mT)∧iA ig):kL Pt lp p t b3 b4 b5 b7 b8 b9 fh s' C∧gD s C s' C:=by
 have hc:∀ {q sz n et:Nat} {c:T LVal} {ro:Bool},s.h.get q=some (.cells c sz n ro et)->et≠38->et≠3->s'.h.get q=some (.cells c sz n ro et):= λ {q sz n et c ro} h1 h2 h3=>hq q _ h1 h2 (λe=>by obtain⟨_,c',vV,n',ro',h4⟩:=ho q e.symm;rw[h1]at h4;cases h4;exact h3 rfl) λes ck e=>by cases e
 have hv:∀ {q t:Nat} {vs:LVal},ay s q t vs->t≠38->t≠3->ay s' q t vs:= λh1 h2 h3=>hc h1 h2 h3;have hmp:∀ {q kt ck:Nat} {es:List (Value×Value×Nat)},cy s q kt es ck->kt≠3->cy s' q kt es ck:= λ {q kt ck es} h1 h2=>hq q _ h1 (λh=>h) (λe=>by obtain⟨_,c',vV,n',ro',h4⟩:=ho q e.symm;have h1:s.h.get q=_:=h1;rw[h1]at h4;cases h4) λes ck e=>by cases e;exact h2 rfl
 have how:∀ {n et sz:Nat} {v:Value} {R:List LVal} {ob':Option Nat},Own n s et sz v R ob'->et≠38->et≠3->Own n s' et sz v R ob':= λ {n et sz v R ob'} h1 h2 h3=>h1.ext h.bt λq _ b hb LF=>by subst LF;subst hb;obtain⟨c,m,h4⟩:=h1.jI;rw[hc h4 h2 h3,h4]
 have ls:=h.ls;obtain⟨ob',fL⟩:=ls.rows;obtain⟨tb,hto,htb⟩:=ls.ts.rows;have v4:ay s' b4 3 [aw (t:Int)]:=hq _ _ h.v4 (by show¬(3=38);decide) (λe=>(ho b4 e.symm).1.2.1 rfl) λes ck e=>by cases e
 refine⟨⟨Ay,⟨hv ls.own (by decide) (by decide),⟨hv ls.ts.own (by decide) (by decide),⟨tb,how hto (by decide) (by decide),htb⟩,hmp ls.ts.found (by decide),ls.ts.pq,ls.ts.ua,ls.ts.Iv,ls.ts.nodup,λe he=>?_,ls.ts.xL,ls.ts.wf⟩,⟨ob',how fL (by decide) (by decide)⟩,hmp ls.found (by decide),ls.uc,λe he=>?_,ls.Iv,ls.nodup⟩,h.fw,h.tf,h.LH,h.pe,h.pt,hv h.v3 (by decide) (by decide),v4,hv h.v5 (by decide) (by decide),hv h.v7 (by decide) (by decide),hv h.v8 (by decide) (by decide),hv h.v9 (by decide) (by decide),hv h.v10 (by decide) (by decide)⟩,gD.refl _ _ hn λq c sz n ro Vh=>hc Vh (by decide) (by decide)⟩
 ·obtain⟨es,ck,h1,h2⟩:=ls.ts.vars e he;obtain⟨ig,mT,h3,h4⟩:=hm _ es ck h1 h2;exact⟨ig,mT,h3,h4⟩
 ·have hk:=ls.kids e he;have wW:= λb hb=>(ho b hb).1.2.2 e he;generalize e.kv=kv at hk wW;generalize ints e.kids=rr at hk;cases hk with
  |nil=>exact .nil
  | @mk b o' c ro R rows hb h1 hl hr hcc hx=>obtain⟨cc,h2,h3⟩:=h1.row;refine .mk (by omega) ⟨cc,hq _ _ h2 (by show¬(3=38);decide) (λe=>wW b e.symm b _ _ _ rfl rfl) (λes ck e=>by cases e),h3⟩ hl hr hcc hx
def kL.drop (h:kL Pt lp p t b3 b4 b5 b7 b8 b9 fh s C) (hd:Iy b4 b s C) (hc:∃c sz n ro,s.h.get b=some (.cells c sz n ro 3)):kL Pt lp p t b3 b4 b5 b7 b8 b9 fh (s.wr b none) C∧gD s C (s.wr b none) C:=by
 refine h.frame (o:=some b) (bZ h.bt hd.1 _) (af _) (λb' hb=>by cases hb;exact⟨hd,hc⟩) (λq bk hq _ ed _=>?_) (zA λq es ck hq=>?_)
 ·rw[cj h.bt hd.1,aC (λe=>ed (by rw[e]))];exact hq
 ·rw[cj h.bt hd.1,aC];intro e;subst e;obtain⟨c,sz,n,ro,hc⟩:=hc;rw[hc]at hq;cases hq
end
section
variable {Pt:List cx->Prop} {lp p t b3 b4 b5 b7 b8 b9 fh:Nat} {s s' j9:AS} {C C' C'':Cx}
def kL.push {w:Value} {R:List Nat} {y:Nat} (Vp:Good s0) (k0:eu oO s0 s) (h:kL Pt lp p t b3 b4 b5 b7 b8 b9 fh s C) (ow:Own s0.nx s 3 1 w (ints R) o) (hd:∀b,o=some b->Iy b4 b s C) (hl:R.length<=1000) (hv:Sl s.nx s 3 1 v (ints [y])):
  ∃w' s',vj 3 1 s [w,v]=some (w',s')∧kL Pt lp p t b3 b4 b5 b7 b8 b9 fh s' C∧gD s C s' C∧eu oO s0 s'∧Own s0.nx s' 3 1 w' (ints (R++ [y])) (some s.nx)∧Iy b4 s.nx s' C:=by
 have hg:=h.bt;have oA:=ze ow hv hg (by decide) (by decide) (kN _) (kN _) (λl hl=>by simp[ints]at hl;subst hl;rfl) (by simp[ints];omega) (by simp[ints]);have hR:ints R++ints [y]=ints (R++ [y]):=by simp[ints]
 have kn:=k0.nx;obtain⟨okD,xD,nD,kD⟩:kL Pt lp p t b3 b4 b5 b7 b8 b9 fh (cW s w) C∧gD s C (cW s w) C∧(cW s w).nx=s.nx∧eu oO s0 (cW s w):=by
  rcases ow.Ez.1 with he|⟨b,hb,he⟩
  ·rw[he];exact⟨h,gD.refl _ _ (af _) (λ_ _ _ _ _ h=>h),rfl,k0⟩
  ·have Nt:=ow.Ez.2 b hb;have hdb:=hd b hb;rw[he];have hc:∃c sz n ro,s.h.get b=some (.cells c sz n ro 3):=by
    subst hb;obtain⟨c,m,hc⟩:=ow.jI;exact⟨_,_,_,_,hc⟩
   obtain⟨p1,p2⟩:=h.drop hdb hc;refine⟨p1,p2,rfl,bZ hg hdb.1 _,kn,λj bk hj ht=>?_⟩;have Nw:j<s0.nx:=iV λhc=>by rw[Vp.none j (by omega)]at hj;cases hj
   rw[cj hg hdb.1,aC (by omega)];exact k0.eb j bk hj ht
 have Bg:=okD.bt;obtain⟨sN,Re⟩:∃sN,sN=(cW s w).row 3 1 (ints (R++ [y])):=⟨_,rfl⟩
 have grN:Grown (cW s w).nx (cW s w) sN:=by rw[Re];exact(Grown.refl Bg _).row (af _) _ _ _
 obtain⟨okN,xN⟩:=okD.grown grN;rw[hR,<-Re]at oA;refine⟨_,sN,oA,okN,xD.trans xN,kD.trans (grN.an Bg),?_,?_⟩
 ·exact .lb kn (by rw[Re,<-nD];exact bE.new Bg 3 1 _)
 ·rw[Re,<-nD];exact Iy.new _ okD
def amk (M:Nat) {TG:Cx->Nat->Nat->Prop} (mono:∀ {s C s' C' a f},gD s C s' C'->TG C a f->TG C' a f) (Ah:∀ {s C a},kL Pt lp p t b3 b4 b5 b7 b8 b9 fh s C->C.sz<=160->a<6->cp (aE M (dJ 10) [a8 lp,aw ((a:Nat):Int),aw (t:Int)] s) (λr s'=>∃C' f,r=aw ((f:Nat):Int)∧gD s C s' C'∧kL Pt lp p t b3 b4 b5 b7 b8 b9 fh s' C'∧eu oO s s'∧TG C' a f∧C'.sz<=C.sz+1)) {w:Value} (h:kL Pt lp p t b3 b4 b5 b7 b8 b9 fh s C) (hz:C.sz<=150) (hw:Sl s.nx s 3 1 w (ints [0,1,2,3,4,5])):
  cp (aE (M+1) (Ls b3 b4) [w] s) (λr s'=>∃C' L,gD s C s' C'∧kL Pt lp p t b3 b4 b5 b7 b8 b9 fh s' C'∧eu oO s s'∧Sl s'.nx s' 3 1 r (ints L)∧(L.length=6∧∀a (h:a<L.length),TG C' a L[a])∧C'.sz<=C.sz+6):=by
 unfold Ls;rw[qw,aKd];refine bG (by simp) λm hm=>?_;have h0:m.get 0=some w:=by rw[hm];rfl
 have h1:m.get 1=some (a8 b3):=by rw[hm];rfl
 have h2:m.get 2=some (a8 b4):=by rw[hm];rfl
 clear hm;have hg:=h.bt;have hlen:=hw.len;unfold c72 ald;apply aJ;simp+decide only[ag];unfold ale;apply dh;apply ar;simp+decide only[ag,h0,hlen];refine bY (eW (λm s'=>∃(i:Nat) (C':Cx) (x:Value) (L:List Nat) (o:Option Nat),i<=6∧m.get 1=some (a8 b3)∧m.get 2=some (a8 b4)∧m.get 4=some x∧m.get 7=some w∧m.get 8=some (aw 6)∧m.get 9=some (aw ((i:Nat):Int))∧kL Pt lp p t b3 b4 b5 b7 b8 b9 fh s' C'∧gD s C s' C'∧eu oO s s'∧Own s.nx s' 3 1 x (ints L) o∧(∀b,o=some b->Iy b4 b s' C')∧L.length=i∧(∀a (h:a<L.length),TG C' a L[a])∧C'.sz<=C.sz+i)
  (λm _=>match m.get 9 with|some (.int _ j)=>(6-j).toNat|_=>0) ?_ ?_ ?_)
 ·refine⟨0,C,.slice none 0 0,[],none,by omega,by simp+decide only[ag,h1],by simp+decide only[ag,h2],by simp+decide only[ag],by simp+decide only[ag],?_,?_,h,gD.refl _ _ (af _) (λ_ _ _ _ _ h=>h),(Grown.refl hg _).an hg,.nil,(λb hb=>by cases hb),rfl,(λa ha=>by cases ha),af _⟩
  ·simp+decide only[ag];rfl
  ·simp+decide only[ag]
 ·simp+decide only[ag]
 rintro m s1 ⟨i,C1,x,L,o,hi,h1,h2,h4,h7,h8,h9,sW,x1,k1,ow1,d1,hL,Fq,hz1⟩;have dv:=sW.bt;unfold alf;apply aJ;by_cases cS:i<6
 ·have hd:decide ((i:Int)<6)=true:=aL (by omega);simp+decide only[ag,h8,h9,hd];refine aT (cK true (by simp+decide only[ag]) ?_);simp+decide only[ag];apply aR;simp+decide only[ag];have Y9:i<(ints [0,1,2,3,4,5]).length:=by rw[dE];exact cS
  have sl1:=hw.an k1 λ_ _ _=>RD (by decide);have ix:=sl1.ix (P:=prog) (t:=38) (i:=i) Y9 (k:= .i64);have hgi:([0,1,2,3,4,5]:List Nat)[i]'(by simpa using cS)=i:=by
   match i,cS with
   |0,_=>rfl
   |1,_=>rfl
   |2,_=>rfl
   |3,_=>rfl
   |4,_=>rfl
   |5,_=>rfl
  have ld:=sl1.ld bM Y9 (gJ (l:= [0,1,2,3,4,5]) (by simpa using cS));rw[cO,hgi]at ld;have ll:=sW.v3.ld cT (o:=0) (by simp);have lt:=sW.v4.ld bM (o:=0) (by simp);simp only[ae]at ll lt;obtain⟨_,s2,e2,C2,f,rfl,x2,CZ,k2,t2,z2⟩:=Ah sW (by omega) cS;have dI:=CZ.bt;obtain⟨zR,AB⟩:=tP dI [f];obtain⟨sA,qS⟩:=dO (s2.row 3 1 (ints [f]));have Od:bF prog 38 1 [0] s2 [aw (f:Int)]=some (.slice (some ⟨s2.nx,0,none⟩) 1 (bH 1),s2.row 3 1 (ints [f])):=qt dI fm fX rfl;rw[<-qS]at zR AB Od;have AB:Sl sA.nx sA 3 1 (.slice (some ⟨s2.nx,0,none⟩) 1 (bH 1)) (ints [f]):=AB;obtain⟨Jk,xA⟩:=CZ.grown zR;have kA:eu oO s sA:=(k1.trans k2).trans (zR.an dI);have owA:Own s.nx sA 3 1 x (ints L) o:=(ow1.an k2 λ_ _ _=>RD (by decide)).an (zR.an (T:=oO) dI) λ_ _ _=>RD (by decide);obtain⟨x',s3,oA,EF,x3,k3,ow3,d3⟩:=kL.push hg kA Jk owA (λb hb=>((d1 b hb).ext x2).ext xA) (by omega) AB;have w1:IntKind.i64.wrap ((i:Int)+1)=((i+1:Nat):Int):=by rw[wrap_i64 (by omega)];omega
  unfold alg;apply kK;apply aJ;simp+decide only[ag,h7,h9,ix,ld];unfold alh;apply ar;simp+decide only[ag,h1,h2,h4,ll,lt,e2,Od,oA];unfold ali;apply ar;simp+decide only[ag,h9,w1];refine⟨⟨i+1,C2,x',L++ [f],some sA.nx,by omega,h1,h2,rfl,h7,h8,rfl,EF,((x1.trans x2).trans xA).trans x3,k3,ow3,(λb hb=>by cases hb;exact d3),by simp;omega,?_,by omega⟩,by omega⟩;intro a ha;by_cases haL:a<L.length
  ·rw[eO haL];exact mono x2 (Fq a haL)
  ·have:a=L.length:=by simp at ha;omega
   subst this;rw[pP (af _)];simp only[Fk,ae];rw[hL];exact t2
 ·have hd:decide ((i:Int)<6)=false:=az (by omega);simp+decide only[ag,h8,h9,hd];refine aT (cK false (by simp+decide only[ag]) ?_);simp+decide only[ag];apply aR;unfold alj;apply aJ;simp+decide only[ag,h4];exact aR (b6 (v:=x) (.inr rfl) (by simp+decide only[ag]) ⟨C1,L,x1,sW,k1,ow1.sl dv (by decide),⟨by omega,Fq⟩,by omega⟩)
def aml (M:Nat) {TG NG:Cx->Nat->Nat->Prop} (Ah:∀ {s C a},kL Pt lp p t b3 b4 b5 b7 b8 b9 fh s C->C.sz<=160->a<6->cp (aE M (dJ 10) [a8 lp,aw ((a:Nat):Int),aw (t:Int)] s) (λr s'=>∃C' f,r=aw ((f:Nat):Int)∧gD s C s' C'∧kL Pt lp p t b3 b4 b5 b7 b8 b9 fh s' C'∧eu oO s s'∧TG C' a f∧C'.sz<=C.sz+1)) (WB:∀ {s C a f},kL Pt lp p t b3 b4 b5 b7 b8 b9 fh s C->C.sz<=160->TG C a f->cp (aE M (dJ 20) [a8 lp,aw ((f:Nat):Int)] s) (λr s'=>∃C' f,r=aw ((f:Nat):Int)∧gD s C s' C'∧kL Pt lp p t b3 b4 b5 b7 b8 b9 fh s' C'∧eu oO s s'∧NG C' a f∧C'.sz<=C.sz+1)) (h:kL Pt lp p t b3 b4 b5 b7 b8 b9 fh s C) (hz:C.sz<=150) (ha:a<6):
  cp (aE (M+1) (Gj b3 b4) [aw ((a:Nat):Int)] s) (λr s'=>∃C' f,r=aw ((f:Nat):Int)∧gD s C s' C'∧kL Pt lp p t b3 b4 b5 b7 b8 b9 fh s' C'∧eu oO s s'∧NG C' a f∧C'.sz<=C.sz+2):=by
 unfold Gj;rw[qw,aKe];refine bG (by simp) λm hm=>?_;have h0:m.get 0=some (aw (a:Int)):=by rw[hm];rfl
 have h1:m.get 1=some (a8 b3):=by rw[hm];rfl
 have h2:m.get 2=some (a8 b4):=by rw[hm];rfl
 clear hm;obtain⟨_,s1,e1,C1,f,rfl,x1,sW,k1,t1,z1⟩:=Ah h (by omega) ha;obtain⟨_,s2,e2,C2,g,rfl,x2,CZ,k2,t2,z2⟩:=WB sW (by omega) t1;have ll:=h.v3.ld cT (o:=0) (by simp);have lt:=h.v4.ld bM (o:=0) (by simp);have Zj:=sW.v3.ld cT (o:=0) (by simp);have RS:=sW.v4.ld bM (o:=0) (by simp);simp only[ae]at ll lt Zj RS;unfold c73 alk;apply aJ;simp+decide only[ag];unfold alm;apply lV;simp+decide only[ag,h0,h1,h2,ll,lt,e1,Zj,RS,e2];exact aR (b6 (v:=aw (g:Int)) (.inr rfl) (by simp+decide only[ag]) ⟨C2,g,rfl,x1.trans x2,CZ,k1.trans k2,t2,by omega⟩)
def amm (M:Nat) {CG SG:Cx->Nat->Nat->Prop} {vc:LVal} (Au:vc.length=7) (hvo:cP vc=true) (Fo:qQ 12 (.agg ⟨vc⟩) (.agg ⟨vc⟩)=true) (Jd:∀ {s C},kL Pt lp p t b3 b4 b5 b7 b8 b9 fh s C->C.sz<=160->cp (aE M (dJ 17) [a8 p,.agg ⟨vc⟩] s) (λr s'=>∃C' f,r=aw ((f:Nat):Int)∧gD s C s' C'∧kL Pt lp p t b3 b4 b5 b7 b8 b9 fh s' C'∧eu oO s s'∧CG C' k f∧C'.sz<=C.sz+1)) (heq:∀ {s C f},kL Pt lp p t b3 b4 b5 b7 b8 b9 fh s C->C.sz<=160->CG C k f->cp (aE M (dJ 75) [a8 lp,aw (t:Int),aw ((f:Nat):Int)] s) (λr s'=>∃C' f,r=aw ((f:Nat):Int)∧gD s C s' C'∧kL Pt lp p t b3 b4 b5 b7 b8 b9 fh s' C'∧eu oO s s'∧SG C' k f∧C'.sz<=C.sz+1)) (h:kL Pt lp p t b3 b4 b5 b7 b8 b9 fh s C) (hz:C.sz<=150):
  cp (aE (M+1) (Gk b3 b4 b7) [.agg ⟨vc⟩] s) (λr s'=>∃C' f,r=aw ((f:Nat):Int)∧gD s C s' C'∧kL Pt lp p t b3 b4 b5 b7 b8 b9 fh s' C'∧eu oO s s'∧SG C' k f∧C'.sz<=C.sz+2):=by
 unfold Gk;rw[qw,aKf];refine bG (by simp) λm hm=>?_;have h0:m.get 0=some (.agg ⟨vc⟩):=by rw[hm];rfl
 have h1:m.get 1=some (a8 b3):=by rw[hm];rfl
 have h2:m.get 2=some (a8 b4):=by rw[hm];rfl
 have h3:m.get 3=some (a8 b7):=by rw[hm];rfl
 clear hm;have hg:=h.bt;obtain⟨sA,qS⟩:=dO (s.add (ca 33 vc));have Od:ia 33 s (.agg ⟨vc⟩)=some (a8 s.nx,sA):=by rw[ez hg,dn,qS]
 have zR:=cM qS hg;have vA:=jS qS hg;obtain⟨Jk,xA⟩:=h.grown zR;have kA:=zR.an (T:=oO) hg;obtain⟨_,s1,e1,C1,f,rfl,x1,sW,k1,t1,z1⟩:=Jd Jk (by omega);obtain⟨_,s2,e2,C2,g,rfl,x2,CZ,k2,t2,z2⟩:=heq sW (by omega) t1;have lv:=vA.eA oY oZ (o:=0) (by omega) (by decide);have lv1:=(vA.an k1 (L4 (by decide))).eA oY oZ (o:=0) (by omega) (by decide);rw[bK,aP (by omega)]at lv lv1;have ll:=Jk.v3.ld cT (o:=0) (by simp);have lt:=Jk.v4.ld bM (o:=0) (by simp);have lu:=Jk.v7.ld eU (o:=0) (by simp);have Zj:=sW.v3.ld cT (o:=0) (by simp);have RS:=sW.v4.ld bM (o:=0) (by simp);have lu1:=sW.v7.ld eU (o:=0) (by simp);simp only[ae]at ll lt lu Zj RS lu1;unfold c74 aln;apply aJ;simp+decide only[ag,h0,Od];unfold alo;apply lV;simp+decide only[ag,h1,h2,h3,lv,ll,lt,lu,e1,lv1,Fo,Zj,RS,lu1,e2];exact aR (b6 (v:=aw (g:Int)) (.inr rfl) (by simp+decide only[ag]) ⟨C2,g,rfl,(xA.trans x1).trans x2,CZ,(kA.trans k1).trans k2,t2,by omega⟩)
end
section
def F7 (t:Nat) (σ:List cx):Prop:=t<13∧∃ht:t<σ.length,σ[t].kind≠2∧σ[t].size<=31
def F7.mono (σ ρ:List cx) (h:F7 t σ):F7 t (σ++ρ):=by obtain⟨h0,h1,h2,h3⟩:=h;exact⟨h0,by simp;omega,by rw[eO h1];exact⟨h2,h3⟩⟩
def F8 (t:Nat) (C:Cx) (a f:Nat):Prop:=∃hi:f<C.φ.length,C.φ[f].key=ec 7 a t (-1) []
def RV (t:Nat) (C:Cx) (a f:Nat):Prop:=∃g,F8 t C a g∧∃hi:f<C.φ.length,C.φ[f].kind=4∧C.φ[f].kids= [g]
def Ad (k:Nat):List UInt8:=if k=0 then [110,117,108,108]else if k=1 then [116,114,117,101]else [102,97,108,115,101]
def CGn (C:Cx) (k u:Nat):Prop:=∃hi:u<C.σ.length,C.σ[u].da=pj 2 0 [] ⟨⟨Ad k⟩⟩
def RW (t:Nat) (C:Cx) (k f:Nat):Prop:=∃u,CGn C k u∧u≠t∧∃hi:f<C.φ.length,C.φ[f].key=ec 6 0 t u []∨C.φ[f].key=ec 6 0 u t []
def CY (C:Cx) (f:Nat):Prop:=f<C.φ.length∧(sJ C.φ f=5∨sJ C.φ f=4∧∃k,(CX C.φ f)[0]? =some k∧sJ C.φ k=5)
structure LI (t:Nat) (C:Cx) (j y:Nat):Prop where
 lt:y<C.φ.length
 or:j<16->sJ C.φ y=3
 is:j=0->∃L:List Nat,(L.length=6∧∀a (h:a<L.length),F8 t C a L[a])∧CX C.φ y=fJ L.reverse
 two:∀a b,a<b->b<6->j=pos a b->∃f g,RV t C a f∧RV t C b g∧CX C.φ y=fJ [g,f]
variable {C C':Cx}
def B5 {α:Type} {φ fj τ:List α} (h:fj=φ++τ) (hi:i<φ.length):∃pQ:i<fj.length,fj[i]=φ[i]:=by subst h;exact⟨by simp;omega,eO hi⟩
def F8.mono (hx:gD s C s' C') (h:F8 t C a f):F8 t C' a f:=by obtain⟨_,⟨τ,h1,_⟩,_⟩:=hx;obtain⟨hi,hk⟩:=h;obtain⟨pQ,he⟩:=B5 h1 hi;exact⟨pQ,by rw[he];exact hk⟩
def RV.mono (hx:gD s C s' C') {a f:Nat} (h:RV t C a f):RV t C' a f:=by obtain⟨g,hg,hi,hk⟩:=h;refine⟨g,hg.mono hx,?_⟩;obtain⟨_,⟨τ,h1,_⟩,_⟩:=hx;obtain⟨pQ,he⟩:=B5 h1 hi;exact⟨pQ,by rw[he];exact hk⟩
def CGn.mono (hx:gD s C s' C') {u:Nat} (h:CGn C k u):CGn C' k u:=by obtain⟨_,_,⟨ρ,h1⟩,_⟩:=hx;obtain⟨hi,hk⟩:=h;obtain⟨pQ,he⟩:=B5 h1 hi;exact⟨pQ,by rw[he];exact hk⟩
def RW.mono (hx:gD s C s' C') {k f:Nat} (h:RW t C k f):RW t C' k f:=by obtain⟨u,hu,ed,hi,hk⟩:=h;refine⟨u,hu.mono hx,ed,?_⟩;obtain⟨_,⟨τ,h1,_⟩,_⟩:=hx;obtain⟨pQ,he⟩:=B5 h1 hi;exact⟨pQ,by rw[he];exact hk⟩
def MH (hx:gD s C s' C') {y:Nat} (hy:y<C.φ.length):y<C'.φ.length∧sJ C'.φ y=sJ C.φ y∧CX C'.φ y=CX C.φ y:=by obtain⟨_,⟨τ,h1,_⟩,_⟩:=hx;obtain⟨pQ,he⟩:=B5 h1 hy;exact⟨pQ,by rw[jc pQ,jc hy,he],by rw[qy pQ,qy hy,he]⟩
def LI.mono (hx:gD s C s' C') {j y:Nat} (h:LI t C j y):LI t C' j y:=by
 obtain⟨h1,h2,h3⟩:=MH hx h.lt;refine⟨h1,by rw[h2];exact h.or,λhj=>?_,λa b jJ hb hj=>?_⟩
 ·obtain⟨L,⟨l1,l2⟩,l3⟩:=h.is hj;exact⟨L,⟨l1,λa ha=>(l2 a ha).mono hx⟩,by rw[h3];exact l3⟩
 ·obtain⟨f,g,k1,k2,k3⟩:=h.two a b jJ hb hj;exact⟨f,g,k1.mono hx,k2.mono hx,by rw[h3];exact k3⟩
def F8.kind (h:F8 t C a f):f<C.φ.length∧sJ C.φ f=7:=by obtain⟨hi,hk⟩:=h;exact⟨hi,by rw[jc hi];exact(dA.j2 hk).1⟩
def RV.kind (h:RV t C a f):f<C.φ.length∧sJ C.φ f=4∧∃g,F8 t C a g∧CX C.φ f= [g]:=by obtain⟨g,hg,hi,h1,h2⟩:=h;exact⟨hi,by rw[jc hi];exact h1,g,hg,by rw[qy hi];exact h2⟩
def RW.kind (h:RW t C k f):f<C.φ.length∧sJ C.φ f=6:=by obtain⟨u,_,_,hi,hk⟩:=h;refine⟨hi,?_⟩;rw[jc hi];rcases hk with hk|hk<;>exact(dA.j2 hk).1
def F8.inj {a b f:Nat} (h:F8 t C a f) (h':F8 t C b f):a=b:=by obtain⟨hi,hk⟩:=h;obtain⟨_,oL⟩:=h';have h1:=(dA.j2 hk).2.1;have h2:=(dA.j2 oL).2.1;rw[h1]at h2;exact qE h2
def RV.inj {a b f:Nat} (h:RV t C a f) (h':RV t C b f):a=b:=by obtain⟨_,_,g,hg,h1⟩:=h.kind;obtain⟨_,_,g',Ay,h2⟩:=h'.kind;rw[h1]at h2;cases h2;exact hg.inj Ay
def Yt (hi:i<3) (hj:j<3) (h:Ad i=Ad j):i=j:=by
 match i,j,hi,hj with
 |0,0,_,_=>rfl
 |0,1,_,_=>cases h
 |0,2,_,_=>cases h
 |1,0,_,_=>cases h
 |1,1,_,_=>rfl
 |1,2,_,_=>cases h
 |2,0,_,_=>cases h
 |2,1,_,_=>cases h
 |2,2,_,_=>rfl
def RW.inj (hi:i<3) (hj:j<3) (h:RW t C i f) (h':RW t C j f):i=j:=by
 obtain⟨u,⟨hu,hu2⟩,ed,hf,hk⟩:=h;obtain⟨v,⟨hv,oo⟩,so,_,oL⟩:=h';have huv:u=v:=by
  have ex:∀ {a b a' b':Nat},ec 6 0 (a:Int) (b:Int) []=ec 6 0 (a':Int) (b':Int) []->a=a'∧b=b':= λh=>by simp only[ec,kS,rS,vH,zS]at h;omega
  rcases hk with hk|hk<;>rcases oL with oL|oL<;>rw[hk]at oL<;>have:=ex oL<;>omega
 subst huv;rw[hu2]at oo;refine Yt hi hj ?_;simp only[pj,ea,kS,hZ,vH,zS]at oo;injection oo with h
 injection h
def ajc {a' b':Nat} (jJ:a<b) (hb:b<6) (aaj:a'<b') (iR:b'<6) (h:pos a b=pos a' b'):a=a'∧b=b':=by
 have key:∀a b a' b':Fin 6,(a.1<b.1∧a'.1<b'.1∧pos a.1 b.1=pos a'.1 b'.1)->a.1=a'.1∧b.1=b'.1:=by decide
 exact key ⟨a,by omega⟩ ⟨b,hb⟩ ⟨a',by omega⟩ ⟨b',iR⟩ ⟨jJ,aaj,h⟩
def L5 (h0:0<j) (h:j<16):∃a b,a<b∧b<6∧j=pos a b:=by
 have key:∀j:Fin 16,0<j.1->∃a b:Fin 6,a.1<b.1∧j.1=pos a.1 b.1:=by decide
 obtain⟨a,b,jJ,hj⟩:=key ⟨j,h⟩ h0;exact⟨a.1,b.1,jJ,b.2,hj⟩
def Wh (a b:Nat):0<pos a b:=by unfold pos;omega
def LI.inj {i j y:Nat} (hi:i<16) (hj:j<16) (h:LI t C i y) (h':LI t C j y):i=j:=by
 by_cases hi0:i=0<;>by_cases Nw:j=0
 ·omega
 ·obtain⟨L,⟨hl,_⟩,h1⟩:=h.is hi0;obtain⟨a,b,jJ,hb,hp⟩:=L5 (by omega) hj;obtain⟨f,g,_,_,h2⟩:=h'.two a b jJ hb hp;rw[h1]at h2;have:=congrArg List.length h2;rw[gf,gf,gh,hl]at this;simp at this
 ·obtain⟨L,⟨hl,_⟩,h1⟩:=h'.is Nw;obtain⟨a,b,jJ,hb,hp⟩:=L5 (by omega) hi;obtain⟨f,g,_,_,h2⟩:=h.two a b jJ hb hp;rw[h1]at h2;have:=congrArg List.length h2;rw[gf,gf,gh,hl]at this;simp at this
 ·obtain⟨a,b,jJ,hb,hp⟩:=L5 (by omega) hi;obtain⟨a',b',aaj,iR,ED⟩:=L5 (by omega) hj;obtain⟨f,g,hf,hg,h1⟩:=h.two a b jJ hb hp;obtain⟨f',g',hf',Ay,h2⟩:=h'.two a' b' aaj iR ED;rw[h1]at h2;have pm:([g,f]:List Nat).Perm [g',f']:=(jC _).symm.trans (by rw[h2];exact jC _);have m1:f∈ [g',f']:=pm.mem_iff.1 (by simp);have m2:g∈ [g',f']:=pm.mem_iff.1 (by simp);simp only[bu,aX,db]at m1 m2;have e1:a=b'∨a=a':=by
   rcases m1 with m1|m1
   ·subst m1;exact .inl (hf.inj Ay)
   ·subst m1;exact .inr (hf.inj hf')
  have e2:b=b'∨b=a':=by
   rcases m2 with m2|m2
   ·subst m2;exact .inl (hg.inj Ay)
   ·subst m2;exact .inr (hg.inj hf')
  have:a=a'∧b=b':=by omega
  rw[hp,ED,this.1,this.2]
end
section
variable {lp p t b3 b4 b5 b7 b8 b9 fh:Nat} {C C':Cx}
def F7.text (h:F7 t C.σ) (hw:WFs C.σ):(cF C.σ t).length<=2000:=by obtain⟨_,ht,_,hz⟩:=h;have:=ym hw t ht;omega
def OG (hf:xy k s s' C.d C.σ C.φ d' fj):(⟨d',C.σ,fj⟩:Cx).sz<=C.sz+k:=by have:=hf.len;show C.σ.length+fj.length<=C.σ.length+C.φ.length+k;omega
def wS:C.σ.length<=C.sz∧C.φ.length<=C.sz:=by have:C.sz=C.σ.length+C.φ.length:=rfl;omega
def abp (M:Nat) (hM:200<=M) (h:kL (F7 t) lp p t b3 b4 b5 b7 b8 b9 fh s C) (hz:C.sz<=160) (ha:a<6):cp (aE M (dJ 10) [a8 lp,aw ((a:Nat):Int),aw (t:Int)] s) (λr s'=>∃C' f,r=aw ((f:Nat):Int)∧gD s C s' C'∧kL (F7 t) lp p t b3 b4 b5 b7 b8 b9 fh s' C'∧eu oO s s'∧F8 t C' a f∧C'.sz<=C.sz+1):=by
 obtain⟨n,rfl⟩:∃n,M=n+4:=⟨M-4,by omega⟩
 have eR:=wS (C:=C);have RP:=h.pt.text h.ls.ts.wf;obtain⟨_,ht,hk,_⟩:=h.pt;obtain⟨_,s1,e1,i,d',fj,rfl,fU,hi,qG⟩:=aLb n h.bt h.ls h.fw ha ht hk (by omega) (by omega) RP;rw[h.LH]at e1;obtain⟨q1,q2,q3⟩:=h.st fU;exact⟨_,s1,e1,⟨d',C.σ,fj⟩,i,rfl,q2,q1,q3,⟨hi,qG⟩,OG fU⟩
def aEd (M:Nat) (hM:200<=M) (h:kL (F7 t) lp p t b3 b4 b5 b7 b8 b9 fh s C) (hz:C.sz<=160) (hf:F8 t C a f):cp (aE M (dJ 20) [a8 lp,aw ((f:Nat):Int)] s) (λr s'=>∃C' f,r=aw ((f:Nat):Int)∧gD s C s' C'∧kL (F7 t) lp p t b3 b4 b5 b7 b8 b9 fh s' C'∧eu oO s s'∧RV t C' a f∧C'.sz<=C.sz+1):=by
 obtain⟨n,rfl⟩:∃n,M=n+5:=⟨M-5,by omega⟩
 have eR:=wS (C:=C);obtain⟨EC,vY⟩:=hf.kind;rw[jc EC]at vY;obtain⟨_,s1,e1,i,d',fj,rfl,fU,hi,hi4,hik⟩:=aya n h.bt h.ls h.fw EC (by omega) (by omega) (by omega);rw[h.LH]at e1;obtain⟨q1,q2,q3⟩:=h.st fU;exact⟨_,s1,e1,⟨d',C.σ,fj⟩,i,rfl,q2,q1,q3,⟨f,hf.mono q2,hi,hi4,hik⟩,OG fU⟩
def amn {Pt:List cx->Prop} (hPt:∀σ ρ,Pt σ->Pt (σ++ρ)) (M:Nat) (hM:200<=M) {tag:Nat} {b:Bool} (hc:fZ tag b [] [] (Ad k)) (h:kL Pt lp p t b3 b4 b5 b7 b8 b9 fh s C) (hz:C.sz<=160):cp (aE M (dJ 17) [a8 p,.agg ⟨cu tag b [] []⟩] s) (λr s'=>∃C' f,r=aw ((f:Nat):Int)∧gD s C s' C'∧kL Pt lp p t b3 b4 b5 b7 b8 b9 fh s' C'∧eu oO s s'∧CGn C' k f∧C'.sz<=C.sz+1):=by
 obtain⟨n,rfl⟩:∃n,M=n+3:=⟨M-3,by omega⟩
 have eR:=wS (C:=C);obtain⟨_,s1,e1,i,rfl,fP⟩:=Pf n h.bt h.ls.ts hc (by omega);rw[h.pe]at e1;obtain⟨C',q1,q2,q3,q4,q5,hi,q6⟩:=h.put hPt fP;refine⟨_,s1,e1,C',i,rfl,q2,q1,q3,⟨hi,q6⟩,?_⟩;show C'.σ.length+C'.φ.length<=C.σ.length+C.φ.length+1;rw[q4];omega
def aLy (M:Nat) (hM:200<=M) {u:Nat} (h:kL (F7 t) lp p t b3 b4 b5 b7 b8 b9 fh s C) (hz:C.sz<=160) (hu:CGn C k u):cp (aE M (dJ 75) [a8 lp,aw (t:Int),aw ((u:Nat):Int)] s) (λr s'=>∃C' f,r=aw ((f:Nat):Int)∧gD s C s' C'∧kL (F7 t) lp p t b3 b4 b5 b7 b8 b9 fh s' C'∧eu oO s s'∧RW t C' k f∧C'.sz<=C.sz+1):=by
 obtain⟨n,rfl⟩:∃n,M=n+4:=⟨M-4,by omega⟩
 have eR:=wS (C:=C);have RP:=h.pt.text h.ls.ts.wf;obtain⟨_,ht,hk,_⟩:=h.pt;obtain⟨hul,huk⟩:=hu;have age:C.σ[u].kind=2∧C.σ[u].text=⟨⟨Ad k⟩⟩:=by simp only[cx.da,pj,ea,kS,rS,hZ,vH,zS]at huk;exact⟨by omega,huk.2.2.2.2.2⟩
 have ed:t≠u:= λe=>by subst e;exact hk age.1
 have htu:(cF C.σ u).length<=900:=by
  rw[DX h.ls.ts.wf hul];have:=(h.ls.ts.wf u hul).text;split
  ·simp
  ·rw[aC (by rw[age.1];decide),aC (by rw[age.1];decide),aU age.1];omega
 obtain⟨_,s1,e1,i,d',fj,a,b,rfl,fU,jJ,hi,qG⟩:=eqF n h.bt h.ls h.fw ht hul ed hk (by omega) (by omega) RP htu;rw[h.LH]at e1;obtain⟨q1,q2,q3⟩:=h.st fU;refine⟨_,s1,e1,⟨d',C.σ,fj⟩,i,rfl,q2,q1,q3,⟨u,⟨hul,huk⟩,λe=>ed e.symm,hi,?_⟩,OG fU⟩;rcases jJ with ⟨rfl,rfl⟩|⟨rfl,rfl⟩
 ·exact .inl qG
 ·exact .inr qG
def aak (M:Nat) (hM:200<=M) {w:Value} {L:List Nat} (h:kL (F7 t) lp p t b3 b4 b5 b7 b8 b9 fh s C) (hz:C.sz<=160) (hw:Sl s.nx s 3 1 w (ints L)) (gP:∀x∈L,x<C.φ.length∧4<=sJ C.φ x) (hd:L.Nodup) (h2:2<=L.length) (h6:L.length<=6) (hp:∀x∈L,sJ C.φ x=4->∃k,(CX C.φ x)[0]? =some k∧k∉L∧5<=sJ C.φ k):
  cp (aE M (dJ 19) [a8 lp,w] s) (λr s'=>∃C' f,r=aw ((f:Nat):Int)∧gD s C s' C'∧kL (F7 t) lp p t b3 b4 b5 b7 b8 b9 fh s' C'∧eu oO s s'∧(f<C'.φ.length∧sJ C'.φ f=3∧CX C'.φ f=fJ L.reverse)∧C'.sz<=C.sz+1):=by
 obtain⟨n,rfl⟩:∃n,M=n+11:=⟨M-11,by omega⟩
 have eR:=wS (C:=C);obtain⟨_,s1,e1,i,d',fj,rfl,fU,hi,hi3,hik⟩:=orF n h.bt h.ls h.fw h.tf (by omega) hw (λx hx=>⟨(gP x hx).1,by have:=(gP x hx).1;omega,(gP x hx).2⟩) hd h2 h6 hp;rw[h.LH]at e1;obtain⟨q1,q2,q3⟩:=h.st fU;exact⟨_,s1,e1,⟨d',C.σ,fj⟩,i,rfl,q2,q1,q3,⟨hi,by rw[jc hi];exact hi3,by rw[qy hi];exact hik⟩,OG fU⟩
def aLz (M:Nat) (hM:200<=M) (h:kL (F7 t) lp p t b3 b4 b5 b7 b8 b9 fh s C) (hz:C.sz<=160) (b:Bool):∃v1 s1 v2 s2 v3 s3 f s4 C',aE M (dJ 16) [aw (t:Int)] s= .val v1 s1∧aE M (dJ 54) [aw (cI b)] s1= .val v2 s2∧aE M (dJ 77) [v1,v2] s2= .val v3 s3∧aE M (dJ 15) [a8 lp,v3] s3= .val (aw ((f:Nat):Int)) s4∧Grown s.nx s s1∧Grown s1.nx s1 s2∧Grown s2.nx s2 s3∧gD s3 C s4 C'∧kL (F7 t) lp p t b3 b4 b5 b7 b8 b9 fh s4 C'∧eu oO s3 s4∧CY C' f∧C'.sz<=C.sz+2:=by
 obtain⟨n,rfl⟩:∃n,M=n+6:=⟨M-6,by omega⟩
 have eR:=wS (C:=C);have RP:=h.pt.text h.ls.ts.wf;obtain⟨aLA,ht,hk,_⟩:=h.pt;have hg:=h.bt;obtain⟨U1,U2,U3,⟨f1,k1⟩,⟨f2,k2⟩,f3,dK⟩:=adZ (adU t aLA b);obtain⟨km,v1,s1,e1,rV,vp,Z3,g1,uh,-,-⟩:=apart (n+5) (by rfl) L0 My hg (Su hg) (oD (nY .i64 (t:Int))) f1;rw[dR (dY (by omega) (by omega) (by omega))]at rV;have rV:=(bh rV).symm;subst rV;obtain⟨oM,v2,s2,e2,oo,Fp,apd,g2,zO,-,-⟩:=apart (n+5) (by rfl) SQ Z3 g1.bt vp (oD (nY .i64 (cI b))) f2;rw[dR (gL (by omega) (by omega))]at oo;have oo:=(bh oo).symm;subst oo;have m1:oF oM U2.nx 12 (.agg ⟨eL 0 1 513 2 513⟩)=some (.agg ⟨(eL 0 1 513 2 513).map (eC km)⟩):=by rw[dR (dY (by omega) (by omega) (by omega)),fz (K:=5) (λi hi=>zO i (by omega)) (dY (by omega) (by omega) (by omega))]
 obtain⟨rW,v3,s3,e3,BL,Xq,ape,g3,LA,-,-⟩:=apart (n+5) (by rfl) L2 apd g2.bt Fp (Rw m1 (dR (gL (by omega) (by omega)))) f3;rw[dR (dY (by have:=dK.k3;omega) (by have:=dK.k3;omega) (by have:=dK.k3;omega))]at BL;have BL:=(bh BL).symm;subst BL;have g03:Grown s.nx s s3:=g1.trans ((g2.trans (g3.le g2.nx)).le g1.nx);obtain⟨EF,x3⟩:=h.grown g03;obtain⟨_,s4,e4,i,d',fj,rfl,fU,hi,hkk⟩:=leF n EF.bt EF.ls EF.fw ape Xq dK ht hk (by omega) (by omega) RP;rw[h.LH]at e4;obtain⟨q1,q2,q3⟩:=EF.st fU;exact⟨_,s1,_,s2,_,s3,i,s4,⟨d',C.σ,fj⟩,e1,e2,e3,e4,g1,g2,g3,q2,q1,q3,⟨hi,hkk⟩,OG fU⟩
end
section
variable {lp p t b3 b4 b5 b7 b8 b9 fh:Nat} {C C':Cx}
def Isn (t:Nat) (C:Cx) (L:List Nat):Prop:=L.length=6∧∀a (h:a<L.length),F8 t C a L[a]
def CY.mono (hx:gD s C s' C') (h:CY C f):CY C' f:=by
 obtain⟨hi,hk⟩:=h;obtain⟨h1,h2,h3⟩:=MH hx hi;refine⟨h1,?_⟩;rw[h2,h3];rcases hk with hk|⟨hk,k,vt,uA⟩
 ·exact .inl hk
 ·refine .inr ⟨hk,k,vt,?_⟩;have hkl:k<C.φ.length:=by
   refine dg λhle=>?_;unfold sJ at uA;rw[eD hle]at uA;cases uA
  rw[(MH hx hkl).2.1];exact uA
def Isn.nodup {L:List Nat} (h:Isn t C L):L.Nodup:=by refine List.pairwise_iff_getElem.2 λi j hi hj zK he=>?_;have h1:=h.2 i hi;have h2:=h.2 j hj;rw[he]at h1;have:=h1.inj h2;omega
def LI.late {y:Nat} (hj:16<=j) (hy:y<C.φ.length):LI t C j y:=
 ⟨hy,λh=>by omega,λh=>by omega,λa b jJ hb h=>by have:=SX (by omega) jJ hb;omega⟩
def aEe (M:Nat) (hM:201<=M):Ob M lp t b3 b4 b5 b7 b8 b9 fh (kL (F7 t) lp p t b3 b4 b5 b7 b8 b9 fh) (Isn t) (RV t) (RW t) (λC f=>F8 t C 2 f) CY (LI t) gD (Iy b4):=by
 obtain⟨m,rfl⟩:∃m,M=m+1:=⟨M-1,by omega⟩
 refine⟨λh=>h.bt,λh=>⟨h.v3,h.v4,h.v5,h.v8,h.v9,h.v10⟩,λh hg=>h.grown hg,λh h'=>h.trans h',λhx h=>RV.mono hx h,λhx h=>RW.mono hx h,λhx h=>LI.mono hx h,λhx h=>F8.mono hx h,λels h=>Iy.new els h,λh hx=>h.ext hx,λh hd hc=>h.drop hd hc,?_,?_,?_,?_,?_,?_,?_,?_,?_,?_⟩
 ·intro s C w h hz hw;exact amk m (TG:=F8 t) (λhx h=>F8.mono hx h) (λh hz ha=>abp m (by omega) h hz ha) h hz hw
 ·intro s C w L h hz hw hL;have hk:∀x∈L,x<C.φ.length∧sJ C.φ x=7:= λx hx=>by
   obtain⟨i,hi,he⟩:=fE hx;rw[<-he];exact(hL.2 i hi).kind
  obtain⟨r,s1,e1,C1,f,rfl,x1,sW,k1,⟨f1,f2,f3⟩,z1⟩:=aak (m+1) (by omega) h (by omega) hw (λx hx=>⟨(hk x hx).1,by rw[(hk x hx).2];decide⟩) hL.nodup (by rw[hL.1];decide) (by rw[hL.1];decide) λx hx h4=>by rw[(hk x hx).2]at h4;cases h4
  refine⟨_,s1,e1,C1,f,rfl,x1,sW,k1,⟨f1,λ_=>f2,λ_=>⟨L,⟨hL.1,λa ha=>(hL.2 a ha).mono x1⟩,f3⟩,λa b _ _ hp=>?_⟩,z1⟩;have:=Wh a b;omega
 ·intro s C a h hz ha;exact aml m (λh hz ha=>abp m (by omega) h hz ha) (λh hz hf=>aEd m (by omega) h hz hf) h hz ha
 ·intro s C w a b f g h hz jJ hb hw hf hg;obtain⟨EC,hf4,kf,Bc,vY⟩:=hf.kind;obtain⟨hgl,iI,kg,hkg,Zr⟩:=hg.kind;have ed:f≠g:= λe=>by subst e;have:=hf.inj hg;omega
  have hn:∀ {a k:Nat},F8 t C a k->k∉ [f,g]∧5<=sJ C.φ k:= λh=>by have:=h.kind.2;refine⟨λhm=>?_,by omega⟩;simp only[bu,aX,db]at hm;rcases hm with rfl|rfl<;>omega
  obtain⟨r,s1,e1,C1,y,rfl,x1,sW,k1,⟨f1,f2,f3⟩,z1⟩:=aak (m+1) (by omega) h (by omega) hw (λx hx=>by
   simp only[bu,aX,db]at hx;rcases hx with rfl|rfl
   ·exact⟨EC,by omega⟩
   ·exact⟨hgl,by omega⟩) (by simp[ed]) (by simp) (by simp) λx hx _=>by
   simp only[bu,aX,db]at hx;rcases hx with rfl|rfl
   ·exact⟨kf,by rw[vY];rfl,hn Bc⟩
   ·exact⟨kg,by rw[Zr];rfl,hn hkg⟩
  refine⟨_,s1,e1,C1,y,rfl,x1,sW,k1,⟨f1,λ_=>f2,λhp=>?_,λa' b' aaj iR hp=>?_⟩,z1⟩
  ·have:=Wh a b;omega
  ·obtain⟨rfl,rfl⟩:=ajc jJ hb aaj iR hp;exact⟨f,g,hf.mono x1,hg.mono x1,f3⟩
 ·intro s C h hz k vc hk;have key:∀ {tag:Nat} {b:Bool},fZ tag b [] [] (Ad k)->qQ 12 (.agg ⟨cu tag b [] []⟩) (.agg ⟨cu tag b [] []⟩)=true->cp (aE (m+1) (Gk b3 b4 b7) [.agg ⟨cu tag b [] []⟩] s) (λr s'=>∃C' f,r=aw ((f:Nat):Int)∧gD s C s' C'∧kL (F7 t) lp p t b3 b4 b5 b7 b8 b9 fh s' C'∧eu oO s s'∧RW t C' k f∧C'.sz<=C.sz+2):= λhc hv=>
   amm m (CG:=CGn) (SG:=RW t) rfl rfl hv (λh hz=>amn (λσ ρ h=>F7.mono σ ρ h) m (by omega) hc h hz) (λh hz hu=>aLy m (by omega) h hz hu) h hz
  rcases hk with ⟨rfl,rfl⟩|⟨rfl,rfl⟩|⟨rfl,rfl⟩
  ·exact key (tag:=0) (b:=false) isNull (by rfl)
  ·exact key (tag:=1) (b:=true) isTrue (by rfl)
  ·exact key (tag:=1) (b:=false) isFalse (by rfl)
 ·intro s C w f g h hz hw hf hg;obtain⟨EC,hf4,kf,Bc,vY⟩:=hf.kind;obtain⟨hgl,lZ⟩:=hg.kind;obtain⟨hkl,hk7⟩:=Bc.kind;obtain⟨r,s1,e1,C1,y,rfl,x1,sW,k1,⟨f1,f2,f3⟩,z1⟩:=aak (m+1) (by omega) h (by omega) hw (λx hx=>by
   simp only[bu,aX,db]at hx;rcases hx with rfl|rfl
   ·exact⟨EC,by omega⟩
   ·exact⟨hgl,by omega⟩) (by simp;intro e;subst e;omega) (by simp) (by simp) λx hx h4=>by
   simp only[bu,aX,db]at hx;rcases hx with rfl|rfl
   ·refine⟨kf,by rw[vY];rfl,λhm=>?_,by omega⟩;simp only[bu,aX,db]at hm;rcases hm with rfl|rfl<;>omega
   ·omega
  exact⟨_,s1,e1,C1,y,rfl,x1,sW,k1,LI.late (af _) f1,z1⟩
 ·intro s C w f g i h hz hw hf hg hi;obtain⟨EC,hf4,kf,Bc,vY⟩:=hf.kind;obtain⟨hgl,lZ⟩:=hg.kind;obtain⟨uB,hi6⟩:=hi.kind;obtain⟨hkl,hk7⟩:=Bc.kind;have ed:g≠i:= λe=>by subst e;have:=RW.inj (by decide) (by decide) hg hi;omega
  obtain⟨r,s1,e1,C1,y,rfl,x1,sW,k1,⟨f1,f2,f3⟩,z1⟩:=aak (m+1) (by omega) h (by omega) hw (λx hx=>by
   simp only[bu,aX,db]at hx;rcases hx with rfl|rfl|rfl
   ·exact⟨EC,by omega⟩
   ·exact⟨hgl,by omega⟩
   ·exact⟨uB,by omega⟩) (by simp only[xh,bu,aX,db,not_or,S5,Jn,zS];exact⟨⟨λe=>by subst e;omega,λe=>by subst e;omega⟩,ed⟩) (by simp) (by simp) λx hx h4=>by
   simp only[bu,aX,db]at hx;rcases hx with rfl|rfl|rfl
   ·refine⟨kf,by rw[vY];rfl,λhm=>?_,by omega⟩;simp only[bu,aX,db]at hm;rcases hm with rfl|rfl|rfl<;>omega
   ·omega
   ·omega
  exact⟨_,s1,e1,C1,y,rfl,x1,sW,k1,LI.late (by decide) f1,z1⟩
 ·intro s C h hz;exact abp (m+1) (by omega) h (by omega) (by decide)
 ·intro s C h hz b;exact aLz (m+1) (by omega) h (by omega) b
 ·intro s C w f g h hz hw hf hg b;obtain⟨EC,hf7⟩:=hf.kind;obtain⟨hgl,Zr⟩:=hg;have jm:4<=sJ C.φ g∧sJ C.φ g<=5:=by
   rcases Zr with h|⟨h,_⟩<;>omega
  obtain⟨r,s1,e1,C1,y,rfl,x1,sW,k1,⟨f1,f2,f3⟩,z1⟩:=aak (m+1) (by omega) h (by omega) hw (λx hx=>by
   simp only[bu,aX,db]at hx;rcases hx with rfl|rfl
   ·exact⟨EC,by omega⟩
   ·exact⟨hgl,by omega⟩) (by simp;intro e;subst e;omega) (by simp) (by simp) λx hx h4=>by
   simp only[bu,aX,db]at hx;rcases hx with rfl|rfl
   ·omega
   ·rcases Zr with h5|⟨_,k,vt,Zg⟩
    ·omega
    ·refine⟨k,vt,λhm=>?_,by omega⟩;simp only[bu,aX,db]at hm;rcases hm with rfl|rfl<;>omega
  exact⟨_,s1,e1,C1,y,rfl,x1,sW,k1,LI.late (by cases b<;>decide) f1,z1⟩
end
section
variable {Pt:List cx->Prop} {lp p t:Nat} {C C':Cx}
def He (n:Nat) (h:LS s d σ φ):cp (aE (n+1) (dJ 13) [a8 d.lp] s) (λr s'=>r=a8 d.p∧s'=s):=by
 rw[aJU];refine bG (by simp) λm hm=>?_;have h0:m.get 0=some (a8 d.lp):=by rw[hm];rfl
 clear hm;have l0:=h.own.ld eU (o:=0) (by simp);simp only[ae]at l0;unfold c13;apply aT;unfold akX;apply ar;simp+decide only[ag];apply dh;unfold akY;apply ar;simp+decide only[ag,h0,lz];refine dD (by simp+decide only[ag]) ?_;unfold akZ;apply aJ;simp+decide only[ag,h0,cH,bO,aG,l0];exact aR (b6 (v:=a8 d.p) (.inr rfl) (by simp+decide only[ag]) ⟨rfl,rfl⟩)
def fvar (hg:Good s) (ty:Nat) (f:Value) (z:Value) (hc:f.cells= #[f]) (h1:dZ f=true):∃s',(∀lo tm,tB ty [z] lo tm s=some (a8 s.nx,s.add (ca ty [z])))∧jK 1 (s.add (ca ty [z])) (a8 s.nx) f=some (.tuple #[],s')∧Grown s.nx s s'∧s'.nx=s.nx+1∧ay s' s.nx ty [f]:=by have dv:=fW hg (ca ty [z]);have v1:=ay.new hg ty [z];have st:=v1.Fu dv (o:=0) (v:=f) (by simp) hc h1;rw[dM]at st;exact⟨_,λlo tm=>iH hg _ _,st,((Grown.refl hg _).add (af _) _).wr (af _) (v1.lt dv) _,rfl,ay.set dv (v1.lt dv) ty _⟩
def Yu (n:Nat) (hg:Good s) (h:LS s C.d C.σ C.φ) (hf:FW C.φ) (ht:TF C.φ) (Vv:Pt C.σ):
  cp (aE (n+2) (dJ 30) [a8 C.d.lp,aw (t:Int),.bool true] s) (λr s'=>r=RF s.nx (s.nx+1) (s.nx+2) (s.nx+4) (s.nx+5) (s.nx+6)∧kL Pt C.d.lp C.d.p t s.nx (s.nx+1) (s.nx+2) (s.nx+3) (s.nx+4) (s.nx+5) (s.nx+6) s' C∧Grown s.nx s s'):=by
 rw[aKc];refine bG (by simp) λm hm=>?_;have h0:m.get 0=some (a8 C.d.lp):=by rw[hm];rfl
 have h1:m.get 1=some (aw (t:Int)):=by rw[hm];rfl
 have h2:m.get 2=some (.bool true):=by rw[hm];rfl
 clear hm;obtain⟨s1,dm⟩:=dO (s.add (ca 24 [a8 C.d.lp]));have dv:=cz dm hg;have n1:s1.nx=s.nx+1:=by rw[dm];rfl
 have v1:=jS dm hg;have fV:=cM dm hg;have qR:ia 24 s (a8 C.d.lp)=some (a8 s.nx,s1):=by rw[ez hg,dm];rfl
 obtain⟨s2,ee⟩:=dO (s1.add (ca 3 [aw (t:Int)]));have dI:=cz ee dv;have n2:s2.nx=s.nx+2:=by rw[ee,ep,n1]
 have v2:ay s2 (s.nx+1) 3 [aw (t:Int)]:=by rw[ee,<-n1];exact ay.new dv 3 _
 have iE:=cM ee dv;have wV:ia 3 s1 (aw (t:Int))=some (a8 (s.nx+1),s2):=by rw[ez dv,ee,n1];rfl
 obtain⟨s3,gy⟩:=dO (s2.add (ca 4 [.bool true]));have gQ:=cz gy dI;have n3:s3.nx=s.nx+3:=by rw[gy,ep,n2]
 have v3:ay s3 (s.nx+2) 4 [.bool true]:=by rw[gy,<-n2];exact ay.new dI 4 _
 have iZ:=cM gy dI;have hb3:ia 4 s2 (.bool true)=some (a8 (s.nx+2),s3):=by rw[ez dI,gy,n2];rfl
 have ER:=iE.trans (iZ.le iE.nx);have oB:Grown s.nx s s3:=fV.trans (ER.le fV.nx);have ls3:=h.ext hg oB;obtain⟨_,s3',Vt,rfl,aoz⟩:=He n ls3;rw[aoz]at Vt;have ll:=(v1.grown ER (by omega)).ld cT (o:=0) (by simp);simp only[ae]at ll;obtain⟨s4,al4,Zp,nI,n4,v4⟩:=fvar gQ 44 (a8 C.d.p) (.pointer none) rfl rfl;obtain⟨s5,al5,Lw,lE,n5,v5⟩:=fvar nI.bt 120 (Ls s.nx (s.nx+1)) .nilFunc rfl rfl;obtain⟨s6,al6,LG,zQ,n6,v6⟩:=fvar lE.bt 40 (Gj s.nx (s.nx+1)) .nilFunc rfl rfl;obtain⟨s7,al7,Vu,Q7,n7,v7⟩:=fvar zQ.bt 56 (Gk s.nx (s.nx+1) (s.nx+3)) .nilFunc rfl rfl;have n4':s4.nx=s.nx+4:=by omega
 have n5':s5.nx=s.nx+5:=by omega
 have n6':s6.nx=s.nx+6:=by omega
 rw[n3]at al4 Zp v4;rw[n4']at al5 Lw v5;rw[n5']at al6 LG v6;rw[n6']at al7 Vu v7;have WO:Grown s6.nx s6 s7:=Q7;have wU:Grown s5.nx s5 s7:=zQ.trans (Q7.le zQ.nx);have aym:Grown s4.nx s4 s7:=lE.trans (wU.le lE.nx);have Ru:Grown s3.nx s3 s7:=nI.trans (aym.le nI.nx);have ayn:Grown s2.nx s2 s7:=iZ.trans (Ru.le iZ.nx);have ayo:Grown s1.nx s1 s7:=iE.trans (ayn.le iE.nx);have Ln:Grown s.nx s s7:=fV.trans (ayo.le fV.nx);have Lw:jK 1 (s4.add (ca 120 [.nilFunc])) (a8 (s.nx+4)) (.func (.func 72) ⟨[]⟩ ⟨[a8 s.nx,a8 (s.nx+1)]⟩)=some (.tuple #[],s5):=Lw;have LG:jK 1 (s5.add (ca 40 [.nilFunc])) (a8 (s.nx+5)) (.func (.func 73) ⟨[]⟩ ⟨[a8 s.nx,a8 (s.nx+1)]⟩)=some (.tuple #[],s6):=LG;have Vu:jK 1 (s6.add (ca 56 [.nilFunc])) (a8 (s.nx+6)) (.func (.func 74) ⟨[]⟩ ⟨[a8 s.nx,a8 (s.nx+1),a8 (s.nx+3)]⟩)=some (.tuple #[],s7):=Vu;unfold c30;apply aT;unfold ak7;apply ar;simp+decide only[ag,h0,h1,h2,qR,wV,hb3];apply aT;unfold ak8;apply ar;simp+decide only[ag,ll,Vt,al4,Zp];apply aT;unfold ak9;apply ar;simp+decide only[ag,jz,al5,Lw];apply aT;unfold ala;apply ar;simp+decide only[ag,jz,al6,LG];apply aT;unfold alb;apply ar;simp+decide only[ag,jz,al7,Vu];apply aT;unfold alc;apply ar;simp+decide only[ag,jz];exact aR (b6 (v:=RF s.nx (s.nx+1) (s.nx+2) (s.nx+4) (s.nx+5) (s.nx+6)) (.inr rfl) (by simp+decide only[ag];rfl) ⟨rfl,⟨Ln.bt,h.ext hg Ln,hf,ht,rfl,rfl,Vv,v1.grown ayo (by omega),v2.grown ayn (by omega),v3.grown Ru (by omega),v4.grown aym (by omega),v5.grown wU (by omega),v6.grown WO (by omega),v7⟩,Ln⟩)
def KZ (k:Nat) {tr:Bool} {Jj:Cx->List Nat->Prop} {p6 kX:Cx->Nat->Nat->Prop} {sw CY:Cx->Nat->Prop} {Ax:Cx->Nat->Nat->Prop} (hg:Good s) (h:LS s C.d C.σ C.φ) (hf:FW C.φ) (ht:TF C.φ) (Vv:Pt C.σ) (htl:t<C.σ.length) (hz:C.sz<=48) (HA:∀b3 b4 b5 b7 b8 b9 fh,Ob (k+1) C.d.lp t b3 b4 b5 b7 b8 b9 fh (kL Pt C.d.lp C.d.p t b3 b4 b5 b7 b8 b9 fh) Jj p6 kX sw CY Ax gD (Iy b4)) (HO:∀b3 b4 b5 b7 b8 b9 fh,OnH k C.d.lp tr (kL Pt C.d.lp C.d.p t b3 b4 b5 b7 b8 b9 fh) Ax gD (Iy b4)):
  cp (aE (k+4) (dJ 8) [a8 C.d.lp,aw (t:Int)] s) (λv s'=>∃C' R,(∃b3 b4 b5 b7 b8 b9 fh,kL Pt C.d.lp C.d.p t b3 b4 b5 b7 b8 b9 fh s' C')∧C'.sz<=150∧K5 s s'∧Sl s'.nx s' 3 1 v (ints R)∧(tr=true->R= [])∧(tr=false->16<=R.length∧∀i (h:i<R.length),i<16->Ax C' i R[i])):=by
 rw[ev8];refine bG (by simp) λm hm=>?_;have h0:m.get 0=some (a8 C.d.lp):=by rw[hm];rfl
 have h1:m.get 1=some (aw (t:Int)):=by rw[hm];rfl
 clear hm;obtain⟨_,_,Vt,rfl,rfl⟩:=He (k+2) h;obtain⟨_,_,e28,rfl,rfl⟩:=SM (k+2) hg h.ts;have d1:decide ((t:Int)<0)=false:=az (by omega);have d2:decide ((C.σ.length:Int)<=(t:Int))=false:=az (by omega);obtain⟨_,s1,e30,rfl,sW,fV⟩:=Yu (Pt:=Pt) (t:=t) (k+1) hg h hf ht Vv;have dv:=sW.bt;obtain⟨s2,ee⟩:=dO (s1.add (.map 3 [] 0));have iE:=cM ee dv;have yL:kq s2 s1.nx λ_=>0:=by rw[ee];exact kq.new dv
 obtain⟨CZ,-⟩:=sW.grown iE;obtain⟨r,s3,e29,C',R,EF,z3,k3,sl3,q1,q2⟩:=ajb (HO _ _ _ _ _ _ _) (HA _ _ _ _ _ _ _) CZ yL hz;unfold c8;apply aT;unfold axs;apply ar;simp+decide only[ag];apply dh;unfold axt;apply ar;simp+decide only[ag,h0,h1,lz,d1,d2,Vt,e28];refine dD (by simp+decide only[ag]) ?_;apply aT;unfold axu;apply ar;simp+decide only[ag,h0,h1,e30,uP dv,<-ee,e29];exact aR (b6 (.inr rfl) (by simp+decide only[ag]) ⟨C',R,⟨_,_,_,_,_,_,_,EF⟩,z3,((fV.k5 hg).trans (iE.k5 dv)).trans k3,sl3,q1,q2⟩)
def aEf (k:Nat) (hk:3<=k) (b3 b4 b5 b7 b8 b9 fh:Nat):OnH k lp false (kL (F7 t) lp p t b3 b4 b5 b7 b8 b9 fh) (LI t) gD (Iy b4):=by
 obtain⟨n,rfl⟩:∃n,k=n+3:=⟨k-3,by omega⟩
 refine⟨λh=>h.bt,λh hg=>h.grown hg,λhx=>hx.2.2.2,λhx h=>LI.mono hx h,λels h=>Iy.new els h,λh hx=>h.ext hx,λh Ay hn ho hq hm=>h.frame Ay hn ho hq hm,λ {s C j y} h hj ha=>?_,λhi hj h h' _=>h.inj hi hj h'⟩;obtain⟨_,s1,e1,rfl,g1⟩:=yn n h.bt h.ls ha.lt;rw[h.LH]at e1;have hy:=ha.lt;refine⟨C.φ[y].kind,⟨_,s1,e1,rfl,g1⟩,(λe=>by cases e),λ_ aLB=>?_⟩;have:=ha.or aLB;rw[jc ha.lt]at this;omega
def ad5 (k:Nat) (hk:200<=k) (hg:Good s) (h:LS s C.d C.σ C.φ) (hf:FW C.φ) (ht:TF C.φ) (Vv:F7 t C.σ) (hz:C.sz<=48):
  cp (aE (k+4) (dJ 8) [a8 C.d.lp,aw (t:Int)] s) (λv s'=>∃C' R,Good s'∧LS s' C'.d C'.σ C'.φ∧C'.d.lp=C.d.lp∧FW C'.φ∧K5 s s'∧Sl s'.nx s' 3 1 v (ints R)∧16<=R.length∧∀i (h:i<R.length),i<16->LI t C' i R[i]):=by
 obtain⟨r,s1,e1,C',R,⟨_,_,_,_,_,_,_,ok⟩,_,k5,sl,_,hR⟩:=KZ (Pt:=F7 t) (t:=t) (tr:=false) k hg h hf ht Vv Vv.2.1 hz (λb3 b4 b5 b7 b8 b9 fh=>aEe (k+1) (by omega)) (λb3 b4 b5 b7 b8 b9 fh=>aEf k (by omega) b3 b4 b5 b7 b8 b9 fh);exact⟨r,s1,e1,C',R,ok.bt,ok.ls,ok.LH,ok.fw,k5,sl,(hR rfl).1,(hR rfl).2⟩
end
def GC (n:Nat) (o:Out) (f:LVal->AS->Bool):Bool:=match o with| .val (.agg ⟨l⟩) s=>aD (Nat.beq (len l) n) (aD (l.all (ui s.nx)) (aD (Nat.ble s.nx 200) (f l s) false) false) false|_=>false
def B6 {o:Out} {f:LVal->AS->Bool} (h:GC n o f=true):∃(l:LVal) (s:AS),o= .val (.agg ⟨l⟩) s∧l.length=n∧(∀x∈l,ui s.nx x=true)∧f l s=true:=by
 unfold GC at h;split at h
 ·rename_i l s;obtain⟨h1,h⟩:=ux h;obtain⟨h2,h⟩:=ux h;obtain⟨h3,h⟩:=ux h;rw[dQ]at h1;exact⟨l,s,rfl,au h1,List.all_eq_true.1 h2,h⟩
 ·cases h
def AZ:bQ->Bool|some (.slice none 0 0)=>true|_=>false
def abq (any:Bool):Out->Bool| .val (.int .i64 a) _=>aD any true (decide (a<=0))|_=>false
def p7 (any:Bool) (vc:LVal) (b:Bool):Bool:=
 kW (.agg ⟨eL 0 1 513 2 513⟩) 5 (du 16 [aw 0] W0) λW1=>
 kW (.agg ⟨jb b 5 6⟩) 7 (du 54 [aw (cI b)] W1) λW2=>
 kW (.agg ⟨eL 7 8 514 9 518⟩) 12 (du 77 [.agg ⟨eL 0 1 513 2 513⟩,.agg ⟨jb b 5 6⟩] W2) λW3=>
 aD (Gx W3 8 3 1 [[aw 0]]) (aD (Gx W3 9 51 3 [jb b 10 11])
 (kW (.agg ⟨cL 12⟩) 13 (du 53 [.agg ⟨[.bool false,.slice none 0 0,fF 7 514]⟩] W3) λW4=>
 kW (.agg ⟨eL 13 14 513 15 513⟩) 18 (du 16 [aw 0] W4) λW5=>
 GC 2 (du 84 [.agg ⟨vc⟩] W5) λA6 W6=>
 GC 3 (du 45 [.agg ⟨A6⟩] W6) λA7 W7=>
 GC 5 (du 53 [.agg ⟨A7⟩] W7) λA8 W8=>
 GC 5 (du 77 [.agg ⟨A8⟩,.agg ⟨jb b 10 11⟩] W8) λA9 W9=>
 GC 5 (du 85 [.slice (some ⟨W9.nx,0,none⟩) 2 (bH 2)] (W9.add (.cells (rowOf [cL 12,A9]) 5 2 false 54))) λFy W10=>
 aD (AZ Fy[3]?) (abq any (du 43 [.agg ⟨Fy.take 3⟩] W10)) false) false) false
def consts:List (Nat×Bool×List UInt8×List UInt8):= [(0,false,[],[]),(1,true,[],[]),(1,false,[],[]),(2,false,[48],[]),(2,false,[49],[]),(2,false,[45,49],[]),(2,false,[50],[]),(2,false,[53],[]),(3,false,[],[97]),(3,false,[],[98]),(4,false,[],[])]
