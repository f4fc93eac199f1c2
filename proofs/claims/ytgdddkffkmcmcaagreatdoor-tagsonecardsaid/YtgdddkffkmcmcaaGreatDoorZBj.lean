import Derived.Test.YtgdddkffkmcmcaaGreatDoorZBi
/- Part of the proof that TagsOne answers true. -/
set_option linter.all false
set_option maxRecDepth 100000
noncomputable section
namespace Go.Eng
open Go Go.Proofs Go.Proofs.Tryz
variable {s s' s0:AS} {v u y x v' x':Value} {n t b i k f a r p q j et ck nt kt e ty off:Nat} {w w':World} {o:Option Nat} {l vs l':LVal} {rows R els:List LVal} {tm tm':T Value} {es:List (Value×Value×Nat)} {ts:Array TypeId} {lo:Lo} {X:QJ} {P:Program} {F:Fence} {S:List Nat} {ρ ρ':Ren} {m:TM n} {σ:List cx} {φ fj:List dA} {d d':LV}
def Wj {e:EK} {c:Bool} (a bits:Nat) (ha:a<6) (hb:bits<256):eJ .shr e c (aw (a:Int)) (.int .u8 (bits:Int))=some (.int .u8 ((bits/2^a:Nat):Int)):=by show ob (um (a:Int)) (λn=>JS .shr .u8 (bits:Int) n)=_;show JS .shr .u8 (bits:Int) a=_;show m5 .u8 (Int.fdiv (bits:Int) (.ofNat (Nat.pow 2 (Nat.min a 8))))=_;rw[show Nat.min a 8=a from Nat.min_eq_left (by omega),fI];have h:Int.fdiv (bits:Int) (.ofNat (Nat.pow 2 a))=((bits/2^a:Nat):Int):=(Int.ofNat_fdiv bits (2^a)).symm;rw[h]
def PA {e:EK} {c:Bool} (x:Nat) (hx:x<256):eJ .and e c (.int .u8 1) (.int .u8 (x:Int))=some (.int .u8 ((x%2:Nat):Int)):=by
 show aD (tz .u8 .u8) (m5 .u8 (IntKind.u8.wrap ((BitVec.ofInt 8 (x:Int)&&&BitVec.ofInt 8 1).toNat:Int))) none=_;rw[iu,aS,fI];have h:(BitVec.ofInt 8 (x:Int)&&&BitVec.ofInt 8 1).toNat=x%2:=by
  rw[BitVec.toNat_and];have h1:(BitVec.ofInt 8 (x:Int)).toNat=x:=by rw[BitVec.toNat_ofInt];omega
  have h2:(BitVec.ofInt 8 1).toNat=1:=rfl;rw[h1,h2,Nat.and_one_is_mod]
 rw[h];have:IntKind.u8.wrap ((x%2:Nat):Int)=((x%2:Nat):Int):=by have h:IntKind.u8.wrap ((x%2:Nat):Int)=((x%2:Nat):Int)%256:=rfl;rw[h];omega
 rw[this]
theorem aeh (w:Bool) (a:Array Value):pJ w (some (.tuple a))=some false:=rfl
def uy (bits a:Nat):Nat:=bits/2^a%2
def PB (bits a:Nat):uy bits a<2:=uE _ (by decide)
def Lit (t:Nat) (C:Cx) (a:Nat) (sg:Bool) (x:Nat):Prop:=a<6∧(sg=true∧F8 t C a x∨sg=false∧RV t C a x)
def RG (bits a:Nat) (sg:Bool):Bool:=decide (uy bits a=if sg then 1 else 0)
def ajH (n:Nat) {C:Cx} {bits:Nat} {kv:Value} {K:List Nat} {β:Nat->Bool} {m:TM 112} {Q:cZ->TM 112->AS->Prop} (xP:bits<256) (hg:Good s) (h:LS s C.d C.σ C.φ) (hK:Sl s.nx s 3 1 kv (ints K)) (hKl:K.length<=100) (NX:∀x∈K,∃a sg,Lit t C a sg x∧β x=RG bits a sg) (h1:m.get 1=some (.int .u8 (bits:Int))) (h5:m.get 5=some (a8 C.d.lp)) (h13:m.get 13=some kv) (h14:m.get 14=some (.bool false)) (hQ:∀m' s',(∀k,k∉ [14,15,16,17,70,80]->m'.get k=m.get k)->m'.get 14=some (.bool (K.any β))->Grown s.nx s s'->Q .normal m' s'):
  WC (aE (n+4)) (ah UG (bP 4 (fM (ah (ah UH (bw (aK 70) (aQ .normal) (aQ (.exit 4)))) (ah (bP 5 (ah UI (ah (ah UJ (bw (aK 80) (ah UK UL) (aQ .normal))) J2))) Oq))))) Q m s:=by
 have hlen:=hK.len;rw[dE]at hlen;unfold UG;apply aJ;simp+decide only[ag,↓iq];refine bY (eW (λm' s'=>∃j:Nat,j<=K.length∧(∀k,k∉ [14,15,16,17,70,80]->m'.get k=m.get k)∧m'.get 14=some (.bool ((K.take j).any β))∧m'.get 15=some (aw (j:Int))∧Grown s.nx s s')
  (λm' _=>match m'.get 15 with|some (.int _ j)=>(100-j).toNat|_=>0) ?_ ?_ ?_)
 ·refine⟨0,by omega,λk hk=>?_,by simp+decide only[ag,↓iq,h14];rfl,by simp+decide only[ag,↓iq,aW],Grown.refl hg _⟩;rw[TM.iT _ _ _ _ (by decide),aC (λe=>hk (by rw[e];decide))]
 ·simp+decide only[ag,↓iq]
 rintro m' s' ⟨j,hj,dU,h14,h15,gr⟩;have g5:m'.get 5=some (a8 C.d.lp):=by rw[dU 5 (by decide)];exact h5
 have g13:m'.get 13=some kv:=by rw[dU 13 (by decide)];exact h13
 have Ay:=gr.bt;apply dh;unfold UH;apply ar;by_cases cS:j<K.length
 ·have hd:decide ((j:Int)<(K.length:Int))=true:=aL (by omega);simp+decide only[ag,↓iq,g13,h15,hlen,hd];refine iP (by simp+decide only[ag,↓iq]) ?_;apply aR;simp+decide only[ag,↓iq];have Az:j<(ints K).length:=by rw[dE];exact cS
  have sl':=hK.ext gr.eb;have ix:=sl'.ix (P:=prog) (t:=38) Az (k:= .i64);have ld:=sl'.ld bM Az (gJ cS);rw[cO]at ld;obtain⟨a,sg,⟨ha,hl⟩,hβ⟩:=NX K[j] (aV cS);have hx:K[j]<C.φ.length:=by
   rcases hl with ⟨_,h⟩|⟨_,h⟩
   ·exact h.kind.1
   ·exact h.kind.1
  have ls':=h.ext hg gr;obtain⟨_,s1,e1,rfl,fV⟩:=yn (n+1) Ay ls' hx;have Zs:=h.ext hg (gr.trans (fV.le gr.nx));have zM:(K.take (j+1)).any β=((K.take j).any β||β K[j]):=by rw[cQ cS,List.any_append];simp
  have w1:IntKind.i64.wrap ((j:Int)+1)=((j+1:Nat):Int):=by rw[wrap_i64 (by omega)];omega
  refine aT (bY (aT ?_));unfold UI;apply ar;simp+decide only[ag,↓iq,g13,h15,ix,ld];apply dh;unfold UJ;apply ar;have tail:∀(m2:TM 112) (s2:AS) (g:Nat),F8 t C a g->Grown s.nx s s2->(∀k,k∉ [14,15,16,17,70,80]->m2.get k=m.get k)->m2.get 14=some (.bool ((K.take j).any β))->m2.get 15=some (aw (j:Int))->m2.get 16=some (aw (g:Int))->m2.get 17=some (.int .u8 ((if sg then 1 else 0:Nat):Int))->WC (aE (n+4)) J2 (λx m3 s3=>x= .normal∧(∀k,k∉ [14,15,16,17,70,80]->m3.get k=m.get k)∧m3.get 14=some (.bool ((K.take (j+1)).any β))∧m3.get 15=some (aw (j:Int))∧Grown s.nx s s3) m2 s2:=by
   intro m2 s2 g hgt iE ee q14 q15 q16 q17;have q1:m2.get 1=some (.int .u8 (bits:Int)):=by rw[ee 1 (by decide)];exact h1
   have q5:m2.get 5=some (a8 C.d.lp):=by rw[ee 5 (by decide)];exact h5
   unfold J2;apply ar;rw[zM,hβ];cases agj:(K.take j).any β with
   |true=>rw[agj]at q14;simp+decide only[ag,↓iq,q14,aeh,Bool.true_or];refine⟨λk hk=>?_,q15,iE⟩;rw[aC (λe=>hk (by rw[e];decide))];exact ee k hk
   |false=>
    rw[agj]at q14;obtain⟨hgl,Zr⟩:=hgt;obtain⟨k7,aLV,_⟩:=dA.j2 Zr;have ls2:=h.ext hg iE;obtain⟨_,s3,e3,rfl,iZ⟩:=yn (n+1) iE.bt ls2 hgl;have ls3:=h.ext hg (iE.trans (iZ.le iE.nx));obtain⟨_,s4,e4,rfl,nI⟩:=TE (n+1) iZ.bt ls3 hgl;rw[k7]at e3;rw[aLV]at e4;have e3:aE (n+4) (dJ 9) [a8 C.d.lp,aw (g:Int)] s2= .val (aw 7) s3:=e3;have hdiv:bits/2^a<256:=OJ (Nat.div_le_self _ _) xP;have dl:decide (((bits/2^a%2:Nat):Int)=((if sg then 1 else 0:Nat):Int))=RG bits a sg:=by
     unfold RG uy;by_cases e:bits/2^a%2=if sg then 1 else 0
     ·rw[aL e,aL (by rw[e])]
     ·rw[az e,az (λe2=>e (by exact_mod_cast e2))]
    simp+decide only[ag,↓iq,q1,q5,q14,q16,q17,e3,show decide ((7:Int)=7)=true from rfl,e4,Wj a bits ha xP,PA _ hdiv,dl,Bool.false_or];refine⟨λk hk=>?_,q15,iE.trans ((iZ.trans (nI.le iZ.nx)).le iE.nx)⟩;rw[aC (λe=>hk (by rw[e];decide))];exact ee k hk
  have back:∀(m2:TM 112) (s2:AS) (g:Nat),F8 t C a g->Grown s.nx s s2->(∀k,k∉ [14,15,16,17,70,80]->m2.get k=m.get k)->m2.get 14=some (.bool ((K.take j).any β))->m2.get 15=some (.int .i64 (j:Int))->m2.get 16=some (.int .i64 (g:Int))->m2.get 17=some (.int .u8 ((if sg then 1 else 0:Nat):Int))->WC (aE (n+4)) J2 (yX 5 (Seq (aE (n+4)) Oq (Round (λm' s'=>∃j:Nat,j<=K.length∧(∀k,k∉ [14,15,16,17,70,80]->m'.get k=m.get k)∧m'.get 14=some (.bool ((K.take j).any β))∧m'.get 15=some (.int .i64 (j:Int))∧Grown s.nx s s') (λm' _=>match m'.get 15 with|some (.int _ j)=>(100-j).toNat|_=>0) (100-(j:Int)).toNat (yX 4 Q)))) m2 s2:=by
   intro m2 s2 g a1 a2 a3 a4 a5 a6 a7;refine WC.mono (tail m2 s2 g a1 a2 a3 a4 a5 a6 a7) ?_;rintro x m3 s3 ⟨rfl,b1,b2,b3,b4⟩;simp+decide only[ag,↓iq];unfold Oq;apply ar;simp+decide only[ag,↓iq,b3,w1,h15];refine⟨⟨j+1,by omega,λk hk=>?_,b2,by first|rfl|rw[w1],b4⟩,?_⟩
   rotate_left
   ·show(100-((j+1:Nat):Int)).toNat<(100-(j:Int)).toNat;omega
   rw[aC (λe=>hk (by rw[e];decide))];exact b1 k hk
  rcases hl with ⟨hsg,hl⟩|⟨hsg,hl⟩
  ·have hk7:=hl.kind.2;rw[jc hx]at hk7;rw[hk7]at e1;have e1:aE (n+4) (dJ 9) [a8 C.d.lp,aw (K[j]:Int)] s'= .val (aw 7) s1:=e1;simp+decide only[ag,↓iq,g5,e1,show decide ((7:Int)=4)=false from rfl];refine dD (by simp+decide only[ag,↓iq]) ?_;simp+decide only[ag,↓iq];refine back _ _ K[j] hl (gr.trans (fV.le gr.nx)) (λk hk=>?_) ?_ ?_ ?_ ?_
   rotate_left
   ·simp+decide only[ag,↓iq,h14]
   ·simp+decide only[ag,↓iq,h15]
   ·simp+decide only[ag,↓iq]
   ·simp+decide only[ag,↓iq];rw[hsg];rfl
   have h17:k≠17:= λe=>hk (by rw[e];decide);have Dt:k≠16:= λe=>hk (by rw[e];decide);have h70:k≠70:= λe=>hk (by rw[e];decide);have h80:k≠80:= λe=>hk (by rw[e];decide);simp+decide only[ag,↓iq];rw[aC h80,aC h17,aC Dt,aC h70];exact dU k hk
  ·obtain⟨_,hk4,g,hgt,vY⟩:=hl.kind;rw[jc hx]at hk4;rw[hk4]at e1;have e1:aE (n+4) (dJ 9) [a8 C.d.lp,aw (K[j]:Int)] s'= .val (aw 4) s1:=e1;rw[qy hx]at vY;obtain⟨kw,s2,e2,iE,sl2⟩:=Pm n fV.bt Zs hx (by rw[vY];simp);rw[vY]at sl2;have ix2:=sl2.ix (P:=prog) (t:=38) (i:=0) (by simp[ints]) (k:= .i64);have ld2:=sl2.ld bM (i:=0) (by simp[ints]) (x:=aw (g:Int)) (by simp[ints]);simp only[aW]at ix2;simp+decide only[ag,↓iq,g5,e1,show decide ((4:Int)=4)=true from rfl];refine iP (by simp+decide only[ag,↓iq]) ?_;apply aT;unfold UK;apply ar;simp+decide only[ag,↓iq,g5,e2,ix2,ld2];unfold UL;apply ar;simp+decide only[ag,↓iq];refine back _ _ g hgt (gr.trans ((fV.trans (iE.le fV.nx)).le gr.nx)) (λk hk=>?_) ?_ ?_ ?_ ?_
   rotate_left
   ·simp+decide only[ag,↓iq,h14]
   ·simp+decide only[ag,↓iq,h15]
   ·simp+decide only[ag,↓iq]
   ·simp+decide only[ag,↓iq];rw[hsg];rfl
   have h17:k≠17:= λe=>hk (by rw[e];decide);have Dt:k≠16:= λe=>hk (by rw[e];decide);have h70:k≠70:= λe=>hk (by rw[e];decide);have h80:k≠80:= λe=>hk (by rw[e];decide);simp+decide only[ag,↓iq];simp only[h17,Dt,h80,h70,eG];exact dU k hk
 ·have hd:decide ((j:Int)<(K.length:Int))=false:=az (by omega);simp+decide only[ag,↓iq,g13,h15,hlen,hd];refine dD (by simp+decide only[ag,↓iq]) ?_;simp+decide only[ag,↓iq];refine hQ _ _ (λk hk=>?_) ?_ gr
  ·rw[TM.iT _ _ _ _ (by decide),aC (λe=>hk (by rw[e];decide))];exact dU k hk
  ·simp+decide only[ag,↓iq,h14];rw[aP (by omega)]
def Lit.inj {t:Nat} {C:Cx} {a a':Nat} {sg sg':Bool} {x:Nat} (h:Lit t C a sg x) (h':Lit t C a' sg' x):a=a'∧sg=sg':=by
 obtain⟨_,h|h⟩:=h<;>obtain⟨_,h'|h'⟩:=h'
 ·exact⟨h.2.inj h'.2,h.1.trans h'.1.symm⟩
 ·have h1:=h.2.kind.2;have h2:=h'.2.kind.2.1;omega
 ·have h1:=h'.2.kind.2;have h2:=h.2.kind.2.1;omega
 ·exact⟨h.2.inj h'.2,h.1.trans h'.1.symm⟩
def BE (t:Nat) (C:Cx) (bits x:Nat):Bool:= @decide (∃a sg,Lit t C a sg x∧RG bits a sg=true) (Classical.propDecidable _)
def rM {C:Cx} {bits x:Nat} {sg:Bool} (h:Lit t C a sg x):BE t C bits x=RG bits a sg:=by
 unfold BE;cases hb:RG bits a sg with
 |true=>exact @aL _ (Classical.propDecidable _) ⟨a,sg,h,hb⟩
 |false=>refine @az _ (Classical.propDecidable _) ?_;rintro⟨a',sg',h',iR⟩;obtain⟨rfl,rfl⟩:=h.inj h';rw[hb]at iR;cases iR
def abu:List (Nat×Nat):= [(0,1),(0,2),(0,3),(0,4),(0,5),(1,2),(1,3),(1,4),(1,5),(2,3),(2,4),(2,5),(3,4),(3,5),(4,5)]
def hol (bits i:Nat):Bool:=if i=0 then(List.range 6).any λa=>decide (uy bits a=1)else match abu[i-1]? with
 |some (a,b)=>decide (uy bits a=0)||decide (uy bits b=0)
 |none=>true
def Yz:∀i:Fin 16,0<i.1->∃a b:Fin 6,a.1<b.1∧i.1=pos a.1 b.1∧abu[i.1-1]? =some (a.1,b.1):=by decide
def Bs (bits j:Nat):Nat:=((List.range j).map (uy bits)).sum
def brk (bits i:Nat):Bool:=(List.range i).any λj=>!hol bits j
def K2 (bits j:Nat):Bs bits (j+1)=Bs bits j+uy bits j:=by unfold Bs;rw[List.range_succ,bS,xj];simp
def PC (bits j:Nat):brk bits (j+1)=(brk bits j||!hol bits j):=by unfold brk;rw[List.range_succ,List.any_append];simp
def ajI (bits j:Nat):Bs bits j<=j:=by
 induction j with
 |zero=>exact af _
 |succ j ih=>rw[K2];have:=PB bits j;omega
def aei:∀b:Fin 256,(brk b.1 16==!decide (Bs b.1 6=1))=true:=by decide
def ajJ {C:Cx} {bits y:Nat} (hi:i<16) (h:LI t C i y):(∀x∈CX C.φ y,∃a sg,Lit t C a sg x∧BE t C bits x=RG bits a sg)∧(CX C.φ y).any (BE t C bits)=hol bits i∧(CX C.φ y).length<=6:=by
 by_cases h0:i=0
 ·obtain⟨L,⟨hl,hL⟩,hk⟩:=h.is h0;have qF:∀x,x∈CX C.φ y↔x∈L:= λx=>by
   rw[hk,(jC _).mem_iff,List.mem_reverse]
  have NX:∀a (ha:a<L.length),Lit t C a true L[a]:= λa ha=>⟨by omega,.inl ⟨rfl,hL a ha⟩⟩
  refine⟨λx hx=>?_,?_,by rw[hk,gf,gh];omega⟩
  ·obtain⟨a,ha,he⟩:=fE ((qF x).1 hx);rw[<-he];exact⟨a,true,NX a ha,rM (NX a ha)⟩
  ·unfold hol;rw[aU h0,eT,XA,XA];constructor
   ·rintro⟨x,hx,hb⟩;obtain⟨a,ha,he⟩:=fE ((qF x).1 hx);rw[<-he,rM (NX a ha)]at hb;exact⟨a,List.mem_range.2 (by omega),hb⟩
   ·rintro⟨a,ha,hb⟩;have ha:=List.mem_range.1 ha;have sT:a<L.length:=by omega
    refine⟨L[a],(qF _).2 (aV sT),?_⟩;rw[rM (NX a sT)];exact hb
 ·obtain⟨a,b,jJ,hp,hpp⟩:=Yz ⟨i,hi⟩ (by show 0<i;omega);obtain⟨f,g,hf,hg,hk⟩:=h.two a.1 b.1 jJ b.2 hp;have qF:∀x,x∈CX C.φ y↔x=g∨x=f:= λx=>by
   rw[hk,(jC _).mem_iff];simp
  have lf:Lit t C a.1 false f:=⟨a.2,.inr ⟨rfl,hf⟩⟩
  have lg:Lit t C b.1 false g:=⟨b.2,.inr ⟨rfl,hg⟩⟩
  refine⟨λx hx=>?_,?_,by rw[hk,gf];simp⟩
  ·rcases(qF x).1 hx with rfl|rfl
   ·exact⟨_,_,lg,rM lg⟩
   ·exact⟨_,_,lf,rM lf⟩
  ·have hpp:abu[i-1]? =some (a.1,b.1):=hpp;unfold hol;rw[aC h0,hpp];show _=(decide (uy bits a.1=0)||decide (uy bits b.1=0))
   rw[eT,XA,xf];have ef:=rM (bits:=bits) lf;have eg:=rM (bits:=bits) lg;constructor
   ·rintro⟨x,hx,hb⟩;rcases(qF x).1 hx with rfl|rfl
    ·rw[eg]at hb;exact .inr hb
    ·rw[ef]at hb;exact .inl hb
   ·rintro(hb|hb)
    ·exact⟨f,(qF _).2 (.inr rfl),by rw[ef];exact hb⟩
    ·exact⟨g,(qF _).2 (.inl rfl),by rw[eg];exact hb⟩
def ajK (n:Nat) {bits:Nat} {m:TM 112} {Q:cZ->TM 112->AS->Prop} (xP:bits<256) (h1:m.get 1=some (.int .u8 (bits:Int))) (h9:m.get 9=some (aw 0)) (hQ:∀m',(∀k,k∉ [9,11,47]->m'.get k=m.get k)->m'.get 9=some (aw (Bs bits 6:Int))->Q .normal m' s):
  WC (aE n) (ah aa0 (bP 0 (fM (ah (ah aa1 (bw (aK 47) (aQ .normal) (aQ (.exit 0)))) (ah (bP 1 aa2) aa3))))) Q m s:=by
 unfold aa0;apply aJ;simp+decide only[ag];refine bY (eW (λm' s'=>s'=s∧∃j:Nat,j<=6∧(∀k,k∉ [9,11,47]->m'.get k=m.get k)∧m'.get 9=some (aw (Bs bits j:Int))∧m'.get 11=some (aw (j:Int)))
  (λm' _=>match m'.get 11 with|some (.int _ j)=>(6-j).toNat|_=>0) ?_ ?_ ?_)
 ·refine⟨rfl,0,by omega,λk hk=>?_,by simp+decide only[ag,h9];rfl,by simp+decide only[ag,aW]⟩;rw[TM.iT _ _ _ _ (by decide),aC (λe=>hk (by rw[e];decide))]
 ·simp+decide only[ag]
 rintro m' s' ⟨rfl,j,hj,dU,h9,h11⟩;have g1:m'.get 1=some (.int .u8 (bits:Int)):=by rw[dU 1 (by decide)];exact h1
 apply dh;unfold aa1;apply ar;by_cases cS:j<6
 ·have hd:decide ((j:Int)<6)=true:=aL (by omega);simp+decide only[ag,h11,hd];refine iP (by simp+decide only[ag]) ?_;apply aR;simp+decide only[ag];have hdiv:bits/2^j<256:=OJ (Nat.div_le_self _ _) xP;have hs:=ajI bits j;have hb:=PB bits j;have w0:IntKind.i64.wrap ((bits/2^j%2:Nat):Int)=((uy bits j:Nat):Int):=by
   rw[wrap_i64 (by unfold uy at hb;omega)];rfl
  have w1:IntKind.i64.wrap ((Bs bits j:Int)+(uy bits j:Int))=((Bs bits (j+1):Nat):Int):=by rw[K2,wrap_i64 (by omega)];omega
  have w2:IntKind.i64.wrap ((j:Int)+1)=((j+1:Nat):Int):=by rw[wrap_i64 (by omega)];omega
  refine aT (bY ?_);unfold aa2;apply ar;simp+decide only[ag,g1,h9,h11,Wj j bits cS xP,PA _ hdiv,Pz,w0,w1];unfold aa3;apply ar;simp+decide only[ag,h11,w2];refine⟨⟨j+1,by omega,λk hk=>?_,rfl,rfl⟩,?_⟩
  ·have e9:k≠9:= λe=>hk (by rw[e];decide);have e11:k≠11:= λe=>hk (by rw[e];decide);have e47:k≠47:= λe=>hk (by rw[e];decide);simp only[e9,e11,e47,eG];exact dU k hk
  ·show(6-((j+1:Nat):Int)).toNat<(6-(j:Int)).toNat;omega
 ·have hd:decide ((j:Int)<6)=false:=az (by omega);simp+decide only[ag,h11,hd];refine dD (by simp+decide only[ag]) ?_;simp+decide only[ag];have h6:j=6:=by omega
  subst h6;refine hQ _ (λk hk=>?_) (by simp+decide only[ag,h9]);rw[TM.iT _ _ _ _ (by decide),aC (λe=>hk (by rw[e];decide))];exact dU k hk
def aEn (n:Nat) {C:Cx} {bits:Nat} {av:Value} {R:List Nat} {m:TM 112} {Q:cZ->TM 112->AS->Prop} (xP:bits<256) (hg:Good s) (h:LS s C.d C.σ C.φ) (hf:FW C.φ) (hR:Sl s.nx s 3 1 av (ints R)) (hRl:16<=R.length) (hax:∀i (h:i<R.length),i<16->LI t C i R[i]) (h1:m.get 1=some (.int .u8 (bits:Int))) (h5:m.get 5=some (a8 C.d.lp)) (h8:m.get 8=some av) (Be:m.get 10=some (.bool false)) (hQ:∀m' s',(∀k,k∉ [10,12,13,14,15,16,17,58,70,80]->m'.get k=m.get k)->m'.get 10=some (.bool (brk bits 16))->Grown s.nx s s'->Q .normal m' s'):
  WC (aE (n+4)) (ah aa4 (bP 2 (fM (ah (ah aa5 (bw (aK 58) (aQ .normal) (aQ (.exit 2)))) (ah (bP 3 (ah aa6 (ah aa7 (ah (ah UG (bP 4 (fM (ah (ah UH (bw (aK 70) (aQ .normal) (aQ (.exit 4)))) (ah (bP 5 (ah UI (ah (ah UJ (bw (aK 80) (ah UK UL) (aQ .normal))) J2))) Oq))))) aa8)))) UM))))) Q m s:=by
 unfold aa4;apply aJ;simp+decide only[ag];refine bY (eW (λm' s'=>∃j:Nat,j<=16∧(∀k,k∉ [10,12,13,14,15,16,17,58,70,80]->m'.get k=m.get k)∧m'.get 10=some (.bool (brk bits j))∧m'.get 12=some (aw (j:Int))∧Grown s.nx s s')
  (λm' _=>match m'.get 12 with|some (.int _ j)=>(16-j).toNat|_=>0) ?_ ?_ ?_)
 ·refine⟨0,by omega,λk hk=>?_,by simp+decide only[ag,Be];rfl,by simp+decide only[ag,aW],Grown.refl hg _⟩;rw[TM.iT _ _ _ _ (by decide),aC (λe=>hk (by rw[e];decide))]
 ·simp+decide only[ag]
 rintro m' s' ⟨j,hj,dU,Be,h12,gr⟩;have g1:m'.get 1=some (.int .u8 (bits:Int)):=by rw[dU 1 (by decide)];exact h1
 have g5:m'.get 5=some (a8 C.d.lp):=by rw[dU 5 (by decide)];exact h5
 have g8:m'.get 8=some av:=by rw[dU 8 (by decide)];exact h8
 have Ay:=gr.bt;apply dh;unfold aa5;apply ar;by_cases cS:j<16
 ·have hd:decide ((j:Int)<16)=true:=aL (by omega);simp+decide only[ag,h12,hd];refine iP (by simp+decide only[ag]) ?_;apply aR;simp+decide only[ag];have hjR:j<R.length:=by omega
  have Az:j<(ints R).length:=by rw[dE];exact hjR
  have sl':=hR.ext gr.eb;have ix:=sl'.ix (P:=prog) (t:=38) Az (k:= .i64);have ld:=sl'.ld bM Az (gJ hjR);rw[cO]at ld;have hA:=hax j hjR cS;obtain⟨NX,agj,hlen⟩:=ajJ (bits:=bits) cS hA;have hy:=hA.lt;have ls':=h.ext hg gr;have hkl:C.φ[R[j]].kids.length<=900000:=by have:=(hf _ hy).many;omega
  obtain⟨kv,s1,e1,fV,sl1⟩:=Pm n Ay ls' hy hkl;rw[<-qy hy]at sl1;have apj:=gr.trans (fV.le gr.nx);have Zs:=h.ext hg apj;have w2:IntKind.i64.wrap ((j:Int)+1)=((j+1:Nat):Int):=by rw[wrap_i64 (by omega)];omega
  refine aT (bY (aT ?_));unfold aa6;apply ar;simp+decide only[ag,g5,g8,h12,ix,ld,e1];apply aT;unfold aa7;apply ar;simp+decide only[ag];refine aT (ajH n xP fV.bt Zs sl1 (by omega) NX ?_ ?_ ?_ ?_ ?_)
  ·simp+decide only[ag,g1]
  ·simp+decide only[ag,g5]
  ·simp+decide only[ag]
  ·simp+decide only[ag]
  intro m2 s2 ee q14 iE;simp+decide only[ag];have q10:m2.get 10=some (.bool (brk bits j)):=by rw[ee 10 (by decide)];simp+decide only[ag,Be]
  have q12:m2.get 12=some (aw (j:Int)):=by rw[ee 12 (by decide)];simp+decide only[ag,h12]
  rw[agj]at q14;have fin:∀(m3:TM 112),(∀k,k≠10->m3.get k=m2.get k)->m3.get 10=some (.bool (brk bits (j+1)))->WC (aE (n+4)) UM (Round (λm' s'=>∃j:Nat,j<=16∧(∀k,k∉ [10,12,13,14,15,16,17,58,70,80]->m'.get k=m.get k)∧m'.get 10=some (.bool (brk bits j))∧m'.get 12=some (.int .i64 (j:Int))∧Grown s.nx s s') (λm' _=>match m'.get 12 with|some (.int _ j)=>(16-j).toNat|_=>0) (16-(j:Int)).toNat (yX 2 Q)) m3 s2:=by
   intro m3 N5 r10;have r12:m3.get 12=some (aw (j:Int)):=by rw[N5 12 (by decide)];exact q12
   unfold UM;apply ar;simp+decide only[ag,r12,w2];refine⟨⟨j+1,by omega,λk hk=>?_,r10,rfl,apj.trans (iE.le apj.nx)⟩,?_⟩
   ·have e10:k≠10:= λe=>hk (by rw[e];decide);have e12:k≠12:= λe=>hk (by rw[e];decide);have Vt:k≠13:= λe=>hk (by rw[e];decide);have e14:k≠14:= λe=>hk (by rw[e];decide);have e15:k≠15:= λe=>hk (by rw[e];decide);have Zm:k≠16:= λe=>hk (by rw[e];decide);have e17:k≠17:= λe=>hk (by rw[e];decide);have e58:k≠58:= λe=>hk (by rw[e];decide);have e70:k≠70:= λe=>hk (by rw[e];decide);have e80:k≠80:= λe=>hk (by rw[e];decide);rw[aC e12,N5 k e10,ee k (by simp[e14,e15,Zm,e17,e70,e80])];simp+decide only[ag];simp only[Vt,e14,e58,eG];exact dU k hk
   ·show(16-((j+1:Nat):Int)).toNat<(16-(j:Int)).toNat;omega
  unfold aa8;apply ar;cases hb:brk bits j with
  |true=>
   rw[hb]at q10;simp+decide only[ag,q10];refine fin _ (λk hk=>?_) ?_
   ·rw[TM.iT _ _ _ _ (by decide),aC hk]
   ·simp+decide only[ag];rw[PC,hb];rfl
  |false=>
   rw[hb]at q10;simp+decide only[ag,q10,q14];refine fin _ (λk hk=>?_) ?_
   ·rw[TM.iT _ _ _ _ (by decide),aC hk]
   ·simp+decide only[ag];rw[PC,hb];rfl
 ·have hd:decide ((j:Int)<16)=false:=az (by omega);simp+decide only[ag,h12,hd];refine dD (by simp+decide only[ag]) ?_;simp+decide only[ag];have Dt:j=16:=by omega
  subst Dt;refine hQ _ _ (λk hk=>?_) (by simp+decide only[ag,Be]) gr;rw[TM.iT _ _ _ _ (by decide),aC (λe=>hk (by rw[e];decide))];exact dU k hk
def YW:ir prog 28=true:=by kernel_rfl
def YX:qB prog 28=some [.slice none 0 0,aw 0,aw 0,.bool false]:=by kernel_rfl
def QE:dB prog 28 0=some (0,1):=by kernel_rfl
def ajL (v:Value) (hv:v.cells= #[v]):cA prog 28 [0] [v]=some (.agg ⟨[v,aw 0,aw 0,.bool false]⟩):=by refine fD YW YX ?_;show jq (dB prog 28) [(0,v)] _=_;rw[eV QE (by rw[hv];rfl) (by simp),jV,hv];rfl
def ajM {c:Bool} (x y:Bool):eJ .eql .bool c (.bool y) (.bool x)=some (.bool (x==y)):=by cases x<;>cases y<;>rfl
def LS.aEo (h:LS s d σ φ) (hk:eu TyD s s'):LS s' d σ φ:=by
 have mp:∀(kt:Nat) (es:List (Value×Value×Nat)) (ck:Nat),¬TyD (.map kt es ck):= λkt es ck ⟨v,hv⟩=>by cases hv
 obtain⟨ob',ho⟩:=h.rows;obtain⟨tb,hto,htb⟩:=h.ts.rows;refine⟨h.own.an hk (NW (by decide)),⟨h.ts.own.an hk (NW (by decide)),⟨tb,hto.an hk λc m ro=>NW (by decide),htb⟩,h.ts.found.an hk (mp _ _ _),h.ts.pq,h.ts.ua,h.ts.Iv,h.ts.nodup,λe he=>?_,h.ts.xL,h.ts.wf⟩,⟨ob',ho.an hk λc m ro=>NW (by decide)⟩,h.found.an hk (mp _ _ _),h.uc,λe he=>((h.kids e he).an hk λc m ro=>NW (by decide)).le hk.nx,h.Iv,h.nodup⟩;obtain⟨es,ck,h1,h2⟩:=h.ts.vars e he;exact⟨es,ck,h1.an hk (mp _ _ _),h2⟩
def ayA {c:T LVal} {sz m:Nat} {ro:Bool} (h:et≠64∧et≠79):¬RQ (.cells c sz m ro et):=by
 rintro(h1|h1)
 ·exact h.1 h1
 ·exact h.2 h1
def TR (n:Nat) {bv:Value} {L:List UInt8} {bits:Nat} (hg:Good s) (hbv:Sl s.nx s 4096 1 bv (dL L)) (xP:bits<256):
  cp (aE (n+301) (dJ 3) [bv,.int .u8 (bits:Int)] s) (λr s'=>r= .bool true∧K5 s s'):=by
 rw[ev3];refine bG (by simp) λm hm=>?_;have h0:m.get 0=some bv:=by rw[hm];rfl
 have h1:m.get 1=some (.int .u8 (bits:Int)):=by rw[hm];rfl
 clear hm;obtain⟨s1,e1,fV⟩:=aeg (n+299) hg;obtain⟨_,s2,e2,d,φ,rfl,k2,ls2,fw2,tf2,l2⟩:=aLR (n+293) fV.bt;have dI:=k2.bt;have qR:=(hbv.ext fV.eb).le fV.nx;have wV:=(qR.an k2 λc m ro=>ayA (by decide)).le k2.nx;obtain⟨base,bl,bc,rfl⟩:=hbv.WI;have Lt:bl=L.length:=by
  have:=wV.len;rw[eo]at this;have h:dH [.slice base bl bc]=some (aw (bl:Int)):=rfl;rw[h]at this;have:=bh this;injection this with _ h3
  omega
 obtain⟨q,hq⟩:=dO (min L.length 60);have aLY:min (bl:Int) 60=(q:Int):=by rw[hq,Lt];omega
 obtain⟨w,ew,hw⟩:=HU wV (l:=0) (k:=q) (by omega) (by rw[eo,hq];exact Nat.min_le_left _ _) none (some (aw (q:Int))) (agW 0) (agV .i64 bl q);have hsa:tC prog (prog.underlying 22) (.slice base bl bc) none (some (aw (q:Int))) none=some w:=by rw[DG Ig Cz];exact ew
 have hwr:((dL L).take q).drop 0=dL (L.take q):=by rw[bK];unfold dL;rw[apm]
 rw[hwr]at hw;have hwc:w.cells= #[w]:=by obtain⟨a1,a2,a3,rfl⟩:=hw.WI;rfl
 obtain⟨s3,gy⟩:=dO (s2.add (ca 28 [w,aw 0,aw 0,.bool false]));have iZ:=cM gy dI;have gQ:=iZ.bt;have v3:=jS gy dI;have zH:ia 28 s2 (.agg ⟨[w,aw 0,aw 0,.bool false]⟩)=some (a8 s2.nx,s3):=by rw[ez dI,dn,gy]
 have ls3:=ls2.ext dI iZ;have ds3:DS s3 s2.nx w (L.take q) 0:=⟨v3,(hw.ext iZ.eb).le iZ.nx⟩
 have hLq:(L.take q).length<=1000000:=by rw[D3];omega
 obtain⟨_,s4,e4,c,a4,rfl,dt4,o4,ds4,_⟩:=aee hLq (n+295) 2 gQ ds3 (by decide) (by decide);have iI:=o4.bt;have ls4:=ls3.aEo (o4.an gQ v3);obtain⟨_,s5,e5,i,v,σ,rfl,mr5,hi5,aLZ,kd5⟩:=ajG (n+294) 2 iI ls4 dt4 (by decide);have jm:=mr5.an.bt;have k05:K5 s s5:=((((fV.k5 hg).trans (k2.k5 λ_ _ _ _=>ayA (by decide))).trans (iZ.k5 dI)).trans ((o4.an gQ v3).k5 λ_ _ _ _=>NW (by decide))).trans (mr5.an.k5 λ_ _ _ _=>GD (by decide));have Xt:=mr5.len;have hS:Sz 2=13:=rfl;rw[hS]at Xt aLZ;simp at Xt;obtain⟨C,hC⟩:∃C:Cx,C=⟨{d with v:=v},σ,φ⟩:=⟨_,rfl⟩
 have lsC:LS s5 C.d C.σ C.φ:=by rw[hC];exact mr5.ls
 have apk:C.σ=σ:=by rw[hC]
 have aas:C.φ=φ:=by rw[hC]
 have ayB:C.d.lp=d.lp:=by rw[hC]
 have szC:C.sz<=48:=by show C.σ.length+C.φ.length<=48;rw[apk,aas];omega
 have e1:aE (n+300) (dJ 4) [] s= .val (.bool true) s1:=e1;have e2:aE (n+300) (dJ 5) [] s1= .val (a8 d.lp) s2:=e2;have e4:aE (n+300) (dJ 7) [a8 s2.nx,aw 2,aw 0] s3= .val (.agg ⟨c⟩) s4:=e4;have e5:aE (n+300) (dJ 6) [a8 d.lp,.agg ⟨c⟩] s4= .val (aw (i:Int)) s5:=e5;unfold c3f;apply aT;unfold axD;apply ar;simp+decide only[ag];apply dh;unfold axE;apply ar;simp+decide only[ag,e1];refine dD (by simp+decide only[ag]) ?_;apply aT;unfold axF;apply ar;simp+decide only[ag,e2];apply dh;unfold axG;apply ar;simp+decide only[ag,lz];refine dD (by simp+decide only[ag]) ?_;apply aT;unfold axH;apply ar;simp+decide only[ag,h0,FQ,LR,aLY,O5,hsa,ajL w hwc,zH];apply aT;unfold axI;apply ar;simp+decide only[ag,e4,e5];apply aT;unfold axJ;apply ar;rcases kd5 with ⟨_,hk⟩|hk
 ·
  have Vv:F7 i C.σ:=by rw[apk];refine⟨by omega,hi5,hk,?_⟩;rw[<-rj hi5];omega
  obtain⟨av,s6,e6,C6,R,lZ,ls6,lp6,fw6,k6,sl6,hRl,hax⟩:=ad5 (n+296) (by omega) jm lsC (by rw[aas];exact fw2) (by rw[aas];exact tf2) Vv szC;rw[ayB]at e6 lp6;have e6:aE (n+300) (dJ 8) [a8 d.lp,aw (i:Int)] s5= .val av s6:=e6;have hlen:=sl6.len;rw[dE]at hlen;have dz:decide ((R.length:Int)=0)=false:=az (by omega);simp+decide only[ag,e6];apply dh;unfold aoc;apply ar;simp+decide only[ag,hlen,dz];refine dD (by simp+decide only[ag]) ?_;apply aT;unfold alU;apply ar;simp+decide only[ag];refine aT (ajK (n+300) xP (by simp+decide only[ag,h1]) (by simp+decide only[ag]) ?_);intro m7 hm7 q9;simp+decide only[ag];have p1:m7.get 1=some (.int .u8 (bits:Int)):=by rw[hm7 1 (by decide)];simp+decide only[ag,h1]
  have p5:m7.get 5=some (a8 C6.d.lp):=by rw[hm7 5 (by decide),lp6];simp+decide only[ag]
  have p8:m7.get 8=some av:=by rw[hm7 8 (by decide)];simp+decide only[ag]
  have p10:m7.get 10=some (.bool false):=by rw[hm7 10 (by decide)];simp+decide only[ag]
  refine aT (aEn (n+296) xP lZ ls6 fw6 sl6 hRl hax p1 p5 p8 p10 ?_);intro m8 s8 hm8 q10 Jf;simp+decide only[ag];have p9:m8.get 9=some (aw (Bs bits 6:Int)):=by rw[hm8 9 (by decide)];exact q9
  have apl:=aei ⟨bits,xP⟩;have hd:decide ((Bs bits 6:Int)=1)=decide (Bs bits 6=1):=by
   by_cases e:Bs bits 6=1
   ·rw[aL e,aL (by omega)]
   ·rw[az e,az (by omega)]
  have apl:(brk bits 16==!decide (Bs bits 6=1))=true:=apl;apply aT;unfold alV;apply ar;simp+decide only[ag,p9,q10,hd,ajM,apl];exact aR (b6 (v:= .bool true) (.inr rfl) (by simp+decide only[ag]) ⟨rfl,(k05.trans k6).trans (Jf.k5 lZ)⟩)
 ·
  obtain⟨hi0,tag,bb,num,str,text,hcm,Jd,Vv⟩:=hk rfl;subst hi0;obtain⟨av,s6,e6,C6,lZ,ls6,lp6,tf6,pt6,z6,k6,sl6⟩:=aec (n+296) (by omega) Jd hcm jm lsC (by rw[aas];exact fw2) (by rw[aas];exact tf2) (by rw[apk];exact Vv) szC;rw[ayB]at e6 lp6;have e6:aE (n+300) (dJ 8) [a8 d.lp,aw ((0:Nat):Int)] s5= .val av s6:=e6;have hlen:=sl6.len;have hlen:dH [av]=some (aw 0):=hlen;have dz:decide ((0:Int)=0)=true:=rfl;obtain⟨p0,pk,pv⟩:=pt6;have aLc:=tf6.two;have eR:=wS (C:=C6);obtain⟨_,s7,e7,rfl,Q7⟩:=ayr (n+293) lZ ls6 tf6 (tag:=2) (by decide) p0 (aap pk) (T:=tag) (by rw[pv];rfl) (by omega);have ls7:=ls6.ext lZ Q7;have EC:(if tag=2 then 0 else 1)<C6.φ.length:=by split<;>omega
  obtain⟨_,s8,e8,rfl,Jf⟩:=yn (n+297) Q7.bt ls7 EC;obtain⟨k0,k1⟩:=FV tf6;have Zg:C6.φ[if tag=2 then 0 else 1].kind<5:=by
   rw[<-jc EC];by_cases e:tag=2
   ·simp only[e,jQ];rw[k0];decide
   ·simp only[e,eG];rw[k1];decide
  have dl:decide ((C6.φ[if tag=2 then 0 else 1].kind:Int)<5)=true:=aL (by omega);rw[lp6]at e7 e8;have e7:aE (n+300) (dJ 10) [a8 d.lp,aw 2,aw 0] s6= .val (aw ((if tag=2 then 0 else 1:Nat):Int)) s7:=e7;obtain⟨fv,hfv⟩:∃fv,fv=(if tag=2 then 0 else 1:Nat):=⟨_,rfl⟩
  rw[<-hfv]at e7;have e8:aE (n+300) (dJ 9) [a8 d.lp,aw (fv:Int)] s7= .val (aw (C6.φ[if tag=2 then 0 else 1].kind:Int)) s8:=by rw[hfv];exact e8
  obtain⟨kd,hkd⟩:=dO (C6.φ[if tag=2 then 0 else 1].kind);rw[<-hkd]at e8 dl;have e6:aE (n+300) (dJ 8) [a8 d.lp,aw 0] s5= .val av s6:=e6;simp+decide only[ag,aW,e6];apply dh;unfold aoc;apply ar;simp+decide only[ag,hlen,dz];refine iP (by simp+decide only[ag]) ?_;apply aT;unfold alT;apply ar;simp+decide only[ag,e7,e8,dl];exact aR (b6 (v:= .bool true) (.inr rfl) (by simp+decide only[ag]) ⟨rfl,(k05.trans k6).trans ((Q7.k5 lZ).trans (Jf.k5 Q7.bt))⟩)
open Go Go.Proofs Go.RowKit
def Jl (L:List UInt8):AS:=(⟨lQ 20,0,0⟩:AS).add (.cells (rowOf (dL L)) 1 L.length true 4096)
def L7:Good ⟨lQ 20,0,0⟩:=⟨rfl,λj h=>absurd h (iK j),λj _=>oU 20 j⟩
def Cw (L:List UInt8) (j:Nat):(Jl L).h.get j=if j=0 then some (.cells (rowOf (dL L)) 1 L.length true 4096)else none:=by
 unfold Jl;rw[gF L7];split
 ·rfl
 ·exact oU 20 j
def acC (L:List UInt8) {c:Nat} (hc:L.length<=c/512) (hx:c%2=1):Sl (Jl L).nx (Jl L) 4096 1 (.slice (some ⟨0,0,none⟩) L.length c) (dL L):=by have h:=Sl.mk (n:=(Jl L).nx) (s:=Jl L) (et:=4096) (sz:=1) (b:=0) (o:=0) (c:=c) (ro:=true) (R:=dL L) (rows:=dL L) (Nat.zero_lt_one) ⟨_,by rw[Cw,aU rfl,eo],λi h=>Ku _ h⟩ (by omega) (by simp) (by rw[eo];exact hc) (.inl hx);rw[eo]at h;exact h
def WY (x:Loc):Ren:= λa=>if a=0 then some x else none
def MI (hG:Sh P w) (hi:P.info? 4096=none) {base:Nat} {C:Array Value} {fr:Nat×Nat} {L:List UInt8} (hb:w.heap[b]? =some (.cells C t fr)) (hc:∀i (h:i<L.length),C[base+i]? =some (.int .u8 (L[i].toNat:Int))) (hn:∀g gl vs,P.globals[g]? =some gl->lh gl.name=some vs->g≠b):
  Rel P (WY ⟨b,base,C.size,some (.cells C t fr)⟩) (Jl L) w∧
   ∀ρ' s' w',K5 (Jl L) s'->Rel P ρ' s' w'->je (WY ⟨b,base,C.size,some (.cells C t fr)⟩) (Jl L) w ρ' s' w'->Below w.heap.size w w':=by
 have cS:b<w.heap.size:=(Array.getElem?_eq_some_iff.1 hb).1;have jG:∀o,w.cell? ⟨b,o,none⟩=C[o]?:= λo=>by simp[World.cell?,hb]
 have hk:∀ {a k},(Jl L).h.get a=some k->a=0∧k= .cells (rowOf (dL L)) 1 L.length true 4096:= λ {a k} e=>by
  rw[Cw]at e;split at e
  ·cases e;exact⟨by assumption,rfl⟩
  ·cases e
 have hx:∀ {a x},WY ⟨b,base,C.size,some (.cells C t fr)⟩ a=some x->x=⟨b,base,C.size,some (.cells C t fr)⟩:= λ {a x} e=>by
  unfold WY at e;split at e
  ·cases e;rfl
  ·cases e
 refine⟨⟨λa ha=>?_,λa ha=>?_,λa k x e e'=>?_,gS _,λa a' k k' x x' ed e e'=>?_,λg gl vs h1 h2=>?_⟩,λρ' s' w' h5 hR hS=>⟨hS.os,hS.tape,hS.out,hS.size,λk oL=>?_⟩⟩
 ·have ha:1<=a:=ha;unfold WY;rw[aC (by omega)]
 ·have ha:1<=a:=ha;rw[Cw,aC (by omega)]
 ·obtain⟨rfl,rfl⟩:=hk e;obtain rfl:=hx e';refine⟨cS,λi l hl=>?_,λo ho=>?_,λq=>(by cases q),⟨t,by simp[World.shape?,hb],.inr ⟨rfl,hi⟩⟩,⟨base,by simp⟩,.inr ⟨rfl,hi,hb⟩⟩
  ·rw[uK _ _ _ _ (G2 _) i]at hl;split at hl
   ·rename_i h;rw[eo]at h;have uB:i<L.length:=by omega
    rw[yo]at hl;unfold dL at hl;rw[iB,ba uB]at hl;cases hl;refine⟨uB,rfl,λj v hv=>?_⟩;cases j with
    |zero=>cases hv;refine⟨_,?_,.int _ _⟩;show w.cell? ⟨b,base+(i*1+0),none⟩=_;rw[jG,qZ,ji];exact hc i uB
    |succ j=>simp at hv
   ·rw[T.ur]at hl;cases hl
  ·show(w.cell? ⟨b,o,none⟩).isSome=true;have ho:o<C.size:=ho;rw[jG,iU ho];rfl
 ·exact absurd ((hk e).1.trans (hk e').1.symm) ed
 ·refine⟨(hG g gl vs h1 h2).1,?_,(hG g gl vs h1 h2).2⟩;rintro⟨a,k,x,e,e',e2⟩;rw[hx e']at e2;exact hn g gl vs h1 h2 e2.symm
 ·by_cases hkb:k=b
  ·subst hkb;have h0:s'.h.get 0=some (.cells (rowOf (dL L)) 1 L.length true 4096):=h5 _ _ _ _ _ (by rw[Cw,aU rfl]);have hr0:ρ' 0=some ⟨k,base,C.size,some (.cells C t fr)⟩:=by
    rw[hS.Nq 0 Nat.zero_lt_one];unfold WY;rw[aU rfl]
   obtain⟨_,hC⟩:=hR.jI _ _ _ h0 hr0;have hC:fY P ρ' ⟨k,base,C.size,some (.cells C t fr)⟩ w' (rowOf (dL L)) 1 L.length true 4096:=hC;rcases hC.pin with h|⟨_,_,h⟩
   ·cases h
   ·exact h.trans hb.symm
  ·refine(hS.frame k oL ?_).1;rintro⟨a,q,x,e,e',e2⟩;rw[hx e']at e2;exact hkb e2.symm
def PD {n:String} (hv:lh n=some vs):n= "internal/strconv.uint64pow10":=by
 unfold lh at hv;cases hb:(n== "internal/strconv.uint64pow10")with
 |false=>rw[hb]at hv;cases hv
 |true=>simpa using hb
def ajN {l:List (String×DataW Unit)} (hl:laidMetH P l w) (hm:("internal/strconv.uint64pow10",AG)∈l) (ht:∀g,P.globalNamed "internal/strconv.uint64pow10"=some g->(P.globals[g]?).map (·.type)=some t) (hu:P.underlying t=some (.array 20 e)) (he:P.underlying e=some (.int .u64)) (hc:P.cellsOf e=1) (hct:P.cellsOf t=20) {g o:Nat} {gl:Global} {n:Int} (hg:P.globals[g]? =some gl) (hv:lh gl.name=some vs):w.cell? ⟨g,o,none⟩≠some (.int .u8 n):=by
 intro ho;have hb:gl.name= "internal/strconv.uint64pow10":=PD hv;obtain⟨⟨ps,N1,_,_⟩,_⟩:=laidMetH_iff.1 hl;have zJ:("internal/strconv.uint64pow10",AG)∈l.filter λx=>x.2.handleName?.isNone:=List.mem_filter.2 ⟨hm,rfl⟩;obtain⟨g1,t1,cs,fuel,p,h1,h2,h3,h4⟩:=qU N1 zJ;have hgg:=CP h1 hg hb;subst hgg;have:=ht _ h1;rw[h2]at this;injection this with this
 subst this;obtain⟨xs,m,rfl,hx,hlen,hn,Nr⟩:=DataW.trod_array hu h4;rw[World.var?_cell h1 h3]at ho;have hs:o<cs.size:=(Array.getElem?_eq_some_iff.1 ho).1;have vo:o<20:=by
  have:cs.toList.length=cs.size:=by simp
  omega
 have pQ:=Nr o vo;rw[hc,qZ]at pQ;rw[ba (by omega)]at pQ;obtain⟨k,e1,_,_⟩:=DataW.trod_int he pQ;have hci:cs.toList[o]? =some (.int .u64 k):=by
  have:((cs.toList.drop o).take 1)[0]? =some (.int .u64 k):=by rw[e1];rfl
  rw[kj]at this;simpa using this
 rw[uk,ho]at hci;cases hci
def TT {l:List (String×DataW Unit)} (hl:laidMetH P l w) {n:String} {d:DataW Unit} (hm:(n,d)∈l) (hd:d.handleName? =none) (ed:(n== "internal/strconv.uint64pow10")=false):
  ∃(b:Nat) (C:Array Value) (t:TypeId) (fr:Nat×Nat),w.heap[b]? =some (.cells C t fr)∧∀g gl vs,P.globals[g]? =some gl->lh gl.name=some vs->g≠b:=by
 obtain⟨⟨ps,N1,_,_⟩,_⟩:=laidMetH_iff.1 hl;have zJ:(n,d)∈l.filter λx=>x.2.handleName?.isNone:=List.mem_filter.2 ⟨hm,by rw[hd];rfl⟩;obtain⟨g1,t1,cs,fuel,p,h1,h2,h3,h4⟩:=qU N1 zJ;have hh:∃t fr,w.heap[g1]? =some (.cells cs t fr):=by
  unfold World.var? at h3;rw[h1]at h3;simp only[pB]at h3;split at h3
  ·rename_i hh;cases h3;exact⟨_,_,hh⟩
  ·cases h3
 obtain⟨t,fr,hh⟩:=hh;refine⟨g1,cs,t,fr,hh,λg gl vs hg hv e=>?_⟩;subst e;have hb:gl.name= "internal/strconv.uint64pow10":=PD hv;have hgn:gl.name=n:=by
  unfold Program.globalNamed at h1;split at h1
  ·rename_i a ha;cases h1;have hm:g∈(List.range P.globals.size).filter λg=>(P.globals[g]?).any (·.name==n):=by rw[ha];simp
   have:=(List.mem_filter.1 hm).2;rw[hg]at this;simpa using this
  ·cases h1
 rw[<-hgn,hb]at ed;simp at ed
