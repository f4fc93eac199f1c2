import Derived.Test.YtgdddkffkmcmcaaGreatDoorZAb
import Derived.Test.YtgdddkffkmcmcaaGreatDoorKa
import Derived.Test.YtgdddkffkmcmcaaGreatDoorKb
/- Part of the proof that TagsOne answers true. -/
set_option linter.all false
set_option maxRecDepth 100000
noncomputable section
namespace Go.Eng
open Go Go.Proofs
variable {s s' s0:AS} {v u y x v' x':Value} {n t b i k f a r p q j et ck nt kt e ty off:Nat} {w w':World} {o:Option Nat} {l vs l':LVal} {rows R els:List LVal} {tm tm':T Value} {es:List (Value×Value×Nat)} {ts:Array TypeId} {lo:Lo} {X:QJ} {P:Program} {F:Fence} {S:List Nat} {ρ ρ':Ren}
def Rel.agE {k:eX} {x:Loc} (hr:Rel P ρ s w) (hs:s.new k=some s') (hx:w.heap.size<=x.b) (eR:x.b<w'.heap.size) (NI:w.heap.size<=w'.heap.size) (hold:∀b,b<w.heap.size->w'.heap[b]? =w.heap[b]?) (ht:w'.tape=w.tape) (ho:w'.os=w.os) (hu:w'.output=w.output) (hb:qX P (ρ.put s.nx x) x w' k):Rel P (ρ.put s.nx x) s' w'∧je ρ s w (ρ.put s.nx x) s' w':=by
 obtain⟨IT,hg⟩:=AS.ql hs;have hle:gq ρ (ρ.put s.nx x):= λa y e=>by
  unfold Ren.put;by_cases ha:a=s.nx
  ·rw[ha,hr.uz _ (af _)]at e;cases e
  ·rw[aC ha];exact e
 have fP:∀a,a≠s.nx->(ρ.put s.nx x) a=ρ a:= λa ha=>by unfold Ren.put;rw[aC ha]
 have qC:(ρ.put s.nx x) s.nx=some x:=by unfold Ren.put;rw[aU rfl]
 refine(λ(hS:je ρ s w (ρ.put s.nx x) s' w')=>⟨⟨λa ha=>?_,λa ha=>?_,λa k' y e e'=>?_,by rw[AS.vM hs];have:=hr.lim;omega,λa a' k1 k2 x1 x2 ed e1 e2 r1 r2 EA=>?_,hr.gl.of hS.size hS.frame⟩,hS⟩) ⟨λa ha=>?_,by omega,ht,ho,hu,NI,λb iR hn=>?_,λa ha hn=>?_,λb r iR=>⟨r,by rw[hold b (Array.getElem?_eq_some_iff.1 iR).1];exact iR⟩,AS.vM hs,AS.Mf hs hr.lim,λa k' y _ _ oL _ hy=>hold _ (hr.jI a k' y oL hy).1⟩
 ·rw[fP a (by omega)]
 ·refine⟨hold b iR,?_⟩;rintro⟨a,k',y,e,e',rfl⟩;rw[hg]at e;by_cases ha:a=s.nx
  ·rw[ha,qC]at e';cases e';omega
  ·rw[aC ha]at e;rw[fP a ha]at e';exact hn ⟨a,k',y,e,e',rfl⟩
 ·exact .inl (by rw[hg,aC (by omega)])
 ·rw[fP a (by omega)];exact hr.uz a (by omega)
 ·rw[hg,aC (by omega)];exact hr.top a (by omega)
 ·rw[hg]at e;by_cases ha:a=s.nx
  ·rw[aU ha]at e;cases e;rw[ha,qC]at e';cases e';exact⟨eR,hb⟩
  ·rw[aC ha]at e;rw[fP a ha]at e';obtain⟨h1,h2⟩:=hr.jI a k' y e e';exact⟨by omega,(h2.congr (hold _ h1)).mono hle⟩
 ·rw[hg]at e1 e2;by_cases ha:a=s.nx
  ·rw[ha,qC]at r1;cases r1;have sT:a'≠s.nx:= λe=>ed (ha.trans e.symm);rw[aC sT]at e2;rw[fP a' sT]at r2;have:=(hr.jI a' k2 x2 e2 r2).1;omega
  ·rw[aC ha]at e1;rw[fP a ha]at r1;by_cases sT:a'=s.nx
   ·rw[sT,qC]at r2;cases r2;have:=(hr.jI a k1 x1 e1 r1).1;omega
   ·rw[aC sT]at e2;rw[fP a' sT]at r2;exact hr.pc a a' k1 k2 x1 x2 ed e1 e2 r1 r2 EA
def Rel.grow (hr:Rel P ρ s w) (NI:w.heap.size<=w'.heap.size) (hold:∀b,b<w.heap.size->w'.heap[b]? =w.heap[b]?) (ht:w'.tape=w.tape) (ho:w'.os=w.os) (hu:w'.output=w.output):Rel P ρ s w'∧je ρ s w ρ s w':=
 ⟨⟨hr.uz,hr.top,λa k x e e'=>(by obtain⟨h1,h2⟩:=hr.jI a k x e e';exact⟨by omega,h2.congr (hold _ h1)⟩),hr.lim,hr.pc,hr.gl.of NI λb hb hn=>⟨hold b hb,hn⟩⟩,
  ⟨λ_ _=>rfl,af _,ht,ho,hu,NI,λb hb hn=>⟨hold b hb,hn⟩,λ_ _ _=> .inl rfl,λb r hb=>⟨r,by rw[hold b (Array.getElem?_eq_some_iff.1 hb).1];exact hb⟩,rfl,λ_ _=>rfl,
  λa k x _ _ hk _ hx=>hold _ (hr.jI a k x hk hx).1⟩⟩
def DD (x:Int):∀l:List Int,(Zw x l).Perm (x::l)
 | []=> .refl _
 |y::l=>by
  show(aD (Fl y x) (y::Zw x l) (x::y::l)).Perm _;rw[bW];split
  ·exact((DD x l).cons y).trans (List.Perm.swap x y l)
  ·exact .refl _
def rQ:∀l:List Int,(xJ l).Perm l
 | []=> .refl _
 |x::l=>(DD x (xJ l)).trans ((rQ l).cons x)
def Fb (x:Int):∀l:List Int,l.Pairwise (λa b=>a<=b)->(Zw x l).Pairwise (λa b=>a<=b)
 | [],_=>by show List.Pairwise _ [x];simp
 |y::l,h=>by
  show(aD (Fl y x) (y::Zw x l) (x::y::l)).Pairwise _;rw[bW,qo];obtain⟨h1,h2⟩:=List.pairwise_cons.1 h;split
  ·rename_i cS;have cS:y<x:=by simpa using cS
   refine List.pairwise_cons.2 ⟨λb hb=>?_,Fb x l h2⟩;rcases List.mem_cons.1 ((DD x l).mem_iff.1 hb)with rfl|hb
   ·omega
   ·exact h1 b hb
  ·rename_i cS;have cS:¬y<x:=by simpa using cS
   refine List.pairwise_cons.2 ⟨λb hb=>?_,h⟩;rcases List.mem_cons.1 hb with rfl|hb
   ·omega
   ·have:=h1 b hb;omega
def CO:∀l:List Int,(xJ l).Pairwise (λa b=>a<=b)
 | []=> .nil
 |x::l=>Fb x _ (CO l)
def Qa {l ss:List Int} (h:ss.Perm l):ss.mergeSort (λx y=>decide (x<=y))=xJ l:=by have h1:=mergeSort_of_perm_i (h.trans (rQ l).symm);rw[show(λx y:Int=>decide (x<=y))=leI from rfl,h1];refine List.mergeSort_of_pairwise ?_;exact(CO l).imp λ {a b} jJ=>by simpa[leI]using jJ
def apD {n:Int} (h:okI n=true):(Lit.int .i64 n).wf=true:=by
 have e1:IntKind.i64.min= -9223372036854775808:=by decide
 have e2:IntKind.i64.max=9223372036854775807:=by decide
 show(decide (IntKind.i64.min<=n)&&decide (n<=IntKind.i64.max))=true;rw[e1,e2,u9,nU,nU];cases n with
 |ofNat m=>have h:Nat.blt m 9223372036854775808=true:=h;have:=aO h;simp only[cO];omega
 |negSucc m=>have h:Nat.blt m 9223372036854775808=true:=h;have:=aO h;rw[Int.negSucc_eq];omega
def AP:∀ {es:List (Value×Value×Nat)} {l:List Int},Bx es=some l->es.map (·.1)=l.map encZ∧∀n∈l,okI n=true
 | [],l,h=>by cases h;exact⟨rfl,λn hn=>by cases hn⟩
 |(k,v,b)::es,l,h=>by
  have h:(match(generalizing:=false) k with| .int k n=>aD (aD (tz k .i64) (okI n) false) (ob (Bx es) λl=>some (n::l)) none|_=>none)=some l:=h;split at h
  ·rename_i k n;obtain⟨h1,h⟩:=aY h;obtain⟨h2,h3⟩:=jF h1;obtain⟨l',N1,h⟩:=ak h;cases h;have:=tc.1 h2;subst this;obtain⟨i1,i2⟩:=AP N1;refine⟨by simp[i1],λm hm=>?_⟩;rcases List.mem_cons.1 hm with rfl|hm
   ·exact h3
   ·exact i2 m hm
  ·cases h
def Kq:∀l:List Int,vz l=l.map λn=> [.int .i64 n]
 | []=>rfl
 |n::l=>by show [.int .i64 n]::vz l=_;rw[Kq l];rfl
def Qb (l:List Int):(vz l).flatten=l.map encZ:=by
 rw[Kq];induction l with
 |nil=>rfl
 |cons n l ih=>simp[ih]
structure Cg (P:Program) (f g et kt:Nat):Prop where
 enter:∀args w,(callFunc f args).run P w= .ok (.enter f args) w
 key:P.underlying kt=some (.int .i64)
 sorted:∀(lb:Array Value) (S:List Int->Prop) (N:Nat) (w:World),N<=maxLen->N*8<=140737488355328->SeqGives Fence.wide 2 P g lb encZ S N w->
  CallsIn Fence.wide 5 P f #[.func (.func g) #[] lb] w λe w'=>∃(v:Value) (ss:List Int),e= .returned v∧S ss∧
   w'.ownsRow w.heap.size et 1 v ss.length ((ss.mergeSort (λx y=>decide (x<=y))).map encZ)∧(v= .slice none 0 0↔ss= [])∧RowKit.Below w.heap.size w w'
 keys:∀(Bm Bo b nn:Nat) (D0:DataW Nat) (R:Value->Option (DataW Nat×List MemPlace)) (w:World),Bm<w.heap.size->w.cell? ⟨Bm,Bo,none⟩=some (.map (some b))->w.ownsMap P kt R b nn D0->
  SeqGives Fence.wide 2 P g #[.pointer (some ⟨Bm,Bo,none⟩)] encZ (λss=>ss.Perm (intKeys D0)) (Maps.size D0) w
 none:∀(Bm Bo:Nat) (w:World),Bm<w.heap.size->w.cell? ⟨Bm,Bo,none⟩=some (.map none)->SeqGives Fence.wide 2 P g #[.pointer (some ⟨Bm,Bo,none⟩)] encZ (λss:List Int=>ss= []) 0 w
open Go.WideElems (Fit rd rg)in
theorem HL {kt:TypeId} {es:List (Value×Value×Nat)} {cJ:Array MapEntry} {ck b:Nat} {w:World} {l:List Int} (hm:jo P ρ kt es cJ) (hb:lS ck cJ) (hh:w.heap[b]? =some (.map cJ ck)) (hl:Bx es=some l) (hn:es.length<=1000000) (hk:P.underlying kt=some (.int .i64)):
  ∃D0:DataW Nat,w.ownsMap P kt (λ_=>some (.nil,[])) b cJ.size D0∧(intKeys D0).Perm l∧Maps.size D0=l.length:=by
 obtain⟨k1,k2⟩:=AP hl
 have Ip:=hm
 obtain⟨l0,hp,hf,Dl⟩:=hm
 have hlen:cJ.toList.length=l.length:=by
  rw[<-hp.length_eq]
  have e1:=congrArg List.length (Cb hf)
  have e2:=congrArg List.length k1
  simp only[dP]at e1 e2
  omega
 have BK:es.length=l.length:=by have:=congrArg List.length k1;simpa using this
 have qG:∀x∈cJ.toList,∃n,x.key=encZ n∧okI n=true:= λx hx=>by
  obtain⟨p,ED,h1,_⟩:=F2.oS hf x (hp.mem_iff.2 hx)
  have:p.1∈es.map (·.1):=List.mem_map.2 ⟨p,ED,rfl⟩
  rw[k1]at this
  obtain⟨n,hn',he⟩:=List.mem_map.1 this
  exact⟨n,by rw[<-h1,<-he],k2 n hn'⟩
 have Dm:∀x∈cJ.toList,∀n,x.key=encZ n->okI n=true->rd P kt (λ_=>some (DataW.nil (H:=Nat),[])) x=some (.int .i64 n,.nil):= λx hx n e ho=>by
  have hw:=apD ho
  unfold rd
  rw[e]
  simp[Go.keyOf,hk,mapKey,hw]
 refine⟨_,⟨cJ,ck,hh,⟨?_,⟨hb.2,hb.1,Ip.nodup⟩,λx hx=>?_⟩,af _,rfl⟩,?_,?_⟩
 ·have:cJ.size=l.length:=by simpa using hlen
  unfold maxLen
  omega
 ·obtain⟨n,e,ho⟩:=qG x hx
  exact⟨_,Dm x hx n e ho⟩
 ·show(((cJ.toList.map (rg P kt _)).foldr DataW.insert []).map λp=>intOf p.1).Perm l
  refine((Go.WideShapes.sorted_perm _).map _).trans ?_
  rw[iv]
  have e1:cJ.toList.map ((λp:Lit×DataW Nat=>intOf p.1)∘rg P kt (λ_=>some (DataW.nil,[])))=(cJ.toList.map (·.key)).map RowKit.intOf:=by
   rw[iv]
   refine eS λx hx=>?_
   obtain⟨n,e,ho⟩:=qG x hx
   simp only[Function.comp,rg,Dm x hx n e ho,e]
   rfl
  rw[e1]
  have h2:=((hp.map (·.key)).map RowKit.intOf).symm
  rw[Cb hf,k1]at h2
  have e3:(l.map encZ).map RowKit.intOf=l:=by
   rw[iv]
   exact(eS (λn _=>rfl)).trans (Y2 l)
  rw[e3]at h2
  exact h2
 ·show((cJ.toList.map (rg P kt _)).foldr DataW.insert []).length=_
  rw[(Go.WideShapes.sorted_perm _).length_eq,dP,hlen]
def HM:∀l:List Int,bJ ρ (l.map encZ) (l.map encZ)
 | []=> .nil
 |n::l=> .cons (.int .i64 n) (HM l)
def aJb {b b':Array Value} {o:Nat} (hb:b.toList= [.pointer (some ⟨p,o,none⟩)]) (h:bJ ρ b.toList b'.toList):∃x,ρ p=some x∧b'= #[.pointer (some ⟨x.b,x.base+o,none⟩)]:=by
 rw[hb]at h;generalize hm:b'.toList=m at h;cases h with|cons hv hs=>?_
 cases hs;cases hv with| @ptr _ x _ hx=>?_
 exact⟨x,hx,eh hm⟩
def azf {b b':Array Value} (hb:b.toList= []) (h:bJ ρ b.toList b'.toList):b'= #[]:=by rw[hb]at h;generalize hm:b'.toList=m at h;cases h;exact eh hm
def apE {gb:Nat} {cur:Array Value} (Bd:w.heap[gb]? =some (.cells cur et (0,0))) {sz:Nat} {cs:LVal} {t:T LVal} (ht:C0 els 0 .e=some t) (hl:∀l∈els,l.length=sz) (hn:els.length=n) (hc:bJ ρ els.flatten cs) (aJc:cur.toList.take cs.length=cs):qX P ρ ⟨gb,0,cur.size,none⟩ w (.cells t sz n false et):=by
 have cS:=(Array.getElem?_eq_some_iff.1 Bd).1;have eR:(w.heap.extract 0 gb).size=gb:=by simp;omega
 have iO:cs++cur.toList.drop cs.length=cur.toList:=by have:=iX cs.length cur.toList;rw[aJc]at this;exact this
 have hlen:cs.length+(cur.toList.drop cs.length).length=cur.size:=by have:=congrArg List.length iO;simpa using this
 have:=GN (P:=P) (ρ:=ρ) (w:={w with heap:=w.heap.extract 0 gb}) (w':={w with heap:=(w.heap.extract 0 gb).push (.cells (cs++cur.toList.drop cs.length).toArray et (0,0))}) (rest:=cur.toList.drop cs.length) (lo:=0) (hi:=0) ht hl hn hc (λo h1 h2=>by omega) rfl;rw[hlen]at this;have e:(⟨({w with heap:=w.heap.extract 0 gb}:World).heap.size,0,cur.size,none⟩:Loc)=⟨gb,0,cur.size,none⟩:=by show(⟨(w.heap.extract 0 gb).size,0,cur.size,none⟩:Loc)=_;rw[eR]
 rw[e]at this;refine this.congr ?_;show w.heap[gb]? =((w.heap.extract 0 gb).push (.cells (cs++cur.toList.drop cs.length).toArray et (0,0)))[gb]?;rw[cU,aU eR.symm,Bd,iO]
def DE {g:Nat} (hF:Cg P f g et kt):yW P f (λ_ args s=>lM (NC s (.sorted g et kt) args)):=by
 intro ev j7 args s v s' h ρ w args' hR ha;have h:lM (uq s (.sorted g et kt) args)= .val v s':=h;cases hs:uq s (.sorted g et kt) args with
 |none=>rw[hs]at h;cases h
 |some r=>
 rw[hs]at h;cases h;have aaJ:∀(lb:Array Value) (S:List Int->Prop) (N:Nat),N<=1000000->args'= [.func (.func g) #[] lb]->SeqGives Fence.wide 2 P g lb encZ S N w->
   (∀(u:Value) (ss:List Int) (w':World),S ss->w'.ownsRow w.heap.size et 1 u ss.length ((ss.mergeSort (λx y=>decide (x<=y))).map encZ)->(u= .slice none 0 0↔ss= [])->RowKit.Below w.heap.size w w'->
    ∃ρ',bN ρ' r.1 u∧Rel P ρ' r.2 w'∧je ρ s w ρ' r.2 w')->
   jx P (callFunc f args'.toArray) w λu w'=>∃ρ',bN ρ' r.1 u∧Rel P ρ' r.2 w'∧je ρ s w ρ' r.2 w':=by
  intro lb S N hN he Rm NJ;subst he;unfold jx;rw[hF.enter];have hc:=hF.sorted lb S N w (by unfold maxLen;omega) (by omega) Rm;refine uj (callsIn_wide.2 (callsIn_wide.1 hc)) ?_;rintro e w' ⟨u,ss,rfl,hS,fL,I5,hb⟩;exact⟨u,rfl,NJ u ss w' hS fL I5 hb⟩
 have VP:∀(S:List Int->Prop),(∀ss,S ss->ss= [])->r=(.slice none 0 0,s)->∀(u:Value) (ss:List Int) (w':World),S ss->w'.ownsRow w.heap.size et 1 u ss.length ((ss.mergeSort (λx y=>decide (x<=y))).map encZ)->(u= .slice none 0 0↔ss= [])->RowKit.Below w.heap.size w w'->
    ∃ρ',bN ρ' r.1 u∧Rel P ρ' r.2 w'∧je ρ s w ρ' r.2 w':=by
  intro S hS0 hr u ss w' hS fL I5 hb;obtain rfl:=I5.2 (hS0 ss hS);subst hr;obtain⟨g1,g2⟩:=hR.grow hb.size hb.block hb.tape hb.os hb.output;exact⟨ρ,.gi,g1,g2⟩
 unfold uq at hs;split at hs
 ·rename_i he;cases he
 ·rename_i he;cases he
 ·rename_i g0 et0 kt0 f0 a b heq;cases heq;replace hs:=aY hs;obtain⟨hg,hs⟩:=hs;have hg:=au hg;subst hg;cases ha with|cons hv Fo=>?_
  cases Fo;cases hv with| @func _ _ _ fa fb h1 h2=>?_
  split at hs
  ·rename_i p hat hbt;have hfa:=azf hat h1;obtain⟨x,hx,hfb⟩:=aJb hbt h2;subst hfa;subst hfb;replace hs:=ak hs;obtain⟨l,hl,hs⟩:=hs;obtain⟨_,m,hvm,jG⟩:=yr hR hx hl;split at hs
   ·cases hs;cases hvm with|cons hv Fo=>?_
    cases Fo;cases hv;have hc:=jG 0 _ rfl;have cS:x.b<w.heap.size:=aIA w _ hc;exact aaJ _ _ 0 (by omega) rfl (hF.none x.b (x.base+0) w cS hc) (VP _ (λss h=>h) rfl)
   ·rename_i rm;cases hvm with|cons hv Fo=>?_
    cases Fo;cases hv with| @map _ y hy=>?_
    have hc:=jG 0 _ rfl;have cS:x.b<w.heap.size:=aIA w _ hc;replace hs:=kG hs;obtain⟨Y6,es,ck,hb,hs⟩:=hs;replace hs:=aY hs;obtain⟨JO,hs⟩:=hs;have JO:=au JO;subst JO;obtain⟨awx,cJ,hh,Ip,Nt⟩:=hR.jI _ _ y hb hy;unfold pF at hs;split at hs
    ·cases hs;obtain⟨D0,lN,wP,eR⟩:=HL (l:= []) Ip Nt hh rfl (by simp) hF.key;refine aaJ _ _ _ (by rw[eR];simp) rfl (hF.keys x.b (x.base+0) y.b _ D0 _ w cS hc lN) (VP _ (λss h=>(h.trans wP).eq_nil) rfl)
    ·rename_i e0 es0;replace hs:=aY hs;obtain⟨hn,hs⟩:=hs;replace hs:=ak hs;obtain⟨l,hl,hs⟩:=hs;rw[dQ]at hn hs;have hn:=aO hn;obtain⟨D0,lN,wP,eR⟩:=HL Ip Nt hh hl hn hF.key;have hll:(e0::es0).length=l.length:=by have:=congrArg List.length (AP hl).1;simpa using this
     refine aaJ _ _ _ (by rw[eR,<-hll];exact hn) rfl (hF.keys x.b (x.base+0) y.b _ D0 _ w cS hc lN) ?_;intro u ss w' hS fL I5 iR;have JN:=hS.trans wP;rw[Qa JN]at fL;have qh:ss.length=(e0::es0).length:=by rw[JN.length_eq,hll]
     rcases fL.2 with ⟨_,hz⟩|⟨gb,cap,cur,rfl,aaH,Bd,r1,r2,r3,r4⟩
     ·rw[qh]at hz;simp at hz
     ·obtain⟨g1,g2,g3,t,s2,hrt,lG,anN⟩:=Hr hs;have qg:bJ (ρ.put s.nx ⟨gb,0,cur.size,none⟩) (vz (xJ l)).flatten ((xJ l).map encZ):=by
       rw[Qb];exact HM _
      have hlen:((xJ l).map encZ).length=ss.length*1:=by rw[dP,(rQ l).length_eq,<-JN.length_eq,qZ]
      have hbr:=apE (P:=P) Bd hrt g3 g2 qg (by rw[hlen];exact r4);obtain⟨q1,q2⟩:=Rel.agE hR lG (x:=⟨gb,0,cur.size,none⟩) aaH (Array.getElem?_eq_some_iff.1 Bd).1 iR.size iR.block iR.tape iR.os iR.output hbr;subst anN;refine⟨_,?_,q1,q2⟩;have aaK:cq (e0::es0).length 1/512=(e0::es0).length:=ni (by omega);rw[<-qh]at aaK⊢;exact .slice 0 _ _ cap _ (iM _ _ _) (by rw[aaK];exact af _) (by rw[aaK];exact r1) (λh=>by rw[wk]at h;cases h) (.inl rfl) (λ_=>by rw[zl (by omega)];show 0+0+cap*1<=cur.size;omega)
   ·cases hs
  ·cases hs
 ·cases hs
abbrev wX:=Value×Value×Nat
def one (p q:wX):wX:= @ite _ (q.1=p.1) (Classical.propDecidable _) (p.1,p.2.1,q.2.2) q
def one_pos {p q:wX} (h:q.1=p.1):one p q=(p.1,p.2.1,q.2.2):=aU h
def mR {p q:wX} (h:¬q.1=p.1):one p q=q:=aC h
def BS (p q:wX):(one p q).1=q.1:=by
 by_cases h:q.1=p.1
 ·rw[one_pos h,h]
 ·rw[mR h]
def qi (a:List wX) (p:wX):List wX:=
 @ite _ (∃q∈a,q.1=p.1) (Classical.propDecidable _) (a.map (one p)) (a++ [(p.1,p.2.1,0)])
def kC {a:List wX} {p:wX} (h:∃q∈a,q.1=p.1):qi a p=a.map (one p):=by unfold qi;rw[aU h]
def kE {a:List wX} {p:wX} (h:¬ ∃q∈a,q.1=p.1):qi a p=a++ [(p.1,p.2.1,0)]:=by unfold qi;rw[aC h]
def zc {a:List wX} {p:wX} {k:Value} (hk:k≠p.1):(∃q∈qi a p,q.1=k)↔ ∃q∈a,q.1=k:=by
 by_cases h:∃q∈a,q.1=p.1
 ·rw[kC h];constructor
  ·rintro⟨q,hq,e⟩;obtain⟨q',Vh,rfl⟩:=List.mem_map.1 hq;rw[BS]at e;exact⟨q',Vh,e⟩
  ·rintro⟨q,hq,e⟩;exact⟨_,List.mem_map.2 ⟨q,hq,rfl⟩,by rw[BS];exact e⟩
 ·rw[kE h];constructor
  ·rintro⟨q,hq,e⟩;rcases List.mem_append.1 hq with hq|hq
   ·exact⟨q,hq,e⟩
   ·simp at hq;subst hq;exact(hk e.symm).elim
  ·rintro⟨q,hq,e⟩;exact⟨q,by simp[hq],e⟩
def ac7 {p q:wX} (h:p.1≠q.1) (a:List wX):(qi (qi a p) q).Perm (qi (qi a q) p):=by
 by_cases hp:∃x∈a,x.1=p.1
 ·have ED:=(zc (a:=a) (p:=q) h).2 hp;by_cases hq:∃x∈a,x.1=q.1
  ·have Vh:=(zc (a:=a) (p:=p) (jd h)).2 hq;rw[kC Vh,kC ED,kC hp,kC hq,iv,iv];refine acG (eS λx _=>?_);simp only[Function.comp];by_cases h1:x.1=p.1
   ·have h2:¬x.1=q.1:= λe=>h (h1.symm.trans e);rw[mR h2,mR (λe=>h2 ((BS p x).symm.trans e))]
   ·by_cases h2:x.1=q.1
    ·rw[mR h1,mR (λe=>h1 ((BS q x).symm.trans e))]
    ·rw[mR h1,mR h2,mR h1]
  ·have Vh:¬ ∃x∈qi a p,x.1=q.1:= λe=>hq ((zc (jd h)).1 e);rw[kE Vh,kC ED,kC hp,kE hq,bS];refine acG ?_;simp only[br,S0];rw[mR (p:=p) (q:=(q.1,q.2.1,0)) (jd h)]
 ·have ED:¬ ∃x∈qi a q,x.1=p.1:= λe=>hp ((zc h).1 e);by_cases hq:∃x∈a,x.1=q.1
  ·have Vh:=(zc (a:=a) (p:=p) (jd h)).2 hq;rw[kC Vh,kE ED,kE hp,kC hq,bS];refine acG ?_;simp only[br,S0];rw[mR (p:=q) (q:=(p.1,p.2.1,0)) h]
  ·have Vh:¬ ∃x∈qi a p,x.1=q.1:= λe=>hq ((zc (jd h)).1 e);rw[kE Vh,kE ED,kE hp,kE hq,ey,ey];exact(List.Perm.swap _ _ []).append_left a
def Ch {a b:List wX} (h:a.Perm b) (p:wX):(qi a p).Perm (qi b p):=by
 by_cases hp:∃x∈a,x.1=p.1
 ·have ED:∃x∈b,x.1=p.1:=let⟨x,hx,e⟩:=hp;⟨x,h.mem_iff.1 hx,e⟩;rw[kC hp,kC ED];exact h.map _
 ·have ED:¬ ∃x∈b,x.1=p.1:= λ⟨x,hx,e⟩=>hp ⟨x,h.mem_iff.2 hx,e⟩;rw[kE hp,kE ED];exact h.append_right _
def IJ {vs QN:List wX} (h:vs.Perm QN):vs.Pairwise (λp q=>p.1≠q.1)->∀a b:List wX,a.Perm b->(vs.foldl qi a).Perm (QN.foldl qi b):=by
 induction h with
 |nil=>exactλ_ a b h=>h
 |cons x _ ih=>exactλhp a b h=>ih (List.pairwise_cons.1 hp).2 _ _ (Ch h x)
 |swap x y l=>
  intro hp a b h;have Nu:y.1≠x.1:=(List.pairwise_cons.1 hp).1 x (by simp);show(l.foldl qi (qi (qi a y) x)).Perm (l.foldl qi (qi (qi b x) y));have base:∀(l:List wX) (a b:List wX),a.Perm b->(l.foldl qi a).Perm (l.foldl qi b):=by
   intro l;induction l with
   |nil=>exactλa b h=>h
   |cons x l ih=>exactλa b h=>ih _ _ (Ch h x)
  exact base l _ _ ((ac7 Nu a).trans (Ch (Ch h x) y))
 |trans h1 _ ih1 ih2=>intro hp a b h;exact(ih1 hp a b h).trans (ih2 ((h1.pairwise_iff (λ {_ _} ed=>jd ed)).1 hp) b b (.refl _))
def ac8 {k:Value} {es ig:List wX} (hn:(es.map (·.1)).Nodup) (h:qW k v 0 es=some ig):ig=qi es (k,v,b):=by
 rcases J9 h with ⟨FZ,v0,b0,rU,rfl,rfl⟩|⟨qK,rfl⟩
 ·rw[kC (p:=(k,v,b)) ⟨(k,v0,b0),by simp,rfl⟩];rw[bS,br,eK]at hn;have e1:∀q∈FZ,q.1≠k:= λq hq e=>hn.2.2 q.1 (List.mem_map.2 ⟨q,hq,rfl⟩) k (by simp) e;have e2:∀q∈rU,q.1≠k:= λq hq e=>(List.nodup_cons.1 hn.2.1).1 (by rw[<-e];exact List.mem_map.2 ⟨q,hq,rfl⟩);rw[bS,br];have m1:∀(l:List wX),(∀q∈l,q.1≠k)->l.map (one (k,v,b))=l:= λl hl=>
   (eS λq hq=>mR (p:=(k,v,b)) (hl q hq)).trans (Y2 l)
  rw[m1 FZ e1,m1 rU e2,one_pos (p:=(k,v,b)) (q:=(k,v0,b0)) rfl]
 ·rw[kE (λ⟨q,hq,e⟩=>qK q hq e)]
def ac9 {a:List wX} {p:wX} (hn:(a.map (·.1)).Nodup):((qi a p).map (·.1)).Nodup:=by
 by_cases h:∃q∈a,q.1=p.1
 ·rw[kC h,iv];rw[show((λq:wX=>q.1)∘one p)= λq=>q.1 from funext λq=>BS p q];exact hn
 ·rw[kE h,bS,eK];refine⟨hn,by simp,λx hx y hy e=>h ?_⟩;simp at hy;obtain⟨q,hq,rfl⟩:=List.mem_map.1 hx;exact⟨q,hq,e.trans hy⟩
def HN:∀ {es d d':List wX},(d.map (·.1)).Nodup->AE es d=some d'->d'=es.foldl qi d
 | [],d,d',_,h=>by have h:some d=some d':=h;cases h;rfl
 |(k,v,b)::es,d,d',hn,h=>by have h:ob (qW k v 0 d) (AE es)=some d':=h;obtain⟨d1,h1,h⟩:=ak h;have e:=ac8 (b:=b) hn h1;subst e;show d'=es.foldl qi (qi d (k,v,b));exact HN (ac9 hn) h
def agF (a:List wX) (p:wX):a.length<=(qi a p).length:=by
 by_cases h:∃q∈a,q.1=p.1
 ·rw[kC h];simp
 ·rw[kE h];simp
def Ao:∀(vs a:List wX),a.length<=(vs.foldl qi a).length
 | [],_=>af _
 |p::vs,a=>di (agF a p) (Ao vs _)
def F2.perm {α β:Type} {R:α->β->Prop} {l l':List α} (h:l.Perm l'):∀ {m:List β},F2 R l m->∃m',m.Perm m'∧F2 R l' m':=by
 induction h with
 |nil=>exactλh=>⟨_,.refl _,h⟩
 |cons x _ ih=>
  intro m h;cases h with|cons h hs=>
  obtain⟨m',h1,h2⟩:=ih hs;exact⟨_,h1.cons _,.cons h h2⟩
 |swap x y l=>
  intro m h;cases h with|cons h hs=>
  cases hs with|cons h' hs=>
  exact⟨_,List.Perm.swap _ _ _,.cons h' (.cons h hs)⟩
 |trans _ _ ih1 ih2=>intro m h;obtain⟨m1,p1,f1⟩:=ih1 h;obtain⟨m2,p2,f2⟩:=ih2 f1;exact⟨m2,p1.trans p2,f2⟩
def jo.perm {kt:TypeId} {es ig:List wX} {cJ:Array MapEntry} (h:jo P ρ kt es cJ) (hp:es.Perm ig):jo P ρ kt ig cJ:=by obtain⟨l,h1,h2,h3⟩:=h;obtain⟨l',p,f⟩:=F2.perm hp h2;exact⟨l',p.symm.trans h1,f,((hp.map _).nodup_iff).1 h3⟩
def Ek {mt:TypeId} (JM:P.underlying mt=some (.map kt e)) {es:List wX} {cJ:Array MapEntry} (Ip:jo P ρ kt es cJ) (Nt:lS ck cJ) (hh:w.heap[b]? =some (.map cJ ck)) {k:Value} (Bc:eB P kt k=true) (hx:bN ρ x x'):
  ∃na mT,(Instr.mapUpdate mt (.map (some b)) k x').run P w= .ok () {w with heap:=w.heap.setIfInBounds b (.map na mT)}∧jo P ρ kt (qi es (k,x,n)) na∧lS mT na∧mT+es.length=ck+(qi es (k,x,n)).length:=by
 have JN:=tS Bc;have vY:=tu (P:=P) Bc w Ip.fits;by_cases hp:∃q∈es,q.1=k
 ·obtain⟨q,hq,he⟩:=hp;obtain⟨FZ,rU,BK⟩:=fT hq;obtain⟨k0,v0,b0⟩:=q;have he:k0=k:=he;subst he;subst BK;have Dl:=Ip.choose_spec.2.2;rw[bS,br,eK]at Dl;have e1:∀q∈FZ,q.1≠k0:= λq hq e=>Dl.2.2 q.1 (List.mem_map.2 ⟨q,hq,rfl⟩) k0 (by simp) e;have e2:∀q∈rU,q.1≠k0:= λq hq e=>(List.nodup_cons.1 Dl.2.1).1 (by rw[<-e];exact List.mem_map.2 ⟨q,hq,rfl⟩);have m1:∀(l:List wX),(∀q∈l,q.1≠k0)->l.map (one (k0,x,n))=l:= λl hl=>
   (eS λq hq=>mR (p:=(k0,x,n)) (hl q hq)).trans (Y2 l)
  have NK:qi (FZ++(k0,v0,b0)::rU) (k0,x,n)=FZ++(k0,x,b0)::rU:=by rw[kC (p:=(k0,x,n)) ⟨(k0,v0,b0),hq,rfl⟩,bS,br,m1 FZ e1,m1 rU e2,one_pos (p:=(k0,x,n)) (q:=(k0,v0,b0)) rfl]
  rw[NK];obtain⟨l1,e0,l2,t1,t2,h1,h2,h3,hp,ht,Lu⟩:=Ip.Mg;have hgi:(cJ[t1.length]?).map (·.key)=some k0:=by
   have:cJ[t1.length]? =(t1++e0::t2)[t1.length]?:=by rw[<-ht];simp
   rw[this];simp;exact h2.1.symm
  have IY:=XN ht (λe=> {e with key:=k0,val:=x'});refine⟨cJ.modify t1.length λe=> {e with key:=k0,val:=x'},ck,?_,⟨l1++ {e0 with key:=k0,val:=x'}::l2,?_,F2.append (.cons ⟨rfl,h2.2.1,h2.2.2.1,hx,h2.2.2.2.2⟩ h3) h1,?_⟩,Nt.of (e1:={e0 with key:=k0,val:=x'}) ht (by rw[IY]) rfl,by simp⟩
  ·rw[Lu]at vY;simp only[Instr.mapUpdate,aI,aF JM,aj,aN,eM hh (by simp),jM Bc,vY,hgi,gT,CM Bc,ky hh (by simp)]
  ·rw[IY];exact(List.perm_middle.trans (hp.cons _)).trans List.perm_middle.symm
  ·have:=Ip.choose_spec.2.2;simpa using this
 ·have qK:∀p∈es,p.1≠k:= λq hq e=>hp ⟨q,hq,e⟩;have NK:qi es (k,x,n)=es++ [(k,x,0)]:=kE (p:=(k,x,n)) hp;rw[NK];have Lu:=Ip.Sd qK;obtain⟨l,hpm,hf,hn⟩:=Ip;refine⟨cJ.push {key:=k,val:=x',born:=ck},ck+1,?_,⟨l++ [{key:=k,val:=x',born:=ck}],?_,F2.append (.cons ⟨rfl,Bc,JN,hx,.inl rfl⟩ .nil) hf,?_⟩,Nt.push rfl,by simp;omega⟩
  ·rw[Lu]at vY;simp only[Instr.mapUpdate,aI,aF JM,aj,aN,eM hh (by simp),jM Bc,vY,ky hh (by simp)]
  ·rw[kZ];exact hpm.append_right _
  ·rw[bS,eK];refine⟨hn,by simp,λa ha b hb=>?_⟩;obtain⟨p,ED,rfl⟩:=List.mem_map.1 ha;simp only[br,S0,zW]at hb;subst hb;exact qK p ED
structure OX (P:Program) (f kt:Nat):Prop where
 enter:∀args w,(callFunc f args).run P w= .ok (.enter f args) w
 nil:∀(pd:Option Nat) (w:World),Calls P f #[.map pd,.map none] w λe w'=>e= .returned (.tuple #[])∧w'=w.alloc (.mapIter none 0 #[] 0)
 walk:∃mt et,P.underlying mt=some (.map kt et)∧∀(J:List MapEntry->Array MapEntry->Nat->Prop) (bd bs:Nat) (wQ jl:Array MapEntry) (cd cs:Nat) (w:World),w.heap[bd]? =some (.map wQ cd)->w.heap[bs]? =some (.map jl cs)->bd≠bs->lS cs jl->
  J [] wQ cd->(∀vu e cJ ck w',J vu cJ ck->e∈jl.toList->(∀x∈vu,x∈jl.toList∧x.born≠e.born)->w'.heap[bd]? =some (.map cJ ck)->
   ∃na mT,(Instr.mapUpdate mt (.map (some bd)) e.key e.val).run P w'= .ok () {w' with heap:=w'.heap.setIfInBounds bd (.map na mT)}∧J (vu++ [e]) na mT)->
  Calls P f #[.map (some bd),.map (some bs)] w λe w'=>e= .returned (.tuple #[])∧∃vu cJ ck,J vu cJ ck∧(∀e∈jl.toList,e.born∈vu.map (·.born))∧Proofs.EngCopy.Inv bd bs jl cs w w' vu cJ ck
def F2.snoc {α β:Type} {R:α->β->Prop} {l:List α} {m:List β} {a:α} {b:β} (h:F2 R l m) (h1:R a b):F2 R (l++ [a]) (m++ [b]):=F2.append (.cons h1 .nil) h
def F2.mem_left {α β:Type} {R:α->β->Prop}:∀ {l:List α} {m:List β},F2 R l m->∀a∈l,∃b∈m,R a b
 |_,_,.nil,_,ha=>by cases ha
 |_,_,.cons h hs,a,ha=>by
  rcases List.mem_cons.1 ha with rfl|ha
  ·exact⟨_,by simp,h⟩
  ·obtain⟨b,hb,hr⟩:=F2.mem_left hs a ha;exact⟨b,by simp[hb],hr⟩
def Kr {α β:Type} {f:α->β} {l:List α} (h:(l.map f).Nodup):l.Nodup:=by rw[agm]at h⊢;rw[List.pairwise_map]at h;exact h.imp λed e=>ed (by rw[e])
def agG (hF:OX P f kt):yW P f (λ_ args s=>lM (NC s (.copy kt) args)):=by
 intro ev j7 args s v s' h ρ w args' hR ha;have h:lM (uq s (.copy kt) args)= .val v s':=h;cases hs:uq s (.copy kt) args with
 |none=>rw[hs]at h;cases h
 |some r=>
 rw[hs]at h;cases h;unfold jx;rw[hF.enter];show CallsIn Fence.wide 0 P f args'.toArray w _;unfold uq at hs;split at hs
 ·rename_i kt0 d heq;cases hs;cases heq;cases ha with|cons rV ha=>?_
  cases ha with|cons oo ha=>?_
  cases ha;cases rV;cases oo;refine uj (callsIn_wide.2 (hF.nil _ w)) ?_;rintro e w' ⟨rfl,rfl⟩;obtain⟨g1,g2⟩:=hR.grow (w':=w.alloc (.mapIter none 0 #[] 0)) (by simp) (λb hb=>RowKit.Below.heap_alloc w _ b hb) rfl rfl rfl;exact⟨_,rfl,ρ,.tuple .nil,g1,g2⟩
 ·rename_i kt0 d rr heq;cases heq;replace hs:=lK hs;obtain⟨wW,hs⟩:=hs;replace hs:=kG hs;obtain⟨kt1,es,cks,RJ,hs⟩:=hs;replace hs:=aY hs;obtain⟨vt,hs⟩:=hs;replace hs:=kG hs;obtain⟨kt2,ig,ck,hbd,hs⟩:=hs;replace hs:=aY hs;obtain⟨uA,hs⟩:=hs;replace hs:=ak hs;obtain⟨rU,aJd,hs⟩:=hs;rw[bD]at hs;replace hs:=ak hs;obtain⟨s1,dm,hs⟩:=hs;cases hs;have vt:=(au vt).symm;have uA:=(au uA).symm;subst vt;subst uA;cases ha with|cons rV ha=>?_
  cases ha with|cons oo ha=>?_
  cases ha;cases rV with| @map _ x hx=>?_
  cases oo with| @map _ y hy=>?_
  have ed:d≠rr:= λe=>by rw[e]at wW;rw[bj]at wW;cases wW
  obtain⟨aIZ,wQ,hhd,hmd,awF⟩:=hR.jI _ _ x hbd hx;obtain⟨awx,jl,hhs,hms,awG⟩:=hR.jI _ _ y RJ hy;have Nu:x.b≠y.b:= λe=>by have:=(hR.pc d rr _ _ x y ed hbd RJ hx hy e).1;cases this
  obtain⟨mt,et,hmt,azh⟩:=hF.walk;have aJe:=hms.nodup;have afP:(es.map (·.1)).Nodup:=hms.choose_spec.2.2;have aJf:(ig.map (·.1)).Nodup:=hmd.choose_spec.2.2;have awH:∀p∈es,∀q∈es,p.1=q.1->p=q:= λp hp q hq e=>by
   obtain⟨a1,a2,rfl⟩:=fT hp;rw[bS,br,eK]at afP;rcases List.mem_append.1 hq with hq|hq
   ·exact(afP.2.2 q.1 (List.mem_map.2 ⟨q,hq,rfl⟩) p.1 (by simp) e.symm).elim
   ·rcases List.mem_cons.1 hq with rfl|hq
    ·rfl
    ·exact((List.nodup_cons.1 afP.2.1).1 (by rw[e];exact List.mem_map.2 ⟨q,hq,rfl⟩)).elim
  have hc:=azh (λvu cJ ckj=>∃vs:List wX,F2 (rH P ρ kt) vs vu∧(∀p∈vs,p∈es)∧(vs.map (·.1)).Nodup∧jo P ρ kt (vs.foldl qi ig) cJ∧lS ckj cJ∧ckj+ig.length=ck+(vs.foldl qi ig).length)
   x.b y.b wQ jl ck cks w hhd hhs Nu awG ⟨[],.nil,λp hp=>(by cases hp),.nil,hmd,awF,rfl⟩ (by
    rintro vu e cJ ckj w' ⟨vs,v1,v2,v3,v4,v5,v6⟩ he awI hh';obtain⟨l0,hp0,hf0,_⟩:=hms;obtain⟨p,hp,hpe⟩:=F2.oS hf0 e (hp0.mem_iff.2 he);obtain⟨na,mT,q1,q2,q3,q4⟩:=Ek (P:=P) (n:=p.2.2) hmt v4 v5 hh' hpe.2.1 hpe.2.2.2.1;rw[<-hpe.1];refine⟨na,mT,q1,vs++ [p],v1.snoc hpe,λq hq=>?_,?_,?_,q3,?_⟩
    ·rcases List.mem_append.1 hq with hq|hq
     ·exact v2 q hq
     ·simp at hq;subst hq;exact hp
    ·rw[bS,eK];refine⟨v3,by simp,λa ha b hb jJ=>?_⟩;simp at hb;subst hb;obtain⟨q,hq,rfl⟩:=List.mem_map.1 ha;have:=awH q (v2 q hq) p hp jJ;subst this;obtain⟨e1,vp,hqe⟩:=F2.mem_left v1 q hq;have hnk:=aJe;have hee:e1=e:=by
      have hk:e1.key=e.key:=by rw[<-hqe.1,hpe.1]
      obtain⟨a1,a2,ha⟩:=fT he;have awJ:=(awI e1 vp).1;rw[ha]at hnk awJ;rw[bS,br,eK]at hnk;rcases List.mem_append.1 awJ with h|h
      ·exact(hnk.2.2 e1.key (List.mem_map.2 ⟨e1,h,rfl⟩) e.key (by simp) hk).elim
      ·rcases List.mem_cons.1 h with h|h
       ·exact h
       ·exact((List.nodup_cons.1 hnk.2.1).1 (by rw[<-hk];exact List.mem_map.2 ⟨e1,h,rfl⟩)).elim
     exact(awI e1 vp).2 (by rw[hee])
    ·rw[Bt];exact q2
    ·rw[Bt];show mT+ig.length=ck+(qi (vs.foldl qi ig) p).length;have q4':mT+(vs.foldl qi ig).length=ckj+(qi (vs.foldl qi ig) p).length:=q4;omega)
  refine uj (callsIn_wide.2 hc) ?_;rintro e w' ⟨rfl,vu,cJ,ckj,⟨vs,v1,v2,v3,v4,v5,v6⟩,iO,hI⟩;have wP:vs.Perm es:=by
   refine(List.perm_ext_iff_of_nodup (Kr v3) (Kr afP)).2 λp=>⟨v2 p,λhp=>?_⟩
   obtain⟨l0,hp0,hf0,_⟩:=hms;obtain⟨e1,vp,hpe⟩:=F2.mem_left hf0 p hp;obtain⟨e2,Fp,wV⟩:=List.mem_map.1 (iO e1 (hp0.mem_iff.1 vp));have:e2=e1:=by
    have awK:=hI.mem e2 Fp;obtain⟨a1,a2,ha⟩:=fT (hp0.mem_iff.1 vp);have RI:=awG.1;rw[ha]at RI awK;rw[bS,br,eK]at RI;rcases List.mem_append.1 awK with h|h
    ·exact(RI.2.2 e2.born (List.mem_map.2 ⟨e2,h,rfl⟩) e1.born (by simp) wV).elim
    ·rcases List.mem_cons.1 h with h|h
     ·exact h
     ·exact((List.nodup_cons.1 RI.2.1).1 (by rw[<-wV];exact List.mem_map.2 ⟨e2,h,rfl⟩)).elim
   subst this;obtain⟨q,hq,hqe⟩:=F2.oS v1 e2 Fp;have:=awH q (v2 q hq) p hp (by rw[hqe.1,hpe.1]);rw[<-this];exact hq
  have hpw:vs.Pairwise (λp q=>p.1≠q.1):=by have:=v3;rw[agm,List.pairwise_map]at this;exact this
  have BK:=HN aJf aJd;have hP:=IJ wP hpw ig ig (.refl _);rw[<-BK]at hP;have anW:=v4.perm hP;have hlen:=hP.length_eq;have hle:=Ao vs ig;have hck:ck+((len rU).sub (len ig))=ckj:=by rw[dQ,dQ];show ck+(rU.length-ig.length)=ckj;omega
  have hxs:x.b<w'.heap.size:=by rw[hI.size];omega
  generalize JK:({w' with heap:=w'.heap.setIfInBounds x.b (.map wQ ck)}:World)=w1;have azi:∀b,b<w.heap.size->w1.heap[b]? =w.heap[b]?:= λb hb=>by
   rw[<-JK];by_cases zH:b=x.b
   ·subst zH;simp[hxs,hhd]
   ·simp only;rw[eQ (jd zH)];exact hI.rest b hb zH
  have IZ:w1.heap.size=w'.heap.size:=by rw[<-JK];simp
  have Fq:w1.tape=w.tape∧w1.os=w.os∧w1.output=w.output:=by rw[<-JK];exact⟨hI.tape,hI.os,hI.out⟩
  obtain⟨g1,g2⟩:=hR.grow (w':=w1) (by rw[IZ,hI.size];omega) azi Fq.1 Fq.2.1 Fq.2.2;have hw:=Rel.write (P:=P) (w':=w') g1 dm hbd rfl hx IZ.symm (λb hb=>by
   rw[<-JK];simp only;rw[eQ (jd hb)]) (by rw[Fq.1];exact hI.tape) (by rw[Fq.2.1];exact hI.os) (by rw[Fq.2.2];exact hI.out) ⟨cJ,by show w'.heap[x.b]? =some (.map cJ (ck+((len rU).sub (len ig))));rw[hck];exact hI.dst,anW,by rw[show Nat.add ck ((len rU).sub (len ig))=ckj from hck];exact v5⟩
  exact⟨_,rfl,ρ,.tuple .nil,hw.1,g2.trans hw.2⟩
 ·rename_i he;cases he
 ·cases hs
def Fc {f:Nat} {e:Ext}:∀ {l:List (Nat×Ext)},BQ f l=some e->(f,e)∈l
 | [],h=>by cases h
 |p::l,h=>by
  have h:aD (Nat.beq f p.1) (some p.2) (BQ f l)=some e:=h;rw[bW]at h;split at h
  ·rename_i hb;cases h;rw[au hb];exact gN ..
  ·exact cV _ (Fc h)
def Fe {f:Nat} {e:Sum}:∀ {l:List (Nat×Sum)},qN f l=some e->(f,e)∈l
 | [],h=>by cases h
 |p::l,h=>by
  have h:aD (Nat.beq f p.1) (some p.2) (qN f l)=some e:=h;rw[bW]at h;split at h
  ·rename_i hb;cases h;rw[au hb];exact gN ..
  ·exact cV _ (Fe h)
def abL {a b:Sum} (ha:yW P f (λ_ args s=>lM (uq s a args))) (hb:yW P f (λ_ args s=>lM (NC s b args))):yW P f (λ_ args s=>lM (NC s (.alt a b) args)):=by
 intro ev j7 args s v s' h ρ w args' hR hl;have h:lM (orO (uq s a args) (NC s b args))= .val v s':=h;cases e:uq s a args with
 |none=>rw[e]at h;exact hb ev j7 args s v s' h ρ w args' hR hl
 |some p=>rw[e]at h;exact ha ev j7 args s v s' (by show lM (uq s a args)=_;rw[e];exact h) ρ w args' hR hl
def Si (n:String) (l:List Func):Bool:=lR Bool true (λf _ ih=>Bool.rec (motive:= λ_=>Bool) ih false (decide (f.name=n))) l
def HP {n:String}:∀ {l:List Func},Si n l=true->∀f∈l,f.name≠n
 | [],_,f,hf=>by cases hf
 |g::l,h,f,hf=>by
  have h:Bool.rec (motive:= λ_=>Bool) (Si n l) false (decide (g.name=n))=true:=h;by_cases hg:g.name=n
  ·rw[aL hg]at h;cases h
  ·rw[az hg]at h;rcases List.mem_cons.1 hf with rfl|hf
   ·exact hg
   ·exact HP h f hf
def Tv (h:Si "runtime.NumGoroutine" P.funcs.toList=true):kz P:= λf fn hf=>by
 have:fn∈P.funcs.toList:=by have:=Array.mem_of_getElem? hf;simpa using this
 have:=HP h fn this;simpa using this
def apF (h1:kz P) (h2:P.follows .mixedOrders=true) (h3:∀p∈X.ext,vO P p.1 p.2) (h4:∀p∈X.sum,yW P p.1 (Gr p.2)):Ab P X:=
 ⟨h1,h2,λf e h=>h3 (f,e) (Fc h),λf e h=>h4 (f,e) (Fe h)⟩
def ju (r:Value->bQ) (t:T LVal):Option (T LVal):=
 T.rec (motive:= λ_=>Option (T LVal)) (some .e) (λv _ _ sS WZ=>ob sS λl=>ob WZ λr'=>oR (Option (T LVal)) (some (.n none l r')) (λc=>ob (dj r c) λc'=>some (.n (some c') l r')) v) t
def kr (r:Value->bQ) (b:eX):Option eX:=
 match b with
 | .cells c sz n false et=>ob (ju r c) λc'=>cG sz λvV=>cG n λn'=>cG et λRH=>some (.cells c' vV n' false RH)
 |_=>none
def WD (b:Nat) (l:List Nat):Option (List Nat):=
 lR (Option (List Nat)) (cG b λb=>some [b]) (λx t ih=>aD (Nat.beq x b) (some (x::t)) (ob ih λr=>some (x::r))) l
def WE (k b:Nat) (l:List Nat):Option (List Nat):=aD (Nat.blt b k) (some l) (WD b l)
def pg (f:Value->List Nat->Option (List Nat)) (vs:LVal):List Nat->Option (List Nat):=
 lR (List Nat->Option (List Nat)) (λl=>some l) (λv _ ih l=>ob (f v l) ih) vs
def pY (k n:Nat):Value->List Nat->Option (List Nat):=
 nR (Value->List Nat->Option (List Nat)) (λ_ _=>none) (λ_ ih v l=>match v with
  | .pointer (some a)=>WE k a.block l
  | .slice (some a) _ _=>WE k a.block l
  | .map (some b)=>WE k b l
  | .func _ a b=>ob (pg ih a.toList l) λl=>pg ih b.toList l
  | .iface _ x=>ih x l
  | .agg a=>pg ih a.toList l
  | .tuple a=>pg ih a.toList l
  |_=>some l) n
def EN (k n:Nat) (t:T LVal):List Nat->Option (List Nat):=
 T.rec (motive:= λ_=>List Nat->Option (List Nat)) (λl=>some l) (λv _ _ sS WZ l=>ob (oR (Option (List Nat)) (some l) (λc=>pg (pY k n) c l) v) λl=>ob (sS l) WZ) t
def I6 (k n:Nat) (b:eX) (l:List Nat):Option (List Nat):=match b with| .cells c _ _ false _=>EN k n c l|_=>none
def Lk (i:Nat):List Nat->Option Nat:=
 nR (List Nat->Option Nat) (λl=>lR (Option Nat) none (λx _ _=>some x) l)
  (λ_ ih l=>lR (Option Nat) none (λ_ t _=>ih t) l) i
def mg (h:T eX) (k n:Nat) (fuel:Nat):Nat->List Nat->Option (List Nat):=
 nR (Nat->List Nat->Option (List Nat)) (λ_ _=>none) (λ_ ih i l=>
  oR (Option (List Nat)) (some l)
   (λb=>ob (oR (Option (List Nat)) (some l) (λx=>I6 k n x l) (h.get b)) λl=>ih (Nat.succ i) l) (Lk i l)) fuel
def my (l:List Nat) (a:Nat):Nat->Option Nat:=
 lR (Nat->Option Nat) (λ_=>none) (λx _ ih i=>aD (Nat.beq x a) (cG i λi=>some i) (ih (Nat.succ i))) l
def lU (l m:List Nat) (k nx:Nat) (j:Nat):Option Nat:=aD (Nat.blt j k) (ob (Lk j l) λa=>cG a λa=>some a) (my m j nx)
def lH (r:Value->bQ) (h:T eX) (l:List Nat):Nat->T eX->Option (T eX):=
 lR (Nat->T eX->Option (T eX)) (λ_ t=>some t) (λa _ ih i t=>oR (Option (T eX)) (ob (T.put none t i) λt'=>ih (Nat.succ i) t') (λb=>ob (kr r b) λb'=>ob (T.put (some b') t i) λt'=>ih (Nat.succ i) t') (h.get a)) l
def pI (s:AS) (l:List Nat) (k:Nat) (o:Out):Out:=
 Out.rec (motive:= λ_=>Out) .no (λ_ _ _=> .no) (λv s'=>
  lM (ob (ob (pY k 12 v []) λm=>mg s'.h k 12 200 0 m) λm=>aD (aD (fA m) (Er k m) false)
   (ob (dV (lU l m k s.nx) 12 v) λv'=>ob (lH (dV (lU l m k s.nx) 12) s'.h m s.nx s.h) λh=>cG (Nat.add s.nx (len m)) λnx=>cG s.lim λlm=>some (v',⟨h,nx,lm⟩)) none)) o
def lO (B:Ev) (f:Nat) (args:LVal) (s:AS):Out:=
 oR Out .no (λl=>
  aD (aD (fA l) (zZ s.nx l) false)
   (oR Out .no (λargs'=>
    oR Out .no (λh=>xE (len l) λk=>pI s l k (B (.func (.func f) #[] #[]) args' ⟨h,k,k⟩))
     (lH (dV (λa=>my l a 0) 12) s.h l 0 (lQ 20))) (dj (dV (λa=>my l a 0) 12) args)) .no)
  (ob (pg (pY 0 12) args []) λl=>mg s.h 0 12 200 0 l)
def akJ (a b:Out):Out:=Out.rec (motive:= λ_=>Out) b (λ_ _ _=>b) (λv s=> .val v s) a
def uv (B:Ev) (f:Nat) (F:FF):FF:= λev args s=>akJ (lO B f args s) (F ev args s)
def lr (f:Nat) (l:List (Nat×Ev)):Option Ev:=lR (Option Ev) none (λp _ ih=>aD (Nat.beq f p.1) (some p.2) ih) l
def pK (P:Program) (X:QJ) (L:List (Nat×Ev)) (f:Nat):Option FF:=
 ob (iN P X f) λF=>oR (Option FF) (some F) (λB=>some (uv B f F)) (lr f L)
def jH (P:Program) (X:QJ) (L:List (Nat×Ev)) (n:Nat):Ev:=Uo P (pK P X L) n
def Rn (v:Value) (o:Out):Bool:=Out.rec (motive:= λ_=>Bool) false (λ_ _ _=>false) (λu _=>qQ 12 v u) o
def NL (l:List Nat) (B:Ev) (r:List (Nat×Ev)):List (Nat×Ev):=lR (List (Nat×Ev)) r (λf _ ih=>(f,B)::ih) l
