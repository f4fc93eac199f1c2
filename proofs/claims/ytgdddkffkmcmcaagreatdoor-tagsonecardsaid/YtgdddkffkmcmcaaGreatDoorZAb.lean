import Derived.Test.YtgdddkffkmcmcaaGreatDoorZAa
/- Part of the proof that TagsOne answers true. -/
set_option linter.all false
set_option maxRecDepth 100000
noncomputable section
namespace Go.Eng
open Go Go.Proofs
variable {s s' s0:AS} {v u y x v' x':Value} {n t b i k f a r p q j et ck nt kt e ty off:Nat} {w w':World} {o:Option Nat} {l vs l':LVal} {rows R els:List LVal} {tm tm':T Value} {es:List (Value×Value×Nat)} {ts:Array TypeId} {lo:Lo} {X:QJ} {P:Program} {F:Fence} {S:List Nat} {ρ ρ':Ren}
def XM {o k:Option Bool} {r:Bool} (h:andM o k=some r):(o=some true∧k=some r)∨(o=some false∧r=false):=by
 cases o with
 |none=>cases h
 |some b=>
  have h:aD b k (some false)=some r:=h;cases b with
  |true=>exact .inl ⟨rfl,h⟩
  |false=>have h:some false=some r:=h;cases h;exact .inr ⟨rfl,rfl⟩
def apr {f:Value->Mt} (hf:∀a b r,f a b=some r->(r=true↔a=b)):∀(l m:LVal) (r:Bool),mL (mapM' f l) m=some r->(r=true↔l=m):=by
 intro l;induction l with
 |nil=>
  intro m r h;cases m with
  |nil=>have h:some true=some r:=h;cases h;simp
  |cons b m=>cases h
 |cons a l ih=>
  intro m r h;cases m with
  |nil=>cases h
  |cons b m=>
   have h:andM (f a b) (mL (mapM' f l) m)=some r:=h;rcases XM h with ⟨jJ,h⟩|⟨jJ,rfl⟩
   ·have:=(hf a b true jJ).1 rfl;rw[ih m r h,this];simp
   ·have:¬a=b:= λe=>by have:=(hf a b false jJ).2 e;cases this
    simp[this]
def FK:∀(d:Nat) (a b:Value) (r:Bool),vn d a b=some r->(r=true↔a=b):=by
 intro d;induction d with
 |zero=>intro a b r h;cases h
 |succ d ih=>
  intro a b r h;cases a with
  |bool x=>
   have h:mB x b=some r:=h;cases b with
   |bool y=>have h:some (aD x y (lF y))=some r:=h;cases h;cases x<;>cases y<;>simp[bW,lF]
   |_=>cases h
  |int k n=>
   have h:mI k n b=some r:=h;cases b with
   |int k' m=>have h1:aD (tz k k') (some (FY n m)) none=some r:=h;clear h;replace h1:=aY h1;obtain⟨hk,h1⟩:=h1;replace hk:=tc.1 hk;subst hk;cases h1;rw[oH];simp
   |_=>cases h
  |string s=>
   have h:mS s.data.toList b=some r:=h;cases b with
   |string s'=>have h:some (NY s.data.toList s'.data.toList)=some r:=h;cases h;rw[tL];simp only[Fj,hZ];exact⟨λh=>Cy (eh h),λh=>by rw[h]⟩
   |_=>cases h
  |agg x=>
   have h:mA (mapM' (vn d) x.toList) b=some r:=h;cases b with
   |agg y=>have h:mL (mapM' (vn d) x.toList) y.toList=some r:=h;rw[apr ih _ _ _ h,Value.agg.injEq];exact⟨λh=>eh h,λh=>by rw[h]⟩
   |_=>cases h
  |_=>cases h
def Hu {k:Value} {d:Nat}:∀ {es:List (Value×Value×Nat)} {o:Option (Value×Nat)},zX (vn d k) es=some o->(∃v,o=some v∧(k,v)∈es)∨(o=none∧∀p∈es,p.1≠k):=by
 intro es;induction es with
 |nil=>intro o h;have h:some none=some o:=h;cases h;exact .inr ⟨rfl,λp hp=>by cases hp⟩
 |cons p es ih=>
  intro o h;obtain⟨k',v⟩:=p;have h:oR (Option (Option (Value×Nat))) none (λb=>aD b (some (some v)) (zX (vn d k) es)) (vn d k k')=some o:=h;cases hk:vn d k k' with
  |none=>rw[hk]at h;cases h
  |some b=>
   rw[hk]at h;cases b with
   |true=>have h:some (some v)=some o:=h;cases h;have:=(FK _ _ _ _ hk).1 rfl;exact .inl ⟨v,rfl,by rw[this];simp⟩
   |false=>
    have h:zX (vn d k) es=some o:=h;have ed:k'≠k:= λe=>by have:=(FK _ _ _ _ hk).2 e.symm;cases this
    rcases ih h with ⟨v',h1,h2⟩|⟨h1,h2⟩
    ·exact .inl ⟨v',h1,by simp[h2]⟩
    ·refine .inr ⟨h1,λp hp=>?_⟩;rcases List.mem_cons.1 hp with rfl|hp
     ·exact ed
     ·exact h2 p hp
def yw:∀(d i:Nat),T.get (pD d) i=none
 |0,i=>T.ur i
 |d+1,i=>by
  have e:pD (d+1)= .n none (pD d) (pD d):=rfl;rw[e];rcases dN i with rfl|⟨m,rfl⟩|⟨m,rfl⟩
  ·rw[T.nW]
  ·rw[T.gX];exact yw d m
  ·rw[T.fQ];exact yw d m
def GQ:∀ {es:List xk} {t:T (List xk)},idx es=some t->∀i p,p∈bucket t i↔p∈es∧ixV p.1=i
 | [],t,h,i,p=>by have h:some (pD 11)=some t:=h;cases h;unfold bucket;rw[yw];exact⟨λh=>(by cases h),λh=>(by cases h.1)⟩
 |e::es,t,h,i,p=>by
  have h:ob (idx es) (λt=>JT e t)=some t:=h;obtain⟨t0,h0,h⟩:=ak h;unfold JT at h;rw[bD]at h;have ih:=GQ h0;unfold bucket;rw[T.jw _ _ _ _ h i];by_cases hi:i=ixV e.1
  ·rw[aU hi];show p∈e::bucket t0 (ixV e.1)↔_;rw[bu,ih,bu,hi];constructor
   ·rintro(rfl|⟨h1,h2⟩)
    ·exact⟨.inl rfl,rfl⟩
    ·exact⟨.inr h1,h2⟩
   ·rintro⟨h1|h1,h2⟩
    ·exact .inl h1
    ·exact .inr ⟨h1,h2⟩
  ·rw[aC hi];show p∈bucket t0 i↔_;rw[ih,bu];constructor
   ·rintro⟨h1,h2⟩;exact⟨.inr h1,h2⟩
   ·rintro⟨h1|h1,h2⟩
    ·subst h1;exact(hi h2.symm).elim
    ·exact⟨h1,h2⟩
def wm {k:Value} {o:Option (Value×Nat)} (h:jj k es=some o):(∃v,o=some v∧(k,v)∈es)∨(o=none∧∀p∈es,p.1≠k):=by
 have h2:zX (vn 8 k) es=some o∨Oe k es=some o:=by unfold jj at h;cases k<;>first|exact .inl h|exact .inr h
 rcases h2 with h|h
 ·exact Hu h
 ·unfold Oe at h;rw[bD]at h;obtain⟨t,ht,h⟩:=ak h;have hb:=GQ ht;rcases Hu h with ⟨v,h1,h2⟩|⟨h1,h2⟩
  ·exact .inl ⟨v,h1,((hb _ _).1 h2).1⟩
  ·exact .inr ⟨h1,λp hp e=>h2 p ((hb _ _).2 ⟨hp,by rw[e]⟩) e⟩
def J9 {k:Value}:∀ {es ig:List (Value×Value×Nat)},qW k v ck es=some ig->(∃FZ v0 b0 rU,es=FZ++(k,v0,b0)::rU∧ig=FZ++(k,v,b0)::rU)∨((∀p∈es,p.1≠k)∧ig=es++ [(k,v,ck)]):=by
 intro es;induction es with
 |nil=>intro o h;have h:some [(k,v,ck)]=some o:=h;cases h;exact .inr ⟨λp hp=>(by cases hp),rfl⟩
 |cons p es ih=>
  intro ig h;obtain⟨k',v',b'⟩:=p;have h:oR (Option (List (Value×Value×Nat))) none (λb=>aD b (some ((k,v,b')::es)) (ob (qW k v ck es) λr=>some ((k',v',b')::r))) (vn 8 k k')=some ig:=h;cases hk:vn 8 k k' with
  |none=>rw[hk]at h;cases h
  |some b=>
   rw[hk]at h;cases b with
   |true=>have h:some ((k,v,b')::es)=some ig:=h;cases h;have:=(FK _ _ _ _ hk).1 rfl;subst this;exact .inl ⟨[],v',b',es,rfl,rfl⟩
   |false=>
    have h:ob (qW k v ck es) (λr=>some ((k',v',b')::r))=some ig:=h;have ed:k'≠k:= λe=>by have:=(FK _ _ _ _ hk).2 e.symm;cases this
    obtain⟨r,hr,h⟩:=ak h;cases h;rcases ih hr with ⟨FZ,v0,b0,rU,rfl,rfl⟩|⟨h1,rfl⟩
    ·exact .inl ⟨(k',v',b')::FZ,v0,b0,rU,rfl,rfl⟩
    ·refine .inr ⟨λp hp=>?_,rfl⟩;rcases List.mem_cons.1 hp with rfl|hp
     ·exact ed
     ·exact h1 p hp
def acU {k:Value} {ig:List (Value×Value×Nat)} {x:Value×Nat} (hm:(k,x)∈es) (h:qW k v ck es=some ig):∃FZ v0 b0 rU,es=FZ++(k,v0,b0)::rU∧ig=FZ++(k,v,b0)::rU:=by
 rcases J9 h with h|⟨h,_⟩
 ·exact h
 ·exact(h _ hm rfl).elim
def ru (k:Value):List MapEntry->Nat->Option (Nat×Value)
 | [],_=>none
 |e::es,i=> @ite _ (e.key=k) (Classical.propDecidable _) (some (i,e.val)) (ru k es (i+1))
def Tm {k:Value}:∀ {l:List MapEntry} (j:Nat),(∀e∈l,e.key≠k)->ru k l j=none:=by
 intro l;induction l with
 |nil=>intro j _;rfl
 |cons e l ih=>intro j h;unfold ru;rw[aC (h e (by simp))];exact ih _ (λx hx=>h x (by simp[hx]))
def Tn {k:Value} {e:MapEntry} (hk:e.key=k):∀ {l1 l2:List MapEntry} (j:Nat),(∀x∈l1,x.key≠k)->ru k (l1++e::l2) j=some (j+l1.length,e.val):=by
 intro l1;induction l1 with
 |nil=>intro l2 j _;show ru k (e::l2) j=_;unfold ru;rw[aU hk];rfl
 |cons x l1 ih=>intro l2 j h;show ru k (x::(l1++e::l2)) j=_;unfold ru;rw[aC (h x (by simp)),ih _ (λy hy=>h y (by simp[hy]))];simp only[bU];rw[show j+1+l1.length=j+(l1.length+1) by omega]
def E5 {D:TypeDesc} {a b:Value} {r:Bool} (h:Instr.sameNow D a b=some r):r=true↔a=b:=by
 unfold Instr.sameNow at h;split at h
 ·split at h
  ·rename_i hk;subst hk;cases h;simp
  ·cases h
 ·cases h;rename_i a b;rw[beq_toListBytes,mn,mn,Fj,hZ];exact⟨λh=>Cy (eh h),λh=>by rw[h]⟩
 ·cases h;simp
 ·cases h
def Jz {D:TypeDesc} {k:Value}:∀ {l:List MapEntry} {i:Nat} {r:Option (Nat×Value)},Instr.findNow D k l i=some r->r=ru k l i:=by
 intro l;induction l with
 |nil=>intro i r h;cases h;rfl
 |cons e l ih=>
  intro i r h;unfold Instr.findNow at h;unfold ru;split at h
  ·rename_i hs;cases h;rw[aU ((E5 hs).1 rfl).symm]
  ·rename_i hs;have ed:¬e.key=k:= λe=>by have:=(E5 hs).2 e.symm;cases this
   rw[aC ed];exact ih h
  ·cases h
def px (h:eB P kt v=true):∃ks,jv P 5 kt=some ks∧m6 (isAgg P kt) ks v=true:=by
 unfold eB at h;split at h
 ·exact⟨_,‹_›,h⟩
 ·cases h
def tS (h:eB P kt v=true):Plain v:=by obtain⟨ks,_,h⟩:=px h;exact P1 h
def jM (h:eB P kt v=true) (em:Bool) (w:World):(Instr.checkKey em 10000 kt v).run P w= .ok () w:=by obtain⟨ks,hk,h⟩:=px h;exact(Sc 5 9995 kt ks hk w).1 em v h
def MZ {a b:Value} (ha:eB P kt a=true) (hb:eB P kt b=true) (w:World):∃r:Bool,(Op.equal kt a b).run P w= .ok r w∧(r=true↔a=b):=by obtain⟨ks,hk,ha⟩:=px ha;obtain⟨ks',oL,hb⟩:=px hb;rw[hk]at oL;cases oL;exact(Sc 5 9995 kt ks hk w).2 a b ha hb
def IE {k:Value} (hk:eB P kt k=true) (w:World):∀(l:List MapEntry) (i:Nat),(∀e∈l,eB P kt e.key=true)->(Instr.findAsking kt k l i).run P w= .ok (ru k l i) w:=by
 intro l;induction l with
 |nil=>intro i _;rfl
 |cons e l ih=>
  intro i h;obtain⟨r,hr,xm⟩:=MZ hk (h e (by simp)) w;unfold Instr.findAsking ru;rw[aI,hr,aj];cases r with
  |true=>rw[aU rfl,aU (xm.1 rfl).symm];rfl
  |false=>
   have ed:¬e.key=k:= λe=>by have:=xm.2 e.symm;cases this
   rw[aC (by simp),aC ed];exact ih _ (λx hx=>h x (by simp[hx]))
def tu {k:Value} (hk:eB P kt k=true) (w:World) {l:List MapEntry} (h:∀e∈l,eB P kt e.key=true):(Instr.findKey kt k l).run P w= .ok (ru k l 0) w:=by
 have hu:∃D,P.underlying kt=some D:=by
  obtain⟨ks,hp,_⟩:=px hk;obtain⟨b,hb,_⟩:=E4 hp;unfold isAgg at hb;split at hb
  ·exact⟨_,‹_›⟩
  ·exact⟨_,‹_›⟩
  ·exact⟨_,‹_›⟩
  ·cases hb
 obtain⟨D,hu⟩:=hu;unfold Instr.findKey;rw[aI,aF hu,aj];split
 ·rename_i r hr;rw[Jz hr];rfl
 ·exact IE hk w l 0 h
def F2.split {α β:Type} {R:α->β->Prop} {a:α} {l2:List α}:∀ {l1:List α} {m:List β},F2 R (l1++a::l2) m->∃m1 b m2,m=m1++b::m2∧F2 R l1 m1∧R a b∧F2 R l2 m2:=by
 intro l1;induction l1 with
 |nil=>intro m h;cases h with|cons h hs=>exact⟨[],_,_,rfl,.nil,h,hs⟩
 |cons x l1 ih=>
  intro m h;cases h with
  |cons h hs=>obtain⟨m1,b,m2,rfl,h1,h2,h3⟩:=ih hs;exact⟨_::m1,b,m2,rfl,.cons h h1,h2,h3⟩
def F2.append {α β:Type} {R:α->β->Prop} {l2:List α} {m2:List β} (h2:F2 R l2 m2):∀ {l1:List α} {m1:List β},F2 R l1 m1->F2 R (l1++l2) (m1++m2)
 |_,_,.nil=>h2
 |_,_,.cons h hs=> .cons h (F2.append h2 hs)
def F2.oS {α β:Type} {R:α->β->Prop}:∀ {l:List α} {m:List β},F2 R l m->∀b∈m,∃a∈l,R a b
 |_,_,.nil,_,hb=>by cases hb
 |_,_,.cons h hs,b,hb=>by
  rcases List.mem_cons.1 hb with rfl|hb
  ·exact⟨_,by simp,h⟩
  ·obtain⟨a,ha,hr⟩:=F2.oS hs b hb;exact⟨a,by simp[ha],hr⟩
abbrev rH (P:Program) (ρ:Ren) (kt:TypeId) (p:Value×Value×Nat) (e:MapEntry):Prop:=p.1=e.key∧eB P kt p.1=true∧Plain p.1∧bN ρ p.2.1 e.val∧(p.2.2=0∨p.2.2=e.born+1)
def Cb {kt:TypeId}:∀ {es:List (Value×Value×Nat)} {l:List MapEntry},F2 (rH P ρ kt) es l->l.map (·.key)=es.map (·.1)
 |_,_,.nil=>rfl
 |_,_,.cons h hs=>by simp[Cb hs,h.1]
def jo.fits {cJ:Array MapEntry} (h:jo P ρ kt es cJ):∀e∈cJ.toList,eB P kt e.key=true:=by obtain⟨l,hp,hf,hn⟩:=h;intro e he;obtain⟨p,_,h1,h2,_⟩:=F2.oS hf e (hp.mem_iff.2 he);rw[<-h1];exact h2
def jo.nodup {cJ:Array MapEntry} (h:jo P ρ kt es cJ):(cJ.toList.map (·.key)).Nodup:=by obtain⟨l,hp,hf,hn⟩:=h;rw[<-(hp.map _).nodup_iff,Cb hf];exact hn
def jo.Sd {cJ:Array MapEntry} {k:Value} (h:jo P ρ kt es cJ) (hk:∀p∈es,p.1≠k):ru k cJ.toList 0=none:=by obtain⟨l,hp,hf,hn⟩:=h;refine Tm 0 (λe he=>?_);obtain⟨p,ED,h1,_⟩:=F2.oS hf e (hp.mem_iff.2 he);rw[<-h1];exact hk p ED
def jo.Mg {FZ rU:List (Value×Value×Nat)} {cJ:Array MapEntry} {k:Value} (h:jo P ρ kt (FZ++(k,v,b)::rU) cJ):
  ∃l1 e l2 t1 t2,F2 (rH P ρ kt) FZ l1∧rH P ρ kt (k,v,b) e∧F2 (rH P ρ kt) rU l2∧(l1++l2).Perm (t1++t2)∧cJ.toList=t1++e::t2∧ru k cJ.toList 0=some (t1.length,e.val):=by
 have Dl:=h.nodup;obtain⟨l,hp,hf,hn⟩:=h;obtain⟨l1,e,l2,rfl,h1,h2,h3⟩:=hf.split;have he:e∈cJ.toList:=hp.mem_iff.1 (by simp);obtain⟨t1,t2,ht⟩:=fT he;refine⟨l1,e,l2,t1,t2,h1,h2,h3,?_,ht,?_⟩
 ·rw[ht]at hp;have:=(List.perm_middle.symm.trans hp).trans List.perm_middle;exact this.cons_inv
 ·rw[ht]at Dl⊢;have:=Tn (l1:=t1) (l2:=t2) h2.1.symm 0 (λx hx hxk=>?_)
  ·rw[this,aG]
  ·rw[bS,br,eK]at Dl;exact Dl.2.2 x.key (List.mem_map.2 ⟨x,hx,rfl⟩) e.key (by simp) (by rw[hxk];exact h2.1)
def Hv {ke:TypeId×TypeId} (h:keyOf P t=some ke):P.underlying t=some (.map ke.1 ke.2):=by
 unfold keyOf at h;split at h
 ·cases h;assumption
 ·cases h
def CL {ok:Bool} (h:mN P e ok none=some v):∃z,mU P e=some z∧bN ρ v (if ok then .tuple #[z,.bool false]else z):=by
 unfold mN at h;obtain⟨z,hz,h⟩:=ak h;cases h;refine⟨z,hz,?_⟩;have:=wg (ρ:=ρ) hz;rw[bW];cases ok with
 |true=>exact .tuple (.cons this (.cons (.bool _) .nil))
 |false=>exact this
def P3 {ok:Bool} (h:mN P e ok (some (x,b))=some v) (hr:bN ρ x u):bN ρ v (if ok then .tuple #[u,.bool true]else u):=by
 unfold mN at h;cases h;rw[bW];cases ok with
 |true=>exact .tuple (.cons hr (.cons (.bool _) .nil))
 |false=>exact hr
def lS.of {cJ na:Array MapEntry} {t1 t2:List MapEntry} {e0 e1:MapEntry} (h:lS ck cJ) (ht:cJ.toList=t1++e0::t2) (EB:na.toList=t1++e1::t2) (hb:e1.born=e0.born):lS ck na:=by
 obtain⟨h1,h2⟩:=h;rw[ht]at h1 h2;refine⟨by rw[EB];simpa[hb]using h1,λe he=>?_⟩;rw[EB]at he;rcases List.mem_append.1 he with he|he
 ·exact h2 e (by simp[he])
 ·rcases List.mem_cons.1 he with rfl|he
  ·rw[hb];exact h2 e0 (by simp)
  ·exact h2 e (by simp[he])
def lS.push {ck:Nat} {cJ:Array MapEntry} {e:MapEntry} (h:lS ck cJ) (hb:e.born=ck):lS (ck+1) (cJ.push e):=by
 obtain⟨h1,h2⟩:=h;refine⟨?_,λx hx=>?_⟩
 ·rw[kZ,bS,eK];refine⟨h1,by simp,λa ha b iR=>?_⟩;obtain⟨x,hx,rfl⟩:=List.mem_map.1 ha;have:=h2 x hx;simp at iR;omega
 ·rw[kZ]at hx;rcases List.mem_append.1 hx with hx|hx
  ·have:=h2 x hx;omega
  ·simp at hx;subst hx;omega
def lS.drop {cJ na:Array MapEntry} {t1 t2:List MapEntry} {e0:MapEntry} (h:lS ck cJ) (ht:cJ.toList=t1++e0::t2) (EB:na.toList=t1++t2):lS ck na:=by
 obtain⟨h1,h2⟩:=h;rw[ht]at h1 h2;refine⟨?_,λe he=>?_⟩
 ·rw[EB,bS];rw[bS,br]at h1;exact(List.nodup_cons.1 ((List.perm_middle.nodup_iff).1 h1)).2
 ·rw[EB]at he;rcases List.mem_append.1 he with he|he
  ·exact h2 e (by simp[he])
  ·exact h2 e (by simp[he])
def JA {ok:Bool} {k k':Value} (hr:Rel P ρ s w) (h:jR P s t ok k x=some v) (hk:bN ρ k k') (hx:bN ρ x x'):∃u,(Instr.lookup t x' k' ok).run P w= .ok u w∧bN ρ v u:=by
 unfold jR at h;replace h:=ak h;obtain⟨⟨kt,e⟩,JM,h⟩:=h;replace h:=aY h;obtain⟨Bc,h⟩:=h;replace JM:=Hv JM;simp only at h Bc JM;have JN:=tS Bc;have:=hk.plain JN;subst this;split at h
 ·cases hx;obtain⟨z,hz,hv⟩:=CL (ρ:=ρ) h;refine⟨_,?_,hv⟩;have vY:=tu (P:=P) Bc w (l:= []) (λe he=>by cases he);have vY:(Instr.findKey kt k' []).run P w= .ok none w:=vY;simp only[Instr.lookup,aI,aF JM,aj,aN,jM Bc,vY,j6 hz w]
 ·rename_i r;replace h:=kG h;obtain⟨Y6,es,ck,hb,h⟩:=h;replace h:=aY h;obtain⟨JO,h⟩:=h;replace h:=ak h;obtain⟨o,ho,h⟩:=h;replace JO:=au JO;subst JO;cases hx with| @map a y hy=>?_
  obtain⟨cJ,hh,hm,Nt⟩:=(hr.jI _ _ y hb hy).2;have vY:=tu (P:=P) Bc w hm.fits;rcases wm ho with ⟨⟨v0,b0⟩,rfl,qF⟩|⟨rfl,qK⟩
  ·obtain⟨FZ,rU,rfl⟩:=fT qF;obtain⟨l1,e0,l2,t1,t2,_,h2,_,_,_,hs⟩:=hm.Mg;have hv:=P3 h h2.2.2.2.1;rw[hs]at vY;refine⟨_,?_,hv⟩;simp only[Instr.lookup,aI,aF JM,aj,aN,eM hh (by simp),jM Bc,vY]
  ·obtain⟨z,hz,hv⟩:=CL (ρ:=ρ) h;rw[hm.Sd qK]at vY;refine⟨_,?_,hv⟩;simp only[Instr.lookup,aI,aF JM,aj,aN,eM hh (by simp),jM Bc,vY,j6 hz w]
 ·cases h
def IF:∀(d:Nat) {ks:List KK} {v:Value} {a:Option Bool},m6 a ks v=true->Instr.sameBits (d+2) v v=true:=by
 intro d ks v a h;have cell:∀(n:Nat) (ks:List KK) (l:LVal),eY ks l=true->∀v∈l,Instr.sameBits (n+1) v v=true:=by
  intro n ks;induction ks with
  |nil=>intro l h;rw[kI h];intro v hv;cases hv
  |cons k ks ih=>
   intro l h;obtain⟨v,r,rfl,h1,h2⟩:=mK h;intro u hu;rcases List.mem_cons.1 hu with rfl|hu
   ·unfold AD at h1;split at h1
    ·simp[Instr.sameBits]
    ·rename_i s;simp only[Instr.sameBits];rw[beq_toListBytes];simp
    ·simp[Instr.sameBits]
    ·cases h1
   ·exact ih r h2 u hu
 unfold m6 at h;split at h
 ·split at h
  ·rename_i cs;simp only[Instr.sameBits,beq_self_eq_true,Bool.true_and,List.all_eq_true];intro p hp;obtain⟨i,hi⟩:=List.mem_iff_getElem?.1 hp;rw[List.getElem?_zip_eq_some]at hi;have e:p.1=p.2:=by
    have:=hi.1.symm.trans hi.2;simpa using this
   obtain⟨p1,p2⟩:=p;simp only at e;subst e;exact cell d _ _ h p1 (cY hi.1)
  ·cases h
 ·split at h
  ·cases h
  ·exact cell (d+1) _ _ h v (by simp)
 ·cases h
def CM {k:Value} (h:eB P kt k=true) (w:World):(Instr.keyThatStays k k).run P w= .ok k w:=by obtain⟨ks,_,h⟩:=px h;unfold Instr.keyThatStays;rw[aU (IF 9998 h)];rfl
def ve {m m' k k':Value} {r:Value×AS} (hr:Rel P ρ s w) (h:iF P t s m k x=some r) (hm:bN ρ m m') (hk:bN ρ k k') (hx:bN ρ x x'):
  Sb P ρ s w (Instr.mapUpdate t m' k' x') r:=by
 unfold iF at h;replace h:=ak h;obtain⟨⟨kt,e⟩,JM,h⟩:=h;replace h:=aY h;obtain⟨Bc,h⟩:=h;replace JM:=Hv JM;simp only at h Bc JM;have JN:=tS Bc;have:=hk.plain JN;subst this;split at h
 ·rename_i b;replace h:=kG h;obtain⟨Y6,es,ck,hb,h⟩:=h;replace h:=aY h;obtain⟨JO,h⟩:=h;replace h:=ak h;obtain⟨o,ho,h⟩:=h;replace JO:=au JO;subst JO;cases hm with| @map a y hy=>?_
  obtain⟨cJ,hh,Ip,Nt⟩:=(hr.jI _ _ y hb hy).2;have vY:=tu (P:=P) Bc w Ip.fits;rcases wm ho with ⟨⟨vx,bx⟩,rfl,qF⟩|⟨rfl,qK⟩
  ·replace h:=ak h;obtain⟨ig,BK,h⟩:=h;replace h:=ak h;obtain⟨s',vo,h⟩:=h;cases h;obtain⟨FZ,v0,b0,rU,rfl,rfl⟩:=acU qF BK;obtain⟨l1,e0,l2,t1,t2,h1,h2,h3,hp,ht,Lu⟩:=Ip.Mg;have IY:(cJ.modify t1.length λe=> {e with key:=k',val:=x'})=(t1++ {e0 with key:=k',val:=x'}::t2).toArray:=by
    apply OI;intro i;have hg:cJ[i]? =(t1++e0::t2)[i]?:=by rw[<-ht];simp
    rw[iW,hg];simp only[eE];by_cases hi:t1.length=i
    ·subst hi;simp
    ·rw[aC hi];rcases zU hi with h|h
     ·rw[dw (by omega),dw (by omega)];obtain⟨q,hq⟩:∃q,i-t1.length=q+1:=⟨i-t1.length-1,by omega⟩
      rw[hq];rfl
     ·rw[cD h,cD h]
   have hgi:(cJ[t1.length]?).map (·.key)=some k':=by
    have:cJ[t1.length]? =(t1++e0::t2)[t1.length]?:=by rw[<-ht];simp
    rw[this];simp;exact h2.1.symm
   have hS:=Rel.setObj (o':= .map (cJ.modify t1.length λe=> {e with key:=k',val:=x'}) ck) hr vo hb rfl hy (λw' xb=>⟨_,xb,⟨l1++ {e0 with key:=k',val:=x'}::l2,by
    rw[IY];exact(List.perm_middle.trans (hp.cons _)).trans List.perm_middle.symm,F2.append (.cons ⟨rfl,h2.2.1,h2.2.2.1,hx,h2.2.2.2.2⟩ h3) h1,by
    have:=Ip.choose_spec.2.2;simpa using this⟩,Nt.of (e1:={e0 with key:=k',val:=x'}) ht (by rw[IY]) rfl⟩)
   refine⟨rfl,ρ,_,?_,hS.1,hS.2⟩;rw[Lu]at vY;simp only[Instr.mapUpdate,aI,aF JM,aj,aN,eM hh (by simp),jM Bc,vY,hgi,gT,CM Bc,ky hh (by simp)]
  ·rw[bD]at h;replace h:=ak h;obtain⟨s',vo,h⟩:=h;cases h;have Lu:=Ip.Sd qK;obtain⟨l,hp,hf,hn⟩:=Ip;have hS:=Rel.setObj (o':= .map (cJ.push {key:=k',val:=x',born:=ck}) (ck+1)) hr vo hb rfl hy (λw' xb=>⟨_,xb,⟨{key:=k',val:=x',born:=ck}::l,by
    rw[kZ];exact(hp.cons _).trans (List.perm_append_singleton _ _).symm,.cons ⟨rfl,Bc,JN,hx,.inr rfl⟩ hf,by
    rw[br,xh];refine⟨λha=>?_,hn⟩;obtain⟨p,ED,he⟩:=List.mem_map.1 ha;exact qK p ED he⟩,Nt.push rfl⟩)
   refine⟨rfl,ρ,_,?_,hS.1,hS.2⟩;rw[Lu]at vY;simp only[Instr.mapUpdate,aI,aF JM,aj,aN,eM hh (by simp),jM Bc,vY,ky hh (by simp)]
 ·cases h
def XN {cJ:Array MapEntry} {t1 t2:List MapEntry} {e0:MapEntry} (ht:cJ.toList=t1++e0::t2) (f:MapEntry->MapEntry):cJ.modify t1.length f=(t1++f e0::t2).toArray:=by
 apply OI;intro i;have hg:cJ[i]? =(t1++e0::t2)[i]?:=by rw[<-ht];simp
 rw[iW,hg];simp only[eE];by_cases hi:t1.length=i
 ·subst hi;simp
 ·rw[aC hi];rcases zU hi with h|h
  ·rw[dw (by omega),dw (by omega)];obtain⟨q,hq⟩:∃q,i-t1.length=q+1:=⟨i-t1.length-1,by omega⟩
   rw[hq];rfl
  ·rw[cD h,cD h]
def JB:Made P ρ w a (Instr.makeMap t none) (.map (some a)) (.map kt [] 0):=by have QS:(w.alloc (.map #[] 0)).heap=w.heap.push (.map #[] 0):=rfl;refine⟨⟨w.heap.size,0,0,none⟩,_,w.alloc (.map #[] 0),?_,rfl,by simp[QS],(λc hc=>by simp[QS,cU,fK hc]),rfl,rfl,rfl,bN.map (x:=⟨w.heap.size,0,0,none⟩) (iM _ _ _),⟨#[],by simp[QS],⟨[],.nil,.nil,by simp⟩,by simp[lS]⟩⟩;simp only[Instr.makeMap,aI,aj,aN,eZ]
section
def qp (ρ:Ren) (an:Nat) (al:Al) (lo:Lo) (tm:T Value) (rf:Operand->Value) (ops:Array Operand):Prop:=∀x f v,x∈ops->jn an al x=some f->f lo tm=some v->bN ρ v (rf x)
def qp.list {an:Nat} {al:Al} {rf:Operand->Value} {ops:Array Operand} (h:qp ρ an al lo tm rf ops):∀ {xs:List Operand} {fs:List iD} {l:LVal},(∀x∈xs,x∈ops)->uo an al xs=some fs->si fs lo tm=some l->bJ ρ l (xs.map rf):=by
 intro xs;induction xs with
 |nil=>intro fs l _ hm hv;cases hm;cases hv;exact .nil
 |cons x xs ih=>intro fs l gP hm hv;have zJ:ob (jn an al x) (λx=>ob (uo an al xs) λr=>some (x::r))=some fs:=hm;obtain⟨f,hf,zJ⟩:=ak zJ;obtain⟨r,hr,zJ⟩:=ak zJ;cases zJ;have mu:oR (Option LVal) none (λv=>oR (Option LVal) none (λr=>some (v::r)) (si r lo tm)) (f lo tm)=some l:=hv;obtain⟨v,h1,mu⟩:=eN mu;obtain⟨l',h2,mu⟩:=eN mu;cases mu;exact .cons (h _ _ _ (gP _ (by simp)) hf h1) (ih (λy hy=>gP y (by simp[hy])) hr h2)
def POk (P:Program) (an:Nat) (al:Al) (o:Oper) (f:VF):Prop:=
 (∀lo tm s s',f lo tm s=f lo tm s')∧∀ρ lo tm s v w rf,f lo tm s=some v->qp ρ an al lo tm rf o.op.operands->∃u,(execOp rf o).run P w= .ok (.value u) w∧bN ρ v u
def ROk (P:Program) (an:Nat) (al:Al) (o:Oper) (f:VF):Prop:=
 ∀ρ lo tm s v w rf,f lo tm s=some v->Rel P ρ s w->qp ρ an al lo tm rf o.op.operands->∃u,(execOp rf o).run P w= .ok (.value u) w∧bN ρ v u
def AOk (P:Program) (an:Nat) (al:Al) (o:Oper) (f:SF):Prop:=
 ∀lo tm s r,f lo tm s=some r->∃k,s.new k=some r.2∧∀ρ w rf,ρ s.nx=none->qp ρ an al lo tm rf o.op.operands->∃m:Sem Value,execOp rf o=(do pure (.value (<-m)))∧Made P ρ w s.nx m r.1 k
def vN (ρ:Ren) (v:Value) (nx:Next):Prop:=(∃u,nx= .value u∧bN ρ v u)∨(nx= .skip∧v= .tuple #[])
def WOk (P:Program) (an:Nat) (al:Al) (o:Oper) (f:SF):Prop:=
 ∀ρ lo tm s r w rf,f lo tm s=some r->Rel P ρ s w->qp ρ an al lo tm rf o.op.operands->∃ρ' nx w',(execOp rf o).run P w= .ok nx w'∧vN ρ' r.1 nx∧Rel P ρ' r.2 w'∧je ρ s w ρ' r.2 w'
def mX (f:Value) (args:LVal):Sem Next:=do let d<-Deferred.ofValue f args.toArray;invoke d.target d.args
def anR (P:Program) (an:Nat) (al:Al) (o:Oper):Rd->Prop
 | .p f=>POk P an al o f
 | .r f=>ROk P an al o f
 | .a f=>AOk P an al o f
 | .w f=>WOk P an al o f
 | .c f atz=>∃c,o.op= .call c∧uo an al c.args.toList=some atz∧∀ρ lo tm fv rf,f lo tm=some fv->qp ρ an al lo tm rf o.op.operands->∃f',bN ρ fv f'∧∀w,(execOp rf o).run P w=(mX f' (c.args.toList.map rf)).run P w
section
variable {an:Nat} {al:Al} {o:Oper}
def fx {m:Sem Value} (h:m.run P w= .ok u w'):((do pure (Next.value (<-m)):Sem Next)).run P w= .ok (.value u) w':=by simp only[aI,h,aj,aN]
def acV {m:Sem Unit} (h:m.run P w= .ok () w'):((do m;pure Next.skip:Sem Next)).run P w= .ok .skip w':=by simp only[aI,h,aj,aN]
def BA {x:Operand} {f:iD} {k:Value->bQ} (hm:jn an al x=some f) (h:∀ρ v v' u w rf,k v=some u->bN ρ v v'->rf x=v'->∃u',(execOp rf o).run P w= .ok (.value u') w∧bN ρ u u') (gP:x∈o.op.operands:=by simp[*,Op.operands,Call.operands]):POk P an al o (v1 f k):=by refine⟨λ_ _ _ _=>rfl,λρ lo tm s v w rf hv hR=>?_⟩;obtain⟨a,ha,hv⟩:=ak hv;exact h ρ a _ v w rf hv (hR x f a gP hm ha) rfl
def aaE {x y:Operand} {f g:iD} {k:Value->Value->bQ} (hm:jn an al x=some f) (hm2:jn an al y=some g) (h:∀ρ a b u w rf,k a b=some u->bN ρ a (rf x)->bN ρ b (rf y)->∃u',(execOp rf o).run P w= .ok (.value u') w∧bN ρ u u') (gP:x∈o.op.operands:=by simp[*,Op.operands,Call.operands]) (Ri:y∈o.op.operands:=by simp[*,Op.operands,Call.operands]):POk P an al o (v2 f g k):=by refine⟨λ_ _ _ _=>rfl,λρ lo tm s v w rf hv hR=>?_⟩;obtain⟨a,ha,hv⟩:=ak hv;obtain⟨b,hb,hv⟩:=ak hv;exact h ρ a b v w rf hv (hR x f a gP hm ha) (hR y g b Ri hm2 hb)
def JY {xs:List Operand} {fs:List iD} {k:LVal->bQ} (hm:uo an al xs=some fs) (h:∀ρ l u w rf,k l=some u->bJ ρ l (xs.map rf)->∃u',(execOp rf o).run P w= .ok (.value u') w∧bN ρ u u') (gP:∀x∈xs,x∈o.op.operands:=by simp[*,Op.operands,Call.operands]<;>grind):POk P an al o (vl fs k):=by refine⟨λ_ _ _ _=>rfl,λρ lo tm s v w rf hv hR=>?_⟩;obtain⟨l,hl,hv⟩:=ak hv;exact h ρ l v w rf hv (hR.list gP hm hl)
def Ur {x:Operand} {f:iD} {k:AS->Value->bQ} (hm:jn an al x=some f) (h:∀ρ s v u w rf,k s v=some u->Rel P ρ s w->bN ρ v (rf x)->∃u',(execOp rf o).run P w= .ok (.value u') w∧bN ρ u u') (gP:x∈o.op.operands:=by simp[*,Op.operands,Call.operands]):ROk P an al o (r1 f k):=by intro ρ lo tm s v w rf hv hr hR;obtain⟨a,ha,hv⟩:=ak hv;exact h ρ s a v w rf hv hr (hR x f a gP hm ha)
def ayW {x y:Operand} {f g:iD} {k:AS->Value->Value->bQ} (hm:jn an al x=some f) (hm2:jn an al y=some g) (h:∀ρ s a b u w rf,k s a b=some u->Rel P ρ s w->bN ρ a (rf x)->bN ρ b (rf y)->∃u',(execOp rf o).run P w= .ok (.value u') w∧bN ρ u u') (gP:x∈o.op.operands:=by simp[*,Op.operands,Call.operands]) (Ri:y∈o.op.operands:=by simp[*,Op.operands,Call.operands]):ROk P an al o (r2 f g k):=by intro ρ lo tm s v w rf hv hr hR;obtain⟨a,ha,hv⟩:=ak hv;obtain⟨b,hb,hv⟩:=ak hv;exact h ρ s a b v w rf hv hr (hR x f a gP hm ha) (hR y g b Ri hm2 hb)
def ayX {xs:List Operand} {fs:List iD} {k:AS->LVal->bQ} (hm:uo an al xs=some fs) (h:∀ρ s l u w rf,k s l=some u->Rel P ρ s w->bJ ρ l (xs.map rf)->∃u',(execOp rf o).run P w= .ok (.value u') w∧bN ρ u u') (gP:∀x∈xs,x∈o.op.operands:=by simp[*,Op.operands,Call.operands]<;>grind):ROk P an al o (rl fs k):=by intro ρ lo tm s v w rf hv hr hR;obtain⟨l,hl,hv⟩:=ak hv;exact h ρ s l v w rf hv hr (hR.list gP hm hl)
def py {m:Sem Value} {r:Value×AS} {rf:Operand->Value} (he:execOp rf o=(do pure (.value (<-m)))) (h:z8 P ρ s w m r):
  ∃ρ' nx w',(execOp rf o).run P w= .ok nx w'∧vN ρ' r.1 nx∧Rel P ρ' r.2 w'∧je ρ s w ρ' r.2 w':=by
 obtain⟨ρ',u,w',h1,h2,h3,h4⟩:=h;exact⟨ρ',_,w',by rw[he];exact fx h1,.inl ⟨u,rfl,h2⟩,h3,h4⟩
def yx {m:Sem Unit} {r:Value×AS} {rf:Operand->Value} (he:execOp rf o=(do m;pure .skip)) (h:Sb P ρ s w m r):
  ∃ρ' nx w',(execOp rf o).run P w= .ok nx w'∧vN ρ' r.1 nx∧Rel P ρ' r.2 w'∧je ρ s w ρ' r.2 w':=by
 obtain⟨h0,ρ',w',h1,h3,h4⟩:=h;exact⟨ρ',_,w',by rw[he];exact acV h1,.inr ⟨rfl,h0⟩,h3,h4⟩
def aky {x:Operand} {f:iD} {k:AS->Value->Option (Value×AS)} (hm:jn an al x=some f) (h:∀ρ s a r w rf,k s a=some r->Rel P ρ s w->bN ρ a (rf x)->∃ρ' nx w',(execOp rf o).run P w= .ok nx w'∧vN ρ' r.1 nx∧Rel P ρ' r.2 w'∧je ρ s w ρ' r.2 w') (gP:x∈o.op.operands:=by simp[*,Op.operands,Call.operands]):WOk P an al o (s1 f k):=by intro ρ lo tm s r w rf hv hr hR;obtain⟨a,ha,hv⟩:=ak hv;exact h ρ s a r w rf hv hr (hR x f a gP hm ha)
def ayY {x y:Operand} {f g:iD} {k:AS->Value->Value->Option (Value×AS)} (hm:jn an al x=some f) (hm2:jn an al y=some g) (h:∀ρ s a b r w rf,k s a b=some r->Rel P ρ s w->bN ρ a (rf x)->bN ρ b (rf y)->∃ρ' nx w',(execOp rf o).run P w= .ok nx w'∧vN ρ' r.1 nx∧Rel P ρ' r.2 w'∧je ρ s w ρ' r.2 w') (gP:x∈o.op.operands:=by simp[*,Op.operands,Call.operands]) (Ri:y∈o.op.operands:=by simp[*,Op.operands,Call.operands]):WOk P an al o (s2 f g k):=by intro ρ lo tm s r w rf hv hr hR;obtain⟨a,ha,hv⟩:=ak hv;obtain⟨b,hb,hv⟩:=ak hv;exact h ρ s a b r w rf hv hr (hR x f a gP hm ha) (hR y g b Ri hm2 hb)
def akz {x y z:Operand} {f g e:iD} {k:AS->Value->Value->Value->Option (Value×AS)} (hm:jn an al x=some f) (hm2:jn an al y=some g) (N5:jn an al z=some e) (h:∀ρ s a b c r w rf,k s a b c=some r->Rel P ρ s w->bN ρ a (rf x)->bN ρ b (rf y)->bN ρ c (rf z)->∃ρ' nx w',(execOp rf o).run P w= .ok nx w'∧vN ρ' r.1 nx∧Rel P ρ' r.2 w'∧je ρ s w ρ' r.2 w') (gP:x∈o.op.operands:=by simp[*,Op.operands,Call.operands]) (Ri:y∈o.op.operands:=by simp[*,Op.operands,Call.operands]) (aIL:z∈o.op.operands:=by simp[*,Op.operands,Call.operands]):WOk P an al o (s3 f g e k):=by intro ρ lo tm s r w rf hv hr hR;obtain⟨a,ha,hv⟩:=ak hv;obtain⟨b,hb,hv⟩:=ak hv;obtain⟨c,hc,hv⟩:=ak hv;exact h ρ s a b c r w rf hv hr (hR x f a gP hm ha) (hR y g b Ri hm2 hb) (hR z e c aIL N5 hc)
def Us {xs:List Operand} {fs:List iD} {k:AS->LVal->Option (Value×AS)} (hm:uo an al xs=some fs) (h:∀ρ s l r w rf,k s l=some r->Rel P ρ s w->bJ ρ l (xs.map rf)->∃ρ' nx w',(execOp rf o).run P w= .ok nx w'∧vN ρ' r.1 nx∧Rel P ρ' r.2 w'∧je ρ s w ρ' r.2 w') (gP:∀x∈xs,x∈o.op.operands:=by simp[*,Op.operands,Call.operands]<;>grind):WOk P an al o (sl fs k):=by intro ρ lo tm s r w rf hv hr hR;obtain⟨l,hl,hv⟩:=ak hv;exact h ρ s l r w rf hv hr (hR.list gP hm hl)
def mQ {x:Operand} {k:iD->Rd} {r:Rd} (h:c1 an al x k=some r):∃f,jn an al x=some f∧r=k f:=by obtain⟨f,hf,h⟩:=ak h;cases h;exact⟨f,hf,rfl⟩
def za {x y:Operand} {k:iD->iD->Rd} {r:Rd} (h:c2 an al x y k=some r):∃f g,jn an al x=some f∧jn an al y=some g∧r=k f g:=by obtain⟨f,hf,h⟩:=ak h;obtain⟨g,hg,h⟩:=ak h;cases h;exact⟨f,g,hf,hg,rfl⟩
def Mh {x y z:Operand} {k:iD->iD->iD->Rd} {r:Rd} (h:c3 an al x y z k=some r):∃f g e,jn an al x=some f∧jn an al y=some g∧jn an al z=some e∧r=k f g e:=by obtain⟨f,hf,h⟩:=ak h;obtain⟨g,hg,h⟩:=ak h;obtain⟨e,he,h⟩:=ak h;cases h;exact⟨f,g,e,hf,hg,he,rfl⟩
def Mi {xs:List Operand} {k:List iD->Rd} {r:Rd} (h:cl an al xs k=some r):∃fs,uo an al xs=some fs∧r=k fs:=by obtain⟨f,hf,h⟩:=ak h;cases h;exact⟨f,hf,rfl⟩
def P4 {x:Operand} {rf:Operand->Value} (ho:o.op= .nilCheck x) (w:World) (h:dt v=some u) (hv:bN ρ v v') (hx:rf x=v'):∃u',(execOp rf o).run P w= .ok (.value u') w∧bN ρ u u':=by unfold dt at h;split at h<;>first|(cases h;done)|(cases h;refine⟨v',?_,hv⟩;cases hv<;>(unfold execOp;rw[ho];simp only[hx,aN]))
def Mj {rf:Operand->Value} {ops:Array Operand} (hR:qp ρ an al lo tm rf ops) {x:Option Operand} {f:Option iD} {v:bQ} (hm:Gq an al x=some f) (hv:Lg f lo tm=some v) (gP:∀y,x=some y->y∈ops):rq ρ v (x.map rf):=by
 cases x with
 |none=>cases hm;cases hv;exact .none
 |some x=>obtain⟨g,hg,hm⟩:=ak hm;cases hm;obtain⟨a,ha,hv⟩:=ak hv;cases hv;exact .some (hR x g a (gP x rfl) hg ha)
end
def acW (ps:List (Nat×Operand)) (rf:Operand->Value):F9 (ps.map (·.1)) ((ps.map (·.2)).map rf)=ps.map λp=>(p.1,rf p.2):=by
 induction ps with
 |nil=>rfl
 |cons p ps ih=>exact congrArg (_:: ·) ih
def parts_eq (ps:Array (Nat×Operand)) (rf:Operand->Value):(ps.map λ(i,x)=>(i,rf x))=(F9 (ps.toList.map (·.1)) ((ps.toList.map (·.2)).map rf)).toArray:=by rw[acW];apply eh;simp
section
variable {an:Nat} {al:Al} {o:Oper}
def FE {c:Call} {b:Builtin} {rf:Operand->Value} (hc:c.callee= .builtin b):resolve rf c t=pure {target:= .builtin b c.argTypes t (c.args.map fun| .const _=>true|_=>false),args:=c.args.map rf}:=by unfold resolve;rw[hc];rfl
def M0 {c:Call} {b:Builtin} {rf:Operand->Value} (ho:o.op= .call c) (hc:c.callee= .builtin b):
  execOp rf o=builtin b c.argTypes o.type (c.args.map fun| .const _=>true|_=>false) (c.args.map rf):=by
 unfold execOp;rw[ho];simp only[FE hc,akr,invoke]
def oa (xs:Array Operand) (rf:Operand->Value):xs.map rf=(xs.toList.map rf).toArray:=by apply eh;simp
def M1 {c:Call} {b:Builtin} {fs:List iD} {r:Rd} (ho:o.op= .call c) (hc:c.callee= .builtin b) (hm:uo an al c.args.toList=some fs) (h:zh P b c.argTypes fs=some r):anR P an al o r:=by
 have he:= λrf:Operand->Value=>M0 (rf:=rf) ho hc;unfold zh at h;split at h
 ·rw[bW]at h;split at h
  ·cases h;rename_i Wu;refine ayX hm (λρ s l u w rf hv hr hl=>?_);obtain⟨u',h1,h2⟩:=Tk (ty:=o.type) hr Wu hv hl;exact⟨u',by rw[he,oa];exact fx h1,h2⟩
  ·cases h;refine JY hm (λρ l u w rf hv hl=>?_);obtain⟨h1,h2⟩:=Tc (ty:=o.type) w hv hl;exact⟨u,by rw[he,oa];exact fx h1,h2⟩
 ·cases h;refine JY hm (λρ l u w rf hv hl=>?_);obtain⟨u',h1,h2⟩:=Td (ty:=o.type) w hv hl;exact⟨u',by rw[he,oa];exact fx h1,h2⟩
 ·cases h;refine Us hm (λρ s l r w rf hv hr hl=>py (m:=Builtin.append_ c.argTypes o.type (c.args.map rf)) (by rw[he];rfl) ?_);rw[oa];exact Jw hr hv hl
 ·cases h;refine Us hm (λρ s l r w rf hv hr hl=>py (m:=Builtin.copy_ c.argTypes o.type (c.args.map rf)) (by rw[he];rfl) ?_);rw[oa];exact PU hr hv hl
 ·cases h;refine Us hm (λρ s l r w rf hv hr hl=>py (m:=Builtin.clear_ c.argTypes o.type (c.args.map rf)) (by rw[he];rfl) ?_);rw[oa];exact MU hr hv hl
 ·cases h;refine JY hm (λρ l u w rf hv hl=>?_);obtain⟨u',h1,h2⟩:=XH (ts:=c.argTypes) (ty:=o.type) w hv hl;exact⟨u',by rw[he,oa];exact fx h1,h2⟩
 ·cases h;refine JY hm (λρ l u w rf hv hl=>?_);obtain⟨u',h1,h2⟩:=XI (ts:=c.argTypes) (ty:=o.type) w hv hl;exact⟨u',by rw[he,oa];exact fx h1,h2⟩
 ·rw[bW]at h;split at h
  ·rename_i Wv;cases h;have hb:b.ctorIdx=20:=au Wv;refine JY hm (λρ l u w rf hv hl=>?_);obtain⟨u',h1,h2⟩:=PX (ts:=c.argTypes) (ty:=o.type) w hv hl;refine⟨u',?_,h2⟩;rw[he,oa];cases b<;>first|(exact fx h1)|(simp[Builtin.ctorIdx]at hb)
  ·replace h:=aY h;obtain⟨Wv,h⟩:=h;cases h;have hb:b.ctorIdx=21:=au Wv;refine Us hm (λρ s l r w rf hv hr hl=>py (m:=Builtin.unsafeString_ c.argTypes o.type (c.args.map rf)) ?_ ?_)
   ·rw[he];cases b<;>first|rfl|(simp[Builtin.ctorIdx]at hb)
   ·rw[oa];exact Tj hr hv hl
def XO {src dst:TypeId} {x:Operand} {f:iD} {r:Rd} (ho:o.op= .convert src dst x) (hm:jn an al x=some f) (h:R7 P src dst f=some r):anR P an al o r:=by
 have he:∀rf,execOp rf o=(do pure (.value (<-convert src dst (rf x)))):= λrf=>by unfold execOp;rw[ho]
 unfold R7 at h;rw[bW]at h;split at h
 ·rename_i hd;have hd:=E2 hd;split at h
  ·rename_i e hs;cases h;refine Ur hm (λρ s v u w rf hv hr hx=>?_);obtain⟨u',w',h1,rfl,h2⟩:=E3 hr (.inl ⟨rfl,hs,hd⟩) hv hx;exact⟨u',by rw[he];exact fx h1,h2⟩
  ·cases h
 ·rw[bW]at h;split at h
  ·rename_i hs;have hs:=E2 hs;split at h
   ·rename_i e hd;cases h;refine Ur hm (λρ s v u w rf hv hr hx=>?_);obtain⟨u',w',h1,rfl,h2⟩:=E3 hr (.inr ⟨rfl,hs,hd⟩) hv hx;exact⟨u',by rw[he];exact fx h1,h2⟩
   ·cases h
  ·split at h
   ·rename_i e hs hd;split at h
    ·rename_i hu;cases h;refine Ur hm (λρ s v u w rf hv hr hx=>?_);obtain⟨u',h1,h2⟩:=PW hr hs hu hd hv hx;exact⟨u',by rw[he];exact fx h1,h2⟩
    ·cases h
   ·rename_i e hs hd;split at h
    ·rename_i hu;replace h:=aY h;obtain⟨_,h⟩:=h;cases h;intro lo tm s r hv;obtain⟨a,ha,hv⟩:=ak hv;obtain⟨k,hk,By⟩:=Th (P:=P) hs hd hu hv;exact⟨k,hk,λρ w rf rE hR=>⟨_,he rf,By rE (hR x f a (by rw[ho];simp[Op.operands]) hm ha)⟩⟩
    ·cases h
   ·rename_i ds d _ _ hs hd;cases h;refine BA hm (λρ v v' u w rf hv hx Iq=>?_);obtain⟨u',h1,h2⟩:=PV (P:=P) w hs hd hv hx;exact⟨u',by rw[he,Iq];exact fx h1,h2⟩
   ·cases h
def aps {x:Operand} {lo hi mx:Option Operand} {f:iD} {l h m:Option iD} (ho:o.op= .slice t x lo hi mx) (hx:jn an al x=some f) (hl:Gq an al lo=some l) (hh:Gq an al hi=some h) (hm:Gq an al mx=some m):
  POk P an al o (vy P t f l h m):=by
 have he:∀rf,execOp rf o=(do pure (.value (<-Instr.sliceAt t (rf x) (lo.map rf) (hi.map rf) (mx.map rf)))):= λrf=>by unfold execOp;rw[ho]
 refine⟨λ_ _ _ _=>rfl,λρ sy tm s v w rf hv hR=>?_⟩;obtain⟨a,ha,hv⟩:=ak hv;obtain⟨b,hb,hv⟩:=ak hv;obtain⟨c,hc,hv⟩:=ak hv;obtain⟨d,hd,hv⟩:=ak hv;obtain⟨u,h1,h2⟩:=MQ w hv (hR x f a (by rw[ho];simp[Op.operands]) hx ha) (Mj hR hl hb (λy e=>by rw[ho,e];simp[Op.operands])) (Mj hR hh hc (λy e=>by rw[ho,e];simp[Op.operands])) (Mj hR hm hd (λy e=>by rw[ho,e];simp[Op.operands]));exact⟨u,by rw[he];exact fx h1,h2⟩
def Mk {r:Rd} (h:IQ P an al o.op=some r):anR P an al o r:=by
 cases ho:o.op<;>rw[ho]at h<;>(try (cases h;done))
 case move x=>obtain⟨f,hf,rfl⟩:=mQ h;exact BA hf (λρ v v' u w rf hv hx Iq=>⟨v',by unfold execOp;rw[ho];simp only[Iq,aN],by cases hv;exact hx⟩)
 case assign x=>obtain⟨f,hf,rfl⟩:=mQ h;exact BA hf (λρ v v' u w rf hv hx Iq=>⟨v',by unfold execOp;rw[ho];simp only[Iq,aN],by cases hv;exact hx⟩)
 case pick c a b=>
  obtain⟨f,g,e,hf,hg,he,rfl⟩:=Mh h;refine⟨λ_ _ _ _=>rfl,λρ lo tm s v w rf hv hR=>?_⟩;obtain⟨x,hx,hv⟩:=ak hv;have hc:=hR c f x (by rw[ho];simp[Op.operands]) hf hx;unfold Uk at hv;split at hv
  ·rename_i y;generalize hrc:rf c=cv at hc;cases hc;rw[bW]at hv;cases y with
   |true=>refine⟨rf a,?_,hR a g v (by rw[ho];simp[Op.operands]) hg hv⟩;unfold execOp;rw[ho];simp only[hrc,asBool,aI,aN,aj,jQ]
   |false=>refine⟨rf b,?_,hR b e v (by rw[ho];simp[Op.operands]) he hv⟩;unfold execOp;rw[ho];simp only[hrc,asBool,aI,aN,aj,cE,eG]
  ·cases hv
 case alloc t=>cases h;intro lo tm s r hv;obtain⟨k,hk,hm⟩:=PR (P:=P) hv;exact⟨k,hk,λρ w rf rE hR=>⟨_,by unfold execOp;rw[ho],hm rE⟩⟩
 case box t x=>obtain⟨f,hf,rfl⟩:=mQ h;intro lo tm s r hv;obtain⟨a,ha,hv⟩:=ak hv;obtain⟨k,hk,hm⟩:=XJ (P:=P) hv;exact⟨k,hk,λρ w rf rE hR=>⟨_,by unfold execOp;rw[ho],hm rE (hR x f a (by rw[ho];simp[Op.operands]) hf ha)⟩⟩
 case build t ps=>obtain⟨fs,hf,rfl⟩:=Mi h;refine JY hf (λρ l u w rf hv hl=>?_);obtain⟨u',h1,h2⟩:=MT w hv hl;rw[<-parts_eq]at h1;exact⟨u',by unfold execOp;rw[ho];exact fx h1,h2⟩
 case buildSlice t n ps=>obtain⟨fs,hf,rfl⟩:=Mi h;intro lo tm s r hv;obtain⟨l,hl,hv⟩:=ak hv;obtain⟨k,hk,hm⟩:=Ej (P:=P) hv;refine⟨k,hk,λρ w rf rE hR=>⟨Instr.buildSlice t n (ps.map λ(i,x)=>(i,rf x)),by unfold execOp;rw[ho],?_⟩⟩;rw[parts_eq];exact hm rE (hR.list (by rw[ho];simp[Op.operands]) hf hl)
 case load t a=>obtain⟨f,hf,rfl⟩:=mQ h;refine Ur hf (λρ s v u w rf hv hr hx=>?_);rw[acK]at hv;obtain⟨u',h1,h2⟩:=EW hr hv hx;exact⟨u',by unfold execOp;rw[ho];exact fx h1,h2⟩
 case store t a x=>obtain⟨f,g,hf,hg,rfl⟩:=za h;exact ayY hf hg (λρ s a' x' r w rf hv hr ha hx=>yx (m:=Instr.storeAt t (rf a) (rf x)) (by unfold execOp;rw[ho]) (MS hr (by rw[XB]at hv;exact hv) ha hx))
 case nilCheck x=>obtain⟨f,hf,rfl⟩:=mQ h;exact BA hf (λρ v v' u w rf hv hx Iq=>P4 ho w hv hx Iq)
 case binOp op t x y c=>
  obtain⟨f,g,hf,hg,rfl⟩:=za h;refine aaE hf hg (λρ a b u w rf hv ha hb=>?_);rw[acM]at hv;obtain⟨h1,h2⟩:=Ta (P:=P) (ox:=x) (oy:=y) w (λhc=>by
   rw[bW]at hc;split at hc
   ·exact .inl ‹_›
   ·exact .inr hc) hv ha hb
  exact⟨u,by unfold execOp;rw[ho];exact fx h1,h2⟩
 case unOp op t x=>obtain⟨f,hf,rfl⟩:=mQ h;refine BA hf (λρ v v' u w rf hv hx Iq=>?_);obtain⟨h1,h2⟩:=XG (P:=P) w hv hx;exact⟨u,by unfold execOp;rw[ho,];simp only[Iq];exact fx h1,h2⟩
 case convert a b x=>obtain⟨f,hf,h⟩:=ak h;exact XO ho hf h
 case makeInterface t x=>
  change (match P.underlying t with|some (.interface _)=>none|some _=>c1 an al x λx=>Rd.p (v1 x λv=>some (.iface t v))|none=>none)=some r at h;split at h
  ·cases h
  ·rename_i d ed hu;obtain⟨f,hf,rfl⟩:=mQ h;refine BA hf (λρ v v' u w rf hv hx Iq=>?_);cases hv;refine⟨.iface t v',?_,.iface t hx⟩;unfold execOp;rw[ho];simp only[Iq];refine fx ?_;simp only[Instr.makeInterface,aI,aF hu,aj];cases d<;>first|rfl|exact(ed _ rfl).elim
  ·cases h
 case makeFunc fn a b=>
  obtain⟨fa,hfa,h⟩:=ak h;obtain⟨fb,hfb,h⟩:=ak h;cases h;refine⟨λ_ _ _ _=>rfl,λρ lo tm s v w rf hv hR=>?_⟩;obtain⟨la,hla,hv⟩:=ak hv;replace hv:=ak hv;obtain⟨lb,hlb,hv⟩:=hv;have hfn:∃fi,fn= .func fi∧v= .func (.func fi) ⟨la⟩ ⟨lb⟩:=by cases fn<;>first|(cases hv;done)|(cases hv;exact⟨_,rfl,rfl⟩)
  obtain⟨fi,rfl,rfl⟩:=hfn;refine⟨.func (.func fi) (a.map rf) (b.map rf),?_,?_⟩
  ·unfold execOp;rw[ho];rfl
  ·have h1:=hR.list (by rw[ho];simp[Op.operands];grind) hfa hla;have h2:=hR.list (by rw[ho];simp[Op.operands];grind) hfb hlb;rw[<-Array.toList_map]at h1 h2;exact .func _ h1 h2
 case makeMap t r'=>
  cases r' with
  |some x=>cases h
  |none=>obtain⟨ke,JM,h⟩:=ak h;cases h;intro lo tm s r hv;obtain⟨s',vo,hv⟩:=ak hv;cases hv;exact⟨_,vo,λρ w rf rE hR=>⟨_,by unfold execOp;rw[ho];rfl,JB⟩⟩
 case makeSlice t l c=>obtain⟨f,g,hf,hg,rfl⟩:=za h;intro lo tm s r hv;obtain⟨a,ha,hv⟩:=ak hv;obtain⟨b,hb,hv⟩:=ak hv;obtain⟨k,hk,hm⟩:=FC (P:=P) hv;exact⟨k,hk,λρ w rf rE hR=>⟨_,by unfold execOp;rw[ho],hm rE (hR l f a (by rw[ho];simp[Op.operands]) hf ha) (hR c g b (by rw[ho];simp[Op.operands]) hg hb)⟩⟩
 case slice t x lo hi mx=>obtain⟨f,hf,h⟩:=ak h;obtain⟨a,ha,h⟩:=ak h;obtain⟨b,hb,h⟩:=ak h;obtain⟨c,hc,h⟩:=ak h;cases h;exact aps ho hf ha hb hc
 case fieldAddr t x fl=>obtain⟨f,hf,rfl⟩:=mQ h;refine BA hf (λρ v v' u w rf hv hx Iq=>?_);rw[Jq]at hv;obtain⟨u',h1,h2⟩:=Eg (P:=P) w hv hx;exact⟨u',by unfold execOp;rw[ho];simp only[Iq];exact fx h1,h2⟩
 case field t x fl=>obtain⟨f,hf,rfl⟩:=mQ h;refine BA hf (λρ v v' u w rf hv hx Iq=>?_);obtain⟨u',h1,h2⟩:=MO (P:=P) w hv hx;exact⟨u',by unfold execOp;rw[ho];simp only[Iq];exact fx h1,h2⟩
 case indexAddr t x i=>obtain⟨f,g,hf,hg,rfl⟩:=za h;refine aaE hf hg (λρ a b u w rf hv ha hb=>?_);rw[Jr]at hv;obtain⟨u',h1,h2⟩:=Eh (P:=P) w hv ha hb;exact⟨u',by unfold execOp;rw[ho];exact fx h1,h2⟩
 case index t x i=>obtain⟨f,g,hf,hg,rfl⟩:=za h;refine aaE hf hg (λρ a b u w rf hv ha hb=>?_);obtain⟨u',h1,h2⟩:=MP (P:=P) w hv ha hb;exact⟨u',by unfold execOp;rw[ho];exact fx h1,h2⟩
 case lookup t x i ok=>obtain⟨f,g,hf,hg,rfl⟩:=za h;refine ayW hf hg (λρ s a b u w rf hv hr ha hb=>?_);obtain⟨u',h1,h2⟩:=JA hr hv hb ha;exact⟨u',by unfold execOp;rw[ho];exact fx h1,h2⟩
 case mapUpdate t m i x=>obtain⟨f,g,e,hf,hg,he,rfl⟩:=Mh h;exact akz hf hg he (λρ s a b c r w rf hv hr ha hb hc=>yx (m:=Instr.mapUpdate t (rf m) (rf i) (rf x)) (by unfold execOp;rw[ho]) (ve hr hv ha hb hc))
 case insert t m i x=>obtain⟨f,g,e,hf,hg,he,rfl⟩:=Mh h;exact akz hf hg he (λρ s a b c r w rf hv hr ha hb hc=>yx (m:=Instr.mapUpdate t (rf m) (rf i) (rf x)) (by unfold execOp;rw[ho]) (ve hr hv ha hb hc))
 case range t x=>obtain⟨f,hf,rfl⟩:=mQ h;exact aky hf (λρ s a r w rf hv hr ha=>py (m:=Instr.range t (rf x)) (by unfold execOp;rw[ho]) (MX hr hv ha))
 case next x b=>
  cases b with
  |false=>cases h
  |true=>obtain⟨f,hf,rfl⟩:=mQ h;exact aky hf (λρ s a r w rf hv hr ha=>py (m:=Instr.next (rf x) true o.type) (by unfold execOp;rw[ho]) (P0 hr hv ha))
 case extract x i=>obtain⟨f,hf,rfl⟩:=mQ h;refine BA hf (λρ v v' u w rf hv hx Iq=>?_);obtain⟨u',h1,h2⟩:=Iz (P:=P) w hv hx;exact⟨u',by unfold execOp;rw[ho];simp only[Iq];exact fx h1,h2⟩
 case call c=>
  change (match c.callee with
   | .value f=>ob (jn an al f) λf=>cl an al c.args.toList λatz=>Rd.c f atz
   | .builtin b=>ob (uo an al c.args.toList) λatz=>zh P b c.argTypes atz
   |_=>none)=some r at h
  split at h
  ·rename_i g hc;obtain⟨f,hf,h⟩:=ak h;obtain⟨atz,has,rfl⟩:=Mi h;refine⟨c,ho,has,λρ lo tm fv rf hv tZ=>⟨rf g,tZ _ _ _ (by simp[ho,Op.operands,Call.operands,hc]) hf hv,λw=>?_⟩⟩;have:execOp rf o=mX (rf g) (c.args.toList.map rf):=by
    unfold execOp;rw[ho];simp only[resolve,hc,mX];rw[oa]
   rw[this]
  ·rename_i b hc;obtain⟨atz,has,h⟩:=ak h;exact M1 ho hc has h
  ·cases h
end
end
structure js (an nt:Nat) (ρ:Ren) (tm:T Value) (a:Act):Prop where
 size:nt<=a.tmps.size
 tk:∀t v,tm.get t=some v->kept an t=true
 env:Bj ρ tm a.tmps
structure Inv (an nt:Nat) (al:Al) (ρ:Ren) (lo:Lo) (tm:T Value) (a:Act):Prop extends js an nt ρ tm a where
 lo:∀t v,(∀p∈al,p.1≠t)->kept an t=false->Lo.get t lo=some v->∃u,a.tmps[t]? =some u∧bN ρ v u
 al:∀p∈al,kept an p.1=false∧p.1<nt∧((∃g:Nat,p.2= .const (.complex .f32 g 0))∨(a.tmps[p.1]? =some (a.eval p.2)∧((∃c,p.2= .const c)∨∃x,p.2= .tmp x∧∀q∈al,q.1≠x)))
def js.mono {an nt:Nat} {ρ ρ':Ren} {tm:T Value} {a:Act} (h:js an nt ρ tm a) (hle:gq ρ ρ'):js an nt ρ' tm a:=⟨h.size,h.tk,h.env.mono hle⟩
def Inv.mono {an nt:Nat} {al:Al} {ρ ρ':Ren} {lo:Lo} {tm:T Value} {a:Act} (h:Inv an nt al ρ lo tm a) (hle:gq ρ ρ'):Inv an nt al ρ' lo tm a:=
 {h.tojs.mono hle with lo:= λt v h1 h2 h3=>let⟨u,hu,hr⟩:=h.lo t v h1 h2 h3;⟨u,hu,hr.mono hle⟩,al:=h.al}
theorem Hw (t:Nat) (p:Nat×Operand) (al:Al):JV t (p::al)=aD (Nat.beq p.1 t) (some p.2) (JV t al):=rfl
def Hx {y:Operand}:∀ {al:Al},JV t al=some y->(t,y)∈al:=by
 intro al;induction al with
 |nil=>intro h;cases h
 |cons p al ih=>
  intro h;rw[Hw,bW]at h;split at h
  ·rename_i hb;cases h;have:=au hb;subst this;simp
  ·exact cV _ (ih h)
def Hy:∀ {al:Al},JV t al=none->∀p∈al,p.1≠t:=by
 intro al;induction al with
 |nil=>intro _ p hp;cases hp
 |cons p al ih=>
  intro h q hq;rw[Hw,bW]at h;split at h
  ·cases h
  ·rename_i hb;rcases List.mem_cons.1 hq with rfl|hq
   ·intro e;exact hb (by rw[e];exact bj _)
   ·exact ih h q hq
theorem Ml (t t':Nat) (v:Value) (r:Lo):Lo.get t (.cons t' v r)=aD (Nat.beq t t') (some v) (Lo.get t r):=rfl
def mF {a:Act} (h:a.tmps[t]? =some u):a.eval (.tmp t)=u:=by show a.tmps.getD t undef=u;rw[bV,h];rfl
def yP (h:vZ v=some v'):bN ρ v' v:=by
 unfold vZ at h;split at h<;>cases h
 ·exact .bool _
 ·exact .int _ _
 ·exact .string _
 ·exact .tJ
 ·exact .gi
 ·exact .xT
 ·exact .nilFunc
 ·exact .nilIface
def Dw {an:Nat} {al:Al} {a:Act} (hI:Inv an nt al ρ lo tm a) {y:Operand} {f:iD} (hm:aaz an y=some f) (hv:f lo tm=some v) (hy:∀x,y= .tmp x->∀q∈al,q.1≠x):bN ρ v (a.eval y):=by
 unfold aaz at hm;split at hm
 ·rename_i t;rw[bW]at hm;split at hm
  ·cases hm;obtain⟨u,hu,hr⟩:=hI.env t v hv;rw[mF hu];exact hr
  ·rename_i hk;cases hm;obtain⟨u,hu,hr⟩:=hI.lo t v (hy t rfl) (by simpa using hk) hv;rw[mF hu];exact hr
 ·split at hm
  ·rename_i hc;cases hm;cases hv;exact yP hc
  ·cases hm;cases hv
 ·cases hm;cases hv;exact .EJ _ 0
 ·cases hm;cases hv;exact .func _ .nil .nil
def Inv.ops {an nt:Nat} {al:Al} {ρ:Ren} {lo:Lo} {tm:T Value} {a:Act} (hI:Inv an nt al ρ lo tm a) {ops:Array Operand}:qp ρ an al lo tm a.eval ops:=by
 intro x f v _ hm hv;unfold jn mV at hm;split at hm
 ·rename_i t;split at hm
  ·rename_i y hy;obtain⟨h1,h2,h3⟩:=hI.al _ (Hx hy);rcases h3 with ⟨g,hg⟩|⟨h3,h4⟩
   ·simp only at hg;subst hg;cases hm;cases hv
   ·simp only at h3 h4;rw[mF h3];refine Dw hI hm hv (λx hx=>?_);rcases h4 with ⟨c,hc⟩|⟨x',xu,h5⟩
    ·rw[hc]at hx;cases hx
    ·rw[xu]at hx;cases hx;exact h5
  ·rename_i hy;exact Dw hI hm hv (λx hx=>by cases hx;exact Hy hy)
 ·rename_i ed;exact Dw hI hm hv (λx hx=>(ed x hx).elim)
def Hz {d:Nat}:∀ {al:Al} {p:Nat×Operand},p∈ko d al->p.1≠d∧((∃y,(p.1,y)∈al∧p.2= .const (.complex .f32 0 0))∨(p∈al∧p.2≠.tmp d)):=by
 intro al;induction al with
 |nil=>intro p h;cases h
 |cons q al ih=>
  intro p h;have h':p∈aD (Nat.beq q.1 d) (ko d al) (aD (Bw d q.2) ((q.1,.const (.complex .f32 0 0))::ko d al) (q::ko d al)):=h;have up:p∈ko d al->p.1≠d∧((∃y,(p.1,y)∈q::al∧p.2= .const (.complex .f32 0 0))∨(p∈q::al∧p.2≠.tmp d)):= λh=>by
   obtain⟨h1,h2⟩:=ih h;refine⟨h1,?_⟩;rcases h2 with ⟨y,h2,h3⟩|⟨h2,h3⟩
   ·exact .inl ⟨y,cV _ h2,h3⟩
   ·exact .inr ⟨cV _ h2,h3⟩
  rw[bW]at h';split at h'
  ·exact up h'
  ·rename_i hq;have hqd:q.1≠d:= λe=>hq (by rw[e];exact bj _);rw[bW]at h';split at h'
   ·rcases List.mem_cons.1 h' with rfl|h'
    ·exact⟨hqd,.inl ⟨q.2,by simp,rfl⟩⟩
    ·exact up h'
   ·rename_i hs;rcases List.mem_cons.1 h' with rfl|h'
    ·refine⟨hqd,.inr ⟨by simp,λe=>hs (by rw[e];exact bj d)⟩⟩
    ·exact up h'
def yy {d:Nat}:∀ {al:Al},(∀p∈ko d al,p.1≠t)->t≠d->∀p∈al,p.1≠t:=by
 intro al;induction al with
 |nil=>intro _ _ p hp;cases hp
 |cons q al ih=>
  intro h hd p hp;have h':∀p∈aD (Nat.beq q.1 d) (ko d al) (aD (Bw d q.2) ((q.1,.const (.complex .f32 0 0))::ko d al) (q::ko d al)),p.1≠t:=h;rw[bW]at h';split at h'
  ·rename_i hq;have hq:=au hq;rcases List.mem_cons.1 hp with rfl|hp
   ·rw[hq];exact hd.symm
   ·exact ih h' hd p hp
  ·rw[bW]at h';split at h'
   ·rcases List.mem_cons.1 hp with rfl|hp
    ·exact h' (p.1,.const (.complex .f32 0 0)) (gN ..)
    ·exact ih (λp hp=>h' p (cV _ hp)) hd p hp
   ·rcases List.mem_cons.1 hp with rfl|hp
    ·exact h' _ (gN ..)
    ·exact ih (λp hp=>h' p (cV _ hp)) hd p hp
def gn {a:Act} {d:Nat} (h:t≠d):(a.put (some d) u).tmps[t]? =a.tmps[t]?:=by simp[Act.put,jd h]
def iG {a:Act} {d:Nat} (h:d<a.tmps.size):(a.put (some d) u).tmps[d]? =some u:=by simp[Act.put,h]
def qe {a:Act} {d:Nat} {y:Operand} (h:y≠.tmp d):(a.put (some d) u).eval y=a.eval y:=by
 cases y with
 |tmp t=>have:t≠d:= λe=>h (by rw[e]);simp[Act.eval,Act.put,jd this]
 |const v=>rfl
 |global g=>rfl
 |func f=>rfl
def Inv.abB {an:Nat} {al:Al} {a:Act} (hI:Inv an nt al ρ lo tm a) {d:Nat}:
  ∀p∈ko d al,kept an p.1=false∧p.1<nt∧((∃g:Nat,p.2= .const (.complex .f32 g 0))∨((a.put (some d) u).tmps[p.1]? =some ((a.put (some d) u).eval p.2)∧((∃c,p.2= .const c)∨∃x,p.2= .tmp x∧x≠d∧∀q∈al,q.1≠x))):=by
 intro p hp;obtain⟨h1,h2⟩:=Hz hp;rcases h2 with ⟨y,h2,h3⟩|⟨h2,h3⟩
 ·obtain⟨q1,q2,_⟩:=hI.al _ h2;exact⟨q1,q2,.inl ⟨0,h3⟩⟩
 ·obtain⟨q1,q2,q3⟩:=hI.al _ h2;refine⟨q1,q2,?_⟩;rcases q3 with q3|⟨q3,q4⟩
  ·exact .inl q3
  ·refine .inr ⟨by rw[gn h1,qe h3];exact q3,?_⟩;rcases q4 with q4|⟨x,q4,q5⟩
   ·exact .inl q4
   ·exact .inr ⟨x,q4,λe=>h3 (by rw[q4,e]),q5⟩
def Cc {al:Al} {d x:Nat} (h:∀q∈al,q.1≠x):∀q∈ko d al,q.1≠x:=by
 intro q hq;rcases(Hz hq).2 with ⟨y,h2,_⟩|⟨h2,_⟩
 ·exact h (q.1,y) h2
 ·exact h q h2
def akA (dst:Option Tmp) (al:Al):Al:=match dst with|some d=>ko d al|none=>al
def VK {an:Nat} {al:Al} {a:Act} (hI:Inv an nt al ρ lo tm a) (hle:gq ρ ρ') {dst:Option Tmp} {d:DI} (hd:Bv an nt dst=some d) (hv:bN ρ' v u) {k:K} {x:cZ} (h:m9 d v k lo tm s= .code x tm' s'):
  ∃kh eP,k kh eP s= .code x tm' s'∧Inv an nt (akA dst al) ρ' kh eP (a.put dst u):=by
 unfold Bv at hd;split at hd
 ·cases hd;exact⟨lo,tm,h,hI.mono hle⟩
 ·rename_i t;obtain⟨cS,hd⟩:=aY hd;have cS:t<nt:=aO cS;have eR:t<a.tmps.size:=bC cS hI.size;have hI':=hI.mono hle;have Ut:nt<=(a.put (some t) u).tmps.size:=by simp[Act.put];exact hI.size
  have Xe:∀p∈ko t al,kept an p.1=false∧p.1<nt∧((∃g:Nat,p.2= .const (.complex .f32 g 0))∨((a.put (some t) u).tmps[p.1]? =some ((a.put (some t) u).eval p.2)∧((∃c,p.2= .const c)∨∃x,p.2= .tmp x∧∀q∈ko t al,q.1≠x))):= λp hp=>by
   obtain⟨h1,h2,h3⟩:=hI'.abB (u:=u) p hp;refine⟨h1,h2,?_⟩;rcases h3 with h3|⟨h3,h4⟩
   ·exact .inl h3
   ·refine .inr ⟨h3,?_⟩;rcases h4 with h4|⟨x,h4,_,h5⟩
    ·exact .inl h4
    ·exact .inr ⟨x,h4,Cc h5⟩
  rw[bW]at hd;split at hd
  ·rename_i hk;cases hd;have h':oR Out .no (λtm'=>k lo tm' s) (T.put (some v) tm t)= .code x tm' s':=h;cases hp:T.put (some v) tm t with
   |none=>rw[hp]at h';cases h'
   |some eP=>
    rw[hp]at h';have hg:=T.jw _ _ _ _ hp;refine⟨lo,eP,h',⟨⟨Ut,λt' w hw=>?_,λt' w hw=>?_⟩,λt' w h1 h2 h3=>?_,Xe⟩⟩
    ·rw[hg]at hw;by_cases e:t'=t
     ·rw[e];exact hk
     ·rw[aC e]at hw;exact hI.tk t' w hw
    ·rw[hg]at hw;by_cases e:t'=t
     ·rw[aU e]at hw;cases hw;rw[e];exact⟨u,iG eR,hv⟩
     ·rw[aC e]at hw;obtain⟨u',zI,hr⟩:=hI'.env t' w hw;exact⟨u',by rw[gn e];exact zI,hr⟩
    ·have e:t'≠t:= λe=>by rw[e,hk]at h2;cases h2
     obtain⟨u',zI,hr⟩:=hI'.lo t' w (yy h1 e) h2 h3;exact⟨u',by rw[gn e];exact zI,hr⟩
  ·rename_i hk;cases hd;have h':k (.cons t v lo) tm s= .code x tm' s':=h;refine⟨.cons t v lo,tm,h',⟨⟨Ut,hI.tk,λt' w hw=>?_⟩,λt' w h1 h2 h3=>?_,Xe⟩⟩
   ·have e:t'≠t:= λe=>by have:=hI.tk t' w hw;rw[e]at this;exact hk this
    obtain⟨u',zI,hr⟩:=hI'.env t' w hw;exact⟨u',by rw[gn e];exact zI,hr⟩
   ·rw[Ml,bW]at h3;split at h3
    ·rename_i e;have e:=au e;cases h3;subst e;exact⟨u,iG eR,hv⟩
    ·rename_i e;have e:t'≠t:= λe'=>e (by rw[e'];exact bj _);obtain⟨u',zI,hr⟩:=hI'.lo t' w (yy h1 e) h2 h3;exact⟨u',by rw[gn e];exact zI,hr⟩
section
def P5 {d:Nat} {y:Operand} (h:Bw d y=false):y≠.tmp d:= λe=>by rw[e]at h;have:Nat.beq d d=false:=h;rw[show Nat.beq d d=true from bj d]at this;cases this
def Inv.alias {an:Nat} {al:Al} {a:Act} (hI:Inv an nt al ρ lo tm a) {d:Nat} {x:Operand} (hx:(∃t,x= .tmp t)∨∃c,x= .const c) (hk:kept an d=false) (cS:d<nt) (hn:Bw d (mV al x)=false):Inv an nt ((d,mV al x)::ko d al) ρ lo tm (a.put (some d) (a.eval x)):=by
 have eR:d<a.tmps.size:=bC cS hI.size;have ed:=P5 hn;have Ut:nt<=(a.put (some d) (a.eval x)).tmps.size:=by simp[Act.put];exact hI.size
 refine⟨⟨Ut,hI.tk,λt' w hw=>?_⟩,λt' w h1 h2 h3=>?_,λp hp=>?_⟩
 ·have e:t'≠d:= λe=>by have:=hI.tk t' w hw;rw[e,hk]at this;cases this
  obtain⟨u',zI,hr⟩:=hI.env t' w hw;exact⟨u',by rw[gn e];exact zI,hr⟩
 ·have e:t'≠d:= λe=>h1 (d,mV al x) (gN ..) e.symm;obtain⟨u',zI,hr⟩:=hI.lo t' w (yy (λp hp=>h1 p (cV _ hp)) e) h2 h3;exact⟨u',by rw[gn e];exact zI,hr⟩
 ·have keys:∀ {x'},x'≠d->(∀q∈al,q.1≠x')->∀q∈(d,mV al x)::ko d al,q.1≠x':= λ {x'} h1 h2 q hq=>by
   rcases List.mem_cons.1 hq with rfl|hq
   ·exact h1.symm
   ·exact Cc h2 q hq
  rcases List.mem_cons.1 hp with rfl|hp
  ·refine⟨hk,cS,?_⟩;rcases hx with ⟨t,rfl⟩|⟨c,rfl⟩
   ·unfold mV at ed⊢;simp only at ed⊢;cases hg:JV t al with
    |none=>
     rw[hg]at ed;simp only at ed⊢;have htd:t≠d:= λe=>ed (by rw[e]);refine .inr ⟨by rw[iG eR,qe ed],.inr ⟨t,rfl,?_⟩⟩;intro q hq;rcases List.mem_cons.1 hq with rfl|hq
     ·exact htd.symm
     ·exact Cc (Hy hg) q hq
    |some y=>
     rw[hg]at ed;simp only at ed⊢;obtain⟨_,_,h3⟩:=hI.al _ (Hx hg);rcases h3 with ⟨g,h3⟩|⟨h3,h4⟩
     ·exact .inl ⟨g,h3⟩
     ·simp only at h3 h4;refine .inr ⟨by rw[iG eR,qe ed,mF h3],?_⟩;rcases h4 with h4|⟨x',h4,h5⟩
      ·exact .inl h4
      ·refine .inr ⟨x',h4,?_⟩;have Ve:x'≠d:= λe=>ed (by rw[h4,e]);intro q hq;rcases List.mem_cons.1 hq with rfl|hq
       ·exact Ve.symm
       ·exact Cc h5 q hq
   ·exact .inr ⟨by rw[iG eR];rfl,.inl ⟨c,rfl⟩⟩
  ·obtain⟨h1,h2,h3⟩:=hI.abB (u:=a.eval x) p hp;refine⟨h1,h2,?_⟩;rcases h3 with h3|⟨h3,h4⟩
   ·exact .inl h3
   ·refine .inr ⟨h3,?_⟩;rcases h4 with h4|⟨x',h4,h5,h6⟩
    ·exact .inl h4
    ·exact .inr ⟨x',h4,keys h5 h6⟩
def jx (P:Program) (m:Sem Next) (w:World) (R:Value->World->Prop):Prop:=
 match m.run P w with
 | .ok (.value u) w'=>R u w'
 | .ok (.enter f args) w'=>CallsIn Fence.wide 0 P f args w' λe w''=>∃u,e= .returned u∧R u w''
 | .ok (.round l f tmps assign body) w'=>RoundIn Fence.wide 0 P l f tmps assign body w' λe w''=>∃u,e= .returned u∧R u w''
 |_=>False
def mj (P:Program) (ev:Ev):Prop:=∀f args s v s',ev f args s= .val v s'->∀ρ w f' args',Rel P ρ s w->bN ρ f f'->bJ ρ args args'->
 jx P (mX f' args') w λu w'=>∃ρ',bN ρ' v u∧Rel P ρ' s' w'∧je ρ s w ρ' s' w'
def rv (F:Fence):Prop:=F=Fence.wide∨∃l,F=Fence.wide.inRound l
def CallsIn.Uu (hF:rv F) {f:FuncId} {args:Array Value} {R:Ending->World->Prop} (h:CallsIn Fence.wide 0 P f args w R):CallsIn F 0 P f args w R:=by
 rcases hF with rfl|⟨l,rfl⟩
 ·exact h
 ·exact h
def RoundIn.Uu (hF:rv F) {l:Nat} {f:FuncId} {tmps:Array Value} {atz bd:Code} {R:Ending->World->Prop} (h:RoundIn Fence.wide 0 P l f tmps atz bd w R):RoundIn F 0 P l f tmps atz bd w R:=by
 rcases hF with rfl|⟨l,rfl⟩
 ·exact h
 ·exact h
def rv.fn {F:Fence} (hF:rv F) (f:FuncId):F.fn f:=by rcases hF with rfl|⟨l,rfl⟩<;>trivial
def rv.depth {F:Fence} (hF:rv F):F.depth=none:=by rcases hF with rfl|⟨l,rfl⟩<;>rfl
section
variable {an nt:Nat} {al:Al} {a:Act} {o:Oper} {ev:Ev}
def awm (P:Program) (an nt:Nat) (al:Al) (ρ:Ren) (s:AS) (w:World) (a:Act) (k:K) (out:Out) (N:Act->World->Prop):Prop:=
 ∀ρ' kh eP s1 a1 w1,k kh eP s1=out->Inv an nt al ρ' kh eP a1->a1.defers=a.defers->Rel P ρ' s1 w1->je ρ s w ρ' s1 w1->N a1 w1
def jA (a:Act) (dst:Option Tmp) (v:Value):(a.put dst v).defers=a.defers:=by cases dst<;>rfl
theorem HB (o:Oper) (al:Al):sZ o al=akA o.dst al:=rfl
def Se (hF:rv F) (j7:mj P ev) {r:Rd} (hr:IQ P an al o.op=some r) {d:DI} {k:K} {x:cZ} (h:lP ev (EG r d) k lo tm s= .code x tm' s') (tZ:qp ρ an al lo tm a.eval o.op.operands) (hR:Rel P ρ s w) {N:Act->World->Prop} {Q:Exit->Act->World->Prop} (fin:∀ {ρ':Ren} {v u:Value} {s1:AS} {w1:World},m9 d v k lo tm s1= .code x tm' s'->bN ρ' v u->Rel P ρ' s1 w1->je ρ s w ρ' s1 w1->N (a.put o.dst u) w1):o.wpIn F 0 P a w N Q:=by
 have Dm:=Mk hr;have hdf:∀c,o.op≠.defer c:= λc e=>by rw[e]at hr;cases hr
 refine⟨λf _=>hF.fn f,?_⟩;rw[wZ _ _ _ hdf];cases r with
 |p f=>
  have h':oR Out .no (λv=>m9 d v k lo tm s) (f lo tm s)= .code x tm' s':=h;cases hv:f lo tm s with
  |none=>rw[hv]at h';cases h'
  |some v=>rw[hv]at h';obtain⟨u,hu,hvu⟩:=Dm.2 ρ lo tm s v w a.eval hv tZ;rw[hu];exact fin h' hvu hR (.refl _ _ _)
 |r f=>
  have h':oR Out .no (λv=>m9 d v k lo tm s) (f lo tm s)= .code x tm' s':=h;cases hv:f lo tm s with
  |none=>rw[hv]at h';cases h'
  |some v=>rw[hv]at h';obtain⟨u,hu,hvu⟩:=Dm ρ lo tm s v w a.eval hv hR tZ;rw[hu];exact fin h' hvu hR (.refl _ _ _)
 |a f=>
  have h':oR Out .no (λp=>m9 d p.1 k lo tm p.2) (f lo tm s)= .code x tm' s':=h;cases hv:f lo tm s with
  |none=>rw[hv]at h';cases h'
  |some r=>rw[hv]at h';obtain⟨b,hb,hm⟩:=Dm lo tm s r hv;obtain⟨m,he,By⟩:=hm ρ w a.eval (hR.uz _ (af _)) tZ;obtain⟨ρ',u,w',h1,h2,h3,h4⟩:=By.ayU hR hb;rw[he,fx h1];exact fin h' h2 h3 h4
 |w f=>
  have h':oR Out .no (λp=>m9 d p.1 k lo tm p.2) (f lo tm s)= .code x tm' s':=h;cases hv:f lo tm s with
  |none=>rw[hv]at h';cases h'
  |some r=>
   rw[hv]at h';obtain⟨ρ',nx,w',h1,h2,h3,h4⟩:=Dm ρ lo tm s r w a.eval hv hR tZ;rw[h1];rcases h2 with ⟨u,rfl,hu⟩|⟨rfl,he⟩
   ·exact fin h' hu h3 h4
   ·exact fin h' (by rw[he];exact .tuple .nil) h3 h4
 |c f atz=>
  obtain⟨c,ho,has,hcl⟩:=Dm;have h':oR Out .no (λl=>oR Out .no (λf=>uR d k lo tm (ev f l s)) (f lo tm)) (si atz lo tm)= .code x tm' s':=h;cases hl:si atz lo tm with
  |none=>rw[hl]at h';cases h'
  |some l=>
   cases hv:f lo tm with
   |none=>rw[hl,hv]at h';cases h'
   |some fv=>
    rw[hl,hv]at h';have h':uR d k lo tm (ev fv l s)= .code x tm' s':=h';cases he:ev fv l s with
    |no=>rw[he]at h';cases h'
    |code=>rw[he]at h';cases h'
    |val v s1=>
     rw[he]at h';have h':m9 d v k lo tm s1= .code x tm' s':=h';obtain⟨g,hg,hex⟩:=hcl ρ lo tm fv a.eval hv tZ;have ry:=j7 _ _ _ _ _ he ρ w _ _ hR hg (tZ.list (by simp[ho,Op.operands,Call.operands]<;>grind) has hl);rw[hex w];unfold jx at ry;generalize (mX g (c.args.toList.map a.eval)).run P w=res at ry;cases res with
     |halt=>exact ry.elim
     |ok nx w1=>
      cases nx with
      |value u=>obtain⟨ρ',h1,h2,h3⟩:=ry;exact fin h' h1 h2 h3
      |enter f args=>refine⟨λhd=>(by rw[hF.depth]at hd;cases hd),uj (CallsIn.Uu hF ry) ?_⟩;rintro e w2 ⟨u,rfl,ρ',h1,h2,h3⟩;exact fin h' h1 h2 h3
      |round l f tmps atz bd=>refine⟨λhd=>(by rw[hF.depth]at hd;cases hd),RoundIn.mono (RoundIn.Uu hF ry) ?_⟩;rintro e w2 ⟨u,rfl,ρ',h1,h2,h3⟩;exact fin h' h1 h2 h3
      |_=>exact ry.elim
def akB (hF:rv F) (j7:mj P ev) {r:Rd} (hr:IQ P an al o.op=some r) {d:DI} (hd:Bv an nt o.dst=some d) {k:K} {x:cZ} (h:lP ev (EG r d) k lo tm s= .code x tm' s') (hI:Inv an nt al ρ lo tm a) (hR:Rel P ρ s w) {N:Act->World->Prop} {Q:Exit->Act->World->Prop} (hN:awm P an nt (sZ o al) ρ s w a k (.code x tm' s') N):o.wpIn F 0 P a w N Q:=
 Se hF j7 hr h hI.ops hR λhp hv h1 h2=>by obtain⟨kh,eP,hk,hI1⟩:=VK hI (h2.le hR) hd hv hp;exact hN _ kh eP _ _ _ hk (by rw[HB];exact hI1) (jA _ _ _) h1 h2
end
end
section
variable {an nt:Nat} {ev:Ev}
def M4 {ops:Array Oper} {tmps:Array Value} {d:Nat} {o:Oper} {b:Bool} (hj:ops[j]? =some o) (hd:o.dst=some d) (ht:tmps.getD d undef= .bool b):yielded ops tmps j=some b:=by
 unfold yielded;rw[hj,pB,hd,pB];rw[bV]at ht;cases hq:tmps[d]? with
 |none=>rw[hq]at ht;cases ht
 |some v=>rw[hq]at ht;simp only[gT]at ht;rw[ht]
def JC {ops:Array Oper} {tmps:Array Value} {d:Nat} {o:Oper} {c:Array Value} (hj:ops[j]? =some o) (hd:o.dst=some d) (ht:tmps.getD d undef= .tuple c):yielded ops tmps j=none:=by
 unfold yielded;rw[hj,pB,hd,pB];rw[bV]at ht;cases hq:tmps[d]? with
 |none=>rfl
 |some v=>rw[hq]at ht;simp only[gT]at ht;rw[ht]
def GR {all:Array Oper} {al:Al} {a:Act} (tZ:∀d g v,(∃o',all[j]? =some o'∧o'.dst=some d)->jn an al (.tmp d)=some g->g lo tm=some v->bN ρ v (a.eval (.tmp d))) {o:Oper} {want y:Bool} {g:iD} (hg:o.guard=some (j,want)) (hm:uH an al all.toList j=some g) (hy:pJ want (g lo tm)=some y):Region.wanted o (yielded all a.tmps)=y:=by
 unfold uH at hm;split at hm
 ·rename_i o' sU;split at hm
  ·rename_i d hd;have hj:all[j]? =some o':=by simpa using sU
   unfold Region.wanted;rw[hg];simp only;unfold pJ at hy;split at hy
   ·rename_i b Bd;cases hy;have hv:=tZ _ _ _ ⟨o',hj,hd⟩ hm Bd;have ht:a.tmps.getD d undef= .bool b:=by
     have:a.eval (.tmp d)=a.tmps.getD d undef:=rfl;rw[<-this];generalize a.eval (.tmp d)=u at hv;cases hv;rfl
    rw[M4 hj hd ht];cases b<;>cases want<;>rfl
   ·rename_i c Bd;cases hy;have hv:=tZ _ _ _ ⟨o',hj,hd⟩ hm Bd;have ht:∃c',a.tmps.getD d undef= .tuple c':=by
     have:a.eval (.tmp d)=a.tmps.getD d undef:=rfl;rw[<-this];generalize a.eval (.tmp d)=u at hv;cases hv;exact⟨_,rfl⟩
    obtain⟨c',ht⟩:=ht;rw[JC hj hd ht];cases want<;>rfl
   ·cases hy
  ·cases hm
 ·cases hm
def ayZ (hF:rv F) (j7:mj P ev) {all:Array Oper} {al:Al} {a:Act} {o:Oper} (hi:all[i]? =some o) {c:CI} (hc:Wq P an nt al all.toList o=some c) {k:K} {x:cZ} (h:lP ev c k lo tm s= .code x tm' s') (hI:Inv an nt al ρ lo tm a) (hR:Rel P ρ s w) {rest:List Nat} {Q:Exit->Act->World->Prop} (hN:awm P an nt (sZ o al) ρ s w a k (.code x tm' s') (wpOpsIn F 0 P all Q rest)):wpOpsIn F 0 P all Q (i::rest) a w:=by
 obtain⟨r,hr,hc⟩:=ak hc;obtain⟨d,hd,hc⟩:=ak hc;simp only[wpOpsIn,hi];unfold lW at hc;split at hc
 ·rename_i hg;cases hc;have hw:Region.wanted o (yielded all a.tmps)=true:=by unfold Region.wanted;rw[hg]
  rw[aU hw];exact akB hF j7 hr hd h hI hR hN
 ·rename_i j want hg;obtain⟨g,Zc,hc⟩:=ak hc;cases hc;have h':ifO (pJ want (g lo tm)) (lP ev (EG r d) k lo tm s) (m9 d (.tuple #[]) k lo tm s)= .code x tm' s':=h;cases hy:pJ want (g lo tm)with
  |none=>rw[hy]at h';cases h'
  |some y=>
   rw[hy]at h';have hw:=GR (λd g v _ hm hv=>hI.ops (ops:= #[.tmp d]) _ _ _ (by simp) hm hv) hg Zc hy;cases y with
   |true=>rw[aU hw];exact akB hF j7 hr hd h' hI hR hN
   |false=>rw[aC (by rw[hw];simp)];refine⟨λf _=>hF.fn f,?_⟩;obtain⟨kh,eP,hk,hI1⟩:=VK (u:=undef) hI (gq.refl ρ) hd (.tuple .nil) h';exact hN ρ kh eP s _ w hk (by rw[HB];exact hI1) (jA _ _ _) hR (.refl _ _ _)
def P6 {o:Oper} {d:Nat} {x:Operand} (h:LN o=some (d,x)):o.guard=none∧o.dst=some d∧o.op= .move x∧((∃t,x= .tmp t)∨∃c,x= .const c):=by
 unfold LN at h;split at h
 ·cases h;exact⟨‹_›,‹_›,‹_›,.inl ⟨_,rfl⟩⟩
 ·cases h;exact⟨‹_›,‹_›,‹_›,.inr ⟨_,rfl⟩⟩
 ·cases h
def Ka (hF:rv F) (j7:mj P ev) {all:Array Oper} {x:cZ} {Q:Exit->Act->World->Prop}:∀(rest:List Oper) (i:Nat),all.toList.drop i=rest->∀(al:Al) (cs:List CI),mC P an nt all.toList rest al=some cs->
  ∀(ρ:Ren) (lo:Lo) (tm:T Value) (s:AS) (a:Act) (w:World),nV ev cs tY lo tm s= .code x tm' s'->Inv an nt al ρ lo tm a->Rel P ρ s w->
  (∀ρ' a' w',x= .normal->js an nt ρ' tm' a'->a'.defers=a.defers->Rel P ρ' s' w'->je ρ s w ρ' s' w'->Q .normal a' w')->wpOpsIn F 0 P all Q (List.range' i rest.length) a w:=by
 intro rest;induction rest with
 |nil=>intro i _ al cs hc ρ lo tm s a w h hI hR hQ;cases hc;cases h;exact hQ ρ a w rfl hI.tojs rfl hR (.refl _ _ _)
 |cons o rest ih=>
  intro i akC al cs hc ρ lo tm s a w h hI hR hQ;have hi:all[i]? =some o:=by
   have:all.toList[i]? =some o:=by have:=congrArg (·[0]?) akC;simpa using this
   simpa using this
  have abC:all.toList.drop (i+1)=rest:=by rw[<-fS,akC];rfl
  have step:∀ {c r},Wq P an nt al all.toList o=some c->mC P an nt all.toList rest (sZ o al)=some r->cs=c::r->wpOpsIn F 0 P all Q (List.range' i (o::rest).length) a w:=by intro c r h1 h2 e;subst e;have h':lP ev c (nV ev r tY) lo tm s= .code x tm' s':=h;show wpOpsIn F 0 P all Q (i::List.range' (i+1) rest.length) a w;refine ayZ hF j7 hi h1 h' hI hR (λkm kh eP s1 a1 w1 hk hI1 Xf xa qz=>?_);refine ih (i+1) abC _ _ h2 km kh eP s1 a1 w1 hk hI1 xa (λρ' a' w' hx hE hd Dn Av=>hQ ρ' a' w' hx hE (hd.trans Xf) Dn (qz.trans Av))
  have Bb:(match LN o with
   |some (d,x)=>aD (aD (kept an d) true (aD (Nat.ble nt d) true (aD (Bw d (mV al x)) true (writes (mV al x) rest)))) (ob (Wq P an nt al all.toList o) λc=>ob (mC P an nt all.toList rest (sZ o al)) λr=>some (c::r)) (mC P an nt all.toList rest ((d,mV al x)::ko d al))
   |none=>ob (Wq P an nt al all.toList o) λc=>ob (mC P an nt all.toList rest (sZ o al)) λr=>some (c::r))=some cs:=hc
  split at Bb
  ·rename_i d y hmv;rw[bW]at Bb;split at Bb
   ·obtain⟨c,h1,Bb⟩:=ak Bb;obtain⟨r,h2,Bb⟩:=ak Bb;cases Bb;exact step h1 h2 rfl
   ·rename_i Es;rw[bW]at Es;split at Es
    ·exact(Es rfl).elim
    ·rename_i hk;rw[bW]at Es;split at Es
     ·exact(Es rfl).elim
     ·rename_i cS;have hk:kept an d=false:=by simpa using hk
      have cS:d<nt:=dg λh=>cS (bg h);have hnt:Bw d (mV al y)=false:=by
       cases ht:Bw d (mV al y)with
       |false=>rfl
       |true=>rw[ht]at Es;exact(Es rfl).elim
      obtain⟨hg,hd,hop,Nu⟩:=P6 hmv;show wpOpsIn F 0 P all Q (i::List.range' (i+1) rest.length) a w;simp only[wpOpsIn,hi];have hw:Region.wanted o (yielded all a.tmps)=true:=by unfold Region.wanted;rw[hg]
      rw[aU hw];refine⟨λf _=>hF.fn f,?_⟩;rw[wZ _ _ _ (λc e=>by rw[hop]at e;cases e)];have he:(execOp a.eval o).run P w= .ok (.value (a.eval y)) w:=by unfold execOp;rw[hop];rfl
      rw[he];show wpOpsIn F 0 P all Q (List.range' (i+1) rest.length) (a.put o.dst (a.eval y)) w;rw[hd];have hI':=hI.alias Nu hk cS hnt;exact ih (i+1) abC _ _ Bb ρ lo tm s _ w h hI' hR (λρ' a' w' hx hE Ir Dn Av=>hQ ρ' a' w' hx hE (Ir.trans (jA _ _ _)) Dn Av)
  ·obtain⟨c,h1,Bb⟩:=ak Bb;obtain⟨r,h2,Bb⟩:=ak Bb;cases Bb;exact step h1 h2 rfl
end
section
def abD:cZ->Exit
 | .normal=> .normal
 | .exit id=> .exit id
 | .goto l=> .goto l
 | .ret=> .ret
structure N0 where
 n:Nat
 base:List Deferred
structure Marks (n0:N0) (ρ:Ren) (s:AS) (w:World) (ds:List Deferred):Prop where
 own:∃ms,ds=ms++n0.base∧(∀d∈ms,∃r,d.target= .collected r∧w.heap[r]? =some (.deferred (some []))∧r<w.heap.size∧¬xl ρ s r∧n0.n<=r)∧ms.Pairwise λd d'=>∀r,d.target= .collected r->d'.target≠.collected r
def Marks.step {n0:N0} {ds:List Deferred} (h:Marks n0 ρ s w ds) (hS:je ρ s w ρ' s' w'):Marks n0 ρ' s' w' ds:=by obtain⟨ms,he,Xg,hap⟩:=h.own;refine⟨ms,he,λd hd=>?_,hap⟩;obtain⟨r,h1,h2,h3,h4,h5⟩:=Xg d hd;obtain⟨e,n⟩:=hS.frame r h3 h4;exact⟨r,h1,by rw[e];exact h2,bC h3 hS.size,n,h5⟩
def Marks.re {n0:N0} {ds:List Deferred} (h:Marks n0 ρ s w ds) (f:∀d:Deferred,(∃r,d.target= .collected r∧w.heap[r]? =some (.deferred (some []))∧r<w.heap.size∧¬xl ρ s r∧n0.n<=r)->∃r,d.target= .collected r∧w'.heap[r]? =some (.deferred (some []))∧r<w'.heap.size∧¬xl ρ' s' r∧n0.n<=r):Marks n0 ρ' s' w' ds:=by obtain⟨ms,he,Xg,hap⟩:=h.own;exact⟨ms,he,λd hd=>f d (Xg d hd),hap⟩
def Marks.nil {n:Nat} {ρ:Ren} {s:AS} {w:World}:Marks ⟨n,[]⟩ ρ s w []:=⟨[],rfl,λd hd=>(by cases hd),.nil⟩
def Marks.at {n0:N0}:Marks n0 ρ s w n0.base:=⟨[],rfl,λd hd=>(by cases hd),.nil⟩
def Mm (P:Program) (n0:N0) (an nt:Nat) (ρ:Ren) (s:AS) (w:World) (x:cZ) (tm':T Value) (s':AS) (Q:Exit->Act->World->Prop):Prop:=
 ∀ρ' a' w',js an nt ρ' tm' a'->Marks n0 ρ' s' w' a'.defers->Rel P ρ' s' w'->je ρ s w ρ' s' w'->Q (abD x) a' w'
def pf (P:Program) (an nt:Nat) (c:Code) (cf:CF):Prop:=∀ev,mj P ev->∀F,rv F->∀ρ tm s a w x tm' s',cf ev tm s= .code x tm' s'->js an nt ρ tm a->∀n0:N0,n0.n<=w.heap.size->Marks n0 ρ s w a.defers->(∀l,F.round=some l->∃r,w.heap[l]? =some (Obj.loop r))->Rel P ρ s w->
 ∀Q,Mm P n0 an nt ρ s w x tm' s' Q->c.wpIn F 0 P Q a w
section
variable {an nt:Nat}
def rP (h:∀l,F.round=some l->∃r,w.heap[l]? =some (Obj.loop r)) (hS:je ρ s w ρ' s' w'):∀l,F.round=some l->∃r,w'.heap[l]? =some (Obj.loop r):= λl hl=>let⟨r,hr⟩:=h l hl;hS.lp l r hr
def js.inv {a:Act} (h:js an nt ρ tm a):Inv an nt [] ρ .nil tm a:=⟨h,λt v _ _ h=>(by cases h),λp hp=>(by cases hp)⟩
def agp:pf P an nt .skip (aQ .normal):= λev j7 F hF ρ tm s a w x tm' s' h hE n0 vX hM hL hR Q hQ=>by cases h;exact wpIn_skip (hQ ρ a w hE hM hR (.refl _ _ _))
def acX (l:Nat):pf P an nt (.label l) (aQ .normal):= λev j7 F hF ρ tm s a w x tm' s' h hE n0 vX hM hL hR Q hQ=>by cases h;exact wpIn_label (hQ ρ a w hE hM hR (.refl _ _ _))
def agq (id:Nat):pf P an nt (.exit id) (aQ (.exit id)):= λev j7 F hF ρ tm s a w x tm' s' h hE n0 vX hM hL hR Q hQ=>by cases h;exact wpIn_exit (hQ ρ a w hE hM hR (.refl _ _ _))
def agr (l:Nat):pf P an nt (.goto l) (aQ (.goto l)):= λev j7 F hF ρ tm s a w x tm' s' h hE n0 vX hM hL hR Q hQ=>by cases h;exact wpIn_goto (hQ ρ a w hE hM hR (.refl _ _ _))
def apt:pf P an nt .ret (aQ .ret):= λev j7 F hF ρ tm s a w x tm' s' h hE n0 vX hM hL hR Q hQ=>by cases h;exact wpIn_ret (hQ ρ a w hE hM hR (.refl _ _ _))
def apu {x y:Code} {f g:CF} (hf:pf P an nt x f) (hg:pf P an nt y g):pf P an nt (.seq x y) (ah f g):= λev j7 F hF ρ tm s a w e tm' s' h hE n0 vX hM hL hR Q hQ=>by
 have h:tG (g ev) (f ev tm s)= .code e tm' s':=h;refine Y1 ?_;cases ho:f ev tm s with
 |no=>rw[ho]at h;cases h
 |val=>rw[ho]at h;cases h
 |code e1 eP s1=>
  rw[ho]at h;refine hf ev j7 F hF ρ tm s a w e1 eP s1 ho hE n0 vX hM hL hR _ (λkm a1 w1 uD Aw xa qz=>?_);cases e1 with
  |normal=>exact hg ev j7 F hF km eP s1 a1 w1 e tm' s' h uD n0 (di vX qz.size) Aw (rP hL qz) xa Q (λoM a2 w2 h1 h2 h3 h4=>hQ oM a2 w2 h1 h2 h3 (qz.trans h4))
  |exit id=>cases h;exact hQ km a1 w1 uD Aw xa qz
  |goto l=>cases h;exact hQ km a1 w1 uD Aw xa qz
  |ret=>cases h;exact hQ km a1 w1 uD Aw xa qz
def ags {c:Operand} {x y:Code} {co:iD} {f g:CF} (hc:jn an [] c=some co) (hf:pf P an nt x f) (hg:pf P an nt y g):pf P an nt (.cond c x y) (bw co f g):= λev j7 F hF ρ tm s a w e tm' s' h hE n0 vX hM hL hR Q hQ=>by
 have h:Un (co .nil tm) (f ev tm s) (g ev tm s)= .code e tm' s':=h;rw[acN]at h;unfold Vz at h;split at h
 ·rename_i b hb;have hv:=hE.inv.ops (ops:= #[c]) _ _ _ (by simp) hc hb;have he:a.eval c= .bool b:=by
   generalize a.eval c=u at hv;cases hv;rfl
  refine wpIn_cond he ?_;rw[bW]at h;cases b with
  |true=>exact hf ev j7 F hF ρ tm s a w e tm' s' h hE n0 vX hM hL hR Q hQ
  |false=>exact hg ev j7 F hF ρ tm s a w e tm' s' h hE n0 vX hM hL hR Q hQ
 ·cases h
def nK {b:Frame} {a:Act} {k:List Item} {cs:List Frame} {c:Code}:_root_.Go.step P (lone (b.atR a (.code (.scope c)::k)) cs w)= .next (lone (b.atR a (.code c:: .inScope c::k)) cs w):=
 step_lone_go (by simp[stepG,stepG.exec,Frame.atR])
def JD {b:Frame} {a:Act} {k:List Item} {cs:List Frame} {c:Code}:_root_.Go.step P (lone (b.atR a (.inScope c::k)) cs w)= .next (lone (b.atR a k) cs w):=
 step_lone_go (by simp[stepG,stepG.exec,Frame.atR])
def To {Q Q':Exit->Act->World->Prop} {a:Act} {c:Code} (h:c.wpIn F n P Q' a w) (hQ:∀e a w,Q' e a w->(∀l,e≠.goto l)∧Q e a w):(Code.scope c).wpIn F n P Q a w:=by
 intro b k cs ug hb hr;have h0:(lone (b.atR a (.code (.scope c)::k)) cs w).fenced P F:=fenced_calm hb hr rfl;obtain⟨e,Ww,Wx,hq,Wy⟩:=h b (.inScope c::k) cs ug hb hr;obtain⟨hg,hq⟩:=hQ e Ww Wx hq;cases e with
 |normal=>exact⟨.normal,Ww,Wx,hq,.head h0 nK (StepsIn.trans Wy (.one (fenced_calm hb hr rfl) JD))⟩
 |exit id'=>
  have hx:exitTo id' (.inScope c::k)=exitTo id' k:=by simp[exitTo]
  exact⟨.exit id',Ww,Wx,hq,λk' hk=> .head h0 nK (Wy.1 k' (by rw[hx];exact hk)),
   λoK hk=>let⟨k₁,h1,h2⟩:=Wy.2 oK (by rw[hx];exact hk);⟨k₁,h1,.head h0 nK h2⟩⟩
 |goto l=>exact(hg l rfl).elim
 |ret=>exact⟨_,Ww,Wx,hq,.of_steps (.one h0 nK) Wy⟩
 |panic ch=>exact⟨_,Ww,Wx,hq,.of_steps (.one h0 nK) Wy⟩
 |outgrown=>exact⟨_,Ww,Wx,hq,.of_steps (.one h0 nK) Wy⟩
def acY {x:Code} {f:CF} (hf:pf P an nt x f):pf P an nt (.scope x) (R9 f):= λev j7 F hF ρ tm s a w e tm' s' h hE n0 vX hM hL hR Q hQ=>by
 have h:OM (f ev tm s)= .code e tm' s':=h;cases ho:f ev tm s with
 |no=>rw[ho]at h;cases h
 |val=>rw[ho]at h;cases h
 |code e1 eP s1=>
  rw[ho]at h;refine To (Q':= λe a w=>(∀l,e≠.goto l)∧Q e a w) (hf ev j7 F hF ρ tm s a w e1 eP s1 ho hE n0 vX hM hL hR _ (λkm a1 w1 uD Aw xa qz=>?_)) (λ_ _ _ h=>h);cases e1 with
  |normal=>cases h;exact⟨λl e=>(by cases e),hQ km a1 w1 uD Aw xa qz⟩
  |exit i=>cases h;exact⟨λl e=>(by cases e),hQ km a1 w1 uD Aw xa qz⟩
  |goto l=>cases h
  |ret=>cases h;exact⟨λl e=>(by cases e),hQ km a1 w1 uD Aw xa qz⟩
def acZ {id:Nat} {x:Code} {f:CF} (hf:pf P an nt x f):pf P an nt (.block id x) (bP id f):= λev j7 F hF ρ tm s a w e tm' s' h hE n0 vX hM hL hR Q hQ=>by
 have h:pR id (f ev tm s)= .code e tm' s':=h;refine wpIn_block ?_;cases ho:f ev tm s with
 |no=>rw[ho]at h;cases h
 |val=>rw[ho]at h;cases h
 |code e1 eP s1=>
  rw[ho]at h;refine hf ev j7 F hF ρ tm s a w e1 eP s1 ho hE n0 vX hM hL hR _ (λkm a1 w1 uD Aw xa qz=>?_);cases e1 with
  |normal=>cases h;exact hQ km a1 w1 uD Aw xa qz
  |exit i=>
   have h:aD (Nat.beq i id) (.code .normal eP s1) (.code (.exit i) eP s1)=Out.code e tm' s':=h;rw[bW]at h;show(if i=id then Q .normal a1 w1 else Q (.exit i) a1 w1);split at h
   ·rename_i hi;cases h;rw[aU (au hi)];exact hQ km a1 w1 uD Aw xa qz
   ·rename_i hi;cases h;rw[aC (λe=>hi (by rw[e];exact bj _))];exact hQ km a1 w1 uD Aw xa qz
  |goto l=>cases h;exact hQ km a1 w1 uD Aw xa qz
  |ret=>cases h;exact hQ km a1 w1 uD Aw xa qz
def IG {id:Nat} {ops:Array Oper} {l:List CI} (hl:mC P an nt ops.toList ops.toList []=some l):pf P an nt (.region id ops false) (aa l):= λev j7 F hF ρ tm s a w e tm' s' h hE n0 vX hM hL hR Q hQ=>by
 refine wpIn_region ?_;have:=Ka (Q:=Q) hF j7 (all:=ops) (x:=e) (tm':=tm') (s':=s') ops.toList 0 (by simp) [] l hl ρ .nil tm s a w h hE.inv hR (λρ' a' w' hx Xh hd Dn Av=>by subst hx;exact hQ ρ' a' w' Xh (by rw[hd];exact hM.step Av) Dn Av)
 rw[Jp];simpa using this
def exists_least {p:Nat->Prop} (h:∃j,p j):∃j,p j∧∀i,p i->j<=i:=by
 obtain⟨n,hn⟩:=h;induction n using Nat.strongRecOn with
 |_ n ih=>
  by_cases h:∃i,i<n∧p i
  ·obtain⟨i,hi,hp⟩:=h;exact ih i hi hp
  ·exact⟨n,hn,λi hp=>Nat.le_of_not_lt λhi=>h ⟨i,hi,hp⟩⟩
open Classical in
noncomputable def least (p:Nat->Prop):Nat:=if h:∃j,p j then Classical.choose (exists_least h)else 0
def Tp {p:Nat->Prop} (h:∃j,p j):p (least p):=by unfold least;rw[dif_pos h];exact(aFF (exists_least h)).1
def least_le {p:Nat->Prop} (hi:p i):least p<=i:=by
 have h:∃j,p j:=⟨i,hi⟩
 unfold least;rw[dif_pos h];exact(aFF (exists_least h)).2 i hi
def agt {c:Code} {f:CF} (hf:pf P an nt c f):pf P an nt (.loop c) (fM f):= λev j7 F hF ρ tm s a w e tm' s' h hE n0 vX hM hL hR Q hQ=>by
 let Ij:Act->World->Nat->Prop:= λa1 w1 j=>∃km eP s1,Oi (f ev) j eP s1= .code e tm' s'∧js an nt km eP a1∧Marks n0 km s1 w1 a1.defers∧Rel P km s1 w1∧je ρ s w km s1 w1
 refine wpIn_loop (λa1 w1=>∃j,Ij a1 w1 j) (λa1 w1=>least (Ij a1 w1)) ⟨1000000,ρ,tm,s,h,hE,hM,hR,.refl _ _ _⟩ (λa1 w1 hI=>?_);have Lu:=Tp hI;generalize hj:least (Ij a1 w1)=j at Lu;obtain⟨km,eP,s1,hl,uD,Aw,xa,qz⟩:=Lu;cases j with
 |zero=>cases hl
 |succ j=>
  have hl:tG (Oi (f ev) j) (f ev eP s1)= .code e tm' s':=hl;cases ho:f ev eP s1 with
  |no=>rw[ho]at hl;cases hl
  |val=>rw[ho]at hl;cases hl
  |code e2 Fm s2=>
   rw[ho]at hl;refine hf ev j7 F hF km eP s1 a1 w1 e2 Fm s2 ho uD n0 (di vX qz.size) Aw (rP hL qz) xa _ (λoM a2 w2 QT Xi BJ JJ=>?_);cases e2 with
   |normal=>
    have hIj:Ij a2 w2 j:=⟨oM,Fm,s2,hl,QT,Xi,BJ,qz.trans JJ⟩
    refine⟨⟨j,hIj⟩,?_⟩;show least (Ij a2 w2)<j+1;exact Nat.lt_succ_of_le (least_le hIj)
   |exit id=>cases hl;exact hQ oM a2 w2 QT Xi BJ (qz.trans JJ)
   |goto l=>cases hl;exact hQ oM a2 w2 QT Xi BJ (qz.trans JJ)
   |ret=>cases hl;exact hQ oM a2 w2 QT Xi BJ (qz.trans JJ)
end
end
def yc (m i:Nat):eF m i=m.testBit i:=by
 unfold eF Nat.testBit;show Nat.beq (m>>>i&&&1) 1=(1&&&(m>>>i) !=0)
 rw[Nat.and_comm (m>>>i) 1,Nat.one_and_eq_mod_two];have:m>>>i%2<2:=uE _ (by omega);generalize m>>>i%2=r at*
 match r,this with
 |0,_=>rfl
 |1,_=>rfl
def agu (j:Nat):Nat.shiftLeft 1 j=2^j:=by show 1<<<j=2^j;rw[Nat.shiftLeft_eq,Bh]
def wo (ms:List Nat) (j:Nat):∀es:List Edge,eF (tF ms es) j=true↔ ∃e∈es,Region.binds .any e=true∧(e.on=j∨eF (ms.getD e.on 0) j=true)
 | []=>by show eF 0 j=true↔_;rw[yc];simp
 |e::es=>by
  have ih:=wo ms j es;show eF (aD (Region.binds .any e) (Nat.lor (Nat.lor (Nat.shiftLeft 1 e.on) (ms.getD e.on 0)) (tF ms es)) (tF ms es)) j=true↔_;cases hb:Region.binds .any e with
  |false=>rw[de,ih];simp[hb]
  |true=>
   rw[aS,agu];show eF ((2^e.on|||ms.getD e.on 0)|||tF ms es) j=true↔_;rw[yc,Nat.testBit_or,Nat.testBit_or,Nat.testBit_two_pow,<-yc,<-yc];simp only[xf,ih,nU,bu];constructor
   ·rintro((h|h)|⟨e',h1,h2,h3⟩)
    ·exact⟨e,.inl rfl,hb,.inl h⟩
    ·exact⟨e,.inl rfl,hb,.inr h⟩
    ·exact⟨e',.inr h1,h2,h3⟩
   ·rintro⟨e',rfl|h1,h2,h3⟩
    ·exact .inl h3
    ·exact .inr ⟨e',h1,h2,h3⟩
def HC:∀(l:List Oper) (RL ms:List Nat),JW l RL=some ms->∃r,ms=RL++r∧r.length=l.length∧∀i o,l[i]? =some o->ms[RL.length+i]? =some (tF (ms.take (RL.length+i)) o.after.toList)
 | [],RL,ms,h=>by have h:some RL=some ms:=h;cases h;exact⟨[],by simp,rfl,λi o h=>by simp at h⟩
 |o::l,RL,ms,h=>by
  have h:cG (tF RL o.after.toList) (λm=>ob (Ae RL [m]) (JW l))=some ms:=h;rw[bD,pH]at h;have h:JW l (RL++ [tF RL o.after.toList])=some ms:=h;obtain⟨r,h1,h2,h3⟩:=HC l _ _ h;refine⟨tF RL o.after.toList::r,by simp[h1],by simp[h2],λi o' hi=>?_⟩;cases i with
  |zero=>cases hi;rw[h1];simp
  |succ i=>have:=h3 i o' (by simpa using hi);simp only[bL,bU,gH,aG]at this;rw[show RL.length+(i+1)=RL.length+1+i by omega];exact this
def Kb {an:Nat}:∀(l:List Oper) (i:Nat) (ms:List Nat) (r:List gw),Zu P an l i ms=some r->∃k,r.length=l.length∧l.length+k=ms.length∧
  ∀j x,r[j]? =some x->x.i=i+j∧l[j]? =some x.o∧ms[j]? =some x.m∧x.m<2^(i+j)∧IQ P an [] x.o.op=some x.r
 | [],i,ms,r,h=>by have h:some []=some r:=h;cases h;exact⟨ms.length,rfl,by simp,λj x h=>by simp at h⟩
 |o::l,i,[],r,h=>by cases h
 |o::l,i,m::ms,r,h=>by
  have h:aD (Nat.blt m (Nat.pow 2 i)) (ob (IQ P an [] o.op) λr=>cG i λi=>ob (Zu P an l (Nat.succ i) ms) λl=>some (⟨i,m,o,r⟩::l)) none=some r:=h;obtain⟨hm,h⟩:=aY h;obtain⟨rd,Dm,h⟩:=ak h;rw[bD]at h;obtain⟨r',oK,h⟩:=ak h;cases h;obtain⟨k,h1,h2,h3⟩:=Kb l (i+1) ms r' oK;have hm:m<2^i:=by have:=aO hm;exact this
  refine⟨k,by simp[h1],by simp;omega,λj x hj=>?_⟩;cases j with
  |zero=>cases hj;exact⟨rfl,rfl,rfl,hm,Dm⟩
  |succ j=>obtain⟨a1,a2,a3,a4,a5⟩:=h3 j x (by simpa using hj);exact⟨by omega,by simpa using a2,by simpa using a3,by rw[show i+(j+1)=i+1+j by omega];exact a4,a5⟩
structure qY (P:Program) (an:Nat) (all:Array Oper) (l:List gw) (I:gw->Prop):Prop where
 at_:∀(i:Nat) (x:gw),l[i]? =some x->x.i=i
 len:l.length=all.size
 op:∀x∈l,all[x.i]? =some x.o
 rd:∀x∈l,¬I x->IQ P an [] x.o.op=some x.r
 ins:∀x∈l,I x->∃f,x.r= .p f
 below:∀x∈l,∀j,eF x.m j=true->j<x.i
 trans:∀x∈l,∀y∈l,eF x.m y.i=true->∀j,eF y.m j=true->eF x.m j=true
 dir:∀x∈l,∀e∈x.o.after.toList,Region.binds .any e=true->eF x.m e.on=true
 back:∀x∈l,∀j,eF x.m j=true->∃e∈x.o.after.toList,Region.binds .any e=true∧(e.on=j∨∃y∈l,y.i=e.on∧eF y.m j=true)
def qY.mem {an:Nat} {I:gw->Prop} {all:Array Oper} {l:List gw} (h:qY P an all l I) {x:gw} (hx:x∈l):l[x.i]? =some x:=by obtain⟨i,hi,rfl⟩:=fE hx;have:=h.at_ i l[i] (by simp[hi]);rw[this];simp[hi]
def qY.inj {an:Nat} {I:gw->Prop} {all:Array Oper} {l:List gw} (h:qY P an all l I) {x y:gw} (hx:x∈l) (hy:y∈l) (e:x.i=y.i):x=y:=by have h1:=h.mem hx;have h2:=h.mem hy;rw[e,h2]at h1;exact(bh h1).symm
def qY.aIM {an:Nat} {I:gw->Prop} {all:Array Oper} {l:List gw} (h:qY P an all l I) {o:Oper} (ho:all[i]? =some o):∃x∈l,x.i=i∧x.o=o:=by
 have hi:i<l.length:=by rw[h.len];exact(Array.getElem?_eq_some_iff.1 ho).1
 have hx:=h.at_ i l[i] (by simp[hi]);have:=h.op l[i] (by simp);rw[hx,ho]at this;exact⟨l[i],by simp,hx,(bh this).symm⟩
def agv {an:Nat} {all:Array Oper} {ms:List Nat} {l:List gw} (hms:JW all.toList []=some ms) (hl:Zu P an all.toList 0 ms=some l):qY P an all l (λ_=>False):=by
 obtain⟨r,h1,h2,h3⟩:=HC _ _ _ hms;obtain⟨k,d1,d2,d3⟩:=Kb _ _ _ _ hl;simp only[gH,aG]at h3 d3;have key:∀x∈l,l[x.i]? =some x:= λx hx=>by obtain⟨i,hi,rfl⟩:=fE hx;have:=(d3 i l[i] (by simp[hi])).1;rw[this];simp[hi]
 have mk:∀x∈l,x.m=tF (ms.take x.i) x.o.after.toList:= λx hx=>by obtain⟨_,a2,a3,_,_⟩:=d3 x.i x (key x hx);have:=h3 x.i x.o a2;rw[a3]at this;exact bh this
 have below:∀x∈l,∀j,eF x.m j=true->j<x.i:= λx hx j hj=>by obtain⟨_,_,_,a4,_⟩:=d3 x.i x (key x hx);rw[yc]at hj;have:=Nat.ge_two_pow_of_testBit hj;exact(Nat.pow_lt_pow_iff_right (by omega)).1 (OJ this a4)
 have dir:∀x∈l,∀e∈x.o.after.toList,Region.binds .any e=true->eF x.m e.on=true:= λx hx e he hb=>by rw[mk x hx,wo];exact⟨e,he,hb,.inl rfl⟩
 have sub:∀x∈l,∀i,i<x.i->∃y∈l,y.i=i∧(ms.take x.i).getD i 0=y.m:= λx hx i hi=>by
  have Vf:x.i<l.length:=(List.getElem?_eq_some_iff.1 (key x hx)).1;have uB:i<l.length:=by omega
  obtain⟨b1,_,b3,_,_⟩:=d3 i l[i] (by simp[uB]);refine⟨l[i],by simp,b1,?_⟩;rw[List.getD_eq_getElem?_getD,kj,aU hi,b3];rfl
 have back:∀x∈l,∀j,eF x.m j=true->∃e∈x.o.after.toList,Region.binds .any e=true∧(e.on=j∨∃y∈l,y.i=e.on∧eF y.m j=true):= λx hx j hj=>by have Vg:=hj;rw[mk x hx,wo]at hj;obtain⟨e,he,hb,h⟩:=hj;refine⟨e,he,hb,h.imp id λh=>?_⟩;obtain⟨y,hy,hyi,hym⟩:=sub x hx e.on (below x hx _ (dir x hx e he hb));rw[hym]at h;exact⟨y,hy,hyi,h⟩
 have aIN:∀x∈l,∀y∈l,x.i=y.i->x=y:= λx hx y hy e=>by have h1:=key x hx;have h2:=key y hy;rw[e,h2]at h1;exact(bh h1).symm
 have fwd:∀x∈l,∀e∈x.o.after.toList,Region.binds .any e=true->∀y∈l,y.i=e.on->∀j,eF y.m j=true->eF x.m j=true:= λx hx e he hb y hy hyi j hj=>by obtain⟨z,hz,hzi,hzm⟩:=sub x hx e.on (below x hx _ (dir x hx e he hb));have:z=y:=aIN z hz y hy (hzi.trans hyi.symm);subst this;rw[mk x hx,wo];exact⟨e,he,hb,.inr (by rw[hzm];exact hj)⟩
 refine⟨λi x h=>((d3 i x h).1),by rw[d1];simp,λx hx=>?_,λx hx _=>((d3 x.i x (key x hx)).2.2.2.2),λ_ _ h=>h.elim,below,?_,dir,back⟩
 ·have:=(d3 x.i x (key x hx)).2.1;simpa using this
 ·intro x hx;generalize hn:x.i=n;induction n using Nat.strongRecOn generalizing x with
  |_ n ih=>
   intro y hy Nu j hj;obtain⟨e,he,hb,h|⟨z,hz,hzi,hzy⟩⟩:=back x hx _ Nu
   ·exact fwd x hx e he hb y hy h.symm j hj
   ·have cS:z.i<n:=by rw[hzi,<-hn];exact below x hx _ (dir x hx e he hb)
    exact fwd x hx e he hb z hz hzi j (ih z.i cS z hz rfl y hy hzy j hj)
section
variable {an:Nat} {all:Array Oper} {l:List gw} {I:gw->Prop}
def Mn:∀l:List gw,gm l=l.filter λx=>Di x.r
 | []=>rfl
 |x::l=>by show aD (Di x.r) (x::gm l) (gm l)=_;rw[Mn l,gU];cases Di x.r<;>rfl
def Tq (m:Nat) (x:gw) (ws:List gw):level m (x::ws)=if eF m x.i=true then level m ws+1 else level m ws:=by show aD (eF m x.i) (Nat.succ (level m ws)) (level m ws)=_;cases eF m x.i<;>rfl
def M7 (i:Nat) (x:gw) (ws:List gw):lj i (x::ws)=if eF x.m i=true then lj i ws else lj i ws+1:=by show aD (eF x.m i) (lj i ws) (Nat.succ (lj i ws))=_;cases eF x.m i<;>rfl
def yL (p:Nat->Bool) (ws:List gw):Nat:=(ws.filter λx=>p x.i).length
def pT (p:Nat->Bool) (x:gw) (ws:List gw):yL p (x::ws)=if p x.i=true then yL p ws+1 else yL p ws:=by unfold yL;rw[gU];split<;>simp_all
def oT (m:Nat):∀ws:List gw,level m ws=yL (eF m) ws
 | []=>rfl
 |x::ws=>by rw[Tq,pT,oT m ws]
def LQ {p q:Nat->Bool}:∀ {ws:List gw},(∀x∈ws,p x.i=true->q x.i=true)->yL p ws<=yL q ws
 | [],_=>af _
 |x::ws,h=>by
  rw[pT,pT];have ih:=LQ (p:=p) (q:=q) (ws:=ws) λy hy=>h y (by simp[hy]);split
  ·rw[aU (h x (by simp) ‹_›)];omega
  ·split<;>omega
def abE {p q:Nat->Bool}:∀ {ws:List gw},(∀x∈ws,p x.i=true->q x.i=true)->∀y∈ws,p y.i=false->q y.i=true->yL p ws<yL q ws
 | [],_,y,hy,_,_=>by simp at hy
 |x::ws,h,y,hy,h1,h2=>by
  rw[pT,pT];have ih:=LQ (p:=p) (q:=q) (ws:=ws) λy hy=>h y (by simp[hy]);rcases List.mem_cons.1 hy with rfl|hy
  ·rw[h1,h2];simp;omega
  ·have:=abE (p:=p) (q:=q) (ws:=ws) (λy hy=>h y (by simp[hy])) y hy h1 h2;split
   ·rw[aU (h x (by simp) ‹_›)];omega
   ·split<;>omega
def OS {p:Nat->Bool} {i:Nat}:∀ {ws:List gw},(∀x∈ws,p x.i=true->eF x.m i=false)->yL p ws<=lj i ws
 | [],_=>af _
 |x::ws,h=>by
  rw[pT,M7];have ih:=OS (p:=p) (i:=i) (ws:=ws) λy hy=>h y (by simp[hy]);split
  ·rw[aC (by rw[h x (by simp) ‹_›];simp)];omega
  ·split<;>omega
def Mo {p:Nat->Bool}:∀ {ws:List gw},(∀x∈ws,p x.i=true)->yL p ws=ws.length
 | [],_=>rfl
 |x::ws,h=>by rw[pT,aU (h x (by simp)),Mo λy hy=>h y (by simp[hy])];rfl
def GS {p:Nat->Bool}:∀ {ws:List gw},(∀x∈ws,p x.i=false)->yL p ws=0
 | [],_=>rfl
 |x::ws,h=>by rw[pT,aC (by rw[h x (by simp)];simp),GS λy hy=>h y (by simp[hy])]
def HD (p:Nat->Bool) (a b:List gw):yL p (a++b)=yL p a+yL p b:=by unfold yL;rw[List.filter_append,bL]
structure RM (all:Array Oper) (l:List gw):Prop where
 chain:∀x∈gm l,∀y∈gm l,x.i<y.i->eF y.m x.i=true
 sorted:(gm l).Pairwise λx y=>x.i<y.i
 aIO:∀x∈l,∀y∈l,∀d,y.o.dst=some d->x.o.dst=some d->x=y
 aIP:∀x∈l,∀y∈l,∀d,y.o.dst=some d->d∈qk all.toList x.o->Ul x y=true
def zo {α:Type} {f:α->Bool}:∀ {l:List α},Wr f l=true->∀x∈l,f x=true
 | [],_,x,hx=>by simp at hx
 |a::l,h,x,hx=>by
  have h:aD (f a) (Wr f l) false=true:=h;cases hf:f a with
  |false=>rw[hf]at h;cases h
  |true=>
   rw[hf]at h;rcases List.mem_cons.1 hx with rfl|hx
   ·exact hf
   ·exact zo h x hx
def xX {x:gw}:x∈gm l↔x∈l∧Di x.r=true:=by rw[Mn,acF]
def Kc (hD:qY P an all l I):∀(ws:List gw) (p:Option Nat),(∀x∈ws,x∈l)->y9 ws p=true->(∀q∈p,∃y∈l,y.i=q)->ws.Pairwise (λx y=>x.i<y.i)->
  (∀q∈p,∀y∈ws,eF y.m q=true)∧ws.Pairwise λx y=>eF y.m x.i=true
 | [],p,_,_,_,_=>⟨λq _ y hy=>by simp at hy,.nil⟩
 |x::ws,p,gP,h,hp,hs=>by
  have hx:=gP x (by simp);rw[zV]at hs;have h1:y9 ws (some x.i)=true∧∀q∈p,eF x.m q=true:=by
   cases p with
   |none=>exact⟨h,λq hq=>by cases hq⟩
   |some q=>
    have h:aD (eF x.m q) (y9 ws (some x.i)) false=true:=h;cases hb:eF x.m q with
    |false=>rw[hb]at h;cases h
    |true=>rw[hb]at h;exact⟨h,λq' Vh=>by cases Vh;exact hb⟩
  obtain⟨i1,i2⟩:=Kc hD ws (some x.i) (λy hy=>gP y (by simp[hy])) h1.1 (λq hq=>by cases hq;exact⟨x,hx,rfl⟩) hs.2;refine⟨λq hq y hy=>?_,List.pairwise_cons.2 ⟨λy hy=>i1 x.i rfl y hy,i2⟩⟩;rcases List.mem_cons.1 hy with rfl|hy
  ·exact h1.2 q hq
  ·exact hD.trans y (gP y (by simp[hy])) x hx (i1 x.i rfl y hy) q (h1.2 q hq)
def XP (hD:qY P an all l I):l.Pairwise λx y=>x.i<y.i:=by rw[List.pairwise_iff_getElem];intro i j hi hj zK;rw[hD.at_ i _ (by simp[hi]),hD.at_ j _ (by simp[hj])];exact zK
def wu {α:Type}:∀(d i:Nat),T.get (xR (α:=α) d) i=none
 |0,i=>T.ur i
 |d+1,i=>by
  have e:xR (α:=α) (d+1)= .n none (xR d) (xR d):=rfl;rw[e];rcases dN i with rfl|⟨m,rfl⟩|⟨m,rfl⟩
  ·rw[T.nW]
  ·rw[T.gX];exact wu d m
  ·rw[T.fQ];exact wu d m
def Dx:∀ {l:List gw} {t:T gw},Zv l=some t->(∀d y,T.get t d=some y->y∈l∧y.o.dst=some d)∧(∀y∈l,∀d,y.o.dst=some d->T.get t d=some y)
 | [],t,h=>by have h:some (xR 12)=some t:=h;cases h;exact⟨λd y h=>(by rw[wu]at h;cases h),λy hy=>(by cases hy)⟩
 |x::l,t,h=>by
  have h:(match x.o.dst with
   |none=>Zv l
   |some d=>ob (Zv l) λt=>oR (Option (T gw)) (T.put (some x) t d) (λ_=>none) (T.get t d))=some t:=h
  split at h
  ·rename_i hd;obtain⟨i1,i2⟩:=Dx h;refine⟨λd y hy=>⟨cV _ (i1 d y hy).1,(i1 d y hy).2⟩,λy hy d xc=>?_⟩;rcases List.mem_cons.1 hy with rfl|hy
   ·rw[hd]at xc;cases xc
   ·exact i2 y hy d xc
  ·rename_i d hd;obtain⟨t0,h0,h⟩:=ak h;obtain⟨i1,i2⟩:=Dx h0;cases hg:T.get t0 d with
   |some y=>rw[hg]at h;cases h
   |none=>
    rw[hg]at h;have h:T.put (some x) t0 d=some t:=h;have fP:=T.jw _ _ _ _ h;refine⟨λe y hy=>?_,λy hy e hye=>?_⟩
    ·rw[fP]at hy;by_cases he:e=d
     ·rw[aU he]at hy;cases hy;exact⟨gN ..,by rw[he];exact hd⟩
     ·rw[aC he]at hy;exact⟨cV _ (i1 e y hy).1,(i1 e y hy).2⟩
    ·rw[fP];rcases List.mem_cons.1 hy with rfl|hy
     ·rw[hd]at hye;cases hye;rw[aU rfl]
     ·have:=i2 y hy e hye;by_cases he:e=d
      ·rw[he,hg]at this;cases this
      ·rw[aC he];exact this
def HE {l:List gw} (h:BP all.toList l=true):(∀x∈l,∀y∈l,∀d,y.o.dst=some d->x.o.dst=some d->x=y)∧(∀x∈l,∀y∈l,∀d,y.o.dst=some d->d∈qk all.toList x.o->Ul x y=true):=by
 unfold BP at h;cases ht:Zv l with
 |none=>rw[ht]at h;cases h
 |some t=>
  rw[ht]at h;obtain⟨i1,i2⟩:=Dx ht;refine⟨λx hx y hy d h1 h2=>?_,λx hx y hy d h1 h2=>?_⟩
  ·have e1:=i2 x hx d h2;have e2:=i2 y hy d h1;rw[e1]at e2;cases e2;rfl
  ·have:=zo (zo h x hx) d h2;rw[i2 y hy d h1]at this;exact this
def apv (hD:qY P an all l I) (h1:y9 (gm l) none=true) (h2:BP all.toList l=true):RM all l:=by
 have hs:(gm l).Pairwise λx y=>x.i<y.i:=by rw[Mn];exact(XP hD).filter _
 obtain⟨_,hc⟩:=Kc hD (gm l) none (λx hx=>(xX.1 hx).1) h1 (λq hq=>by cases hq) hs;refine⟨λx hx y hy Nu=>?_,hs,(HE h2).1,(HE h2).2⟩;obtain⟨i,hi,rfl⟩:=fE hx;obtain⟨j,hj,rfl⟩:=fE hy;rcases Nat.lt_trichotomy i j with h|h|h
 ·exact List.pairwise_iff_getElem.1 hc i j hi hj h
 ·subst h;omega
 ·have:=List.pairwise_iff_getElem.1 hs j i hj hi h;omega
def RM.dst (hW:RM all l) {x y:gw} (hx:x∈l) (hy:y∈l) (ed:x.i≠y.i) {d:Nat} (h:y.o.dst=some d):x.o.dst≠some d:= λe=>ed (by rw[hW.aIO x hx y hy d h e])
def RM.use (hW:RM all l) {x y:gw} (hx:x∈l) (hy:y∈l) {d:Nat} (h:y.o.dst=some d) (hu:d∈qk all.toList x.o):x.i≠y.i∧(y.i<x.i->eF x.m y.i=true)∧(x.i<y.i->eF y.m x.i=true):=by
 have hp:=hW.aIP x hx y hy d h hu;unfold Ul at hp;by_cases hi:x.i=y.i
 ·rw[bW,aU (by rw[hi];exact bj _)]at hp;cases hp
 ·rw[bW,aC (λe=>hi (au e))]at hp;rw[bW]at hp;split at hp
  ·rename_i cS;have cS:y.i<x.i:=aO cS;exact⟨hi,λ_=>hp,λh=>by omega⟩
  ·rename_i cS;have cS:¬y.i<x.i:= λh=>cS (bg h);exact⟨hi,λh=>(cS h).elim,λ_=>hp⟩
end
section
def eI (an:Nat) (lo:Lo) (tm:T Value) (t:Nat):bQ:=aD (kept an t) (tm.get t) (Lo.get t lo)
def GU {an:Nat} {f:iD} (h:jn an [] (.tmp t)=some f) (lo:Lo) (tm:T Value):f lo tm=eI an lo tm t:=by
 have h:aD (kept an t) (some (aK t)) (some (aH t))=some f:=h;unfold eI;rw[bW]at h⊢;split at h<;>cases h
 ·rw[aU ‹_›];rfl
 ·rw[aC ‹_›];rfl
def OT {an:Nat} {dst:Option Tmp} {d:DI} (hd:Bv an nt dst=some d) {k:K} {x:cZ} (zM:∀t v,tm.get t=some v->kept an t=true) (h:m9 d v k lo tm s= .code x tm' s'):
  ∃kh eP,k kh eP s= .code x tm' s'∧(∀t,eI an kh eP t=if dst=some t then some v else eI an lo tm t)∧(∀t v,eP.get t=some v->kept an t=true)∧∀d',dst=some d'->d'<nt:=by
 cases dst with
 |none=>cases hd;exact⟨lo,tm,h,λt=>by simp,zM,λ_ e=>by cases e⟩
 |some t0=>
  obtain⟨cS,hd⟩:=aY hd;have cS:t0<nt:=aO cS;rw[bW]at hd;split at hd
  ·rename_i hk;cases hd;have h':oR Out .no (λtm'=>k lo tm' s) (T.put (some v) tm t0)= .code x tm' s':=h;cases hp:T.put (some v) tm t0 with
   |none=>rw[hp]at h';cases h'
   |some eP=>
    rw[hp]at h';have hg:=T.jw _ _ _ _ hp;refine⟨lo,eP,h',λt=>?_,λt w hw=>?_,λ_ e=>by cases e;exact cS⟩
    ·unfold eI;rw[hg];by_cases e:t=t0
     ·subst e;simp[hk,aS]
     ·rw[aC e,aC (λe'=>e (bh e').symm)]
    ·rw[hg]at hw;by_cases e:t=t0
     ·rw[e];exact hk
     ·rw[aC e]at hw;exact zM t w hw
  ·rename_i hk;cases hd;refine⟨.cons t0 v lo,tm,h,λt=>?_,zM,λ_ e=>by cases e;exact cS⟩;unfold eI;rw[Ml];by_cases e:t=t0
   ·subst e;rw[bj,aS,aU rfl];have:kept an t=false:=by simpa using hk
    rw[this,de]
   ·rw[aC (λe'=>e (bh e').symm)];have:Nat.beq t t0=false:=by
     cases hb:Nat.beq t t0 with
     |true=>exact(e (au hb)).elim
     |false=>rfl
    rw[this,de]
def Is (l:List gw) (x:gw):Nat:=level x.m (gm l)
def Xj (l:List gw) (y x:gw):Prop:=Is l y<Is l x∨(Is l y=Is l x∧Di y.r=false∧(Di x.r=true∨y.i<x.i))
def Xs (l:List gw) (n m:Nat) (y:gw):Prop:=Is l y<n∨(Is l y=n∧Di y.r=false∧y.i<m)
def Tr {l:List gw} {x:gw}:¬Xj l x x:=by
 rintro(h|⟨_,h1,h2|h2⟩)
 ·omega
 ·rw[h1]at h2;cases h2
 ·omega
def OU {l:List gw} {x y:gw} (h:Xj l x y):¬Xj l y x:=by
 intro h';rcases h with h|⟨h,h1,h2⟩<;>rcases h' with h'|⟨h',h3,h4⟩
 ·omega
 ·omega
 ·omega
 ·rcases h2 with h2|h2
  ·rw[h3]at h2;cases h2
  ·rcases h4 with h4|h4
   ·rw[h1]at h4;cases h4
   ·omega
section
variable {an nt:Nat} {all:Array Oper} {l:List gw} {I:gw->Prop}
def Cd (hD:qY P an all l I) {x y:gw} (hx:x∈l) (hy:y∈l) (h:eF x.m y.i=true):Xj l y x:=by
 have cS:=hD.below x hx _ h;have sub:∀z∈gm l,eF y.m z.i=true->eF x.m z.i=true:= λz _ hz=>hD.trans x hx y hy h _ hz;cases hw:Di y.r with
 |true=>
  left;unfold Is;rw[oT,oT];refine abE sub y (xX.2 ⟨hy,hw⟩) ?_ h;cases hb:eF y.m y.i with
  |false=>rfl
  |true=>have:=hD.below y hy _ hb;omega
 |false=>
  have hle:Is l y<=Is l x:=by unfold Is;rw[oT,oT];exact LQ sub
  rcases OL hle with h|h
  ·exact .inl h
  ·exact .inr ⟨h,hw,.inr cS⟩
def yV (P:Program) (l:List gw) (ρ:Ren) (B:Nat->Nat->Prop) (cs:List BI) (S:AS) (x:gw) (lo:Lo) (tm:T Value) (v:Value):Prop:=
 match x.r with
 | .p f=>∃s,f lo tm s=some v
 | .r f=>(lj x.i (gm l),λs'=>EH v (f lo tm s'))∈cs
 | .a f=>∃s1 s1',f lo tm s1=some (v,s1')∧B x.i s1.nx∧s1.nx<S.nx∧ρ s1.nx=none∧(S.h.get s1.nx=s1'.h.get s1.nx∨S.h.get s1.nx=none)
 |_=>False
def QU (P:Program) (an:Nat) (all:Array Oper) (l:List gw) (ρ:Ren) (B:Nat->Nat->Prop) (cs:List BI) (S:AS) (x:gw) (lo:Lo) (tm:T Value) (v:Value):Prop:=
 match x.o.guard with
 |none=>yV P l ρ B cs S x lo tm v
 |some (j,want)=>∃g y,uH an [] all.toList j=some g∧pJ want (g lo tm)=some y∧(y=true->yV P l ρ B cs S x lo tm v)∧(y=false->v= .tuple #[])
def yV.mono {B B':Nat->Nat->Prop} {cs QM:List BI} {S S':AS} {x:gw} (h:yV P l ρ B cs S x lo tm v) (hB:∀b,B x.i b->B' x.i b) (qg:∀c∈cs,c∈QM) (hS:∀b,B x.i b->b<S.nx->ρ b=none->b<S'.nx∧ρ' b=none∧(S'.h.get b=S.h.get b∨S'.h.get b=none)):yV P l ρ' B' QM S' x lo tm v:=by
 unfold yV at h⊢;split at h
 ·exact h
 ·exact qg _ h
 ·obtain⟨s1,s1',h1,h2,h3,h4,h5⟩:=h;obtain⟨a1,a2,a3⟩:=hS _ h2 h3 h4;refine⟨s1,s1',h1,hB _ h2,a1,a2,?_⟩;rcases a3 with a3|a3
  ·rw[a3];exact h5
  ·exact .inr a3
 ·exact h
def QU.mono {ρ ρ':Ren} {B B':Nat->Nat->Prop} {cs QM:List BI} {S S':AS} {x:gw} {lo:Lo} {tm:T Value} {v:Value} (h:QU P an all l ρ B cs S x lo tm v) (hB:∀b,B x.i b->B' x.i b) (qg:∀c∈cs,c∈QM)
  (hS:∀b,B x.i b->b<S.nx->ρ b=none->b<S'.nx∧ρ' b=none∧(S'.h.get b=S.h.get b∨S'.h.get b=none)):QU P an all l ρ' B' QM S' x lo tm v:=by
 unfold QU at h⊢;split at h
 ·exact yV.mono h hB qg hS
 ·obtain⟨g,y,h1,h2,h3,h4⟩:=h;exact⟨g,y,h1,h2,λe=>yV.mono (h3 e) hB qg hS,h4⟩
structure St (P:Program) (an nt:Nat) (all:Array Oper) (l:List gw) (E0:Nat->bQ) (qA:Ren) (s0:AS) (w0:World) (a0:Act) (X:gw->Prop) (D:Nat->Prop) (B:Nat->Nat->Prop) (ρ:Ren) (cs:List BI) (lo:Lo) (tm:T Value) (S:AS) (a:Act) (w:World):Prop where
 tk:∀t v,tm.get t=some v->kept an t=true
 Rj:∀t,(∀y∈l,X y->y.o.dst≠some t)->eI an lo tm t=E0 t
 rcd:∀x∈l,X x->Di x.r=false->¬D x.i->∃sy tm' v,QU P an all l ρ B cs S x sy tm' v∧(∀d,x.o.dst=some d->d<nt∧eI an lo tm d=some v)∧
  (∀t,(∀y∈l,y.o.dst=some t->Xj l y x->eI an sy tm' t=eI an lo tm t)∧((∀y∈l,y.o.dst=some t->¬Xj l y x)->eI an sy tm' t=E0 t))
 bB:∀i b,B i b->b<S.nx∧s0.nx<=b
 bI:∀i j b,B i b->B j b->i=j
 dX:∀y∈l,D y.i->X y
 md:∀y∈l,D y.i->∀d,y.o.dst=some d->∃v u,eI an lo tm d=some v∧a.tmps[d]? =some u∧bN ρ v u
 m0:∀t,(∀y∈l,D y.i->y.o.dst≠some t)->a.tmps[t]? =a0.tmps[t]?
 e0:∀t v,E0 t=some v->∃u,a0.tmps[t]? =some u∧bN ρ v u
 rel:Rel P ρ S w
 Zd:je qA s0 w0 ρ S w
 df:a.defers=a0.defers
 sz:nt<=a.tmps.size
variable {E0:Nat->bQ} {qA:Ren} {w0:World} {a0:Act} {D:Nat->Prop} {B:Nat->Nat->Prop} {cs:List BI} {S:AS} {a:Act}
def St.grow {x:gw} (hD:qY P an all l I) (hW:RM all l) (h:St P an nt all l E0 qA s0 w0 a0 (Xs l n x.i) D B ρ cs lo tm S a w) (hx:x∈l) (zN:Di x.r=false) (hn:Is l x=n) {kh:Lo} {eP:T Value} {S1:AS} {qL:List BI} {B1:Nat->Nat->Prop} (Bp:∀t,eI an kh eP t=if x.o.dst=some t then some v else eI an lo tm t) (zM:∀t v,eP.get t=some v->kept an t=true) (hnt:∀d,x.o.dst=some d->d<nt) (C8:QU P an all l ρ B1 qL S1 x lo tm v) (qg:∀c∈cs,c∈qL) (hBB:∀i b,B i b->B1 i b) (hB1:∀i b,B1 i b->b<S1.nx∧s0.nx<=b) (hB2:∀i j b,B1 i b->B1 j b->i=j) (IT:S.nx<=S1.nx) (hh:∀b,b<S.nx->S1.h.get b=S.h.get b) (hrel:Rel P ρ S1 w) (I0:je qA s0 w0 ρ S1 w):St P an nt all l E0 qA s0 w0 a0 (Xs l n (x.i+1)) D B1 ρ qL kh eP S1 a w:=by
 have hX:∀y,Xs l n x.i y->Xs l n (x.i+1) y:= λy hy=>hy.imp id λ⟨h1,h2,h3⟩=>⟨h1,h2,by omega⟩
 have hXx:Xs l n (x.i+1) x:= .inr ⟨hn,zN,by omega⟩;have hnX:¬Xs l n x.i x:=by rintro(h|⟨_,_,h⟩)<;>omega
 have Vi:¬D x.i:= λhd=>hnX (h.dX x hx hd);have hXb:∀y,Xs l n x.i y->Xj l y x:= λy hy=>by
  rcases hy with hy|⟨h1,h2,h3⟩
  ·left;omega
  ·right;exact⟨by omega,h2,.inr h3⟩
 have other:∀y∈l,y≠x->∀d,y.o.dst=some d->x.o.dst≠some d:= λy hy ed d hd=>hW.dst hx hy (λe=>ed (hD.inj hy hx e.symm)) hd;have td:∀y∈l,y≠x->∀d,y.o.dst=some d->eI an kh eP d=eI an lo tm d:= λy hy ed d hd=>by rw[Bp,aC (other y hy ed d hd)]
 refine⟨zM,λt ht=>?_,λy hy QV RN vr=>?_,hB1,hB2,λy hy hd=>hX y (h.dX y hy hd),λy hy hd d awn=>?_,h.m0,h.e0,hrel,I0,h.df,h.sz⟩
 ·rw[Bp,aC (ht x hx hXx)];exact h.Rj t λy hy QV=>ht y hy (hX y QV)
 ·by_cases e:y=x
  ·subst e;refine⟨lo,tm,v,C8,λd hd=>⟨hnt d hd,by rw[Bp,aU hd]⟩,λt=>⟨λz hz hdz hb=>?_,λhb=>?_⟩⟩
   ·exact(td z hz (λe=>by subst e;exact Tr hb) t hdz).symm
   ·exact h.Rj t λz hz hXz hdz=>hb z hz hdz (hXb z hXz)
  ·have ZA:Xs l n x.i y:=by
    rcases QV with h|⟨h1,h2,h3⟩
    ·exact .inl h
    ·refine .inr ⟨h1,h2,?_⟩;have:y.i≠x.i:= λe'=>e (hD.inj hy hx e');omega
   obtain⟨sy,tm',v',r1,r2,r3⟩:=h.rcd y hy ZA RN vr;refine⟨sy,tm',v',r1.mono (hBB y.i) qg (λb hb cS hr=>⟨by omega,hr,.inl (hh b cS)⟩),λd hd=>⟨(r2 d hd).1,by rw[td y hy e d hd];exact(r2 d hd).2⟩,λt=>⟨λz hz hdz hb=>?_,(r3 t).2⟩⟩;rw[(r3 t).1 z hz hdz hb];refine(td z hz (λe'=>?_) t hdz).symm;subst e';exact OU (hXb y ZA) hb
 ·rw[td y hy (λe=>by subst e;exact Vi hd) d awn];exact h.md y hy hd d awn
def St.use {X:gw->Prop} (hD:qY P an all l I) (hW:RM all l) (h:St P an nt all l E0 qA s0 w0 a0 X D B ρ cs lo tm S a w) (xK:∀y∈l,D y.i->∀j,eF y.m j=true->D j) {x:gw} (hx:x∈l) (Vi:¬D x.i) (EL:∀j,eF x.m j=true->D j)
  {sy:Lo} {tm':T Value} (ht:∀t,(∀y∈l,y.o.dst=some t->Xj l y x->eI an sy tm' t=eI an lo tm t)∧((∀y∈l,y.o.dst=some t->¬Xj l y x)->eI an sy tm' t=E0 t))
  {t:Nat} (hu:t∈qk all.toList x.o) {v:Value} (hv:eI an sy tm' t=some v):bN ρ v (a.eval (.tmp t)):=by
 have base:(∀y∈l,y.o.dst=some t->¬Xj l y x)->(∀y∈l,D y.i->y.o.dst≠some t)->bN ρ v (a.eval (.tmp t)):= λh1 h2=>by rw[(ht t).2 h1]at hv;obtain⟨u,zI,hr⟩:=h.e0 t v hv;rw[<-h.m0 t h2]at zI;rw[mF zI];exact hr
 by_cases hex:∃y∈l,y.o.dst=some t
 ·obtain⟨y,hy,xc⟩:=hex;obtain⟨ed,h1,h2⟩:=hW.use hx hy xc hu;have uniq:∀z∈l,z.o.dst=some t->z=y:= λz hz hzd=>by
   by_cases e:z.i=y.i
   ·exact hD.inj hz hy e
   ·exact(hW.dst hz hy e xc hzd).elim
  rcases zU ed with cS|cS
  ·have hb:=h2 cS;have vr:¬D y.i:= λhd=>Vi (xK y hy hd _ hb);refine base (λz hz hzd=>?_) (λz hz hzD hzd=>?_)
   ·rw[uniq z hz hzd];exact OU (Cd hD hy hx hb)
   ·rw[uniq z hz hzd]at hzD;exact vr hzD
  ·have hb:=h1 cS;have vr:=EL _ hb;rw[(ht t).1 y hy xc (Cd hD hx hy hb)]at hv;obtain⟨v',u,e1,e2,e3⟩:=h.md y hy vr t xc;rw[hv]at e1;cases e1;rw[mF e2];exact e3
 ·exact base (λz hz hzd=>(hex ⟨z,hz,hzd⟩).elim) (λz hz _ hzd=>hex ⟨z,hz,hzd⟩)
def agw {o:Oper} (h:Operand.tmp t∈o.op.operands):t∈qk all.toList o:=by unfold qk;rw[mW,xg];exact .inl (List.mem_filterMap.2 ⟨.tmp t,by simpa using h,rfl⟩)
def HF {o o':Oper} {want:Bool} (hg:o.guard=some (j,want)) (hj:all[j]? =some o') (hd:o'.dst=some t):t∈qk all.toList o:=by
 unfold qk;rw[mW,xg];right;rw[hg];have:all.toList[j]? =some o':=by simpa using hj
 simp[this,hd]
def Ke {o:Oper} {sy:Lo} (h:∀t∈qk all.toList o,∀v,eI an sy tm' t=some v->bN ρ v (a.eval (.tmp t))):qp ρ an [] sy tm' a.eval o.op.operands:=by
 intro x f v hx hm hv;cases x with
 |tmp t=>rw[GU hm]at hv;exact h t (agw hx) v hv
 |const c=>
  have zJ:(match vZ c with|some v=>some (bq v)|none=>some (λ_ _=>none))=some f:=hm;split at zJ
  ·rename_i hc;cases zJ;cases hv;exact yP hc
  ·cases zJ;cases hv
 |global g=>cases hm;cases hv;exact .EJ g 0
 |func g=>cases hm;cases hv;exact .func g .nil .nil
def St.real {X:gw->Prop} (hD:qY P an all l I) (hW:RM all l) (h:St P an nt all l E0 qA s0 w0 a0 X D B ρ cs lo tm S a w) {x:gw} (hx:x∈l) (hX:X x) (hd:∀d,x.o.dst=some d->d<nt∧eI an lo tm d=some v) {w1:World} (hv:bN ρ' v u) (hle:gq ρ ρ') (hrel:Rel P ρ' S w1) (I0:je qA s0 w0 ρ' S w1) (hB:∀j b,B j b->j≠x.i->ρ b=none->ρ' b=none):
  St P an nt all l E0 qA s0 w0 a0 X (λi=>D i∨i=x.i) B ρ' cs lo tm S (a.put x.o.dst u) w1:=by
 refine⟨h.tk,h.Rj,λy hy QV RN vr=>?_,h.bB,h.bI,λy hy Ir=>?_,λy hy vr d xc=>?_,λt ht=>?_,λt v ht=>?_,hrel,I0,by rw[jA];exact h.df,?_⟩
 ·obtain⟨sy,tm',v',r1,r2,r3⟩:=h.rcd y hy QV RN (λe=>vr (.inl e));exact⟨sy,tm',v',r1.mono (λ_ h=>h) (λ_ h=>h) (λb hb cS hr=>⟨cS,hB y.i b hb (λe=>vr (.inr e)) hr,.inl rfl⟩),r2,r3⟩
 ·rcases Ir with Ir|Ir
  ·exact h.dX y hy Ir
  ·rw[hD.inj hy hx Ir];exact hX
 ·by_cases e:y=x
  ·subst e;obtain⟨h1,h2⟩:=hd d xc;refine⟨v,u,h2,?_,hv⟩;rw[xc];exact iG (bC h1 h.sz)
  ·have anS:D y.i:=vr.resolve_right λe'=>e (hD.inj hy hx e');obtain⟨v',u',e1,e2,e3⟩:=h.md y hy anS d xc;refine⟨v',u',e1,?_,e3.mono hle⟩;cases Ve:x.o.dst with
   |none=>exact e2
   |some dx=>
    have ed:d≠dx:= λe'=>by subst e';exact hW.dst hx hy (λe'=>e (hD.inj hy hx e'.symm)) xc Ve
    rw[gn ed];exact e2
 ·have xu:=ht x hx (.inr rfl);have:=h.m0 t λy hy vr=>ht y hy (.inl vr);rw[<-this];cases Ve:x.o.dst with
  |none=>rfl
  |some dx=>exact gn λe=>xu (by rw[Ve,e])
 ·obtain⟨u',h1,h2⟩:=h.e0 t v ht;exact⟨u',h1,h2.mono hle⟩
 ·cases Ve:x.o.dst with
  |none=>exact h.sz
  |some dx=>simpa[Act.put]using h.sz
def St.wrote (hD:qY P an all l I) (hW:RM all l) (h:St P an nt all l E0 qA s0 w0 a0 (Xs l n l.length) D B ρ cs lo tm S a w) {x:gw} (hx:x∈l) (zN:Di x.r=true) (hn:Is l x=n) (aaF:∀y∈l,Di y.r=true->Is l y=n->y=x) {kh:Lo} {eP:T Value} {S1:AS} {w1:World} (Bp:∀t,eI an kh eP t=if x.o.dst=some t then some v else eI an lo tm t) (zM:∀t v,eP.get t=some v->kept an t=true) (hnt:∀d,x.o.dst=some d->d<nt) (hv:bN ρ' v u) (hrel:Rel P ρ' S1 w1) (I0:je ρ S w ρ' S1 w1):
  St P an nt all l E0 qA s0 w0 a0 (Xs l (n+1) 0) (λi=>D i∨i=x.i) B ρ' cs kh eP S1 (a.put x.o.dst u) w1:=by
 have hle:=I0.le h.rel;have hX:∀y∈l,Xs l (n+1) 0 y->Xs l n l.length y∨y=x:= λy hy QV=>by
  rcases QV with QV|⟨_,_,h3⟩
  ·rcases OL (Nat.le_of_lt_succ QV)with h'|h'
   ·exact .inl (.inl h')
   ·cases hw:Di y.r with
    |true=>exact .inr (aaF y hy hw h')
    |false=>exact .inl (.inr ⟨h',hw,(List.getElem?_eq_some_iff.1 (hD.mem hy)).1⟩)
  ·omega
 have hX':∀y,Xs l n l.length y->Xs l (n+1) 0 y:= λy hy=> .inl (by rcases hy with h'|⟨h',_,_⟩<;>omega);have hXx:Xs l (n+1) 0 x:= .inl (by omega);have hnX:¬Xs l n l.length x:=by
  rintro(h'|⟨_,h',_⟩)
  ·omega
  ·rw[zN]at h';cases h'
 have other:∀y∈l,y≠x->∀d,y.o.dst=some d->x.o.dst≠some d:= λy hy ed d hd=>hW.dst hx hy (λe=>ed (hD.inj hy hx e.symm)) hd;have td:∀y∈l,y≠x->∀d,y.o.dst=some d->eI an kh eP d=eI an lo tm d:= λy hy ed d hd=>by rw[Bp,aC (other y hy ed d hd)]
 refine⟨zM,λt ht=>?_,λy hy QV RN vr=>?_,λi b hb=>⟨bC (h.bB i b hb).1 I0.nx,(h.bB i b hb).2⟩,h.bI,λy hy Ir=>?_,λy hy vr d xc=>?_,λt ht=>?_,λt v ht=>?_,hrel,h.Zd.trans I0,by rw[jA];exact h.df,?_⟩
 ·rw[Bp,aC (ht x hx hXx)];exact h.Rj t λy hy QV=>ht y hy (hX' y QV)
 ·have Vd:y≠x:= λe=>by rw[e,zN]at RN;cases RN
  have ZA:=(hX y hy QV).resolve_right Vd;obtain⟨sy,tm',v',r1,r2,r3⟩:=h.rcd y hy ZA RN (λe=>vr (.inl e));refine⟨sy,tm',v',r1.mono (λ_ h=>h) (λ_ h=>h) (λb hb cS hr=>⟨bC cS I0.nx,by rw[I0.Nq b cS];exact hr,I0.ph b cS hr⟩),λd hd=>⟨(r2 d hd).1,by rw[td y hy Vd d hd];exact(r2 d hd).2⟩,λt=>⟨λz hz hdz hb=>?_,(r3 t).2⟩⟩;rw[(r3 t).1 z hz hdz hb];refine(td z hz (λe'=>?_) t hdz).symm;subst e';rcases hb with hb|⟨_,hb,_⟩
  ·rcases ZA with h'|⟨h',_,_⟩<;>omega
  ·rw[zN]at hb;cases hb
 ·rcases Ir with Ir|Ir
  ·exact hX' y (h.dX y hy Ir)
  ·rw[hD.inj hy hx Ir];exact hXx
 ·by_cases e:y=x
  ·subst e;refine⟨v,u,by rw[Bp,aU xc],?_,hv⟩;rw[xc];exact iG (bC (hnt d xc) h.sz)
  ·have anS:D y.i:=vr.resolve_right λe'=>e (hD.inj hy hx e');obtain⟨v',u',e1,e2,e3⟩:=h.md y hy anS d xc;refine⟨v',u',by rw[td y hy e d xc];exact e1,?_,e3.mono hle⟩;cases Ve:x.o.dst with
   |none=>exact e2
   |some dx=>
    have ed:d≠dx:= λe'=>by subst e';exact other y hy e d xc Ve
    rw[gn ed];exact e2
 ·have xu:=ht x hx (.inr rfl);have:=h.m0 t λy hy vr=>ht y hy (.inl vr);rw[<-this];cases Ve:x.o.dst with
  |none=>rfl
  |some dx=>exact gn λe=>xu (by rw[Ve,e])
 ·obtain⟨u',h1,h2⟩:=h.e0 t v ht;exact⟨u',h1,h2.mono hle⟩
 ·cases Ve:x.o.dst with
  |none=>exact h.sz
  |some dx=>simpa[Act.put]using h.sz
end
end
section
def Rel.Mp {k:eX} (h:Rel P ρ s w) (hs:s.new k=some s'):Rel P ρ s' w:=by
 obtain⟨IT,hg⟩:=AS.ql hs;have qK:ρ s.nx=none:=h.uz _ (af _);have hof:∀ {a k x},s'.h.get a=some k->ρ a=some x->s.h.get a=some k:= λ {a k x} e e'=>by
  rw[hg]at e;by_cases ha:a=s.nx
  ·rw[ha,qK]at e';cases e'
  ·rw[aC ha]at e;exact e
 exact⟨λa ha=>h.uz a (by omega),λa ha=>by rw[hg,aC (by omega)];exact h.top a (by omega),λa k x e e'=>h.jI a k x (hof e e') e',by rw[AS.vM hs];have:=h.lim;omega,
  λa a' k k' x x' ed e1 e2 r1 r2 hb=>h.pc a a' k k' x x' ed (hof e1 r1) (hof e2 r2) r1 r2 hb,h.gl.of (af _) λb _ hn=>⟨rfl,λ⟨j,k,y,e1,e2,e3⟩=>hn ⟨j,k,y,hof e1 e2,e2,e3⟩⟩⟩
def je.Mp {qA:Ren} {w0:World} {k:eX} (hS:je qA s0 w0 ρ s w) (h:Rel P ρ s w) (hs:s.new k=some s'):je qA s0 w0 ρ s' w:=by
 obtain⟨IT,hg⟩:=AS.ql hs;have qK:ρ s.nx=none:=h.uz _ (af _);refine⟨hS.Nq,by have:=hS.nx;omega,hS.tape,hS.os,hS.out,hS.size,λb hb hn=>?_,λa ha hn=>?_,hS.lp,(AS.vM hs).trans hS.lim,λa ha=>by rw[AS.Mf hs h.lim a (by rw[hS.lim];exact ha),hS.low a ha],hS.Lh⟩
 ·obtain⟨h1,h2⟩:=hS.frame b hb hn;refine⟨h1,?_⟩;rintro⟨a,k',x,e,e',rfl⟩;rw[hg]at e;by_cases ha:a=s.nx
  ·rw[ha,qK]at e';cases e'
  ·rw[aC ha]at e;exact h2 ⟨a,k',x,e,e',rfl⟩
 ·rw[hg,aC (by have:=hS.nx;omega)];exact hS.ph a ha hn
def Rel.realize {k:eX} {x:Loc} (hr:Rel P ρ s w) (hb:b<s.nx) (qK:ρ b=none) (hk:s.h.get b=some k) (hx:x.b=w.heap.size) (eR:w'.heap.size=w.heap.size+1) (hold:∀b,b<w.heap.size->w'.heap[b]? =w.heap[b]?) (hbr:qX P (ρ.put b x) x w' k):Rel P (ρ.put b x) s w':=by
 have hle:gq ρ (ρ.put b x):=xV qK x;have fP:∀a,a≠b->(ρ.put b x) a=ρ a:= λa ha=>by unfold Ren.put;rw[aC ha]
 have qC:(ρ.put b x) b=some x:=by unfold Ren.put;rw[aU rfl]
 refine⟨λa ha=>by rw[fP a (by omega)];exact hr.uz a ha,hr.top,λa k' y e e'=>?_,hr.lim,λa a' k1 k2 x1 x2 ed e1 e2 r1 r2 EA=>?_,hr.gl.of (by omega) λc hc hn=>⟨hold c hc,λ⟨j,k',y,e1,e2,e3⟩=>?_⟩⟩
 rotate_right
 ·by_cases ha:j=b
  ·rw[ha,qC]at e2;cases e2;omega
  ·rw[fP j ha]at e2;exact hn ⟨j,k',y,e1,e2,e3⟩
 ·by_cases ha:a=b
  ·subst ha;rw[qC]at e';cases e';rw[hk]at e;cases e;exact⟨by omega,hbr⟩
  ·rw[fP a ha]at e';obtain⟨h1,h2⟩:=hr.jI a k' y e e';exact⟨by omega,(h2.congr (hold _ h1)).mono hle⟩
 ·by_cases ha:a=b
  ·rw[ha,qC]at r1;cases r1;have sT:a'≠b:= λe=>ed (ha.trans e.symm);rw[fP a' sT]at r2;have:=(hr.jI a' k2 x2 e2 r2).1;omega
  ·rw[fP a ha]at r1;by_cases sT:a'=b
   ·rw[sT,qC]at r2;cases r2;have:=(hr.jI a k1 x1 e1 r1).1;omega
   ·rw[fP a' sT]at r2;exact hr.pc a a' k1 k2 x1 x2 ed e1 e2 r1 r2 EA
def Rel.ac0 {x:Loc} (hr:Rel P ρ s w) (hb:b<s.nx) (qK:ρ b=none) (hk:s.h.get b=none) (eR:w'.heap.size=w.heap.size+1) (hold:∀b,b<w.heap.size->w'.heap[b]? =w.heap[b]?):Rel P (ρ.put b x) s w':=by
 have hle:gq ρ (ρ.put b x):=xV qK x;have fP:∀a,a≠b->(ρ.put b x) a=ρ a:= λa ha=>by unfold Ren.put;rw[aC ha]
 have ed:∀ {a k},s.h.get a=some k->a≠b:= λ {a k} e h=>by rw[h,hk]at e;cases e
 refine⟨λa ha=>by rw[fP a (by omega)];exact hr.uz a ha,hr.top,λa k' y e e'=>?_,hr.lim,λa a' k1 k2 x1 x2 so e1 e2 r1 r2 EA=>?_,hr.gl.of (by omega) λc hc hn=>⟨hold c hc,λ⟨j,k',y,e1,e2,e3⟩=>hn ⟨j,k',y,e1,by rw[fP j (ed e1)]at e2;exact e2,e3⟩⟩⟩
 ·rw[fP a (ed e)]at e';obtain⟨h1,h2⟩:=hr.jI a k' y e e';exact⟨by omega,(h2.congr (hold _ h1)).mono hle⟩
 ·rw[fP a (ed e1)]at r1;rw[fP a' (ed e2)]at r2;exact hr.pc a a' k1 k2 x1 x2 so e1 e2 r1 r2 EA
def je.realize {qA:Ren} {w0:World} {x:Loc} (hr:Rel P ρ s w) (hS:je qA s0 w0 ρ s w) (Vj:s0.nx<=b) (hx:x.b=w.heap.size) (eR:w'.heap.size=w.heap.size+1) (hold:∀b,b<w.heap.size->w'.heap[b]? =w.heap[b]?) (ht:w'.tape=w.tape) (ho:w'.os=w.os) (hu:w'.output=w.output):je qA s0 w0 (ρ.put b x) s w':=by
 have fP:∀a,a≠b->(ρ.put b x) a=ρ a:= λa ha=>by unfold Ren.put;rw[aC ha]
 have qC:(ρ.put b x) b=some x:=by unfold Ren.put;rw[aU rfl]
 refine⟨λa ha=>by rw[fP a (by omega)];exact hS.Nq a ha,hS.nx,by rw[ht,hS.tape],by rw[ho,hS.os],by rw[hu,hS.out],by have:=hS.size;omega,λc hc hn=>?_,hS.ph,λc r hc=>?_,hS.lim,hS.low,λa k y hl hn hk ug hy=>by have h1:=hS.Lh a k y hl hn hk ug hy;rw[<-h1];exact hold _ (hr.jI a k y (by rw[hS.low a hl];exact hk) (by rw[hS.Nq a hn];exact hy)).1⟩
 ·obtain⟨h1,h2⟩:=hS.frame c hc hn;have hcw:c<w.heap.size:=bC hc hS.size;refine⟨by rw[hold c hcw];exact h1,?_⟩;rintro⟨a,k',y,e,e',rfl⟩;by_cases ha:a=b
  ·rw[ha,qC]at e';cases e';omega
  ·rw[fP a ha]at e';exact h2 ⟨a,k',y,e,e',rfl⟩
 ·obtain⟨r',oK⟩:=hS.lp c r hc;exact⟨r',by rw[hold c (Array.getElem?_eq_some_iff.1 oK).1];exact oK⟩
section
variable {an nt:Nat} {all:Array Oper} {l:List gw} {I:gw->Prop} {E0:Nat->bQ} {qA:Ren} {w0:World} {a0:Act} {D:Nat->Prop} {B:Nat->Nat->Prop} {cs:List BI} {S:AS} {a:Act} {ev:Ev}
variable {x':cZ}
def yQ {o:Oper} {d:DI} {c c':CI} {al:List Oper} (h:lW an [] al o d c=some c'):(o.guard=none∧c'=c)∨∃j want g,o.guard=some (j,want)∧uH an [] al j=some g∧c'= .gd g want d c:=by
 unfold lW at h;split at h
 ·rename_i hg;cases h;exact .inl ⟨hg,rfl⟩
 ·rename_i j want hg;obtain⟨g,Ay,h⟩:=ak h;cases h;exact .inr ⟨j,want,g,hg,Ay,rfl⟩
def GV {o:Option Bool} {p q:Out} {x:cZ} (h:ifO o p q= .code x tm' s'):∃y,o=some y∧(if y=true then p else q)= .code x tm' s':=by
 cases o with
 |none=>cases h
 |some y=>exact⟨y,rfl,by cases y<;>exact h⟩
def Kf {x:gw} (Dm:(∃f,x.r= .p f)∨IQ P an [] x.o.op=some x.r) (zN:Di x.r=false) (hnr:∀f,x.r≠.r f) {d:DI} {k:K} (h:lP ev (EG x.r d) k lo tm S= .code x' tm' s'):
  ∃v S1,m9 d v k lo tm S1= .code x' tm' s'∧(∀(B1:Nat->Nat->Prop) cs,(∀s1k,S.new s1k=some S1->B1 x.i S.nx)->ρ S.nx=none->yV P l ρ B1 cs S1 x lo tm v)∧(S1=S∨∃k,S.new k=some S1):=by
 cases hr:x.r with
 |p f=>
  rw[hr]at h;have h':oR Out .no (λv=>m9 d v k lo tm S) (f lo tm S)= .code x' tm' s':=h;cases hv:f lo tm S with
  |none=>rw[hv]at h';cases h'
  |some v=>rw[hv]at h';exact⟨v,S,h',λB1 cs _ _=>by unfold yV;rw[hr];exact⟨S,hv⟩,.inl rfl⟩
 |r f=>exact(hnr f hr).elim
 |a f=>
  have eH:=Mk (Dm.resolve_left λ⟨f',e⟩=>by rw[hr]at e;cases e);rw[hr]at h eH;have h':oR Out .no (λp=>m9 d p.1 k lo tm p.2) (f lo tm S)= .code x' tm' s':=h;cases hv:f lo tm S with
  |none=>rw[hv]at h';cases h'
  |some r=>rw[hv]at h';obtain⟨b,hb,_⟩:=eH lo tm S r hv;obtain⟨v,S1⟩:=r;refine⟨v,S1,h',λB1 cs hB qK=>?_,.inr ⟨b,hb⟩⟩;unfold yV;rw[hr];have:=AS.ql hb;exact⟨S,S1,hv,hB b hb,by rw[this.1];exact D4 _,qK,.inl rfl⟩
 |w f=>rw[hr]at zN;cases zN
 |c f atz=>rw[hr]at zN;cases zN
def qY.look (hD:qY P an all l I) (x:gw) (hx:x∈l):(∃f,x.r= .p f)∨IQ P an [] x.o.op=some x.r:=by
 by_cases h:I x
 ·exact .inl (hD.ins x hx h)
 ·exact .inr (hD.rd x hx h)
structure Grow (l:List gw) (an:Nat) (ρ:Ren) (X:gw->Prop) (lo:Lo) (tm:T Value) (S:AS) (kh:Lo) (eP:T Value) (S1:AS):Prop where
 env:∀t,(∀y∈l,¬X y->y.o.dst≠some t)->eI an kh eP t=eI an lo tm t
 nx:S.nx<=S1.nx
 eb:∀b,b<S.nx->S1.h.get b=S.h.get b
 new:∀b,S.nx<=b->ρ b=none
def Grow.refl {X:gw->Prop} (h:Rel P ρ S w):Grow l an ρ X lo tm S lo tm S:=⟨λ_ _=>rfl,af _,λ_ _=>rfl,λb hb=>h.uz b hb⟩
def Grow.trans {X X1:gw->Prop} {kh lo2:Lo} {eP Fm:T Value} {S1 S2:AS} (h:Grow l an ρ X lo tm S kh eP S1) (h1:Grow l an ρ X1 kh eP S1 lo2 Fm S2) (hX:∀y,X y->X1 y):Grow l an ρ X lo tm S lo2 Fm S2:=
 ⟨λt ht=>by rw[h1.env t λy hy hn=>ht y hy λhx=>hn (hX y hx),h.env t ht],di h.nx h1.nx,λb hb=>by rw[h1.eb b (bC hb h.nx),h.eb b hb],h.new⟩
def agx {x:gw} (hD:qY P an all l I) (hW:RM all l) (h:St P an nt all l E0 qA s0 w0 a0 (Xs l n x.i) D B ρ cs lo tm S a w) (hx:x∈l) (zN:Di x.r=false) (hn:Is l x=n) {dr:DR} (wW:anH an nt all.toList (gm l) x=some dr) {k:KC} (hk:Oh ev dr k cs lo tm S= .code x' tm' s'):∃B1 qL kh eP S1,St P an nt all l E0 qA s0 w0 a0 (Xs l n (x.i+1)) D B1 ρ qL kh eP S1 a w∧Grow l an ρ (Xs l n x.i) lo tm S kh eP S1∧k qL kh eP S1= .code x' tm' s':=by
 obtain⟨d,hd,wW⟩:=ak wW;have fin:∀ {v:Value} {qL:List BI} {S1:AS},m9 d v (k qL) lo tm S1= .code x' tm' s'->(∀c∈cs,c∈qL)->(S1=S∨∃kb,S.new kb=some S1)->
   (∀(B1:Nat->Nat->Prop),(∀s1k,S.new s1k=some S1->B1 x.i S.nx)->ρ S.nx=none->QU P an all l ρ B1 qL S1 x lo tm v)->
   ∃B1 qL kh eP S1,St P an nt all l E0 qA s0 w0 a0 (Xs l n (x.i+1)) D B1 ρ qL kh eP S1 a w∧Grow l an ρ (Xs l n x.i) lo tm S kh eP S1∧k qL kh eP S1= .code x' tm' s':=by
  intro v qL S1 hp qg hS C8;obtain⟨kh,eP,vt,Bp,zM,hnt⟩:=OT hd h.tk hp;have qK:ρ S.nx=none:=h.rel.uz _ (af _);have hnX:¬Xs l n x.i x:=by rintro(h|⟨_,_,h⟩)<;>omega
  have awo:∀t,(∀y∈l,¬Xs l n x.i y->y.o.dst≠some t)->eI an kh eP t=eI an lo tm t:= λt ht=>by rw[Bp,aC (ht x hx hnX)]
  rcases hS with rfl|⟨kb,hkb⟩
  ·refine⟨B,qL,kh,eP,_,h.grow hD hW hx zN hn Bp zM hnt (C8 B (λs1k e=>?_) qK) qg (λ_ _ h=>h) h.bB h.bI (af _) (λ_ _=>rfl) h.rel h.Zd,⟨awo,af _,λ_ _=>rfl,λb hb=>h.rel.uz b hb⟩,vt⟩;have:=(AS.ql e).1;omega
  ·obtain⟨e1,e2⟩:=AS.ql hkb;refine⟨λi b=>B i b∨(i=x.i∧b=S.nx),qL,kh,eP,S1,h.grow hD hW hx zN hn Bp zM hnt (C8 _ (λ_ _=> .inr ⟨rfl,rfl⟩) qK) qg (λ_ _ h=> .inl h) (λi b hb=>?_) (λi j b hi hj=>?_) (by omega) (λb hb=>by rw[e2,aC (by omega)])
    (h.rel.Mp hkb) (h.Zd.Mp h.rel hkb),⟨awo,by omega,λb hb=>by rw[e2,aC (by omega)],λb hb=>h.rel.uz b hb⟩,vt⟩
   ·rcases hb with hb|⟨_,rfl⟩
    ·have:=h.bB i b hb;exact⟨by omega,this.2⟩
    ·exact⟨by omega,h.Zd.nx⟩
   ·rcases hi with hi|⟨hi,hb⟩<;>rcases hj with hj|⟨hj,iR⟩
    ·exact h.bI i j b hi hj
    ·have:=(h.bB i b hi).1;omega
    ·have:=(h.bB j b hj).1;omega
    ·omega
 have rd:∀ {f:VF} {hi:Nat},x.r= .r f->hi=lj x.i (gm l)->rdStep f d hi k cs lo tm S= .code x' tm' s'->(∀v (B1:Nat->Nat->Prop) qL,yV P l ρ B1 qL S x lo tm v->QU P an all l ρ B1 qL S x lo tm v)->
   ∃B1 qL kh eP S1,St P an nt all l E0 qA s0 w0 a0 (Xs l n (x.i+1)) D B1 ρ qL kh eP S1 a w∧Grow l an ρ (Xs l n x.i) lo tm S kh eP S1∧k qL kh eP S1= .code x' tm' s':=by
  intro f hi hr hhi fU hup;have wT:Option.rec (motive:= λ_=>Out) .no (λv=>m9 d v (k ((hi,λs'=>EH v (f lo tm s'))::cs)) lo tm S) (f lo tm S)= .code x' tm' s':=fU;cases hv:f lo tm S with
  |none=>rw[hv]at wT;cases wT
  |some v=>rw[hv]at wT;refine fin (v:=v) wT (λc hc=>by simp[hc]) (.inl rfl) (λB1 _ _=>hup v B1 _ ?_);unfold yV;rw[hr,hhi];simp
 have plain:(∀f,x.r≠.r f)->ob (lW an [] all.toList x.o d (EG x.r d)) (λc=>some (DR.pa c))=some dr->∃B1 qL kh eP S1,St P an nt all l E0 qA s0 w0 a0 (Xs l n (x.i+1)) D B1 ρ qL kh eP S1 a w∧Grow l an ρ (Xs l n x.i) lo tm S kh eP S1∧k qL kh eP S1= .code x' tm' s':=by
  intro hnr wW;obtain⟨c,hc,wW⟩:=ak wW;cases wW;have hk:lP ev c (k cs) lo tm S= .code x' tm' s':=hk;rcases yQ hc with ⟨hg,rfl⟩|⟨j,want,g,hg,Zc,rfl⟩
  ·obtain⟨v,S1,hp,C8,hS⟩:=Kf (l:=l) (ρ:=ρ) (hD.look x hx) zN hnr hk;exact fin hp (λ_ h=>h) hS (λB1 hB qK=>by unfold QU;rw[hg];exact C8 B1 cs hB qK)
  ·have oL:ifO (pJ want (g lo tm)) (lP ev (EG x.r d) (k cs) lo tm S) (m9 d (.tuple #[]) (k cs) lo tm S)= .code x' tm' s':=hk;obtain⟨y,hy,oL⟩:=GV oL;cases y with
   |true=>obtain⟨v,S1,hp,C8,hS⟩:=Kf (l:=l) (ρ:=ρ) (hD.look x hx) zN hnr oL;exact fin hp (λ_ h=>h) hS (λB1 hB qK=>by unfold QU;rw[hg];exact⟨g,true,Zc,hy,λ_=>C8 B1 cs hB qK,λe=>by cases e⟩)
   |false=>exact fin (S1:=S) oL (λ_ h=>h) (.inl rfl) (λB1 hB qK=>by unfold QU;rw[hg];exact⟨g,false,Zc,hy,λe=>(by cases e),λ_=>rfl⟩)
 cases hr:x.r with
 |r f=>
  rw[hr]at wW;simp only at wW;split at wW
  ·rename_i hg;rw[bD]at wW;cases wW;exact rd hr rfl hk (λv B1 qL h0=>by unfold QU;rw[hg];exact h0)
  ·rename_i j want hg;obtain⟨g,Zc,wW⟩:=ak wW;rw[bD]at wW;cases wW;have oL:ifO (pJ want (g lo tm)) (rdStep f d (lj x.i (gm l)) k cs lo tm S) (m9 d (.tuple #[]) (k cs) lo tm S)= .code x' tm' s':=hk;obtain⟨y,hy,oL⟩:=GV oL;cases y with
   |true=>exact rd hr rfl oL (λv B1 qL h0=>by unfold QU;rw[hg];exact⟨g,true,Zc,hy,λ_=>h0,λe=>by cases e⟩)
   |false=>exact fin (S1:=S) oL (λ_ h=>h) (.inl rfl) (λB1 hB qK=>by unfold QU;rw[hg];exact⟨g,false,Zc,hy,λe=>(by cases e),λ_=>rfl⟩)
 |p f=>exact plain (by rw[hr];intro f e;cases e) (by rw[hr]at wW⊢;exact wW)
 |a f=>exact plain (by rw[hr];intro f e;cases e) (by rw[hr]at wW⊢;exact wW)
 |w f=>rw[hr]at zN;cases zN
 |c f atz=>rw[hr]at zN;cases zN
def St.abF {X X':gw->Prop} (h:St P an nt all l E0 qA s0 w0 a0 X D B ρ cs lo tm S a w) (hX:∀y∈l,X y↔X' y):St P an nt all l E0 qA s0 w0 a0 X' D B ρ cs lo tm S a w:=
 ⟨h.tk,λt ht=>h.Rj t λy hy QV=>ht y hy ((hX y hy).1 QV),λx hx hXx=>h.rcd x hx ((hX x hx).2 hXx),h.bB,h.bI,λy hy hd=>(hX y hy).1 (h.dX y hy hd),h.md,h.m0,h.e0,h.rel,h.Zd,h.df,h.sz⟩
def BR {n:Nat} (hD:qY P an all l I) (hW:RM all l) {k:KC}:∀(l2:List gw) (m:Nat),l.drop m=l2->∀(dl:List DR),mE an nt all.toList (gm l) n l2=some dl->∀B cs lo tm S,St P an nt all l E0 qA s0 w0 a0 (Xs l n m) D B ρ cs lo tm S a w->
  tE ev dl k cs lo tm S= .code x' tm' s'->∃B1 qL kh eP S1,St P an nt all l E0 qA s0 w0 a0 (Xs l n l.length) D B1 ρ qL kh eP S1 a w∧Grow l an ρ (Xs l n m) lo tm S kh eP S1∧k qL kh eP S1= .code x' tm' s'
 | [],m,hm,dl,hdl,B,cs,lo,tm,S,h,hk=>by
  cases hdl;have hlen:l.length<=m:=by have:=congrArg List.length hm;simp at this;omega
  refine⟨B,cs,lo,tm,S,h.abF (λy hy=>?_),.refl h.rel,hk⟩;have:=(List.getElem?_eq_some_iff.1 (hD.mem hy)).1;unfold Xs;constructor
  ·rintro(h|⟨h1,h2,_⟩)
   ·exact .inl h
   ·exact .inr ⟨h1,h2,this⟩
  ·rintro(h|⟨h1,h2,_⟩)
   ·exact .inl h
   ·exact .inr ⟨h1,h2,by omega⟩
 |x::l2,m,hm,dl,hdl,B,cs,lo,tm,S,h,hk=>by
  have hxm:l[m]? =some x:=by have:=congrArg (·[0]?) hm;simpa using this
  have hx:x∈l:=cY hxm;have hi:x.i=m:=hD.at_ m x hxm;have zJ:l.drop (m+1)=l2:=by rw[<-fS,hm];rfl
  have xup:∀y,Xs l n m y->Xs l n (m+1) y:= λy hy=>hy.imp id λ⟨h1,h2,h3⟩=>⟨h1,h2,by omega⟩
  have skip:¬(Is l x=n∧Di x.r=false)->St P an nt all l E0 qA s0 w0 a0 (Xs l n (m+1)) D B ρ cs lo tm S a w:= λqK=>h.abF λy hy=>by
   unfold Xs;constructor
   ·rintro(h|⟨h1,h2,h3⟩)
    ·exact .inl h
    ·exact .inr ⟨h1,h2,by omega⟩
   ·rintro(h|⟨h1,h2,h3⟩)
    ·exact .inl h
    ·refine .inr ⟨h1,h2,?_⟩;have:y.i≠m:= λe=>by
      have:=hD.inj hy hx (by omega);subst this;exact qK ⟨h1,h2⟩
     omega
  have Gb:aD (Di x.r) (mE an nt all.toList (gm l) n l2) (aD (Nat.beq (level x.m (gm l)) n) (ob (anH an nt all.toList (gm l) x) λd=>ob (mE an nt all.toList (gm l) n l2) λr=>some (d::r)) (mE an nt all.toList (gm l) n l2))=some dl:=hdl;cases hw:Di x.r with
  |true=>rw[hw,aS]at Gb;obtain⟨B1,qL,kh,eP,S1,h1,g1,vt⟩:=BR hD hW l2 (m+1) zJ dl Gb B cs lo tm S (skip (λe=>by rw[hw]at e;cases e.2)) hk;exact⟨B1,qL,kh,eP,S1,h1,(Grow.refl h.rel).trans g1 xup,vt⟩
  |false=>
   rw[hw,de]at Gb;cases hb:Nat.beq (level x.m (gm l)) n with
   |false=>
    rw[hb,de]at Gb;have:=BR hD hW l2 (m+1) zJ dl Gb B cs lo tm S (skip (λe=>?_)) hk
    ·obtain⟨B1,qL,kh,eP,S1,h1,g1,vt⟩:=this;exact⟨B1,qL,kh,eP,S1,h1,(Grow.refl h.rel).trans g1 xup,vt⟩
    have:level x.m (gm l)=n:=e.1;rw[this,bj]at hb;cases hb
   |true=>rw[hb,aS]at Gb;obtain⟨dr,wW,Gb⟩:=ak Gb;obtain⟨r,hr,Gb⟩:=ak Gb;cases Gb;have oL:Oh ev dr (tE ev r k) cs lo tm S= .code x' tm' s':=hk;rw[<-hi]at h;obtain⟨B1,qL,kh,eP,S1,h1,g1,vt⟩:=agx hD hW h hx hw (au hb) wW oL;rw[hi]at h1 g1;obtain⟨B2,cs2,lo2,Fm,S2,h2,g2,uA⟩:=BR hD hW l2 (m+1) zJ r hr B1 qL kh eP S1 h1 vt;exact⟨B2,cs2,lo2,Fm,S2,h2,g1.trans g2 xup,uA⟩
def awp (P:Program) (an nt:Nat) (all:Array Oper) (l:List gw) (ev:Ev) (last:List DR) (kf:K) (todo:List gw) (c:Nat) (cs:List BI) (lo:Lo) (tm:T Value) (S:AS) (out:Out):Prop:=
 match todo with
 | []=>kf lo tm S=out
 |x::rest=>∃d cw sts,Bv an nt x.o.dst=some d∧lW an [] all.toList x.o d (EG x.r d)=some cw∧GG an nt all.toList (gm l) l rest (c+1)=some sts∧lP ev cw (j4 ev sts last kf (c+1) cs) lo tm S=out
def Kg {c:Nat} {k:KC} {out:cZ×T Value×AS} (h:rI c k cs lo tm S= .code out.1 out.2.1 out.2.2):mc c S cs=true∧k cs lo tm S= .code out.1 out.2.1 out.2.2:=by
 have h:aD (mc c S cs) (k cs lo tm S) .no= .code out.1 out.2.1 out.2.2:=h;cases hc:mc c S cs with
 |false=>rw[hc]at h;cases h
 |true=>rw[hc]at h;exact⟨rfl,h⟩
def Kh {c:Nat} {kf:K} (hD:qY P an all l I) (hW:RM all l) {todo:List gw} {sts:List zY} {last:List DR} (fU:GG an nt all.toList (gm l) l todo c=some sts) (Bz:mE an nt all.toList (gm l) (gm l).length l=some last) (hc:c+todo.length=(gm l).length) (h:St P an nt all l E0 qA s0 w0 a0 (Xs l c 0) D B ρ cs lo tm S a w) (hk:j4 ev sts last kf c cs lo tm S= .code x' tm' s'):
  ∃B1 qL kh eP S1,St P an nt all l E0 qA s0 w0 a0 (Xs l c l.length) D B1 ρ qL kh eP S1 a w∧Grow l an ρ (Xs l c 0) lo tm S kh eP S1∧mc c S1 qL=true∧awp P an nt all l ev last kf todo c qL kh eP S1 (.code x' tm' s'):=by
 cases todo with
 |nil=>
  cases fU;have hc:c=(gm l).length:=by simpa using hc
  have oL:tE ev last (rI c λ_=>kf) cs lo tm S= .code x' tm' s':=hk;rw[<-hc]at Bz;obtain⟨B1,qL,kh,eP,S1,h1,g1,vt⟩:=BR hD hW l 0 (by simp) last Bz B cs lo tm S h oL;obtain⟨e1,e2⟩:=Kg (out:=(x',tm',s')) vt;exact⟨B1,qL,kh,eP,S1,h1,g1,e1,e2⟩
 |cons x rest=>have wT:ob (mE an nt all.toList (gm l) c l) (λpre=>ob (Bv an nt x.o.dst) λd=>ob (lW an [] all.toList x.o d (EG x.r d)) λcw=>cG (Nat.succ c) λn=>ob (GG an nt all.toList (gm l) l rest n) λr=>some (⟨pre,cw⟩::r))=some sts:=fU;obtain⟨pre,EL,wT⟩:=ak wT;obtain⟨d,hd,wT⟩:=ak wT;obtain⟨cw,hcw,wT⟩:=ak wT;rw[bD]at wT;obtain⟨r,hr,wT⟩:=ak wT;cases wT;have oL:tE ev pre (rI c λcs=>lP ev cw (j4 ev r last kf (c+1) cs)) cs lo tm S= .code x' tm' s':=hk;obtain⟨B1,qL,kh,eP,S1,h1,g1,vt⟩:=BR hD hW l 0 (by simp) pre EL B cs lo tm S h oL;obtain⟨e1,e2⟩:=Kg (out:=(x',tm',s')) vt;exact⟨B1,qL,kh,eP,S1,h1,g1,e1,d,cw,r,hd,hcw,hr,e2⟩
end
end
def jF {a b:Bool} (h:aD a b false=true):a=true∧b=true:=by
 cases a with
 |true=>exact⟨rfl,h⟩
 |false=>cases h
def JE {a b:Addr} (h:nZ a b=true):a=b:=by
 unfold nZ at h;split at h
 ·rename_i h1 h2;rw[bW]at h;split at h
  ·rename_i hb;obtain⟨b1,o1,s1⟩:=a;obtain⟨b2,o2,s2⟩:=b;simp only at h1 h2 hb h;subst h1;subst h2;rw[au hb,au h]
  ·cases h
 ·cases h
def yR {a b:Option Addr} (h:uI a b=true):a=b:=by
 unfold uI at h;split at h
 ·rfl
 ·rw[JE h]
 ·cases h
def II {a b:Option Nat} (h:B8 a b=true):a=b:=by
 unfold B8 at h;split at h
 ·rfl
 ·rw[au h]
 ·cases h
def M9 {a b:Fn} (h:xQ a b=true):a=b:=by
 unfold xQ at h;split at h
 ·rw[au h]
 ·rw[au h]
 ·cases h
def pz {f:Value->Value->Bool} (hf:∀x y,f x y=true->x=y):∀a b:LVal,vh f a b=true->a=b
 | [],[],_=>rfl
 | [],_::_,h=>by cases h
 |_::_,[],h=>by cases h
 |x::a,y::b,h=>by
  have h:aD (f x y) (vh f a b) false=true:=h;cases hx:f x y with
  |false=>rw[hx]at h;cases h
  |true=>rw[hx]at h;rw[hf x y hx,pz hf a b h]
def FL {a b:Array Value} (h:a.toList=b.toList):a=b:=eh h
def uT:∀(n:Nat) (v u:Value),qQ n v u=true->v=u
 |0,_,_,h=>by cases h
 |n+1,v,u,h=>by
  have ih:=uT n;have h:(match(generalizing:=false) v,u with
   | .bool a,.bool b=>aD a b (lF b)
   | .int k a,.int k' b=>aD (tz k k') (FY a b) false
   | .string a,.string b=>NY a.data.toList b.data.toList
   | .pointer a,.pointer b=>uI a b
   | .slice a n c,.slice b m d=>aD (uI a b) (aD (Nat.beq n m) (Nat.beq c d) false) false
   | .map a,.map b=>B8 a b
   | .func f a b,.func g c d=>aD (xQ f g) (aD (vh (qQ n) a.toList c.toList) (vh (qQ n) b.toList d.toList) false) false
   | .nilFunc,.nilFunc=>true
   | .nilIface,.nilIface=>true
   | .iface t a,.iface u b=>aD (Nat.beq t u) (qQ n a b) false
   | .agg a,.agg b=>vh (qQ n) a.toList b.toList
   | .tuple a,.tuple b=>vh (qQ n) a.toList b.toList
   |_,_=>false)=true:=h
  rename_i hold;clear hold;split at h
  ·rename_i a b;cases a<;>cases b<;>first|rfl|(exact(Bool.noConfusion h))
  ·obtain⟨h1,h2⟩:=jF h;rw[oH]at h2;rw[tc.1 h1,sQ h2]
  ·rename_i a b;rw[tL]at h;obtain⟨a⟩:=a;obtain⟨b⟩:=b;have:a=b:=eh (eq_of_beq h);rw[this]
  ·rw[yR h]
  ·obtain⟨h1,h⟩:=jF h;obtain⟨h2,h3⟩:=jF h;rw[yR h1,au h2,au h3]
  ·rw[II h]
  ·obtain⟨h1,h⟩:=jF h;obtain⟨h2,h3⟩:=jF h;rw[M9 h1,FL (pz ih _ _ h2),FL (pz ih _ _ h3)]
  ·rfl
  ·rfl
  ·obtain⟨h1,h2⟩:=jF h;rw[au h1,ih _ _ h2]
  ·rw[FL (pz ih _ _ h)]
  ·rw[FL (pz ih _ _ h)]
  ·cases h
def HG {o:bQ} (h:EH v o=true):o=some v:=by
 cases o with
 |none=>cases h
 |some u=>rw[uT 12 v u h]
def E6 {n:Nat} {s:AS}:∀ {l:List BI},mc n s l=true->∀c∈l,n<=c.1->c.2 s=true
 | [],_,c,hc,_=>by simp at hc
 |c0::l,h,c,hc,hn=>by
  have h:aD (Nat.ble n c0.1) (aD (c0.2 s) (mc n s l) false) (mc n s l)=true:=h;rw[bW]at h;rcases List.mem_cons.1 hc with rfl|hc
  ·rw[aU (bg hn)]at h;exact(jF h).1
  ·refine E6 ?_ c hc hn;split at h
   ·exact(jF h).2
   ·exact h
section
variable {an nt:Nat} {all:Array Oper} {l:List gw} {I:gw->Prop} {E0:Nat->bQ} {qA:Ren} {w0:World} {a0:Act} {D:Nat->Prop} {B:Nat->Nat->Prop} {cs:List BI} {S:AS} {a:Act} {ev:Ev}
variable {x':cZ} {c:Nat}
structure Quiet (ρ:Ren) (w:World) (ρ':Ren) (w':World):Prop where
 eb:∀b,b<w.heap.size->w'.heap[b]? =w.heap[b]?
 size:w.heap.size<=w'.heap.size
 new:∀a y,ρ a=none->ρ' a=some y->w.heap.size<=y.b
def Quiet.refl (ρ:Ren) (w:World):Quiet ρ w ρ w:=⟨λ_ _=>rfl,af _,λa y e e'=>by rw[e]at e';cases e'⟩
def XQ {X:gw->Prop} (hD:qY P an all l I) (h:St P an nt all l E0 qA s0 w0 a0 X D B ρ cs lo tm S a w) (I1:mc c S cs=true) {x:gw} (hx:x∈l) (hI:¬I x) (hhi:c<=lj x.i (gm l)) {sy:Lo} (hr:yV P l ρ B cs S x sy tm' v) (tZ:qp ρ an [] sy tm' a.eval x.o.op.operands):
  ∃u ρ' w',(execOp a.eval x.o).run P w= .ok (.value u) w'∧bN ρ' v u∧gq ρ ρ'∧Rel P ρ' S w'∧je qA s0 w0 ρ' S w'∧(∀j b,B j b->j≠x.i->ρ b=none->ρ' b=none)∧Quiet ρ w ρ' w':=by
 have eH:=Mk (hD.rd x hx hI);unfold yV at hr;split at hr
 ·rename_i f hf;rw[hf]at eH;obtain⟨s,hv⟩:=hr;obtain⟨u,h1,h2⟩:=eH.2 ρ sy tm' s v w a.eval hv tZ;exact⟨u,ρ,w,h1,h2,.refl _,h.rel,h.Zd,λ_ _ _ _ e=>e,.refl _ _⟩
 ·rename_i f hf;rw[hf]at eH;have hv:=HG (E6 I1 _ hr hhi);obtain⟨u,h1,h2⟩:=eH ρ sy tm' S v w a.eval hv h.rel tZ;exact⟨u,ρ,w,h1,h2,.refl _,h.rel,h.Zd,λ_ _ _ _ e=>e,.refl _ _⟩
 ·rename_i f hf;rw[hf]at eH;obtain⟨s1,s1',hv,hB,cS,qK,hg⟩:=hr;obtain⟨k,hk,hm⟩:=eH sy tm' s1 _ hv;obtain⟨m,he,x0,u,w',e1,e2,e3,e4,e5,e6,e7,e8,e9⟩:=hm ρ w a.eval qK tZ;have hrel:Rel P (ρ.put s1.nx x0) S w':=by
   rcases hg with hg|hg
   ·have vi:S.h.get s1.nx=some k:=by rw[hg,(AS.ql hk).2,aU rfl]
    exact h.rel.realize cS qK vi e2 e3 e4 e9
   ·exact h.rel.ac0 cS qK hg e3 e4
  refine⟨u,ρ.put s1.nx x0,w',by rw[he];exact fx e1,e8,xV qK x0,hrel,h.Zd.realize h.rel (h.bB _ _ hB).2 e2 e3 e4 e5 e6 e7,λj b hb hj hn=>?_,e4,by omega,λa y h0 h1=>?_⟩
  rotate_left
  ·unfold Ren.put at h1;split at h1
   ·cases h1;omega
   ·rw[h0]at h1;cases h1
  unfold Ren.put;rw[aC (λe=>?_)]
  ·exact hn
  ·subst e;exact hj (h.bI _ _ _ hb hB)
 ·exact hr.elim
def ac1 (hF:rv F) (hD:qY P an all l I) (hW:RM all l) (h:St P an nt all l E0 qA s0 w0 a0 (Xs l c l.length) D B ρ cs lo tm S a w) (I1:mc c S cs=true) (xK:∀y∈l,D y.i->∀j,eF y.m j=true->D j) {x:gw} (hx:x∈l) (hI:¬I x) (zN:Di x.r=false) (hxX:Xs l c l.length x) (Vi:¬D x.i) (EL:∀j,eF x.m j=true->D j) (hhi:c<=lj x.i (gm l)) {Q:Exit->Act->World->Prop} {N:Act->World->Prop} (hN:∀ρ' a' w',St P an nt all l E0 qA s0 w0 a0 (Xs l c l.length) (λi=>D i∨i=x.i) B ρ' cs lo tm S a' w'->gq ρ ρ'->Quiet ρ w ρ' w'->N a' w'):wpOpIn F 0 P all Q x.i N a w:=by
 obtain⟨sy,tm',v,C8,hd,ht⟩:=h.rcd x hx hxX zN Vi;have ZB:∀t∈qk all.toList x.o,∀v,eI an sy tm' t=some v->bN ρ v (a.eval (.tmp t)):= λt hu v hv=>h.use hD hW xK hx Vi EL ht hu hv;have tZ:=Ke ZB;have hdf:∀c,x.o.op≠.defer c:= λc e=>by have:=hD.rd x hx hI;rw[e]at this;cases this
 unfold wpOpIn;rw[hD.op x hx];simp only;have Wz:yV P l ρ B cs S x sy tm' v->x.o.wpIn F 0 P a w N Q:= λhr=>by obtain⟨u,ρ',w',h1,h2,h3,h4,h5,h6,h7⟩:=XQ hD h I1 hx hI hhi hr tZ;refine⟨λf _=>hF.fn f,?_⟩;rw[wZ _ _ _ hdf,h1];exact hN _ _ _ (h.real hD hW hx hxX hd h2 h3 h4 h5 h6) h3 h7
 unfold QU at C8;split at C8
 ·rename_i hg;have hw:Region.wanted x.o (yielded all a.tmps)=true:=by unfold Region.wanted;rw[hg]
  rw[aU hw];exact Wz C8
 ·rename_i j want hg;obtain⟨g,y,Zc,hy,h1,h2⟩:=C8;have hw:=GR (ρ:=ρ) (al:= []) (λd g v ⟨o',sU,Ir⟩ hm hv=>by
   rw[GU hm]at hv;exact ZB d (HF hg sU Ir) v hv) hg Zc hy
  cases y with
  |true=>rw[aU hw];exact Wz (h1 rfl)
  |false=>rw[aC (by rw[hw];simp)];refine⟨λf _=>hF.fn f,hN _ _ _ (h.real hD hW hx hxX hd (by rw[h2 rfl];exact .tuple .nil) (.refl _) h.rel h.Zd (λ_ _ _ _ e=>e)) (.refl _) (.refl _ _)⟩
def Dy {listed:Array Bool}:i∈Region.ready .any all listed↔i<all.size∧listed.getD i true=false∧∃o,all[i]? =some o∧∀e∈o.after.toList,Region.binds .any e=true->listed.getD e.on false=true:=by
 unfold Region.ready;rw[acF,List.mem_range,u9];refine and_congr Iff.rfl (and_congr (by simp) ?_);cases ho:all[i]? with
 |none=>simp
 |some o=>
  simp only[FX,gT,Array.all_eq_true'];constructor
  ·intro h;refine⟨o,rfl,λe he hb=>?_⟩;have:=h e (by simpa using he);simpa[hb]using this
  ·rintro⟨o',sU,h⟩ e he;cases sU;cases hb:Region.binds .any e with
   |false=>simp
   |true=>simpa using h e (by simpa using he) hb
def CN {listed:Array Bool} {i:Nat}:∀(r:List Nat),r.Nodup->i∈r->i<listed.size->listed.getD i true=false->
  (r.filter λj=>!(listed.setIfInBounds i true).getD j true).length+1=(r.filter λj=>!listed.getD j true).length
 | [],_,hi,_,_=>by simp at hi
 |j::r,hn,hi,cS,hf=>by
  rw[xh]at hn;have other:∀k,k≠i->(listed.setIfInBounds i true).getD k true=listed.getD k true:= λk hk=>by rw[bV,bV,eQ (jd hk)]
  by_cases e:j=i
  ·subst e;have h1:(listed.setIfInBounds j true).getD j true=true:=by
    rw[bV,IM cS];rfl
   rw[gU,gU,h1,hf];simp only[NB,cE,eG,sM,jQ,bU];congr 2;refine List.filter_congr λk hk=>?_;rw[other k (λe=>by subst e;exact hn.1 hk)]
  ·have pQ:i∈r:=(List.mem_cons.1 hi).resolve_left (jd e);have ih:=CN r hn.2 pQ cS hf;rw[gU,gU,other j e];split
   ·simp only[bU];omega
   ·exact ih
def St.ay0 {X:gw->Prop} (h:St P an nt all l E0 qA s0 w0 a0 X D B ρ cs lo tm S a w) (iO:∀y∈l,D y.i):js an nt ρ tm a:=by
 refine⟨h.sz,h.tk,λt v hv=>?_⟩;have hg:eI an lo tm t=some v:=by unfold eI;rw[h.tk t v hv];exact hv
 by_cases hex:∃y∈l,y.o.dst=some t
 ·obtain⟨y,hy,xc⟩:=hex;obtain⟨v',u,e1,e2,e3⟩:=h.md y hy (iO y hy) t xc;rw[hg]at e1;cases e1;exact⟨u,e2,e3⟩
 ·rw[h.Rj t λy hy _ xc=>hex ⟨y,hy,xc⟩]at hg;obtain⟨u,e1,e2⟩:=h.e0 t v hg;exact⟨u,by rw[h.m0 t λy hy _ xc=>hex ⟨y,hy,xc⟩];exact e1,e2⟩
def ac2 {kf:K} {J:(Nat->Prop)->Ren->AS->Lo->T Value->World->Prop} {Sp:gw->Prop} (hF:rv F) (j7:mj P ev) (hD:qY P an all l I) (hW:RM all l) {last:List DR} (Bz:mE an nt all.toList (gm l) (gm l).length l=some last) {Q:Exit->Act->World->Prop} (hQ:∀D B ρ cs lo tm S a w,(∀y∈l,D y.i)->St P an nt all l E0 qA s0 w0 a0 (Xs l (gm l).length l.length) D B ρ cs lo tm S a w->J D ρ S lo tm w->kf lo tm S= .code x' tm' s'->Q .normal a w) (hSp:∀x∈l,I x->Sp x) (hSw:∀x∈l,Sp x->Di x.r=false) (hJg:∀(D:Nat->Prop) (c:Nat) ρ S lo tm w kh eP S1,1<=c->(∀y∈l,D y.i->Xs l c 0 y)->J D ρ S lo tm w->Grow l an ρ (Xs l c 0) lo tm S kh eP S1->J D ρ S1 kh eP w) (hJr:∀(D:Nat->Prop) ρ S lo tm w x ρ' w',x∈l->¬Sp x->J D ρ S lo tm w->gq ρ ρ'->Quiet ρ w ρ' w'->J (λi=>D i∨i=x.i) ρ' S lo tm w') (hJs:∀(c:Nat) (D:Nat->Prop) B ρ cs lo tm S a w x (N:Act->World->Prop),x∈l->Sp x->¬D x.i->(∀j,eF x.m j=true->D j)->(∀y∈l,D y.i->∀j,eF y.m j=true->D j)->Xs l c l.length x->St P an nt all l E0 qA s0 w0 a0 (Xs l c l.length) D B ρ cs lo tm S a w->J D ρ S lo tm w->
   (∀ρ' a' w',St P an nt all l E0 qA s0 w0 a0 (Xs l c l.length) (λi=>D i∨i=x.i) B ρ' cs lo tm S a' w'->J (λi=>D i∨i=x.i) ρ' S lo tm w'->N a' w')->wpOpIn F 0 P all Q x.i N a w) (hJw:∀(c:Nat) (D:Nat->Prop) B ρ cs S lo tm a w x ρ' S1 kh eP w1 v,x∈l->Di x.r=true->¬D x.i->St P an nt all l E0 qA s0 w0 a0 (Xs l c l.length) D B ρ cs lo tm S a w->(∀t,x.o.dst=some t->¬ ∃y∈l,y≠x∧y.o.dst=some t)->Is l x=c->J D ρ S lo tm w->Rel P ρ' S1 w1->je ρ S w ρ' S1 w1->(∀t,eI an kh eP t=if x.o.dst=some t then some v else eI an lo tm t)->J (λi=>D i∨i=x.i) ρ' S1 kh eP w1):
  ∀(fuel:Nat) (listed:Array Bool) (D:Nat->Prop) (B:Nat->Nat->Prop) (ρ:Ren) (cs:List BI) (lo:Lo) (tm:T Value) (S:AS) (a:Act) (w:World) (done todo:List gw),
   listed.size=all.size->(∀i,D i↔listed.getD i false=true)->(∀y∈l,D y.i->∀j,eF y.m j=true->D j)->((List.range all.size).filter (λi=>!listed.getD i true)).length<=fuel->
   gm l=done++todo->(∀y∈done,D y.i)->(∀y∈todo,¬D y.i)->St P an nt all l E0 qA s0 w0 a0 (Xs l done.length l.length) D B ρ cs lo tm S a w->J D ρ S lo tm w->mc done.length S cs=true->
   awp P an nt all l ev last kf todo done.length cs lo tm S (.code x' tm' s')->wpAnyIn F 0 P .any all Q fuel listed a w:=by
 intro fuel;induction fuel with
 |zero=>
  intro listed D B ρ cs lo tm S a w done todo eR Vk xK ay1 me BB Gs h hJ I1 Et;have iO:∀i,i<all.size->listed.getD i true=true:= λi hi=>by
   cases hb:listed.getD i true with
   |true=>rfl
   |false=>have hm:i∈(List.range all.size).filter (λi=>!listed.getD i true):=List.mem_filter.2 ⟨List.mem_range.2 hi,by rw[hb];rfl⟩;have:=List.length_pos_of_mem hm;omega
  have hr:Region.ready .any all listed= []:=by rw[List.eq_nil_iff_forall_not_mem];intro i hi;obtain⟨h1,h2,_⟩:=Dy.1 hi;rw[iO i h1]at h2;cases h2
  refine⟨hr,?_⟩;have Gt:∀y∈l,D y.i:= λy hy=>by
   have cS:y.i<all.size:=by rw[<-hD.len];exact(List.getElem?_eq_some_iff.1 (hD.mem hy)).1
   have:=iO y.i cS;rw[Vk,bV];rw[bV]at this;rw[iU (by omega)]at this⊢;exact this
  have htn:todo= []:=by
   cases todo with
   |nil=>rfl
   |cons z rest=>exact(Gs z (by simp) (Gt z ((xX (l:=l)).1 (by rw[me];simp)).1)).elim
  subst htn;have hlen:done.length=(gm l).length:=by rw[me];simp
  rw[hlen]at h;exact hQ D B ρ cs lo tm S a w Gt h hJ Et
 |succ fuel ih=>
  intro listed D B ρ cs lo tm S a w done todo eR Vk xK ay1 me BB Gs h hJ I1 Et;refine⟨λhr=>?_,λi hi=>?_⟩
  ·
   have Gt:∀n,∀y∈l,y.i=n->D y.i:=by
    intro n;induction n using Nat.strongRecOn with
    |_ n ihn=>
     intro y hy hyn;by_cases hb:D y.i
     ·exact hb
     exfalso;have cS:y.i<all.size:=by rw[<-hD.len];exact(List.getElem?_eq_some_iff.1 (hD.mem hy)).1
     have qF:y.i∈Region.ready .any all listed:=Dy.2 ⟨cS,by
       have:¬listed.getD y.i false=true:= λe=>hb ((Vk _).2 e);rw[bV,iU (by omega)]at this⊢;simpa using this,y.o,hD.op y hy,λe he hbe=>by
       have aUt:=hD.below y hy _ (hD.dir y hy e he hbe);have Nr:e.on<l.length:=by have:=(List.getElem?_eq_some_iff.1 (hD.mem hy)).1;omega
       have hz:=hD.at_ e.on l[e.on] (by simp[Nr]);have:=ihn e.on (by omega) l[e.on] (by simp) hz;rw[hz]at this;exact(Vk _).1 this⟩
     rw[hr]at qF;cases qF
   have Gt:∀y∈l,D y.i:= λy hy=>Gt y.i y hy rfl;have htn:todo= []:=by
    cases todo with
    |nil=>rfl
    |cons z rest=>exact(Gs z (by simp) (Gt z ((xX (l:=l)).1 (by rw[me];simp)).1)).elim
   subst htn;have hlen:done.length=(gm l).length:=by rw[me];simp
   rw[hlen]at h;exact hQ D B ρ cs lo tm S a w Gt h hJ Et
  ·obtain⟨cS,hnl,o,ho,abG⟩:=Dy.1 hi;obtain⟨x,hx,rfl,rfl⟩:=hD.aIM ho;have anT:x.i<listed.size:=by omega
   have Vi:¬D x.i:= λe=>by have:=(Vk _).1 e;rw[bV,iU anT]at this hnl;simp only[gT]at this hnl;rw[hnl]at this;cases this
   have EL:∀j,eF x.m j=true->D j:= λj hj=>by
    obtain⟨e,he,hb,h1|⟨y,hy,hye,hyj⟩⟩:=hD.back x hx j hj
    ·rw[<-h1];exact(Vk _).2 (abG e he hb)
    ·exact xK y hy (by rw[hye];exact(Vk _).2 (abG e he hb)) j hyj
   have yU:(listed.setIfInBounds x.i true).size=all.size:=by simpa using eR
   have anU:∀i,(D i∨i=x.i)↔(listed.setIfInBounds x.i true).getD i false=true:= λi=>by
    rw[bV];by_cases e:i=x.i
    ·subst e;rw[IM anT];simp
    ·rw[eQ (jd e),<-bV,<-Vk];simp[e]
   have Sf:∀y∈l,(D y.i∨y.i=x.i)->∀j,eF y.m j=true->(D j∨j=x.i):= λy hy vr j hj=>by
    rcases vr with vr|vr
    ·exact .inl (xK y hy vr j hj)
    ·rw[hD.inj hy hx vr]at hj;exact .inl (EL j hj)
   have Sg:((List.range all.size).filter (λi=>!(listed.setIfInBounds x.i true).getD i true)).length<=fuel:=by have:=CN (listed:=listed) (i:=x.i) (List.range all.size) List.nodup_range (List.mem_range.2 cS) anT hnl;omega
   have akD:yL (λi=>listed.getD i false) (gm l)=done.length:=by
    rw[me,HD,Mo (λy hy=>(Vk _).1 (BB y hy)),GS (λy hy=>by
     cases hb:listed.getD y.i false with
     |false=>rfl
     |true=>exact(Gs y hy ((Vk _).2 hb)).elim),ji]
   have aIQ:Is l x<=done.length:=by unfold Is;rw[oT,<-akD];exact LQ λy _ hb=>(Vk _).1 (EL _ hb)
   cases zN:Di x.r with
   |false=>
    have hxX:Xs l done.length l.length x:=by
     rcases OL aIQ with h'|h'
     ·exact .inl h'
     ·exact .inr ⟨h',zN,(List.getElem?_eq_some_iff.1 (hD.mem hx)).1⟩
    have hhi:done.length<=lj x.i (gm l):=by
     rw[<-akD];refine OS λy hy vr=>?_;cases hb:eF y.m x.i with
     |false=>rfl
     |true=>exact(Vi (xK y (xX.1 hy).1 ((Vk _).2 vr) _ hb)).elim
    have htd:∀y∈todo,¬(D y.i∨y.i=x.i):= λy hy vr=>by
     rcases vr with vr|vr
     ·exact Gs y hy vr
     ·have RN:=(xX (l:=l)).1 (show y∈gm l by rw[me];simp[hy]);rw[hD.inj RN.1 hx vr,zN]at RN;cases RN.2
    by_cases Lu:Sp x
    ·exact hJs done.length D B ρ cs lo tm S a w x _ hx Lu Vi EL xK hxX h hJ λρ' a' w' h' hJ'=>ih _ _ B ρ' cs lo tm S a' w' done todo yU anU Sf Sg me (λy hy=> .inl (BB y hy)) htd h' hJ' I1 Et
    ·exact ac1 hF hD hW h I1 xK hx (λhi=>Lu (hSp x hx hi)) zN hxX Vi EL hhi λρ' a' w' h' hle hq=>ih _ _ B ρ' cs lo tm S a' w' done todo yU anU Sf Sg me (λy hy=> .inl (BB y hy)) htd h' (hJr D ρ S lo tm w x ρ' w' hx Lu hJ hle hq) I1 Et
   |true=>
    have hnI:¬I x:= λhi=>by have:=hSw x hx (hSp x hx hi);rw[zN]at this;cases this
    have anV:x∈gm l:=xX.2 ⟨hx,zN⟩;have abH:x∈todo:=by rw[me,xg]at anV;exact anV.resolve_left λe=>Vi (BB x e)
    have VM:=hW.sorted;rw[me,List.pairwise_append]at VM;obtain⟨dm,ee,gy⟩:=VM;cases todo with
    |nil=>cases abH
    |cons z rest=>
     have afL:z∈gm l:=by rw[me];simp
     have hzx:z=x:=by
      rcases List.mem_cons.1 abH with e|e
      ·exact e.symm
      ·rw[zV]at ee;have cS:=ee.1 x e;exact(Gs z (by simp) (EL _ (hW.chain z afL x anV cS))).elim
     subst hzx;have hn:Is l z=done.length:=by
      unfold Is;rw[oT,me,HD,Mo (λy hy=>hW.chain y (by rw[me];simp[hy]) z afL (gy y hy z (by simp))),GS (λy hy=>?_),ji];cases hb:eF z.m y.i with
      |false=>rfl
      |true=>
       have h1:=hD.below z hx _ hb;rw[zV]at ee;rcases List.mem_cons.1 hy with rfl|hy
       ·omega
       ·have:=ee.1 y hy;omega
     have aaF:∀y∈l,Di y.r=true->Is l y=done.length->y=z:= λy hy RN F1=>by
      have awq:=xX.2 ⟨hy,RN⟩;rcases Nat.lt_trichotomy y.i z.i with e|e|e
      ·rcases Cd hD hx hy (hW.chain y awq z afL e)with h'|⟨_,h',_⟩
       ·omega
       ·rw[RN]at h';cases h'
      ·exact hD.inj hy hx e
      ·rcases Cd hD hy hx (hW.chain z afL y awq e)with h'|⟨_,h',_⟩
       ·omega
       ·rw[zN]at h';cases h'
     obtain⟨d,cw,sts,hd,hcw,aIR,dK⟩:=Et;have ht:∀t,(∀y∈l,y.o.dst=some t->Xj l y z->eI an lo tm t=eI an lo tm t)∧((∀y∈l,y.o.dst=some t->¬Xj l y z)->eI an lo tm t=E0 t):= λt=>
      ⟨λ_ _ _ _=>rfl,λhb=>h.Rj t λy hy hyX xc=>hb y hy xc (by
       rcases hyX with h'|⟨h1,h2,_⟩
       ·left;omega
       ·right;exact⟨by omega,h2,.inl zN⟩)⟩
     have ZB:∀t∈qk all.toList z.o,∀v,eI an lo tm t=some v->bN ρ v (a.eval (.tmp t)):= λt hu v hv=>h.use hD hW xK hx Vi EL ht hu hv;have tZ:=Ke ZB;have next:∀ {ρ':Ren} {v u:Value} {s1:AS} {w1:World},m9 d v (j4 ev sts last kf (done.length+1) cs) lo tm s1= .code x' tm' s'->bN ρ' v u->Rel P ρ' s1 w1->je ρ S w ρ' s1 w1->
       wpAnyIn F 0 P .any all Q fuel (listed.setIfInBounds z.i true) (a.put z.o.dst u) w1:=by
      intro ρ' v u s1 w1 hp hv xa qz;obtain⟨kh,eP,vt,Bp,zM,hnt⟩:=OT hd h.tk hp;have h1:=h.wrote hD hW hx zN hn aaF Bp zM hnt hv xa qz;have hlen:done.length+1+rest.length=(gm l).length:=by rw[me];simp;omega
      obtain⟨B2,cs2,lo2,Fm,S2,h2,g2,ay2,apw⟩:=Kh hD hW aIR Bz hlen h1 vt;have hJ1:=hJw done.length D B ρ cs S lo tm a w z ρ' s1 kh eP w1 v hx zN Vi h (λt ht ⟨y,hy,ed,hyt⟩=>hW.dst hx hy (λe=>ed (hD.inj hy hx e.symm)) hyt ht) hn hJ xa qz Bp;have hJ2:=hJg _ _ _ _ _ _ _ _ _ _ (Nat.le_add_left _ _) h1.dX hJ1 g2;refine ih _ _ B2 ρ' cs2 lo2 Fm S2 _ w1 (done++ [z]) rest yU anU Sf Sg (by rw[me];simp) (λy hy=>?_) (λy hy vr=>?_) (by simpa using h2) hJ2 (by simpa using ay2) (by simpa using apw)
      ·rcases List.mem_append.1 hy with hy|hy
       ·exact .inl (BB y hy)
       ·simp only[zW]at hy;rw[hy];exact .inr rfl
      ·rcases vr with vr|vr
       ·exact Gs y (by simp[hy]) vr
       ·rw[zV]at ee;have:=ee.1 y hy;omega
     unfold wpOpIn;rw[hD.op z hx];simp only;rcases yQ hcw with ⟨hg,rfl⟩|⟨j,want,g,hg,Zc,rfl⟩
     ·have hw:Region.wanted z.o (yielded all a.tmps)=true:=by unfold Region.wanted;rw[hg]
      rw[aU hw];exact Se hF j7 (hD.rd z hx hnI) dK tZ h.rel next
     ·have Uv:ifO (pJ want (g lo tm)) (lP ev (EG z.r d) (j4 ev sts last kf (done.length+1) cs) lo tm S) (m9 d (.tuple #[]) (j4 ev sts last kf (done.length+1) cs) lo tm S)= .code x' tm' s':=dK;obtain⟨y,hy,Uv⟩:=GV Uv;have hw:=GR (ρ:=ρ) (al:= []) (λd g v ⟨o',sU,Ir⟩ hm hv=>by
       rw[GU hm]at hv;exact ZB d (HF hg sU Ir) v hv) hg Zc hy
      cases y with
      |true=>rw[aU hw];exact Se hF j7 (hD.rd z hx hnI) Uv tZ h.rel next
      |false=>rw[aC (by rw[hw];simp)];exact⟨λf _=>hF.fn f,next Uv (.tuple .nil) h.rel (.refl _ _ _)⟩
end
def agy {an nt id:Nat} {ops:Array Oper} {f:CF} (hm:P.follows .mixedOrders=true) (h:R8 P an nt ops.toList (λst last=>some (fe st last))=some f):pf P an nt (.region id ops true) f:=by
 have h:(ob (JW ops.toList []) λms=>ob (Zu P an ops.toList 0 ms) λl=>
  aD (y9 (gm l) none) (aD (BP ops.toList l)
   (ob (GG an nt ops.toList (gm l) l (gm l) 0) λst=>ob (mE an nt ops.toList (gm l) (len (gm l)) l) λlast=>some (fe st last)) none) none)=some f:=h
 obtain⟨ms,hms,h⟩:=ak h;obtain⟨l,hl,h⟩:=ak h;obtain⟨hch,h⟩:=aY h;obtain⟨hpa,h⟩:=aY h;obtain⟨st,fU,h⟩:=ak h;obtain⟨last,Bz,h⟩:=ak h;cases h;have hD:=agv hms hl;have hW:=apv hD hch hpa;rw[dQ]at Bz;intro ev j7 F hF ρ tm s a w x tm' s' hr hE n0 vX hM hL hR Q hQ;have hr:j4 ev st last tY 0 [] .nil tm s= .code x tm' s':=hr;refine wpIn_region_any hm ?_;have Dn:Rel P ρ s {w with drawn:=w.drawn+1}:=hR.of_heap rfl;have h0:St P an nt ops l (eI an .nil tm) ρ s w a (Xs l 0 0) (λ_=>False) (λ_ _=>False) ρ [] .nil tm s a {w with drawn:=w.drawn+1}:=by
  refine⟨hE.tk,λt _=>rfl,λy _ hX _ _=>?_,λ_ _ h=>h.elim,λ_ _ _ h=>h.elim,λ_ _ h=>h.elim,λ_ _ h=>h.elim,λ_ _=>rfl,λt v hv=>?_,Dn,.of_heap rfl rfl rfl rfl,rfl,hE.size⟩
  ·rcases hX with h|⟨_,_,h⟩<;>omega
  ·unfold eI at hv;rw[bW]at hv;split at hv
   ·exact hE.env t v hv
   ·cases hv
 obtain⟨B1,qL,kh,eP,S1,h1,_,I1,Et⟩:=Kh hD hW fU Bz (by simp) h0 hr;refine ac2 (J:= λ_ _ _ _ _ _=>True) (Sp:= λ_=>False) hF j7 hD hW Bz (λD B ρ cs lo tm S a w iO h _ hk=>?_) (λ_ _ h=>h) (λ_ _ h=>h.elim) (by intros;trivial) (by intros;trivial) (λ_ _ _ _ _ _ _ _ _ _ _ _ _ h=>h.elim) (by intros;trivial)
  ops.size (Array.replicate ops.size false) _ B1 ρ qL kh eP S1 a _ [] (gm l) (by simp) (λi=>?_) (λ_ _ h=>h.elim) ?_ rfl (λ_ h=>by cases h) (λ_ _ h=>h) h1 trivial I1 Et
 ·cases hk;exact hQ ρ a w (h.ay0 iO) (by rw[h.df];exact hM.step h.Zd) h.rel h.Zd
 ·rw[bV,Array.getElem?_replicate];constructor
  ·exactλh=>h.elim
  ·intro h;split at h<;>cases h
 ·exact di (List.length_filter_le _ _) (by simp)
def kz (P:Program):Prop:=∀(f:Nat) (fn:Func),P.funcs[f]? =some fn->(fn.name== "runtime.NumGoroutine")=false
def Rel.extend {o:Obj} (h:Rel P ρ s w) (hh:w'.heap=w.heap.push o):Rel P ρ s w':=
 ⟨h.uz,h.top,λa k x e e'=>let⟨h1,h2⟩:=h.jI a k x e e';⟨by rw[hh,xi];omega,h2.congr (by rw[hh,cU,aC (fK h1)])⟩,h.lim,h.pc,h.gl.of (by rw[hh,xi];omega) λb hb hn=>⟨by rw[hh,cU,aC (fK hb)],hn⟩⟩
def je.extend {o:Obj} (hr:Rel P ρ s w) (hh:w'.heap=w.heap.push o) (ht:w'.tape=w.tape) (ho:w'.os=w.os) (hu:w'.output=w.output):je ρ s w ρ s w':=
 ⟨λ_ _=>rfl,af _,ht,ho,hu,by rw[hh,xi];omega,λb hb h=>⟨by rw[hh,cU,aC (fK hb)],h⟩,λ_ _ _=> .inl rfl,
  λb r h=>⟨r,by rw[hh,cU,aC (fK (Array.getElem?_eq_some_iff.1 h).1)];exact h⟩,rfl,λ_ _=>rfl,λa k x _ _ hk _ hx=>by rw[hh,cU,aC (fK (hr.jI a k x hk hx).1)]⟩
def agz (h:Rel P ρ s w) (hb:xl ρ s b):b<w.heap.size:=by obtain⟨a,k,x,e,e',rfl⟩:=hb;exact(h.jI a k x e e').1
def Ol (fn:FuncId) (tmps:Array Value) (ps:List Tmp) (atz bd:Code) (r:Nat):Loop:={state:= .ready,pending:=none,fn,tmps,params:=ps.toArray,assign:=atz,body:=bd,defers:=r}
def OV {s1:AS} {w1:World} {an fn:Nat} {a:Act} {ps:List Tmp} {atz bd:Code} {fn':Nat} (hR:Rel P ρ s w) (hE:js an nt ρ tm a) (QQ:∀p∈ps,p<nt) (hs:s.new (.loop .ready none fn nt an tm ps atz bd)=some s1) (hh:w1.heap=w.heap.push (.loop (Ol fn' a.tmps ps atz bd r))) (ht:w1.tape=w.tape) (ho:w1.os=w.os) (hu:w1.output=w.output):Rel P (ρ.put s.nx ⟨w.heap.size,0,0,none⟩) s1 w1∧je ρ s w (ρ.put s.nx ⟨w.heap.size,0,0,none⟩) s1 w1:=by refine Rel.alloc hR hs rfl (by rw[hh,xi]) (λb hb=>by rw[hh,cU,aC (fK hb)]) ht ho hu ⟨a.tmps,fn',r,?_,hE.env.mono (xV (hR.uz _ (af _)) _),hE.tk,hE.size,QQ⟩;show w1.heap[w.heap.size]? =_;rw[hh,cU,aU rfl];rfl
def Na {s1:AS} {an fn:Nat} {n0:N0} {a:Act} {ps:Array Tmp} {atz bd:Code} {fn':FuncId} (hR:Rel P ρ s w) (hE:js an nt ρ tm a) (vX:n0.n<=w.heap.size) (hM:Marks n0 ρ s w a.defers) (hL:∀l,F.round=some l->∃r,w.heap[l]? =some (Obj.loop r)) (QQ:∀p∈ps.toList,p<nt) (hs:s.new (.loop .ready none fn nt an tm ps.toList atz bd)=some s1):
  ∃l mark w1 km,(Instr.enterLoop fn' a.tmps ps atz bd F.round).run P w= .ok (l,mark) w1∧km s.nx=some ⟨l,0,0,none⟩∧Rel P km s1 w1∧je ρ s w km s1 w1∧Marks n0 km s1 w1 (mark++a.defers):=by
 cases ug:F.round with
 |some l0=>
  obtain⟨r0,hr0⟩:=hL l0 ug;have dK:(Instr.enterLoop fn' a.tmps ps atz bd (some l0)).run P w= .ok (w.heap.size,[]) (w.alloc (.loop (Ol fn' a.tmps ps.toList atz bd r0.defers))):=by simp only[Instr.enterLoop,Instr.getLoop,aI,amr hr0,aj,aN,eZ];rfl
  obtain⟨h1,h2⟩:=OV (w1:=w.alloc (.loop (Ol fn' a.tmps ps.toList atz bd r0.defers))) hR hE QQ hs rfl rfl rfl rfl;exact⟨_,_,_,_,dK,iM _ _ _,h1,h2,by simpa using hM.step h2⟩
 |none=>
  let wA:=w.alloc (.deferred (some []))
  have hA:wA.heap=w.heap.push (.deferred (some [])):=rfl;have hRA:Rel P ρ s wA:=hR.extend hA;have hSA:je ρ s w ρ s wA:= .extend hR hA rfl rfl rfl;have dK:(Instr.enterLoop fn' a.tmps ps atz bd none).run P w= .ok (wA.heap.size,[{target:= .collected w.heap.size,args:= #[]}]) (wA.alloc (.loop (Ol fn' a.tmps ps.toList atz bd w.heap.size))):=by simp only[Instr.enterLoop,aI,aj,aN,eZ];rfl
  obtain⟨h1,h2⟩:=OV (w1:=wA.alloc (.loop (Ol fn' a.tmps ps.toList atz bd w.heap.size))) hRA hE QQ hs rfl rfl rfl rfl;have Aw:Marks n0 ρ s wA ([{target:= .collected w.heap.size,args:= #[]}]++a.defers):=by
   obtain⟨ms,he,Xg,hap⟩:=(hM.step hSA).own;obtain⟨ms',vW,aIS,_⟩:=hM.own;have hmm:ms=ms':=List.append_cancel_right (he.symm.trans vW);subst hmm;refine⟨{target:= .collected w.heap.size,args:= #[]}::ms,by rw[he];rfl,λd hd=>?_,?_⟩
   ·rcases List.mem_cons.1 hd with rfl|hd
    ·exact⟨w.heap.size,rfl,by rw[hA,cU,aU rfl],by rw[hA,xi];omega,λhh=>Nat.lt_irrefl _ (agz hR hh),vX⟩
    ·exact Xg d hd
   ·refine List.pairwise_cons.2 ⟨λd hd r hr oK=>?_,hap⟩;obtain⟨r1,e1,_,e3,_⟩:=aIS d hd;cases hr;rw[e1]at oK;injection oK with oK
    omega
  exact⟨_,_,_,_,dK,iM _ _ _,h1,hSA.trans h2,Aw.step h2⟩
def Nb (h:mO P v=true):∃f a b fn c,v= .func (.func f) a b∧P.funcs[f]? =some fn∧fn.body=some c:=by
 unfold mO at h;split at h
 ·rename_i f a b;split at h
  ·rename_i fn hf;split at h
   ·rename_i c hc;exact⟨f,a,b,fn,c,rfl,hf,hc⟩
   ·cases h
  ·cases h
 ·cases h
def tT (hP:kz P) {fn:Func} {c:Code} (hf:P.funcs[f]? =some fn) (hb:fn.body=some c) (args:Array Value) (w:World):(callFunc f args).run P w= .ok (.enter f args) w:=by unfold callFunc;have hpr:Sem.run P program w= .ok P w:=rfl;simp only[aI,hpr,aj,hf,hP f fn hf,cE,eG,hb,ja,aN]
def tv {b:Option eX} {k:LoopState->Option Code->Nat->Nat->Nat->T Value->List Tmp->Code->Code->Out} {o:Out} (h:oG b k=o) (ho:o≠.no):∃st pend fn nt kp tm ps atz bd,b=some (.loop st pend fn nt kp tm ps atz bd)∧k st pend fn nt kp tm ps atz bd=o:=by
 cases b with
 |none=>exact(ho h.symm).elim
 |some b=>cases b<;>first|exact(ho h.symm).elim|exact⟨_,_,_,_,_,_,_,_,_,rfl,h⟩
def yz {b:eX} {k:AS->Out} {o:Out} (h:ik s i b k=o) (ho:o≠.no):∃s',s.set i (some b)=some s'∧k s'=o:=by
 have h:oR Out .no k (s.set i (some b))=o:=h;cases hs:s.set i (some b)with
 |none=>rw[hs]at h;exact(ho h.symm).elim
 |some s'=>rw[hs]at h;exact⟨s',rfl,h⟩
def GW {l:Nat} {x:Loc} {st st':LoopState} {pend Eu:Option Code} {fn kp:Nat} {ps:List Tmp} {atz bd:Code} (hR:Rel P ρ s w) (hx:ρ l=some x) (hk:s.h.get l=some (.loop st pend fn nt kp tm ps atz bd)) (hs:s.set l (some (.loop st' Eu fn nt kp tm ps atz bd))=some s'):
  ∃r:Loop,w.heap[x.b]? =some (.loop r)∧r.state=st∧r.pending=pend∧r.params=ps.toArray∧r.assign=atz∧r.body=bd∧Bj ρ tm r.tmps∧(∀t v,tm.get t=some v->kept kp t=true)∧nt<=r.tmps.size∧(∀p∈ps,p<nt)∧
   Rel P ρ s' (w.putObj x.b (.loop {r with state:=st',pending:=Eu}))∧je ρ s w ρ s' (w.putObj x.b (.loop {r with state:=st',pending:=Eu})):=by
 obtain⟨cS,tmps,fn',d,hh,h1,h2,h3,h4⟩:=hR.jI l _ x hk hx;refine⟨_,hh,rfl,rfl,rfl,rfl,rfl,h1,h2,h3,h4,?_⟩;exact Rel.setObj hR hs hk rfl hx (λw' xb=>⟨tmps,fn',d,xb,h1,h2,h3,h4⟩) (λ_=>rfl)
def run_endLoop {l:Nat} {r:Loop} (h:w.heap[l]? =some (.loop r)) (hb:r.state≠.busy):(Instr.endLoop l).run P w= .ok r.pending (w.putObj l (.loop {r with state:= .exhausted})):=by
 have:(r.state== .busy)=false:=by cases hs:r.state<;>first|rfl|exact(hb hs).elim
 simp only[Instr.endLoop,Instr.getLoop,aI,amr h,aj,aN,this,cE,eG,ams _ h]
def Nc {an fn:Nat} (hP:kz P) {g:Operand} {fo:iD} {ps:Array Tmp} {atz bd:Code} (hg:jn an [] g=some fo) (QQ:∀p∈ps.toList,p<nt):
  pf P an nt (.rangeFunc g ps atz bd) (lJ P fn nt an fo ps.toList atz bd):= λev j7 F hF ρ tm s a w e tm' s' h hE n0 vX hM hL hR Q hQ=>by
 have h:oR Out .no (λfv=>aD (mO P fv) (oR Out .no
  (λs1=>oQ s.nx tm (ev fv [.func (.yield s.nx) #[] #[]] s1)) (s.new (.loop .ready none fn nt an tm ps.toList atz bd))) .no) (fo .nil tm)= .code e tm' s':=h
 cases hv:fo .nil tm with
 |none=>rw[hv]at h;cases h
 |some fv=>
  rw[hv]at h;have h:aD (mO P fv) (oR Out .no
   (λs1=>oQ s.nx tm (ev fv [.func (.yield s.nx) #[] #[]] s1)) (s.new (.loop .ready none fn nt an tm ps.toList atz bd))) .no= .code e tm' s':=h
  cases hb:mO P fv with
  |false=>rw[hb]at h;cases h
  |true=>
   rw[hb,aS]at h;obtain⟨fi,fa,fb,fnc,c,rfl,yM,ay3⟩:=Nb hb;cases hs:s.new (.loop .ready none fn nt an tm ps.toList atz bd)with
   |none=>rw[hs]at h;cases h
   |some s1=>
    rw[hs]at h;have h:oQ s.nx tm (ev (.func (.func fi) fa fb) [.func (.yield s.nx) #[] #[]] s1)= .code e tm' s':=h;cases ho:ev (.func (.func fi) fa fb) [.func (.yield s.nx) #[] #[]] s1 with
    |no=>rw[ho]at h;cases h
    |code=>rw[ho]at h;cases h
    |val v s2=>
     rw[ho]at h;have hfv:=hE.inv.ops (ops:= #[g]) _ _ _ (by simp) hg hv;generalize Vb:a.eval g=gv at hfv;cases hfv with| @func _ _ _ fa' fb' hfa hfb=>?_
     refine wpIn_rangeFunc (λfn' _=>?_);obtain⟨l,mark,w1,km,xn,hl,xa,qz,Aw⟩:=Na (F:=F) (fn':=fn') hR hE vX hM hL QQ hs;have awr:=qz.le hR;have ry:=j7 _ _ _ _ _ ho km w1 (.func (.func fi) fa' fb') [.func (.yield l) #[] #[]] xa (.func fi (hfa.mono awr) (hfb.mono awr)) (.cons (.yield (x:=⟨l,0,0,none⟩) hl .nil .nil) .nil);have dK:∀args,(invoke (.fn (.func fi) fb') args).run P w1= .ok (.enter fi (args++fb')) w1:= λargs=>tT hP yM ay3 _ w1;have hcr:(mX (.func (.func fi) fa' fb') [.func (.yield l) #[] #[]]).run P w1= .ok (.enter fi (fa'++ #[.func (.yield l) #[] #[]]++fb')) w1:=by unfold mX;simp only[Deferred.ofValue,akr,dK]
     unfold jx at ry;rw[hcr]at ry;refine⟨l,mark,w1,{target:= .fn (.func fi) fb',args:=fa'++ #[.func (.yield l) #[] #[]]},w1,fi,_,w1,xn,?_,λf' _=>hF.fn f',dK _,λhd=>(by rw[hF.depth]at hd;cases hd),uj (CallsIn.Uu hF ry) ?_⟩
     ·unfold resolve;have hm:Array.map a.eval #[Operand.const (.func (.yield l) #[] #[])]= #[.func (.yield l) #[] #[]]:=by simp[Act.eval]
      simp only[Vb,Deferred.ofValue,hm,aN]
     rintro e3 w3 ⟨u,rfl,oM,h1,BJ,JJ⟩;have aws:=qz.trans JJ;have h:oG (s2.h.get s.nx) (λst pend fn' nt' kp' tm' QK as' bd'=>
      match st with
      | .busy=> .no
      |_=>ik s2 s.nx (.loop .exhausted pend fn' nt' kp' tm' QK as' bd') λs3=>match pend with
       |none=> .code .normal tm s3
       |some c=>vK c tm s3)= .code e tm' s':=h
     obtain⟨st,pend,fn2,nt2,kp2,Fm,ps2,as2,bd2,Gc,h⟩:=tv h (by simp);have Xd:oM s.nx=some ⟨l,0,0,none⟩:=by rw[JJ.Nq _ (by have:=(AS.ql hs).1;omega)];exact hl
     have h:st≠.busy∧(ik s2 s.nx (.loop .exhausted pend fn2 nt2 kp2 Fm ps2 as2 bd2) λs3=>match(generalizing:=false) pend with
       |none=> .code .normal tm s3
       |some c=>vK c tm s3)= .code e tm' s':=by
      cases st<;>first|(cases h;done)|exact⟨by simp,h⟩
     obtain⟨RI,h⟩:=h;obtain⟨s3,gy,h⟩:=yz h (by simp);obtain⟨r,hr,rst,akE,_,_,_,_,_,_,_,Vl,hS3⟩:=GW BJ Xd Gc gy;refine⟨r.pending,_,run_endLoop hr (by rw[rst];exact RI),?_⟩;have hrr:({r with state:=LoopState.exhausted}:Loop)={r with state:=LoopState.exhausted,pending:=pend}:=by rw[<-akE]
     rw[hrr];have ZC:=aws.trans hS3;have fin:∀x,Out.code x tm s3= .code e tm' s'->Q (abD x) {a with defers:=mark++a.defers} (w3.putObj l (.loop {r with state:= .exhausted,pending:=pend})):= λx hx=>by cases hx;exact hQ oM _ _ ⟨hE.size,hE.tk,hE.env.mono (aws.le hR)⟩ ((Aw.step JJ).step hS3) Vl ZC
     rw[akE];cases pend with
     |none=>exact fin .normal h
     |some c2=>
      have h:vK c2 tm s3= .code e tm' s':=h;unfold vK at h;split at h
      ·exact wpIn_ret (fin .ret h)
      ·exact wpIn_exit (fin (.exit _) h)
      ·cases h
mutual
theorem HH {ρ:Ren}:∀ {v:Value},Plain v->bN ρ v v
 |_,.bool b=> .bool b
 |_,.int k n=> .int k n
 |_,.string s=> .string s
 |_,.agg a h=> .agg (E7 a.toList h)
theorem E7 {ρ:Ren}:∀(l:LVal),(∀v∈l,Plain v)->bJ ρ l l
 | [],_=> .nil
 |v::l,h=> .cons (HH (h v (by simp))) (E7 l λu hu=>h u (by simp[hu]))
end
mutual
theorem uU {ρ ρ':Ren} (hr:gq ρ ρ'):∀ {v u0 u:Value},bN ρ v u0->bN ρ' v u->bN ρ v u
 |_,_,_,.bool b,h=>by cases h;exact .bool b
 |_,_,_,.int k n,h=>by cases h;exact .int k n
 |_,_,_,.string s,h=>by cases h;exact .string s
 |_,_,_,.junk m n v _ _,h=>by cases h with|junk _ _ _ h h'=>exact .junk m n _ h h'
 |_,_,_,.EJ g off,h=>by cases h;exact .EJ g off
 |_,_,_,.tJ,h=>by cases h;exact .tJ
 |_,_,_,.ptr off hx,h=>by
  cases h with
  |ptr _ xu=>rw[hr _ _ hx]at xu;cases xu;exact .ptr off hx
 |_,_,_,.gi,h=>by cases h;exact .gi
 |_,_,_,.slice off n c cap ad hx _ _ _ _ _,h=>by
  cases h with
  |slice _ _ _ awt ad' xu h1 h2 h3 h4 h5=>rw[hr _ _ hx]at xu;cases xu;exact .slice off n c awt ad' hx h1 h2 h3 h4 h5
 |_,_,_,.xT,h=>by cases h;exact .xT
 |_,_,_,.map hx,h=>by
  cases h with
  |map xu=>rw[hr _ _ hx]at xu;cases xu;exact .map hx
 |_,_,_,.func f ha hb,h=>by
  cases h with
  |func _ sT iR=>exact .func f (nj hr ha sT) (nj hr hb iR)
 |_,_,_,.yield hx ha hb,h=>by
  cases h with
  |yield xu sT iR=>rw[hr _ _ hx]at xu;cases xu;exact .yield hx (nj hr ha sT) (nj hr hb iR)
 |_,_,_,.nilFunc,h=>by cases h;exact .nilFunc
 |_,_,_,.nilIface,h=>by cases h;exact .nilIface
 |_,_,_,.iface t hv,h=>by
  cases h with
  |iface _ mu=>exact .iface t (uU hr hv mu)
 |_,_,_,.agg ha,h=>by
  cases h with
  |agg sT=>exact .agg (nj hr ha sT)
 |_,_,_,.tuple ha,h=>by
  cases h with
  |tuple sT=>exact .tuple (nj hr ha sT)
theorem nj {ρ ρ':Ren} (hr:gq ρ ρ'):∀ {l m0 m:LVal},bJ ρ l m0->bJ ρ' l m->bJ ρ l m
 |_,_,_,.nil,h=>by cases h;exact .nil
 |_,_,_,.cons hv hs,h=>by
  cases h with
  |cons mu vo=>exact .cons (uU hr hv mu) (nj hr hs vo)
end
def Ki (hr:gq ρ ρ') {t0 t1:Array Value} (h0:Bj ρ tm t0) (h:Bj ρ' tm t1):Bj ρ tm t1:= λt v e=>by obtain⟨u0,_,hv0⟩:=h0 t v e;obtain⟨u,hu,hv⟩:=h t v e;exact⟨u,hu,uU hr hv0 hv⟩
def VN {ρ ρ':Ren} (hr:gq ρ ρ') {kt:TypeId}:∀ {es:List (Value×Value×Nat)} {l0 l:List MapEntry},F2 (rH P ρ kt) es l0->F2 (rH P ρ' kt) es l->F2 (rH P ρ kt) es l
 |_,_,_,.nil,.nil=> .nil
 |_,_,_,.cons h' vo,.cons h hs=> .cons ⟨h.1,h.2.1,h.2.2.1,uU hr h'.2.2.2.1 h.2.2.2.1,h.2.2.2.2⟩ (VN hr vo hs)
def P7 (hr:gq ρ ρ') {e0 e1:Array MapEntry} (h0:jo P ρ kt es e0) (h:jo P ρ' kt es e1):jo P ρ kt es e1:=by obtain⟨l0,_,hf0,_⟩:=h0;obtain⟨l,hp,hf,hn⟩:=h;exact⟨l,hp,VN hr hf0 hf,hn⟩
def XR (hr:gq ρ ρ') {x:Loc} {w0:World}:∀ {k:eX},qX P ρ x w0 k->qX P ρ' x w k->qX P ρ x w k
 | .cells ..,h0,h=>⟨λi l e=>by obtain⟨a,b,c⟩:=h.cell i l e;obtain⟨_,_,c0⟩:=h0.cell i l e;refine⟨a,b,λj v hv=>?_⟩;obtain⟨u,hu,mu⟩:=c j v hv;obtain⟨_,_,hv0⟩:=c0 j v hv;exact⟨u,hu,uU hr hv0 mu⟩,h.all,h.free,h.shape,h.mult,h.pin⟩
 | .map ..,⟨_,_,Ns,_⟩,⟨e,h,hm,hb⟩=>⟨e,h,P7 hr Ns hm,hb⟩
 | .sX ..,_,h=>h
 | .mapIter ..,⟨_,h0⟩,⟨hb,h⟩=>⟨hb,by
   rcases h with ⟨rfl,h⟩|⟨a,y,rfl,hy,h⟩
   ·exact .inl ⟨rfl,h⟩
   ·rcases h0 with ⟨h0,_⟩|⟨a0,y0,ha0,hy0,_⟩
    ·cases h0
    ·cases ha0;have:=hr _ _ hy0;rw[hy]at this;cases this;exact .inr ⟨a,y,rfl,hy0,h⟩⟩
 | .loop ..,⟨_,_,_,_,he0,_⟩,⟨t,f,r,h,he,hn⟩=>⟨t,f,r,h,Ki hr he0 he,hn⟩
def Rel.down {se:AS} {w0:World} (h0:Rel P ρ s w0) (h:Rel P ρ' se w) (hle:gq ρ ρ') (dU:∀a,a<s.nx->se.h.get a=s.h.get a):Rel P ρ s w:=by
 have cS:∀ {a x},ρ a=some x->a<s.nx:= λ {a x} e=>dg λhle=>by rw[h0.uz a hle]at e;cases e
 refine⟨h0.uz,h0.top,λa k x e e'=>?_,h0.lim,λa a' k k' x x' ed e1 e2 r1 r2 hb=>h0.pc a a' k k' x x' ed e1 e2 r1 r2 hb,λg gl vs g1 g2=>(let⟨_,b,_⟩:=h0.gl g gl vs g1 g2;let⟨a',_,c'⟩:=h.gl g gl vs g1 g2;⟨a',b,c'⟩)⟩;obtain⟨h1,h2⟩:=h.jI a k x (by rw[dU a (cS e')];exact e) (hle _ _ e');exact⟨h1,XR hle (h0.jI a k x e e').2 h2⟩
def xl.up {se:AS} {w0:World} (h0:Rel P ρ s w0) (hle:gq ρ ρ') (dU:∀a,a<s.nx->se.h.get a=s.h.get a) (h:xl ρ s b):xl ρ' se b:=by
 obtain⟨a,k,x,e,e',hb⟩:=h;have:a<s.nx:=dg λhle=>by rw[h0.uz a hle]at e';cases e'
 exact⟨a,k,x,by rw[dU a this];exact e,hle _ _ e',hb⟩
def Rel.abI {o:Obj} (h:Rel P ρ s w) (hn:¬xl ρ s r) (qK:∀i,w.cell? ⟨r,i,none⟩=none):Rel P ρ s {w with heap:=w.heap.setIfInBounds r o}:=
 ⟨h.uz,h.top,λa k x e e'=>by
  obtain⟨h1,h2⟩:=h.jI a k x e e';have ed:r≠x.b:= λe2=>hn ⟨a,k,x,e,e',e2.symm⟩;exact⟨by simpa using h1,h2.congr (by simp[ed])⟩,h.lim,h.pc,λg gl vs g1 g2=>by
  obtain⟨a,b,c⟩:=h.gl g gl vs g1 g2;refine⟨by simpa using a,b,λi v hv=>?_⟩;have hc:=c i v hv;have ed:r≠g:= λe=>by rw[<-e,qK i]at hc;cases hc
  rw[qa (w:=w) (by simp[ed])];exact hc⟩
def ye:∀ {a b:T Value},Ag a b=true->∀t v,a.get t=some v->b.get t=some v
 | .e,_,_,t,v,hv=>by rw[T.ur]at hv;cases hv
 | .n v0 l r,.e,h,t,v,hv=>by
  cases v0 with
  |some v0=>cases h
  |none=>
   have h:aD (Ag l .e) (Ag r .e) false=true:=h;obtain⟨h1,h2⟩:=jF h;rcases dN t with rfl|⟨m,rfl⟩|⟨m,rfl⟩
   ·rw[T.nW]at hv;cases hv
   ·rw[T.gX]at hv;have:=ye h1 m v hv;rw[T.ur]at this;cases this
   ·rw[T.fQ]at hv;have:=ye h2 m v hv;rw[T.ur]at this;cases this
 | .n v0 l r,.n v1 l' r',h,t,v,hv=>by
  have h:aD (match(generalizing:=false) v0 with|none=>true|some v=>EH v v1) (aD (Ag l l') (Ag r r') false) false=true:=h;obtain⟨h0,h⟩:=jF h;obtain⟨h1,h2⟩:=jF h;rcases dN t with rfl|⟨m,rfl⟩|⟨m,rfl⟩
  ·rw[T.nW]at hv⊢;subst hv;exact HG h0
  ·rw[T.gX]at hv⊢;exact ye h1 m v hv
  ·rw[T.fQ]at hv⊢;exact ye h2 m v hv
def Kj:∀ {ws:List Nat} {tm rT:T Value},Ep ws tm=some rT->∀t v,rT.get t=some v->tm.get t=some v
 | [],tm,rT,h,t,v,hv=>by have h:some tm=some rT:=h;cases h;exact hv
 |w::ws,tm,rT,h,t,v,hv=>by
  have h:ob (T.put none tm w) (Ep ws)=some rT:=h;obtain⟨t1,h1,h⟩:=ak h;have:=Kj h t v hv;rw[T.jw _ _ _ _ h1]at this;split at this
  ·cases this
  ·exact this
def VO (m:wO) (ev:Ev) (tm:T Value) (s:AS) (p:Value×Value×Nat):Prop:=
 (∃tm' s',jY m ev (p.1,p.2.1) tm s= .code .normal tm' s')∧∃tm' s',jY m ev (p.1,p.2.1) tm ⟨s.h,s.nx,s.nx⟩= .code .normal tm' s'∧Ag tm tm'=true
def GX (m:wO) (ev:Ev) (tm:T Value) (s:AS) (p:Value×Value×Nat) (o:Out):Prop:=
 jY m ev (p.1,p.2.1) tm s=o∧∃x tm' s',o= .code x tm' s'∧x≠.normal
def sa {m:wO} {ev:Ev} {tm:T Value} {s:AS}:∀ {es:List (Value×Value×Nat)} {f0 f:Option Out},fO m ev tm s es f0=some f->
  (∀p∈es,VO m ev tm s p∨∃o,f=some o∧GX m ev tm s p o)∧(∀o,f0=some o->f=some o)∧(∀o,f=some o->f0=some o∨∃p∈es,GX m ev tm s p o)
 | [],f0,f,h=>by have h:some f0=some f:=h;cases h;exact⟨λp hp=>(by cases hp),λo h=>h,λo h=> .inl h⟩
 |p::es,f0,f,h=>by
  have h:(match(generalizing:=false) jY m ev (p.1,p.2.1) tm s with
   | .code .normal _ _=>aD (xZ tm (jY m ev (p.1,p.2.1) tm ⟨s.h,s.nx,s.nx⟩)) (fO m ev tm s es f0) none
   | .code x eP s1=>match(generalizing:=false) f0 with|none=>fO m ev tm s es (some (.code x eP s1))|some _=>none
   |_=>none)=some f:=h
  split at h
  ·rename_i eP s1 heq;obtain⟨h1,h⟩:=aY h;obtain⟨i1,i2,i3⟩:=sa h;refine⟨λq hq=>?_,i2,λo ho=>(i3 o ho).imp id λ⟨q,hq,hr⟩=>⟨q,by simp[hq],hr⟩⟩;rcases List.mem_cons.1 hq with rfl|hq
   ·left;refine⟨⟨eP,s1,heq⟩,?_⟩;unfold xZ at h1;split at h1
    ·exact⟨_,_,‹_›,h1⟩
    ·cases h1
   ·exact i1 q hq
  ·rename_i x eP s1 ed heq;have hx:x≠.normal:= λe=>ed e;split at h
   ·obtain⟨i1,i2,i3⟩:=sa h;have xo:GX m ev tm s p (.code x eP s1):=⟨heq,x,eP,s1,rfl,hx⟩
    refine⟨λq hq=>?_,λo ho=>(by cases ho),λo ho=>?_⟩
    ·rcases List.mem_cons.1 hq with rfl|hq
     ·exact .inr ⟨_,i2 _ rfl,xo⟩
     ·exact i1 q hq
    ·right;rcases i3 o ho with h|⟨q,hq,hr⟩
     ·cases h;exact⟨p,by simp,xo⟩
     ·exact⟨q,by simp[hq],hr⟩
   ·cases h
  ·cases h
structure Ce (w w':World):Prop where
 heap:w'.heap=w.heap
 tape:w'.tape=w.tape
 os:w'.os=w.os
 out:w'.output=w.output
def P8 (k:Nat) (w:World):∃n w',(choose (.mapNext k)).run P w= .ok n w'∧Ce w w'∧(0<k->n<k):=by
 rw[run_choose_drew];by_cases h:(Question.mapNext k).forced=true
 ·rw[aU h];exact⟨0,w,rfl,⟨rfl,rfl,rfl,rfl⟩,id⟩
 ·rw[aC h];exact⟨_,w.drew,rfl,⟨rfl,rfl,rfl,rfl⟩,λh=>uE _ h⟩
def ac3 {x:Nat} (h:w.heap[x]? =some (.mapIter none 0 #[] 0)):(Instr.next (.pointer (some ⟨x,0,none⟩)) false ty).run P w= .ok (.tuple #[.bool false]) w:=by simp only[Instr.next,aI,eM h (by simp),aj,aN]
def Kk {x m:Nat} {seen:Array Nat} {cJ:Array MapEntry} (hi:w.heap[x]? =some (.mapIter (some m) ck seen ck)) (hm:w.heap[m]? =some (.map cJ ck)) (hb:lS ck cJ):
  (∃w',(∀e∈cJ.toList,e.born∈seen.toList)∧(∀ty,(Instr.next (.pointer (some ⟨x,0,none⟩)) false ty).run P w= .ok (.tuple #[.bool false]) w')∧Ce w w')∨
  ∃e w1,e∈cJ.toList∧e.born∉seen.toList∧(∀ty,(Instr.next (.pointer (some ⟨x,0,none⟩)) false ty).run P w= .ok (.tuple #[.bool true,e.key,e.val]) {w1 with heap:=w1.heap.setIfInBounds x (.mapIter (some m) ck (seen.push e.born) ck)})∧Ce w w1:=by
 have hold:((cJ.filter λe=>!seen.contains e.born).filter λe=>decide (e.born<ck))=(cJ.filter λe=>!seen.contains e.born):=by rw[Array.filter_eq_self];intro e he;have:=hb.2 e (by simpa using(Array.mem_filter.1 he).1);simpa using this
 have lG:((cJ.filter λe=>!seen.contains e.born).filter λe=>decide (e.born≥ck))= #[]:=by rw[Array.filter_eq_empty_iff];intro e he;have:=hb.2 e (by simpa using(Array.mem_filter.1 he).1);simp;omega
 have aIT:(!seen.isEmpty&&!cJ.isEmpty&&cJ.all λe=>decide (e.born≥ck))=false:=by
  cases NF:cJ.isEmpty with
  |true=>simp
  |false=>
   have ed:0<cJ.size:=by refine Nat.pos_of_ne_zero λh0=>?_;rw[Array.isEmpty,h0]at NF;exact absurd NF (by simp)
   have h0:=hb.2 cJ[0] (by simp);have:(cJ.all λe=>decide (e.born≥ck))=false:=by rw[Array.all_eq_false];exact⟨0,ed,by simp;omega⟩
   rw[this];simp
 generalize aaG:(cJ.filter λe=>!seen.contains e.born)=left at hold lG;have qF:∀e∈left.toList,e∈cJ.toList∧e.born∉seen.toList:= λe he=>by rw[<-aaG]at he;simpa using he
 have Wz:∃bad:Sem Value,∀(afM:Array (Option MapEntry)),afM=(if left.isEmpty then #[none]else #[])++(left++ #[]).map some->∀n w',(choose (.mapNext afM.size)).run P w= .ok n w'->Ce w w'->
   ∀ty,(Instr.next (.pointer (some ⟨x,0,none⟩)) false ty).run P w=Sem.run P (match afM[n]? with
    |some (some e)=>do
     setObj x (.mapIter (some m) ck (seen.push e.born) ck)
     pure (.tuple #[.bool true,e.key,e.val])
    |some none=>pure (.tuple #[.bool false])
    |none=>bad) w':=by
  apply Exists.intro;intro afM hc n w' hch hs ty;simp only[Instr.next,aI,eM hi (by simp),eM hm (by simp),aj,aN,aIT,cE,eG,aaG,hold,lG];rw[<-hc,hch];rfl
 obtain⟨bad,Wz⟩:=Wz;obtain⟨n,w',hch,hs,hn⟩:=P8 (P:=P) ((if left.isEmpty then #[none]else #[])++(left++ #[]).map some:Array (Option MapEntry)).size w;have dK:=Wz _ rfl n w' hch hs;by_cases NF:left.isEmpty=true
 ·have hl:left= #[]:=by simpa[Array.isEmpty]using NF
  left;refine⟨w',λe he=>?_,?_,hs⟩
  ·have ed:e∉left.toList:=by rw[hl];simp
   rw[<-aaG]at ed;have vW:e∈cJ:=by simpa using he
   simp only[Array.mem_toList_iff,Array.mem_filter,not_and]at ed;have:=ed vW;simpa using this
  ·intro ty;rw[dK,aU NF];subst hl;have:n=0:=by have:=hn (by simp);simpa using this
   subst this;simp[aN]
 ·right;rw[aC NF]at hn;simp only[aC NF,Array.append_empty,Array.empty_append]at dK;simp only[Array.append_empty,Array.empty_append,Array.size_map]at hn;have NH:0<left.size:=by
   refine Nat.pos_of_ne_zero λh0=>NF ?_;rw[Array.isEmpty,h0];rfl
  have cS:=hn NH;have vi:(left.map some)[n]? =some (some left[n]):=by simp[cS]
  obtain⟨h1,h2⟩:=qF left[n] (by simp);refine⟨left[n],w',h1,h2,?_,hs⟩;intro ty;rw[dK,vi];have pQ:w'.heap[x]? =some (.mapIter (some m) ck seen ck):=by rw[hs.heap];exact hi
  simp only[aI,ky pQ (by simp),aj,aN]
def find_born {cJ:Array MapEntry} {e:MapEntry} (hb:lS ck cJ) (he:e∈cJ.toList):cJ.find? (λx=>x.born==e.born)=some e:=by
 obtain⟨t1,t2,ht⟩:=fT he;have Vm:cJ=(t1++e::t2).toArray:=by rw[<-ht]
 have Dl:=hb.1;rw[ht,bS,br,eK]at Dl;rw[Vm,List.find?_toArray,List.find?_append];have:t1.find? (λx=>x.born==e.born)=none:=by rw[List.find?_eq_none];intro x hx;have:=Dl.2.2 x.born (List.mem_map.2 ⟨x,hx,rfl⟩) e.born (by simp);simpa using this
 rw[this];simp
def Kl {x m:Nat} {seen:Array Nat} {cJ:Array MapEntry} {e:MapEntry} (hi:w.heap[x]? =some (.mapIter (some m) ck (seen.push e.born) ck)) (hm:w.heap[m]? =some (.map cJ ck)) (hb:lS ck cJ) (he:e∈cJ.toList):
  (Instr.entry (.pointer (some ⟨x,0,none⟩))).run P w= .ok (.tuple #[e.key,e.val]) w:=by
 have hbk:(seen.push e.born).back? =some e.born:=by simp
 simp only[Instr.entry,aI,eM hi (by simp),eM hm (by simp),aj,aN,hbk,bne_self_eq_false,cE,eG,find_born hb he]
def Dz {R1 R2:Value->Value->Prop} {r:Value->bQ} (hr:∀v v' u,r v=some v'->R1 v u->R2 v' u):∀ {l l' m:LVal},dj r l=some l'->F2 R1 l m->F2 R2 l' m
 | [],l',m,h,hm=>by cases h;cases hm;exact .nil
 |v::l,l',m,h,hm=>by have h:ob (r v) (λv'=>ob (dj r l) λl'=>some (v'::l'))=some l':=h;replace h:=ak h;obtain⟨v1,h1,h⟩:=h;replace h:=ak h;obtain⟨l1,h2,h⟩:=h;cases h;cases hm with|cons a b=>exact .cons (hr _ _ _ h1 a) (Dz hr h2 b)
def GY {ρ:Ren}:∀ {l m:LVal},bJ ρ l m->F2 (bN ρ) l m
 |_,_,.nil=> .nil
 |_,_,.cons h hs=> .cons h (GY hs)
def GZ {ρ:Ren}:∀ {l m:LVal},F2 (bN ρ) l m->bJ ρ l m
 |_,_,.nil=> .nil
 |_,_,.cons h hs=> .cons h (GZ hs)
def yf {km oM:Ren} {φ:Nat->Option Nat} (h:∀a b x,φ a=some b->km a=some x->oM b=some x):∀(n:Nat) (v v' u:Value),dV φ n v=some v'->bN km v u->bN oM v' u
 |0,v,v',u,hv,_=>by cases hv
 |n+1,v,v',u,hv,hr=>by
  have sS:∀ {l l' m:LVal},dj (dV φ n) l=some l'->bJ km l m->bJ oM l' m:= λh1 h2=>GZ (Dz (λv v' u=>yf h n v v' u) h1 (GY h2));cases hr with
  |bool b=>cases b<;>(cases hv;exact .bool _)
  |int k m=>have hv:m5 k m=some v':=hv;rw[fI]at hv;cases hv;exact .int k m
  |string s=>cases hv;exact .string s
  |junk a b w hw xb=>cases hv;exact .junk a b _ hw xb
  |EJ g off=>cases hv;exact .EJ g off
  |tJ=>cases hv;exact .tJ
  | @ptr a x off hx=>have hv:(ob (φ a) λb'=>cG off λo'=>some (.pointer (some ⟨b',o',none⟩)))=some v':=hv;obtain⟨b',h1,hv⟩:=ak hv;rw[bD]at hv;cases hv;exact .ptr off (h _ _ _ h1 hx)
  |gi=>cases hv;exact .gi
  | @slice a x off m c cap ad hx g1 g2 g3 g4 g5=>have hv:(ob (φ a) λb'=>cG off λo'=>cG m λm'=>cG c λc'=>some (.slice (some ⟨b',o',none⟩) m' c'))=some v':=hv;obtain⟨b',h1,hv⟩:=ak hv;simp only[bD]at hv;cases hv;exact .slice off m c cap ad (h _ _ _ h1 hx) g1 g2 g3 g4 g5
  |xT=>cases hv;exact .xT
  | @map a x hx=>have hv:(ob (φ a) λb'=>some (.map (some b')))=some v':=hv;obtain⟨b',h1,hv⟩:=ak hv;cases hv;exact .map (h _ _ _ h1 hx)
  | @func f a b a' b' ha hb=>have hv:(ob (dj (dV φ n) a.toList) λa'=>ob (dj (dV φ n) b.toList) λb'=>some (.func (.func f) ⟨a'⟩ ⟨b'⟩))=some v':=hv;obtain⟨a1,h1,hv⟩:=ak hv;obtain⟨b1,h2,hv⟩:=ak hv;cases hv;exact .func f (sS h1 ha) (sS h2 hb)
  |yield=>cases hv
  |nilFunc=>cases hv;exact .nilFunc
  |nilIface=>cases hv;exact .nilIface
  | @iface t x x' hx=>have hv:(ob (dV φ n x) λx'=>some (.iface t x'))=some v':=hv;obtain⟨x1,h1,hv⟩:=ak hv;cases hv;exact .iface t (yf h n _ _ _ h1 hx)
  | @agg a b ha=>have hv:(ob (dj (dV φ n) a.toList) λa'=>some (.agg ⟨a'⟩))=some v':=hv;obtain⟨a1,h1,hv⟩:=ak hv;cases hv;exact .agg (sS h1 ha)
  | @tuple a b ha=>have hv:(ob (dj (dV φ n) a.toList) λa'=>some (.tuple ⟨a'⟩))=some v':=hv;obtain⟨a1,h1,hv⟩:=ak hv;cases hv;exact .tuple (sS h1 ha)
def OW {r:Value->bQ}:∀ {l l':LVal},dj r l=some l'->l'.length=l.length∧∀(j:Nat) (v':Value),l'[j]? =some v'->∃v,l[j]? =some v∧r v=some v'
 | [],l',h=>by cases h;exact⟨rfl,λj v' hj=>by simp at hj⟩
 |v::l,l',h=>by
  have h:ob (r v) (λv'=>ob (dj r l) λl'=>some (v'::l'))=some l':=h;replace h:=ak h;obtain⟨v1,h1,h⟩:=h;replace h:=ak h;obtain⟨l1,h2,h⟩:=h;cases h;obtain⟨i1,i2⟩:=OW h2;refine⟨by simp[i1],λj v' hj=>?_⟩;cases j with
  |zero=>simp at hj;subst hj;exact⟨v,rfl,h1⟩
  |succ j=>simp at hj⊢;exact i2 j v' hj
def sc:∀ {l:List Nat},fA l=true->l.Nodup
 | [],_=>Jn
 |x::t,h=>by
  have h:aD (lR Bool false (λy _ i=>aD (Nat.beq x y) true i) t) false (fA t)=true:=h;have hm:∀t:List Nat,(lR Bool false (λy _ i=>aD (Nat.beq x y) true i) t:Bool)=false->x∉t:=by
   intro t;induction t with
   |nil=>simp
   |cons y t ih=>
    intro h;have h:aD (Nat.beq x y) true (lR Bool false (λy _ i=>aD (Nat.beq x y) true i) t)=false:=h;rw[bW]at h;split at h
    ·cases h
    ·rename_i hb;intro hx;rcases List.mem_cons.1 hx with rfl|hx
     ·exact hb (bj x)
     ·exact ih h hx
  cases e:(lR Bool false (λy _ i=>aD (Nat.beq x y) true i) t:Bool)with
  |true=>rw[e]at h;cases h
  |false=>rw[e]at h;exact List.nodup_cons.2 ⟨hm t e,sc h⟩
def DA {n:Nat}:∀ {l:List Nat},zZ n l=true->∀x∈l,x<n
 | [],_,x,hx=>by cases hx
 |y::t,h,x,hx=>by
  have h:aD (Nat.blt y n) (zZ n t) false=true:=h;obtain⟨h0,h⟩:=jF h;rcases List.mem_cons.1 hx with rfl|hx
  ·have:=aO h0;omega
  ·exact DA h x hx
def Km {n:Nat}:∀ {l:List Nat},Er n l=true->∀x∈l,n<=x
 | [],_,x,hx=>by cases hx
 |y::t,h,x,hx=>by
  have h:aD (Nat.ble n y) (Er n t) false=true:=h;obtain⟨h0,h⟩:=jF h;rcases List.mem_cons.1 hx with rfl|hx
  ·exact aO h0
  ·exact Km h x hx
def apx {a b:LVal} (h:vh (qQ 12) a b=true):a=b:=pz (uT 12) a b h
def Inv.start {an:Nat} {a:Act} (h:js an nt ρ tm a) {d:Nat} (hd:kept an d=false) (cS:d<nt) (hv:bN ρ v u):Inv an nt [] ρ (.cons d v .nil) tm (a.put (some d) u):=by
 have eR:d<a.tmps.size:=bC cS h.size;refine⟨⟨by simpa[Act.put]using h.size,h.tk,λt w hw=>?_⟩,λt w _ hk hw=>?_,λp hp=>(by cases hp)⟩
 ·have ed:t≠d:= λe=>by have:=h.tk t w hw;rw[e,hd]at this;cases this
  obtain⟨u',hu,hr⟩:=h.env t w hw;exact⟨u',by rw[gn ed];exact hu,hr⟩
 ·rw[Ml,bW]at hw;split at hw
  ·rename_i e;have e:=au e;cases hw;subst e;exact⟨u,iG eR,hv⟩
  ·cases hw
def js.put {an nt:Nat} {ρ:Ren} {tm eP:T Value} {a:Act} (h:js an nt ρ tm a) {d:Nat} {v u:Value} (hd:kept an d=true) (cS:d<nt) (hv:bN ρ v u) (hp:T.put (some v) tm d=some eP):js an nt ρ eP (a.put (some d) u):=by
 have eR:d<a.tmps.size:=bC cS h.size;have hg:=T.jw _ _ _ _ hp;refine⟨by simpa[Act.put]using h.size,λt w hw=>?_,λt w hw=>?_⟩
 ·rw[hg]at hw;split at hw
  ·rename_i e;rw[e];exact hd
  ·exact h.tk t w hw
 ·rw[hg]at hw;split at hw
  ·rename_i e;cases hw;rw[e];exact⟨u,iG eR,hv⟩
  ·rename_i e;obtain⟨u',hu,hr⟩:=h.env t w hw;exact⟨u',by rw[gn e];exact hu,hr⟩
def js.DB {an:Nat} {a:Act} (h:js an nt ρ tm a) {d:Nat} (hd:kept an d=false):js an nt ρ tm (a.put (some d) u):=by
 refine⟨by simpa[Act.put]using h.size,h.tk,λt w hw=>?_⟩;have ed:t≠d:= λe=>by have:=h.tk t w hw;rw[e,hd]at this;cases this
 obtain⟨u',hu,hr⟩:=h.env t w hw;exact⟨u',by rw[gn ed];exact hu,hr⟩
def P9 {an:Nat} {ev:Ev} (j7:mj P ev) (hF:rv F) {body:Code} {c:CF} (hc:pf P an nt body c) {i2 b1:Nat} {r2:Array Oper} {t2:List Oper} {q:Oper} {l2:List CI} (Xd:mC P an nt r2.toList t2 []=some l2) (zO:r2.toList=q::t2) {d2 it:Nat} (hqg:q.guard=none) (hqd:q.dst=some d2) (hqo:q.op= .entry (.tmp it)) (hd2:kept an d2=false) (cS:d2<nt) {eP:T Value} {a:Act} {k k':Value} {x:cZ} {tmx:T Value} {sx:AS} (dK:pR b1 (tG (c ev) (nV ev l2 tY (.cons d2 (.tuple #[k,v]) .nil) eP s))= .code x tmx sx) (hE:js an nt ρ eP a) {n0:N0} (vX:n0.n<=w.heap.size) (hM:Marks n0 ρ s w a.defers) (hL:∀l,F.round=some l->∃r,w.heap[l]? =some (Obj.loop r)) (hR:Rel P ρ s w) (xn:(Instr.entry (a.eval (.tmp it))).run P w= .ok (.tuple #[k',v']) w) (hk:bN ρ k k') (hv:bN ρ v v') {Q:Exit->Act->World->Prop} (hQ:Mm P n0 an nt ρ s w x tmx sx Q):(Code.block b1 (.seq (.region i2 r2 false) body)).wpIn F 0 P Q a w:=by
 refine wpIn_block ?_;refine Y1 ?_;refine wpIn_region ?_;have eR:r2.size=t2.length+1:=by rw[<-xz,zO];rfl
 have hr:List.range r2.size=0::List.range' 1 t2.length:=by rw[eR,Jp,Xx]
 rw[hr];have h0:r2[0]? =some q:=by
  have:r2.toList[0]? =some q:=by rw[zO];rfl
  simpa using this
 have hw:Region.wanted q (yielded r2 a.tmps)=true:=by unfold Region.wanted;rw[hqg]
 simp only[wpOpsIn,h0];rw[aU hw];refine⟨λf _=>hF.fn f,?_⟩;rw[wZ _ _ _ (λc e=>by rw[hqo]at e;cases e)];have hex:(execOp a.eval q).run P w= .ok (.value (.tuple #[k',v'])) w:=by
  have he:execOp a.eval q=(do pure (.value (<-Instr.entry (a.eval (.tmp it))))):=by unfold execOp;rw[hqo]
  rw[he];exact fx xn
 rw[hex,Y3,hqd];have hI:=Inv.start hE hd2 cS (bN.tuple (a:= #[k,v]) (b:= #[k',v']) (.cons hk (.cons hv .nil)));cases Vn:nV ev l2 tY (.cons d2 (.tuple #[k,v]) .nil) eP s with
 |no=>rw[Vn]at dK;cases dK
 |val=>rw[Vn]at dK;cases dK
 |code xr tmr sr=>
  rw[Vn]at dK;refine Ka hF j7 (all:=r2) (x:=xr) (tm':=tmr) (s':=sr) t2 1 (by rw[zO];rfl) [] l2 Xd ρ _ eP s _ w Vn hI hR (λkm a1 w1 hx uD Xf xa qz=>?_);subst hx;have Aw:Marks n0 km sr w1 a1.defers:=by rw[Xf];exact hM.step qz
  have dK:pR b1 (c ev tmr sr)= .code x tmx sx:=dK;cases ho:c ev tmr sr with
  |no=>rw[ho]at dK;cases dK
  |val=>rw[ho]at dK;cases dK
  |code e2 Fm s2=>
   rw[ho]at dK;refine hc ev j7 F hF km tmr sr a1 w1 e2 Fm s2 ho uD n0 (di vX qz.size) Aw (rP hL qz) xa _ (λoM a2 w2 QT Xi BJ JJ=>?_);have hS:=qz.trans JJ;cases e2 with
   |normal=>cases dK;exact hQ oM a2 w2 QT Xi BJ hS
   |exit i=>
    have h:aD (Nat.beq i b1) (.code .normal Fm s2) (.code (.exit i) Fm s2)=Out.code x tmx sx:=dK;rw[bW]at h;show(if i=b1 then Q .normal a2 w2 else Q (.exit i) a2 w2);split at h
    ·rename_i hi;cases h;rw[aU (au hi)];exact hQ oM a2 w2 QT Xi BJ hS
    ·rename_i hi;cases h;rw[aC (λe=>hi (by rw[e];exact bj _))];exact hQ oM a2 w2 QT Xi BJ hS
   |goto l=>cases dK;exact hQ oM a2 w2 QT Xi BJ hS
   |ret=>cases dK;exact hQ oM a2 w2 QT Xi BJ hS
def tU (hF:rv F) {i1 d1 t9 it:Nat} {r1:Array Oper} {o p:Oper} (uh:r1.toList= [o,p]) (hog:o.guard=none) (hod:o.dst=some d1) (hoo:o.op= .next (.tmp it) false) (hpg:p.guard=none) (hpd:p.dst=some t9) (hpo:p.op= .extract (.tmp d1) 0) {a:Act} {w2:World} {vs:Array Value} {b:Bool} (Fo:vs[0]? =some (.bool b)) (cS:d1<a.tmps.size) (ay4:∀ty,(Instr.next (a.eval (.tmp it)) false ty).run P w= .ok (.tuple vs) w2) {Q:Exit->Act->World->Prop} (hQ:Q .normal ((a.put (some d1) (.tuple vs)).put (some t9) (.bool b)) w2):(Code.region i1 r1 false).wpIn F 0 P Q a w:=by
 refine wpIn_region ?_;have eR:r1.size=2:=by rw[<-xz,uh];rfl
 have hr:List.range r1.size= [0,1]:=by rw[eR];rfl
 rw[hr];have h0:r1[0]? =some o:=by
  have:r1.toList[0]? =some o:=by rw[uh];rfl
  simpa using this
 have h1:r1[1]? =some p:=by
  have:r1.toList[1]? =some p:=by rw[uh];rfl
  simpa using this
 have hw0:Region.wanted o (yielded r1 a.tmps)=true:=by unfold Region.wanted;rw[hog]
 simp only[wpOpsIn,h0,h1];rw[aU hw0];refine⟨λf _=>hF.fn f,?_⟩;rw[wZ _ _ _ (λc e=>by rw[hoo]at e;cases e)];have hex:(execOp a.eval o).run P w= .ok (.value (.tuple vs)) w2:=by
  have he:execOp a.eval o=(do pure (.value (<-Instr.next (a.eval (.tmp it)) false o.type))):=by unfold execOp;rw[hoo]
  rw[he];exact fx (ay4 _)
 rw[hex,Y3,hod];show(if Region.wanted p _=true then _ else _);rw[aU (by unfold Region.wanted;rw[hpg])];refine⟨λf _=>hF.fn f,?_⟩;rw[wZ _ _ _ (λc e=>by rw[hpo]at e;cases e)];have aIU:(execOp (a.put (some d1) (.tuple vs)).eval p).run P w2= .ok (.value (.bool b)) w2:=by
  have he:execOp (a.put (some d1) (.tuple vs)).eval p=(do pure (.value (<-Instr.extract ((a.put (some d1) (.tuple vs)).eval (.tmp d1)) 0))):=by unfold execOp;rw[hpo]
  rw[he,mF (iG cS)];refine fx ?_;simp only[Instr.extract,Fo,aN]
 rw[aIU,Y3,hpd];exact hQ
def JF {a:Code} {m:LO} (h:ya a=some m):∃i1 r1 i2 r2 o p q,a= .seq (.region i1 r1 false) (.seq (.cond (.tmp m.t9) .skip (.exit m.b0)) (.block m.b1 (.seq (.region i2 r2 false) m.body)))∧
  r1.toList= [o,p]∧o.guard=none∧o.dst=some m.d1∧o.op= .next (.tmp m.it) false∧p.guard=none∧p.dst=some m.t9∧p.op= .extract (.tmp m.d1) 0∧
  m.r2=r2.toList∧r2.toList=q::m.t2∧q.guard=none∧q.dst=some m.d2∧q.op= .entry (.tmp m.it):=by
 unfold ya at h;split at h
 ·rename_i i1 r1 t b0 b1 i2 r2 body;split at h
  ·rename_i d1 it t9 d2 it' t2 hn he;replace h:=aY h;obtain⟨h1,h⟩:=h;replace h:=aY h;obtain⟨h2,h⟩:=h;replace h1:=au h1;replace h2:=au h2;subst h1;subst h2;cases h;unfold abA at hn;split at hn
   ·rename_i o p yN;split at hn
    ·rename_i a1 d a2 it2 a3 a4 t9' a5 d' a6;replace hn:=aY hn;obtain⟨h3,hn⟩:=hn;replace h3:=au h3;subst h3;cases hn;unfold VD at he;split at he
     ·rename_i q t hql;split at he
      ·cases he;exact⟨i1,r1,i2,r2,o,p,q,rfl,yN,by assumption,by assumption,by assumption,by assumption,by assumption,by assumption,rfl,hql,by assumption,by assumption,by assumption⟩
      ·cases he
     ·cases he
    ·cases hn
   ·cases hn
  ·cases h
 ·cases h
def yB {seen:List Nat} {b:Nat}:∀ {l:List MapEntry},(∃e∈l,e.born=b)->b∉seen->(l.filter λe=>!(seen++ [b]).contains e.born).length<(l.filter λe=>!seen.contains e.born).length
 | [],⟨e,he,_⟩,_=>by cases he
 |x::l,⟨e,he,hb⟩,hs=>by
  have hle:∀l:List MapEntry,(l.filter λe=>!(seen++ [b]).contains e.born).length<=(l.filter λe=>!seen.contains e.born).length:=by
   intro l;induction l with
   |nil=>exact af _
   |cons y l ih=>
    rw[gU,gU];by_cases h1:y.born∈seen
    ·simp[h1];simpa using ih
    ·by_cases h2:y.born=b
     ·simp[h1,h2,hs];have:=ih;simp at this;omega
     ·simp[h1,h2];simpa using ih
  rw[gU,gU];rcases List.mem_cons.1 he with rfl|he
  ·subst hb;have:=hle l;simp[hs];simp at this;omega
  ·have ih:=yB ⟨e,he,hb⟩ hs;by_cases h1:x.born∈seen
   ·simp[h1];simpa using ih
   ·by_cases h2:x.born=b
    ·simp[h1,h2,hs];simp at ih;omega
    ·simp[h1,h2];simpa using ih
def Ts {an:Nat} {a0:Code} {m:LO} {k:Code->Option CF} {ws:List Nat} {f:CF} (apy:ya a0=some m) (It:zi P nt an k ws m=some f) (hk:∀c cf,k c=some cf->pf P an nt c cf):pf P an nt (.loop a0) f:=by
 obtain⟨i1,r1,i2,r2,o,p,q,rfl,uh,hog,hod,hoo,hpg,hpd,hpo,anW,zO,hqg,hqd,hqo⟩:=JF apy;unfold zi at It;replace It:=lK It;obtain⟨hkd,It⟩:=It;replace It:=aY It;obtain⟨Lj,It⟩:=It;replace It:=ak It;obtain⟨l2,Xd,It⟩:=It;replace It:=ak It;obtain⟨c,hc,It⟩:=It;have aIV:=hk _ _ hc;obtain⟨h1,Lj⟩:=jF Lj;obtain⟨h2,Lj⟩:=jF Lj;obtain⟨h3,Lj⟩:=jF Lj;obtain⟨hk9,Lj⟩:=jF Lj;obtain⟨awu,akF⟩:=jF Lj;have aIW:m.it≠m.t9:= λe=>by rw[e,bj]at akF;cases akF
 have Xf:m.d1<nt:=aO h1;have hd2:m.d2<nt:=aO h2;have h9:m.t9<nt:=aO h3;have ZD:kept an m.d1=false:=by
  cases hb:kept an m.d1 with
  |false=>rfl
  |true=>rw[hb]at hkd;cases hkd
 have aIX:kept an m.d2=false:=by rw[ZD]at hkd;exact hkd
 rw[anW]at Xd;intro ev j7 F hF ρ tm s a w e tm' s' h hE n0 vX hM hL hR Q hQ;cases It;generalize Xk:(⟨m.b0,m.b1,aK m.it,m.t9,c,l2,m.d2,abz an ws⟩:wO)=M at h;have aIY:M.it=aK m.it:=by rw[<-Xk]
 have agA:∀e tm s,jY M ev e tm s=oR Out .no (λeP=>pR m.b1 (tG (c ev) (nV ev l2 tY (.cons m.d2 (.tuple #[e.1,e.2]) .nil) eP s))) (T.put (some (.bool true)) tm m.t9):= λe tm s=>by rw[<-Xk];rfl
 have apz:∀tm s,Mc M tm s=oR Out .no (λeP=> .code (.exit m.b0) eP s) (T.put (some (.bool false)) tm m.t9):= λtm s=>by rw[<-Xk];rfl
 have h:oR Out .no (λrT=>match M.it .nil rT with
  |some (.pointer (some ⟨ib,0,none⟩))=>oP (s.h.get ib) λr ck=>oR Out .no (λes=>oR Out .no (λs1=>tI M rT s1 (fO M ev rT s1 es none)) (s.set ib none)) (tH s r ck)
  |_=> .no) (Ep M.ws tm)= .code e tm' s':=h
 cases wW:Ep M.ws tm with
 |none=>rw[wW]at h;cases h
 |some rT=>
  rw[wW]at h;have h:(match M.it .nil rT with
   |some (.pointer (some ⟨ib,0,none⟩))=>oP (s.h.get ib) λr ck=>oR Out .no (λes=>oR Out .no (λs1=>tI M rT s1 (fO M ev rT s1 es none)) (s.set ib none)) (tH s r ck)
   |_=> .no)= .code e tm' s':=h
  have awv:=Kj wW;have hE0:js an nt ρ rT a:=⟨hE.size,λt v hv=>hE.tk t v (awv t v hv),λt v hv=>hE.env t v (awv t v hv)⟩
  split at h
  ·rename_i ib uC;rw[aIY]at uC;have uC:rT.get m.it=some (.pointer (some ⟨ib,0,none⟩)):=uC;unfold oP at h;split at h
   ·rename_i r ck Gc;have h:oR Out .no (λes=>oR Out .no (λs1=>tI M rT s1 (fO M ev rT s1 es none)) (s.set ib none)) (tH s r ck)= .code e tm' s':=h;cases BK:tH s r ck with
    |none=>rw[BK]at h;cases h
    |some es=>
     rw[BK]at h;cases dm:s.set ib none with
     |none=>rw[dm]at h;cases h
     |some s1=>
      rw[dm]at h;have h:tI M rT s1 (fO M ev rT s1 es none)= .code e tm' s':=h;have Rl:∀ {a1:Act},js an nt ρ rT a1->∃x,ρ ib=some x∧a1.eval (.tmp m.it)= .pointer (some ⟨x.b,x.base,none⟩):= λ {a1} uD=>by
       obtain⟨u,hu,hv⟩:=uD.env _ _ uC;cases hv with
       |ptr off hx=>exact⟨_,hx,by rw[mF hu];simp⟩
      obtain⟨x,hx,_⟩:=Rl hE0;obtain⟨aIZ,aaH,WA⟩:=hR.jI ib _ x Gc hx;have Rl:∀ {a1:Act},js an nt ρ rT a1->a1.eval (.tmp m.it)= .pointer (some ⟨x.b,0,none⟩):= λ {a1} uD=>by obtain⟨x',xu,he⟩:=Rl uD;rw[hx]at xu;cases xu;rw[he,aaH]
      obtain⟨xa,qz⟩:=hR.forget dm hx;have anO:s1.nx=s.nx:=(AS.tK dm).1;have hnh:¬xl ρ s1 x.b:=by
       rintro⟨a',k',x',e1,e2,e3⟩;rw[(AS.tK dm).2]at e1;by_cases ed:a'=ib
       ·rw[aU ed]at e1;cases e1
       ·rw[aC ed]at e1;have:=(hR.pc a' ib k' _ x' x ed e1 Gc e2 hx e3).2;cases this
      cases hrs:fO M ev rT s1 es none with
      |none=>rw[hrs]at h;cases h
      |some found=>
       rw[hrs]at h;obtain⟨sp1,_,sp3⟩:=sa hrs;have over:∀(a1:Act) (w2:World) (tup:Value),js an nt ρ rT a1->Marks n0 ρ s1 w2 a1.defers->Rel P ρ s1 w2->je ρ s w ρ s1 w2->found=none->∀QL:Exit->Act->World->Prop,QL (.exit m.b0)=Q (.exit m.b0)->
         (Code.seq (.cond (.tmp m.t9) .skip (.exit m.b0)) (.block m.b1 (.seq (.region i2 r2 false) m.body))).wpIn F 0 P QL ((a1.put (some m.d1) tup).put (some m.t9) (.bool false)) w2:=by
        intro a1 w2 tup uD Aw BJ JJ hf QL hQL;subst hf;have h:Mc M rT s1= .code e tm' s':=h;rw[apz]at h;cases hp:T.put (some (.bool false)) rT m.t9 with
        |none=>rw[hp]at h;cases h
        |some eP=>rw[hp]at h;cases h;have hE3:=(uD.DB (u:=tup) ZD).put hk9 h9 (.bool false) hp;refine Y1 ?_;have he9:((a1.put (some m.d1) tup).put (some m.t9) (.bool false)).eval (.tmp m.t9)= .bool false:=mF (iG (bC h9 (uD.DB (u:=tup) ZD).size));refine wpIn_cond he9 ?_;refine wpIn_exit ?_;show QL (.exit m.b0) _ _;rw[hQL];exact hQ ρ _ _ hE3 (by rw[jA,jA];exact Aw) BJ JJ
       rcases WA with ⟨rfl,WA⟩|⟨mb,y,rfl,hy,WA⟩
       ·
        have BK:some []=some es:=BK;cases BK;have hf:found=none:=by have hrs:some none=some found:=hrs;cases hrs;rfl
        let I:Act->World->Prop:= λa1 w1=>js an nt ρ rT a1∧Marks n0 ρ s1 w1 a1.defers∧Rel P ρ s1 w1∧je ρ s w ρ s1 w1∧w1.heap[x.b]? =some (.mapIter none 0 #[] 0)
        refine wpIn_loop I (λ_ _=>0) ⟨hE0,hM.step qz,xa,qz,WA⟩ (λa1 w1 hI=>?_);obtain⟨uD,Aw,hRr,QW,RO⟩:=hI;refine Y1 ?_;refine tU hF uh hog hod hoo hpg hpd hpo (vs:= #[.bool false]) (b:=false) rfl (bC Xf uD.size) (λty=>by rw[Rl uD];exact ac3 RO) ?_;exact over a1 w1 _ uD Aw hRr QW hf _ rfl
       ·
        have BK:mapOf (s.h.get mb) (λ_ es mT=>aD (Nat.beq ck mT) (some es) none)=some es:=BK;replace BK:=kG BK;obtain⟨kt,ig,mT,hmb,BK⟩:=BK;replace BK:=aY BK;obtain⟨hck,BK⟩:=BK;replace hck:=au hck;subst hck;cases BK;have ed:mb≠ib:= λe=>by rw[e,Gc]at hmb;cases hmb
        have aww:s1.h.get mb=some (.map kt es ck):=by rw[(AS.tK dm).2,aC ed];exact hmb
        obtain⟨awx,cJ,ay5,Ip,Nt⟩:=hR.jI mb _ y hmb hy;have akG:mb<s1.nx:=by rw[anO];exact dg λhle=>by rw[hR.uz mb hle]at hy;cases hy
        have apA:∀e∈cJ.toList,∃p∈es,rH P ρ kt p e:= λe he=>by obtain⟨l,hp,hf,_⟩:=Ip;exact F2.oS hf e (hp.mem_iff.2 he)
        have aI0:∀p∈es,∃e∈cJ.toList,rH P ρ kt p e:= λp hp=>by obtain⟨l,hpm,hf,_⟩:=Ip;obtain⟨FZ,rU,rfl⟩:=fT hp;obtain⟨m1,b,m2,rfl,_,hr,_⟩:=hf.split;exact⟨b,hpm.mem_iff.1 (by simp),hr⟩
        have JZ:∀p∈es,∀q∈es,p.1=q.1->p=q:= λp hp q hq e=>by
         obtain⟨l,hpm,hf,Dl⟩:=Ip;obtain⟨FZ,rU,rfl⟩:=fT hp;rw[bS,br,eK]at Dl;rcases List.mem_append.1 hq with hq|hq
         ·exact(Dl.2.2 q.1 (List.mem_map.2 ⟨q,hq,rfl⟩) p.1 (by simp) e.symm).elim
         ·rcases List.mem_cons.1 hq with rfl|hq
          ·rfl
          ·exact((List.nodup_cons.1 Dl.2.1).1 (by rw[e];exact List.mem_map.2 ⟨q,hq,rfl⟩)).elim
        have ay6:∀e∈cJ.toList,∀e'∈cJ.toList,e.born=e'.born->e=e':= λe he e' vW hb=>by
         obtain⟨t1,t2,ht⟩:=fT he;have Dl:=Nt.1;rw[ht]at vW Dl;rw[bS,br,eK]at Dl;rcases List.mem_append.1 vW with vW|vW
         ·exact(Dl.2.2 e'.born (List.mem_map.2 ⟨e',vW,rfl⟩) e.born (by simp) hb.symm).elim
         ·rcases List.mem_cons.1 vW with rfl|vW
          ·rfl
          ·exact((List.nodup_cons.1 Dl.2.1).1 (by rw[hb];exact List.mem_map.2 ⟨e',vW,rfl⟩)).elim
        let Bq:MapEntry->Prop:= λe=>∃p∈es,rH P ρ kt p e∧VO M ev rT s1 p
        let I:Act->World->Prop:= λa1 w1=>js an nt ρ rT a1∧Marks n0 ρ s1 w1 a1.defers∧Rel P ρ s1 w1∧je ρ s w ρ s1 w1∧w1.heap[y.b]? =some (.map cJ ck)∧
         ∃seen:Array Nat,w1.heap[x.b]? =some (.mapIter (some y.b) ck seen ck)∧∀e∈cJ.toList,e.born∈seen.toList->Bq e
        let μ:Act->World->Nat:= λ_ w1=>match w1.heap[x.b]? with|some (.mapIter _ _ seen _)=>(cJ.toList.filter λ(e:MapEntry)=>!seen.toList.contains e.born).length|_=>0
        refine wpIn_loop I μ ⟨hE0,hM.step qz,xa,qz,ay5,#[],WA,λe _ h=>by simp at h⟩ (λa1 w1 hI=>?_);obtain⟨uD,Aw,hRr,QW,Wu,seen,RO,BB⟩:=hI;have hμ:μ a1 w1=(cJ.toList.filter λe=>!seen.toList.contains e.born).length:=by show(match w1.heap[x.b]? with|some (.mapIter _ _ seen _)=>(cJ.toList.filter λ(e:MapEntry)=>!seen.toList.contains e.born).length|_=>0)=_;rw[RO]
        refine Y1 ?_;rcases Kk (P:=P) RO Wu Nt with ⟨w2,iO,dK,dU⟩|⟨en,w2,Vm,lG,dK,dU⟩
        ·refine tU hF uh hog hod hoo hpg hpd hpo (vs:= #[.bool false]) (b:=false) rfl (bC Xf uD.size) (λty=>by rw[Rl uD];exact dK ty) ?_;have hf:found=none:=by
          cases Lv:found with
          |none=>rfl
          |some o=>
           exfalso;rcases sp3 o Lv with h|⟨p,hp,xo⟩
           ·cases h
           ·obtain⟨e1,vp,aI1⟩:=aI0 p hp;obtain⟨p',ED,oK,⟨⟨tA,sA,ay7⟩,_⟩⟩:=BB e1 vp (iO e1 vp);have:p'=p:=JZ p' ED p hp (by rw[oK.1,aI1.1]);subst this;obtain⟨ho,xx,t3,s3,N2,hxn⟩:=xo;rw[ay7,N2]at ho;cases ho;exact hxn rfl
         exact over a1 w2 _ uD (Aw.step (.of_heap dU.heap dU.tape dU.os dU.out)) (hRr.of_heap dU.heap) (QW.trans (.of_heap dU.heap dU.tape dU.os dU.out)) hf _ rfl
        ·refine tU hF uh hog hod hoo hpg hpd hpo (vs:= #[.bool true,en.key,en.val]) (b:=true) rfl (bC Xf uD.size) (λty=>by rw[Rl uD];exact dK ty) ?_;have aI2:Rel P ρ s1 w2:=hRr.of_heap dU.heap;have aUu:je ρ s1 w1 ρ s1 w2:= .of_heap dU.heap dU.tape dU.os dU.out;generalize I2:({w2 with heap:=w2.heap.setIfInBounds x.b (.mapIter (some y.b) ck (seen.push en.born) ck)}:World)=w3;have Vl:Rel P ρ s1 w3:=by rw[<-I2];exact aI2.abI hnh (λi=>by simp[World.cell?,dU.heap,RO])
         have hxs:x.b<w2.heap.size:=by have:=(Array.getElem?_eq_some_iff.1 RO).1;rw[dU.heap];exact this
         have awy:w3.heap[x.b]? =some (.mapIter (some y.b) ck (seen.push en.born) ck):=by rw[<-I2];simp[hxs]
         have Vd:y.b≠x.b:= λe=>hnh ⟨mb,_,y,aww,hy,e⟩;have akH:w3.heap[y.b]? =some (.map cJ ck):=by rw[<-I2];simp only;rw[eQ (jd Vd),dU.heap];exact Wu
         have Uw:∀b,b≠x.b->w3.heap[b]? =w1.heap[b]?:= λb hb=>by rw[<-I2];simp only;rw[eQ (jd hb),dU.heap]
         have I3:w3.heap.size=w1.heap.size:=by rw[<-I2];simp[dU.heap]
         have ht3:w3.tape=w1.tape∧w3.os=w1.os∧w3.output=w1.output:=by rw[<-I2];exact⟨dU.tape,dU.os,dU.out⟩
         have Vf:s.lim<=ib:=(AS.mP dm).2;have ay8:w.heap[x.b]? =some (.mapIter (some y.b) ck #[] ck):=WA;have hS3:je ρ s w ρ s1 w3:=by
          refine⟨QW.Nq,QW.nx,by rw[ht3.1];exact QW.tape,by rw[ht3.2.1];exact QW.os,by rw[ht3.2.2];exact QW.out,by rw[I3];exact QW.size,λb hb hn=>?_,QW.ph,λb l hb=>?_,QW.lim,QW.low,λa' k' x' hl hn oL ug xu=>?_⟩
          ·have zH:b≠x.b:= λe=>hn ⟨ib,_,x,Gc,hx,e.symm⟩;obtain⟨q1,q2⟩:=QW.frame b hb hn;exact⟨by rw[Uw b zH];exact q1,q2⟩
          ·have zH:b≠x.b:= λe=>by rw[e,ay8]at hb;cases hb
           rw[Uw b zH];exact QW.lp b l hb
          ·have zH:x'.b≠x.b:= λe=>by
            have so:a'≠ib:=by omega
            have:=(hR.pc a' ib k' _ x' x so oL Gc xu hx e).1;rw[ug]at this;cases this
           rw[Uw _ zH];exact QW.Lh a' k' x' hl hn oL ug xu
         have hM3:Marks n0 ρ s1 w3 a1.defers:=by
          refine Aw.re (λd hd=>?_);obtain⟨r,q1,q2,q3,q4,q5⟩:=hd;have hrx:r≠x.b:= λe=>by rw[e,RO]at q2;cases q2
          exact⟨r,q1,by rw[Uw r hrx];exact q2,by rw[I3];exact q3,q4,q5⟩
         have hL3:∀l,F.round=some l->∃r,w3.heap[l]? =some (Obj.loop r):=rP hL hS3;have Ze:n0.n<=w3.heap.size:=di vX hS3.size;refine Y1 ?_;have QT:=uD.DB (u:= .tuple #[.bool true,en.key,en.val]) ZD;have he9:((a1.put (some m.d1) (.tuple #[.bool true,en.key,en.val])).put (some m.t9) (.bool true)).eval (.tmp m.t9)= .bool true:=mF (iG (bC h9 QT.size));refine wpIn_cond he9 ?_;refine wpIn_skip ?_;show(Code.block m.b1 (.seq (.region i2 r2 false) m.body)).wpIn F 0 P _ _ w3;obtain⟨pe,hpe,xn⟩:=apA en Vm;have Iu:bN ρ pe.1 en.key:=by rw[xn.1];have:=xn.2.2.1;rw[xn.1]at this;exact HH this
         have GI:∀(sA:AS) (xx:cZ) (tx:T Value) (sx:AS),jY M ev (pe.1,pe.2.1) rT sA= .code xx tx sx->Rel P ρ sA w3->Marks n0 ρ sA w3 a1.defers->∀Q':Exit->Act->World->Prop,Mm P n0 an nt ρ sA w3 xx tx sx Q'->
           (Code.block m.b1 (.seq (.region i2 r2 false) m.body)).wpIn F 0 P Q' ((a1.put (some m.d1) (.tuple #[.bool true,en.key,en.val])).put (some m.t9) (.bool true)) w3:=by
          intro sA xx tx sx Dm hRA hMA Q' hQ';rw[agA]at Dm;cases hp:T.put (some (.bool true)) rT m.t9 with
          |none=>rw[hp]at Dm;cases Dm
          |some eP=>
           rw[hp]at Dm;have hE3:=QT.put hk9 h9 (.bool true) hp;have aI3:((a1.put (some m.d1) (.tuple #[.bool true,en.key,en.val])).put (some m.t9) (.bool true)).eval (.tmp m.it)= .pointer (some ⟨x.b,0,none⟩):=by
            have aI4:m.it≠m.d1:= λe=>by rw[e,ZD]at awu;cases awu
            rw[qe (by intro e;exact aIW (by injection e)),qe (by intro e;exact aI4 (by injection e))];exact Rl uD
           exact P9 j7 hF aIV Xd zO hqg hqd hqo aIX hd2 (k:=pe.1) (v:=pe.2.1) Dm hE3 Ze (by rw[jA,jA];exact hMA) hL3 hRA (by rw[aI3];exact Kl awy akH Nt Vm) Iu xn.2.2.2.1 hQ'
         rcases sp1 pe hpe with eH|⟨o,QP,xo⟩
         ·have aI5:=eH;obtain⟨_,tx,sx,Dm,ay9⟩:=aI5;have hRL:Rel P ρ ⟨s1.h,s1.nx,s1.nx⟩ w3:=⟨Vl.uz,Vl.top,Vl.jI,af _,Vl.pc,Vl.gl⟩
          refine GI _ .normal tx sx Dm hRL (hM3.re (λ_ h=>h)) _ (λρ' a' w' Xh Xk Dn Av=>?_);have hle:=Av.le hRL;have abJ:∀q,q<s1.nx->sx.h.get q=s1.h.get q:= λq hq=>Av.low q hq;have hRd:Rel P ρ s1 w':=Vl.down Dn hle abJ;have QO:w'.heap[x.b]? =w3.heap[x.b]?:=(Av.frame x.b (by rw[I3];exact(Array.getElem?_eq_some_iff.1 RO).1) hnh).1;have hfm:w'.heap[y.b]? =w3.heap[y.b]?:=Av.Lh mb _ y akG akG aww rfl hy;have hSd:je ρ s1 w3 ρ s1 w':=by refine⟨λ_ _=>rfl,af _,Av.tape,Av.os,Av.out,Av.size,λb hb hn=>⟨(Av.frame b hb hn).1,hn⟩,λ_ _ _=> .inl rfl,Av.lp,rfl,λ_ _=>rfl,λq k' x' hl hn oL ug xu=>?_⟩;exact Av.Lh q k' x' (bC hl Vl.lim) hn oL ug xu
          have abK:w'.heap[x.b]? =some (.mapIter (some y.b) ck (seen.push en.born) ck):=by rw[QO];exact awy
          refine⟨⟨⟨Xh.size,hE0.tk,Ki hle uD.env (λt v hv=>Xh.env t v (ye ay9 t v hv))⟩,(Xk.re (λd hd=>?_)),hRd,hS3.trans hSd,by rw[hfm];exact akH,_,abK,λe1 vp qR=>?_⟩,?_⟩
          ·obtain⟨r,q1,q2,q3,q4,q5⟩:=hd;exact⟨r,q1,q2,q3,λhh=>q4 (hh.up Vl hle abJ),q5⟩
          ·rw[kZ]at qR;rcases List.mem_append.1 qR with qR|qR
           ·exact BB e1 vp qR
           ·simp only[zW]at qR;have:=ay6 e1 vp en Vm qR;subst this;exact⟨pe,hpe,xn,eH⟩
          ·rw[hμ];show(match w'.heap[x.b]? with|some (.mapIter _ _ seen _)=>(cJ.toList.filter λ(e:MapEntry)=>!seen.toList.contains e.born).length|_=>0)<_;rw[abK];simp only[kZ];exact yB ⟨en,Vm,rfl⟩ lG
         ·obtain⟨ho,xx,t3,s3,rfl,hxn⟩:=xo;subst QP;have h:Out.code xx t3 s3= .code e tm' s':=h;cases h;refine GI s1 e tm' s' ho Vl hM3 _ (λρ' a' w' Xh Xk Dn Av=>?_);have:=hQ ρ' a' w' Xh Xk Dn (hS3.trans Av);cases e with
          |normal=>exact(hxn rfl).elim
          |exit id=>exact this
          |goto l=>exact this
          |ret=>exact this
   ·cases h
  ·cases h
def akI {an:Nat} (c:Code):pf P an nt c (λ_ _ _=> .no):= λev j7 F hF ρ tm s a w x tm' s' h=>by cases h
def XS {o:Option CF} {f:CF} (h:anI o=some f):o=some f∨f= λ_ _ _=> .no:=by
 cases o with
 |none=>cases h;exact .inr rfl
 |some g=>cases h;exact .inl rfl
def ac4 (hP:kz P) (hm:P.follows .mixedOrders=true) {an fn:Nat}:∀(n:Nat) (c:Code) (f:CF),pE P fn nt an n c=some f->pf P an nt c f:=by
 intro n;induction n with
 |zero=>intro c f h;cases h
 |succ n ih=>
  intro c;cases c with
  |skip=>intro f h;cases h;exact agp
  |region id ops draw=>
   intro f h;have h:anI (aD draw (R8 P an nt ops.toList λst last=>some (fe st last)) (ob (mC P an nt ops.toList ops.toList []) Um))=some f:=h;rcases XS h with h|rfl
   ·cases draw with
    |true=>exact agy hm h
    |false=>obtain⟨l,hl,h⟩:=ak h;rw[acO]at h;cases h;exact IG hl
   ·exact akI _
  |seq a b=>intro f h;have h:ob (pE P fn nt an n a) (λa=>ob (pE P fn nt an n b) λb=>some (ah a b))=some f:=h;obtain⟨fa,ha,h⟩:=ak h;obtain⟨fb,hb,h⟩:=ak h;cases h;exact apu (ih a fa ha) (ih b fb hb)
  |cond c a b=>intro f h;have h:ob (jn an [] c) (λc=>ob (pE P fn nt an n a) λa=>ob (pE P fn nt an n b) λb=>some (bw c a b))=some f:=h;obtain⟨fc,hc,h⟩:=ak h;obtain⟨fa,ha,h⟩:=ak h;obtain⟨fb,hb,h⟩:=ak h;cases h;exact ags hc (ih a fa ha) (ih b fb hb)
  |block id a=>intro f h;have h:ob (pE P fn nt an n a) (λa=>some (bP id a))=some f:=h;obtain⟨fa,ha,h⟩:=ak h;cases h;exact acZ (ih a fa ha)
  |loop a=>
   intro f h;have h:(match ya a with
    |some m=>zi P nt an (pE P fn nt an n) (VC a) m
    |none=>ob (pE P fn nt an n a) λa=>some (fM a))=some f:=h
   split at h
   ·rename_i m hs;exact Ts hs h (λc cf hc=>ih c cf hc)
   ·obtain⟨fa,ha,h⟩:=ak h;cases h;exact agt (ih a fa ha)
  |rangeFunc g ps atz bd=>intro f h;have h:ob (jn an [] g) (λf=>aD (Wr (λp=>Nat.blt p nt) ps.toList) (some (lJ P fn nt an f ps.toList atz bd)) none)=some f:=h;obtain⟨fg,hg,h⟩:=ak h;obtain⟨QQ,h⟩:=aY h;cases h;exact Nc hP hg λp hp=>aO (zo QQ p hp)
  |exit id=>intro f h;cases h;exact agq id
  |scope a=>intro f h;have h:ob (pE P fn nt an n a) (λa=>some (R9 a))=some f:=h;obtain⟨fa,ha,h⟩:=ak h;cases h;exact acY (ih a fa ha)
  |label l=>intro f h;cases h;exact acX l
  |goto l=>intro f h;cases h;exact agr l
  |ret=>intro f h;cases h;exact apt
  |refuse w=>intro f h;cases h;exact akI _
def Mq (hP:kz P) (hm:P.follows .mixedOrders=true) {an fn:Nat} (c:Code) (f:CF) (h:il P fn nt an c=some f):pf P an nt c f:=ac4 hP hm 1000 c f h
def zb (tmps:Array Value):ResultVar->Sem Value
 | .tmp t=>pure (tmps.getD t undef)
 | .cell a t=>do loadVar t (<-asAddr (tmps.getD a undef))
def Tt {tmps:Array Value} {r:ResultVar} (hR:Rel P ρ s w) (hE:Bj ρ tm tmps) (h:Md P s tm r=some v):∃u,(zb tmps r).run P w= .ok u w∧bN ρ v u:=by
 cases r with
 |tmp t=>have h:tm.get t=some v:=h;obtain⟨u,hu,hv⟩:=hE t v h;refine⟨u,?_,hv⟩;show Sem.run P (pure (tmps.getD t undef)) w=_;rw[bV,hu];rfl
 |cell a t=>
  have h:ob (tm.get a) (λa=>xG P t s a)=some v:=h;obtain⟨p,hp,h⟩:=ak h;obtain⟨u,hu,hv⟩:=hE a p hp;obtain⟨r,h1,h2⟩:=EW hR h hv;refine⟨r,?_,h2⟩;unfold xG at h;split at h
  ·cases hv with| @ptr _ x off hx=>?_
   have e1:(Instr.loadAt t (.pointer (some ⟨x.b,x.base+off,none⟩)))=loadVar t ⟨x.b,x.base+off,none⟩:=rfl;show Sem.run P (do loadVar t (<-asAddr (tmps.getD a undef))) w=_;rw[bV,hu];rw[e1]at h1;exact h1
  ·unfold Of at h;split at h
   ·rename_i g off _;cases hv with| @EJ g off=>?_
    have e1:(Instr.loadAt t (.pointer (some ⟨g,off,none⟩)))=loadVar t ⟨g,off,none⟩:=rfl;show Sem.run P (do loadVar t (<-asAddr (tmps.getD a undef))) w=_;rw[bV,hu];rw[e1]at h1;exact h1
   ·cases h
def Kn {ρ:Ren} {s:AS} {w:World} {tm:T Value} {tmps:Array Value} (hR:Rel P ρ s w) (hE:Bj ρ tm tmps):∀(l:List ResultVar) (vs:LVal),yb P s tm l=some vs->∃us,(l.mapM (zb tmps)).run P w= .ok us w∧bJ ρ vs us
 | [],vs,h=>by have h:some []=some vs:=h;cases h;exact⟨[],rfl,.nil⟩
 |r::l,vs,h=>by have h:ob (Md P s tm r) (λv=>ob (yb P s tm l) λl=>some (v::l))=some vs:=h;obtain⟨v,hv,h⟩:=ak h;obtain⟨QN,Fo,h⟩:=ak h;cases h;obtain⟨u,h1,h2⟩:=Tt hR hE hv;obtain⟨us,h3,h4⟩:=Kn hR hE l QN Fo;refine⟨u::us,?_,.cons h2 h4⟩;rw[List.mapM_cons];simp only[aI,h1,aj,h3,aN]
def Tu (fn:Func) (tmps:Array Value):results fn tmps=(do let vs<-fn.results.mapM (zb tmps);pure (if h:vs.size=1 then vs[0]else .tuple vs)):=by unfold results;congr 1
def HI {tmps:Array Value} {fn:Func} (hR:Rel P ρ s w) (hE:Bj ρ tm tmps) (h:xS P fn.results.toList tm s= .val v s'):s'=s∧∃u,(results fn tmps).run P w= .ok u w∧bN ρ v u:=by
 have h:oR Out .no (λvs=>match vs with
  | [v]=> .val v s
  |vs=> .val (.tuple ⟨vs⟩) s) (yb P s tm fn.results.toList)= .val v s':=h
 cases hr:yb P s tm fn.results.toList with
 |none=>rw[hr]at h;cases h
 |some vs=>
  rw[hr]at h;obtain⟨us,h1,h2⟩:=Kn hR hE _ _ hr;have dK:(fn.results.mapM (zb tmps)).run P w= .ok us.toArray w:=by
   rw[Array.mapM_eq_mapM_toList];have:(Functor.map List.toArray (fn.results.toList.mapM (zb tmps)))=(do let l<-fn.results.toList.mapM (zb tmps);pure l.toArray):=by rw[map_eq_pure_bind]
   rw[this];simp only[aI,h1,aj,aN]
  rw[Tu];simp only[aI,dK,aj,aN];have hl:=h2.length
  match vs,us,h2,h with
  | [v'],[u'],.cons hv .nil,h=>cases h;exact⟨rfl,u',rfl,hv⟩
  | [],[],h2,h=>cases h;exact⟨rfl,.tuple #[],rfl,.tuple .nil⟩
  |v1::v2::vs,u1::u2::us,h2,h=>cases h;refine⟨rfl,.tuple (u1::u2::us).toArray,?_,.tuple h2⟩;simp
def run_takeDeferred (h:w.heap[r]? =some (.deferred (some []))):(Instr.takeDeferred r).run P w= .ok [] {w with heap:=w.heap.setIfInBounds r (.deferred none)}:=by simp only[Instr.takeDeferred,aI,eM h (by simp),aj,ky h (by simp),aN]
def Ko {F:Fence} {fn:Func} {tmps:Array Value} {R:Ending->World->Prop} {n0:Nat} {qA ρ:Ren} {s0 s:AS} {w0:World} (vX:n0=w0.heap.size) (ds0:List Deferred)
  (hQ:∀w,Rel P ρ s w->je qA s0 w0 ρ s w->LeavesInM F 0 P fn tmps R ds0 .returning w):∀(ds:List Deferred) (w:World),(∀d∈ds,∃r,d.target= .collected r∧w.heap[r]? =some (.deferred (some []))∧r<w.heap.size∧¬xl ρ s r∧n0<=r)->(ds.Pairwise λd d'=>∀r,d.target= .collected r->d'.target≠.collected r)->Rel P ρ s w->je qA s0 w0 ρ s w->LeavesInM F 0 P fn tmps R (ds++ds0) .returning w
 | [],w,_,_,hR,hS=>hQ w hR hS
 |d::ds,w,Xg,hap,hR,hS=>by
  obtain⟨r,h1,h2,h3,h4,h5⟩:=Xg d (by simp);refine⟨by simp,.inl ⟨r,_,h1,run_takeDeferred h2,Ko vX ds0 hQ ds _ (λd' Ir=>?_) (List.pairwise_cons.1 hap).2 (hR.abI h4 (λi=>by simp[World.cell?,h2])) ?_⟩⟩
  ·obtain⟨r',e1,e2,e3,e4,e5⟩:=Xg d' (by simp[Ir]);have ed:r≠r':= λe=>(List.pairwise_cons.1 hap).1 d' Ir r h1 (by rw[e1,e]);exact⟨r',e1,by simp[ed,e2],by simpa using e3,e4,e5⟩
  ·refine⟨hS.Nq,hS.nx,hS.tape,hS.os,hS.out,by simpa using hS.size,λb hb hn=>?_,hS.ph,λb l hb=>?_,hS.lim,hS.low,λa k x hl hn hk ug hx=>?_⟩
   ·obtain⟨a1,a2⟩:=hS.frame b hb hn;have ed:r≠b:=by omega
    exact⟨by simp[ed,a1],a2⟩
   ·obtain⟨r',oK⟩:=hS.lp b l hb;have ed:r≠b:= λe=>by rw[e,oK]at h2;cases h2
    exact⟨r',by simp[ed,oK]⟩
   ·have ed:r≠x.b:= λe=>h4 ⟨a,k,x,by rw[hS.low a hl];exact hk,by rw[hS.Nq a hn];exact hx,e.symm⟩;rw[<-hS.Lh a k x hl hn hk ug hx];simp[ed]
def Nd {fn:Func} {tmps:Array Value} {R:Ending->World->Prop} {qA:Ren} {w0:World} (hv:∀w,Rel P ρ s w->∃u,(results fn tmps).run P w= .ok u w∧bN ρ v u) (hQ:∀u w,bN ρ v u->Rel P ρ s w->je qA s0 w0 ρ s w->R (.returned u) w) (ds:List Deferred) (w:World) (hM:Marks ⟨w0.heap.size,[]⟩ ρ s w ds) (hR:Rel P ρ s w) (hS:je qA s0 w0 ρ s w):LeavesInM F 0 P fn tmps R ds .returning w:=by
 obtain⟨ms,he,Xg,hap⟩:=hM.own;rw[he];exact Ko (n0:=w0.heap.size) rfl _ (λw hR hS=>by obtain⟨u,h1,h2⟩:=hv w hR;exact⟨u,h1,hQ u w h2 hR hS⟩) ms w Xg hap hR hS
def E8 {an:Nat} {t t':T Value} (h:vL an i v t=some t'):∀j,t'.get j=if kept an i=true∧j=i then some v else t.get j:=by
 have h:aD (kept an i) (T.put (some v) t i) (some t)=some t':=h;cases hk:kept an i with
 |true=>rw[hk,aS]at h;intro j;rw[T.jw _ _ _ _ h j];simp
 |false=>rw[hk,de]at h;cases h;intro j;simp
def yE {an:Nat}:∀(l:LVal) (i:Nat) (t t':T Value),pG an l i t=some t'->∀j v,t'.get j=some v->(kept an j=true∧i<=j∧l[j-i]? =some v)∨t.get j=some v
 | [],i,t,t',h,j,v,hv=>by have h:some t=some t':=h;cases h;exact .inr hv
 |a::l,i,t,t',h,j,v,hv=>by
  have h:ob (vL an i a t) (λt'=>pG an l (Nat.succ i) t')=some t':=h;obtain⟨t1,h1,h⟩:=ak h;rcases yE l _ _ _ h j v hv with ⟨e1,e2,e3⟩|e
  ·refine .inl ⟨e1,by omega,?_⟩;rw[show j-i=(j-(i+1))+1 by omega];simpa using e3
  ·rw[E8 h1]at e;split at e
   ·rename_i hc;cases e;obtain⟨hk,rfl⟩:=hc;exact .inl ⟨hk,by omega,by simp⟩
   ·exact .inr e
def aza (hP:kz P) (hm:P.follows .mixedOrders=true) {an:Nat} {fn:Func} {c:Code} (hf:P.funcs[f]? =some fn) (hb:fn.body=some c) {t0:T Value} (vq:IN fn.ntmps=some t0) {b:CF} (hc:il P f fn.ntmps an c=some b) {ev:Ev} (j7:mj P ev) {args args':LVal} (h:fFn P an t0 fn.results.toList b ev args s= .val v s') (hR:Rel P ρ s w) (ha:bJ ρ args args'):
  CallsIn Fence.wide 0 P f args'.toArray w λe w'=>∃u,e= .returned u∧∃ρ',bN ρ' v u∧Rel P ρ' s' w'∧je ρ s w ρ' s' w':=by
 have h:oR Out .no (λtm=>uS P fn.results.toList (b ev tm s)) (pG an args 0 t0)= .val v s':=h;cases hp:pG an args 0 t0 with
 |none=>rw[hp]at h;cases h
 |some tm=>
  rw[hp]at h;have h:uS P fn.results.toList (b ev tm s)= .val v s':=h;have hlen:=ha.length;have hE:js an fn.ntmps ρ tm {tmps:=args'.toArray++Array.replicate (fn.ntmps-args'.toArray.size) undef,defers:= []}:=by
   refine⟨by simp;omega,λt v hv=>?_,λt v hv=>?_⟩
   ·rcases yE _ _ _ _ hp t v hv with ⟨h1,_,_⟩|h1
    ·exact h1
    ·rw[Me _ _ vq]at h1;cases h1
   ·rcases yE _ _ _ _ hp t v hv with ⟨_,_,h1⟩|h1
    ·obtain⟨u,hu,mu⟩:=ha.get h1;refine⟨u,?_,mu⟩;have cS:t<args'.length:=by
      have:=(List.getElem?_eq_some_iff.1 hu).1;simpa using this
     rw[Array.getElem?_append_left (by simpa using cS)];simpa using hu
    ·rw[Me _ _ vq]at h1;cases h1
  refine callsIn_of_wp_marks hf hb trivial ?_;cases ho:b ev tm s with
  |no=>rw[ho]at h;cases h
  |val=>rw[ho]at h;cases h
  |code x eP s1=>
   rw[ho]at h;have fin:∀ρ' a' w',js an fn.ntmps ρ' eP a'->Marks ⟨w.heap.size,[]⟩ ρ' s1 w' a'.defers->Rel P ρ' s1 w'->je ρ s w ρ' s1 w'->xS P fn.results.toList eP s1= .val v s'->
     LeavesInM Fence.wide 0 P fn a'.tmps (λe w'=>∃u,e= .returned u∧∃ρ',bN ρ' v u∧Rel P ρ' s' w'∧je ρ s w ρ' s' w') a'.defers .returning w':=by
    intro ρ' a' w' Xh Xk Dn Av awz;obtain⟨Vc,_⟩:=HI Dn Xh.env awz;rw[Vc];exact Nd (λw2 BJ=>(HI BJ Xh.env awz).2) (λu w2 hu BJ JJ=>⟨u,rfl,ρ',hu,BJ,JJ⟩) _ _ Xk Dn Av
   refine Mq hP hm c b hc ev j7 Fence.wide (.inl rfl) ρ tm s _ w x eP s1 ho hE ⟨w.heap.size,[]⟩ (af _) .nil (λl hl=>(by cases hl)) hR _ (λρ' a' w' Xh Xk Dn Av=>?_);cases x with
   |normal=>exact fin ρ' a' w' Xh Xk Dn Av h
   |ret=>exact fin ρ' a' w' Xh Xk Dn Av h
   |exit id=>cases h
   |goto l=>cases h
def Am {kp:Nat}:∀(ps:List Tmp) (l:LVal) (t t':T Value),nu kp ps l t=some t'->∀ {ρ:Ren} {l':LVal} {tmps:Array Value},bJ ρ l l'->Bj ρ t tmps->(∀p∈ps,p<tmps.size)->(∀j v,t.get j=some v->kept kp j=true)->
  l'.length=ps.length∧Bj ρ t' ((ps.toArray.zip l'.toArray).foldl (λtmps (t,a)=>tmps.setIfInBounds t a) tmps)∧(∀j v,t'.get j=some v->kept kp j=true)∧((ps.toArray.zip l'.toArray).foldl (λtmps (t,a)=>tmps.setIfInBounds t a) tmps).size=tmps.size
 | [],l,t,t',h,ρ,l',tmps,hl,hE,_,hk=>by
  cases l with
  |nil=>have h:some t=some t':=h;cases h;cases hl;exact⟨rfl,by simpa using hE,hk,by simp⟩
  |cons=>cases h
 |p::ps,l,t,t',h,ρ,l',tmps,hl,hE,cS,hk=>by
  cases l with
  |nil=>cases h
  |cons v l=>
   have h:ob (vL kp p v t) (λt'=>nu kp ps l t')=some t':=h;obtain⟨t1,h1,h⟩:=ak h;cases hl with| @cons _ u _ l' hv hs=>?_
   have hg:=E8 h1;obtain⟨a1,a2,a3,a4⟩:=Am ps l t1 t' h (tmps:=tmps.setIfInBounds p u) hs (λj w hw=>by
    rw[hg]at hw;by_cases e:j=p
    ·subst e;by_cases hkp:kept kp j=true
     ·rw[aU ⟨hkp,rfl⟩]at hw;cases hw;exact⟨u,by simp[cS j (by simp)],hv⟩
     ·rw[aC (λh=>hkp h.1)]at hw;exact(hkp (hk j w hw)).elim
    ·rw[aC (λh=>e h.2)]at hw;obtain⟨u',zI,hr⟩:=hE j w hw;exact⟨u',by rw[eQ (jd e)];exact zI,hr⟩) (λq hq=>by simpa using cS q (by simp[hq])) (λj w hw=>by
    rw[hg]at hw;split at hw
    ·rename_i hc;rw[hc.2];exact hc.1
    ·exact hk j w hw)
   refine⟨by simp[a1],?_,a3,?_⟩
   ·rw[List.zip_toArray]at a2⊢;simpa using a2
   ·rw[List.zip_toArray]at a4⊢;simpa using a4
def run_getLoop {l:Nat} {r:Loop} (h:w.heap[l]? =some (.loop r)):(Instr.getLoop l).run P w= .ok r w:=by simp only[Instr.getLoop,aI,amr h,aj,aN]
def run_yield {l:Nat} {r:Loop} {args:Array Value} (h:w.heap[l]? =some (.loop r)) (ha:args.size=r.params.size):
  (Instr.yield l args).run P w= .ok (.round l r.fn ((r.params.zip args).foldl (λtmps (t,a)=>tmps.setIfInBounds t a) r.tmps) r.assign r.body) w:=by
 simp only[Instr.yield,aI,run_getLoop h,aj,ha,ne_eq,not_true_eq_false,eG,aN]
def run_beginRound {l:Nat} {r:Loop} (h:w.heap[l]? =some (.loop r)) (hs:r.state= .ready):(Instr.beginRound l).run P w= .ok () (w.putObj l (.loop {r with state:= .busy})):=by simp only[Instr.beginRound,aI,run_getLoop h,aj,ams _ h,hs,aN]
def run_endRound {l:Nat} {r:Loop} {j:Option Code} (h:w.heap[l]? =some (.loop r)):(Instr.endRound l j).run P w= .ok (.bool j.isNone) (w.putObj l (.loop {r with state:=if j.isNone then .ready else .done,pending:=j})):=by simp only[Instr.endRound,aI,run_getLoop h,aj,ams _ h,aN]
def An {ev:Ev} {o:Option CF} {x:cZ} (h:lI ev o tm s= .code x tm' s'):∃f,o=some f∧f ev tm s= .code x tm' s':=by
 cases o with
 |none=>cases h
 |some f=>exact⟨f,rfl,h⟩
def ac5 (hP:kz P) (hm:P.follows .mixedOrders=true) {ev:Ev} (j7:mj P ev) {l:Nat} {args args':LVal} (h:zj P ev l args s= .val v s') {x:Loc} (hR:Rel P ρ s w) (hx:ρ l=some x) (ha:bJ ρ args args'):
  jx P (Instr.yield x.b args'.toArray) w λu w'=>∃ρ',bN ρ' v u∧Rel P ρ' s' w'∧je ρ s w ρ' s' w':=by
 obtain⟨st,pend,fn,nt,kp,tm,ps,atz,bd,Gc,h⟩:=tv h (by simp);have h:st= .ready∧oR Out .no (λeP=>beginRound ev l (il P fn nt kp bd) (lI ev (il P fn nt kp atz) eP s)) (nu kp ps args tm)= .val v s':=by cases st<;>first|(cases h;done)|exact⟨rfl,h⟩
 obtain⟨rfl,h⟩:=h;cases Lu:nu kp ps args tm with
 |none=>rw[Lu]at h;cases h
 |some eP=>
  rw[Lu]at h;have h:beginRound ev l (il P fn nt kp bd) (lI ev (il P fn nt kp atz) eP s)= .val v s':=h;obtain⟨cS,tmps,fn',d,hh,h1,h2,h3,h4⟩:=hR.jI l _ x Gc hx;obtain⟨a1,a2,a3,a4⟩:=Am ps args tm eP Lu ha h1 (λp hp=>bC (h4 p hp) h3) h2;unfold jx;rw[run_yield hh (by simpa using a1)];simp only;cases ho:lI ev (il P fn nt kp atz) eP s with
  |no=>rw[ho]at h;cases h
  |val=>rw[ho]at h;cases h
  |code e1 Fm s2=>
   rw[ho]at h;have hn:e1= .normal:=by cases e1<;>first|rfl|(cases h;done)
   subst hn;have h:oG (s2.h.get l) (λst pend fn2 nt2 kp2 tm ps assign body=>match st with
    | .ready=>ik s2 l (.loop .busy pend fn2 nt2 kp2 tm ps assign body) λs3=>endRound l (lI ev (il P fn nt kp bd) Fm s3)
    |_=> .no)= .val v s':=h
   obtain⟨st2,aaI,fn2,nt2,kp2,aI6,ps2,as2,bd2,azb,h⟩:=tv h (by simp);have h:st2= .ready∧(ik s2 l (.loop .busy aaI fn2 nt2 kp2 aI6 ps2 as2 bd2) λs3=>endRound l (lI ev (il P fn nt kp bd) Fm s3))= .val v s':=by cases st2<;>first|(cases h;done)|exact⟨rfl,h⟩
   obtain⟨rfl,h⟩:=h;obtain⟨s3,gy,h⟩:=yz h (by simp);obtain⟨fa,hfa,ho⟩:=An ho;cases N6:lI ev (il P fn nt kp bd) Fm s3 with
   |no=>rw[N6]at h;cases h
   |val=>rw[N6]at h;cases h
   |code e4 tm4 s4=>
    rw[N6]at h;obtain⟨fb,hfb,N6⟩:=An N6;have h:oG (s4.h.get l) (λ_ _ fn nt kp tm ps assign body=>match(generalizing:=false) e4 with
     | .normal=>ik s4 l (.loop .ready none fn nt kp tm ps assign body) λs5=> .val (.bool true) s5
     | .ret=>ik s4 l (.loop .done (some .ret) fn nt kp tm ps assign body) λs5=> .val (.bool false) s5
     | .exit id=>ik s4 l (.loop .done (some (.exit id)) fn nt kp tm ps assign body) λs5=> .val (.bool false) s5
     | .goto _=> .no)= .val v s':=h
    obtain⟨Lw,aPt,fn5,nt5,kp5,tm5,ps5,as5,bd5,azc,h⟩:=tv h (by simp);have awA:l<s.nx:=dg λhle=>by rw[hR.uz l hle]at hx;cases hx
    refine roundIn_of_wpIn trivial ?_;have hL:∀l',(Fence.wide.inRound x.b).round=some l'->∃r,w.heap[l']? =some (Obj.loop r):= λl' N1=>by have:x.b=l':=bh N1;rw[<-this];exact⟨_,hh⟩
    refine Mq hP hm atz fa hfa ev j7 (Fence.wide.inRound x.b) (.inr ⟨_,rfl⟩) ρ eP s {tmps:=(ps.toArray.zip args'.toArray).foldl (λtmps (t,a)=>tmps.setIfInBounds t a) tmps,defers:= []} w .normal Fm s2 ho ⟨di h3 (ayG a4.symm),a3,a2⟩ ⟨w.heap.size,[]⟩ (af _) .nil hL hR _ (λoM a2' w2 QT Xi BJ JJ=>?_);have Nv:oM l=some x:=by rw[JJ.Nq l awA];exact hx
    obtain⟨r2,zO,rs2,_,_,_,_,_,_,_,_,Vl,hS3⟩:=GW BJ Nv azb gy;refine⟨_,run_beginRound zO rs2,?_⟩;have hrr:({r2 with state:=LoopState.busy}:Loop)={r2 with state:=LoopState.busy,pending:=aaI}:=by
     have:r2.pending=aaI:=by assumption
     rw[<-this]
    rw[hrr];have ZC:=JJ.trans hS3;refine Mq hP hm bd fb hfb ev j7 (Fence.wide.inRound x.b) (.inr ⟨_,rfl⟩) oM Fm s3 a2' _ e4 tm4 s4 N6 QT ⟨w.heap.size,[]⟩ ZC.size (Xi.step hS3) (rP hL ZC) Vl _ (λFs a4' w4 hE4 _ hR4 hS4=>?_)
    ·have awB:=ZC.trans hS4;have hx4:Fs l=some x:=by rw[awB.Nq l awA];exact hx
     have fin:∀(st':LoopState) (j:Option Code),(ik s4 l (.loop st' j fn5 nt5 kp5 tm5 ps5 as5 bd5) λs5=> .val (.bool j.isNone) s5)= .val v s'->st'=(if j.isNone then .ready else .done)->
       ∃v1 w5,(Instr.endRound x.b j).run P w4= .ok v1 w5∧∃u,Ending.returned v1= .returned u∧∃ρ',bN ρ' v u∧Rel P ρ' s' w5∧je ρ s w ρ' s' w5:=by
      intro st' j xp wT;obtain⟨s5,oE,xp⟩:=yz xp (by simp);cases xp;obtain⟨r5,I4,_,_,_,_,_,_,_,_,_,hR5,hS5⟩:=GW hR4 hx4 azc oE;refine⟨_,_,run_endRound I4,_,rfl,Fs,.bool _,?_,?_⟩
      ·rw[<-wT];exact hR5
      ·rw[<-wT];exact awB.trans hS5
     cases e4 with
     |normal=>exact fin .ready none h rfl
     |ret=>exact fin .done (some .ret) h rfl
     |exit id=>exact fin .done (some (.exit id)) h rfl
     |goto l=>cases h
def yW (P:Program) (f:Nat) (F:FF):Prop:=∀ev,mj P ev->∀args s v s',F ev args s= .val v s'->∀ρ w args',Rel P ρ s w->bJ ρ args args'->
 jx P (callFunc f args'.toArray) w λu w'=>∃ρ',bN ρ' v u∧Rel P ρ' s' w'∧je ρ s w ρ' s' w'
def vO (P:Program) (f:Nat):Ext->Prop
 | .same=>∃fn,P.funcs[f]? =some fn∧fn.body.isNone=true∧Extern.findNext fn=none∧Extern.find fn=some Extern.AbiNoEscape.same
 | .cmp=>∃fn,P.funcs[f]? =some fn∧fn.body.isNone=true∧Extern.findNext fn=none∧Extern.find fn=some Extern.BytealgCompare.compare
 | .makeNoZero et=>∃fn ps t,P.funcs[f]? =some fn∧fn.body.isNone=true∧Extern.findNext fn=none∧Extern.find fn=some (Extern.BytealgMakeNoZero.makeNoZero ps #[t])∧P.underlying t=some (.slice et)
 | .kP=>∃fn,P.funcs[f]? =some fn∧fn.body.isNone=true∧Extern.findNext fn=none∧Extern.find fn=some Extern.BytealgIndexByte.indexByte
def HJ:∀(a b:List UInt8),Lib.compareBytes a b=if Op.bytesLess a b=true then-1 else if(a==b)=true then 0 else 1
 | [],[]=>rfl
 | [],_::_=>rfl
 |_::_,[]=>rfl
 |x::a,y::b=>by
  have ih:=HJ a b;show(if x<y then(-1:Int)else if y<x then 1 else Lib.compareBytes a b)=if(decide (x<y)||(x==y&&Op.bytesLess a b))=true then-1 else if(x::a==y::b)=true then 0 else 1
  by_cases h1:x<y
  ·simp[h1]
  ·by_cases h2:y<x
   ·have ed:x≠y:= λe=>by subst e;exact h1 h2
    simp[h1,h2,ed]
   ·have he:x=y:=by
     rw[Hk]at h1 h2;exact UInt8.toNat_inj.1 (by omega)
    subst he;rw[aC h1,ih];simp[h1]
def FM {m:Sem Value} {fn:Func} {e:Array Value->Sem Value} {args:Array Value} (hP:kz P) (hf:P.funcs[f]? =some fn) (hb:fn.body.isNone=true) (hn:Extern.findNext fn=none) (he:Extern.find fn=some e) (hm:e args=m) (hr:m.run P w= .ok u w'):(callFunc f args).run P w= .ok (.value u) w':=by rw[run_callFunc_extern hf (hP f fn hf) hb hn he,hm,hr];rfl
def E9 (c:Nat):∀(l:List UInt8) (i:Nat),B9 c l i=match(List.range l.length).find? λk=>(l[k]?.getD 0).toNat==c with|some k=>((i+k:Nat):Int)|none=> -1
 | [],i=>rfl
 |b::l,i=>by
  have ih:=E9 c l (i+1);show aD (Nat.beq b.toNat c) (.ofNat i) (B9 c l (Nat.succ i))=_;rw[bU,Lib.find_range_succ];have h0:(((b::l)[0]?.getD 0).toNat==c)=Nat.beq b.toNat c:=by
   rw[eT];constructor
   ·intro h;rw[Nat.beq_eq];simpa using h
   ·intro h;rw[Nat.beq_eq]at h;simpa using h
  rw[h0];cases hb:Nat.beq b.toNat c with
  |true=>rfl
  |false=>
   rw[de,ih];have he:(λk=>(((b::l)[k+1]?.getD 0).toNat==c))= λk=>(l[k]?.getD 0).toNat==c:=by funext k;simp
   simp only[cE,eG,he];cases(List.range l.length).find? λk=>(l[k]?.getD 0).toNat==c with
   |none=>rfl
   |some k=>
    show((i+1+k:Nat):Int)=((i+(k+1):Nat):Int)
    congr 1;omega
def HK:∀(n t:Nat) (acc:Array Value),(∀v∈acc.toList,dZ v=true)->∀v∈(Extern.BytealgMakeNoZero.digits n t acc).toList,dZ v=true
 |0,_,_,h=>h
 |n+1,t,acc,h=>by
  rw[Extern.BytealgMakeNoZero.digits];refine HK n _ _ λv hv=>?_;rw[kZ]at hv;rcases List.mem_append.1 hv with hv|hv
  ·exact h v hv
  ·simp only[zW]at hv;subst hv;rfl
def Kp:∀(l:LVal),(∀v∈l,dZ v=true)->bJ ρ (List.replicate l.length (Value.complex .f32 0 0)) l
 | [],_=> .nil
 |v::l,h=> .cons (.junk _ _ _ (h v (by simp)) (λe=>by cases e)) (Kp l λu hu=>h u (by simp[hu]))
def find_congr {α:Type} {p q:α->Bool}:∀ {l:List α},(∀x∈l,p x=q x)->l.find? p=l.find? q
 | [],_=>rfl
 |x::l,h=>by rw[List.find?_cons,List.find?_cons,h x (by simp),find_congr λy hy=>h y (by simp[hy])]
def Fa {α:Type} (x:α):∀n:Nat,(List.replicate n [x]).flatten=List.replicate n x
 |0=>rfl
 |n+1=>by rw[jN,cX,jN,Fa x n];rfl
def agB (ps:Array TypeId) (t e:TypeId) (ht:P.underlying t=some (.slice e)) (n:Nat) (hn:n<=281474976710656) (w:World):
  ∃cs:Array Value,(Extern.BytealgMakeNoZero.makeNoZero ps #[t] #[.int .i64 n]).run P w= .ok (.slice (some ⟨w.heap.size,0,none⟩) n cs.size) (w.drew.drew.alloc (.cells cs e))∧n<=cs.size∧∀v∈cs.toList,dZ v=true:=by
 obtain⟨q,awC,awD,aI7,hq⟩:∃(q:Question) (awC:Sem Value) (awD:Sem Unit),Extern.BytealgMakeNoZero.makeNoZero ps #[t] #[.int .i64 n]=
   (do
    let .slice elem<-underlying t|awC
    if(n:Int)<0||(n:Int)>2^48 then awD
    let cap<-choose (.appendCap (n:Int).toNat 0 elem)
    askRoom cap
    let bytes<-choose q
    let a<-newRow elem (Extern.BytealgMakeNoZero.digits cap bytes #[])
    pure (.slice (some a) (n:Int).toNat cap))∧q.forced=false:=⟨_,_,_,rfl,rfl⟩
 refine⟨Extern.BytealgMakeNoZero.digits (grownCap w n 0 e) (q.cut (w.tape (w.drawn+1) q)) #[],?_,?_,HK _ _ _ (by simp)⟩
 ·rw[aI7];have h1:¬(n:Int)<0:=by omega
  have h2:¬(281474976710656:Int)<(n:Int):=by omega
  have h3:∀a b,(Question.appendCap a 0 b).forced=false:= λ_ _=>rfl;simp[aF ht,h1,h2,h3,hq,newRow,Lib.size_digits,grownCap]
 ·rw[Lib.size_digits];simpa using grownCap_ge w n 0 e
def apB (hP:kz P) {e:Ext} (hf:vO P f e):yW P f (λ_ args s=>lM (IS s e args)):=by
 intro ev j7 args s v s' h ρ w args' hR ha;have h:lM (IS s e args)= .val v s':=h;have hx:IS s e args=some (v,s'):=by
  cases hx:IS s e args with
  |none=>rw[hx]at h;cases h
  |some p=>rw[hx]at h;cases h;rfl
 clear h;unfold jx;unfold IS at hx;split at hx
 ·rename_i x;cases hx;obtain⟨fn,h1,h2,h3,h4⟩:=hf;obtain⟨x',rfl,hv⟩:=bJ.Li ha;rw[FM (m:=pure x') (w':=w) (u:=x') hP h1 h2 h3 h4 rfl rfl];exact⟨ρ,hv,hR,.refl _ _ _⟩
 ·rename_i a b;cases hx;obtain⟨fn,h1,h2,h3,h4⟩:=hf;obtain⟨a',b',rfl,hva,hvb⟩:=bJ.two ha;cases hva;cases hvb;rw[FM (m:=Extern.BytealgCompare.compare #[.string a,.string b]) (w':=w) hP h1 h2 h3 h4 rfl (Lib.run_compareString ..)];refine⟨ρ,?_,hR,.refl _ _ _⟩;rw[HJ,GH,tL,bW,bW];have:(if Op.bytesLess a.data.toList b.data.toList=true then Int.negSucc 0 else if(a.data.toList==b.data.toList)=true then Int.ofNat 0 else Int.ofNat 1)=(if Op.bytesLess a.data.toList b.data.toList=true then(-1:Int)else if(a.data.toList==b.data.toList)=true then 0 else 1):=rfl;rw[this];exact .int _ _
 ·rename_i et n;obtain⟨hn,hx⟩:=aY hx;obtain⟨els,nL,hx⟩:=ak hx;have hn:n<=1000000:=aO hn;have nL:=FJ _ _ _ nL;subst nL;obtain⟨fn,ps,t,h1,h2,h3,h4,h5⟩:=hf;obtain⟨x',rfl,hv⟩:=bJ.Li ha;cases hv;obtain⟨cs,dK,hle,Bl⟩:=agB ps t et h5 n (by omega) w;have Vo:=FM (args:= #[.int .i64 (.ofNat n)]) hP h1 h2 h3 h4 rfl dK;rw[Vo];have hcl:cs.toList.length=cs.size:=by simp
  have qg:cs=(cs.toList.take n++cs.toList.drop n).toArray:=by apply eh;simp
  have Ew:(List.replicate n [Value.complex .f32 0 0]).flatten=List.replicate (cs.toList.take n).length (Value.complex .f32 0 0):=by
   have:(cs.toList.take n).length=n:=by rw[D3];omega
   rw[this];exact Fa _ n
  obtain⟨ρ',hv,Dn,Av⟩:=yu (w':=w.drew.drew.alloc (.cells cs et)) (cs:=cs.toList.take n) (rest:=cs.toList.drop n) (lo:=0) (hi:=0) (cap:=cs.size) hR hx (by rw[Ew];exact Kp _ λv hv=>Bl v (gV hv)) hle (by rw[D3,Xv];omega) (λo h1 h2=>by omega) (by rw[<-qg];rfl) rfl rfl rfl
  exact⟨ρ',hv,Dn,Av⟩
 ·rename_i a c;obtain⟨n,hn,hx⟩:=ak hx;obtain⟨cS,hx⟩:=aY hx;obtain⟨u,hu,hx⟩:=ak hx;cases hx;obtain⟨fn,h1,h2,h3,h4⟩:=hf;obtain⟨a',b',rfl,hva,hvb⟩:=bJ.two ha;cases hva;cases hvb;have cS:n<256:=aO cS;have hc:c=(n:Int):=by cases c with|ofNat m=>cases hn;rfl|negSucc m=>cases hn
  subst hc;rw[FM (m:=Extern.BytealgIndexByte.indexByte #[.string a,.int .u8 n]) hP h1 h2 h3 h4 rfl (run_indexByte_string a n w)];refine⟨ρ,?_,hR,.refl _ _ _⟩;have yM:firstIdx a (n:Int).toNat.toUInt8=B9 n a.data.toList 0:=by
   rw[E9];unfold firstIdx;have eR:a.size=a.data.toList.length:=by rw[xz];rfl
   have hp:∀i,i<a.size->(a[i]! ==(n:Int).toNat.toUInt8)=((a.data.toList[i]?.getD 0).toNat==n):= λi hi=>by
    have hg:a[i]! =a.data.toList[i]?.getD 0:=by have h':i<a.data.size:=hi;have e1:a[i]! =a[i]:=getElem!_pos a i hi;rw[e1,uk,iU h'];rfl
    rw[hg,sO,eT];simp only[Fj];constructor
    ·intro h;rw[h];simp;omega
    ·intro h;apply UInt8.toNat_inj.1;rw[h];simp;omega
   rw[<-eR];have:(List.range a.size).find? (λi=>a[i]! ==(n:Int).toNat.toUInt8)=(List.range a.size).find? λk=>(a.data.toList[k]?.getD 0).toNat==n:=by exact find_congr λx hx=>hp x (List.mem_range.1 hx)
   rw[this];cases(List.range a.size).find? λk=>(a.data.toList[k]?.getD 0).toNat==n with
   |none=>rfl
   |some k=>simp
  rw[fI]at hu;cases hu;rw[yM];exact .int _ _
 ·cases hx
def oU:∀(d j:Nat),(lQ d).get j=none
 |0,j=>T.ur j
 |d+1,j=>by
  show(T.n none (lQ d) (lQ d)).get j=none;rcases dN j with rfl|⟨m,rfl⟩|⟨m,rfl⟩
  ·rw[T.nW]
  ·rw[T.gX];exact oU d m
  ·rw[T.fQ];exact oU d m
def jx.mono {m:Sem Next} {w:World} {R R':Value->World->Prop} (h:jx P m w R) (hr:∀u w',R u w'->R' u w'):jx P m w R':=by
 unfold jx at h⊢;split at h
 ·exact hr _ _ h
 ·exact uj h λe w'' ⟨u,he,hR⟩=>⟨u,he,hr _ _ hR⟩
 ·exact RoundIn.mono h λe w'' ⟨u,he,hR⟩=>⟨u,he,hr _ _ hR⟩
 ·exact h.elim
structure Ab (P:Program) (X:QJ):Prop where
 plain:kz P
 mixed:P.follows .mixedOrders=true
 ext:∀f e,BQ f X.ext=some e->vO P f e
 sum:∀f e,qN f X.sum=some e->yW P f (Gr e)
def FN (hX:Ab P X) {F:FF} (h:iN P X f=some F):yW P f F:=by
 unfold iN at h;split at h
 ·rename_i e he;cases h;exact hX.sum f e he
 ·split at h
  ·rename_i fn hfn;split at h
   ·rename_i body hb;obtain⟨t0,vq,h⟩:=ak h;obtain⟨b,hbc,h⟩:=ak h;cases h;intro ev j7 args s v s' hr ρ w args' hR ha;unfold jx;rw[tT hX.plain hfn hb];exact aza hX.plain hX.mixed hfn hb vq hbc j7 hr hR ha
   ·rename_i hb;obtain⟨e,he,h⟩:=ak h;cases h;exact apB hX.plain (hX.ext f e he)
  ·cases h
def agC {mf:Nat->Option FF} (hm:∀f F,mf f=some F->yW P f F) (hPl:kz P) (hMx:P.follows .mixedOrders=true) {ev:Ev} (j7:mj P ev):mj P (step P mf ev):=by
 intro f args s v s' h ρ w f' args' hR hf ha;unfold step at h;split at h
 ·rename_i fi first cap
  cases hf with| @func _ _ _ fa fb h1 h2=>?_
  have h:oR Out .no (λF=>F ev (app first.toList (app args cap.toList)) s) (mf fi)= .val v s':=h;cases hF:mf fi with
  |none=>rw[hF]at h;cases h
  |some F=>
   rw[hF]at h;have sT:bJ ρ (app first.toList (app args cap.toList)) (fa.toList++(args'++fb.toList)):=by rw[mW,mW];exact h1.append (ha.append h2)
   have:=hm _ _ hF ev j7 _ s v s' h ρ w _ hR sT;have he:mX (.func (.func fi) fa fb) args'=callFunc fi (fa.toList++(args'++fb.toList)).toArray:=by unfold mX;simp only[Deferred.ofValue,akr,invoke];congr 1;apply eh;simp
   rw[he];exact this
 ·rename_i l first cap
  cases hf with| @yield _ x _ _ fa fb hx h1 h2=>?_
  have sT:bJ ρ (app first.toList args) (fa.toList++args'):=by rw[mW];exact h1.append ha
  have:=ac5 hPl hMx j7 h hR hx sT;have he:mX (.func (.yield x.b) fa fb) args'=Instr.yield x.b (fa.toList++args').toArray:=by unfold mX;simp only[Deferred.ofValue,akr,invoke];congr 1;apply eh;simp
  rw[he];exact this
 ·cases h
def Cf {mf:Nat->Option FF} (hm:∀f F,mf f=some F->yW P f F) (h1:kz P) (h2:P.follows .mixedOrders=true):∀n,mj P (Uo P mf n)
 |0=> λf args s v s' h=>by cases h
 |n+1=>agC hm h1 h2 (Cf hm h1 h2 n)
def agD (hX:Ab P X) (n:Nat):mj P (eval P X n):=Cf (λ_ _ h=>FN hX h) hX.plain hX.mixed n
def Sh (P:Program) (w:World):Prop:=∀g gl vs,P.globals[g]? =some gl->lh gl.name=some vs->g<w.heap.size∧∀(i:Nat) (v:Value),vs[i]? =some v->w.cell? ⟨g,i,none⟩=some v
def ac6 {ev:Ev} (j7:mj P ev) (hX:kz P) {fn:Func} {c:Code} {args args':LVal} (hf:P.funcs[f]? =some fn) (hb:fn.body=some c) (h:ev (.func (.func f) #[] #[]) args s= .val v s') (hR:Rel P ρ s w) (ha:bJ ρ args args'):
  Calls P f args'.toArray w λe w'=>∃u ρ',e= .returned u∧bN ρ' v u∧Rel P ρ' s' w'∧je ρ s w ρ' s' w':=by
 have:=j7 _ _ _ _ _ h _ w (.func (.func f) #[] #[]) args' hR (.func f .nil .nil) ha;unfold jx at this;have hc:(mX (.func (.func f) #[] #[]) args').run P w= .ok (.enter f args'.toArray) w:=by unfold mX;simp only[Deferred.ofValue,akr,invoke];have:=tT hX hf hb args'.toArray w;simpa using this
 rw[hc]at this;refine callsIn_wide.1 (uj this ?_);rintro e w' ⟨u,rfl,ρ',hv,Dn,Av⟩;exact⟨u,ρ',rfl,hv,Dn,Av⟩
