import Derived.Test.YtadepknkjjmcnaaGreatDoorEngA
import GoSem.ClaimJoined
import Derived.Laws.IdiomCopy
import Derived.RangeFuncIn
import Derived.RangeFuncLeaves
import Derived.OrdersIn
import Derived.Laws.Strings
import Derived.Laws.Append
import Derived.Laws.NewFold
import Derived.Great.FillDense
import Derived.Laws.Tables
import Derived.Laws.BytesString
import Derived.Laws.IdiomStrings
import Derived.Lib.UnsafeStr
import Derived.Laws.StructEq
import Derived.ChangeKeysEq
set_option linter.unusedVariables false
set_option linter.unusedSimpArgs false
/- An evaluator of the code of the model, proved: what it answers, the program does, whatever the world. Part of the proof of ArrowKnown. -/
noncomputable section
namespace Go.Eng
section
variable {α:Type}
theorem T.get_e (k:Nat):(T.e:T α).get k=none:=rfl
theorem T.dM (v:Option α) (l r:T α):(T.n v l r).get 0=v:=rfl
theorem T.bO (v:Option α) (l r:T α) (m:Nat):(T.n v l r).get (2*m+1)=l.get m:=by
 show Bool.rec (motive:= λ_=>Option α) (r.get (Nat.div (2*m) 2)) (l.get (Nat.div (2*m) 2)) (Nat.beq (Nat.mod (2*m) 2) 0)=_;have h1:Nat.mod (2*m) 2=0:=by show(2*m)%2=0;omega
 have h2:Nat.div (2*m) 2=m:=by show(2*m)/2=m;omega
 rw[h1,h2];rfl
theorem T.bh (v:Option α) (l r:T α) (m:Nat):(T.n v l r).get (2*m+2)=r.get m:=by
 show Bool.rec (motive:= λ_=>Option α) (r.get (Nat.div (2*m+1) 2)) (l.get (Nat.div (2*m+1) 2)) (Nat.beq (Nat.mod (2*m+1) 2) 0)=_;have h1:Nat.mod (2*m+1) 2=1:=by show(2*m+1)%2=1;omega
 have h2:Nat.div (2*m+1) 2=m:=by show(2*m+1)/2=m;omega
 rw[h1,h2];rfl
theorem bb (k:Nat):k=0∨(∃m,k=2*m+1)∨∃m,k=2*m+2:=by
 rcases Nat.eq_zero_or_pos k with h|h
 ·exact .inl h
 ·rcases Nat.mod_two_eq_zero_or_one k with h2|h2
  ·exact .inr (.inr ⟨k/2-1,by omega⟩)
  ·exact .inr (.inl ⟨k/2,by omega⟩)
theorem T.NY (x:Option α) (k:Nat):T.put x .e k=if k=0 then some (.n x .e .e)else none:=by cases k<;>rfl
theorem T.K8 (x v:Option α) (l r:T α):T.put x (.n v l r) 0=some (.n x l r):=rfl
theorem T.Ia (x v:Option α) (l r:T α) (m:Nat):T.put x (.n v l r) (2*m+1)=(T.put x l m).map λl'=> .n v l' r:=by
 show Bool.rec (motive:= λ_=>Option (T α)) (Option.rec none (λr'=>some (T.n v l r')) (T.put x r (Nat.div (2*m) 2))) (Option.rec none (λl'=>some (T.n v l' r)) (T.put x l (Nat.div (2*m) 2))) (Nat.beq (Nat.mod (2*m) 2) 0)=_;have h1:Nat.mod (2*m) 2=0:=by show(2*m)%2=0;omega
 have h2:Nat.div (2*m) 2=m:=by show(2*m)/2=m;omega
 rw[h1,h2];cases T.put x l m<;>rfl
theorem T.Gg (x v:Option α) (l r:T α) (m:Nat):T.put x (.n v l r) (2*m+2)=(T.put x r m).map λr'=> .n v l r':=by
 show Bool.rec (motive:= λ_=>Option (T α)) (Option.rec none (λr'=>some (T.n v l r')) (T.put x r (Nat.div (2*m+1) 2))) (Option.rec none (λl'=>some (T.n v l' r)) (T.put x l (Nat.div (2*m+1) 2))) (Nat.beq (Nat.mod (2*m+1) 2) 0)=_;have h1:Nat.mod (2*m+1) 2=1:=by show(2*m+1)%2=1;omega
 have h2:Nat.div (2*m+1) 2=m:=by show(2*m+1)/2=m;omega
 rw[h1,h2];cases T.put x r m<;>rfl
theorem T.aR (x:Option α) (t:T α):∀(k:Nat) (t':T α),T.put x t k=some t'->∀j,t'.get j=if j=k then x else t.get j:=by
 induction t with
 |e=>
  intro k t' h j;rw[T.NY]at h;split at h
  ·cases h
   subst_vars
   rcases bb j with rfl|⟨m,rfl⟩|⟨m,rfl⟩
   ·rfl
   ·rw[T.bO,if_neg (by omega)];rfl
   ·rw[T.bh,if_neg (by omega)];rfl
  ·cases h
 |n v l r lZ uQ=>
  intro k t' h j;rcases bb k with rfl|⟨m,rfl⟩|⟨m,rfl⟩
  ·rw[T.K8]at h;cases h;rcases bb j with rfl|⟨i,rfl⟩|⟨i,rfl⟩
   ·rfl
   ·rw[T.bO,T.bO,if_neg (by omega)]
   ·rw[T.bh,T.bh,if_neg (by omega)]
  ·rw[T.Ia]at h;cases hp:T.put x l m with
   |none=>rw[hp]at h;cases h
   |some l'=>
    rw[hp]at h;cases h;rcases bb j with rfl|⟨i,rfl⟩|⟨i,rfl⟩
    ·rw[T.dM,T.dM,if_neg (by omega)]
    ·rw[T.bO,T.bO,lZ m l' hp i];by_cases e:i=m
     ·rw[if_pos e,if_pos (by omega)]
     ·rw[if_neg e,if_neg (by omega)]
    ·rw[T.bh,T.bh,if_neg (by omega)]
  ·rw[T.Gg]at h;cases hp:T.put x r m with
   |none=>rw[hp]at h;cases h
   |some r'=>
    rw[hp]at h;cases h;rcases bb j with rfl|⟨i,rfl⟩|⟨i,rfl⟩
    ·rw[T.dM,T.dM,if_neg (by omega)]
    ·rw[T.bO,T.bO,if_neg (by omega)]
    ·rw[T.bh,T.bh,uQ m r' hp i];by_cases e:i=m
     ·rw[if_pos e,if_pos (by omega)]
     ·rw[if_neg e,if_neg (by omega)]
theorem qM:∀(n:Nat) (t:T α),mkT n=some t->∀j,t.get j=none:=by
 intro n;induction n with
 |zero=>intro t h j;cases h;rfl
 |succ n ih=>
  intro t h j;have h':Option.rec (motive:= λ_=>Option (T α)) none (λt=>T.put none t n) (mkT n:Option (T α))=some t:=h;cases hm:(mkT n:Option (T α))with
  |none=>rw[hm]at h';cases h'
  |some u=>
   rw[hm]at h';rw[T.aR none u n t h' j];split
   ·rfl
   ·exact ih u hm j
end
def D.num:D->Nat
 | .d0=>0| .d1=>1| .d2=>2| .d3=>3| .d4=>4| .d5=>5| .d6=>6| .d7=>7| .d8=>8| .d9=>9| .d10=>10| .d11=>11| .d12=>12| .d13=>13| .d14=>14| .d15=>15
def qD {α:Type} (d:D):R α true->α:=dS d λg _=>g
def mD {α:Type} (d:D):MF α:=dS d λ_ u=>u
def wD {α:Type} (d:D) (x:α) (r:R α true):R α true:=
 R.rec (motive:= λ_ _=>R α true) (λa0 a1 a2 a3 a4 a5 a6 a7 a8 a9 a10 a11 a12 a13 a14 a15=> .mk (bif Nat.beq d.num 0 then x else a0) (bif Nat.beq d.num 1 then x else a1) (bif Nat.beq d.num 2 then x else a2) (bif Nat.beq d.num 3 then x else a3) (bif Nat.beq d.num 4 then x else a4) (bif Nat.beq d.num 5 then x else a5) (bif Nat.beq d.num 6 then x else a6) (bif Nat.beq d.num 7 then x else a7) (bif Nat.beq d.num 8 then x else a8) (bif Nat.beq d.num 9 then x else a9) (bif Nat.beq d.num 10 then x else a10) (bif Nat.beq d.num 11 then x else a11) (bif Nat.beq d.num 12 then x else a12) (bif Nat.beq d.num 13 then x else a13) (bif Nat.beq d.num 14 then x else a14) (bif Nat.beq d.num 15 then x else a15)) r
theorem NZ {α β:Type} (d:D) (k:(R α true->α)->MF α->β):dS d k=k (qD d) (mD d):=by cases d<;>rfl
theorem N2 {α:Type} (d:D) (f:α->(α->Option Hp)->Option Hp) (r:R α true) (k:R α true->Option Hp):mD d f r k=f (qD d r) λy=>k (wD d y r):=by cases r;cases d<;>rfl
theorem qw {α:Type} (d d':D) (x:α) (r:R α true):(d'=d->qD d' (wD d x r)=x)∧(d'≠d->qD d' (wD d x r)=qD d' r):=by cases r;cases d<;>cases d'<;>first|exact⟨λ_=>rfl,λh=>(h rfl).elim⟩|exact⟨λh=>(by cases h),λ_=>rfl⟩
theorem K9 {α:Type} (d:D) (x:α):qD d (rep x)=x:=by cases d<;>rfl
theorem FY:∀m,m<16->D.num (jq m)=m
 |0,_=>rfl|1,_=>rfl|2,_=>rfl|3,_=>rfl|4,_=>rfl|5,_=>rfl|6,_=>rfl|7,_=>rfl|8,_=>rfl|9,_=>rfl|10,_=>rfl|11,_=>rfl|12,_=>rfl|13,_=>rfl|14,_=>rfl|15,_=>rfl
 |n+16,h=>absurd h (by omega)
def dA (k:Nat):D:=jq (k%16)
theorem yB {j k:Nat} (h:dA j=dA k):j%16=k%16:=by have h1:=FY (j%16) (by omega);have h2:=FY (k%16) (by omega);have h:jq (j%16)=jq (k%16):=h;rw[<-h1,<-h2,h]
theorem Cu {k:Nat} (h:1048576<=k):path k= .no:=by
 have e:Nat.ble k 1048575=false:=by
  cases hb:Nat.ble k 1048575 with
  |false=>rfl
  |true=>have:=Nat.le_of_ble_eq_true hb;omega
 unfold path;rw[e]
theorem Gh (n:Nat) (k:Nat->PP):IP n k=k n:=by cases n<;>rfl
theorem Cv {k:Nat} (h:k<1048576):path k= .mk (qD (dA k)) (mD (dA k)) (qD (dA (k/16))) (mD (dA (k/16))) (qD (dA (k/16/16))) (mD (dA (k/16/16))) (qD (dA (k/16/256))) (mD (dA (k/16/256))) (qD (dA (k/16/4096))) (mD (dA (k/16/4096))):=by have e:Nat.ble k 1048575=true:=Nat.ble_eq_true_of_le (by omega);unfold path;rw[e,Gh];unfold IM;simp only[NZ];rfl
theorem Hp.AQ (h:Hp) {k:Nat} (hk:1048576<=k):h.get k=none:=by unfold Hp.get;rw[Cu hk]
theorem Hp.AR (h:Hp) {k:Nat} (hk:k<1048576):h.get k=qD (dA k) (qD (dA (k/16)) (qD (dA (k/16/16)) (qD (dA (k/16/256)) (qD (dA (k/16/4096)) h)))):=by unfold Hp.get;rw[Cv hk]
theorem Hp.AU (x:Option Blk) (h:Hp) {k:Nat} (hk:1048576<=k):Hp.put x h k=none:=by unfold Hp.put;rw[Cu hk]
theorem Hp.FZ (x:Option Blk) (h:Hp) {k:Nat} (hk:k<1048576):Hp.put x h k=some (wD (dA (k/16/4096)) (wD (dA (k/16/256)) (wD (dA (k/16/16)) (wD (dA (k/16)) (wD (dA k) x (qD (dA (k/16)) (qD (dA (k/16/16)) (qD (dA (k/16/256)) (qD (dA (k/16/4096)) h)))))
  (qD (dA (k/16/16)) (qD (dA (k/16/256)) (qD (dA (k/16/4096)) h)))) (qD (dA (k/16/256)) (qD (dA (k/16/4096)) h))) (qD (dA (k/16/4096)) h)) h):=by
 unfold Hp.put;rw[Cv hk];simp only[N2]
theorem Hp.aR (x:Option Blk) (h:Hp) (k:Nat) (h':Hp) (e:Hp.put x h k=some h') (j:Nat):h'.get j=if j=k then x else h.get j:=by
 by_cases hk:k<1048576
 ·rw[Hp.FZ x h hk]at e;cases e;by_cases hj:j<1048576
  ·rw[Hp.AR _ hj,Hp.AR _ hj];by_cases e5:dA (j/16/4096)=dA (k/16/4096)
   ·rw[(qw _ _ _ _).1 e5,e5];by_cases e4:dA (j/16/256)=dA (k/16/256)
    ·rw[(qw _ _ _ _).1 e4,e4];by_cases e3:dA (j/16/16)=dA (k/16/16)
     ·rw[(qw _ _ _ _).1 e3,e3];by_cases e2:dA (j/16)=dA (k/16)
      ·rw[(qw _ _ _ _).1 e2,e2];by_cases e1:dA j=dA k
       ·have h1:=yB e1;have h2:=yB e2;have h3:=yB e3;have h4:=yB e4;have h5:=yB e5;rw[(qw _ _ _ _).1 e1,if_pos (by omega)]
       ·rw[(qw _ _ _ _).2 e1,if_neg (λhe=>e1 (by rw[he]))]
      ·rw[(qw _ _ _ _).2 e2,if_neg (λhe=>e2 (by rw[he]))]
     ·rw[(qw _ _ _ _).2 e3,if_neg (λhe=>e3 (by rw[he]))]
    ·rw[(qw _ _ _ _).2 e4,if_neg (λhe=>e4 (by rw[he]))]
   ·rw[(qw _ _ _ _).2 e5,if_neg (λhe=>e5 (by rw[he]))]
  ·rw[Hp.AQ _ (by omega),Hp.AQ _ (by omega),if_neg (by omega)]
 ·rw[Hp.AU x h (by omega)]at e;cases e
theorem Hp.ns (j:Nat):Hp.emp.get j=none:=by
 by_cases hj:j<1048576
 ·rw[Hp.AR _ hj];unfold Hp.emp;simp only[K9]
 ·exact Hp.AQ _ (by omega)
theorem U {α β:Type} {o:Option α} {k:α->Option β} {b:β} (h:ob o k=some b):∃a,o=some a∧k a=some b:=by
 cases o with
 |none=>cases h
 |some a=>exact⟨a,rfl,h⟩
theorem bG {β:Type} (t e:β):ab true t e=t:=rfl
theorem bX {β:Type} (t e:β):ab false t e=e:=rfl
theorem ae {β:Type} {b:Bool} {t:Option β} {v:β} (h:ab b t none=some v):b=true∧t=some v:=by
 cases b
 ·cases h
 ·exact⟨rfl,h⟩
theorem bj {β:Type} {b:Bool} {t:Option β} {v:β} (h:ab b none t=some v):b=false∧t=some v:=by
 cases b
 ·exact⟨rfl,h⟩
 ·cases h
theorem ak {β:Type} (n:Nat) (k:Nat->Option β):aq n k=k n:=by cases n<;>rfl
theorem aV {α:Type} (l:List α):len l=l.length:=by
 induction l with
 |nil=>rfl
 |cons a l ih=>show Nat.succ (len l)=_;rw[ih];rfl
theorem ku {α:Type} (l m:List α):app l m=l++m:=by
 induction l with
 |nil=>rfl
 |cons a l ih=>show a::app l m=_;rw[ih];rfl
theorem qN {α:Type} (l m:List α):tT l m=some (l++m):=by
 induction l with
 |nil=>rfl
 |cons a l ih=>show Option.rec (motive:= λ_=>Option (List α)) none (λr=>some (a::r)) (tT l m)=_;rw[ih];rfl
theorem nH:∀(n:Nat) (l r:List Value),pA n l=some r->r=l.take n∧n<=l.length:=by
 intro n;induction n with
 |zero=>intro l r h;cases h;exact⟨rfl,Nat.zero_le _⟩
 |succ n ih=>
  intro l r h;cases l with
  |nil=>cases h
  |cons v l=>
   have h':Option.rec (motive:= λ_=>Option (List Value)) none (λr=>some (v::r)) (pA n l)=some r:=h;cases ht:pA n l with
   |none=>rw[ht]at h';cases h'
   |some q=>rw[ht]at h';cases h';obtain⟨e,hl⟩:=ih l q ht;exact⟨by rw[e];rfl,by simpa using hl⟩
theorem iZ:∀(n:Nat) (l r:List Value),pC n l=some r->r=l.drop n∧n<=l.length:=by
 intro n;induction n with
 |zero=>intro l r h;cases h;exact⟨rfl,Nat.zero_le _⟩
 |succ n ih=>
  intro l r h;cases l with
  |nil=>cases h
  |cons v l=>obtain⟨e,hl⟩:=ih l r h;exact⟨by rw[e];rfl,by simpa using hl⟩
theorem yP:∀(n:Nat) (l r:List UInt8),BI n l=some r->r=l.take n∧n<=l.length:=by
 intro n;induction n with
 |zero=>intro l r h;cases h;exact⟨rfl,Nat.zero_le _⟩
 |succ n ih=>
  intro l r h;cases l with
  |nil=>cases h
  |cons v l=>obtain⟨q,hq,hr⟩:=U (show ob (BI n l) (λr=>some (v::r))=some r from h);cases hr;obtain⟨e,hl⟩:=ih l q hq;exact⟨by rw[e];rfl,by simpa using hl⟩
theorem Gi:∀(n:Nat) (l r:List UInt8),IU n l=some r->r=l.drop n∧n<=l.length:=by
 intro n;induction n with
 |zero=>intro l r h;cases h;exact⟨rfl,Nat.zero_le _⟩
 |succ n ih=>
  intro l r h;cases l with
  |nil=>cases h
  |cons v l=>obtain⟨e,hl⟩:=ih l r h;exact⟨by rw[e];rfl,by simpa using hl⟩
theorem Gj:∀(vs l r:List Value),BF vs l=some r->r=vs++l.drop vs.length∧vs.length<=l.length:=by
 intro vs;induction vs with
 |nil=>intro l r h;cases h;exact⟨rfl,Nat.zero_le _⟩
 |cons v vs ih=>
  intro l r h;cases l with
  |nil=>cases h
  |cons a l=>
   have h':Option.rec (motive:= λ_=>Option (List Value)) none (λr=>some (v::r)) (BF vs l)=some r:=h;cases ht:BF vs l with
   |none=>rw[ht]at h';cases h'
   |some q=>rw[ht]at h';cases h';obtain⟨e,hl⟩:=ih l q ht;exact⟨by rw[e];rfl,by simpa using hl⟩
theorem xh (vs:List Value):∀(j:Nat) (l r:List Value),CP vs l j=some r->
  r=l.take j++vs++l.drop (j+vs.length)∧j+vs.length<=l.length:=by
 intro j;induction j with
 |zero=>intro l r h;obtain⟨e,hl⟩:=Gj vs l r h;exact⟨by rw[e];simp,by omega⟩
 |succ j ih=>
  intro l r h;cases l with
  |nil=>cases h
  |cons a l=>
   have h':Option.rec (motive:= λ_=>Option (List Value)) none (λr=>some (a::r)) (CP vs l j)=some r:=h;cases ht:CP vs l j with
   |none=>rw[ht]at h';cases h'
   |some q=>
    rw[ht]at h';cases h';obtain⟨e,hl⟩:=ih l q ht;refine⟨?_,by simp;omega⟩;rw[e];have:j+1+vs.length=(j+vs.length)+1:=by omega
    rw[this];simp
theorem Gk (P:Program) (t:TypeId) (s:AS) (a:Value):IW P t s a=uY P t s a:=by cases a<;>first|rfl|(rename_i a;cases a<;>rfl)
theorem Dq (P:Program) (t:TypeId) (s:AS) (a v:Value):FP P t s a v=AG P t s a v:=by cases a<;>first|rfl|(rename_i a;cases a<;>rfl)
theorem ux (P:Program) (t:TypeId) (f:Nat) (v:Value):sM P t f v=mo P t f v:=by cases v<;>first|rfl|(rename_i a;cases a<;>rfl)
theorem xB (P:Program) (d:Option TypeDesc) (a:Addr) (m:Nat) (n:Int):(ob (sN d) λe=>elemAt P a e m n)=match d with|some (.slice e)=>elemAt P a e m n|_=>none:=by
 cases d with
 |none=>rfl
 |some d=>cases d<;>rfl
theorem uy (P:Program) (d:Option TypeDesc) (x i:Value):sO P d x i=jG P d x i:=by
 cases i with
 |int k n=>
  cases x with
  |slice a m c=>
   cases a with
   |none=>rfl
   |some a=>exact xB P d a m n
  |_=>rfl
 |_=>rfl
theorem Gl (op:BinOp) (k:EK) (pJ:Bool) (ka kb:IntKind) (a b:Int):IQ op ka kb a b=CQ op k pJ (.int kb b) (.int ka a):=by cases op<;>rfl
theorem Gm (op:BinOp) (k:EK) (pJ:Bool) (y x:Value):IS op k pJ y x=CQ op k pJ y x:=by
 cases x with
 |int ka a=>
  cases y with
  |int kb b=>exact Gl op k pJ ka kb a b
  |_=>rfl
 |_=>rfl
theorem Gn (v:Option Value) (a b:Out):Ff v a b=Cq v a b:=by
 cases v with
 |none=>rfl
 |some v=>cases v<;>rfl
theorem rX {β:Type}:∀(n t:Nat) (k:(T Value->Option Value)->Option β),rq n t k=k λtm=>T.get tm t
 |0,t,k=>rfl
 |n+1,0,k=>by show(k λtm=>T.rec (motive:= λ_=>Option Value) none (λv _ _ _ _=>v) tm)=_;congr 1;funext tm;cases tm<;>rfl
 |n+1,m+1,k=>by
  show(Bool.rec (motive:= λ_=>Option β) (rq n (Nat.div m 2) λg=>k λtm=>T.rec (motive:= λ_=>Option Value) none (λ_ _ r _ _=>g r) tm)
    (rq n (Nat.div m 2) λg=>k λtm=>T.rec (motive:= λ_=>Option Value) none (λ_ l _ _ _=>g l) tm) (Nat.beq (Nat.mod m 2) 0))=_
  cases hb:Nat.beq (Nat.mod m 2) 0 with
  |false=>
   show(rq n (Nat.div m 2) λg=>k λtm=>T.rec (motive:= λ_=>Option Value) none (λ_ _ r _ _=>g r) tm)=_;rw[rX n];congr 1;funext tm;cases tm with
   |e=>rfl
   |n v l r=>show T.get r (Nat.div m 2)=Bool.rec (motive:= λ_=>Option Value) (T.get r (Nat.div m 2)) (T.get l (Nat.div m 2)) (Nat.beq (Nat.mod m 2) 0);rw[hb]
  |true=>
   show(rq n (Nat.div m 2) λg=>k λtm=>T.rec (motive:= λ_=>Option Value) none (λ_ l _ _ _=>g l) tm)=_;rw[rX n];congr 1;funext tm;cases tm with
   |e=>rfl
   |n v l r=>show T.get l (Nat.div m 2)=Bool.rec (motive:= λ_=>Option Value) (T.get r (Nat.div m 2)) (T.get l (Nat.div m 2)) (Nat.beq (Nat.mod m 2) 0);rw[hb]
theorem kE {β:Type}:∀(n t:Nat) (k:J0->Option β),kj n t k=k λx tm c=>Option.rec (motive:= λ_=>Out) .no c (T.put (some x) tm t)
 |0,t,k=>rfl
 |n+1,0,k=>by show(k λx tm c=>T.rec (motive:= λ_=>Out) (c (.n (some x) .e .e)) (λ_ l r _ _=>c (.n (some x) l r)) tm)=_;congr 1;funext x tm c;cases tm<;>rfl
 |n+1,m+1,k=>by
  show(Bool.rec (motive:= λ_=>Option β) (kj n (Nat.div m 2) λp=>k λx tm c=>T.rec (motive:= λ_=>Out) .no (λv l r _ _=>p x r λr'=>c (.n v l r')) tm)
    (kj n (Nat.div m 2) λp=>k λx tm c=>T.rec (motive:= λ_=>Out) .no (λv l r _ _=>p x l λl'=>c (.n v l' r)) tm) (Nat.beq (Nat.mod m 2) 0))=_
  cases hb:Nat.beq (Nat.mod m 2) 0 with
  |false=>
   show(kj n (Nat.div m 2) λp=>k λx tm c=>T.rec (motive:= λ_=>Out) .no (λv l r _ _=>p x r λr'=>c (.n v l r')) tm)=_;rw[kE n];congr 1;funext x tm c;cases tm with
   |e=>rfl
   |n v l r=>
    show Option.rec (motive:= λ_=>Out) .no (λr'=>c (.n v l r')) (T.put (some x) r (Nat.div m 2))=Option.rec (motive:= λ_=>Out) .no c (Bool.rec (motive:= λ_=>Option (T Value))
     (Option.rec (motive:= λ_=>Option (T Value)) none (λr'=>some (.n v l r')) (T.put (some x) r (Nat.div m 2))) (Option.rec (motive:= λ_=>Option (T Value)) none (λl'=>some (.n v l' r)) (T.put (some x) l (Nat.div m 2))) (Nat.beq (Nat.mod m 2) 0))
    rw[hb];show _=Option.rec (motive:= λ_=>Out) .no c (Option.rec (motive:= λ_=>Option (T Value)) none (λr'=>some (.n v l r')) (T.put (some x) r (Nat.div m 2)));cases T.put (some x) r (Nat.div m 2)<;>rfl
  |true=>
   show(kj n (Nat.div m 2) λp=>k λx tm c=>T.rec (motive:= λ_=>Out) .no (λv l r _ _=>p x l λl'=>c (.n v l' r)) tm)=_;rw[kE n];congr 1;funext x tm c;cases tm with
   |e=>rfl
   |n v l r=>
    show Option.rec (motive:= λ_=>Out) .no (λl'=>c (.n v l' r)) (T.put (some x) l (Nat.div m 2))=Option.rec (motive:= λ_=>Out) .no c (Bool.rec (motive:= λ_=>Option (T Value))
     (Option.rec (motive:= λ_=>Option (T Value)) none (λr'=>some (.n v l r')) (T.put (some x) r (Nat.div m 2))) (Option.rec (motive:= λ_=>Option (T Value)) none (λl'=>some (.n v l' r)) (T.put (some x) l (Nat.div m 2))) (Nat.beq (Nat.mod m 2) 0))
    rw[hb];show _=Option.rec (motive:= λ_=>Out) .no c (Option.rec (motive:= λ_=>Option (T Value)) none (λl'=>some (.n v l' r)) (T.put (some x) l (Nat.div m 2)));cases T.put (some x) l (Nat.div m 2)<;>rfl
theorem qO {β:Type} (d:DI) (cont:(Value->K->K)->Option β):wc d cont=cont (ei d):=by
 cases d with
 |no=>rfl
 |l t=>rfl
 |t t=>show(kj 12 t λp=>cont λv k lo tm s=>p v tm λtm'=>k lo tm' s)=_;rw[kE];rfl
theorem wL {β:Type}:∀(c:CI) (cont:(Ev->K->K)->Option β),GL c cont=cont λev k lo tm s=>dw ev c k lo tm s
 | .v f d,cont=>by
  cases d with
  |no=>rfl
  |l t=>rfl
  |t t=>show(kj 12 t λp=>cont λ_ k lo tm s=>Option.rec (motive:= λ_=>Out) .no (λv=>p v tm λtm'=>k lo tm' s) (f lo tm s))=_;rw[kE];rfl
 | .s f d,cont=>by
  cases d with
  |no=>rfl
  |l t=>rfl
  |t t=>show(kj 12 t λq=>cont λ_ k lo tm s=>Option.rec (motive:= λ_=>Out) .no (λp=>q p.1 tm λtm'=>k lo tm' p.2) (f lo tm s))=_;rw[kE];rfl
 | .c f Lv d,cont=>by
  show(wc d λp=>cont λev k lo tm s=>Option.rec (motive:= λ_=>Out) .no (λl=>Option.rec (motive:= λ_=>Out) .no (λf=>Out.rec (motive:= λ_=>Out) .no (λ_ _ _=> .no) (λv s=>p v k lo tm s) (ev f l s)) (f lo tm)) (pK Lv lo tm))=_
  rw[qO];rfl
 | .gd g w d c,cont=>by
  show(wc d λp=>GL c λF=>cont λev k lo tm s=>Option.rec (motive:= λ_=>K->K) (λ_ _ _ _=> .no) (λy=>Bool.rec (motive:= λ_=>K->K) (p (.tuple #[])) (F ev) y) (ej w (g lo tm)) k lo tm s)=_;rw[qO,wL c];congr 1;funext ev k lo tm s;show _=D3 (ej w (g lo tm)) (dw ev c k lo tm s) (ei d (.tuple #[]) k lo tm s);cases ej w (g lo tm)with
  |none=>rfl
  |some y=>cases y<;>rfl
theorem sP:∀l:List CI,xg l=some λev k=>js ev l k
 | []=>rfl
 |c::l=>by show(ob (xg l) λR=>GL c λF=>some λev k lo tm s=>F ev (R ev k) lo tm s)=_;rw[sP l];show(GL c λF=>some λev k lo tm s=>F ev (js ev l k) lo tm s)=_;rw[wL];rfl
theorem Gp (l:List CI):BS l=some (xf l):=by unfold BS;rw[sP];rfl
theorem La {β:Type} (x:DR) (cont:(Ev->KC->KC)->Option β):OQ x cont=cont λev k cs lo tm s=>BO ev x k cs lo tm s:=by
 cases x with
 |pa c=>show(GL c λF=>cont λev k cs lo tm s=>F ev (k cs) lo tm s)=_;rw[wL];rfl
 |rd f d hi=>show(wc d λp=>cont λ_ k cs lo tm s=>Option.rec (motive:= λ_=>Out) .no (λv=>p v (k ((hi,λs'=>tW v (f lo tm s'))::cs)) lo tm s) (f lo tm s))=_;rw[qO];rfl
 |gr g w f d hi=>
  show(wc d λp=>cont λ_ k cs lo tm s=>Option.rec (motive:= λ_=>KC->K) (λ_ _ _ _=> .no) (λy=>Bool.rec (motive:= λ_=>KC->K) (λk=>p (.tuple #[]) (k cs))
   (λk lo tm s=>Option.rec (motive:= λ_=>Out) .no (λv=>p v (k ((hi,λs'=>tW v (f lo tm s'))::cs)) lo tm s) (f lo tm s)) y) (ej w (g lo tm)) k lo tm s)=_
  rw[qO];congr 1;funext ev k cs lo tm s;show _=D3 (ej w (g lo tm)) (rdStep f d hi k cs lo tm s) (ei d (.tuple #[]) (k cs) lo tm s);cases ej w (g lo tm)with
  |none=>rfl
  |some y=>cases y<;>rfl
theorem xi:∀l:List DR,CT l=some λev k=>bM ev l k
 | []=>rfl
 |x::l=>by show(ob (CT l) λR=>OQ x λF=>some λev k cs lo tm s=>F ev (R ev k) cs lo tm s)=_;rw[xi l];show(OQ x λF=>some λev k cs lo tm s=>F ev (bM ev l k) cs lo tm s)=_;rw[La];rfl
def kn (n:Nat) (cs dB:List ig):Prop:=∀m,n<=m->∀s,bq m s cs=bq m s dB
theorem kn.cons {n:Nat} {cs dB:List ig} (h:kn n cs dB) (c:ig):kn n (c::cs) (c::dB):= λm hm s=>by show ab (Nat.ble m c.1) (ab (c.2 s) (bq m s cs) false) (bq m s cs)=ab (Nat.ble m c.1) (ab (c.2 s) (bq m s dB) false) (bq m s dB);rw[h m hm s]
theorem eF {n:Nat} {ev:Ev} {k k':KC} (hk:∀cs dB,kn n cs dB->k cs=k' dB):∀(l:List DR) {cs dB:List ig},kn n cs dB->bM ev l k cs=bM ev l k' dB
 | [],cs,dB,h=>hk cs dB h
 | .pa c::l,cs,dB,h=>by funext lo tm s;show dw ev c (bM ev l k cs) lo tm s=dw ev c (bM ev l k' dB) lo tm s;rw[eF hk l h]
 | .rd f d hi::l,cs,dB,h=>by funext lo tm s;show rdStep f d hi (bM ev l k) cs lo tm s=rdStep f d hi (bM ev l k') dB lo tm s;unfold rdStep;congr 1;funext v;rw[eF hk l (h.cons _)]
 | .gr g w f d hi::l,cs,dB,h=>by funext lo tm s;show D3 (ej w (g lo tm)) (rdStep f d hi (bM ev l k) cs lo tm s) (ei d (.tuple #[]) (bM ev l k cs) lo tm s)=D3 (ej w (g lo tm)) (rdStep f d hi (bM ev l k') dB lo tm s) (ei d (.tuple #[]) (bM ev l k' dB) lo tm s);rw[eF hk l h];congr 1;unfold rdStep;congr 1;funext v;rw[eF hk l (h.cons _)]
theorem vm (n:Nat) (s:AS):∀cs:List ig,(bq n s cs=true->∃dB,uc n s cs=some dB∧kn (n+1) cs dB)∧(bq n s cs=false->uc n s cs=none)
 | []=>⟨λ_=>⟨[],rfl,λ_ _ _=>rfl⟩,λh=>(by cases h)⟩
 |c::cs=>by
  obtain⟨h1,h2⟩:=vm n s cs;have e1:bq n s (c::cs)=ab (Nat.ble n c.1) (ab (c.2 s) (bq n s cs) false) (bq n s cs):=rfl;have e2:uc n s (c::cs)=Bool.rec (motive:= λ_=>Option (List ig)) (uc n s cs)
   (Bool.rec (motive:= λ_=>Option (List ig)) none (Bool.rec (motive:= λ_=>Option (List ig)) (Option.rec (motive:= λ_=>Option (List ig)) none (λr=>some (c::r)) (uc n s cs)) (uc n s cs) (Nat.ble c.1 n)) (c.2 s)) (Nat.ble n c.1):=rfl
  have dead:c.1<=n->∀ {dB:List ig},kn (n+1) cs dB->kn (n+1) (c::cs) dB:= λhc dB h m hm s=>by
   have e:bq m s (c::cs)=ab (Nat.ble m c.1) (ab (c.2 s) (bq m s cs) false) (bq m s cs):=rfl;have:Nat.ble m c.1=false:=by
    cases hb:Nat.ble m c.1 with
    |false=>rfl
    |true=>have:=Nat.le_of_ble_eq_true hb;omega
   rw[e,this];exact h m hm s
  rw[e1,e2];cases hb:Nat.ble n c.1 with
  |false=>
   have hc:c.1<=n:=by
    have:¬n<=c.1:= λh=>by rw[Nat.ble_eq_true_of_le h]at hb;cases hb
    omega
   refine⟨λh=>?_,λh=>h2 h⟩;obtain⟨dB,q1,q2⟩:=h1 h;exact⟨dB,q1,dead hc q2⟩
  |true=>
   cases hs:c.2 s with
   |false=>exact⟨λh=>(by cases h),λ_=>rfl⟩
   |true=>
    refine⟨λh=>?_,λh=>?_⟩
    ·obtain⟨dB,q1,q2⟩:=h1 h;cases hd:Nat.ble c.1 n with
     |true=>exact⟨dB,q1,dead (Nat.le_of_ble_eq_true hd) q2⟩
     |false=>refine⟨c::dB,?_,q2.cons c⟩;show Option.rec (motive:= λ_=>Option (List ig)) none (λr=>some (c::r)) (uc n s cs)=_;rw[q1]
    ·have:=h2 h;cases hd:Nat.ble c.1 n with
     |true=>exact this
     |false=>show Option.rec (motive:= λ_=>Option (List ig)) none (λr=>some (c::r)) (uc n s cs)=_;rw[this]
theorem vn {n:Nat} {k k':KC} (hk:∀cs dB,kn (n+1) cs dB->k cs=k' dB) {cs dB:List ig} (h:kn n cs dB):dW n k cs=Ae n k' dB:=by
 funext lo tm s;show ab (bq n s cs) (k cs lo tm s) .no=Option.rec (motive:= λ_=>Out) .no (λcs=>k' cs lo tm s) (uc n s dB);obtain⟨h1,h2⟩:=vm n s dB;rw[h n (Nat.le_refl _) s];cases hc:bq n s dB with
 |false=>rw[h2 hc];rfl
 |true=>obtain⟨M8,q1,q2⟩:=h1 hc;rw[q1];show k cs lo tm s=k' M8 lo tm s;rw[hk cs M8 λm hm s=>(h m (by omega) s).trans (q2 m hm s)]
theorem nU (last:List DR):∀(l:List iU) (n:Nat) {N:Ev->KC},jz l last n=some N->∀(ev:Ev) {cs dB:List ig},kn n cs dB->bR ev l last lS n cs=N ev dB
 | [],n,N,h,ev,cs,dB,hc=>by have h:(ob (CT last) λR=>some λev=>R ev (Ae n λ_=>lS))=some N:=h;rw[xi]at h;cases h;exact eF (λcs dB h=>vn (λ_ _ _=>rfl) h) last hc
 |st::l,n,N,h,ev,cs,dB,hc=>by
  have h:(ob (CT st.pre) λR=>GL st.w λW=>aq (Nat.succ n) λm=>ob (jz l last m) λN=>some λev=>R ev (Ae n λcs=>W ev (N ev cs)))=some N:=h;rw[xi]at h;have h:(GL st.w λW=>aq (Nat.succ n) λm=>ob (jz l last m) λN=>some λev=>bM ev st.pre (Ae n λcs=>W ev (N ev cs)))=some N:=h;rw[wL]at h;have h:(ob (jz l last (n+1)) λN=>some λev=>bM ev st.pre (Ae n λcs lo tm s=>dw ev st.w (N ev cs) lo tm s))=some N:=h;cases hN:jz l last (n+1)with
  |none=>rw[hN]at h;cases h
  |some N1=>rw[hN]at h;cases h;refine eF (λcs dB h=>vn (λcs dB h=>?_) h) st.pre hc;funext lo tm s;show dw ev st.w (bR ev l last lS (n+1) cs) lo tm s=_;rw[nU last l (n+1) hN ev h]
theorem Dr {st:List iU} {last:List DR} {f:CF} (h:kq st last=some f):NR st last=f:=by
 unfold kq at h;cases hN:jz st last 0 with
 |none=>rw[hN]at h;cases h
 |some N=>rw[hN]at h;cases h;funext ev tm s;show bR ev st last lS 0 [] .nil tm s=N ev [] .nil tm s;rw[nU last st 0 hN ev λ_ _ _=>rfl]
theorem vp {aa t:Nat} {f:cI} (h:BN aa (.tmp t)=some f):ab (kept aa t) (some (OP t)) (some (PA t))=some f:=by have h:ab (kept aa t) (rq 12 t λg=>some λ_ tm=>g tm) (some (PA t))=some f:=h;rw[rX]at h;exact h
end Go.Eng
end
noncomputable section
namespace Go.Eng
structure Loc where
 b:Nat
 base:Nat
 lim:Nat
 rest:List MapEntry
abbrev Ren:=Nat->Option Loc
mutual
inductive ag (ρ:Ren):Value->Value->Prop where
 |bool (b:Bool):ag ρ (.bool b) (.bool b)
 |int (k:IntKind) (n:Int):ag ρ (.int k n) (.int k n)
 |string (s:ByteArray):ag ρ (.string s) (.string s)
 |junk (m n:Nat) (v:Value) (h:cF v=true) (h':m=1->∃c:Nat,v= .int .i64 c∧n<=c):ag ρ (.complex .f32 m n) v
 |mT (g off:Nat):ag ρ (.complex .f64 g off) (.pointer (some ⟨g,off,none⟩))
 |fz:ag ρ (.pointer none) (.pointer none)
 |ptr {a:Nat} {x:Loc} (off:Nat) (h:ρ a=some x):ag ρ (.pointer (some ⟨a,off,none⟩)) (.pointer (some ⟨x.b,x.base+off,none⟩))
 |bc:ag ρ (.slice none 0 0) (.slice none 0 0)
 |slice {a:Nat} {x:Loc} (off n c cap:Nat) (ad:Addr) (h:ρ a=some x) (h1:n<=c/512) (h2:c/512<=cap) (h3:c%2=1->cap=c/512)
   (h4:ad=⟨x.b,x.base+off,none⟩∨cap=0) (h5:c%2=0->x.base+off+cap*(c%512/2)<=x.lim):ag ρ (.slice (some ⟨a,off,none⟩) n c) (.slice (some ad) n cap)
 |iL:ag ρ (.map none) (.map none)
 |map {a:Nat} {x:Loc} (h:ρ a=some x):ag ρ (.map (some a)) (.map (some x.b))
 |func (f:Nat) {a b a' b':Array Value} (ha:af ρ a.toList a'.toList) (hb:af ρ b.toList b'.toList):ag ρ (.func (.func f) a b) (.func (.func f) a' b')
 |yield {l:Nat} {x:Loc} {a b a' b':Array Value} (h:ρ l=some x) (ha:af ρ a.toList a'.toList) (hb:af ρ b.toList b'.toList):ag ρ (.func (.yield l) a b) (.func (.yield x.b) a' b')
 |nilFunc:ag ρ .nilFunc .nilFunc
 |nilIface:ag ρ .nilIface .nilIface
 |iface (t:TypeId) {v v':Value} (h:ag ρ v v'):ag ρ (.iface t v) (.iface t v')
 |agg {a b:Array Value} (h:af ρ a.toList b.toList):ag ρ (.agg a) (.agg b)
 |tuple {a b:Array Value} (h:af ρ a.toList b.toList):ag ρ (.tuple a) (.tuple b)
inductive af (ρ:Ren):List Value->List Value->Prop where
 |nil:af ρ [] []
 |cons {v u:Value} {l m:List Value} (h:ag ρ v u) (hs:af ρ l m):af ρ (v::l) (u::m)
end
def aG (ρ aj:Ren):Prop:=∀a x,ρ a=some x->aj a=some x
theorem aG.refl (ρ:Ren):aG ρ ρ:= λ_ _ h=>h
theorem aG.trans {ρ aj Eu:Ren} (h:aG ρ aj) (h':aG aj Eu):aG ρ Eu:= λa x e=>h' a x (h a x e)
mutual
theorem ag.mono {ρ aj:Ren} (hr:aG ρ aj):∀ {v u:Value},ag ρ v u->ag aj v u
 |_,_,.bool b=> .bool b
 |_,_,.int k n=> .int k n
 |_,_,.string s=> .string s
 |_,_,.junk m n v h h'=> .junk m n v h h'
 |_,_,.mT g off=> .mT g off
 |_,_,.fz=> .fz
 |_,_,.ptr off h=> .ptr off (hr _ _ h)
 |_,_,.bc=> .bc
 |_,_,.slice off n c cap ad h h1 h2 h3 h4 h5=> .slice off n c cap ad (hr _ _ h) h1 h2 h3 h4 h5
 |_,_,.iL=> .iL
 |_,_,.map h=> .map (hr _ _ h)
 |_,_,.func f ha hb=> .func f (af.mono hr ha) (af.mono hr hb)
 |_,_,.yield h ha hb=> .yield (hr _ _ h) (af.mono hr ha) (af.mono hr hb)
 |_,_,.nilFunc=> .nilFunc
 |_,_,.nilIface=> .nilIface
 |_,_,.iface t h=> .iface t (ag.mono hr h)
 |_,_,.agg h=> .agg (af.mono hr h)
 |_,_,.tuple h=> .tuple (af.mono hr h)
theorem af.mono {ρ aj:Ren} (hr:aG ρ aj):∀ {l m:List Value},af ρ l m->af aj l m
 |_,_,.nil=> .nil
 |_,_,.cons h hs=> .cons (ag.mono hr h) (af.mono hr hs)
end
section lists
variable {ρ:Ren}
theorem af.length {l m:List Value} (h:af ρ l m):l.length=m.length:=by
 induction l generalizing m with
 |nil=>cases h;rfl
 |cons v l ih=>cases h with|cons _ hs=>simp[ih hs]
theorem af.get {l m:List Value} (h:af ρ l m):∀ {i:Nat} {v:Value},l[i]? =some v->∃u,m[i]? =some u∧ag ρ v u:=by
 induction l generalizing m with
 |nil=>intro i v hv;cases hv
 |cons v l ih=>
  cases h with
  |cons h hs=>
   intro i w hw;cases i with
   |zero=>cases hw;exact⟨_,rfl,h⟩
   |succ i=>exact ih hs (by simpa using hw)
theorem af.append {l m l' m':List Value} (h:af ρ l m) (h':af ρ l' m'):af ρ (l++l') (m++m'):=by
 induction l generalizing m with
 |nil=>cases h;exact h'
 |cons v l ih=>cases h with|cons h hs=>exact .cons h (ih hs)
theorem af.take (n:Nat):∀ {l m:List Value},af ρ l m->af ρ (l.take n) (m.take n):=by
 induction n with
 |zero=>intro l m _;simpa using af.nil
 |succ n ih=>intro l m h;cases h with|nil=>simpa using af.nil|cons h hs=>exact .cons h (ih hs)
theorem af.drop (n:Nat):∀ {l m:List Value},af ρ l m->af ρ (l.drop n) (m.drop n):=by
 induction n with
 |zero=>intro l m h;simpa using h
 |succ n ih=>intro l m h;cases h with|nil=>simpa using af.nil|cons h hs=>simpa using ih hs
theorem ag.cells {v u:Value} (h:ag ρ v u):af ρ v.cells.toList u.cells.toList:=by
 cases h
 case agg h=>exact h
 case junk h h'=>
  have:u.cells= #[u]:=by cases u<;>first|rfl|cases h
  rw[this];exact .cons (.junk _ _ _ h h') .nil
 all_goals exact .cons (by constructor<;>assumption) .nil
theorem ag.one {v u:Value} (h:ag ρ v u) (h1:cF v=true):cF u=true:=by
 cases h
 case junk h _=>exact h
 case agg=>cases h1
 case tuple=>cases h1
 all_goals rfl
end lists
inductive Plain:Value->Prop where
 |bool (b):Plain (.bool b)
 |int (k n):Plain (.int k n)
 |string (s):Plain (.string s)
 |agg (a:Array Value) (h:∀v∈a.toList,Plain v):Plain (.agg a)
mutual
theorem ag.plain {ρ:Ren}:∀ {v u:Value},ag ρ v u->Plain v->u=v
 |_,_,.bool b,_=>rfl
 |_,_,.int k n,_=>rfl
 |_,_,.string s,_=>rfl
 |_,_,.agg (a:=a) (b:=b) h,hp=>by
  cases hp with
  |agg _ hp=>exact congrArg Value.agg (Array.ext' (af.plain h hp))
theorem af.plain {ρ:Ren}:∀ {l m:List Value},af ρ l m->(∀v∈l,Plain v)->m=l
 |_,_,.nil,_=>rfl
 |_,_,.cons h hs,hp=>by rw[ag.plain h (hp _ (by simp)),af.plain hs (λv hv=>hp v (by simp[hv]))]
end
inductive F2 {α β:Type} (R:α->β->Prop):List α->List β->Prop where
 |nil:F2 R [] []
 |cons {a:α} {b:β} {l:List α} {m:List β} (h:R a b) (hs:F2 R l m):F2 R (a::l) (b::m)
theorem F2.mono {α β:Type} {R S:α->β->Prop} (L4:∀a b,R a b->S a b):∀ {l:List α} {m:List β},F2 R l m->F2 S l m
 |_,_,.nil=> .nil
 |_,_,.cons h hs=> .cons (L4 _ _ h) (F2.mono L4 hs)
def aW (P:Program) (ρ:Ren) (kt:TypeId) (es:List (Value×Value×Nat)) (ents:Array MapEntry):Prop:=
 ∃l:List MapEntry,l.Perm ents.toList∧F2 (λp e=>p.1=e.key∧aC P kt p.1=true∧Plain p.1∧ag ρ p.2.1 e.val∧(p.2.2=0∨p.2.2=e.born+1)) es l∧(es.map (·.1)).Nodup
def Borns (ck:Nat) (ents:Array MapEntry):Prop:=(ents.toList.map (·.born)).Nodup∧∀e∈ents.toList,e.born<ck
def gC (ρ:Ren) (tm:T Value) (tmps:Array Value):Prop:=∀t v,tm.get t=some v->∃u,tmps[t]? =some u∧ag ρ v u
structure aH (P:Program) (ρ:Ren) (x:Loc) (w:World) (c:T (List Value)) (sz n:Nat) (ro:Bool) (et:TypeId):Prop where
 cell:∀i l,c.get i=some l->i<n∧l.length=sz∧∀(j:Nat) (v:Value),l[j]? =some v->∃u,w.cell? ⟨x.b,x.base+(i*sz+j),none⟩=some u∧ag ρ v u
 all:∀o,o<x.lim->(w.cell? ⟨x.b,o,none⟩).isSome=true
 free:ro=false->∀o,w.frozen? ⟨x.b,o,none⟩=true->(w.cell? ⟨x.b,o,none⟩)=none∧P.underlying et=some (.int .u8)
 shape:w.shape? x.b=some (et,x.lim)
 mult:∃q,x.base=q*sz
def ye (P:Program) (ρ:Ren) (kt:TypeId) (rest:List MapEntry) (es:List (Value×Value×Nat)) (ents:Array MapEntry):Prop:=
 ∃l:List MapEntry,(l++rest).Perm ents.toList∧F2 (λp e=>p.1=e.key∧aC P kt p.1=true∧Plain p.1∧ag ρ p.2.1 e.val∧(p.2.2=0∨p.2.2=e.born+1)) es l∧(∀e∈rest,aC P kt e.key=true)∧((l++rest).map (·.key)).Nodup
def cj (P:Program) (ρ:Ren) (x:Loc) (w:World):Blk->Prop
 | .cells c sz n ro et=>aH P ρ x w c sz n ro et
 | .map kt es ck=>∃ents,w.heap[x.b]? =some (.map ents ck)∧aW P ρ kt es ents∧Borns ck ents
 | .pmap kt es ck=>∃ents,w.heap[x.b]? =some (.map ents ck)∧ye P ρ kt x.rest es ents∧Borns ck ents
 | .cQ s p=>x.base=0∧w.heap[x.b]? =some (.stringIter s p)
 | .mapIter r ck=>x.base=0∧((r=none∧w.heap[x.b]? =some (.mapIter none 0 #[] 0))∨∃a y,r=some a∧ρ a=some y∧w.heap[x.b]? =some (.mapIter (some y.b) ck #[] ck))
 | .loop st fU _ nt kp tm ps Lv bd=>∃tmps fn r,w.heap[x.b]? =some (.loop {state:=st,pending:=fU,fn,tmps,params:=ps.toArray,assign:=Lv,body:=bd,defers:=r})∧gC ρ tm tmps∧(∀t v,tm.get t=some v->kept kp t=true)∧nt<=tmps.size∧∀p∈ps,p<nt
def eo:Blk->Bool
 | .cells _ _ _ ro _=>ro
 |_=>false
theorem gC.mono {ρ aj:Ren} (hr:aG ρ aj) {tm:T Value} {tmps:Array Value} (h:gC ρ tm tmps):gC aj tm tmps:=
 λt v e=>let⟨u,hu,hv⟩:=h t v e;⟨u,hu,hv.mono hr⟩
theorem aW.mono {P:Program} {ρ aj:Ren} (hr:aG ρ aj) {kt:TypeId} {es:List (Value×Value×Nat)} {ents:Array MapEntry} (h:aW P ρ kt es ents):aW P aj kt es ents:=
 let⟨l,hp,hf,hn⟩:=h;⟨l,hp,hf.mono λ_ _ ⟨a,b,c,d,e⟩=>⟨a,b,c,d.mono hr,e⟩,hn⟩
theorem ye.mono {P:Program} {ρ aj:Ren} (hr:aG ρ aj) {kt:TypeId} {rest:List MapEntry} {es:List (Value×Value×Nat)} {ents:Array MapEntry} (h:ye P ρ kt rest es ents):ye P aj kt rest es ents:=
 let⟨l,hp,hf,hk,hn⟩:=h;⟨l,hp,hf.mono λ_ _ ⟨a,b,c,d,e⟩=>⟨a,b,c,d.mono hr,e⟩,hk,hn⟩
theorem aH.mono {P:Program} {ρ aj:Ren} (hr:aG ρ aj) {x:Loc} {w:World} {c sz n ro et} (h:aH P ρ x w c sz n ro et):aH P aj x w c sz n ro et:=
 ⟨λi l e=>let⟨a,b,c⟩:=h.cell i l e;⟨a,b,λj v hv=>let⟨u,hu,eR⟩:=c j v hv;⟨u,hu,eR.mono hr⟩⟩,h.all,h.free,h.shape,h.mult⟩
theorem cj.mono {P:Program} {ρ aj:Ren} (hr:aG ρ aj) {x:Loc} {w:World}:∀ {k:Blk},cj P ρ x w k->cj P aj x w k
 | .cells ..,h=>aH.mono hr h
 | .map ..,⟨e,h,hm,hb⟩=>⟨e,h,hm.mono hr,hb⟩
 | .pmap ..,⟨e,h,hm,hb⟩=>⟨e,h,hm.mono hr,hb⟩
 | .cQ ..,h=>h
 | .mapIter ..,⟨h0,h⟩=>⟨h0,h.imp id λ⟨a,y,h1,h2,h3⟩=>⟨a,y,h1,hr _ _ h2,h3⟩⟩
 | .loop ..,⟨t,f,r,h,he,hn⟩=>⟨t,f,r,h,he.mono hr,hn⟩
theorem eG {w w':World} {b:Nat} (h:w'.heap[b]? =w.heap[b]?) (o:Nat):w'.cell? ⟨b,o,none⟩=w.cell? ⟨b,o,none⟩:=by simp[World.cell?,h]
theorem uz {w w':World} {b:Nat} (h:w'.heap[b]? =w.heap[b]?) (o:Nat):w'.frozen? ⟨b,o,none⟩=w.frozen? ⟨b,o,none⟩:=by simp[World.frozen?,h]
theorem xC {w w':World} {b:Nat} (h:w'.heap[b]? =w.heap[b]?):w'.shape? b=w.shape? b:=by simp[World.shape?,h]
theorem aH.congr {P:Program} {ρ:Ren} {x:Loc} {w w':World} (h:w'.heap[x.b]? =w.heap[x.b]?) {c sz n ro et} (k:aH P ρ x w c sz n ro et):aH P ρ x w' c sz n ro et:=
 ⟨λi l e=>let⟨a,b,c⟩:=k.cell i l e;⟨a,b,λj v hv=>by rw[eG h];exact c j v hv⟩,
   λo ho=>by rw[eG h];exact k.all o ho,λhro o ho=>by rw[uz h]at ho;rw[eG h];exact k.free hro o ho,by rw[xC h];exact k.shape,k.mult⟩
theorem cj.congr {P:Program} {ρ:Ren} {x:Loc} {w w':World} (h:w'.heap[x.b]? =w.heap[x.b]?):∀ {k:Blk},cj P ρ x w k->cj P ρ x w' k
 | .cells ..,k=>aH.congr h k
 | .map ..,⟨e,h',hm⟩=>⟨e,h.trans h',hm⟩
 | .pmap ..,⟨e,h',hm⟩=>⟨e,h.trans h',hm⟩
 | .cQ ..,⟨h0,h'⟩=>⟨h0,h.trans h'⟩
 | .mapIter ..,⟨h0,h'⟩=>⟨h0,h'.imp (λ⟨a,b⟩=>⟨a,h.trans b⟩) λ⟨a,y,h1,h2,h3⟩=>⟨a,y,h1,h2,h.trans h3⟩⟩
 | .loop ..,⟨t,f,r,h',he⟩=>⟨t,f,r,h.trans h',he⟩
def aQ (ρ:Ren) (s:AS) (b:Nat):Prop:=∃a k x,s.h.get a=some k∧ρ a=some x∧x.b=b
def Fq (P:Program):Value:=match P.cutTypes.find? (·.1== "internal/reflectlite.rtype"),(List.range P.types.size).find? (λt=>P.rowNamed t [101,114,114,111,114])with|some u,some t=> .iface u.2 (.agg #[typeHandle P t])|_,_=> .nilIface
def wg (P:Program) (n:String):Option (List Value):=match iw n with|some vs=>some vs|none=>bif n== "errors.errorType" then some [Fq P]else none
theorem Ib {P:Program} {n:String} {vs:List Value} (h:iw n=some vs):wg P n=some vs:=by unfold wg;rw[h]
def LB (P:Program) (ρ:Ren) (s:AS) (w:World):Prop:=∀g gl vs,P.globals[g]? =some gl->wg P gl.name=some vs->g<w.heap.size∧¬aQ ρ s g∧∀(i:Nat) (v:Value),vs[i]? =some v->w.cell? ⟨g,i,none⟩=some v
theorem LB.of {P:Program} {ρ aj:Ren} {s s':AS} {w w':World} (h:LB P ρ s w) (hsz:w.heap.size<=w'.heap.size) (hf:∀b,b<w.heap.size->¬aQ ρ s b->w'.heap[b]? =w.heap[b]?∧¬aQ aj s' b):LB P aj s' w':= λg gl vs h1 h2=>
 let⟨a,b,c⟩:=h g gl vs h1 h2
 let⟨e,n⟩:=hf g a b
 ⟨Nat.lt_of_lt_of_le a hsz,n,λi v hv=>by rw[eG e];exact c i v hv⟩
theorem xD {n:String} {vs:List Value} (h:iw n=some vs):∃v,vs[0]? =some v:=by
 unfold iw at h;cases hb:(n== "internal/strconv.uint64pow10")with
 |false=>rw[hb]at h;cases h
 |true=>rw[hb]at h;cases h;exact⟨_,rfl⟩
theorem Ds {P:Program} {n:String} {vs:List Value} (h:wg P n=some vs):∃v,vs[0]? =some v:=by
 unfold wg at h;split at h
 ·rename_i hg;cases h;exact xD hg
 ·cases hb:(n== "errors.errorType")with
  |false=>rw[hb]at h;cases h
  |true=>rw[hb]at h;cases h;exact⟨_,rfl⟩
theorem LB.ne {P:Program} {ρ:Ren} {s:AS} {w:World} {b g:Nat} {gl:Global} {vs:List Value} (h:LB P ρ s w) (hb:∀i,w.cell? ⟨b,i,none⟩=none) (h1:P.globals[g]? =some gl) (h2:wg P gl.name=some vs):b≠g:= λe=>by obtain⟨v,hv⟩:=Ds h2;have:=(h g gl vs h1 h2).2.2 0 v hv;rw[<-e,hb]at this;cases this
structure Rel (P:Program) (ρ:Ren) (s:AS) (w:World):Prop where
 eu:∀a,s.nx<=a->ρ a=none
 top:∀a,s.nx<=a->s.h.get a=none
 blk:∀a k x,s.h.get a=some k->ρ a=some x->x.b<w.heap.size∧cj P ρ x w k
 lim:s.lim<=s.nx
 aX:∀a a' k k' x x',a≠a'->s.h.get a=some k->s.h.get a'=some k'->ρ a=some x->ρ a'=some x'->x.b=x'.b->eo k=true∧eo k'=true
 gl:LB P ρ s w
structure aN (ρ:Ren) (s:AS) (w:World) (aj:Ren) (s':AS) (w':World):Prop where
 jY:∀a,a<s.nx->aj a=ρ a
 nx:s.nx<=s'.nx
 tape:w'.tape=w.tape
 os:w'.os=w.os
 out:w'.output=w.output
 size:w.heap.size<=w'.heap.size
 frame:∀b,b<w.heap.size->¬aQ ρ s b->w'.heap[b]? =w.heap[b]?∧¬aQ aj s' b
 ph:∀a,a<s.nx->ρ a=none->s'.h.get a=s.h.get a∨s'.h.get a=none
 lp:∀(b:Nat) (r:Loop),w.heap[b]? =some (Obj.loop r)->∃r',w'.heap[b]? =some (Obj.loop r')
 lim:s'.lim=s.lim
 low:∀a,a<s.lim->s'.h.get a=s.h.get a
 gD:∀a k x,a<s.lim->a<s.nx->s.h.get a=some k->eo k=false->ρ a=some x->w'.heap[x.b]? =w.heap[x.b]?
def kv:Blk->Bool
 | .loop .. =>true
 |_=>false
theorem oW {P:Program} {ρ:Ren} {x:Loc} {w:World} {r:Loop} (h:w.heap[x.b]? =some (.loop r)):∀ {k:Blk},cj P ρ x w k->kv k=true
 | .cells ..,k=>by have:=k.shape;unfold World.shape? at this;rw[h]at this;cases this
 | .map ..,⟨_,h',_⟩=>by rw[h]at h';cases h'
 | .pmap ..,⟨_,h',_⟩=>by rw[h]at h';cases h'
 | .cQ ..,⟨_,h'⟩=>by rw[h]at h';cases h'
 | .mapIter ..,⟨_,h'⟩=>by
  rcases h' with ⟨_,h'⟩|⟨_,_,_,_,h'⟩
  ·rw[h]at h';cases h'
  ·rw[h]at h';cases h'
 | .loop ..,_=>rfl
theorem Dt {P:Program} {ρ:Ren} {x:Loc} {w:World}:∀ {k:Blk},kv k=true->cj P ρ x w k->∃r,w.heap[x.b]? =some (.loop r)
 | .loop ..,_,⟨_,_,_,h,_⟩=>⟨_,h⟩
theorem aN.refl (ρ:Ren) (s:AS) (w:World):aN ρ s w ρ s w:=⟨λ_ _=>rfl,Nat.le_refl _,rfl,rfl,rfl,Nat.le_refl _,λ_ _ h=>⟨rfl,h⟩,λ_ _ _=> .inl rfl,λ_ r h=>⟨r,h⟩,rfl,λ_ _=>rfl,λ_ _ _ _ _ _ _ _=>rfl⟩
theorem aN.trans {ρ aj Eu:Ren} {s s' Sj:AS} {w w' w'':World} (h:aN ρ s w aj s' w') (h':aN aj s' w' Eu Sj w''):aN ρ s w Eu Sj w'':=
  ⟨λa ha=>by rw[h'.jY a (Nat.lt_of_lt_of_le ha h.nx),h.jY a ha],Nat.le_trans h.nx h'.nx,by rw[h'.tape,h.tape],by rw[h'.os,h.os],by rw[h'.out,h.out],Nat.le_trans h.size h'.size,
   λb hb hn=>let⟨e1,n1⟩:=h.frame b hb hn;let⟨e2,n2⟩:=h'.frame b (Nat.lt_of_lt_of_le hb h.size) n1;⟨e2.trans e1,n2⟩,
   λa ha hn=>by
     rcases h'.ph a (Nat.lt_of_lt_of_le ha h.nx) (by rw[h.jY a ha];exact hn)with e|e
     · rw[e];exact h.ph a ha hn
     · exact .inr e,λb r hb=>let⟨r1,h1⟩:=h.lp b r hb;h'.lp b r1 h1,h'.lim.trans h.lim,λa ha=>by rw[h'.low a (by rw[h.lim];exact ha),h.low a ha],
   λa k x ha hn hk hro hx=>by rw[h'.gD a k x (by rw[h.lim];exact ha) (Nat.lt_of_lt_of_le hn h.nx) (by rw[h.low a ha];exact hk) hro (by rw[h.jY a hn];exact hx),h.gD a k x ha hn hk hro hx]⟩
theorem aN.le {P:Program} {ρ aj:Ren} {s s':AS} {w w':World} (h:aN ρ s w aj s' w') (hr:Rel P ρ s w):aG ρ aj:= λa x e=>by
 have:a<s.nx:=by
  rcases Nat.lt_or_ge a s.nx with h|h
  ·exact h
  ·rw[hr.eu a h]at e;cases e
 rw[h.jY a this];exact e
theorem Rel.of_heap {P:Program} {ρ:Ren} {s:AS} {w w':World} (h:Rel P ρ s w) (hh:w'.heap=w.heap):Rel P ρ s w':=
 ⟨h.eu,h.top,λa k x e e'=>let⟨h1,h2⟩:=h.blk a k x e e';⟨by rw[hh];exact h1,h2.congr (by rw[hh])⟩,h.lim,h.aX,h.gl.of (by rw[hh];exact Nat.le_refl _) λb _ hn=>⟨by rw[hh],hn⟩⟩
theorem aN.of_heap {ρ:Ren} {s:AS} {w w':World} (hh:w'.heap=w.heap) (ht:w'.tape=w.tape) (ho:w'.os=w.os) (hu:w'.output=w.output):aN ρ s w ρ s w':=
 ⟨λ_ _=>rfl,Nat.le_refl _,ht,ho,hu,by rw[hh];exact Nat.le_refl _,λ_ _ h=>⟨by rw[hh],h⟩,λ_ _ _=> .inl rfl,λ_ r h=>⟨r,by rw[hh];exact h⟩,rfl,λ_ _=>rfl,λ_ _ _ _ _ _ _ _=>by rw[hh]⟩
theorem AS.iz {s s':AS} {k:Blk} (h:s.new k=some s'):s'.lim=s.lim:=by
 have h':Option.rec (motive:= λ_=>Option AS) none (λh=>aq (Nat.succ s.nx) λn=>some ⟨h,n,s.lim⟩) (Hp.put (some k) s.h s.nx)=some s':=h;cases hp:Hp.put (some k) s.h s.nx with
 |none=>rw[hp]at h';cases h'
 |some t=>rw[hp]at h';simp only[ak]at h';cases h';rfl
theorem AS.eg {s s':AS} {k:Blk} (h:s.new k=some s'):s'.nx=s.nx+1∧∀j,s'.h.get j=if j=s.nx then some k else s.h.get j:=by
 have h':Option.rec (motive:= λ_=>Option AS) none (λh=>aq (Nat.succ s.nx) λn=>some ⟨h,n,s.lim⟩) (Hp.put (some k) s.h s.nx)=some s':=h;cases hp:Hp.put (some k) s.h s.nx with
 |none=>rw[hp]at h';cases h'
 |some t=>rw[hp]at h';simp only[ak]at h';cases h';exact⟨rfl,λj=>Hp.aR _ _ _ _ hp j⟩
theorem AS.qP {s s':AS} {i:Nat} {k:Option Blk} (h:s.set i k=some s'):s'.nx=s.nx∧(∀j,s'.h.get j=if j=i then k else s.h.get j)∧s'.lim=s.lim∧s.lim<=i:=by
 have h':Bool.rec (motive:= λ_=>Option AS) (Option.rec (motive:= λ_=>Option AS) none (λh=>some ⟨h,s.nx,s.lim⟩) (Hp.put k s.h i)) none (Nat.blt i s.lim)=some s':=h;cases hb:Nat.blt i s.lim with
 |true=>rw[hb]at h';cases h'
 |false=>
  rw[hb]at h';cases hp:Hp.put k s.h i with
  |none=>rw[hp]at h';cases h'
  |some t=>
   rw[hp]at h';cases h';exact⟨rfl,λj=>Hp.aR _ _ _ _ hp j,rfl,Nat.le_of_not_lt λhlt=>by have:Nat.blt i s.lim=true:=Nat.ble_eq_true_of_le hlt;rw[hb]at this;cases this⟩
theorem AS.cP {s s':AS} {i:Nat} {k:Option Blk} (h:s.set i k=some s'):s'.nx=s.nx∧∀j,s'.h.get j=if j=i then k else s.h.get j:=
 ⟨(AS.qP h).1,(AS.qP h).2.1⟩
theorem AS.aS {s s':AS} {i:Nat} {k:Option Blk} (h:s.set i k=some s'):s'.lim=s.lim∧s.lim<=i:=⟨(AS.qP h).2.2.1,(AS.qP h).2.2.2⟩
theorem AS.xj {s s':AS} {k:Blk} (h:s.new k=some s') (hl:s.lim<=s.nx):∀a,a<s.lim->s'.h.get a=s.h.get a:= λa ha=>by rw[(AS.eg h).2,if_neg (by omega)]
theorem AS.qQ {s s':AS} {i:Nat} {k:Option Blk} (h:s.set i k=some s'):∀a,a<s.lim->s'.h.get a=s.h.get a:= λa ha=>by rw[(AS.cP h).2,if_neg (by have:=(AS.aS h).2;omega)]
def Ren.put (ρ:Ren) (a:Nat) (x:Loc):Ren:= λj=>if j=a then some x else ρ j
theorem Rel.alloc {P:Program} {ρ:Ren} {s s':AS} {w w':World} {k:Blk} {x:Loc} (hr:Rel P ρ s w) (hs:s.new k=some s')
  (hx:x.b=w.heap.size) (hsz:w'.heap.size=w.heap.size+1) (hold:∀b,b<w.heap.size->w'.heap[b]? =w.heap[b]?)
  (ht:w'.tape=w.tape) (ho:w'.os=w.os) (hu:w'.output=w.output)
  (hb:cj P (ρ.put s.nx x) x w' k):Rel P (ρ.put s.nx x) s' w'∧aN ρ s w (ρ.put s.nx x) s' w':=by
 obtain⟨hnx,hg⟩:=AS.eg hs;have hle:aG ρ (ρ.put s.nx x):= λa y e=>by
  unfold Ren.put;by_cases ha:a=s.nx
  ·rw[ha,hr.eu _ (Nat.le_refl _)]at e;cases e
  ·rw[if_neg ha];exact e
 have bC:∀a,a≠s.nx->(ρ.put s.nx x) a=ρ a:= λa ha=>by unfold Ren.put;rw[if_neg ha]
 have fp:(ρ.put s.nx x) s.nx=some x:=by unfold Ren.put;rw[if_pos rfl]
 refine(λ(hS:aN ρ s w (ρ.put s.nx x) s' w')=>⟨⟨λa ha=>?_,λa ha=>?_,λa k' y e e'=>?_,by rw[AS.iz hs];have:=hr.lim;omega,λa a' k1 k2 x1 x2 hne e1 e2 r1 r2 kg=>?_,hr.gl.of hS.size hS.frame⟩,hS⟩) ⟨λa ha=>?_,by omega,ht,ho,hu,by omega,λb cz hn=>?_,λa ha hn=>?_,λb r cz=>⟨r,by rw[hold b (Array.getElem?_eq_some_iff.1 cz).1];exact cz⟩,AS.iz hs,AS.xj hs hr.lim,λa k' y _ _ fZ _ hy=>hold _ (hr.blk a k' y fZ hy).1⟩
 ·rw[bC a (by omega)]
 ·refine⟨hold b cz,?_⟩;rintro⟨a,k',y,e,e',rfl⟩;rw[hg]at e;by_cases ha:a=s.nx
  ·rw[ha,fp]at e';cases e';omega
  ·rw[if_neg ha]at e;rw[bC a ha]at e';exact hn ⟨a,k',y,e,e',rfl⟩
 ·exact .inl (by rw[hg,if_neg (by omega)])
 ·rw[bC a (by omega)];exact hr.eu a (by omega)
 ·rw[hg,if_neg (by omega)];exact hr.top a (by omega)
 ·rw[hg]at e;by_cases ha:a=s.nx
  ·rw[if_pos ha]at e;cases e;rw[ha,fp]at e';cases e';exact⟨by omega,hb⟩
  ·rw[if_neg ha]at e;rw[bC a ha]at e';obtain⟨h1,h2⟩:=hr.blk a k' y e e';exact⟨by omega,(h2.congr (hold _ h1)).mono hle⟩
 ·rw[hg]at e1 e2;by_cases ha:a=s.nx
  ·rw[ha,fp]at r1;cases r1;have cZ:a'≠s.nx:= λe=>hne (ha.trans e.symm);rw[if_neg cZ]at e2;rw[bC a' cZ]at r2;have:=(hr.blk a' k2 x2 e2 r2).1;omega
  ·rw[if_neg ha]at e1;rw[bC a ha]at r1;by_cases cZ:a'=s.nx
   ·rw[cZ,fp]at r2;cases r2;have:=(hr.blk a k1 x1 e1 r1).1;omega
   ·rw[if_neg cZ]at e2;rw[bC a' cZ]at r2;exact hr.aX a a' k1 k2 x1 x2 hne e1 e2 r1 r2 kg
theorem Rel.write {P:Program} {ρ:Ren} {s s':AS} {w w':World} {a:Nat} {k k':Blk} {x:Loc} (hr:Rel P ρ s w) (hs:s.set a (some k')=some s')
  (hk:s.h.get a=some k) (hro:eo k=false) (hx:ρ a=some x) (hsz:w'.heap.size=w.heap.size) (hold:∀b,b≠x.b->w'.heap[b]? =w.heap[b]?)
  (ht:w'.tape=w.tape) (ho:w'.os=w.os) (hu:w'.output=w.output)
  (hb:cj P ρ x w' k') (hlk:kv k=true->kv k'=true:=by intro h;cases h):Rel P ρ s' w'∧aN ρ s w ρ s' w':=by
 obtain⟨hnx,hg⟩:=AS.cP hs;have halt:a<s.nx:=by
  rcases Nat.lt_or_ge a s.nx with h|h
  ·exact h
  ·rw[hr.eu a h]at hx;cases hx
 have hne:∀a' k2 x2,a'≠a->s.h.get a'=some k2->ρ a'=some x2->x2.b≠x.b:= λa' k2 x2 h e r cz=>by have:=(hr.aX a' a k2 k x2 x h e hk r hx cz).2;rw[hro]at this;cases this
 refine(λ(hS:aN ρ s w ρ s' w')=>⟨⟨λa ha=>hr.eu a (by omega),λb hb=>?_,λb k2 y e e'=>?_,by rw[(AS.aS hs).1,hnx];exact hr.lim,λb b' k1 k2 x1 x2 cL e1 e2 r1 r2 kg=>?_,hr.gl.of hS.size hS.frame⟩,hS⟩) ⟨λ_ _=>rfl,by omega,ht,ho,hu,by omega,λb cz hn=>?_,λb cz hn=>?_,λb r cz=>?_,(AS.aS hs).1,AS.qQ hs,λb k2 y hl _ zY _ hy=>hold _ (hne b k2 y (by have:=(AS.aS hs).2;omega) zY hy)⟩
 ·have iO:b≠x.b:= λe=>hn ⟨a,k,x,hk,hx,e.symm⟩;refine⟨hold b iO,?_⟩;rintro⟨c,k2,y,e,e',rfl⟩;rw[hg]at e;by_cases hc:c=a
  ·rw[hc,hx]at e';cases e';exact iO rfl
  ·rw[if_neg hc]at e;exact hn ⟨c,k2,y,e,e',rfl⟩
 ·exact .inl (by rw[hg,if_neg (λe=>by rw[e,hx]at hn;cases hn)])
 ·by_cases iO:b=x.b
  ·subst iO;exact Dt (hlk (oW cz (hr.blk a k x hk hx).2)) hb
  ·exact⟨r,by rw[hold b iO];exact cz⟩
 ·rw[hg,if_neg (by omega)];exact hr.top b (by omega)
 ·rw[hg]at e;by_cases cz:b=a
  ·subst cz;rw[if_pos rfl]at e;cases e;rw[hx]at e';cases e';exact⟨by rw[hsz];exact(hr.blk b k x hk hx).1,hb⟩
  ·rw[if_neg cz]at e;obtain⟨h1,h2⟩:=hr.blk b k2 y e e';exact⟨by omega,h2.congr (hold _ (hne b k2 y cz e e'))⟩
 ·rw[hg]at e1 e2;by_cases yj:b=a
  ·by_cases G5:b'=a
   ·exact(cL (yj.trans G5.symm)).elim
   ·rw[if_neg G5]at e2;rw[yj,hx]at r1;cases r1;exact(hne b' k2 x2 G5 e2 r2 kg.symm).elim
  ·rw[if_neg yj]at e1;by_cases G5:b'=a
   ·rw[G5,hx]at r2;cases r2;exact(hne b k1 x1 yj e1 r1 kg).elim
   ·rw[if_neg G5]at e2;exact hr.aX b b' k1 k2 x1 x2 cL e1 e2 r1 r2 kg
theorem Rel.forget {P:Program} {ρ:Ren} {s s':AS} {w:World} {a:Nat} {x:Loc} (hr:Rel P ρ s w) (hs:s.set a none=some s') (hx:ρ a=some x):Rel P ρ s' w∧aN ρ s w ρ s' w:=by
 obtain⟨hnx,hg⟩:=AS.cP hs;have Ao:∀ {b k},s'.h.get b=some k->s.h.get b=some k:= λ {b k} e=>by
  rw[hg]at e;by_cases h:b=a
  ·rw[if_pos h]at e;cases e
  ·rw[if_neg h]at e;exact e
 refine(λ(hS:aN ρ s w ρ s' w)=>⟨⟨λa ha=>hr.eu a (by omega),λb hb=>?_,λb k2 y e e'=>hr.blk b k2 y (Ao e) e',by rw[(AS.aS hs).1,hnx];exact hr.lim,λb b' k1 k2 x1 x2 cL e1 e2 r1 r2 kg=>hr.aX b b' k1 k2 x1 x2 cL (Ao e1) (Ao e2) r1 r2 kg,hr.gl.of hS.size hS.frame⟩,hS⟩)
  ⟨λ_ _=>rfl,by omega,rfl,rfl,rfl,Nat.le_refl _,λb cz hn=>⟨rfl,?_⟩,λb cz hn=>?_,λ_ r h=>⟨r,h⟩,(AS.aS hs).1,AS.qQ hs,λ_ _ _ _ _ _ _ _=>rfl⟩
 ·rintro⟨c,k2,y,e,e',rfl⟩;exact hn ⟨c,k2,y,Ao e,e',rfl⟩
 ·exact .inl (by rw[hg,if_neg (λe=>by rw[e,hx]at hn;cases hn)])
 ·rw[hg];split
  ·rfl
  ·exact hr.top b (by omega)
end Go.Eng
end
noncomputable section
namespace Go.Eng
open Go
variable {op:BinOp} {n:Nat} {P:Program} {ρ:Ren} {v:Value}
theorem Gq:∀ {k k':IntKind},Hn k=Hn k'->k=k':=by intro k k' h;cases k<;>cases k'<;>first|rfl|(exact absurd h (by decide))
theorem jA {k k':IntKind}:tF k k'=true↔k=k':=by
 constructor
 ·intro h;exact Gq (Nat.eq_of_beq_eq_true h)
 ·rintro rfl;exact Nat.beq_refl _
theorem dI (k:IntKind) (n:Int):ia k n=some (.int k n):=by
 cases n with
 |ofNat m=>exact ak m (λm=>some (Value.int k (.ofNat m)))
 |negSucc m=>exact ak m (λm=>some (Value.int k (.negSucc m)))
theorem wrap_small {k:IntKind} {n:Int} (h:k.min<=n∧n<=k.max):k.wrap n=n:=by cases k<;>simp[IntKind.wrap,IntKind.min,IntKind.max,IntKind.bits,IntKind.signed]at* <;>omega
theorem gQ (k:IntKind) (n:Int):gi k n=some (.int k (k.wrap n)):=by
 cases n with
 |ofNat m=>
  show ab (Nat.blt m (lim k)) (aq m λm=>some (.int k (.ofNat m))) (ia k (k.wrap (.ofNat m)))=_;cases hb:Nat.blt m (lim k)with
  |false=>exact dI _ _
  |true=>
   have hlt:m<lim k:=by simpa[Nat.blt_eq]using hb
   rw[bG,ak,wrap_small];cases k<;>simp[lim,IntKind.min,IntKind.max,IntKind.bits,IntKind.signed]at* <;>omega
 |negSucc m=>
  show ab (Nat.blt m (Eg k)) (aq m λm=>some (.int k (.negSucc m))) (ia k (k.wrap (.negSucc m)))=_;cases hb:Nat.blt m (Eg k)with
  |false=>exact dI _ _
  |true=>
   have hlt:m<Eg k:=by simpa[Nat.blt_eq]using hb
   rw[bG,ak,wrap_small];cases k<;>simp[Eg,IntKind.min,IntKind.max,IntKind.bits,IntKind.signed]at* <;>omega
theorem oL (a b:Int):zX a b=decide (a=b):=by
 cases a<;>cases b<;>rename_i m n
 ·show Nat.beq m n=_;rw[Bool.eq_iff_iff];simp;omega
 ·show false=_;simp
 ·show false=_;simp
 ·show Nat.beq m n=_;rw[Bool.eq_iff_iff];simp
theorem mh (a b:Int):wo a b=decide (a<b):=by
 cases a<;>cases b<;>rename_i m n
 ·show Nat.blt m n=_;rw[Bool.eq_iff_iff];simp[Nat.blt_eq]
 ·show false=_;symm;simp;omega
 ·show true=_;symm;simp;omega
 ·show Nat.blt n m=_;rw[Bool.eq_iff_iff];simp[Nat.blt_eq];omega
theorem bV (b:Bool):bz b=some (.bool b):=by cases b<;>rfl
theorem iA (b:Bool):dR b=!b:=by cases b<;>rfl
theorem fG {b:Int} (h:jQ b=some n):b=(n:Int):=by
 cases b with
 |ofNat m=>cases h;rfl
 |negSucc m=>cases h
theorem ah {β:Type} (b:Bool) (t e:β):ab b t e=if b then t else e:=by cases b<;>rfl
theorem Fs {x y:UInt8}:Nat.beq x.toNat y.toNat=true↔x=y:=by
 constructor
 ·intro h;exact UInt8.toNat_inj.1 (Nat.eq_of_beq_eq_true h)
 ·rintro rfl;exact Nat.beq_refl _
theorem rL:∀(a b:List UInt8),DZ a b=(a==b):=by
 intro a;induction a with
 |nil=>intro b;cases b<;>rfl
 |cons x a ih=>
  intro b;cases b with
  |nil=>rfl
  |cons y b=>
   show ab (Nat.beq x.toNat y.toNat) (DZ a b) false=_;cases h:Nat.beq x.toNat y.toNat with
   |true=>have:=Fs.1 h;subst this;rw[bG,ih];simp
   |false=>
    have:x≠y:= λe=>by rw[Fs.2 e]at h;cases h
    show false=_;symm;simp[this]
theorem rM:∀(a b:List UInt8),D2 a b=Op.bytesLess a b:=by
 intro a;induction a with
 |nil=>intro b;cases b<;>rfl
 |cons x a ih=>
  intro b;cases b with
  |nil=>rfl
  |cons y b=>
   show ab (Nat.blt x.toNat y.toNat) true (ab (Nat.beq x.toNat y.toNat) (D2 a b) false)=(decide (x<y)||(x==y&&Op.bytesLess a b))
   have e1:Nat.blt x.toNat y.toNat=decide (x<y):=by rw[Bool.eq_iff_iff];simp[Nat.blt_eq,UInt8.lt_iff_toNat_lt]
   have e2:Nat.beq x.toNat y.toNat=(x==y):=by rw[Bool.eq_iff_iff,Fs];simp
   rw[e1,e2,ih];cases decide (x<y)<;>cases(x==y)<;>rfl
theorem mM:∀(a b:List UInt8),Op.bytesLess a b=true->(a==b)=false∧Op.bytesLess b a=false:=by
 intro a;induction a with
 |nil=>intro b h;cases b with|nil=>cases h|cons y b=>exact⟨rfl,rfl⟩
 |cons x a ih=>
  intro b h;cases b with
  |nil=>cases h
  |cons y b=>
   simp only[Op.bytesLess,Bool.or_eq_true,decide_eq_true_eq,Bool.and_eq_true,beq_iff_eq]at h;rcases h with h|⟨rfl,h⟩
   ·have hne:x≠y:= λe=>by subst e;exact absurd h (by simp[UInt8.lt_irrefl])
    have hn:¬y<x:= λe=>absurd (UInt8.lt_trans h e) (by simp[UInt8.lt_irrefl]);have cL:y≠x:= λe=>hne e.symm;exact⟨by simp[hne],by simp[Op.bytesLess,hn,cL]⟩
   ·obtain⟨h1,h2⟩:=ih b h;refine⟨?_,?_⟩
    ·simp at h1⊢;exact h1
    ·simp[Op.bytesLess,h2,UInt8.lt_irrefl]
theorem qx:∀(a b:List UInt8),Op.bytesLess a b=false->(a==b)=false->Op.bytesLess b a=true:=by
 intro a;induction a with
 |nil=>intro b h1 h2;cases b with|nil=>cases h2|cons y b=>cases h1
 |cons x a ih=>
  intro b h1 h2;cases b with
  |nil=>rfl
  |cons y b=>
   simp only[Op.bytesLess,Bool.or_eq_false_iff,decide_eq_false_iff_not]at h1;obtain⟨hn,h3⟩:=h1;by_cases e:x=y
   ·subst e;simp at h3;have:=ih b h3 (by simpa using h2);simp[Op.bytesLess,this]
   ·have:y<x:=by
     rw[UInt8.lt_iff_toNat_lt]at hn⊢;have:x.toNat≠y.toNat:= λh=>e (UInt8.toNat_inj.1 h);omega
    simp[Op.bytesLess,this]
theorem vq (a b:List UInt8):(Op.bytesLess a b||(a==b))=!Op.bytesLess b a:=by
 cases h:Op.bytesLess a b with
 |true=>rw[(mM a b h).2];rfl
 |false=>
  cases h2:(a==b)with
  |true=>
   have:a=b:=by simpa using h2
   subst this;rw[h];rfl
  |false=>rw[qx a b h h2];rfl
theorem nV {k:IntKind} {a b:Int} {t:TypeId} (w:World) (hs:Cm op=false) (h:jr op k a b=some v):
  ∃n,(binOp op t (.int k a) (.int k b)).run P w= .ok v w∧(v= .int k n∨∃c,v= .bool c):=by
 cases op
 case shl=>cases hs
 case shr=>cases hs
 case add=>have h':gi k (Int.add a b)=some v:=h;rw[gQ]at h';cases h';exact⟨_,by simp[binOp,Op.intArith]<;>rfl,.inl rfl⟩
 case sub=>have h':gi k (Int.sub a b)=some v:=h;rw[gQ]at h';cases h';exact⟨_,by simp[binOp,Op.intArith]<;>rfl,.inl rfl⟩
 case mul=>have h':gi k (Int.mul a b)=some v:=h;rw[gQ]at h';cases h';exact⟨_,by simp[binOp,Op.intArith]<;>rfl,.inl rfl⟩
 case quo=>
  have h':ab (zX b (.ofNat 0)) none (gi k (Int.tdiv a b))=some v:=h;obtain⟨hz,h'⟩:=bj h';rw[oL]at hz;rw[gQ]at h';cases h';have hb:¬b=0:=by simpa using hz
  exact⟨_,by simp[binOp,Op.intDiv,hb],.inl rfl⟩
 case rem=>
  have h':ab (zX b (.ofNat 0)) none (ia k (Int.tmod a b))=some v:=h;obtain⟨hz,h'⟩:=bj h';rw[oL]at hz;rw[dI]at h';cases h';have hb:¬b=0:=by simpa using hz
  exact⟨_,by simp[binOp,Op.intDiv,hb],.inl rfl⟩
 case and=>have h':ia k (k.wrap (BitVec.ofInt k.bits a&&&BitVec.ofInt k.bits b).toNat)=some v:=h;rw[dI]at h';cases h';exact⟨_,by simp[binOp,Op.intBits],.inl rfl⟩
 case or=>have h':ia k (k.wrap (BitVec.ofInt k.bits a|||BitVec.ofInt k.bits b).toNat)=some v:=h;rw[dI]at h';cases h';exact⟨_,by simp[binOp,Op.intBits],.inl rfl⟩
 case xor=>have h':ia k (k.wrap (BitVec.ofInt k.bits a^^^BitVec.ofInt k.bits b).toNat)=some v:=h;rw[dI]at h';cases h';exact⟨_,by simp[binOp,Op.intBits],.inl rfl⟩
 case andNot=>have h':ia k (k.wrap (BitVec.ofInt k.bits a&&& ~~~BitVec.ofInt k.bits b).toNat)=some v:=h;rw[dI]at h';cases h';exact⟨_,by simp[binOp,Op.intBits],.inl rfl⟩
 case eql=>have h':bz (zX a b)=some v:=h;rw[bV,oL]at h';cases h';exact⟨0,by simp[binOp,Op.intCmp]<;>(rw[Bool.eq_iff_iff];simp),.inr ⟨_,rfl⟩⟩
 case neq=>have h':bz (dR (zX a b))=some v:=h;rw[bV,iA,oL]at h';cases h';exact⟨0,by simp[binOp,Op.intCmp]<;>(rw[Bool.eq_iff_iff];simp),.inr ⟨_,rfl⟩⟩
 case lss=>have h':bz (wo a b)=some v:=h;rw[bV,mh]at h';cases h';exact⟨0,by simp[binOp,Op.intCmp],.inr ⟨_,rfl⟩⟩
 case leq=>have h':bz (dR (wo b a))=some v:=h;rw[bV,iA,mh]at h';cases h';exact⟨0,by simp[binOp,Op.intCmp]<;>(rw[Bool.eq_iff_iff];simp),.inr ⟨_,rfl⟩⟩
 case gtr=>have h':bz (wo b a)=some v:=h;rw[bV,mh]at h';cases h';exact⟨0,by simp[binOp,Op.intCmp],.inr ⟨_,rfl⟩⟩
 case geq=>have h':bz (dR (wo a b))=some v:=h;rw[bV,iA,mh]at h';cases h';exact⟨0,by simp[binOp,Op.intCmp]<;>(rw[Bool.eq_iff_iff];simp),.inr ⟨_,rfl⟩⟩
theorem zs {k k':IntKind} {a:Int} {t:TypeId} (w:World) (h:BG op k a n=some v):
  ∃m,(binOp op t (.int k a) (.int k' (n:Int))).run P w= .ok v w∧v= .int k m:=by
 have hn:¬((n:Int)<0):=by omega
 cases op
 case shl=>have h':gi k (Int.mul a (.ofNat (Nat.pow 2 (Nat.min n k.bits))))=some v:=h;rw[gQ]at h';cases h';refine⟨_,?_,rfl⟩;simp only[binOp,Op.shift,if_neg hn];rfl
 case shr=>have h':ia k (Int.fdiv a (.ofNat (Nat.pow 2 (Nat.min n k.bits))))=some v:=h;rw[dI]at h';cases h';refine⟨_,?_,rfl⟩;simp only[binOp,Op.shift,if_neg hn];rfl
 all_goals cases h
theorem xE {a b:ByteArray} {t:TypeId} (w:World) (h:FM op a.data.toList b.data.toList=some v):
  (binOp op t (.string a) (.string b)).run P w= .ok v w∧ag ρ v v:=by
 have ha:a.toList=a.data.toList:=ByteArray.toList_eq a;have hb:b.toList=b.data.toList:=ByteArray.toList_eq b;cases op
 case add=>
  have h':ob (tT a.data.toList b.data.toList) (λl=>ab (Nat.ble (len l) 1000000000) (some (Value.string ⟨⟨l⟩⟩)) none)=some v:=h;rw[qN]at h';obtain⟨hl,h'⟩:=ae (show ab (Nat.ble (len (a.data.toList++b.data.toList)) 1000000000) (some (Value.string ⟨⟨a.data.toList++b.data.toList⟩⟩)) none=some v from h');rw[aV]at hl;have hsz:a.size+b.size<=1000000000:=by have:=Nat.le_of_ble_eq_true hl;simpa using this
  cases h';have e:(⟨⟨a.data.toList++b.data.toList⟩⟩:ByteArray)=a++b:=by apply ByteArray.ext;apply Array.ext';simp
  refine⟨?_,.string _⟩;have hm:¬(((a.size+b.size:Nat):Int)>IntKind.i64.max):=by simp[IntKind.max,IntKind.bits,IntKind.signed];omega
  rw[e];simp only[binOp,Op.stringOp];rw[if_neg hm];rfl
 case eql=>have h':bz (DZ a.data.toList b.data.toList)=some v:=h;rw[bV,rL]at h';cases h';exact⟨by simp only[binOp,Op.stringOp,ha,hb];rfl,.bool _⟩
 case neq=>have h':bz (dR (DZ a.data.toList b.data.toList))=some v:=h;rw[bV,iA,rL]at h';cases h';exact⟨by simp only[binOp,Op.stringOp,ha,hb];rfl,.bool _⟩
 case lss=>have h':bz (D2 a.data.toList b.data.toList)=some v:=h;rw[bV,rM]at h';cases h';exact⟨by simp only[binOp,Op.stringOp,ha,hb];rfl,.bool _⟩
 case leq=>have h':bz (dR (D2 b.data.toList a.data.toList))=some v:=h;rw[bV,iA,rM,<-vq]at h';cases h';exact⟨by simp only[binOp,Op.stringOp,ha,hb];rfl,.bool _⟩
 case gtr=>have h':bz (D2 b.data.toList a.data.toList)=some v:=h;rw[bV,rM]at h';cases h';have:=vq a.data.toList b.data.toList;refine⟨?_,.bool _⟩;simp only[binOp,Op.stringOp,ha,hb];rw[this];simp
 case geq=>have h':bz (dR (D2 a.data.toList b.data.toList))=some v:=h;rw[bV,iA,rM]at h';cases h';exact⟨by simp only[binOp,Op.stringOp,ha,hb];rfl,.bool _⟩
 all_goals cases h
end Go.Eng
end
noncomputable section
namespace Go.Eng
open Go
variable {op:BinOp} {pJ:Bool} {l:List Value} {n:Nat} {P:Program} {ρ:Ren} {v x' y':Value}
theorem jI {t:TypeId} {b:Bool} (h:Eng.isAgg P t=some b) (w:World):(Go.isAgg t).run P w= .ok b w:=by
 unfold Eng.isAgg at h;split at h
 ·rename_i hu;cases h;simp[Go.isAgg,run_underlying hu]
 ·rename_i hu;cases h;simp[Go.isAgg,run_underlying hu]
 ·rename_i d h1 h2 hu;cases h;simp only[Go.isAgg,Sem.run_bind,run_underlying hu,Result.andThen_ok];cases d<;>first|rfl|exact(h1 _ rfl).elim|exact(h2 _ _ rfl).elim
 ·cases h
theorem ax {t:TypeId} (h:aK P t=some n) (w:World):(sizeOf t).run P w= .ok n w:=by
 unfold aK at h;cases hi:P.info? t with
 |none=>rw[hi]at h;cases h
 |some i=>rw[hi]at h;cases h;simp[sizeOf,typeInfo,hi]
theorem Du {β:Type} {b:Bool} {o:Option β} {v:β} (h:Bool.rec (motive:= λ_=>Option β) none o b=some v):b=true∧o=some v:=by
 cases b with
 |false=>cases h
 |true=>exact⟨rfl,h⟩
theorem iE {t:TypeId} {z:Value} (h:gf P t=some z):wy z=true∧∃i,P.info? t=some i∧i.zero=some z:=by
 unfold gf at h;cases hi:P.info? t with
 |none=>rw[hi]at h;cases h
 |some i=>
  rw[hi]at h;simp only at h;cases hz:i.zero with
  |none=>rw[hz]at h;cases h
  |some z'=>rw[hz]at h;obtain⟨h1,h2⟩:=Du h;cases h2;exact⟨h1,i,rfl,hz⟩
theorem bZ {t:TypeId} {z:Value} (h:gf P t=some z) (w:World):(zeroValue t).run P w= .ok z w:=by obtain⟨_,i,hi,hz⟩:=iE h;simp[zeroValue,typeInfo,hi,hz]
theorem mu {t:TypeId} (h:yt P t=some l):∃z,gf P t=some z∧l=z.cells.toList:=by
 unfold yt at h;cases hz:gf P t with
 |none=>rw[hz]at h;cases h
 |some z=>rw[hz]at h;cases h;exact⟨z,rfl,rfl⟩
theorem sQ (h:oH v=true):ag ρ v v∧cF v=true:=by
 unfold oH at h;split at h
 ·exact⟨.bool _,rfl⟩
 ·exact⟨.int _ _,rfl⟩
 ·exact⟨.string _,rfl⟩
 ·exact⟨.fz,rfl⟩
 ·exact⟨.bc,rfl⟩
 ·exact⟨.iL,rfl⟩
 ·exact⟨.nilFunc,rfl⟩
 ·exact⟨.nilIface,rfl⟩
 ·cases h
theorem zt (h:wY l=true):af ρ l l∧∀v∈l,cF v=true:=by
 induction l with
 |nil=>exact⟨.nil,λv hv=>by cases hv⟩
 |cons v l ih=>
  have h':Bool.rec (motive:= λ_=>Bool) false (wY l) (oH v)=true:=h;cases hv:oH v with
  |false=>rw[hv]at h';cases h'
  |true=>rw[hv]at h';obtain⟨h1,h2⟩:=sQ (ρ:=ρ) hv;obtain⟨h3,h4⟩:=ih h';exact⟨.cons h1 h3,λu hu=>by rcases List.mem_cons.1 hu with rfl|hu;exact h2;exact h4 u hu⟩
theorem A4 (h:wy v=true):ag ρ v v:=by
 unfold wy at h;split at h
 ·exact .agg (zt h).1
 ·exact(sQ h).1
theorem fH {t:TypeId} {z:Value} (h:gf P t=some z):ag ρ z z:=A4 (iE h).1
theorem A5 {p q:Addr} {b:Bool} (h:EY p q=some b):b=true∧p=q∧p.spot=none:=by
 unfold EY at h;rw[ah]at h;split at h
 ·rename_i h1;rw[ah]at h;split at h
  ·rename_i h2;split at h
   ·rename_i e1 e2;cases h;refine⟨rfl,?_,e1⟩;cases p;cases q;simp at h1 h2 e1 e2;simp[h1,h2,e1,e2]
   ·cases h
  ·cases h
 ·cases h
def cH (x' y':Value) (pJ:Bool):Prop:=(∀k a k' c,¬(x'= .int k a∧y'= .int k' c))∧(∀a c,¬(x'= .string a∧y'= .string c))∧(∀k a k' c,¬(x'= .float k a∧y'= .float k' c))∧(∀k a d k' c e,¬(x'= .complex k a d∧y'= .complex k' c e))∧
   ((x'= .nilIface∧y'= .nilIface)->pJ=true)∧(∀a c,¬(x'= .agg a∧y'= .agg c))
theorem Gr {t:TypeId} (h:lQ P t= .ptr):∃e i,P.underlying t=some (.pointer e)∧P.info? e=some i:=by
 unfold lQ at h;split at h<;>try (cases h)
 rename_i e hu;split at h
 ·rename_i i hi;exact⟨e,i,hu,hi⟩
 ·cases h
theorem Dv {t:TypeId} (h:lQ P t= .bool):P.underlying t=some .bool:=by unfold lQ at h;split at h<;>first|assumption|(cases h;done)|(split at h<;>cases h)
theorem A6 {t:TypeId} (h:lQ P t= .slice):∃e,P.underlying t=some (.slice e):=by unfold lQ at h;split at h<;>first|exact⟨_,by assumption⟩|(cases h;done)|(split at h<;>cases h)
theorem Gs {t:TypeId} (h:lQ P t= .map):∃k e,P.underlying t=some (.map k e):=by unfold lQ at h;split at h<;>first|exact⟨_,_,by assumption⟩|(cases h;done)|(split at h<;>cases h)
theorem oX {t:TypeId} (h:lQ P t= .func):∃a b c,P.underlying t=some (.func a b c):=by unfold lQ at h;split at h<;>first|exact⟨_,_,_,by assumption⟩|(cases h;done)|(split at h<;>cases h)
theorem mv {t:TypeId} (h:lQ P t= .iface):∃ms,P.underlying t=some (.interface ms):=by unfold lQ at h;split at h<;>first|exact⟨_,by assumption⟩|(cases h;done)|(split at h<;>cases h)
theorem Dw {t:TypeId} {x y:Value} {b:Bool} {ek:EK} (w:World) (GM:lQ P t=ek) (h:Px ek pJ x y=some b) (hx:ag ρ x x') (hy:ag ρ y y'):
  (∀d,(Op.equalIn (d+1) t x' y').run P w= .ok b w)∧cH x' y' pJ:=by
 unfold Px at h;split at h
 ·cases hx;cases hy;rename_i a c;refine⟨λd=>?_,by simp[cH]⟩;simp only[Op.equalIn,Sem.run_bind,run_underlying (Dv GM),Result.andThen_ok];cases h;cases a<;>cases c<;>rfl
 ·obtain⟨e,i,hu,hi⟩:=Gr GM;split at h
  ·cases hx;cases hy;cases h;exact⟨λd=>by simp[Op.equalIn,run_underlying hu],by simp[cH]⟩
  ·cases hx;cases hy;rename_i a1 x1 Vu r1 a2 x2 Vv r2;obtain⟨rfl,LC,_⟩:=A5 h;simp only[Addr.mk.injEq]at LC;obtain⟨rfl,rfl,_⟩:=LC;rw[r1]at r2;cases r2;refine⟨λd=>?_,by simp[cH]⟩;have hsz:(sizeOf e).run P w= .ok i.size w:=by simp[sizeOf,typeInfo,hi]
   simp only[Op.equalIn,Sem.run_bind,run_underlying hu,Result.andThen_ok,hsz];by_cases h0:i.size=0
   ·simp[h0]
   ·simp[h0,sameAddr]
  ·cases hx;cases hy;cases h;exact⟨λd=>by simp[Op.equalIn,run_underlying hu],by simp[cH]⟩
  ·cases hx;cases hy;cases h;exact⟨λd=>by simp[Op.equalIn,run_underlying hu],by simp[cH]⟩
 ·obtain⟨e,hu⟩:=A6 GM;split at h
  ·cases hx;cases hy;cases h;exact⟨λd=>by simp[Op.equalIn,run_underlying hu],by simp[cH]⟩
  ·cases hx;cases hy;cases h;exact⟨λd=>by simp[Op.equalIn,run_underlying hu],by simp[cH]⟩
  ·cases hx;cases hy;cases h;exact⟨λd=>by simp[Op.equalIn,run_underlying hu],by simp[cH]⟩
  ·cases h
 ·obtain⟨k,e,hu⟩:=Gs GM;split at h
  ·cases hx;cases hy;cases h;exact⟨λd=>by simp[Op.equalIn,run_underlying hu],by simp[cH]⟩
  ·cases hx;cases hy;cases h;exact⟨λd=>by simp[Op.equalIn,run_underlying hu],by simp[cH]⟩
  ·cases hx;cases hy;cases h;exact⟨λd=>by simp[Op.equalIn,run_underlying hu],by simp[cH]⟩
  ·cases h
 ·obtain⟨ms,hu⟩:=mv GM;obtain⟨hc,h'⟩:=ae h;cases h';cases hx;cases hy;exact⟨λd=>by simp[Op.equalIn,run_underlying hu],by simp[cH,hc]⟩
 ·obtain⟨ms,hu⟩:=mv GM;cases hx;cases hy;cases h;exact⟨λd=>by simp[Op.equalIn,run_underlying hu],by simp[cH]⟩
 ·obtain⟨ms,hu⟩:=mv GM;cases hx;cases hy;cases h;exact⟨λd=>by simp[Op.equalIn,run_underlying hu],by simp[cH]⟩
 ·obtain⟨a,b',c,hu⟩:=oX GM;cases hx;cases hy;cases h;exact⟨λd=>by simp[Op.equalIn,run_underlying hu],by simp[cH]⟩
 ·obtain⟨a,b',c,hu⟩:=oX GM;cases hx;cases hy<;>cases h<;>exact⟨λd=>by simp[Op.equalIn,run_underlying hu],by simp[cH]⟩
 ·obtain⟨a,b',c,hu⟩:=oX GM;cases hy;cases hx<;>cases h<;>exact⟨λd=>by simp[Op.equalIn,run_underlying hu],by simp[cH]⟩
 ·cases h
theorem A7 {o:Option Bool} (h:EX op o=some v):∃b,o=some b∧((op= .eql∧v= .bool b)∨(op= .neq∧v= .bool (!b))):=by
 cases op<;>simp only[EX]at h<;>try (cases h)
 ·obtain⟨b,rfl,hv⟩:=U h;rw[bV]at hv;cases hv;exact⟨b,rfl,.inl ⟨rfl,rfl⟩⟩
 ·obtain⟨b,rfl,hv⟩:=U h;rw[bV,iA]at hv;cases hv;exact⟨b,rfl,.inr ⟨rfl,rfl⟩⟩
theorem binOp_eql {t:TypeId} (h:cH x' y' pJ):binOp .eql t x' y'=(do pure (.bool (<-Op.equal t x' y'))):=by
 obtain⟨n1,n2,n3,n4,_,_⟩:=h;cases x'<;>cases y'<;>first
  |rfl
  |exact(n1 _ _ _ _ ⟨rfl,rfl⟩).elim
  |exact(n2 _ _ ⟨rfl,rfl⟩).elim
  |exact(n3 _ _ _ _ ⟨rfl,rfl⟩).elim
  |exact(n4 _ _ _ _ _ _ ⟨rfl,rfl⟩).elim
theorem binOp_neq {t:TypeId} (h:cH x' y' pJ):binOp .neq t x' y'=(do pure (.bool (!(<-Op.equal t x' y')))):=by
 obtain⟨n1,n2,n3,n4,_,_⟩:=h;cases x'<;>cases y'<;>first
  |rfl
  |exact(n1 _ _ _ _ ⟨rfl,rfl⟩).elim
  |exact(n2 _ _ ⟨rfl,rfl⟩).elim
  |exact(n3 _ _ _ _ ⟨rfl,rfl⟩).elim
  |exact(n4 _ _ _ _ _ _ ⟨rfl,rfl⟩).elim
theorem zu {t:TypeId} {ox oy:Operand} (w:World) (hc:pJ=true->(uX ox=true∨uX oy=true)) (h1:(x'= .nilIface∧y'= .nilIface)->pJ=true) (h2:∀a c,¬(x'= .agg a∧y'= .agg c)):(eqGuard op t ox oy x' y').run P w= .ok () w:=by
 by_cases hn:x'= .nilIface∧y'= .nilIface
 ·have Tl:=hc (h1 hn);obtain⟨rfl,rfl⟩:=hn;unfold eqGuard;rcases Tl with h|h
  ·cases ox<;>first|(cases h;done)|(cases op<;>rfl)
  ·cases oy<;>first|(cases h;done)|(cases ox<;>cases op<;>rfl)
 ·unfold eqGuard;cases op<;>first|rfl|(cases x'<;>cases y'<;>first|rfl|exact(hn ⟨rfl,rfl⟩).elim|exact(h2 _ _ ⟨rfl,rfl⟩).elim)
theorem A8 {t:TypeId} {ox oy:Operand} {x y:Value} (w:World) (hc:pJ=true->(uX ox=true∨uX oy=true)) (h:CQ op (lQ P t) pJ y x=some v) (hx:ag ρ x x') (hy:ag ρ y y'):
  ((do eqGuard op t ox oy x' y';binOp op t x' y'):Sem Value).run P w= .ok v w∧ag ρ v v:=by
 have wM:∀(x' y':Value),((x'= .nilIface∧y'= .nilIface)->pJ=true)->(∀a c,¬(x'= .agg a∧y'= .agg c))->(eqGuard op t ox oy x' y').run P w= .ok () w:=
  λx' y' h1 h2=>zu w hc h1 h2
 unfold CQ at h;split at h
 ·rename_i k a k' b;cases hx;cases hy;rw[ah]at h;have hg:=wM (.int k a) (.int k' b) (by simp) (by simp);split at h
  ·rename_i hs;obtain⟨n,hn,h⟩:=U h;have hb:=fG hn;subst hb;obtain⟨m,hm,rfl⟩:=zs (P:=P) (t:=t) (k':=k') w h;exact⟨by simp[hg,hm],.int _ _⟩
  ·rename_i hs;obtain⟨hk,hb⟩:=ae h;have fZ:=jA.1 hk;subst fZ;obtain⟨n,hr,hv⟩:=nV (P:=P) (t:=t) w (by simpa using hs) hb;refine⟨by simp[hg,hr],?_⟩;rcases hv with rfl|⟨c,rfl⟩
   ·exact .int _ _
   ·exact .bool _
 ·rename_i a b;cases hx;cases hy;have hg:=wM (.string a) (.string b) (by simp) (by simp);obtain⟨hr,hv⟩:=xE (P:=P) (ρ:=ρ) (t:=t) w h;exact⟨by simp[hg,hr],hv⟩
 ·rename_i k a L;unfold FN at h;split at h
  ·rename_i a0;obtain⟨hle,h⟩:=ae h;cases h;cases hx;cases hy with
   |junk _ _ _ _ hj=>
    obtain⟨c,rfl,hc⟩:=hj rfl;have hle:a0<=L:=Nat.le_of_ble_eq_true hle;have hg:=wM (.int .i64 (.ofNat a0)) (.int .i64 (c:Int)) (by simp) (by simp);have hb:jr .gtr .i64 (.ofNat a0) (c:Int)=some (.bool false):=by
     show bz (Nat.blt c a0)=_;have:Nat.blt c a0=false:=by
      cases e:Nat.blt c a0 with
      |false=>rfl
      |true=>have:c<a0:=Nat.le_of_ble_eq_true e;omega
     rw[this];rfl
    obtain⟨n,hr,_⟩:=nV (P:=P) (t:=t) w rfl hb;exact⟨by simp only[Sem.run_bind,hg,Result.andThen_ok,hr],.bool _⟩
  ·cases h
 ·rename_i h1 h2;obtain⟨b,hb,hv⟩:=A7 h;obtain⟨Ap,hev⟩:=Dw (P:=P) (ρ:=ρ) w rfl hb hx hy;have hr:(Op.equal t x' y').run P w= .ok b w:=Ap 9999;have hg:=wM x' y' hev.2.2.2.2.1 hev.2.2.2.2.2;rcases hv with ⟨rfl,rfl⟩|⟨rfl,rfl⟩
  ·exact⟨by simp[hg,binOp_eql hev,hr],.bool _⟩
  ·exact⟨by simp[hg,binOp_neq hev,hr],.bool _⟩
end Go.Eng
end
noncomputable section
namespace Go.Eng
open Go
variable {cs l l':List Value} {f i n off:Nat} {P:Program} {ρ:Ren} {v x':Value}
theorem Dx {op:UnOp} {x:Value} (w:World) (h:PB op x=some v) (hx:ag ρ x x'):(Op.unary op x').run P w= .ok v w∧ag ρ v v:=by
 unfold PB at h;split at h
 ·cases hx;rw[bV,iA]at h;cases h;exact⟨rfl,.bool _⟩
 ·cases hx;rw[gQ]at h;cases h;rename_i k n;exact⟨by simp only[Op.unary,Op.intArith,Sem.run_pure];rfl,.int _ _⟩
 ·cases hx;rw[dI]at h;cases h;exact⟨by simp[Op.unary,Op.intBits],.int _ _⟩
 ·cases h
theorem pY {t:TypeId} {dB:List Value} (w:World) (h:BH P t cs off=some v) (hc:af ρ cs dB):
  ∃u,(part t ⟨dB⟩ off).run P w= .ok u w∧ag ρ v u:=by
 unfold BH at h;obtain⟨b,hb,h⟩:=U h;rw[ah]at h;have hA:=jI hb w;split at h
 ·rename_i L5;subst L5;obtain⟨k,hk,h⟩:=U h;obtain⟨l,hl,h⟩:=U h;obtain⟨r,hr,h⟩:=U h;cases h;obtain⟨rfl,h1⟩:=iZ _ _ _ hl;obtain⟨rfl,h2⟩:=nH _ _ _ hr;refine⟨.agg ((⟨dB⟩:Array Value).extract off (off+k)),by simp[part,hA,ax hk w],.agg ?_⟩;simp only[Array.toList_extract,List.extract_eq_take_drop];have:=(hc.drop off).take k;simpa using this
 ·rename_i D4;have D4:b=false:=by simpa using D4
  subst D4;obtain⟨l,hl,h⟩:=U h;obtain⟨rfl,h1⟩:=iZ _ _ _ hl;cases hd:cs.drop off with
  |nil=>rw[hd]at h;cases h
  |cons a r=>
   rw[hd]at h;injection h with h
   subst h;have gn:cs[off]? =some a:=by have:=congrArg (λl=>l[0]?) hd;simpa using this
   obtain⟨u,hu,hr⟩:=hc.get gn;exact⟨u,by simp[part,hA,hu],hr⟩
theorem xF {t:TypeId} {x:Value} (w:World) (h:AH P t f x=some v) (hx:ag ρ x x'):∃u,(Instr.field t x' f).run P w= .ok u w∧ag ρ v u:=by
 unfold AH at h;split at h
 ·rename_i cs;obtain⟨fl,hf,h⟩:=U h;cases hx;rename_i dB hc;unfold fieldsOf at hf;split at hf
  ·rename_i fs hu;obtain⟨u,hr,hv⟩:=pY (P:=P) (ρ:=ρ) w h hc;refine⟨u,?_,hv⟩;have:(⟨dB.toList⟩:Array Value)=dB:=rfl;rw[this]at hr;simp[Instr.field,run_underlying hu,hf,asAgg,hr]
  ·cases hf
 ·cases h
theorem pv {t:TypeId} {x:Value} (w:World) (h:mo P t f x=some v) (hx:ag ρ x x'):∃u,(Instr.fieldAt t x' f).run P w= .ok u w∧ag ρ v u:=by
 unfold mo at h;split at h
 ·rename_i a;obtain⟨fl,hf,h⟩:=U h;obtain⟨n,hn,h⟩:=U h;obtain⟨h0,h⟩:=bj h;rw[ak]at h;cases h;cases hx with| @ptr a x off hx=>?_
  have PG:¬n=0:=Nat.ne_of_beq_eq_false h0;unfold fieldsOf at hf;split at hf
  ·rename_i fs hu;refine⟨.pointer (some ⟨x.b,x.base+(off+fl.offset),none⟩),?_,.ptr _ hx⟩;simp only[Instr.fieldAt,Sem.run_bind,run_underlying hu,Result.andThen_ok,hf,Instr.sureAddr,Sem.run_pure,fieldPlace,ax hn w,Sem.run_ite,if_neg PG];congr 4;unfold Addr.add;split
   ·rename_i e;rw[e];simp
   ·simp[Nat.add_assoc]
  ·cases hf
 ·cases h
theorem gA {i:Int} {m:Nat} (h:indexOf i n=some m):i=(m:Int)∧m<n:=by
 cases i with
 |ofNat k=>obtain⟨hb,h⟩:=ae (show ab (Nat.blt k n) (some k) none=some m from h);cases h;exact⟨rfl,by simpa[Nat.blt_eq]using hb⟩
 |negSucc k=>cases h
theorem cY (b o n:Nat):(⟨b,o,none⟩:Addr).add n=⟨b,o+n,none⟩:=by
 unfold Addr.add;split
 ·rename_i e;rw[e];rfl
 ·rfl
theorem pw {t:TypeId} {x i i':Value} (w:World) (h:jG P (P.underlying t) x i=some v) (hx:ag ρ x x') (hi:ag ρ i i'):
  ∃u,(Instr.indexAt t x' i').run P w= .ok u w∧ag ρ v u:=by
 unfold jG at h;split at h
 ·rename_i k i;cases hi;split at h
  ·rename_i a n c;split at h
   ·rename_i e hu;unfold elemAt at h;obtain⟨m,hm,h⟩:=U h;obtain⟨sz,hs,h⟩:=U h;rw[ak]at h;cases h;obtain⟨rfl,hlt⟩:=gA hm;cases hx with| @slice a x off n c cap ad hx h1 h2 h3 h4 h5=>?_
    have pQ:cap≠0:=by omega
    have h4:=h4.resolve_right pQ;subst h4;refine⟨.pointer (some ⟨x.b,x.base+(off+m*sz),none⟩),?_,.ptr _ hx⟩;have hle:(0:Int)<=(m:Int)∧(m:Int)<(n:Int):=⟨by omega,by omega⟩
    simp only[Instr.indexAt,Sem.run_bind,asIntOf,Sem.run_pure,Result.andThen_ok,run_underlying hu,if_pos hle,ax hs w,Sem.run_ite];rw[cY];simp[Nat.add_assoc]
   ·cases h
  ·rename_i a;split at h
   ·rename_i n e hu;unfold elemAt at h;obtain⟨m,hm,h⟩:=U h;obtain⟨sz,hs,h⟩:=U h;rw[ak]at h;cases h;obtain⟨rfl,hlt⟩:=gA hm;cases hx with| @ptr a x off hx=>?_
    refine⟨.pointer (some ⟨x.b,x.base+(off+m*sz),none⟩),?_,.ptr _ hx⟩;have hle:(0:Int)<=(m:Int)∧(m:Int)<(n:Int):=⟨by omega,by omega⟩
    simp only[Instr.indexAt,Sem.run_bind,asIntOf,Sem.run_pure,Result.andThen_ok,run_underlying hu,Instr.sureAddr,if_pos hle,ax hs w,Sem.run_ite];rw[cY];simp[Nat.add_assoc]
   ·cases h
  ·rename_i g off;split at h
   ·rename_i n e hu;unfold IX at h;obtain⟨m,hm,h⟩:=U h;obtain⟨sz,hs,h⟩:=U h;rw[ak]at h;cases h;obtain⟨rfl,hlt⟩:=gA hm;cases hx with| @mT g off=>?_
    refine⟨.pointer (some ⟨g,off+m*sz,none⟩),?_,.mT _ _⟩;have hle:(0:Int)<=(m:Int)∧(m:Int)<(n:Int):=⟨by omega,by omega⟩
    simp only[Instr.indexAt,Sem.run_bind,asIntOf,Sem.run_pure,Result.andThen_ok,run_underlying hu,Instr.sureAddr,if_pos hle,ax hs w,Sem.run_ite];rw[cY];simp
   ·cases h
  ·cases h
 ·cases h
theorem A9:∀ {n:Nat} {l:List UInt8} {v:Value},IT l n=some v->∃b,l[n]? =some b∧v= .int .u8 b.toNat:=by
 intro n;induction n with
 |zero=>
  intro l v h;cases l with
  |nil=>cases h
  |cons b l=>have h':aq b.toNat (λn=>some (Value.int .u8 (.ofNat n)))=some v:=h;rw[ak]at h';cases h';exact⟨b,rfl,rfl⟩
 |succ n ih=>
  intro l v h;cases l with
  |nil=>cases h
  |cons b l=>obtain⟨c,hc,hv⟩:=ih (l:=l) h;exact⟨c,by simpa using hc,hv⟩
theorem xG {t:TypeId} {x i i':Value} (w:World) (h:AI P (P.underlying t) x i=some v) (hx:ag ρ x x') (hi:ag ρ i i'):
  ∃u,(Instr.index t x' i').run P w= .ok u w∧ag ρ v u:=by
 unfold AI at h;split at h
 ·rename_i k i;cases hi;split at h
  ·rename_i b;split at h
   case h_2=>cases h
   rename_i hu;obtain⟨m,hm,h⟩:=U h;have:=fG hm;subst this;obtain⟨c,hc,rfl⟩:=A9 h;cases hx;refine⟨_,?_,.int _ _⟩;have hle:(0:Int)<=(m:Int):=by omega
   have gn:b[((m:Int)).toNat]? =some c:=by rw[Int.toNat_natCast];rw[<-hc];simp[getElem?_def];rfl
   simp only[Instr.index,Sem.run_bind,asIntOf,Sem.run_pure,Result.andThen_ok,run_underlying hu,if_pos hle,gn]
  ·rename_i cs;split at h
   ·rename_i n e hu;obtain⟨m,hm,h⟩:=U h;obtain⟨sz,hs,hp⟩:=U h;obtain⟨rfl,hlt⟩:=gA hm;cases hx;rename_i dB hc;obtain⟨u,hr,hv⟩:=pY (P:=P) (ρ:=ρ) w hp hc;refine⟨u,?_,hv⟩;have hle:(0:Int)<=(m:Int)∧(m:Int)<(n:Int):=⟨by omega,by omega⟩
    have:(⟨dB.toList⟩:Array Value)=dB:=rfl;rw[this]at hr;simp only[Instr.index,Sem.run_bind,asIntOf,Sem.run_pure,Result.andThen_ok,run_underlying hu,if_pos hle,ax hs w,Sem.run_ite];simpa using hr
   ·cases h
  ·cases h
 ·cases h
theorem tH {x:Value} (w:World) (h:rV i x=some v) (hx:ag ρ x x'):∃u,(Instr.extract x' i).run P w= .ok u w∧ag ρ v u:=by
 unfold rV at h;split at h
 ·rename_i vs;unfold M5 at h;obtain⟨l,hl,h⟩:=U h;obtain⟨rfl,h1⟩:=iZ _ _ _ hl;cases hd:vs.toList.drop i with
  |nil=>rw[hd]at h;cases h
  |cons a r=>
   rw[hd]at h;injection h with h
   subst h;have gn:vs.toList[i]? =some a:=by have:=congrArg (λl=>l[0]?) hd;simpa using this
   cases hx;rename_i Jt hc;obtain⟨u,hu,hr⟩:=hc.get gn;refine⟨u,?_,hr⟩;have mO:Jt[i]? =some u:=by simpa using hu
   simp[Instr.extract,mO]
 ·cases h
theorem Ba {ts:Array TypeId} {ty:TypeId} (w:World) (h:J1 P (lR P ts 0) l=some v) (hl:af ρ l l'):
  (Builtin.len_ ts ty ⟨l'⟩).run P w= .ok v w∧ag ρ v v:=by
 unfold J1 lR at h;cases ht:ts[0]? with
 |none=>rw[ht]at h;cases h
 |some t=>
  rw[ht]at h;simp only at h;split at h
  ·rename_i e a n c hu;cases h;cases hl with|cons hx hs=>cases hs;cases hx<;>exact⟨by simp[Builtin.len_,ht,run_underlying hu,goInt],.int _ _⟩
  ·rename_i b hu;rw[ak,aV]at h;cases h;cases hl with|cons hx hs=>cases hs;cases hx;exact⟨by simp[Builtin.len_,ht,run_underlying hu,goInt],.int _ _⟩
  ·rename_i n e x hu;cases h;cases hl with|cons hx hs=>cases hs;exact⟨by simp[Builtin.len_,ht,run_underlying hu,goInt],.int _ _⟩
  ·rename_i arr x hu;split at h
   ·rename_i n e Ix;cases h;cases hl with|cons hx hs=>cases hs;exact⟨by simp[Builtin.len_,ht,run_underlying hu,run_underlying Ix,goInt],.int _ _⟩
   ·cases h
  ·cases h
theorem Bb {ts:Array TypeId} {ty:TypeId} (w:World) (h:J3 (lR P ts 0) l=some v) (hl:af ρ l l'):
  ∃u,(Builtin.cap_ ts ty ⟨l'⟩).run P w= .ok u w∧ag ρ v u:=by
 unfold J3 lR at h;cases ht:ts[0]? with
 |none=>rw[ht]at h;cases h
 |some t=>
  rw[ht]at h;simp only at h;split at h
  ·rename_i e a n c hu;rw[ah]at h;split at h
   ·rename_i he;rw[ak]at h;cases h;cases hl with
    |cons hx hs=>
     cases hs;cases hx with
     |bc=>exact⟨_,by simp[Builtin.cap_,ht,run_underlying hu,goInt,eO],.int _ _⟩
     |slice off n c cap ad hx h1 h2 h3 h4 h5=>have:c%2=1:=Nat.eq_of_beq_eq_true (show Nat.beq (Nat.mod c 2) 1=true from he);have hc:=h3 this;subst hc;exact⟨_,by simp[Builtin.cap_,ht,run_underlying hu,goInt,eO];rfl,.int _ _⟩
   ·rw[ak]at h;cases h;cases hl with
    |cons hx hs=>
     cases hs;cases hx with
     |bc=>rename_i he;exact(he rfl).elim
     |slice off n c cap ad hx h1 h2 h3 h4 h5=>exact⟨.int .i64 cap,by simp[Builtin.cap_,ht,run_underlying hu,goInt],.junk _ _ _ rfl λ_=>⟨cap,rfl,h2⟩⟩
  ·cases h
theorem pZ {f:Value->Value->Option Value} {g:Value->Value->Sem Value} (w:World) (Tm:∀x y x' y' v,f x y=some v->ag ρ x x'->ag ρ y y'->∃u,(g x' y').run P w= .ok u w∧ag ρ v u):
  ∀ {l l':List Value} {x x' v:Value},E4 f l x=some v->af ρ l l'->ag ρ x x'->∃u,(l'.foldlM g x').run P w= .ok u w∧ag ρ v u:=by
 intro l;induction l with
 |nil=>intro l' x x' v h hl hx;cases h;cases hl;exact⟨x',rfl,hx⟩
 |cons y l ih=>
  intro l' x x' v h hl hx;cases hl with
  |cons hy hs=>obtain⟨z,hz,h⟩:=U (show ob (f x y) (E4 f l)=some v from h);obtain⟨u,hu,hr⟩:=Tm _ _ _ _ _ hz hx hy;obtain⟨q,hq,eR⟩:=ih h hs hr;exact⟨q,by simp[List.foldlM,hu,hq],eR⟩
theorem Dy {ts:Array TypeId} {ty:TypeId} (w:World) (h:BK E2 l=some v) (hl:af ρ l l'):
  ∃u,(Builtin.max_ ts ty ⟨l'⟩).run P w= .ok u w∧ag ρ v u:=by
 cases hl with
 |nil=>cases h
 |cons hx hs=>
  refine pZ (P:=P) w ?_ h hs hx;intro x y x' y' v h hx hy;unfold E2 at h;split at h
  ·cases h;cases hx;cases hy;rename_i k a k' b;rw[ah,mh];refine⟨_,?_,.int _ _⟩;by_cases hlt:a<b<;>simp[Builtin.max2,hlt]
  ·cases h
theorem Dz {ts:Array TypeId} {ty:TypeId} (w:World) (h:BK E3 l=some v) (hl:af ρ l l'):
  ∃u,(Builtin.min_ ts ty ⟨l'⟩).run P w= .ok u w∧ag ρ v u:=by
 cases hl with
 |nil=>cases h
 |cons hx hs=>
  refine pZ (P:=P) w ?_ h hs hx;intro x y x' y' v h hx hy;unfold E3 at h;split at h
  ·cases h;cases hx;cases hy;rename_i k a k' b;rw[ah,mh];refine⟨_,?_,.int _ _⟩;by_cases hlt:b<a<;>simp[Builtin.min2,hlt]
  ·cases h
end Go.Eng
end
noncomputable section
namespace Go.Eng
open Go
variable {x:Loc} {cap d n off sz:Nat} {base:Option Addr} {ue ga:Option Value} {P:Program} {ρ:Ren} {u v x':Value}
inductive gK (ρ:Ren):Option Value->Option Value->Prop where
 |none:gK ρ none none
 |some {v u:Value} (h:ag ρ v u):gK ρ (some v) (some u)
theorem fW {l:Nat} {o o':Option Value} (h:eS d o=some l) (ho:gK ρ o o'):(o'=none∧l=d)∨∃k,o'=some (.int k (l:Int)):=by
 unfold eS at h;split at h
 ·cases h;cases ho;exact .inl ⟨rfl,rfl⟩
 ·rename_i k n;have:=fG h;subst this;cases ho with|some hv=>cases hv;exact .inr ⟨_,rfl⟩
 ·cases h
theorem bo {k:IntKind} {l y:Nat} {code:BoundsCode} (w:World) (h:l<=y):(Instr.sliceBound (.int k (l:Int)) y code).run P w= .ok l w:=by
 have hle:(0:Int)<=(l:Int)∧(l:Int)<=(y:Int):=⟨by omega,by omega⟩
 simp only[Instr.sliceBound,Sem.run_bind,asIntOf,Sem.run_pure,Result.andThen_ok,if_pos hle,Int.toNat_natCast]
theorem dc {isS:Bool} {l h:Nat} {lo hi:Option Value} (w:World) (hl:eS 0 lo=some l) (hh:eS n hi=some h) (rl:gK ρ lo ga) (rh:gK ρ hi ue) (h1:l<=h) (h2:h<=cap):
  (Instr.sliceBounds isS n cap ga ue none).run P w= .ok (l,h,cap) w:=by
 rcases fW hl rl with ⟨rfl,rfl⟩|⟨k,rfl⟩<;>rcases fW hh rh with ⟨rfl,rfl⟩|⟨k',rfl⟩
 ·simp[Instr.sliceBounds]
 ·simp[Instr.sliceBounds,bo w h2]
 ·simp[Instr.sliceBounds,bo w h1]
 ·simp[Instr.sliceBounds,bo w h1,bo w h2]
theorem jj {isS:Bool} {l h m:Nat} {lo hi mx D5:Option Value} (w:World) (hl:eS 0 lo=some l) (hh:eS n hi=some h) (hm:eS 0 mx=some m) (rl:gK ρ lo ga) (rh:gK ρ hi ue) (rm:gK ρ mx D5) (e1:hi=some v) (e2:mx=some u) (h1:l<=h) (h2:h<=m) (h3:m<=cap):(Instr.sliceBounds isS n cap ga ue D5).run P w= .ok (l,h,m) w:=by
 subst e1;subst e2;rcases fW hm rm with ⟨rfl,_⟩|⟨k3,rfl⟩
 ·cases rm
 rcases fW hh rh with ⟨rfl,_⟩|⟨k2,rfl⟩
 ·cases rh
 rcases fW hl rl with ⟨rfl,rfl⟩|⟨k,rfl⟩
 ·simp[Instr.sliceBounds,bo w h3,bo w h2]
 ·simp[Instr.sliceBounds,bo w h3,bo w h2,bo w h1]
theorem fe {l h m:Nat} {β:Type} {o:Option β} {v:β} (e:ab (nh l h m) o none=some v):l<=h∧h<=m∧o=some v:=by
 obtain⟨hb,e⟩:=ae e;have cz:ab (Nat.ble l h) (Nat.ble h m) false=true:=hb;rw[ah]at cz;split at cz
 ·rename_i h1;exact⟨Nat.le_of_ble_eq_true h1,Nat.le_of_ble_eq_true cz,e⟩
 ·cases cz
theorem ff {a:Addr} {c:Nat} (h:mkSlice a off n c=some v):v= .slice (some ⟨a.block,off,none⟩) n c:=by unfold mkSlice at h;simp only[ak]at h;exact(Option.some.inj h).symm
theorem uA {t e:TypeId} {c:Nat} {lo hi mx D5:Option Value} (w:World) (hu:P.underlying t=some (.slice e)) (hs:aK P e=some sz) (h:qI sz base n c lo hi mx=some v) (hx:ag ρ (.slice base n c) x') (rl:gK ρ lo ga) (rh:gK ρ hi ue) (rm:gK ρ mx D5):
  ∃u,(Instr.sliceAt t x' ga ue D5).run P w= .ok u w∧ag ρ v u:=by
 unfold qI at h;obtain⟨l,hl,h⟩:=U h;obtain⟨hh,De,h⟩:=U h;have red:(Instr.sliceAt t x' ga ue D5).run P w=(Instr.slice t x' ga ue D5).run P w:=by simp only[Instr.sliceAt,Sem.run_bind,run_underlying hu,Result.andThen_ok]
 rw[red];split at h
 ·cases rm;obtain⟨h1,h2,h⟩:=fe h;cases hx with
  |bc=>
   have h20:hh=0:=by have:eO none 0=0:=rfl;omega
   subst h20;have hl0:l=0:=by omega
   subst hl0;cases h;have hb:=dc (P:=P) (ρ:=ρ) (isS:=true) (cap:=0) w hl De rl rh (Nat.le_refl _) (Nat.le_refl _);exact⟨_,by simp[Instr.slice,run_underlying hu,hb,ax hs w],.bc⟩
  | @slice a x off n c cap ad hx k1 k2 k3 k4 k5=>
   have GN:eO (some (⟨a,off,none⟩:Addr)) c=c/512:=rfl;rw[GN]at h2;have Tn:hh<=cap:=by omega
   have hb:=dc (P:=P) (ρ:=ρ) (isS:=true) (cap:=cap) w hl De rl rh h1 Tn;have hrun:(Instr.slice t (.slice (some ad) n cap) ga ue none).run P w= .ok (.slice (if cap=l then some ad else some (ad.add (l*sz))) (hh-l) (cap-l)) w:=by simp only[Instr.slice,Sem.run_bind,run_underlying hu,Result.andThen_ok,hb,ax hs w,Sem.run_pure,Option.map_some]
   rw[hrun];have Kh:∃GO:Addr,(if cap=l then some ad else some (ad.add (l*sz)))=some GO∧(GO=⟨x.b,x.base+(off+l*sz),none⟩∨cap-l=0):=by
    by_cases e:cap=l
    ·exact⟨ad,by rw[if_pos e],.inr (by omega)⟩
    ·refine⟨ad.add (l*sz),by rw[if_neg e],.inl ?_⟩;have:=k4.resolve_right (by omega);subst this;rw[cY];simp[Nat.add_assoc]
   obtain⟨GO,e2,hd⟩:=Kh;rw[e2];simp only at h;rw[ah]at h;split at h
   ·rename_i hex;have Ki:c%2=1:=Nat.eq_of_beq_eq_true (show Nat.beq (Nat.mod c 2) 1=true from hex);have pQ:=k3 Ki;rw[ff h];have mU:codeEx (Nat.sub (Nat.div c 512) l)/512=cap-l:=by
     show(512*(c/512-l)+1)/512=cap-l;rw[pQ];omega
    have D6:codeEx (Nat.sub (Nat.div c 512) l)%2=1:=by show(512*(c/512-l)+1)%2=1;omega
    refine⟨_,rfl,ag.slice _ _ _ _ GO hx ?_ ?_ ?_ hd ?_⟩
    ·rw[mU];show hh-l<=cap-l;omega
    ·rw[mU];exact Nat.le_refl _
    ·intro _;rw[mU]
    ·intro he;rw[D6]at he;cases he
   ·rename_i hex;have Ki:c%2=0:=by
     have hf:jR (some (⟨a,off,none⟩:Addr)) c=false:=by simpa using hex
     have:=Nat.ne_of_beq_eq_false (show Nat.beq (c%2) 1=false from hf);omega
    obtain⟨hsz,h⟩:=ae h;have Ah:c%512/2=sz:=Nat.eq_of_beq_eq_true hsz;rw[ff h];have hlt:sz<256:=by omega
    have mU:codeLB (Nat.sub (Nat.div c 512) l) sz/512=c/512-l:=by show(512*(c/512-l)+2*sz)/512=_;omega
    have D6:codeLB (Nat.sub (Nat.div c 512) l) sz%2=0:=by show(512*(c/512-l)+2*sz)%2=0;omega
    have es:codeLB (Nat.sub (Nat.div c 512) l) sz%512/2=sz:=by show(512*(c/512-l)+2*sz)%512/2=sz;omega
    refine⟨_,rfl,ag.slice _ _ _ _ GO hx ?_ ?_ ?_ hd ?_⟩
    ·rw[mU];show hh-l<=c/512-l;omega
    ·rw[mU];omega
    ·intro he;rw[D6]at he;cases he
    ·intro _;rw[es];have:=k5 Ki;rw[Ah]at this;show x.base+(off+l*sz)+(cap-l)*sz<=x.lim;have hle:l<=cap:=by omega
     have:(cap-l)*sz+l*sz=cap*sz:=by rw[<-Nat.add_mul];congr 1;omega
     omega
 ·rename_i m;obtain⟨mm,hm,h⟩:=U h;obtain⟨h1,h2,h⟩:=fe h;obtain⟨h3,h⟩:=ae h;have To:=Nat.le_of_ble_eq_true h3;cases hx with
  |bc=>
   have h30:mm=0:=by have:eO none 0=0:=rfl;omega
   subst h30;have Tp:hh=0:=by omega
   subst Tp;have hl0:l=0:=by omega
   subst hl0;cases hi with
   |none=>cases h
   |some hv=>cases h;have hb:=jj (P:=P) (ρ:=ρ) (isS:=true) (cap:=0) w hl De hm rl rh rm rfl rfl (Nat.le_refl _) (Nat.le_refl _) (Nat.le_refl _);exact⟨_,by simp[Instr.slice,run_underlying hu,hb,ax hs w],.bc⟩
  | @slice a x off n c cap ad hx k1 k2 k3 k4 k5=>
   have GN:eO (some (⟨a,off,none⟩:Addr)) c=c/512:=rfl;rw[GN]at To;have QQ:mm<=cap:=by omega
   cases hi with
   |none=>cases h
   |some hv=>
    simp only at h;have hb:=jj (P:=P) (ρ:=ρ) (isS:=true) (cap:=cap) w hl De hm rl rh rm rfl rfl h1 h2 QQ;have hrun:(Instr.slice t (.slice (some ad) n cap) ga ue D5).run P w= .ok (.slice (if mm=l then some ad else some (ad.add (l*sz))) (hh-l) (mm-l)) w:=by simp only[Instr.slice,Sem.run_bind,run_underlying hu,Result.andThen_ok,hb,ax hs w,Sem.run_pure,Option.map_some]
    rw[hrun];have Kh:∃GO:Addr,(if mm=l then some ad else some (ad.add (l*sz)))=some GO∧(GO=⟨x.b,x.base+(off+l*sz),none⟩∨mm-l=0):=by
     by_cases e:mm=l
     ·exact⟨ad,by rw[if_pos e],.inr (by omega)⟩
     ·refine⟨ad.add (l*sz),by rw[if_neg e],.inl ?_⟩;have:=k4.resolve_right (by omega);subst this;rw[cY];simp[Nat.add_assoc]
    obtain⟨GO,e2,hd⟩:=Kh;rw[e2,ff h];have mU:codeEx (Nat.sub mm l)/512=mm-l:=by show(512*(mm-l)+1)/512=mm-l;omega
    have D6:codeEx (Nat.sub mm l)%2=1:=by show(512*(mm-l)+1)%2=1;omega
    refine⟨_,rfl,ag.slice _ _ _ _ GO hx ?_ ?_ ?_ hd ?_⟩
    ·rw[mU];show hh-l<=mm-l;omega
    ·rw[mU];exact Nat.le_refl _
    ·intro _;rw[mU]
    ·intro he;rw[D6]at he;cases he
theorem nW {l h:Nat} {a:Nat} (hx:ρ a=some x) (h1:l<=h) (h2:h<=n):
  ag ρ (.slice (some ⟨a,off+l*sz,none⟩) (h-l) (codeEx (n-l))) (.slice (some (if n=l then⟨x.b,x.base+off,none⟩else(⟨x.b,x.base+off,none⟩:Addr).add (l*sz))) (h-l) (n-l)):=by
 have mU:codeEx (n-l)/512=n-l:=by show(512*(n-l)+1)/512=_;omega
 have D6:codeEx (n-l)%2=1:=by show(512*(n-l)+1)%2=1;omega
 refine ag.slice _ _ _ _ _ hx ?_ ?_ ?_ ?_ ?_
 ·rw[mU];omega
 ·rw[mU];exact Nat.le_refl _
 ·intro _;rw[mU]
 ·by_cases e:n=l
  ·exact .inr (by omega)
  ·left;rw[if_neg e,cY];simp[Nat.add_assoc]
 ·intro he;rw[D6]at he;cases he
theorem xH {t:TypeId} {x:Value} {lo hi mx D5:Option Value} (w:World) (h:AB P (P.underlying t) x lo hi mx=some v) (hx:ag ρ x x') (rl:gK ρ lo ga) (rh:gK ρ hi ue) (rm:gK ρ mx D5):
  ∃u,(Instr.sliceAt t x' ga ue D5).run P w= .ok u w∧ag ρ v u:=by
 unfold AB at h;split at h
 ·rename_i s;generalize hu:P.underlying t=d at h;rcases d with _|d
  ·cases h
  cases d<;>first|(cases h;done)|skip
  ·replace h:rR s.data.toList lo hi mx=some v:=h;unfold rR at h;split at h
   ·cases rm;obtain⟨l,hl,h⟩:=U h;obtain⟨hh,De,h⟩:=U h;obtain⟨h1,h2,h⟩:=fe h;obtain⟨s1,gZ,h⟩:=U h;obtain⟨s2,hs2,h⟩:=U h;cases h;obtain⟨rfl,_⟩:=Gi _ _ _ gZ;obtain⟨rfl,_⟩:=yP _ _ _ hs2;cases hx;rw[aV]at De h2;have hsz:s.data.toList.length=s.size:=by simp
    rw[hsz]at De h2;have hb:=dc (P:=P) (ρ:=ρ) (isS:=false) (cap:=s.size) w hl De rl rh h1 h2;refine⟨.string (s.extract l hh),?_,?_⟩
    ·simp only[Instr.sliceAt,Instr.slice,Sem.run_bind,run_underlying hu,Result.andThen_ok,hb,Sem.run_pure,Option.isSome_none,Bool.false_eq_true,if_false]
    ·have e:(⟨⟨List.take (Nat.sub hh l) (List.drop l s.data.toList)⟩⟩:ByteArray)=s.extract l hh:=by
      apply ByteArray.ext;apply Array.ext';rw[ByteArray.data_extract,Array.toList_extract,List.extract_eq_take_drop];rfl
     rw[e];exact .string _
   ·cases h
 ·rename_i base n c;generalize hu:P.underlying t=d at h;rcases d with _|d
  ·cases h
  cases d<;>first|(cases h;done)|skip
  ·rename_i e;replace h:ob (aK P e) (λsz=>qI sz base n c lo hi mx)=some v:=h;obtain⟨sz,hs,h⟩:=U h;exact uA w hu hs h hx rl rh rm
 ·rename_i a;generalize hu:P.underlying t=d at h;rcases d with _|d
  ·cases h
  cases d<;>first|(cases h;done)|skip
  rotate_left
  ·rename_i n e;replace h:ob (aK P e) (λsz=>fS sz a n lo hi mx)=some v:=h;obtain⟨sz,hs,h⟩:=U h;unfold fS at h;split at h
   ·cases rm;obtain⟨l,hl,h⟩:=U h;obtain⟨hh,De,h⟩:=U h;obtain⟨h1,h2,h⟩:=fe h;rw[ff h];cases hx with| @ptr a x off hx=>?_
    have hb:=dc (P:=P) (ρ:=ρ) (isS:=false) (cap:=n) w hl De rl rh h1 h2;refine⟨_,?_,nW hx h1 h2⟩;simp only[Instr.sliceAt,Sem.run_bind,run_underlying hu,Result.andThen_ok,Instr.sureAddr,Sem.run_pure,hb,ax hs w]
   ·cases h
  ·rename_i arr;generalize Ix:P.underlying arr=d at h;rcases d with _|d
   ·replace h:(match P.underlying arr with|some (.array n e)=> λlo hi mx=>ob (aK P e) λsz=>fS sz a n lo hi mx|_=> λ_ _ _=>none) lo hi mx=some v:=h;rw[Ix]at h;cases h
   replace h:(match P.underlying arr with|some (.array n e)=> λlo hi mx=>ob (aK P e) λsz=>fS sz a n lo hi mx|_=> λ_ _ _=>none) lo hi mx=some v:=h;rw[Ix]at h;cases d<;>first|(cases h;done)|skip
   ·rename_i n e;replace h:ob (aK P e) (λsz=>fS sz a n lo hi mx)=some v:=h;obtain⟨sz,hs,h⟩:=U h;unfold fS at h;split at h
    ·cases rm;obtain⟨l,hl,h⟩:=U h;obtain⟨hh,De,h⟩:=U h;obtain⟨h1,h2,h⟩:=fe h;rw[ff h];cases hx with| @ptr a x off hx=>?_
     have hb:=dc (P:=P) (ρ:=ρ) (isS:=false) (cap:=n) w hl De rl rh h1 h2;refine⟨_,?_,nW hx h1 h2⟩;simp only[Instr.sliceAt,Instr.slice,Sem.run_bind,run_underlying hu,run_underlying Ix,Result.andThen_ok,asAddr,Sem.run_pure,hb,ax hs w]
    ·cases h
 ·cases h
end Go.Eng
end
noncomputable section
namespace Go.Eng
open Go
variable {s s':AS} {l vs:List Value} {x:Loc} {i off:Nat} {P:Program} {ρ:Ren} {v:Value} {w:World}
theorem Cw {f:Nat->Option Value}:∀(l:List Value),(∀(j:Nat) (v:Value),l[j]? =some v->∃u,f j=some u∧ag ρ v u)->∃m,af ρ l m∧∀(j:Nat) (u:Value),m[j]? =some u->f j=some u:=by
 intro l;induction l generalizing f with
 |nil=>intro _;exact⟨[],.nil,λj u h=>by simp at h⟩
 |cons v l ih=>
  intro h;obtain⟨u,hu,hr⟩:=h 0 v rfl;obtain⟨m,hm,hg⟩:=ih (f:= λj=>f (j+1)) (λj w hw=>h (j+1) w (by simpa using hw));refine⟨u::m,.cons hr hm,λj x hx=>?_⟩;cases j with
  |zero=>cases hx;exact hu
  |succ j=>exact hg j x (by simpa using hx)
theorem bP {β:Type} {b:Option Blk} {k:T (List Value)->Nat->Nat->Bool->TypeId->Option β} {v:β} (h:dV b k=some v):∃c sz n ro et,b=some (.cells c sz n ro et)∧k c sz n ro et=some v:=by
 cases b with
 |none=>cases h
 |some b=>cases b<;>first|(cases h;done)|exact⟨_,_,_,_,_,rfl,h⟩
theorem bk {β:Type} {b:Option Blk} {k:TypeId->List (Value×Value×Nat)->Nat->Option β} {v:β} (h:mapOf b k=some v):∃kt es ck,b=some (.map kt es ck)∧k kt es ck=some v:=by
 cases b with
 |none=>cases h
 |some b=>cases b<;>first|(cases h;done)|exact⟨_,_,_,rfl,h⟩
theorem ay {α β:Type} {o:Option α} {k:α->Option β} {v:β} (h:Option.rec (motive:= λ_=>Option β) none k o=some v):∃a,o=some a∧k a=some v:=U h
theorem kQ {a k:Nat} (hr:Rel P ρ s w) (hx:ρ a=some x) (h:uV s a off k=some l):
  l.length=k∧∃m,af ρ l m∧∀(j:Nat) (u:Value),m[j]? =some u->w.cell? ⟨x.b,x.base+off+j,none⟩=some u:=by
 obtain⟨c,sz,n,ro,et,hb,h⟩:=bP h;obtain⟨e,he,h⟩:=ay h;obtain⟨_,hC⟩:=hr.blk a _ x hb hx;have hC:aH P ρ x w c sz n ro et:=hC;obtain⟨hi,hlen,hcell⟩:=hC.cell _ _ he;have OS:off/sz*sz+off%sz=off:=by rw[Nat.mul_comm];exact Nat.div_add_mod off sz
 have key:∀(l':List Value) (j0:Nat),(∀j v,l'[j]? =some v->e[off%sz+j]? =some v)->∃m,af ρ l' m∧∀(j:Nat) (u:Value),m[j]? =some u->w.cell? ⟨x.b,x.base+off+j,none⟩=some u:=by
  intro l' _ G6;refine Cw (f:= λj=>w.cell? ⟨x.b,x.base+off+j,none⟩) l' (λj v hv=>?_);obtain⟨u,hu,eR⟩:=hcell _ v (G6 j v hv);refine⟨u,?_,eR⟩;have e2:x.base+(Nat.div off sz*sz+(off%sz+j))=x.base+off+j:=by have:Nat.div off sz=off/sz:=rfl;rw[this];omega
  rw[e2]at hu;exact hu
 rw[ah]at h;split at h
 ·rename_i hk;have fZ:=Nat.eq_of_beq_eq_true hk;obtain⟨h0,h⟩:=ae h;cases h;have PG:off%sz=0:=Nat.eq_of_beq_eq_true h0;exact⟨by omega,key _ 0 (λj v hv=>by rw[PG,Nat.zero_add];exact hv)⟩
 ·obtain⟨l1,h1,h⟩:=ay h;obtain⟨rfl,hd⟩:=iZ _ _ _ h1;obtain⟨rfl,ht⟩:=nH _ _ _ h;have e0:Nat.mod off sz=off%sz:=rfl;rw[e0]at ht hd;refine⟨by simp at ht⊢;rw[e0];omega,key _ 0 (λj v hv=>?_)⟩;rw[e0]at hv;rw[List.getElem?_take]at hv;split at hv
  ·rwa[List.getElem?_drop]at hv
  ·cases hv
theorem zw {n:String} (h:iw n=some vs) (hv:vs[i]? =some v):ag ρ v v:=by
 unfold iw at h;cases hb:(n== "internal/strconv.uint64pow10")with
 |false=>rw[hb]at h;cases h
 |true=>rw[hb]at h;cases h;obtain⟨j,_,rfl⟩:=List.mem_map.1 (List.mem_of_getElem? hv);exact .int _ _
theorem zx {t:TypeId} {a a':Value} (hr:Rel P ρ s w) (h:yv P t a=some v) (ha:ag ρ a a'):∃u,(Instr.loadAt t a').run P w= .ok u w∧ag ρ v u:=by
 unfold yv at h;split at h
 ·rename_i g off;cases ha with| @mT g off=>?_
  obtain⟨b,hb,h⟩:=U h;have hA:=jI hb w;rw[ah]at h;split at h
  ·cases h
  ·rename_i D4;have D4:b=false:=by simpa using D4
   subst D4;obtain⟨gl,hg,h⟩:=U h;obtain⟨vs,yk,h⟩:=U h;obtain⟨_,_,hc⟩:=hr.gl g gl vs hg (Ib yk);have hc:=hc off v h;refine⟨v,?_,zw yk h⟩;simp only[Instr.loadAt,Instr.sureAddr,Sem.run_bind,Sem.run_pure,Result.andThen_ok,loadVar,hA,Bool.false_eq_true,if_false,run_load,hc]
 ·cases h
theorem p0 {t:TypeId} {a a':Value} (hr:Rel P ρ s w) (h:uY P t s a=some v) (ha:ag ρ a a'):∃u,(Instr.loadAt t a').run P w= .ok u w∧ag ρ v u:=by
 unfold uY at h;split at h
 ·rename_i ad;cases ha with| @ptr a x off hx=>?_
  obtain⟨b,hb,h⟩:=U h;have hA:=jI hb w;rw[ah]at h;split at h
  ·rename_i L5;subst L5;obtain⟨n,hn,h⟩:=U h;obtain⟨l,hl,h⟩:=U h;cases h;obtain⟨hlen,m,hm,hg⟩:=kQ hr hx hl;have Tq:m.length=n:=by rw[<-hm.length,hlen]
   have hrun:=run_loadCells_list (P:=P) w ⟨x.b,x.base+off,none⟩ m (λj v hv=>by rw[cY];exact hg j v hv);rw[Tq]at hrun;exact⟨.agg m.toArray,by simp only[Instr.loadAt,Instr.sureAddr,Sem.run_bind,Sem.run_pure,Result.andThen_ok,loadVar,hA,if_true,ax hn w,hrun],.agg hm⟩
  ·rename_i D4;have D4:b=false:=by simpa using D4
   subst D4;obtain⟨l,hl,h⟩:=U h;obtain⟨hlen,m,hm,hg⟩:=kQ hr hx hl;cases l with
   |nil=>cases h
   |cons v0 r=>
    injection h with h
    subst h;cases hm with
    |cons hv hs=>rename_i u ms;have hc:=hg 0 u rfl;rw[Nat.add_zero]at hc;refine⟨u,?_,hv⟩;simp only[Instr.loadAt,Instr.sureAddr,Sem.run_bind,Sem.run_pure,Result.andThen_ok,loadVar,hA,Bool.false_eq_true,if_false,run_load,hc]
 ·exact zx hr h ha
theorem fP (b:Nat):∀(vs:List Value) (o:Nat) (w:World),(w.setCells b o vs).heap.size=w.heap.size
 | [],_,_=>rfl
 |v::r,o,w=>by rw[World.setCells,fP b r];simp[World.setCell]
theorem g9 (b:Nat):∀(vs:List Value) (o:Nat) (w:World) (k:Nat),k≠b->(w.setCells b o vs).heap[k]? =w.heap[k]?
 | [],_,_,_,_=>rfl
 |v::r,o,w,k,h=>by rw[World.setCells,g9 b r _ _ k h];simp[World.setCell,Array.getElem?_modify,Ne.symm h]
theorem iN (b:Nat):∀(vs:List Value) (o:Nat) (w:World),(w.setCells b o vs).tape=w.tape∧(w.setCells b o vs).os=w.os∧(w.setCells b o vs).output=w.output∧(w.setCells b o vs).drawn=w.drawn
 | [],_,_=>⟨rfl,rfl,rfl,rfl⟩
 |v::r,o,w=>by rw[World.setCells];exact iN b r (o+1) _
theorem tI (w:World) (a:Addr) (v:Value) (r:Nat):(w.setCell a v).shape? r=w.shape? r:=by
 simp only[World.shape?,World.setCell,Array.getElem?_modify];by_cases h:a.block=r
 ·rw[if_pos h];subst h;cases hk:w.heap[a.block]? with
  |none=>rfl
  |some o=>cases o<;>simp;split<;>simp
 ·rw[if_neg h]
theorem eh (b:Nat):∀(vs:List Value) (o:Nat) (w:World) (r:Nat),(w.setCells b o vs).shape? r=w.shape? r
 | [],_,_,_=>rfl
 |v::rs,o,w,r=>by rw[World.setCells,eh b rs,tI]
theorem nX:∀ {l:List Value},kz l=true->∀v∈l,cF v=true:=by
 intro l;induction l with
 |nil=>intro _ v hv;cases hv
 |cons a l ih=>
  intro h v hv;have h':ab (cF a) (kz l) false=true:=h;rw[ah]at h';split at h'
  ·rename_i ha;rcases List.mem_cons.1 hv with rfl|hv
   ·exact ha
   ·exact ih h' v hv
  ·cases h'
theorem Ic (v:Value):v.oneCell'=cF v:=by cases v<;>rfl
theorem af.M9 {m:List Value} (h:af ρ l m) (h1:∀v∈l,cF v=true):∀v∈m,v.oneCell'=true:=by
 induction l generalizing m with
 |nil=>cases h;intro v hv;cases hv
 |cons a l ih=>
  cases h with
  |cons h hs=>
   intro v hv;rcases List.mem_cons.1 hv with rfl|hv
   ·rw[Ic];exact h.one (h1 _ (by simp))
   ·exact ih hs (λv hv=>h1 v (by simp[hv])) v hv
theorem jN {a:Nat} {us:List Value} (hr:Rel P ρ s w) (hx:ρ a=some x) (h:iH s a off vs=some s') (hv:af ρ vs us):
  ∃w',(storeCells ⟨x.b,x.base+off,none⟩ us).run P w= .ok () w'∧w'=w.setCells x.b (x.base+off) us∧Rel P ρ s' w'∧aN ρ s w ρ s' w':=by
 unfold iH at h;obtain⟨lT,h⟩:=ae h;obtain⟨c,sz,n,ro,et,hb,h⟩:=bP h;obtain⟨hro,h⟩:=bj h;subst hro;obtain⟨e,he,h⟩:=ay h;obtain⟨e',gq,h⟩:=ay h;obtain⟨c',qZ,h⟩:=ay h;obtain⟨hlt,hC⟩:=hr.blk a _ x hb hx;have hC:aH P ρ x w c sz n false et:=hC;obtain⟨hi,hlen,hcell⟩:=hC.cell _ _ he;obtain⟨D7,hle⟩:=xh _ _ _ _ gq;have e0:Nat.mod off sz=off%sz:=rfl;have e1:Nat.div off sz=off/sz:=rfl;rw[e0]at D7 hle;rw[e1]at he hcell qZ hi;have OS:off/sz*sz+off%sz=off:=by rw[Nat.mul_comm];exact Nat.div_add_mod off sz
 have LD:=hv.length;have hcs:∀j,j<us.length->(w.cell? ⟨x.b,x.base+off+j,none⟩).isSome=true:=by
  intro j hj;have Sk:off%sz+j<e.length:=by omega
  obtain⟨u,hu,_⟩:=hcell (off%sz+j) _ (List.getElem?_eq_getElem Sk);have e2:x.base+(off/sz*sz+(off%sz+j))=x.base+off+j:=by omega
  rw[e2]at hu;rw[hu];rfl
 have Iy:∀j,j<us.length->w.frozen? ⟨x.b,x.base+off+j,none⟩=false:=by
  intro j hj;cases hf:w.frozen? ⟨x.b,x.base+off+j,none⟩with
  |false=>rfl
  |true=>have:=(hC.free rfl _ hf).1;have:=hcs j hj;rw[‹w.cell? _=none›]at this;cases this
 have hrun:=run_storeCells_cells (P:=P) x.b (x.base+off) us 0 w (by simpa using hcs) (by simpa using Iy) (hv.M9 (nX lT));rw[Nat.add_zero]at hrun;obtain⟨ht,ho,hu,_⟩:=iN x.b us (x.base+off) w;refine⟨_,hrun,rfl,Rel.write hr h hb rfl hx (fP _ _ _ _) (λb cz=>g9 _ _ _ _ _ cz) ht ho hu ?_⟩;refine⟨λi l hl=>?_,λo gz=>?_,λ_ o gz=>?_,by rw[eh];exact hC.shape,hC.mult⟩
 ·have hg:=T.aR _ _ _ _ qZ i;rw[hg]at hl;by_cases L6:i=off/sz
  ·rw[if_pos L6]at hl;cases hl;have QR:e'.length=sz:=by rw[D7];simp;omega
   refine⟨by rw[L6];exact hi,QR,λj v eE=>?_⟩;subst L6;have PH:j<sz:=by
    rcases Nat.lt_or_ge j sz with h|h
    ·exact h
    ·rw[List.getElem?_eq_none (by omega)]at eE;cases eE
   rw[D7]at eE;by_cases L7:j<off%sz
   ·have x3:e[j]? =some v:=by
     rw[List.append_assoc,List.getElem?_append_left (by simp;omega),List.getElem?_take_of_lt L7]at eE;exact eE
    obtain⟨u,hu,eR⟩:=hcell j v x3;refine⟨u,?_,eR⟩;rw[World.cell?_setCells_out _ _ _ _ _ (λ_ _=> .inl (by show x.base+(off/sz*sz+j)<x.base+off;omega))];exact hu
   ·by_cases Sk:j<off%sz+vs.length
    ·have x3:vs[j-off%sz]? =some v:=by
      rw[List.getElem?_append_left (by simp;omega),List.getElem?_append_right (by simp;omega)]at eE;have:(List.take (off%sz) e).length=off%sz:=by simp;omega
      rw[this]at eE;exact eE
     obtain⟨u,hu,eR⟩:=hv.get x3;refine⟨u,?_,eR⟩;obtain⟨PI,PJ⟩:=List.getElem?_eq_some_iff.1 hu;have:=World.cell?_setCells_in x.b us (x.base+off) w hcs (j-off%sz) PI;have e2:x.base+off+(j-off%sz)=x.base+(off/sz*sz+j):=by omega
     rw[e2]at this;rw[this,PJ]
    ·have x3:e[j]? =some v:=by
      rw[List.getElem?_append_right (by simp;omega)]at eE;have:(List.take (off%sz) e++vs).length=off%sz+vs.length:=by simp;omega
      rw[this,List.getElem?_drop]at eE;have e3:off%sz+vs.length+(j-(off%sz+vs.length))=j:=by omega
      rw[e3]at eE;exact eE
     obtain⟨u,hu,eR⟩:=hcell j v x3;refine⟨u,?_,eR⟩;rw[World.cell?_setCells_out _ _ _ _ _ (λ_ _=> .inr (by show x.base+off+us.length<=x.base+(off/sz*sz+j);omega))];exact hu
  ·rw[if_neg L6]at hl;obtain⟨h1,h2,h3⟩:=hC.cell i l hl;refine⟨h1,h2,λj v eE=>?_⟩;obtain⟨u,hu,eR⟩:=h3 j v eE;refine⟨u,?_,eR⟩;have PH:j<sz:=by
    rcases Nat.lt_or_ge j sz with h|h
    ·exact h
    ·rw[List.getElem?_eq_none (by omega)]at eE;cases eE
   rw[World.cell?_setCells_out _ _ _ _ _ (λ_ _=>?_)]
   ·exact hu
   ·show x.base+(i*sz+j)<x.base+off∨x.base+off+us.length<=x.base+(i*sz+j);rcases Nat.lt_or_gt_of_ne L6 with h|h
    ·left;have:(i+1)*sz<=off/sz*sz:=Nat.mul_le_mul_right _ h;rw[Nat.add_mul]at this;omega
    ·right;have:(off/sz+1)*sz<=i*sz:=Nat.mul_le_mul_right _ h;rw[Nat.add_mul]at this;omega
 ·by_cases hin:x.base+off<=o∧o<x.base+off+us.length
  ·have:=World.cell?_setCells_in x.b us (x.base+off) w hcs (o-(x.base+off)) (by omega);rw[show x.base+off+(o-(x.base+off))=o by omega]at this;rw[this];rfl
  ·rw[World.cell?_setCells_out _ _ _ _ _ (λ_ _=>by show o<x.base+off∨x.base+off+us.length<=o;omega)];exact hC.all o gz
 ·rw[World.frozen?_setCells]at gz;obtain⟨hn,yl⟩:=hC.free rfl o gz;refine⟨?_,yl⟩;by_cases hin:x.base+off<=o∧o<x.base+off+us.length
  ·have:=hcs (o-(x.base+off)) (by omega);rw[show x.base+off+(o-(x.base+off))=o by omega,hn]at this;cases this
  ·rw[World.cell?_setCells_out _ _ _ _ _ (λ_ _=>by show o<x.base+off∨x.base+off+us.length<=o;omega)];exact hn
end Go.Eng
end
noncomputable section
namespace Go.Eng
open Go
variable {s:AS} {els:List (List Value)} {cs vs:List Value} {b cap hi n sz:Nat} {P:Program} {ρ:Ren} {t:T (List Value)} {r:Value×AS} {w w':World}
theorem rY:∀(ls:List (List Value)) (i:Nat) (t t':T (List Value)),vY ls i t=some t'->∀j,t'.get j=if i<=j∧j<i+ls.length then ls[j-i]? else t.get j:=by
 intro ls;induction ls with
 |nil=>intro i t t' h j;cases h;rw[if_neg (by simp)]
 |cons l ls ih=>
  intro i t t' h j;have h':Option.rec (motive:= λ_=>Option (T (List Value))) none (λt1=>vY ls (Nat.succ i) t1) (T.put (some l) t i)=some t':=h;obtain⟨t1,h1,h2⟩:=ay h';rw[ih _ _ _ h2 j,T.aR _ _ _ _ h1 j];simp only[List.length_cons];by_cases hj:j=i
  ·subst hj;rw[if_neg (by omega),if_pos rfl,if_pos (by omega),Nat.sub_self];rfl
  ·by_cases hc:i<=j∧j<i+(ls.length+1)
   ·rw[if_pos (by omega),if_pos hc];have:j-i=(j-(i+1))+1:=by omega
    rw[this];rfl
   ·rw[if_neg (by omega),if_neg hj,if_neg hc]
theorem fX:∀ {ls:List (List Value)},qH sz ls=true->∀l∈ls,l.length=sz:=by
 intro ls;induction ls with
 |nil=>intro _ l hl;cases hl
 |cons a ls ih=>
  intro h l hl;have h':ab (Nat.beq (len a) sz) (qH sz ls) false=true:=h;rw[ah]at h';split at h'
  ·rename_i ha;rcases List.mem_cons.1 hl with rfl|hl
   ·rw[<-aV];exact Nat.eq_of_beq_eq_true ha
   ·exact ih h' l hl
  ·cases h'
theorem gR:∀ {ls:List (List Value)},(∀l∈ls,l.length=sz)->ls.flatten.length=ls.length*sz:=by
 intro ls;induction ls with
 |nil=>intro _;simp
 |cons a ls ih=>intro h;rw[List.flatten_cons,List.length_append,ih (λl hl=>h l (by simp[hl])),h a (by simp),List.length_cons,Nat.add_mul];omega
theorem flat_get:∀ {ls:List (List Value)},(∀l∈ls,l.length=sz)->∀ {i:Nat} {l:List Value},ls[i]? =some l->∀j,j<sz->ls.flatten[i*sz+j]? =l[j]?:=by
 intro ls;induction ls with
 |nil=>intro _ i l h;cases h
 |cons a ls ih=>
  intro h i l hl j hj;have ha:=h a (by simp);cases i with
  |zero=>cases hl;rw[List.flatten_cons,Nat.zero_mul,Nat.zero_add,List.getElem?_append_left (by omega)]
  |succ i=>have:=ih (λl hl=>h l (by simp[hl])) (i:=i) (by simpa using hl) j hj;rw[List.flatten_cons,List.getElem?_append_right (by rw[Nat.add_mul];omega),<-this];congr 1;rw[Nat.add_mul];omega
theorem dE (w:World) (C:Array Value) (t:TypeId) (fr:Nat×Nat) (w':World) (hh:w'.heap=w.heap.push (.cells C t fr)) (j:Nat):w'.cell? ⟨w.heap.size,j,none⟩=C[j]?:=by simp[World.cell?,hh]
theorem kR (w:World) (C:Array Value) (t:TypeId) (fr:Nat×Nat) (w':World) (hh:w'.heap=w.heap.push (.cells C t fr)):w'.shape? w.heap.size=some (t,C.size):=by simp[World.shape?,hh]
theorem jO (w:World) (C:Array Value) (t:TypeId) (lo hi:Nat) (w':World) (hh:w'.heap=w.heap.push (.cells C t (lo,hi))) (j:Nat):w'.frozen? ⟨w.heap.size,j,none⟩=(decide (lo<=j)&&decide (j<hi)):=by simp[World.frozen?,hh]
theorem Bc {β:Type} {et:TypeId} {k:Nat->AS->Option β} {r:β} {rest:List Value} {lo:Nat} (hr:Rel P ρ s w) (h:jv s et sz els n k=some r) (hc:af ρ els.flatten cs) (zZ:∀o,lo<=o->o<hi->cs.length+rest.length<=o∧P.underlying et=some (.int .u8)) (hh:w'.heap=w.heap.push (.cells (cs++rest).toArray et (lo,hi))) (ht:w'.tape=w.tape) (ho:w'.os=w.os) (hu:w'.output=w.output):
  els.length=n∧cs.length=n*sz∧∃s1,k s.nx s1=some r∧Rel P (ρ.put s.nx ⟨w.heap.size,0,cs.length+rest.length,[]⟩) s1 w'∧aN ρ s w (ρ.put s.nx ⟨w.heap.size,0,cs.length+rest.length,[]⟩) s1 w':=by
 unfold jv at h;obtain⟨hn,h⟩:=ae h;obtain⟨hl,h⟩:=ae h;obtain⟨t,x4,h⟩:=ay h;rw[ak]at h;obtain⟨s1,gZ,h⟩:=ay h;have hn:els.length=n:=by rw[<-aV];exact Nat.eq_of_beq_eq_true hn
 have hl:=fX hl;have OT:=gR hl;have GN:=hc.length;rw[OT,hn]at GN;refine⟨hn,GN.symm,s1,h,?_⟩;have hle:aG ρ (ρ.put s.nx ⟨w.heap.size,0,cs.length+rest.length,[]⟩):= λa y e=>by
  unfold Ren.put;by_cases ha:a=s.nx
  ·rw[ha,hr.eu _ (Nat.le_refl _)]at e;cases e
  ·rw[if_neg ha];exact e
 refine Rel.alloc hr gZ rfl (by rw[hh];simp) (λb hb=>by rw[hh];simp[Array.getElem?_push,Nat.ne_of_lt hb]) ht ho hu ?_;refine⟨λi l mP=>?_,λo gz=>?_,λ_ o gz=>?_,?_,⟨0,by simp⟩⟩
 ·rw[rY _ _ _ _ x4 i]at mP;by_cases qZ:0<=i∧i<0+els.length
  ·rw[if_pos qZ,Nat.sub_zero]at mP;refine⟨by omega,hl l (List.mem_of_getElem? mP),λj v hv=>?_⟩;have hj:j<sz:=by
    rw[<-hl l (List.mem_of_getElem? mP)];exact(List.getElem?_eq_some_iff.1 hv).1
   have hf:=flat_get hl mP j hj;rw[hv]at hf;obtain⟨u,mO,eR⟩:=hc.get hf;refine⟨u,?_,eR.mono hle⟩;rw[dE w _ _ _ _ hh];simp only[Nat.zero_add,List.getElem?_toArray];rw[List.getElem?_append_left (List.getElem?_eq_some_iff.1 mO).1];exact mO
  ·rw[if_neg qZ]at mP;cases mP
 ·rw[dE w _ _ _ _ hh];have Ju:o<(cs++rest).length:=by simpa using gz
  simp only[List.getElem?_toArray];rw[List.getElem?_eq_getElem Ju];rfl
 ·rw[jO w _ _ _ _ _ hh]at gz;simp only[Bool.and_eq_true,decide_eq_true_eq]at gz;obtain⟨this,Fu⟩:=zZ o gz.1 gz.2;refine⟨?_,Fu⟩;rw[dE w _ _ _ _ hh];simp only[List.getElem?_toArray];exact List.getElem?_eq_none (by simp;omega)
 ·rw[kR w _ _ _ _ hh];simp
theorem jc {c:Nat} (h:Eh b n c s=some r):r=(.slice (some ⟨b,0,none⟩) n c,s):=by unfold Eh at h;simp only[ak]at h;cases h;rfl
theorem mw (n:Nat):codeEx n/512=n:=by show(512*n+1)/512=n;omega
theorem Bd (n:Nat):codeEx n%2=1:=by show(512*n+1)%2=1;omega
theorem cU (h:sz<256):codeLB n sz/512=n:=by show(512*n+2*sz)/512=n;omega
theorem gW (n sz:Nat):codeLB n sz%2=0:=by show(512*n+2*sz)%2=0;omega
theorem jd (h:sz<256):codeLB n sz%512/2=sz:=by show(512*n+2*sz)%512/2=sz;omega
theorem bE (ρ:Ren) (a:Nat) (x:Loc):(ρ.put a x) a=some x:=by unfold Ren.put;rw[if_pos rfl]
theorem p6 {et:TypeId} {lo:Nat} {rest:List Value} (hr:Rel P ρ s w) (h:gJ s et sz els n=some r) (hc:af ρ els.flatten cs) (pQ:n<=cap) (I4:cs.length+rest.length=cap*sz) (zZ:∀o,lo<=o->o<hi->cs.length+rest.length<=o∧P.underlying et=some (.int .u8)) (hh:w'.heap=w.heap.push (.cells (cs++rest).toArray et (lo,hi))) (ht:w'.tape=w.tape) (ho:w'.os=w.os) (hu:w'.output=w.output):
  ∃aj,ag aj r.1 (.slice (some ⟨w.heap.size,0,none⟩) n cap)∧Rel P aj r.2 w'∧aN ρ s w aj r.2 w':=by
 unfold gJ at h;obtain⟨hsz,h⟩:=ae h;have hsz:sz<256:=Nat.le_of_ble_eq_true hsz;obtain⟨hn,GN,s1,hk,hR,hS⟩:=Bc hr h hc zZ hh ht ho hu;rw[jc hk];refine⟨_,?_,hR,hS⟩;have e:(⟨w.heap.size,0,none⟩:Addr)=⟨(⟨w.heap.size,0,cs.length+rest.length,[]⟩:Loc).b,(⟨w.heap.size,0,cs.length+rest.length,[]⟩:Loc).base+0,none⟩:=rfl;refine .slice 0 n (codeLB n sz) cap _ (bE _ _ _) (by rw[cU hsz];exact Nat.le_refl _) (by rw[cU hsz];exact pQ) (λh=>by rw[gW]at h;cases h) (.inl e) (λ_=>?_);rw[jd hsz];show 0+0+cap*sz<=cs.length+rest.length;omega
def Made (P:Program) (ρ:Ren) (w:World) (a:Nat) (m:Sem Value) (v:Value) (k:Blk):Prop:=
 ∃x u w',m.run P w= .ok u w'∧x.b=w.heap.size∧w'.heap.size=w.heap.size+1∧(∀b,b<w.heap.size->w'.heap[b]? =w.heap[b]?)∧w'.tape=w.tape∧w'.os=w.os∧w'.output=w.output∧
  ag (ρ.put a x) v u∧cj P (ρ.put a x) x w' k
theorem iM {a:Nat} (h:ρ a=none) (x:Loc):aG ρ (ρ.put a x):= λb y e=>by
 unfold Ren.put;by_cases ha:b=a
 ·rw[ha,h]at e;cases e
 ·rw[if_neg ha];exact e
theorem vr (ht:vY els 0 .e=some t) (i:Nat):t.get i=els[i]?:=by
 rw[rY _ _ _ _ ht i];by_cases h:0<=i∧i<0+els.length
 ·rw[if_pos h,Nat.sub_zero]
 ·rw[if_neg h,T.get_e,List.getElem?_eq_none (by omega)]
theorem vt {et:TypeId} {rest:List Value} {lo:Nat} (ht:∀i,t.get i=els[i]?) (hl:∀l∈els,l.length=sz) (hn:els.length=n) (hc:af ρ els.flatten cs) (zZ:∀o,lo<=o->o<hi->cs.length+rest.length<=o∧P.underlying et=some (.int .u8)) (hh:w'.heap=w.heap.push (.cells (cs++rest).toArray et (lo,hi))):cj P ρ ⟨w.heap.size,0,cs.length+rest.length,[]⟩ w' (.cells t sz n false et):=by
 refine⟨λi l mP=>?_,λo gz=>?_,λ_ o gz=>?_,?_,⟨0,by simp⟩⟩
 ·rw[ht i]at mP;refine⟨by rw[<-hn];exact(List.getElem?_eq_some_iff.1 mP).1,hl l (List.mem_of_getElem? mP),λj v hv=>?_⟩;have hj:j<sz:=by
   rw[<-hl l (List.mem_of_getElem? mP)];exact(List.getElem?_eq_some_iff.1 hv).1
  have hf:=flat_get hl mP j hj;rw[hv]at hf;obtain⟨u,mO,eR⟩:=hc.get hf;refine⟨u,?_,eR⟩;rw[dE w _ _ _ _ hh];simp only[Nat.zero_add,List.getElem?_toArray];rw[List.getElem?_append_left (List.getElem?_eq_some_iff.1 mO).1];exact mO
 ·rw[dE w _ _ _ _ hh];have Ju:o<(cs++rest).length:=by simpa using gz
  simp only[List.getElem?_toArray];rw[List.getElem?_eq_getElem Ju];rfl
 ·rw[jO w _ _ _ _ _ hh]at gz;simp only[Bool.and_eq_true,decide_eq_true_eq]at gz;obtain⟨this,Fu⟩:=zZ o gz.1 gz.2;refine⟨?_,Fu⟩;rw[dE w _ _ _ _ hh];simp only[List.getElem?_toArray];exact List.getElem?_eq_none (by simp;omega)
 ·rw[kR w _ _ _ _ hh];simp
theorem nI {et:TypeId} {rest:List Value} {lo:Nat} (ht:vY els 0 .e=some t) (hl:∀l∈els,l.length=sz) (hn:els.length=n) (hc:af ρ els.flatten cs) (zZ:∀o,lo<=o->o<hi->cs.length+rest.length<=o∧P.underlying et=some (.int .u8)) (hh:w'.heap=w.heap.push (.cells (cs++rest).toArray et (lo,hi))):cj P ρ ⟨w.heap.size,0,cs.length+rest.length,[]⟩ w' (.cells t sz n false et):=vt (vr ht) hl hn hc zZ hh
theorem sR {et:TypeId} {l:Nat} (h:BJ s et sz els l n=some r) (L8:l<=n):
  ∃k,s.new k=some r.2∧∀ {ρ:Ren} {w w':World} {m:Sem Value} {cs:List Value},ρ s.nx=none->af ρ els.flatten cs->m.run P w= .ok (.slice (some ⟨w.heap.size,0,none⟩) l n) w'->
   w'.heap=w.heap.push (.cells cs.toArray et)->w'.tape=w.tape->w'.os=w.os->w'.output=w.output->Made P ρ w s.nx m r.1 k:=by
 unfold BJ jv at h;obtain⟨hn,h⟩:=ae h;obtain⟨hl,h⟩:=ae h;obtain⟨t,x4,h⟩:=ay h;rw[ak]at h;obtain⟨s1,gZ,h⟩:=ay h;have hn:els.length=n:=by rw[<-aV];exact Nat.eq_of_beq_eq_true hn
 rw[jc h];refine⟨_,gZ,λ {ρ w w' m cs} ow hc hrun hh ht ho hu=>?_⟩;have hle:=iM ow ⟨w.heap.size,0,cs.length+([]:List Value).length,[]⟩;refine⟨⟨w.heap.size,0,cs.length+([]:List Value).length,[]⟩,_,w',hrun,rfl,by rw[hh];simp,λb hb=>by rw[hh];simp[Array.getElem?_push,Nat.ne_of_lt hb],ht,ho,hu,?_,?_⟩
 ·have e:(⟨w.heap.size,0,none⟩:Addr)=⟨(⟨w.heap.size,0,cs.length+([]:List Value).length,[]⟩:Loc).b,(⟨w.heap.size,0,cs.length+([]:List Value).length,[]⟩:Loc).base+0,none⟩:=rfl;exact .slice 0 l (codeEx n) n _ (bE _ _ _) (by rw[mw];exact L8) (by rw[mw];exact Nat.le_refl _) (λ_=>(mw n).symm) (.inl e) (λh=>by rw[Bd]at h;cases h)
 ·exact nI (rest:= []) (lo:=0) (hi:=0) x4 (fX hl) hn (hc.mono hle) (λo h1 h2=>by omega) (by simpa using hh)
theorem Be {et:TypeId} (h:gJ s et sz els n=some r):
  ∃k,s.new k=some r.2∧∀ {ρ:Ren} {w w':World} {m:Sem Value} {cs rest:List Value} {cap lo hi:Nat},ρ s.nx=none->af ρ els.flatten cs->n<=cap->cs.length+rest.length=cap*sz->(∀o,lo<=o->o<hi->cs.length+rest.length<=o∧P.underlying et=some (.int .u8))->
   m.run P w= .ok (.slice (some ⟨w.heap.size,0,none⟩) n cap) w'->w'.heap=w.heap.push (.cells (cs++rest).toArray et (lo,hi))->w'.tape=w.tape->w'.os=w.os->w'.output=w.output->Made P ρ w s.nx m r.1 k:=by
 unfold gJ at h;obtain⟨hsz,h⟩:=ae h;have hsz:sz<256:=Nat.le_of_ble_eq_true hsz;unfold jv at h;obtain⟨hn,h⟩:=ae h;obtain⟨hl,h⟩:=ae h;obtain⟨t,x4,h⟩:=ay h;rw[ak]at h;obtain⟨s1,gZ,h⟩:=ay h;have hn:els.length=n:=by rw[<-aV];exact Nat.eq_of_beq_eq_true hn
 rw[jc h];refine⟨_,gZ,λ {ρ w w' m cs rest cap lo hi} ow hc pQ I4 zZ hrun hh ht ho hu=>?_⟩;have hle:=iM ow ⟨w.heap.size,0,cs.length+rest.length,[]⟩;refine⟨⟨w.heap.size,0,cs.length+rest.length,[]⟩,_,w',hrun,rfl,by rw[hh];simp,λb hb=>by rw[hh];simp[Array.getElem?_push,Nat.ne_of_lt hb],ht,ho,hu,?_,?_⟩
 ·have e:(⟨w.heap.size,0,none⟩:Addr)=⟨(⟨w.heap.size,0,cs.length+rest.length,[]⟩:Loc).b,(⟨w.heap.size,0,cs.length+rest.length,[]⟩:Loc).base+0,none⟩:=rfl;refine .slice 0 n (codeLB n sz) cap _ (bE _ _ _) (by rw[cU hsz];exact Nat.le_refl _) (by rw[cU hsz];exact pQ) (λh=>by rw[gW]at h;cases h) (.inl e) (λ_=>?_);rw[jd hsz];show 0+0+cap*sz<=cs.length+rest.length;omega
 ·exact nI x4 (fX hl) hn (hc.mono hle) zZ hh
theorem nY {et:TypeId} (h:qG s et vs=some r):
  ∃k,s.new k=some r.2∧∀ {ρ:Ren} {w w':World} {m:Sem Value} {us:List Value},ρ s.nx=none->af ρ vs us->m.run P w= .ok (.pointer (some ⟨w.heap.size,0,none⟩)) w'->
   w'.heap=w.heap.push (.cells us.toArray et)->w'.tape=w.tape->w'.os=w.os->w'.output=w.output->Made P ρ w s.nx m r.1 k:=by
 unfold qG at h;rw[ak,ak]at h;obtain⟨s',fR,h⟩:=ay h;cases h;refine⟨_,fR,λ {ρ w w' m us} ow hv hrun hh ht ho hu=>?_⟩;have hle:=iM ow ⟨w.heap.size,0,us.length,[]⟩;refine⟨⟨w.heap.size,0,us.length,[]⟩,_,w',hrun,rfl,by rw[hh];simp,λb hb=>by rw[hh];simp[Array.getElem?_push,Nat.ne_of_lt hb],ht,ho,hu,ag.ptr (x:=⟨w.heap.size,0,us.length,[]⟩) 0 (bE _ _ _),?_⟩;refine⟨λi l mP=>?_,λo gz=>?_,λ_ o gz=>?_,?_,⟨0,by simp⟩⟩
 ·rcases bb i with rfl|⟨m,rfl⟩|⟨m,rfl⟩
  ·rw[T.dM]at mP;cases mP;refine⟨by omega,by rw[aV],λj v hj=>?_⟩;obtain⟨u,mO,eR⟩:=hv.get hj;refine⟨u,?_,eR.mono hle⟩;rw[dE w _ _ _ _ hh];simp only[Nat.zero_mul,Nat.zero_add,List.getElem?_toArray];exact mO
  ·rw[T.bO,T.get_e]at mP;cases mP
  ·rw[T.bh,T.get_e]at mP;cases mP
 ·rw[dE w _ _ _ _ hh];have Ju:o<us.length:=gz;simp only[List.getElem?_toArray];rw[List.getElem?_eq_getElem Ju];rfl
 ·rw[jO w _ _ _ _ _ hh]at gz;simp at gz
 ·rw[kR w _ _ _ _ hh];simp
end Go.Eng
end
noncomputable section
namespace Go.Eng
open Go
variable {s:AS} {els ls:List (List Value)} {x:Loc} {j n off sz:Nat} {P:Program} {ρ:Ren} {v v':Value} {w:World}
theorem oY {c:T (List Value)}:∀(n i:Nat) (els:List (List Value)),elems c n i=some els->els.length=n∧∀j l,els[j]? =some l->c.get (i+j)=some l:=by
 intro n;induction n with
 |zero=>intro i els h;cases h;exact⟨rfl,λj l h=>by simp at h⟩
 |succ n ih=>
  intro i els h;have h':Option.rec (motive:= λ_=>Option (List (List Value))) none (λl=>Option.rec (motive:= λ_=>Option (List (List Value))) none (λr=>some (l::r)) (elems c n (Nat.succ i))) (c.get i)=some els:=h;obtain⟨l,hl,h'⟩:=ay h';obtain⟨r,hr,h'⟩:=ay h';cases h';obtain⟨h1,h2⟩:=ih _ _ hr;refine⟨by simp[h1],λj m hm=>?_⟩;cases j with
  |zero=>cases hm;exact hl
  |succ j=>rw[show i+(j+1)=Nat.succ i+j by omega];exact h2 j m (by simpa using hm)
theorem Gt:∀(n:Nat) (l:List Value) (els:List (List Value)),chunk sz n l=some els->els.length=n∧n*sz<=l.length∧els.flatten=l.take (n*sz)∧∀e∈els,e.length=sz:=by
 intro n;induction n with
 |zero=>intro l els h;cases h;exact⟨rfl,by omega,by simp,λe he=>by cases he⟩
 |succ n ih=>
  intro l els h;have h':Option.rec (motive:= λ_=>Option (List (List Value))) none
   (λa=>Option.rec (motive:= λ_=>Option (List (List Value))) none
    (λb=>Option.rec (motive:= λ_=>Option (List (List Value))) none (λr=>some (a::r)) (chunk sz n b)) (pC sz l)) (pA sz l)=some els:=h
  obtain⟨a,ha,h'⟩:=ay h';obtain⟨b,hb,h'⟩:=ay h';obtain⟨r,hr,h'⟩:=ay h';cases h';obtain⟨rfl,OU⟩:=nH _ _ _ ha;obtain⟨rfl,_⟩:=iZ _ _ _ hb;obtain⟨h1,h2,h3,h4⟩:=ih _ _ hr;rw[List.length_drop]at h2;refine⟨by simp[h1],by rw[Nat.add_mul];omega,?_,λe he=>?_⟩
  ·rw[List.flatten_cons,h3,Nat.add_mul,Nat.one_mul,Nat.add_comm (n*sz) sz,List.take_add]
  ·rcases List.mem_cons.1 he with rfl|he
   ·simp;omega
   ·exact h4 e he
theorem vu (h:∀l∈ls,l.length=sz) (hv:ls.flatten[j]? =some v):0<sz∧∃l,ls[j/sz]? =some l∧l[j%sz]? =some v:=by
 have hlt:=(List.getElem?_eq_some_iff.1 hv).1;rw[gR h]at hlt;have hsz:0<sz:=by
  rcases Nat.eq_zero_or_pos sz with rfl|h
  ·simp at hlt
  ·exact h
 have hi:j/sz<ls.length:=Nat.div_lt_of_lt_mul (by rw[Nat.mul_comm];exact hlt);refine⟨hsz,_,List.getElem?_eq_getElem hi,?_⟩;have:=flat_get h (List.getElem?_eq_getElem hi) (j%sz) (Nat.mod_lt _ hsz);rw[<-this,Nat.mul_comm,Nat.div_add_mod];exact hv
theorem lg {a:Nat} (hr:Rel P ρ s w) (hx:ρ a=some x) (h:kA (s.h.get a) sz off n=some els):
  els.length=n∧(∀l∈els,l.length=sz)∧∃cs,af ρ els.flatten cs∧cs.length=n*sz∧∀(j:Nat) (u:Value),cs[j]? =some u->w.cell? ⟨x.b,x.base+off+j,none⟩=some u:=by
 obtain⟨c,jn,m,ro,et,hb,h⟩:=bP h;obtain⟨_,hC⟩:=hr.blk a _ x hb hx;have hC:aH P ρ x w c jn m ro et:=hC;obtain⟨h0,hq⟩:=bj h;clear h;rw[ah]at hq;have fin:els.length=n->(∀l∈els,l.length=sz)->(∀j v,els.flatten[j]? =some v->∃u,w.cell? ⟨x.b,x.base+off+j,none⟩=some u∧ag ρ v u)->
   els.length=n∧(∀l∈els,l.length=sz)∧∃cs,af ρ els.flatten cs∧cs.length=n*sz∧∀(j:Nat) (u:Value),cs[j]? =some u->w.cell? ⟨x.b,x.base+off+j,none⟩=some u:=by
  intro hn hl hf;obtain⟨cs,hcs,hg⟩:=Cw (f:= λj=>w.cell? ⟨x.b,x.base+off+j,none⟩) els.flatten hf;exact⟨hn,hl,cs,hcs,by rw[<-hcs.length,gR hl,hn],hg⟩
 split at hq
 ·rename_i hs;have hs:=Nat.eq_of_beq_eq_true hs;subst hs;obtain⟨hm,h⟩:=ae hq;have hm:off%sz=0:=Nat.eq_of_beq_eq_true hm;obtain⟨hn,hg⟩:=oY _ _ _ h;have hl:∀l∈els,l.length=sz:= λl hl=>by
   obtain⟨i,hi⟩:=List.mem_iff_getElem?.1 hl;exact(hC.cell _ _ (hg i l hi)).2.1
  refine fin hn hl (λj v hv=>?_);obtain⟨hsz,l,h1,h2⟩:=vu hl hv;obtain⟨u,hu,eR⟩:=(hC.cell _ _ (hg _ l h1)).2.2 _ v h2;refine⟨u,?_,eR⟩;have e1:Nat.div off sz*sz=off:=by show off/sz*sz=off;have:=Nat.div_add_mod off sz;rw[hm,Nat.mul_comm]at this;simpa using this
  have e2:j/sz*sz+j%sz=j:=by rw[Nat.mul_comm];exact Nat.div_add_mod j sz
  have e3:x.base+((Nat.div off sz+j/sz)*sz+j%sz)=x.base+off+j:=by rw[Nat.add_mul,e1];omega
  rw[e3]at hu;exact hu
 ·obtain⟨e,he,h⟩:=U hq;obtain⟨e1,Cd,h⟩:=U h;obtain⟨e2,OV,h⟩:=U h;obtain⟨rfl,hd⟩:=iZ _ _ _ Cd;obtain⟨rfl,ht⟩:=nH _ _ _ OV;obtain⟨h1,h2,h3,h4⟩:=Gt _ _ _ h;refine fin h1 h4 (λj v hv=>?_);rw[h3]at hv;have eE:e[off%jn+j]? =some v:=by
   rw[List.getElem?_take]at hv;split at hv
   ·rw[List.getElem?_take]at hv;split at hv
    ·rw[List.getElem?_drop]at hv;exact hv
    ·cases hv
   ·cases hv
  obtain⟨u,hu,eR⟩:=(hC.cell _ _ he).2.2 _ v eE;refine⟨u,?_,eR⟩;have e1:off/jn*jn+off%jn=off:=by rw[Nat.mul_comm];exact Nat.div_add_mod off jn
  have e3:x.base+(Nat.div off jn*jn+(off%jn+j))=x.base+off+j:=by show x.base+(off/jn*jn+(off%jn+j))=x.base+off+j;omega
  rw[e3]at hu;exact hu
theorem nZ:∀ {l:List UInt8} {els:List (List Value)},byteCells l=some els->els=l.map (λb=> [Value.int .u8 (b.toNat:Int)]):=by
 intro l;induction l with
 |nil=>intro els h;cases h;rfl
 |cons b l ih=>intro els h;have h':aq b.toNat (λn=>ob (byteCells l) λr=>some ([Value.int .u8 (.ofNat n)]::r))=some els:=h;rw[ak]at h';obtain⟨r,hr,h'⟩:=U h';cases h';rw[ih hr];rfl
theorem yQ (l:List UInt8):af ρ (l.map (λb=> [Value.int .u8 (b.toNat:Int)])).flatten (l.map λb=>Value.int .u8 (b.toNat:Int)):=by
 induction l with
 |nil=>exact .nil
 |cons b l ih=>exact .cons (.int _ _) ih
theorem zy (s:ByteArray) (n:Nat):((s.extract 0 n).data.map λb=>Value.int .u8 b.toNat).toList=(s.data.toList.take n).map λb=>Value.int .u8 (b.toNat:Int):=by simp
theorem mN (a:Addr) (w:World):(loadCells a 0).run P w= .ok #[] w:=by have:=run_loadCells_list (P:=P) w a [] (λj v h=>by simp at h);simpa using this
theorem bw (hr:Rel P ρ s w) (h:bu s sz v n=some els) (hv:ag ρ v v') (hn:∀b m c,v= .slice b m c->n<=m):
  (∀l∈els,l.length=sz)∧els.length=n∧∃cs:List Value,af ρ els.flatten cs∧cs.length=n*sz∧(Builtin.firstCells sz n v').run P w= .ok cs.toArray w:=by
 unfold bu at h;split at h
 ·rename_i m c;cases h;cases hv;have:=hn _ _ _ rfl;have fh:n=0:=by omega
  subst fh;exact⟨λl hl=>(by cases hl),rfl,[],.nil,by simp,by simp[Builtin.firstCells]⟩
 ·rename_i a m c;cases hv with| @slice a x off m c cap ad hx h1 h2 h3 h4 h5=>?_
  have Tr:=hn _ _ _ rfl;cases n with
  |zero=>cases h;exact⟨λl hl=>(by cases hl),rfl,[],.nil,by simp,by simp[Builtin.firstCells,mN]⟩
  |succ n=>
   have h:kA (s.h.get a) sz off (n+1)=some els:=h;have D8:ad=⟨x.b,x.base+off,none⟩:=by
    rcases h4 with h4|h4
    ·exact h4
    ·omega
   subst D8;obtain⟨hl,h4,cs,hcs,hlen,hg⟩:=lg hr hx h;refine⟨h4,hl,cs,hcs,hlen,?_⟩;have hrun:=run_loadCells_list (P:=P) w ⟨x.b,x.base+off,none⟩ cs (λj v hv=>by rw[cY];exact hg j v hv);rw[hlen]at hrun;simp only[Builtin.firstCells];exact hrun
 ·rename_i b;obtain⟨hsz,h⟩:=ae h;have hsz:=Nat.eq_of_beq_eq_true hsz;subst hsz;obtain⟨l,hl,h⟩:=U h;obtain⟨rfl,hle⟩:=yP _ _ _ hl;have he:=nZ h;subst he;cases hv;refine⟨λl hl=>?_,by simp at hle⊢;omega,_,yQ _,by simp at hle⊢;omega,?_⟩
  ·obtain⟨b,_,rfl⟩:=List.mem_map.1 hl;rfl
  ·simp only[Builtin.firstCells,Sem.run_pure];congr 1;apply Array.ext';rw[zy]
 ·cases h
theorem fA (a:Addr) (l2:List Value):∀(l1:List Value) (i:Nat) (w:World),(storeCells a (l1++l2) i).run P w=((storeCells a l1 i).run P w).andThen λ_ w'=>(storeCells a l2 (i+l1.length)).run P w'
 | [],i,w=>by simp[storeCells]
 |v::l1,i,w=>by
  simp only[List.cons_append,storeCells,Sem.run_bind];cases h:(store (a.add i) v).run P w with
  |ok x w'=>simp only[Result.andThen_ok];rw[fA a l2 l1 (i+1) w'];simp only[List.length_cons];rw[show i+1+l1.length=i+(l1.length+1) by omega]
  |halt e w'=>rfl
theorem jk (b o k:Nat):∀(l:List Value) (i:Nat),storeCells ⟨b,o,none⟩ l (k+i)=storeCells ⟨b,o+k,none⟩ l i
 | [],i=>rfl
 |v::l,i=>by simp only[storeCells,cY];rw[show k+i+1=k+(i+1) by omega,jk b o k l (i+1),Nat.add_assoc]
theorem fM {a:Nat} (hx:ρ a=some x):∀ {els:List (List Value)} {s s':AS} {w:World} {off:Nat} {us:List Value},Rel P ρ s w->gU sz a els s off=some s'->af ρ els.flatten us->(∀l∈els,l.length=sz)->
  ∃w',(storeCells ⟨x.b,x.base+off,none⟩ us).run P w= .ok () w'∧Rel P ρ s' w'∧aN ρ s w ρ s' w':=by
 intro els;induction els with
 |nil=>intro s s' w off us hr h hv _;cases h;cases hv;exact⟨w,rfl,hr,.refl _ _ _⟩
 |cons l els ih=>intro s s' w off us hr h hv hl;have h':ob (iH s a off l) (λs'=>gU sz a els s' (Nat.add off sz))=some s':=h;obtain⟨s1,h1,h2⟩:=U h';rw[List.flatten_cons]at hv;have hlen:=hl l (by simp);have PK:=hv.take l.length;have Ix:=hv.drop l.length;rw[List.take_left]at PK;rw[List.drop_left]at Ix;obtain⟨w1,N3,_,dn,dv⟩:=jN hr hx h1 PK;obtain⟨w2,I5,dO,fC⟩:=ih dn h2 Ix (λl G6=>hl l (by simp[G6]));refine⟨w2,?_,dO,dv.trans fC⟩;have e:us=us.take l.length++us.drop l.length:=(List.take_append_drop _ _).symm;rw[e,fA,N3,Result.andThen_ok,<-PK.length];have:=jk x.b (x.base+off) l.length (us.drop l.length) 0;rw[Nat.add_zero]at this;rw[Nat.zero_add,this,hlen];rw[hlen]at I5;have e4:x.base+off+sz=x.base+off.add sz:=Nat.add_assoc _ _ _;rw[e4];exact I5
theorem qR (z:List Value):∀(n:Nat) (els:List (List Value)),wa z n=some els->els=List.replicate n z:=by
 intro n;induction n with
 |zero=>intro els h;cases h;rfl
 |succ n ih=>intro els h;have h':ob (wa z n) (λr=>some (z::r))=some els:=h;obtain⟨r,hr,h'⟩:=U h';cases h';rw[ih _ hr];rfl
theorem my (z:List Value) (n:Nat):((Array.range (n*z.length)).map λi=>z.toArray[i%z.length]!).toList=(List.replicate n z).flatten:=by
 have hall:∀l∈List.replicate n z,l.length=z.length:= λl hl=>by rw[(List.mem_replicate.1 hl).2]
 apply List.ext_getElem?;intro j;rw[Array.toList_map,List.getElem?_map,Array.toList_range];by_cases hj:j<n*z.length
 ·have hz:0<z.length:=by
   rcases Nat.eq_zero_or_pos z.length with h|h
   ·rw[h]at hj;simp at hj
   ·exact h
  rw[List.getElem?_range hj];have hi:j/z.length<n:=Nat.div_lt_of_lt_mul (by rw[Nat.mul_comm];exact hj);have hm:=Nat.mod_lt j hz;have hg:=flat_get hall (i:=j/z.length) (l:=z) (by rw[List.getElem?_replicate,if_pos hi]) (j%z.length) hm;rw[show j/z.length*z.length+j%z.length=j by rw[Nat.mul_comm];exact Nat.div_add_mod j _]at hg;rw[hg];simp[getElem!_def,hm]
 ·rw[List.getElem?_eq_none (by simp;omega),List.getElem?_eq_none (by rw[gR hall];simp;omega)];rfl
theorem af.replicate {z u:List Value} (h:af ρ z u):∀n,af ρ (List.replicate n z).flatten (List.replicate n u).flatten
 |0=> .nil
 |n+1=>by rw[List.replicate_succ,List.replicate_succ,List.flatten_cons,List.flatten_cons];exact h.append (af.replicate h n)
end Go.Eng
end
noncomputable section
namespace Go.Eng
open Go
variable {s:AS} {old:Array Value} {k':Blk} {kk:IntKind} {ls:List (List Value)} {cs z:List Value} {x:Loc} {b cap n sz:Nat} {base:Option Addr} {P:Program} {ρ:Ren} {t:T (List Value)} {v v' x':Value} {w w':World}
def jS (P:Program) (ρ:Ren) (s:AS) (w:World) (m:Sem Value) (r:Value×AS):Prop:=
 ∃aj u w',m.run P w= .ok u w'∧ag aj r.1 u∧Rel P aj r.2 w'∧aN ρ s w aj r.2 w'
theorem dY {e:TypeId} (h:gP P e=some (sz,z)):∃i v,P.info? e=some i∧i.zero=some v∧z=v.cells.toList∧i.size=sz∧i.bytes<=1000000∧z.length=sz∧aK P e=some sz∧af ρ z z∧gf P e=some v:=by unfold gP at h;obtain⟨jn,hs,h⟩:=U h;obtain⟨z',hz,h⟩:=U h;obtain⟨b,hb,h⟩:=U h;obtain⟨h1,h⟩:=ae h;obtain⟨h2,h⟩:=ae h;cases h;obtain⟨v,hv,rfl⟩:=mu hz;obtain⟨_,i,hi,D9⟩:=iE hv;unfold aK at hs;unfold FO at hb;rw[hi]at hs hb;cases hs;cases hb;exact⟨i,v,hi,D9,rfl,rfl,Nat.le_of_ble_eq_true h1,by rw[<-aV];exact Nat.eq_of_beq_eq_true h2,by unfold aK;rw[hi];rfl,(fH hv).cells,hv⟩
theorem p7 {ts:Array TypeId} (h:wC P ts=true):ts[1]? =none∨∃t d,ts[1]? =some t∧P.underlying t=some d∧(∀k,d≠.int k):=by
 unfold wC at h;split at h
 ·rename_i ht;exact .inl ht
 ·rename_i t ht;split at h
  ·cases h
  ·rename_i d hne hd;exact .inr ⟨t,d,ht,hd,λk e=>hne k (e▸rfl)⟩
  ·cases h
section
variable {ts:Array TypeId} {t0 ty e:TypeId} {i:TypeInfo} {z:Value} {m:Nat} (w:World) (fk:ts[0]? =some t0) (hu:P.underlying t0=some (.slice e)) (hi:P.info? e=some i) (Ce:wC P ts=true) (hlen:(Builtin.lenOf x').run P w= .ok m w)
include fk hu hi Ce hlen
theorem lV {new:Array Value} (hf:(Builtin.firstCells i.size m x').run P w= .ok new w) (hle:n+m<=cap):
  (Builtin.append_ ts ty #[.slice base n cap,x']).run P w=(match base with
   |none=> .ok (.slice none (n+m) cap) w
   |some a=>((storeCells (a.add (n*i.size)) new.toList).run P w).andThen λ_ w'=> .ok (.slice (some a) (n+m) cap) w'):=by
 have h0:(#[Value.slice base n cap,x']:Array Value)[0]? =some (.slice base n cap):=rfl;have h1:(#[Value.slice base n cap,x']:Array Value)[1]? =some x':=rfl;unfold Builtin.append_;rcases p7 Ce with uf|⟨t1,d,uf,hd,hne⟩
 ·simp only[fk,uf,h0,h1,Sem.run_bind,run_underlying hu,Result.andThen_ok,sizeOf,typeInfo,hi,run_program,Sem.run_pure,Bool.false_eq_true,if_false,hlen,Bool.not_false,if_true,if_pos hle,hf];cases base<;>simp
 ·cases d<;>first
   |exact(hne _ rfl).elim
   |(simp only[fk,uf,h0,h1,Sem.run_bind,run_underlying hu,run_underlying hd,Result.andThen_ok,sizeOf,typeInfo,hi,run_program,Sem.run_pure,Bool.false_eq_true,if_false,hlen,Bool.not_false,if_true,if_pos hle,hf];cases base<;>simp)
theorem tJ {z:Value} {new:Array Value} (OW:i.zero=some z) (z6:(Builtin.firstCells i.size n (.slice base n cap)).run P w.drew= .ok old w.drew) (hf:(Builtin.firstCells i.size m x').run P w.drew= .ok new w.drew) (hle:cap<n+m) (hm:n+m<=1000000) (hb:i.bytes<=1000000):
  (Builtin.append_ ts ty #[.slice base n cap,x']).run P w= .ok (.slice (some ⟨w.heap.size,0,none⟩) (n+m) (grownCap w (n+m) cap e))
   (w.drew.alloc (.cells (old++new++Builtin.zeroCells z.cells (grownCap w (n+m) cap e-(n+m))) e)):=by
 have h0:(#[Value.slice base n cap,x']:Array Value)[0]? =some (.slice base n cap):=rfl;have h1:(#[Value.slice base n cap,x']:Array Value)[1]? =some x':=rfl;have hn:¬(n+m<=cap):=by omega
 have QS:¬(9223372036854775807<((n+m:Nat):Int)):=by omega
 have hmul:(n+m)*i.bytes<=1000000*1000000:=Nat.mul_le_mul hm hb;have PL:=growslice_fits (bytes:=i.bytes) hle (by omega);have HA:¬(Builtin.nextslicecap (n+m) cap*i.bytes>2^48):=by simpa using PL
 have Ew:IntKind.i64.max=9223372036854775807:=rfl;have HB:¬(((n+m:Nat):Int)>IntKind.i64.max):=by rw[Ew];exact QS
 have BY:({w with drawn:=w.drawn+1}:World)=w.drew:=rfl;unfold Builtin.append_;rcases p7 Ce with uf|⟨t1,d,uf,hd,hne⟩
 ·simp only[fk,uf,h0,h1,Sem.run_bind,run_underlying hu,Result.andThen_ok,sizeOf,typeInfo,hi,run_program,Sem.run_pure,Bool.false_eq_true,if_false,hlen,Bool.not_false,if_true,if_neg hn,Bool.not_true,
   HB,false_and,HA,run_choose,Question.forced,run_askRoom,BY,z6,hf,zeroValue,OW,newRow,run_newObj_alloc]
  rfl
 ·cases d<;>first
   |exact(hne _ rfl).elim
   |(simp only[fk,uf,h0,h1,Sem.run_bind,run_underlying hu,run_underlying hd,Result.andThen_ok,sizeOf,typeInfo,hi,run_program,Sem.run_pure,Bool.false_eq_true,if_false,hlen,Bool.not_false,if_true,if_neg hn,Bool.not_true,
     HB,false_and,HA,run_choose,Question.forced,run_askRoom,BY,z6,hf,zeroValue,OW,newRow,run_newObj_alloc];rfl)
end
theorem zA {ts:Array TypeId} (h:AL P ts=true):∃t k,ts[1]? =some t∧P.underlying t=some (.int k):=by
 unfold AL at h;split at h
 ·cases h
 ·rename_i t ht;split at h
  ·rename_i k hk;exact⟨t,k,ht,hk⟩
  ·cases h
theorem qy {ts:Array TypeId} {t0 t1 ty e:TypeId} {i:TypeInfo} {z:Value} {m:Nat} (w:World) (fk:ts[0]? =some t0) (hu:P.underlying t0=some (.slice e)) (hi:P.info? e=some i) (uf:ts[1]? =some t1) (hd:P.underlying t1=some (.int kk)) (OW:i.zero=some z) (z6:(Builtin.firstCells i.size n (.slice base n cap)).run P w.drew= .ok old w.drew) (LF:0<m*i.size) (hle:cap<n+m) (hm:n+m<=1000000) (hb:i.bytes<=1000000):
  (Builtin.append_ ts ty #[.slice base n cap,.int .i64 (m:Int)]).run P w= .ok (.slice (some ⟨w.heap.size,0,none⟩) (n+m) (grownCap w (n+m) cap e))
   (w.drew.alloc (.cells (old++Builtin.zeroCells z.cells m++Builtin.zeroCells z.cells (grownCap w (n+m) cap e-(n+m))) e)):=by
 have h0:(#[Value.slice base n cap,.int .i64 (m:Int)]:Array Value)[0]? =some (.slice base n cap):=rfl;have h1:(#[Value.slice base n cap,.int .i64 (m:Int)]:Array Value)[1]? =some (.int .i64 (m:Int)):=rfl;have hn:¬(n+m<=cap):=by omega
 have hmul:(n+m)*i.bytes<=1000000*1000000:=Nat.mul_le_mul hm hb;have PL:=growslice_fits (bytes:=i.bytes) hle (by omega);have HA:¬(Builtin.nextslicecap (n+m) cap*i.bytes>2^48):=by simpa using PL
 have Ew:IntKind.i64.max=9223372036854775807:=rfl;have HB:¬(((n+m:Nat):Int)>IntKind.i64.max):=by rw[Ew];omega
 have BY:({w with drawn:=w.drawn+1}:World)=w.drew:=rfl;have N4:IntKind.i64.wrap (m:Int)=(m:Int):=by
  have:(m:Int)<9223372036854775808:=by omega
  unfold IntKind.wrap;simp[IntKind.signed,IntKind.bits];omega
 have QT:¬((m:Int)<0):=by omega
 have GP:m*i.bytes<=1000000*1000000:=Nat.mul_le_mul (by omega) hb;have Ex:¬((m:Int)*(i.bytes:Int)>2^48):=by
  have:(m:Int)*(i.bytes:Int)=((m*i.bytes:Nat):Int):=by simp
  rw[this];omega
 have PM:¬(m*i.size=0):=by omega
 have L9:(m:Int).toNat=m:=by simp
 have Ts:(asInt (.int .i64 (m:Int))).run P w= .ok (m:Int) w:=rfl;unfold Builtin.append_;simp only[fk,uf,h0,h1,Sem.run_bind,run_underlying hu,run_underlying hd,Result.andThen_ok,sizeOf,typeInfo,hi,run_program,Sem.run_pure,if_true,Ts,N4,QT,if_false,Ex,L9,Bool.not_true,Bool.false_eq_true,PM,if_neg hn,
  HB,false_and,HA,run_choose,Question.forced,run_askRoom,BY,z6,zeroValue,OW,newRow,run_newObj_alloc]
 rfl
theorem rZ {c:Nat} (h:ag ρ (.slice base n c) x'):∃vb cap,x'= .slice vb n cap∧eO base c<=cap∧n<=eO base c∧(jR base c=true->cap=eO base c):=by
 cases h with
 |bc=>exact⟨none,0,rfl,Nat.le_refl _,Nat.le_refl _,λ_=>rfl⟩
 |slice off n c cap ad hx h1 h2 h3 h4 h5=>exact⟨some ad,cap,rfl,h2,h1,λh=>h3 (Nat.eq_of_beq_eq_true h)⟩
theorem grownCap_le (w:World) {need:Nat} (old:Nat) (e:TypeId):need<=grownCap w need old e:=by show need<=need+_%_;omega
theorem vw (w:World) (h:lenOf v=some n) (hv:ag ρ v v'):(Builtin.lenOf v').run P w= .ok n w∧∀b m c,v= .slice b m c->n<=m:=by
 unfold lenOf at h;split at h
 ·cases h;obtain⟨b,c,rfl,_⟩:=rZ hv;exact⟨rfl,λb m c e=>by cases e;exact Nat.le_refl _⟩
 ·cases h;cases hv;refine⟨?_,λb m c e=>by cases e⟩;rw[aV];rfl
 ·cases h
theorem hK (z:Array Value) (n:Nat):(Builtin.zeroCells z n).toList=(List.replicate n z.toList).flatten:=by have:=my z.toList n;unfold Builtin.zeroCells;simpa using this
theorem sa (h:Rel P ρ s w):Rel P ρ s w.drew:=h.of_heap rfl
theorem DA {base:Nat} (ht:∀i,t.get i=ls[i]?) (hl:∀l∈ls,l.length=sz) (hn:ls.length=n) (hc:af ρ ls.flatten cs) (hg:∀(j:Nat) (u:Value),cs[j]? =some u->w.cell? ⟨b,base+j,none⟩=some u):
  ∀i l,t.get i=some l->i<n∧l.length=sz∧∀(j:Nat) (v:Value),l[j]? =some v->∃u,w.cell? ⟨b,base+(i*sz+j),none⟩=some u∧ag ρ v u:=by
 intro i l mP;rw[ht i]at mP;refine⟨by rw[<-hn];exact(List.getElem?_eq_some_iff.1 mP).1,hl l (List.mem_of_getElem? mP),λj v hv=>?_⟩;have hj:j<sz:=by rw[<-hl l (List.mem_of_getElem? mP)];exact(List.getElem?_eq_some_iff.1 hv).1
 have hf:=flat_get hl mP j hj;rw[hv]at hf;obtain⟨u,mO,eR⟩:=hc.get hf;exact⟨u,hg _ _ mO,eR⟩
theorem Rel.again {s1 s2:AS} {a:Nat} {k:Blk} {y:Loc} (hr:Rel P ρ s w) (hs:s.set a none=some s1) (hs2:s1.new k'=some s2) (hk:s.h.get a=some k) (hro:eo k=false) (hx:ρ a=some x) (hy:y.b=x.b) (hsz:w'.heap.size=w.heap.size) (hold:∀b,b≠x.b->w'.heap[b]? =w.heap[b]?) (ht:w'.tape=w.tape) (ho:w'.os=w.os) (hu:w'.output=w.output) (hb:cj P (ρ.put s.nx y) y w' k') (hlk:kv k=false):
  Rel P (ρ.put s.nx y) s2 w'∧aN ρ s w (ρ.put s.nx y) s2 w':=by
 obtain⟨hnx,hg⟩:=AS.cP hs;obtain⟨Vw,hg2⟩:=AS.eg hs2;have halt:a<s.nx:=by
  rcases Nat.lt_or_ge a s.nx with h|h
  ·exact h
  ·rw[hr.eu a h]at hx;cases hx
 have hlt:=(hr.blk a k x hk hx).1;have hne:∀a' k2 x2,a'≠a->s.h.get a'=some k2->ρ a'=some x2->x2.b≠x.b:= λa' k2 x2 h e r cz=>by have:=(hr.aX a' a k2 k x2 x h e hk r hx cz).2;rw[hro]at this;cases this
 have hle:aG ρ (ρ.put s.nx y):= λb z e=>by
  unfold Ren.put;by_cases ha:b=s.nx
  ·rw[ha,hr.eu _ (Nat.le_refl _)]at e;cases e
  ·rw[if_neg ha];exact e
 have bC:∀b,b≠s.nx->(ρ.put s.nx y) b=ρ b:= λa ha=>by unfold Ren.put;rw[if_neg ha]
 have gn:∀ {b k2},s2.h.get b=some k2->(b=s.nx∧k2=k')∨(b≠s.nx∧b≠a∧s.h.get b=some k2):= λ {b k2} e=>by
  rw[hg2,hnx]at e;by_cases hb:b=s.nx
  ·rw[if_pos hb]at e;cases e;exact .inl ⟨hb,rfl⟩
  ·rw[if_neg hb,hg]at e;by_cases ha:b=a
   ·rw[if_pos ha]at e;cases e
   ·rw[if_neg ha]at e;exact .inr ⟨hb,ha,e⟩
 have ym:s2.lim=s.lim:=(AS.iz hs2).trans (AS.aS hs).1;refine(λ(hS:aN ρ s w (ρ.put s.nx y) s2 w')=>⟨⟨λb cz=>?_,λb cz=>?_,λb k2 z e e'=>?_,by rw[ym];have:=hr.lim;omega,λb b' k1 k2 x1 x2 cL e1 e2 r1 r2 kg=>?_,hr.gl.of hS.size hS.frame⟩,hS⟩) ⟨λb cz=>?_,by omega,ht,ho,hu,by omega,λb cz hn=>?_,λb cz hn=>?_,λb r cz=>?_,ym,λb cz=>by rw[hg2,hnx,if_neg (by have:=hr.lim;omega),AS.qQ hs b cz],λb k2 z hl _ zY _ hz=>hold _ (hne b k2 z (by have:=(AS.aS hs).2;omega) zY hz)⟩
 ·rw[bC b (by omega)]
 ·have iO:b≠x.b:= λe=>hn ⟨a,k,x,hk,hx,e.symm⟩;refine⟨hold b iO,?_⟩;rintro⟨c,k2,z,e,e',rfl⟩;rcases gn e with ⟨rfl,rfl⟩|⟨h1,h2,h3⟩
  ·rw[bE]at e';cases e';exact iO hy
  ·rw[bC c h1]at e';exact hn ⟨c,k2,z,h3,e',rfl⟩
 ·exact .inl (by rw[hg2,hnx,if_neg (by omega),hg,if_neg (λe=>by rw[e,hx]at hn;cases hn)])
 ·by_cases iO:b=x.b
  ·subst iO;have:=oW cz (hr.blk a k x hk hx).2;rw[hlk]at this;cases this
  ·exact⟨r,by rw[hold b iO];exact cz⟩
 ·rw[bC b (by omega)];exact hr.eu b (by omega)
 ·rw[hg2,hnx,if_neg (by omega),hg,if_neg (by omega)];exact hr.top b (by omega)
 ·rcases gn e with ⟨rfl,rfl⟩|⟨h1,h2,h3⟩
  ·rw[bE]at e';cases e';exact⟨by rw[hy];omega,hb⟩
  ·rw[bC b h1]at e';obtain⟨q1,q2⟩:=hr.blk b k2 z h3 e';exact⟨by omega,(q2.congr (hold _ (hne b k2 z h2 h3 e'))).mono hle⟩
 ·rcases gn e1 with ⟨rfl,rfl⟩|⟨h1,h2,h3⟩
  ·rcases gn e2 with ⟨rfl,rfl⟩|⟨h1,h2,h3⟩
   ·exact(cL rfl).elim
   ·rw[bE]at r1;cases r1;rw[bC b' h1]at r2;exact(hne b' k2 x2 h2 h3 r2 (by rw[<-kg,hy])).elim
  ·rw[bC b h1]at r1;rcases gn e2 with ⟨rfl,rfl⟩|⟨h4,h5,h6⟩
   ·rw[bE]at r2;cases r2;exact(hne b k1 x1 h2 h3 r1 (by rw[kg,hy])).elim
   ·rw[bC b' h4]at r2;exact hr.aX b b' k1 k2 x1 x2 cL h3 h6 r1 r2 kg
end Go.Eng
end
noncomputable section
namespace Go.Eng
open Go
variable {s:AS} {kk:IntKind} {els:List (List Value)} {cs l l' z:List Value} {x:Loc} {cap hi i n off sz:Nat} {P:Program} {ρ aj:Ren} {t:T (List Value)} {u:Value} {r:Value×AS} {w w':World}
theorem px {c a:Nat} (hr:Rel P ρ s w) (hx:ρ a=some x) (h:bu s sz (.slice (some ⟨a,off,none⟩) n c) n=some els):
  (∀l∈els,l.length=sz)∧els.length=n∧∃cs,af ρ els.flatten cs∧cs.length=n*sz∧∀(j:Nat) (u:Value),cs[j]? =some u->w.cell? ⟨x.b,x.base+off+j,none⟩=some u:=by
 cases n with
 |zero=>cases h;exact⟨λl hl=>(by cases hl),rfl,[],.nil,by simp,λj u h=>by simp at h⟩
 |succ n=>have h:kA (s.h.get a) sz off (n+1)=some els:=h;obtain⟨hl,h4,r⟩:=lg hr hx h;exact⟨h4,hl,r⟩
theorem af.two {a b:Value} (h:af ρ [a,b] l):∃a' b',l= [a',b']∧ag ρ a a'∧ag ρ b b':=by
 cases h with
 |cons h1 h=>
  cases h with
  |cons h2 h=>cases h;exact⟨_,_,rfl,h1,h2⟩
theorem af.wh {a:Value} (h:af ρ [a] l):∃a',l= [a']∧ag ρ a a':=by
 cases h with
 |cons h1 h=>cases h;exact⟨_,rfl,h1⟩
theorem uB:∀ {l:List (List Value)},eC l=true->∀v∈l.flatten,cF v=true:=by
 intro l;induction l with
 |nil=>intro _ v hv;simp at hv
 |cons a l ih=>
  intro h v hv;have h':ab (kz a) (eC l) false=true:=h;rw[ah]at h';split at h'
  ·rename_i ha;rw[List.flatten_cons,List.mem_append]at hv;rcases hv with hv|hv
   ·exact nX ha v hv
   ·exact ih h' v hv
  ·cases h'
theorem sS {et:TypeId} (h:gJ s et sz els n=some r):
  sz<256∧els.length=n∧(∀l∈els,l.length=sz)∧∃t s',vY els 0 .e=some t∧s.new (.cells t sz n false et)=some s'∧r=(.slice (some ⟨s.nx,0,none⟩) n (codeLB n sz),s'):=by
 unfold gJ at h;replace h:=ae h;obtain⟨hsz,h⟩:=h;unfold jv at h;replace h:=ae h;obtain⟨hn,h⟩:=h;replace h:=ae h;obtain⟨hl,h⟩:=h;replace h:=ay h;obtain⟨t,x4,h⟩:=h;rw[ak]at h;replace h:=ay h;obtain⟨s1,gZ,h⟩:=h;exact⟨Nat.le_of_ble_eq_true hsz,by rw[<-aV];exact Nat.eq_of_beq_eq_true hn,fX hl,t,s1,x4,gZ,jc h⟩
def rN (s:AS) (et:TypeId) (sz:Nat) (els:List (List Value)) (n:Nat) (r:Value×AS):Prop:=
 sz<256∧els.length=n∧(∀l∈els,l.length=sz)∧∃t s',(∀i,t.get i=els[i]?)∧s.new (.cells t sz n false et)=some s'∧r=(.slice (some ⟨s.nx,0,none⟩) n (codeLB n sz),s')
theorem vy {et:TypeId} (h:gJ s et sz els n=some r):rN s et sz els n r:=by obtain⟨a,b,c,t,s',h1,h2,h3⟩:=sS h;exact⟨a,b,c,t,s',vr h1,h2,h3⟩
theorem xI {et:TypeId} {lo:Nat} {rest:List Value} (hr:Rel P ρ s w) (h:rN s et sz els n r) (hc:af ρ els.flatten cs) (pQ:n<=cap) (I4:cs.length+rest.length=cap*sz) (zZ:∀o,lo<=o->o<hi->cs.length+rest.length<=o∧P.underlying et=some (.int .u8)) (hh:w'.heap=w.heap.push (.cells (cs++rest).toArray et (lo,hi))) (ht:w'.tape=w.tape) (ho:w'.os=w.os) (hu:w'.output=w.output):
  ∃aj,ag aj r.1 (.slice (some ⟨w.heap.size,0,none⟩) n cap)∧Rel P aj r.2 w'∧aN ρ s w aj r.2 w':=by
 obtain⟨hsz,hn,hl,t,s1,x4,gZ,rfl⟩:=h;have hle:=iM (hr.eu _ (Nat.le_refl _)) ⟨w.heap.size,0,cs.length+rest.length,[]⟩;obtain⟨hR,hS⟩:=Rel.alloc hr gZ rfl (by rw[hh];simp) (λb hb=>by rw[hh];simp[Array.getElem?_push,Nat.ne_of_lt hb]) ht ho hu (vt x4 hl hn (hc.mono hle) zZ hh);refine⟨_,?_,hR,hS⟩;have e:(⟨w.heap.size,0,none⟩:Addr)=⟨(⟨w.heap.size,0,cs.length+rest.length,[]⟩:Loc).b,(⟨w.heap.size,0,cs.length+rest.length,[]⟩:Loc).base+0,none⟩:=rfl;refine .slice 0 n (codeLB n sz) cap _ (bE _ _ _) (by rw[cU hsz];exact Nat.le_refl _) (by rw[cU hsz];exact pQ) (λh=>by rw[gW]at h;cases h) (.inl e) (λ_=>?_);rw[jd hsz];show 0+0+cap*sz<=cs.length+rest.length;omega
def dJ:T (List Value)->List Nat
 | .e=> []
 | .n v l r=>(match v with|some _=> [0]|none=> [])++(dJ l).map (λm=>2*m+1)++(dJ r).map (λm=>2*m+2)
theorem oZ:∀c:T (List Value),(dJ c).length=CR c
 | .e=>rfl
 | .n v l r=>by have h:CR (.n v l r)=Option.rec (motive:= λ_=>Nat) 0 (λ_=>1) v+(CR l+CR r):=rfl;rw[h,<-oZ l,<-oZ r];cases v<;>simp[dJ]<;>omega
theorem lC:∀(c:T (List Value)) (i:Nat),i∈dJ c↔ ∃l,c.get i=some l
 | .e,i=>by simp[dJ,T.get_e]
 | .n v l r,i=>by
  have e:i∈dJ (.n v l r)↔(i=0∧v.isSome=true)∨(∃m,m∈dJ l∧2*m+1=i)∨∃m,m∈dJ r∧2*m+2=i:=by cases v<;>simp[dJ]
  rw[e];rcases bb i with rfl|⟨m,rfl⟩|⟨m,rfl⟩
  ·rw[T.dM];constructor
   ·rintro(⟨_,h⟩|⟨m,_,h⟩|⟨m,_,h⟩)
    ·exact Option.isSome_iff_exists.1 h
    ·omega
    ·omega
   ·exactλh=> .inl ⟨rfl,Option.isSome_iff_exists.2 h⟩
  ·rw[T.bO,<-lC l m];constructor
   ·rintro(⟨h,_⟩|⟨m',h,he⟩|⟨m',_,he⟩)
    ·omega
    ·have:m'=m:=by omega
     rw[<-this];exact h
    ·omega
   ·exactλh=> .inr (.inl ⟨m,h,rfl⟩)
  ·rw[T.bh,<-lC r m];constructor
   ·rintro(⟨h,_⟩|⟨m',_,he⟩|⟨m',h,he⟩)
    ·omega
    ·omega
    ·have:m'=m:=by omega
     rw[<-this];exact h
   ·exactλh=> .inr (.inr ⟨m,h,rfl⟩)
theorem kS:∀c:T (List Value),(dJ c).Nodup
 | .e=> .nil
 | .n v l r=>by
  have h1:((dJ l).map (λm=>2*m+1)).Nodup:=List.Pairwise.map _ (λa b h=>by omega) (kS l);have h2:((dJ r).map (λm=>2*m+2)).Nodup:=List.Pairwise.map _ (λa b h=>by omega) (kS r);have h3:((dJ l).map (λm=>2*m+1)++(dJ r).map (λm=>2*m+2)).Nodup:=by refine List.nodup_append.2 ⟨h1,h2,λa ha b hb=>?_⟩;obtain⟨x,_,rfl⟩:=List.mem_map.1 ha;obtain⟨y,_,rfl⟩:=List.mem_map.1 hb;omega
  cases v with
  |none=>simpa[dJ]using h3
  |some v=>
   have e:dJ (.n (some v) l r)=0::((dJ l).map (λm=>2*m+1)++(dJ r).map (λm=>2*m+2)):=by simp[dJ]
   rw[e];refine List.nodup_cons.2 ⟨λh=>?_,h3⟩;rcases List.mem_append.1 h with h|h
   ·obtain⟨x,_,hx⟩:=List.mem_map.1 h;omega
   ·obtain⟨x,_,hx⟩:=List.mem_map.1 h;omega
theorem oc:∀(n:Nat) (l:List Nat),l.Nodup->(∀x∈l,x<n)->l.length<=n
 |0,[],_,_=>Nat.le_refl _
 |0,x::l,_,h=>absurd (h x (by simp)) (Nat.not_lt_zero _)
 |n+1,l,hn,h=>by
  have h1:=oc n (l.erase n) (hn.erase n) (λx hx=>by
   have:=(hn.mem_erase_iff).1 hx;have:=h x this.2;have:x≠n:=by have:=(hn.mem_erase_iff).1 hx;exact this.1
   omega)
  have h2:l.length<=(l.erase n).length+1:=by
   by_cases hm:n∈l
   ·rw[List.length_erase_of_mem hm];omega
   ·rw[List.erase_of_not_mem hm];omega
  omega
theorem DB {c:T (List Value)} (h:CR c=n) (hb:∀i l,c.get i=some l->i<n) (i:Nat) (hi:i<n):∃l,c.get i=some l:=by
 rw[<-lC];refine Classical.byContradiction λCe=>?_;have hlt:∀x∈i::dJ c,x<n:= λx hx=>by
  rcases List.mem_cons.1 hx with rfl|hx
  ·exact hi
  ·obtain⟨l,hl⟩:=(lC c x).1 hx;exact hb x l hl
 have:=oc n (i::dJ c) (List.nodup_cons.2 ⟨Ce,kS c⟩) hlt;rw[List.length_cons,oZ,h]at this;omega
theorem sT {c:T (List Value)}:∀(n i:Nat),(∀j,i<=j->j<i+n->∃l,c.get j=some l)->∃els,elems c n i=some els
 |0,i,_=>⟨[],rfl⟩
 |n+1,i,h=>by obtain⟨l,hl⟩:=h i (Nat.le_refl _) (by omega);obtain⟨els,he⟩:=sT n (i+1) (λj h1 h2=>h j (by omega) (by omega));refine⟨l::els,?_⟩;show Option.rec (motive:= λ_=>Option (List (List Value))) none (λl=>Option.rec (motive:= λ_=>Option (List (List Value))) none (λr=>some (l::r)) (elems c n (Nat.succ i))) (c.get i)=_;rw[hl];show Option.rec (motive:= λ_=>Option (List (List Value))) none (λr=>some (l::r)) (elems c n (Nat.succ i))=_;rw[he]
theorem qA {et:TypeId} {m c:Nat} {a:Addr} (hr:Rel P ρ s w) (hx:ρ a.block=some x) (iP:a.spot=none) (h:gV s et sz m els (some a) n c=some r):
  jR (some a) c=false∧eC els=true∧Nat.beq (yu c) sz=true∧a.off=0∧∃cc s1 old,s.h.get a.block=some (.cells cc sz n false et)∧s.set a.block none=some s1∧bu s sz (.slice (some a) n c) n=some old∧rN s1 et sz (old++els) (n+m) r:=by
 unfold gV at h;replace h:=bj h;obtain⟨hex,h⟩:=h;replace h:=ae h;obtain⟨hcs,h⟩:=h;replace h:=ae h;obtain⟨mV,h⟩:=h;replace h:=bj h;obtain⟨hz,h⟩:=h;replace h:=ae h;obtain⟨QU,h⟩:=h;replace h:=bP h;obtain⟨cc,jn,cnt,ro,uT,hb,h⟩:=h;replace h:=bj h;obtain⟨hro,h⟩:=h;replace h:=ae h;obtain⟨G7,h⟩:=h;replace h:=ae h;obtain⟨het,h⟩:=h;replace h:=ae h;obtain⟨Jv,h⟩:=h;replace h:=ae h;obtain⟨PN,h⟩:=h;replace h:=ae h;obtain⟨lT,h⟩:=h;replace h:=ae h;obtain⟨OX,h⟩:=h;replace h:=ae h;obtain⟨PO,h⟩:=h;replace h:=U h;obtain⟨t,ht,h⟩:=h;replace h:=U h;obtain⟨s1,gZ,h⟩:=h;rw[ak]at h;replace h:=U h;obtain⟨s2,hs2,h⟩:=h;replace G7:=Nat.eq_of_beq_eq_true G7;replace het:=Nat.eq_of_beq_eq_true het;replace Jv:=Nat.eq_of_beq_eq_true Jv;replace PN:=Nat.eq_of_beq_eq_true PN;replace mV:=Nat.eq_of_beq_eq_true mV;have PO:els.length=m:=by rw[<-aV];exact Nat.eq_of_beq_eq_true PO
 subst G7 het Jv hro;obtain⟨_,hC⟩:=hr.blk a.block _ x hb hx;have hC:aH P ρ x w cc sz cnt false et:=hC;have hlt:∀i l,cc.get i=some l->i<cnt:= λi l e=>(hC.cell i l e).1;have N5:=DB PN hlt;obtain⟨old,hold⟩:=sT (c:=cc) cnt 0 (λj _ h2=>N5 j (by omega));obtain⟨OY,Aq⟩:=oY cnt 0 old hold;have QV:∀j,j<cnt->cc.get j=old[j]?:= λj hj=>by
  have Ma:j<old.length:=by rw[OY];exact hj
  have:=Aq j old[j] (by simp[Ma]);rw[Nat.zero_add]at this;rw[this];simp[Ma]
 refine⟨hex,lT,hcs,mV,cc,s1,old,hb,gZ,?_,?_⟩
 ·have PQ:Nat.beq sz 0=false:=hz;cases cnt with
  |zero=>have:old= []:=List.length_eq_zero_iff.1 OY;rw[this];rfl
  |succ k=>show kA (s.h.get a.block) sz a.off (k+1)=some old;rw[hb];show ab (Nat.beq sz 0) none (ab (Nat.beq sz sz) (ab (Nat.beq (Nat.mod a.off sz) 0) (elems cc (k+1) (Nat.div a.off sz)) none) _)=some old;have hm:Nat.mod 0 sz=0:=Nat.zero_mod sz;have hd:Nat.div 0 sz=0:=Nat.zero_div sz;rw[PQ,bX,show Nat.beq sz sz=true from Nat.beq_refl sz,bG,mV,hm,hd,show Nat.beq 0 0=true from rfl,bG];exact hold
 ·refine⟨Nat.le_of_ble_eq_true QU,by rw[List.length_append,OY,PO],λl hl=>?_,t,s2,λi=>?_,hs2,?_⟩
  ·rcases List.mem_append.1 hl with hl|hl
   ·obtain⟨j,hj,rfl⟩:=List.mem_iff_getElem.1 hl;have:=Aq j old[j] (by simp[hj]);rw[Nat.zero_add]at this;exact(hC.cell _ _ this).2.1
   ·exact fX OX l hl
  ·rw[rY _ _ _ _ ht i];by_cases hc:cnt<=i∧i<cnt+els.length
   ·rw[if_pos hc,List.getElem?_append_right (by omega),OY]
   ·rw[if_neg hc];by_cases hi:i<cnt
    ·rw[List.getElem?_append_left (by omega)];exact QV i hi
    ·rw[List.getElem?_append_right (by omega),List.getElem?_eq_none (by omega)];cases e:cc.get i with
     |none=>rfl
     |some l=>have:=hlt i l e;omega
  ·exact jc h
theorem aH.ro {c sz n ro et} (h:aH P ρ x w c sz n ro et):aH P ρ x w c sz n true et:=⟨h.cell,h.all,λe=>(by cases e),h.shape,h.mult⟩
theorem vz {s1 s2:AS} {nm cd m:Nat} {et:TypeId} {cc:T (List Value)} (Ap:Rel P ρ s w) (hx:ρ i=some x) (hb:s.h.get i=some (.cells cc sz m false et)) (gZ:s.set i none=some s1) (hnew:s1.new (.cells t sz nm false et)=some s2) (hR:Rel P aj s2 w') (hS:aN ρ s w aj s2 w') (hC:aH P ρ x w' cc sz m false et) (Tt:x.b<w'.heap.size) (hv:ag aj (.slice (some ⟨s1.nx,0,none⟩) nm cd) u) (h:rT i cc sz m et (.slice (some ⟨s1.nx,0,none⟩) nm cd,s2)=some r):ag aj r.1 u∧Rel P aj r.2 w'∧aN ρ s w aj r.2 w':=by
 have h:(dV (s2.h.get s1.nx) λPy Pz m2 _ OO=>ob (s2.set s1.nx (some (.cells Py Pz m2 true OO))) λs3=>ob (s3.set i (some (.cells cc sz m true et))) λs4=>some ((.slice (some ⟨s1.nx,0,none⟩) nm cd:Value),s4))=some r:=h;obtain⟨VE,z7⟩:=AS.cP gZ;obtain⟨Sl,hg2⟩:=AS.eg hnew;obtain⟨Iz,VG⟩:=AS.aS gZ;have ym:=AS.iz hnew;have yC:s2.h.get s1.nx=some (.cells t sz nm false et):=by rw[hg2,if_pos rfl]
 rw[yC]at h;have h:(ob (s2.set s1.nx (some (.cells t sz nm true et))) λs3=>ob (s3.set i (some (.cells cc sz m true et))) λs4=>some ((.slice (some ⟨s1.nx,0,none⟩) nm cd:Value),s4))=some r:=h;replace h:=U h;obtain⟨s3,hs3,h⟩:=h;replace h:=U h;obtain⟨s4,Sm,h⟩:=h;cases h;obtain⟨Jw,OZ⟩:=AS.cP hs3;obtain⟨Tu,O0⟩:=AS.cP Sm;have Sn:=(AS.aS hs3).1;have Sq:=(AS.aS Sm).1;have QW:i<s.nx:=Nat.lt_of_not_le λhle=>by rw[Ap.eu i hle]at hx;cases hx
 have Vx:i≠s1.nx:=by omega
 have fm:aj i=some x:=by rw[hS.jY i QW];exact hx
 have hle:=hS.le Ap;have gn:∀ {j k},s4.h.get j=some k->(j=i∧k= .cells cc sz m true et)∨(j=s1.nx∧k= .cells t sz nm true et)∨(j≠i∧j≠s1.nx∧s2.h.get j=some k∧s.h.get j=some k):= λ {j k} e=>by
  rw[O0]at e;by_cases h1:j=i
  ·rw[if_pos h1]at e;cases e;exact .inl ⟨h1,rfl⟩
  ·rw[if_neg h1,OZ]at e;by_cases h2:j=s1.nx
   ·rw[if_pos h2]at e;cases e;exact .inr (.inl ⟨h2,rfl⟩)
   ·rw[if_neg h2]at e;refine .inr (.inr ⟨h1,h2,e,?_⟩);rw[hg2,if_neg h2,z7,if_neg h1]at e;exact e
 have other:∀ {j k z},j≠i->j≠s1.nx->s.h.get j=some k->aj j=some z->z.b≠x.b:= λ {j k z} h1 h2 e e' hz=>by
  have hj:j<s.nx:=Nat.lt_of_not_le λhle=>by rw[Ap.top j hle]at e;cases e
  rw[hS.jY j hj]at e';have:=(Ap.aX j i k _ z x h1 e hb e' hx hz).2;cases this
 show ag aj (.slice (some ⟨s1.nx,0,none⟩) nm cd) u∧Rel P aj s4 w'∧aN ρ s w aj s4 w';refine(λ(aZ:aN ρ s w aj s4 w')=>⟨hv,⟨λa ha=>hR.eu a (by omega),λa ha=>?_,λa k z e e'=>?_,by rw[Sq,Sn,Tu,Jw];exact hR.lim,λa a' k k' z z' hne e1 e2 r1 r2 kg=>?_,Ap.gl.of aZ.size aZ.frame⟩,aZ⟩) ⟨hS.jY,by have:=hS.nx;omega,hS.tape,hS.os,hS.out,hS.size,λb cz hn=>?_,λa ha hn=>?_,hS.lp,by rw[Sq,Sn];exact hS.lim,λa ha=>?_,hS.gD⟩
 ·obtain⟨q1,q2⟩:=hS.frame b cz hn;refine⟨q1,?_⟩;rintro⟨a,k,z,e,e',rfl⟩;rcases gn e with ⟨rfl,rfl⟩|⟨rfl,rfl⟩|⟨_,_,h2,_⟩
  ·rw[fm]at e';cases e';exact hn ⟨a,_,x,hb,hx,rfl⟩
  ·exact q2 ⟨_,_,z,yC,e',rfl⟩
  ·exact q2 ⟨a,k,z,h2,e',rfl⟩
 ·have h1:a≠i:= λe=>by rw[e,hx]at hn;cases hn
  rw[O0,if_neg h1,OZ,if_neg (by omega)];exact hS.ph a ha hn
 ·have:=Ap.lim;rw[O0,if_neg (by omega),OZ,if_neg (by omega)];exact hS.low a ha
 ·rw[O0,if_neg (by omega),OZ,if_neg (by omega)];exact hR.top a (by omega)
 ·rcases gn e with ⟨rfl,rfl⟩|⟨rfl,rfl⟩|⟨_,_,h2,_⟩
  ·rw[fm]at e';cases e';exact⟨Tt,(hC.mono hle).ro⟩
  ·obtain⟨q1,q2⟩:=hR.blk _ _ z yC e';have q2:aH P aj z w' t sz nm false et:=q2;exact⟨q1,q2.ro⟩
  ·exact hR.blk a k z h2 e'
 ·rcases gn e1 with ⟨rfl,rfl⟩|⟨rfl,rfl⟩|⟨p1,p2,p3,p4⟩
  ·rcases gn e2 with ⟨rfl,rfl⟩|⟨rfl,rfl⟩|⟨q1,q2,q3,q4⟩
   ·exact⟨rfl,rfl⟩
   ·exact⟨rfl,rfl⟩
   ·rw[fm]at r1;cases r1;exact(other q1 q2 q4 r2 kg.symm).elim
  ·rcases gn e2 with ⟨rfl,rfl⟩|⟨rfl,rfl⟩|⟨q1,q2,q3,q4⟩
   ·exact⟨rfl,rfl⟩
   ·exact⟨rfl,rfl⟩
   ·have:=(hR.aX _ a' _ k' z z' hne yC q3 r1 r2 kg).1;cases this
  ·rcases gn e2 with ⟨rfl,rfl⟩|⟨rfl,rfl⟩|⟨q1,q2,q3,q4⟩
   ·rw[fm]at r2;cases r2;exact(other p1 p2 p4 r1 kg).elim
   ·have:=(hR.aX a _ k _ z z' hne p3 yC r1 r2 kg).2;cases this
   ·exact hR.aX a a' k k' z z' hne p3 q3 r1 r2 kg
theorem yR {z:List Value}:∀ {n:Nat} {els:List (List Value)},wa z n=some els->els=List.replicate n z
 |0,els,h=>by cases h;rfl
 |n+1,els,h=>by have h:ob (wa z n) (λr=>some (z::r))=some els:=h;obtain⟨r,hr,h⟩:=U h;cases h;rw[yR hr];rfl
theorem uC {ts:Array TypeId} {t0 t1 ty e:TypeId} (hr:Rel P ρ s w) (GQ:gP P e=some (sz,z)) (fk:ts[0]? =some t0) (hu:P.underlying t0=some (.slice e)) (uf:ts[1]? =some t1) (hd:P.underlying t1=some (.int kk)) (h:xa s e sz z l=some r) (hl:af ρ l l'):jS P ρ s w (Builtin.append_ ts ty l'.toArray) r:=by
 obtain⟨i,zv,hi,D9,hz,hsz,mi,Df,yn,PR,_⟩:=dY (ρ:=ρ) GQ;unfold xa at h;split at h
 case h_2=>cases h
 rename_i base n c m;replace h:=ae h;obtain⟨hex,h⟩:=h;replace h:=ae h;obtain⟨hlt,h⟩:=h;replace h:=ae h;obtain⟨GR,h⟩:=h;replace h:=ae h;obtain⟨LF,h⟩:=h;replace h:=U h;obtain⟨old,hold,h⟩:=h;replace h:=U h;obtain⟨els,eI,h⟩:=h;replace h:=U h;obtain⟨all,hall,h⟩:=h;rw[qN]at hall;replace hall:all=old++els:=(Option.some.inj hall).symm;obtain⟨x',y',rfl,hx,hy⟩:=af.two hl;cases hy;have cW:([x',.int .i64 (m:Int)]:List Value).toArray= #[x',.int .i64 (m:Int)]:=rfl;show jS P ρ s w (Builtin.append_ ts ty ([x',.int .i64 (m:Int)]:List Value).toArray) r;rw[cW];obtain⟨vb,cap,rfl,Tv,Jx,PS⟩:=rZ hx;have pQ:=PS hex;have hlt:eO base c<n+m:=by have:=Nat.le_of_ble_eq_true hlt;exact this
 have GR:n+m<=1000000:=Nat.le_of_ble_eq_true GR;have LF:0<m*sz:=by have:=Nat.le_of_ble_eq_true LF;exact this
 obtain⟨b1,b2,os,Jy,CZ,z6⟩:=bw (sa hr) hold hx (λb m c e=>by cases e;exact Nat.le_refl _);rw[<-hsz]at z6;have hrun:=qy (P:=P) (ty:=ty) w fk hu hi uf hd D9 z6 (by rw[hsz];exact LF) (show cap<n+m by omega) GR mi;have x3:=grownCap_le w (need:=n+m) cap e;have N6:=yR eI;have N7:∀q,af ρ (List.replicate q z).flatten (List.replicate q z).flatten:= λq=>by
  induction q with
  |zero=>exact .nil
  |succ q ih=>rw[List.replicate_succ,List.flatten_cons];exact PR.append ih
 have I6:∀q,(List.replicate q z).flatten.length=q*sz:= λq=>by rw[gR (sz:=sz) (λl hl=>by rw[(List.mem_replicate.1 hl).2,Df]),List.length_replicate]
 have hcell:os.toArray++Builtin.zeroCells zv.cells m++Builtin.zeroCells zv.cells (grownCap w (n+m) cap e-(n+m))=((os++(List.replicate m z).flatten)++(List.replicate (grownCap w (n+m) cap e-(n+m)) z).flatten).toArray:=by apply Array.ext';rw[hz];simp only[Array.toList_append,hK]
 rw[hcell]at hrun;have hrel:af ρ all.flatten (os++(List.replicate m z).flatten):=by rw[hall,List.flatten_append,N6];exact Jy.append (N7 m)
 obtain⟨aj,hv,hR,hS⟩:=p6 (rest:=(List.replicate (grownCap w (n+m) cap e-(n+m)) z).flatten) (lo:=0) (hi:=0) (cap:=grownCap w (n+m) cap e)
  (w':=w.drew.alloc (.cells ((os++(List.replicate m z).flatten)++(List.replicate (grownCap w (n+m) cap e-(n+m)) z).flatten).toArray e)) hr h hrel x3
  (by rw[List.length_append,CZ,I6,I6,<-Nat.add_mul,<-Nat.add_mul];congr 1;omega) (λo h1 h2=>by omega) rfl rfl rfl rfl
 exact⟨aj,_,_,hrun,hv,hR,hS⟩
theorem uD {sh:Bool} {ts:Array TypeId} {ty:TypeId} (hr:Rel P ρ s w) (h:xb P sh ts s l=some r) (hl:af ρ l l'):
  jS P ρ s w (Builtin.append_ ts ty l'.toArray) r:=by
 unfold xb at h;replace h:=U h;obtain⟨e,he,h⟩:=h;replace h:=U h;obtain⟨⟨sz,z⟩,GQ,h⟩:=h;obtain⟨i,zv,hi,D9,hz,hsz,mi,Df,yn,_⟩:=dY (ρ:=ρ) GQ;have Tw:∃t0,ts[0]? =some t0∧P.underlying t0=some (.slice e):=by
  unfold rF lR at he;split at he
  ·rename_i e' gq;cases he;split at gq
   ·rename_i t ht;exact⟨t,ht,gq⟩
   ·cases gq
  ·cases he
 obtain⟨t0,fk,hu⟩:=Tw;rw[ah]at h;split at h
 case isFalse=>replace h:=ae h;obtain⟨Jz,h⟩:=h;obtain⟨t1,kk,uf,hd⟩:=zA Jz;exact uC hr GQ fk hu uf hd h hl
 rename_i Ce;split at h
 case h_2=>cases h
 rename_i x y;replace h:=U h;obtain⟨m,hm,h⟩:=h;replace h:=U h;obtain⟨els,eI,h⟩:=h;obtain⟨x',y',rfl,hx,hy⟩:=af.two hl;have cW:([x',y']:List Value).toArray= #[x',y']:=rfl;rw[cW];obtain⟨hlen,Kj⟩:=vw w hm hy;unfold Cn at h;split at h
 case h_2=>cases h
 rename_i base n c;change ab (Nat.ble (Nat.add n m) (eO base c)) (rS s sz base n m c els)
   (ab (Nat.ble (Nat.add n m) 1000000) (MZ (ab sh none (gV s e sz m els base n c)) (ob (bu s sz (.slice base n c) n) λold=>ob (tT old els) λall=>ab (jR base c) (gJ s e sz all (Nat.add n m)) (ab (eC els) (nD sh s e sz base n (Nat.add n m) c all) none))) none)=some r at h
 obtain⟨vb,cap,rfl,Tv,Jx,PS⟩:=rZ hx;have hnew:cap<n+m->n+m<=1000000->∀ {s1:AS} {all old:List (List Value)} {r:Value×AS},Rel P ρ s1 w->bu s sz (.slice base n c) n=some old->all=old++els->rN s1 e sz all (n+m) r->
   ∃aj u w',(Builtin.append_ ts ty #[.slice vb n cap,y']).run P w= .ok u w'∧ag aj r.1 u∧Rel P aj r.2 w'∧aN ρ s1 w aj r.2 w'∧(∀b,b<w.heap.size->w'.heap[b]? =w.heap[b]?):=by
  intro pQ GR s1 all old r x5 hold hall jU;obtain⟨a1,a2,cs,hcs,mW,hf⟩:=bw (sa hr) eI hy Kj;obtain⟨b1,b2,os,Jy,CZ,z6⟩:=bw (sa hr) hold hx (λb m c e=>by cases e;exact Nat.le_refl _);rw[<-hsz]at hf z6;have hrun:=tJ (P:=P) (ty:=ty) w fk hu hi Ce hlen D9 z6 hf pQ GR mi;have PR:=hK zv.cells (grownCap w (n+m) cap e-(n+m));have hcell:os.toArray++cs.toArray++Builtin.zeroCells zv.cells (grownCap w (n+m) cap e-(n+m))=((os++cs)++(List.replicate (grownCap w (n+m) cap e-(n+m)) z).flatten).toArray:=by apply Array.ext';rw[hz];simp only[Array.toList_append,PR]
  rw[hcell]at hrun;have x3:=grownCap_le w (need:=n+m) cap e;have hrel:af ρ all.flatten (os++cs):=by rw[hall,List.flatten_append];exact Jy.append hcs
  have QX:(List.replicate (grownCap w (n+m) cap e-(n+m)) z).flatten.length=(grownCap w (n+m) cap e-(n+m))*sz:=by rw[gR (sz:=sz) (λl hl=>by rw[(List.mem_replicate.1 hl).2,Df]),List.length_replicate]
  obtain⟨aj,hv,hR,hS⟩:=xI (rest:=(List.replicate (grownCap w (n+m) cap e-(n+m)) z).flatten) (lo:=0) (hi:=0) (cap:=grownCap w (n+m) cap e)
   (w':=w.drew.alloc (.cells ((os++cs)++(List.replicate (grownCap w (n+m) cap e-(n+m)) z).flatten).toArray e)) x5 jU hrel x3
   (by rw[List.length_append,CZ,mW,QX,<-Nat.add_mul,<-Nat.add_mul];congr 1;omega) (λo h1 h2=>by omega) rfl rfl rfl rfl
  exact⟨aj,_,_,hrun,hv,hR,hS,λb hb=>by show(w.heap.push _)[b]? =_;rw[Array.getElem?_push,if_neg (Nat.ne_of_lt hb)]⟩
 rw[ah]at h;split at h
 ·rename_i Ey;replace Ey:n+m<=eO base c:=Nat.le_of_ble_eq_true Ey;obtain⟨a1,a2,cs,hcs,mW,hf⟩:=bw hr eI hy Kj;rw[<-hsz]at hf;have hrun:=lV (P:=P) (ty:=ty) (base:=vb) w fk hu hi Ce hlen hf (show n+m<=cap by omega);unfold rS at h;split at h
  ·cases h;cases hx;have:m=0:=by have:0+m<=0:=Ey;omega
   subst this;exact⟨ρ,_,w,hrun,.bc,hr,.refl _ _ _⟩
  ·rename_i a;replace h:=U h;obtain⟨s',fR,h⟩:=h;rw[ak]at h;cases h;cases hx with| @slice a x off n c cap ad hx h1 h2 h3 h4 h5=>?_
   have Ez:ag ρ (.slice (some ⟨a,off,none⟩) (n+m) c) (.slice (some ad) (n+m) cap):= .slice off (n+m) c cap ad hx Ey h2 h3 h4 h5;cases m with
   |zero=>have:els= []:=List.length_eq_zero_iff.1 a2;subst this;cases fR;have:cs= []:=List.length_eq_zero_iff.1 (by rw[mW];simp);subst this;exact⟨ρ,_,w,hrun,Ez,hr,.refl _ _ _⟩
   |succ m=>
    have D8:ad=⟨x.b,x.base+off,none⟩:=by
     rcases h4 with h4|h4
     ·exact h4
     ·have:n+(m+1)<=c/512:=Ey;omega
    subst D8;obtain⟨w',lJ,hR,hS⟩:=fM hx hr fR hcs a1;refine⟨ρ,_,w',?_,Ez,hR,hS⟩;rw[hrun];have e1:(⟨x.b,x.base+off,none⟩:Addr).add (n*i.size)=⟨x.b,x.base+Nat.add off (Nat.mul n sz),none⟩:=by
     rw[cY,hsz];show(⟨x.b,x.base+off+n*sz,none⟩:Addr)=⟨x.b,x.base+(off+n*sz),none⟩
     rw[Nat.add_assoc]
    simp only[e1,lJ,Result.andThen_ok]
 ·rename_i yl;replace h:=ae h;obtain⟨GR,h⟩:=h;replace GR:n+m<=1000000:=Nat.le_of_ble_eq_true GR;replace yl:¬(n+m<=eO base c):= λh=>yl (Nat.ble_eq_true_of_le h);have Cx:∀(a:Addr) (cc:T (List Value)) (n0:Nat) (s1:AS) (old all:List (List Value)) (r0:Value×AS),base=some a->¬jR base c=true->eC els=true->Nat.beq (yu c) sz=true->s.h.get a.block=some (.cells cc sz n0 false e)->Nat.beq (Nat.mod a.off sz) 0=true->
    s.set a.block none=some s1->bu s sz (.slice base n c) n=some old->all=old++els->rN s1 e sz all (n+m) r0->ab sh (ab (Nat.beq (Nat.add (Nat.div a.off sz) n) n0) (rT a.block cc sz n0 e r0) none) (some r0)=some r->
    ∃aj u w',(Builtin.append_ ts ty #[.slice vb n cap,y']).run P w= .ok u w'∧ag aj r.1 u∧Rel P aj r.2 w'∧aN ρ s w aj r.2 w':=by
   clear h;intro a cc n0 s1 old all r0 yD hex lT Kk hb mV gZ hold hall h mQ;subst yD;cases hx with| @slice a x off n c cap ad hx h1 h2 h3 h4 h5=>?_
   have QY:c%512/2=sz:=Nat.eq_of_beq_eq_true Kk;have mV:off%sz=0:=Nat.eq_of_beq_eq_true mV;by_cases hin:n+m<=cap
   ·have Tb:n+m>c/512:=Nat.lt_of_not_le yl;have D8:ad=⟨x.b,x.base+off,none⟩:=by
     rcases h4 with h4|h4
     ·exact h4
     ·omega
    subst D8;have gE:c%2=0:=by have:jR (some (⟨a,off,none⟩:Addr)) c=Nat.beq (c%2) 1:=rfl;rw[this]at hex;have:c%2≠1:= λe=>hex (by rw[e];rfl);omega
    have O1:=h5 gE;rw[QY]at O1;obtain⟨a1,a2,cs,hcs,mW,hf⟩:=bw hr eI hy Kj;rw[<-hsz]at hf;obtain⟨b1,b2,os,Jy,CZ,Aq⟩:=px hr hx hold;replace mW:cs.length=m*sz:=mW;replace CZ:os.length=n*sz:=CZ;have hrun:=lV (P:=P) (ty:=ty) (base:=some ⟨x.b,x.base+off,none⟩) w fk hu hi Ce hlen hf hin;obtain⟨hlt,hC⟩:=hr.blk a _ x hb hx;have hC:aH P ρ x w cc sz n0 false e:=hC;have hmul:(n+m)*sz<=cap*sz:=Nat.mul_le_mul_right _ hin;rw[Nat.add_mul]at hmul;have mj:∀j,j<cs.length->(w.cell? ⟨x.b,x.base+off+n*sz+j,none⟩).isSome=true:= λj hj=>hC.all _ (by rw[mW]at hj;omega);have Iy:∀j,j<cs.length->w.frozen? ⟨x.b,x.base+off+n*sz+j,none⟩=false:=by
     intro j hj;cases hf:w.frozen? ⟨x.b,x.base+off+n*sz+j,none⟩with
     |false=>rfl
     |true=>have:=(hC.free rfl _ hf).1;have:=mj j hj;rw[‹w.cell? _=none›]at this;cases this
    have lJ:=run_storeCells_cells (P:=P) x.b (x.base+off+n*sz) cs 0 w (by simpa using mj) (by simpa using Iy) (hcs.M9 (uB lT));rw[Nat.add_zero]at lJ;obtain⟨g1,g2,g3,t,s2,O2,BZ,EA⟩:=h;have ug:s1.nx=s.nx:=(AS.cP gZ).1;have Ez:ag (ρ.put s.nx ⟨x.b,x.base+off,x.lim,[]⟩) (.slice (some ⟨s1.nx,0,none⟩) (Nat.add n m) (codeLB (Nat.add n m) sz)) (.slice (some ⟨x.b,x.base+off,none⟩) (n+m) cap):=by rw[ug];refine .slice 0 (n+m) (codeLB (n+m) sz) cap _ (bE _ _ _) (by rw[cU g1];exact Nat.le_refl _) (by rw[cU g1];exact hin) (λh=>by rw[gW]at h;cases h) (.inl rfl) (λ_=>?_);rw[jd g1];exact O1
    obtain⟨q1,q2,q3,_⟩:=iN x.b cs (x.base+off+n*sz) w;have bC:aG ρ (ρ.put s.nx ⟨x.b,x.base+off,x.lim,[]⟩):= λb z e=>by
     unfold Ren.put;by_cases ha:b=s.nx
     ·rw[ha,hr.eu _ (Nat.le_refl _)]at e;cases e
     ·rw[if_neg ha];exact e
    have hA:=Rel.again (P:=P) (y:=⟨x.b,x.base+off,x.lim,[]⟩) (w':=w.setCells x.b (x.base+off+n*sz) cs) hr gZ BZ hb rfl hx rfl (fP _ _ _ _) (λb cz=>g9 _ _ _ _ _ cz) q1 q2 q3 (by
     refine⟨?_,λo gz=>?_,λ_ o gz=>?_,?_,?_⟩
     ·have hrel:af ρ all.flatten (os++cs):=by rw[hall,List.flatten_append];exact Jy.append hcs
      refine DA O2 g3 g2 (hrel.mono bC) (λj u hj=>?_);show World.cell? _ ⟨x.b,x.base+off+j,none⟩=some u;by_cases Tx:j<os.length
      ·rw[List.getElem?_append_left Tx]at hj;rw[World.cell?_setCells_out _ _ _ _ _ (λ_ _=> .inl (by show x.base+off+j<x.base+off+n*sz;omega))];exact Aq j u hj
      ·rw[List.getElem?_append_right (by omega)]at hj;obtain⟨PI,PJ⟩:=List.getElem?_eq_some_iff.1 hj;have:=World.cell?_setCells_in x.b cs (x.base+off+n*sz) w mj (j-os.length) PI;rw[show x.base+off+n*sz+(j-os.length)=x.base+off+j by omega]at this;rw[this,PJ]
     ·by_cases Kl:x.base+off+n*sz<=o∧o<x.base+off+n*sz+cs.length
      ·have:=World.cell?_setCells_in x.b cs (x.base+off+n*sz) w mj (o-(x.base+off+n*sz)) (by omega);rw[show x.base+off+n*sz+(o-(x.base+off+n*sz))=o by omega]at this;show(World.cell? _ ⟨x.b,o,none⟩).isSome=true;rw[this];rfl
      ·show(World.cell? _ ⟨x.b,o,none⟩).isSome=true;rw[World.cell?_setCells_out _ _ _ _ _ (λ_ _=>by show o<x.base+off+n*sz∨x.base+off+n*sz+cs.length<=o;omega)];exact hC.all o gz
     ·have gz:World.frozen? (w.setCells x.b (x.base+off+n*sz) cs) ⟨x.b,o,none⟩=true:=gz;rw[World.frozen?_setCells]at gz;obtain⟨hn,yl⟩:=hC.free rfl o gz;refine⟨?_,yl⟩;show World.cell? _ ⟨x.b,o,none⟩=none;by_cases Kl:x.base+off+n*sz<=o∧o<x.base+off+n*sz+cs.length
      ·have:=mj (o-(x.base+off+n*sz)) (by omega);rw[show x.base+off+n*sz+(o-(x.base+off+n*sz))=o by omega,hn]at this;cases this
      ·rw[World.cell?_setCells_out _ _ _ _ _ (λ_ _=>by show o<x.base+off+n*sz∨x.base+off+n*sz+cs.length<=o;omega)];exact hn
     ·show World.shape? _ x.b=some (e,x.lim);rw[eh];exact hC.shape
     ·obtain⟨q,hq⟩:=hC.mult;refine⟨q+off/sz,?_⟩;show x.base+off=(q+off/sz)*sz;have:=Nat.div_add_mod off sz;rw[mV,Nat.mul_comm]at this;rw[Nat.add_mul];omega) rfl
    have I7:(Builtin.append_ ts ty #[.slice (some ⟨x.b,x.base+off,none⟩) n cap,y']).run P w= .ok (.slice (some ⟨x.b,x.base+off,none⟩) (n+m) cap) (w.setCells x.b (x.base+off+n*sz) cs):=by
     rw[hrun];have e1:(⟨x.b,x.base+off,none⟩:Addr).add (n*i.size)=⟨x.b,x.base+off+n*sz,none⟩:=by rw[cY,hsz]
     simp only[e1,lJ,Result.andThen_ok]
    subst EA;cases sh with
    |false=>cases mQ;exact⟨_,_,_,I7,Ez,hA.1,hA.2⟩
    |true=>
     replace mQ:=ae mQ;obtain⟨C0,mQ⟩:=mQ;replace C0:off/sz+n=n0:=Nat.eq_of_beq_eq_true C0;have Jy:x.base+off+n*sz=x.base+n0*sz:=by have:=Nat.div_add_mod off sz;rw[mV,Nat.mul_comm]at this;rw[<-C0,Nat.add_mul];omega
     have Ty:aH P ρ x (w.setCells x.b (x.base+off+n*sz) cs) cc sz n0 false e:=by
      refine⟨λk l hk=>?_,λo gz=>?_,λ_ o gz=>?_,by rw[eh];exact hC.shape,hC.mult⟩
      ·obtain⟨a1,a2,a3⟩:=hC.cell k l hk;refine⟨a1,a2,λj v hv=>?_⟩;obtain⟨u,hu,PT⟩:=a3 j v hv;refine⟨u,?_,PT⟩;have hj:j<sz:=by rw[<-a2];exact(List.getElem?_eq_some_iff.1 hv).1
       have Tz:(k+1)*sz<=n0*sz:=Nat.mul_le_mul_right _ a1;rw[Nat.add_mul]at Tz;rw[World.cell?_setCells_out _ _ _ _ _ (λ_ _=> .inl (by show x.base+(k*sz+j)<x.base+off+n*sz;rw[Jy];omega))];exact hu
      ·by_cases Kl:x.base+off+n*sz<=o∧o<x.base+off+n*sz+cs.length
       ·have:=World.cell?_setCells_in x.b cs (x.base+off+n*sz) w mj (o-(x.base+off+n*sz)) (by omega);rw[show x.base+off+n*sz+(o-(x.base+off+n*sz))=o by omega]at this;rw[this];rfl
       ·rw[World.cell?_setCells_out _ _ _ _ _ (λ_ _=>by show o<x.base+off+n*sz∨x.base+off+n*sz+cs.length<=o;omega)];exact hC.all o gz
      ·rw[World.frozen?_setCells]at gz;obtain⟨hn,yl⟩:=hC.free rfl o gz;refine⟨?_,yl⟩;by_cases Kl:x.base+off+n*sz<=o∧o<x.base+off+n*sz+cs.length
       ·have:=mj (o-(x.base+off+n*sz)) (by omega);rw[show x.base+off+n*sz+(o-(x.base+off+n*sz))=o by omega,hn]at this;cases this
       ·rw[World.cell?_setCells_out _ _ _ _ _ (λ_ _=>by show o<x.base+off+n*sz∨x.base+off+n*sz+cs.length<=o;omega)];exact hn
     obtain⟨v1,v2,v3⟩:=vz hr hx hb gZ BZ hA.1 hA.2 Ty (by rw[fP];exact hlt) Ez mQ;exact⟨_,_,_,I7,v1,v2,v3⟩
   ·obtain⟨dn,dv⟩:=Rel.forget hr gZ hx;obtain⟨aj,u,w',h1,h2,h3,h4,O1⟩:=hnew (by omega) GR dn hold hall h;cases sh with
    |false=>cases mQ;exact⟨aj,u,w',h1,h2,h3,dv.trans h4⟩
    |true=>replace mQ:=ae mQ;obtain⟨C0,mQ⟩:=mQ;obtain⟨g1,g2,g3,t,s2,O2,BZ,EA⟩:=h;subst EA;obtain⟨hlt,hC⟩:=hr.blk a _ x hb hx;have hC:aH P ρ x w cc sz n0 false e:=hC;have hS:=dv.trans h4;obtain⟨v1,v2,v3⟩:=vz hr hx hb gZ BZ h3 hS (hC.congr (O1 _ hlt)) (Nat.lt_of_lt_of_le hlt hS.size) h2 mQ;exact⟨aj,u,w',h1,v1,v2,v3⟩
  rcases yo:ab sh none (gV s e sz m els base n c)with _|r1
  ·rw[yo]at h;replace h:(ob (bu s sz (.slice base n c) n) λold=>ob (tT old els) λall=>
    ab (jR base c) (gJ s e sz all (Nat.add n m)) (ab (eC els) (nD sh s e sz base n (Nat.add n m) c all) none))=some r:=h
   replace h:=U h;obtain⟨old,hold,h⟩:=h;replace h:=U h;obtain⟨all,hall,h⟩:=h;rw[qN]at hall;replace hall:all=old++els:=(Option.some.inj hall).symm;rw[ah]at h;split at h
   ·rename_i hex;have:=PS hex;obtain⟨aj,u,w',h1,h2,h3,h4,_⟩:=hnew (by omega) GR hr hold hall (vy h);exact⟨aj,u,w',h1,h2,h3,h4⟩
   ·rename_i hex;replace h:=ae h;obtain⟨lT,h⟩:=h;unfold nD at h;split at h
    ·cases h
    rename_i a;replace h:=ae h;obtain⟨Kk,h⟩:=h;replace h:=bP h;obtain⟨cc,jn,n0,ro,uT,hb,h⟩:=h;replace h:=bj h;obtain⟨hro,h⟩:=h;replace h:=ae h;obtain⟨G7,h⟩:=h;replace h:=ae h;obtain⟨het,h⟩:=h;replace h:=ae h;obtain⟨mV,h⟩:=h;replace h:=U h;obtain⟨s1,gZ,h⟩:=h;replace h:=U h;obtain⟨r0,jU,mQ⟩:=h;replace G7:=Nat.eq_of_beq_eq_true G7;replace het:=Nat.eq_of_beq_eq_true het;subst G7 het hro;exact Cx a cc n0 s1 old all r0 rfl hex lT Kk hb mV gZ hold hall (vy jU) mQ
  ·rw[yo]at h;replace h:some r1=some r:=h;cases h;replace yo:=bj yo;obtain⟨mQ,yo⟩:=yo;cases base with
   |none=>cases yo
   |some a=>
    have G8:∃x,ρ a.block=some x∧a.spot=none:=by cases hx with|slice off n c cap ad hx h1 h2 h3 h4 h5=>exact⟨_,hx,rfl⟩
    obtain⟨x,TA,iP⟩:=G8;obtain⟨f1,f2,f3,f4,cc,s1,old,f5,f6,f7,f8⟩:=qA hr TA iP yo;refine Cx a cc n s1 old _ r rfl (by rw[f1];exact Bool.false_ne_true) f2 f3 f5 (by rw[f4];show Nat.beq (Nat.mod 0 sz) 0=true;rw[show Nat.mod 0 sz=0 from Nat.zero_mod sz];rfl) f6 f7 rfl f8 ?_;rw[mQ,bX]
end Go.Eng
end
noncomputable section
namespace Go.Eng
open Go
variable {s s':AS} {P:Program} {ρ:Ren} {v v':Value} {r:Value×AS} {w:World}
def wN (P:Program) (ρ:Ren) (s:AS) (w:World) (m:Sem Unit) (r:Value×AS):Prop:=
 r.1= .tuple #[]∧∃aj w',m.run P w= .ok () w'∧Rel P aj r.2 w'∧aN ρ s w aj r.2 w'
theorem Made.N8 {m:Sem Value} {k:Blk} (h:Made P ρ w s.nx m v k) (hr:Rel P ρ s w) (hs:s.new k=some s'):jS P ρ s w m (v,s'):=by obtain⟨x,u,w',h1,h2,h3,h4,h5,h6,h7,h8,h9⟩:=h;obtain⟨q1,q2⟩:=Rel.alloc hr hs h2 h3 h4 h5 h6 h7 h9;exact⟨_,u,w',h1,h8,q1,q2⟩
theorem zB {t:TypeId} (h:AD P t s=some r):∃k,s.new k=some r.2∧∀ {ρ:Ren} {w:World},ρ s.nx=none->Made P ρ w s.nx (Instr.alloc t true (.tuple #[])) r.1 k:=by unfold AD at h;obtain⟨l,hl,h⟩:=U h;obtain⟨z,hz,rfl⟩:=mu hl;obtain⟨k,hk,hm⟩:=nY (P:=P) h;exact⟨k,hk,λ {ρ w} ow=>hm (w':=w.alloc (.cells z.cells t)) ow (fH hz).cells (by simp only[Instr.alloc,Sem.run_bind,bZ hz w,Result.andThen_ok,newVar,newRow,run_newObj_alloc,Sem.run_pure]) rfl rfl rfl rfl⟩
theorem DC {t:TypeId} (h:M3 t s v=some r):∃k,s.new k=some r.2∧∀ {ρ:Ren} {w:World} {v':Value},ρ s.nx=none->ag ρ v v'->Made P ρ w s.nx (Instr.box t v') r.1 k:=by obtain⟨k,hk,hm⟩:=nY (P:=P) h;exact⟨k,hk,λ {ρ w v'} ow hv=>hm (w':=w.alloc (.cells v'.cells t)) ow hv.cells (by simp only[Instr.box,Sem.run_bind,Result.andThen_ok,newVar,newRow,run_newObj_alloc,Sem.run_pure]) rfl rfl rfl rfl⟩
theorem xJ {t:TypeId} {a a':Value} (hr:Rel P ρ s w) (h:AG P t s a v=some r) (ha:ag ρ a a') (hv:ag ρ v v'):wN P ρ s w (Instr.storeAt t a' v') r:=by
 unfold AG at h;split at h
 ·rename_i ad;replace h:=U h;obtain⟨n,hn,h⟩:=h;replace h:=ae h;obtain⟨hl,h⟩:=h;replace h:=U h;obtain⟨s',hs,h⟩:=h;cases h;have hl:v.cells.toList.length=n:=by rw[<-aV];exact Nat.eq_of_beq_eq_true hl
  cases ha with| @ptr a x off hx=>?_
  obtain⟨w',hrun,_,hR,hS⟩:=jN hr hx hs hv.cells;have hsz:v'.cells.size=n:=by rw[<-hl,hv.cells.length];simp
  refine⟨rfl,ρ,w',?_,hR,hS⟩;simp only[Instr.storeAt,Instr.sureAddr,Sem.run_bind,Sem.run_pure,Result.andThen_ok,storeVar,ax hn w,hsz,ne_eq,not_true_eq_false,if_false,hrun]
 ·cases h
theorem lD (w:World) (k:IntKind) (n:Int):(asInt (.int k n)).run P w= .ok n w:=by simp[asInt,asIntOf]
theorem qB {t:TypeId} {l c:Value} (h:ml P t s l c=some r):
  ∃k,s.new k=some r.2∧∀ {ρ:Ren} {w:World} {l' c':Value},ρ s.nx=none->ag ρ l l'->ag ρ c c'->Made P ρ w s.nx (Instr.makeSlice t l' c') r.1 k:=by
 unfold ml at h;split at h
 ·rename_i k1 l k2 c;replace h:=U h;obtain⟨e,he,h⟩:=h;replace h:=U h;obtain⟨ln,L8,h⟩:=h;replace h:=U h;obtain⟨cn,Jv,h⟩:=h;replace h:=ae h;obtain⟨PU,h⟩:=h;replace h:=ae h;obtain⟨Mb,h⟩:=h;replace h:=U h;obtain⟨⟨sz,z⟩,GQ,h⟩:=h;replace h:=U h;obtain⟨els,eI,h⟩:=h;have L8:=fG L8;have Jv:=fG Jv;subst L8 Jv;have PU:ln<=cn:=Nat.le_of_ble_eq_true PU;have Mb:cn<=1000000:=Nat.le_of_ble_eq_true Mb;have eI:=qR _ _ _ eI;subst eI;obtain⟨k,hk,m9⟩:=sR (P:=P) h PU;refine⟨k,hk,λ {ρ w l' c'} ow hl hc=>?_⟩;obtain⟨i,zv,hi,D9,hz,hsz,mi,Df,yn,IA,_⟩:=dY (ρ:=ρ) GQ;have hu:P.underlying t=some (.slice e):=by
   unfold qJ at he;split at he
   ·rename_i hu;cases he;exact hu
   ·cases he
  cases hl;cases hc;have PV:zv.cells.size=sz:=by rw[<-Df,hz];simp
  have jU:((Array.range (cn*sz)).map (zv.cells[·%zv.cells.size]!))=((List.replicate cn z).flatten).toArray:=by apply Array.ext';have:=my z cn;rw[Df,hz]at this;rw[PV];simpa[hz]using this
  refine m9 (w':=w.alloc (.cells ((List.replicate cn z).flatten).toArray e)) ow (af.replicate IA cn) ?_ rfl rfl rfl rfl;have LG:IntKind.i64.wrap (ln:Int)=(ln:Int):=wrap_small ⟨by show(-9223372036854775808:Int)<=_;omega,by show _<=(9223372036854775807:Int);omega⟩;have TB:IntKind.i64.wrap (cn:Int)=(cn:Int):=wrap_small ⟨by show(-9223372036854775808:Int)<=_;omega,by show _<=(9223372036854775807:Int);omega⟩;have hmul:i.bytes*cn<=1000000*1000000:=Nat.mul_le_mul mi Mb;have Ex:¬((i.bytes:Int)*(cn:Int)>2^48):=by
   have:((i.bytes:Int)*(cn:Int))=((i.bytes*cn:Nat):Int):=by simp
   rw[this];have:(2:Int)^48=281474976710656:=by decide
   omega
  have hc0:¬((cn:Int)<0):=by omega
  have hl0:¬((ln:Int)<0):=by omega
  have QZ:¬((ln:Int)>(cn:Int)):=by omega
  have d1:decide ((cn:Int)<0)=false:=decide_eq_false hc0;have d2:decide ((i.bytes:Int)*(cn:Int)>2^48)=false:=decide_eq_false Ex;have d3:decide ((ln:Int)<0)=false:=decide_eq_false hl0;have d4:decide ((ln:Int)>(cn:Int))=false:=decide_eq_false QZ;simp only[Instr.makeSlice,Sem.run_bind,run_underlying hu,Result.andThen_ok,lD,typeInfo,hi,run_program,Sem.run_pure,LG,TB,d1,d2,d3,d4,Bool.or_self,Bool.false_eq_true,if_false,run_askRoom,sizeOf,Int.toNat_natCast,hsz,newRow];by_cases hn:cn*sz=0
  ·have Ap:((List.replicate cn z).flatten).toArray= #[]:=by
    rw[<-jU,hn];simp
   have x5:Array.range 0= #[]:=by apply Array.ext';simp
   rw[if_pos hn,Ap,hn,x5];simp
  ·rw[if_neg hn];simp only[Sem.run_bind,bZ ‹gf P e=some zv› w,Sem.run_pure,Result.andThen_ok,run_newObj_alloc,jU]
 ·cases h
end Go.Eng
end
noncomputable section
namespace Go.Eng
open Go
variable {s:AS} {is:List Nat} {vs:List Value} {n sz:Nat} {P:Program} {ρ:Ren} {v:Value} {r:Value×AS}
theorem p8 (off:Nat) (cs:Array Value) (l:List Value) (h:off+l.length<=cs.size):
  (l.zipIdx.foldl (λcs (x:Value×Nat)=>cs.setIfInBounds (off+x.2) x.1) cs)=(cs.toList.take off++l++cs.toList.drop (off+l.length)).toArray:=by
 obtain⟨h1,h2⟩:=Go.Great.foldl_set off l 0 cs;apply Array.ext_getElem?;intro k;rw[h2 k];simp only[Nat.add_zero,List.getElem?_toArray];by_cases hk:off<=k∧k<off+l.length∧k<cs.size
 ·rw[if_pos hk,List.append_assoc,List.getElem?_append_right (by simp;omega),List.getElem?_append_left (by simp;omega)];congr 1;simp;omega
 ·rw[if_neg hk];by_cases zY:k<off
  ·rw[List.append_assoc,List.getElem?_append_left (by simp;omega),List.getElem?_take_of_lt zY];simp
  ·rw[List.getElem?_append_right (by simp;omega),List.getElem?_drop];simp only[List.length_append,List.length_take,Array.length_toList,Array.getElem?_toList];congr 1;omega
theorem oe (v:Value) (off:Nat) (cs:Array Value):v.cells.zipIdx.foldl (λcs (c,j)=>cs.setIfInBounds (off+j) c) cs=v.cells.toList.zipIdx.foldl (λcs (x:Value×Nat)=>cs.setIfInBounds (off+x.2) x.1) cs:=by rw[<-Array.foldl_toList,Array.toList_zipIdx]
theorem yS:∀ {vs us:List Value},af ρ vs us->F2 (λp q=>p.1=q.1∧ag ρ p.2 q.2) (tU is vs) (tU is us):=by
 induction is with
 |nil=>intro vs us _;exact .nil
 |cons i is ih=>
  intro vs us h;cases h with
  |nil=>exact .nil
  |cons h hs=>exact .cons ⟨rfl,h⟩ (ih hs)
theorem p9 {place place':Nat->Option (Nat×Nat)} (hp:∀i q,place i=some q->place' i=some q):
  ∀ {ps Cc:List (Nat×Value)},F2 (λp q=>p.1=q.1∧ag ρ p.2 q.2) ps Cc->∀ {l r l':List Value},EZ place ps l=some r->af ρ l l'->∃r',Instr.fill place' l'.toArray Cc=some r'.toArray∧af ρ r r':=by
 intro ps Cc uh;induction uh with
 |nil=>intro l r l' h hl;cases h;exact⟨l',rfl,hl⟩
 | @cons p q ps Cc LC _ ih=>
  intro l r l' h hl;obtain⟨i,v⟩:=p;obtain⟨i',v'⟩:=q;obtain⟨h1,hv⟩:=LC;simp only at h1 hv;subst h1;have h':ob (place i) (λq=>ab (Nat.beq (len v.cells.toList) q.2) (ob (CP v.cells.toList l q.1) (EZ place ps)) none)=some r:=h;obtain⟨⟨off,sz⟩,hq,h'⟩:=U h';obtain⟨hlen,h'⟩:=ae h';obtain⟨l1,Iz,h'⟩:=U h';have hlen:v.cells.toList.length=sz:=by rw[<-aV];exact Nat.eq_of_beq_eq_true hlen
  obtain⟨Km,hle⟩:=xh _ _ _ _ Iz;have LD:=hv.cells.length;have Cf:=hl.length;have hrel:af ρ l1 (l'.take off++v'.cells.toList++l'.drop (off+v'.cells.toList.length)):=by rw[Km,LD];exact((hl.take off).append hv.cells).append (hl.drop _)
  obtain⟨r',eR,JA⟩:=ih h' hrel;refine⟨r',?_,JA⟩;have hsz:v'.cells.size=sz:=by rw[<-hlen,LD];simp
  have ui:off+v'.cells.toList.length<=l'.toArray.size:=by rw[<-LD,List.size_toArray,<-Cf];exact hle
  unfold Instr.fill;rw[hp _ _ hq];have hc:(decide (v'.cells.size≠sz)||decide (off+v'.cells.size>l'.toArray.size))=false:=by
   have:¬(off+v'.cells.size>l'.toArray.size):=by simp at ui⊢;omega
   simp[hsz]at this⊢;exact this
  simp only;rw[hc];simp only[Bool.false_eq_true,if_false];rw[oe,p8 off l'.toArray _ ui];exact eR
theorem qC {t:TypeId} {fs:Array Field} (hu:P.underlying t=some (.struct fs)) (h:iV P t=true):
  ∃places,fs.toList.mapM (λ(f:Field)=>(P.info? f.type).map λi=>(f.offset,i.size))=some places∧∀(i:Nat) (f:Field) (n:Nat),fs[i]? =some f->aK P f.type=some n->places[i]? =some (f.offset,n):=by
 unfold iV at h;rw[hu]at h;simp only at h;have key:∀(l:List Field),(List.rec (motive:= λ_=>Bool) true (λ(f:Field) _ ih=>match P.info? f.type with|some _=>ih|none=>false) l)=true->
   ∃places,l.mapM (λ(f:Field)=>(P.info? f.type).map λi=>(f.offset,i.size))=some places∧∀(i:Nat) (f:Field) (n:Nat),l[i]? =some f->aK P f.type=some n->places[i]? =some (f.offset,n):=by
  intro l;induction l with
  |nil=>intro _;exact⟨[],rfl,λi f n h=>by simp at h⟩
  |cons f l ih=>
   intro h;simp only at h;cases hi:P.info? f.type with
   |none=>rw[hi]at h;cases h
   |some i=>
    rw[hi]at h;obtain⟨places,hp,hg⟩:=ih h;refine⟨(f.offset,i.size)::places,by simp[List.mapM_cons,hi,hp],λj g n hj hn=>?_⟩;cases j with
    |zero=>cases hj;unfold aK at hn;rw[hi]at hn;cases hn;rfl
    |succ j=>exact hg j g n (by simpa using hj) hn
 obtain⟨places,hp,hg⟩:=key _ h;exact⟨places,hp,λi f n hf=>hg i f n (by simpa using hf)⟩
theorem xK {t:TypeId} {us:List Value} (w:World) (h:AF P t is vs=some v) (hv:af ρ vs us):∃u,(Instr.build t (tU is us).toArray).run P w= .ok u w∧ag ρ v u:=by
 unfold AF at h;obtain⟨cK,h⟩:=ae h;obtain⟨z,hz,h⟩:=U h;obtain⟨r,hr,h⟩:=U h;cases h;obtain⟨zv,LH,rfl⟩:=mu hz;obtain⟨_,i,hi,D9⟩:=iE LH;have uh:=yS (is:=is) hv;have IA:af ρ zv.cells.toList zv.cells.toList:=(fH LH).cells;have hb:∃r',P.built t (tU is us)=some r'∧af ρ r r'.toList:=by
  unfold Program.built;rw[hi];cases hu:P.underlying t with
  |none=>unfold iV at cK;rw[hu]at cK;cases cK
  |some d=>
   cases d<;>try (unfold iV at cK;rw[hu]at cK;cases cK;done)
   case array n e=>
    unfold iV at cK;rw[hu]at cK;simp only at cK;cases PW:P.info? e with
    |none=>rw[PW]at cK;cases cK
    |some ie=>
     obtain⟨r',h1,h2⟩:=p9 (place':= λi=>some (i*ie.size,ie.size)) (λi q hq=>by unfold AE at hq;rw[hu]at hq;obtain⟨n,hn,hq⟩:=U hq;unfold aK at hn;rw[PW]at hn;cases hn;cases hq;rfl) uh hr IA
     simp only[D9,PW];exact⟨_,h1,h2⟩
   case struct fs=>
    obtain⟨places,hp,hg⟩:=qC hu cK;obtain⟨r',h1,h2⟩:=p9 (place':=(places.toArray[·]?)) (λi q hq=>by
     unfold AE at hq;rw[hu]at hq;simp only at hq;split at hq
     ·rename_i f hf;obtain⟨n,hn,hq⟩:=U hq;cases hq;have:=hg i f n hf hn;simpa using this
     ·cases hq) uh hr IA
    simp only[D9,hp];exact⟨_,h1,h2⟩
 obtain⟨r',h1,h2⟩:=hb;exact⟨_,run_build w t _ r' h1,.agg h2⟩
theorem zC:∀(i:Nat) (l r:List (List Value)) (x:List Value),wB x i l=some r->(∀e∈l,e.length=sz)->x.length=sz->r.flatten=l.flatten.take (i*sz)++x++l.flatten.drop (i*sz+sz)∧(∀e∈r,e.length=sz)∧i*sz+sz<=l.flatten.length:=by
 intro i;induction i with
 |zero=>
  intro l r x h hl hx;cases l with
  |nil=>cases h
  |cons a l=>
   cases h;have ha:=hl a (by simp);refine⟨?_,λe he=>?_,by simp;omega⟩
   ·simp only[List.flatten_cons,Nat.zero_mul,List.take_zero,List.nil_append,Nat.zero_add];rw[<-ha,List.drop_left]
   ·rcases List.mem_cons.1 he with rfl|he
    ·exact hx
    ·exact hl e (by simp[he])
 |succ i ih=>
  intro l r x h hl hx;cases l with
  |nil=>cases h
  |cons a l=>
   have h':ob (wB x i l) (λr=>some (a::r))=some r:=h;obtain⟨r',eR,h'⟩:=U h';cases h';have ha:=hl a (by simp);obtain⟨h1,h2,h3⟩:=ih _ _ _ eR (λe he=>hl e (by simp[he])) hx;refine⟨?_,λe he=>?_,by simp only[List.flatten_cons,List.length_append,Nat.add_mul];omega⟩
   ·have e1:(i+1)*sz=a.length+i*sz:=by rw[Nat.add_mul,ha];omega
    have e2:(i+1)*sz+sz=a.length+(i*sz+sz):=by rw[Nat.add_mul,ha];omega
    simp only[List.flatten_cons];rw[e2,e1,h1,List.take_append,List.drop_append];rw[List.take_of_length_le (l:=a) (by omega),@List.drop_eq_nil_of_le _ a _ (by omega)];simp
   ·rcases List.mem_cons.1 he with rfl|he
    ·exact ha
    ·exact h2 e he
theorem tK:∀ {ps Cc:List (Nat×Value)},F2 (λp q=>p.1=q.1∧ag ρ p.2 q.2) ps Cc->∀ {l r:List (List Value)} {l':List Value},rU sz ps l=some r->(∀e∈l,e.length=sz)->af ρ l.flatten l'->
  ∃r',Instr.fill (λi=>some (i*sz,sz)) l'.toArray Cc=some r'.toArray∧af ρ r.flatten r':=by
 intro ps Cc uh;induction uh with
 |nil=>intro l r l' h _ hl;cases h;exact⟨l',rfl,hl⟩
 | @cons p q ps Cc LC _ ih=>
  intro l r l' h hsz hl;obtain⟨i,v⟩:=p;obtain⟨i',v'⟩:=q;obtain⟨h1,hv⟩:=LC;simp only at h1 hv;subst h1;have h':ab (Nat.beq (len v.cells.toList) sz) (ob (wB v.cells.toList i l) (rU sz ps)) none=some r:=h;obtain⟨hlen,h'⟩:=ae h';obtain⟨l1,Iz,h'⟩:=U h';have hlen:v.cells.toList.length=sz:=by rw[<-aV];exact Nat.eq_of_beq_eq_true hlen
  obtain⟨Km,Q0,hle⟩:=zC _ _ _ _ Iz hsz hlen;have LD:=hv.cells.length;have Cf:=hl.length;have yk:v'.cells.toList.length=sz:=by rw[<-LD,hlen]
  have hrel:af ρ l1.flatten (l'.take (i*sz)++v'.cells.toList++l'.drop (i*sz+v'.cells.toList.length)):=by rw[Km,yk];exact((hl.take _).append hv.cells).append (hl.drop _)
  obtain⟨r',eR,JA⟩:=ih h' Q0 hrel;refine⟨r',?_,JA⟩;have Ah:v'.cells.size=sz:=by rw[<-yk];simp
  have ui:i*sz+v'.cells.toList.length<=l'.toArray.size:=by rw[yk,List.size_toArray,<-Cf];exact hle
  unfold Instr.fill;have hc:(decide (v'.cells.size≠sz)||decide (i*sz+v'.cells.size>l'.toArray.size))=false:=by
   have:¬(i*sz+v'.cells.size>l'.toArray.size):=by simp at ui⊢;omega
   simp[Ah]at this⊢;exact this
  simp only;rw[hc];simp only[Bool.false_eq_true,if_false];rw[oe,p8 (i*sz) l'.toArray _ ui];exact eR
theorem py {t:TypeId} (h:kO P t n is s vs=some r):
  ∃k,s.new k=some r.2∧∀ {ρ:Ren} {w:World} {us:List Value},ρ s.nx=none->af ρ vs us->Made P ρ w s.nx (Instr.buildSlice t n (tU is us).toArray) r.1 k:=by
 unfold kO at h;replace h:=U h;obtain⟨e,he,h⟩:=h;replace h:=U h;obtain⟨⟨sz,z⟩,GQ,h⟩:=h;replace h:=ae h;obtain⟨hm,h⟩:=h;replace h:=U h;obtain⟨M4,h0,h⟩:=h;replace h:=U h;obtain⟨els,eI,h⟩:=h;obtain⟨k,hk,m9⟩:=sR (P:=P) h (Nat.le_refl _);refine⟨k,hk,λ {ρ w us} ow hv=>?_⟩;obtain⟨i,zv,hi,D9,hz,hsz,mi,Df,yn,IA,LH⟩:=dY (ρ:=ρ) GQ;have h0:=qR _ _ _ h0;subst h0;have hm:n*sz<=16000000:=Nat.le_of_ble_eq_true hm;have hu:P.underlying t=some (.slice e):=by
  unfold qJ at he;split at he
  ·rename_i hu;cases he;exact hu
  ·cases he
 have Ex:¬(n*sz>2^24):=by omega
 obtain⟨r',h1,h2⟩:=tK (yS (is:=is) hv) eI (λe he=>by rw[(List.mem_replicate.1 he).2];exact Df) (af.replicate IA n);refine m9 (w':=w.alloc (.cells r'.toArray e)) ow h2 ?_ rfl rfl rfl rfl;have PV:zv.cells.size=sz:=by rw[<-Df,hz];simp
 have jU:((Array.range (n*sz)).map (zv.cells[·%zv.cells.size]!))=((List.replicate n z).flatten).toArray:=by apply Array.ext';have:=my z n;rw[Df,hz]at this;rw[PV];simpa[hz]using this
 have h1:Instr.fill (λi=>some (i*sz,sz)) ((List.replicate n z).flatten).toArray (tU is us)=some r'.toArray:=h1;simp only[Instr.buildSlice,Sem.run_bind,run_underlying hu,Result.andThen_ok,ax yn w,if_neg Ex,newRow];by_cases hn:n*sz=0
 ·have Ap:((List.replicate n z).flatten).toArray= #[]:=by
   rw[<-jU,hn];simp
  have x5:Array.range 0= #[]:=by apply Array.ext';simp
  rw[Ap]at h1;simp[hn,x5,h1]
 ·simp only[if_neg hn,Sem.run_bind,bZ LH w,Sem.run_pure,Result.andThen_ok,jU,h1,run_newObj_alloc]
end Go.Eng
end
noncomputable section
namespace Go.Eng
open Go
variable {s s':AS} {k':Blk} {l l':List Value} {x:Loc} {i:Nat} {o':Obj} {P:Program} {ρ:Ren} {r:Value×AS} {w:World}
theorem zD {ts:Array TypeId} {e:TypeId} (he:rF P ts=some e):∃t0,ts[0]? =some t0∧P.underlying t0=some (.slice e):=by
 unfold rF lR at he;split at he
 ·rename_i e' gq;cases he;split at gq
  ·rename_i t ht;exact⟨t,ht,gq⟩
  ·cases gq
 ·cases he
theorem gG {ts:Array TypeId} {d:TypeDesc} (h:lR P ts i=some d):∃t,ts[i]? =some t∧P.underlying t=some d:=by
 unfold lR at h;split at h
 ·rename_i t ht;exact⟨t,ht,h⟩
 ·cases h
theorem zE {ts:Array TypeId} {ty:TypeId} (hr:Rel P ρ s w) (h:copyA P ts s l=some r) (hl:af ρ l l'):
  jS P ρ s w (Builtin.copy_ ts ty l'.toArray) r:=by
 unfold copyA at h;replace h:=U h;obtain⟨e,he,h⟩:=h;replace h:=U h;obtain⟨sz,hs,h⟩:=h;obtain⟨t0,fk,hu⟩:=zD he;split at h
 case h_2=>cases h
 rename_i base dl c y;obtain⟨x',y',rfl,hx,hy⟩:=af.two hl;replace h:=U h;obtain⟨n,hn,h⟩:=h;rw[ak]at h;replace h:=U h;obtain⟨els,eI,h⟩:=h;obtain⟨hlen,IB⟩:=vw (P:=P) w hn hy;obtain⟨a1,a2,cs,hcs,mW,hf⟩:=bw hr eI hy (λb m c e=>Nat.le_trans (Nat.min_le_left _ _) (IB b m c e));have h0:∀(x y:Value),(#[x,y]:Array Value)[0]? =some x:= λ_ _=>rfl;have h1:∀(x y:Value),(#[x,y]:Array Value)[1]? =some y:= λ_ _=>rfl;have cW:([x',y']:List Value).toArray= #[x',y']:=rfl;rw[cW];split at h
 ·cases h;cases hx;refine⟨ρ,_,w,?_,.int _ _,hr,.refl _ _ _⟩;simp only[Builtin.copy_,fk,h0,h1,Sem.run_bind,run_underlying hu,Result.andThen_ok,hlen,ax hs w,hf,Sem.run_pure,goInt];rfl
 ·rename_i a;replace h:=U h;obtain⟨s',fR,h⟩:=h;cases h;cases hx with| @slice a x off dl c cap ad hx q1 q2 q3 q4 q5=>?_
  have hrun:∀w',(storeCells ad cs).run P w= .ok () w'->(Builtin.copy_ ts ty #[.slice (some ad) dl cap,y']).run P w= .ok (goInt (Nat.min n dl)) w':=by intro w' oP;simp only[Builtin.copy_,fk,h0,h1,Sem.run_bind,run_underlying hu,Result.andThen_ok,hlen,ax hs w,hf,Sem.run_pure,oP]
  rcases Nat.eq_zero_or_pos (Nat.min n dl)with hm|hm
  ·rw[hm]at a2 mW;have:=List.length_eq_zero_iff.1 a2;subst this;cases fR;have:cs= []:=List.length_eq_zero_iff.1 (by rw[mW];simp);subst this;exact⟨ρ,_,w,hrun w rfl,.int _ _,hr,.refl _ _ _⟩
  ·have D8:ad=⟨x.b,x.base+off,none⟩:=by
    rcases q4 with q4|q4
    ·exact q4
    ·have:=Nat.min_le_right n dl;have:Nat.min n dl<=dl:=this;omega
   subst D8;obtain⟨w',lJ,hR,hS⟩:=fM hx hr fR hcs a1;exact⟨ρ,_,w',hrun w' lJ,.int _ _,hR,hS⟩
theorem aM {r:Nat} {o:Obj} (h:w.heap[r]? =some o) (hc:∀c e f,o≠.cells c e f):(setObj r o').run P w= .ok () {w with heap:=w.heap.setIfInBounds r o'}:=by cases o<;>first|exact(hc _ _ _ rfl).elim|simp[setObj,Sem.run,h]
theorem ar {r:Nat} {o:Obj} (h:w.heap[r]? =some o) (hc:∀c e f,o≠.cells c e f):(getObj r).run P w= .ok o w:=by cases o<;>first|exact(hc _ _ _ rfl).elim|simp[getObj,Sem.run,h]
theorem Rel.setObj {a:Nat} {k:Blk} (hr:Rel P ρ s w) (hs:s.set a (some k')=some s') (hk:s.h.get a=some k) (hro:eo k=false) (hx:ρ a=some x) (hb:∀w':World,w'.heap[x.b]? =some o'->cj P ρ x w' k') (hlk:kv k=true->kv k'=true:=by intro h;cases h):
  Rel P ρ s' {w with heap:=w.heap.setIfInBounds x.b o'}∧aN ρ s w ρ s' {w with heap:=w.heap.setIfInBounds x.b o'}:=
 have hlt:=(hr.blk a k x hk hx).1
 Rel.write hr hs hk hro hx (by simp) (λb cz=>by simp[Ne.symm cz]) rfl rfl rfl (hb _ (by simp[hlt])) hlk
theorem xL {ts:Array TypeId} {ty:TypeId} (hr:Rel P ρ s w) (h:AM P ts s l=some r) (hl:af ρ l l'):
  jS P ρ s w (Builtin.clear_ ts ty l'.toArray) r:=by
 unfold AM at h;split at h
 ·rename_i yn;cases h;obtain⟨t0,fk,hu⟩:=gG yn;obtain⟨x',rfl,hx⟩:=af.wh hl;cases hx;refine⟨ρ,_,w,?_,.tuple .nil,hr,.refl _ _ _⟩;have h0:∀(x:Value),(#[x]:Array Value)[0]? =some x:= λ_=>rfl;simp only[Builtin.clear_,fk,h0,Sem.run_bind,run_underlying hu,Result.andThen_ok,Sem.run_pure]
 ·rename_i e a n c yn;obtain⟨t0,fk,hu⟩:=gG yn;obtain⟨x',rfl,hx⟩:=af.wh hl;replace h:=U h;obtain⟨⟨sz,z⟩,GQ,h⟩:=h;replace h:=U h;obtain⟨els,eI,h⟩:=h;replace h:=U h;obtain⟨s',fR,h⟩:=h;cases h;have eI:=qR _ _ _ eI;subst eI;obtain⟨i,zv,hi,D9,hz,hsz,mi,Df,Vy,IA,LH⟩:=dY (ρ:=ρ) GQ;have h0:∀(x:Value),(#[x]:Array Value)[0]? =some x:= λ_=>rfl;cases hx with| @slice a x off n c cap ad hx q1 q2 q3 q4 q5=>?_
  cases n with
  |zero=>cases fR;refine⟨ρ,_,w,?_,.tuple .nil,hr,.refl _ _ _⟩;simp only[Builtin.clear_,fk,h0,Sem.run_bind,run_underlying hu,Result.andThen_ok,Sem.run_pure]
  |succ n=>
   have D8:ad=⟨x.b,x.base+off,none⟩:=by
    rcases q4 with q4|q4
    ·exact q4
    ·omega
   subst D8;obtain⟨w',lJ,hR,hS⟩:=fM hx hr fR (af.replicate IA (n+1)) (λl hl=>by rw[(List.mem_replicate.1 hl).2];exact Df);have Sr:=hK zv.cells (n+1);rw[<-hz]at Sr;refine⟨ρ,_,w',?_,.tuple .nil,hR,hS⟩;simp only[Builtin.clear_,fk,h0,Sem.run_bind,run_underlying hu,Result.andThen_ok,Sem.run_pure,bZ LH w,Sr,lJ]
 ·rename_i k e r' yn;obtain⟨t0,fk,hu⟩:=gG yn;obtain⟨x',rfl,hx⟩:=af.wh hl;replace h:=bk h;obtain⟨kt,es,ck,hb,h⟩:=h;replace h:=U h;obtain⟨s',fR,h⟩:=h;cases h;have h0:∀(x:Value),(#[x]:Array Value)[0]? =some x:= λ_=>rfl;cases hx with| @map a x hx=>?_
  obtain⟨ents,hh,hm,_⟩:=(hr.blk _ _ x hb hx).2;have hS:=Rel.setObj (o':= .map #[] ck) hr fR hb rfl hx (λw' oP=>⟨#[],oP,⟨[],.nil,.nil,by simp⟩,by simp[Borns]⟩);refine⟨ρ,_,_,?_,.tuple .nil,hS.1,hS.2⟩;simp only[Builtin.clear_,fk,h0,Sem.run_bind,run_underlying hu,Result.andThen_ok,Sem.run_pure,ar hh (by simp),aM hh (by simp)]
 ·cases h
end Go.Eng
end
noncomputable section
namespace Go.Eng
open Go
variable {s:AS} {P:Program} {ρ:Ren} {v x':Value} {r:Value×AS} {w:World}
theorem zF {src dst:TypeId} {ds d:TypeDesc} {x:Value} (w:World) (hs:P.underlying src=some ds) (hd:P.underlying dst=some d) (h:Fa d x=some v) (hx:ag ρ x x'):
  ∃u,(convert src dst x').run P w= .ok u w∧ag ρ v u:=by
 unfold Fa at h;split at h
 ·rw[gQ]at h;cases h;cases hx;refine⟨_,?_,.int _ _⟩;simp only[convert,Sem.run_bind,run_underlying hs,run_underlying hd,Result.andThen_ok,Conv.intToInt,Sem.run_pure]
 ·cases h;cases hx;refine⟨_,?_,.string _⟩;simp only[convert,Sem.run_bind,run_underlying hs,run_underlying hd,Result.andThen_ok,Conv.intToString,Sem.run_pure]
 ·cases h;cases hx;refine⟨_,?_,.string _⟩;simp only[convert,Sem.run_bind,run_underlying hs,run_underlying hd,Result.andThen_ok,Sem.run_pure]
 ·cases h
theorem oh:∀ {els:List (List Value)} {l:List UInt8},lx els=some l->els.flatten=l.map λ(b:UInt8)=>Value.int .u8 (b.toNat:Int):=by
 intro els;induction els with
 |nil=>intro l h;cases h;rfl
 |cons e els ih=>
  intro l h;have h':(match(generalizing:=false) e with
   | [.int k n]=>ab (tF k .u8) (ob (jQ n) λn=>ab (Nat.blt n 256) (ob (lx els) λr=>some (UInt8.ofNat n::r)) none) none
   |_=>none)=some l:=h
  split at h'
  ·rename_i k n;obtain⟨hk,h'⟩:=ae h';obtain⟨m,hm,h'⟩:=U h';obtain⟨hlt,h'⟩:=ae h';obtain⟨r,hr,h'⟩:=U h';cases h';have hk:=jA.1 hk;have hm:=fG hm;subst hk hm;have hlt:m<256:=Nat.le_of_ble_eq_true hlt;rw[List.flatten_cons,ih hr];have e1:(UInt8.ofNat m).toNat=m:=by simp[UInt8.toNat_ofNat'];omega
   simp[e1]
  ·cases h'
theorem DD {l:List UInt8} {m:List Value} (h:af ρ (l.map λ(b:UInt8)=>Value.int .u8 (b.toNat:Int)) m):m=l.map λ(b:UInt8)=>Value.int .u8 (b.toNat:Int):=
 af.plain h (λv hv=>by obtain⟨b,_,rfl⟩:=List.mem_map.1 hv;exact .int _ _)
theorem zG {src dst e:TypeId} {x:Value} (hr:Rel P ρ s w) (hs:P.underlying src=some (.slice e)) (he:P.underlying e=some (.int .u8)) (hd:P.underlying dst=some .string) (h:Fb s x=some v) (hx:ag ρ x x'):∃u,(convert src dst x').run P w= .ok u w∧ag ρ v u:=by
 unfold Fb at h;split at h
 ·rename_i base n c;replace h:=U h;obtain⟨els,eI,h⟩:=h;replace h:=U h;obtain⟨l,hl,h⟩:=h;cases h;obtain⟨_,a2,cs,hcs,mW,hf⟩:=bw hr eI hx (λb m c e=>by cases e;exact Nat.le_refl _);rw[oh hl]at hcs;have hcs:=DD hcs;refine⟨.string ⟨⟨l⟩⟩,?_,.string _⟩;cases hx with
  |bc=>
   have:l= []:=by rw[Nat.zero_mul]at mW;rw[hcs,List.length_map]at mW;exact List.length_eq_zero_iff.1 mW
   subst this;have:(convert src dst (.slice none 0 0)).run P w= .ok (.string .empty) w:=by simp only[convert,Sem.run_bind,run_underlying hs,run_underlying hd,run_underlying he,Result.andThen_ok,Conv.bytesToString,Sem.run_pure]
   exact this
  |slice off n c cap ad hx q1 q2 q3 q4 q5=>
   have Mc:(loadCells ad n).run P w= .ok ((l.map (λb=>(b.toNat:Int))).map (Value.int .u8)).toArray w:=by have:=hf;simp only[Builtin.firstCells,Nat.mul_one]at this;rw[this,hcs,List.map_map];rfl
   have:=run_bytesToString (P:=P) w ad n cap _ Mc;rw[foldl_push_byteCells]at this;simp only[convert,Sem.run_bind,run_underlying hs,run_underlying hd,run_underlying he,Result.andThen_ok];rw[this];simp
 ·cases h
theorem Bf {src dst e:TypeId} {x:Value} (hs:P.underlying src=some .string) (hd:P.underlying dst=some (.slice e)) (he:P.underlying e=some (.int .u8)) (h:Fc e s x=some r):∃k,s.new k=some r.2∧∀ {ρ:Ren} {w:World} {x':Value},ρ s.nx=none->ag ρ x x'->Made P ρ w s.nx (convert src dst x') r.1 k:=by
 unfold Fc at h;split at h
 ·rename_i b;obtain⟨hle,h⟩:=ae h;obtain⟨els,eI,h⟩:=U h;have eI:=nZ eI;subst eI;have hle:b.data.toList.length<=1000000:=by rw[<-aV];exact Nat.le_of_ble_eq_true hle
  have hbs:b.size=b.data.toList.length:=by simp
  rw[aV,<-hbs]at h;obtain⟨k,hk,m9⟩:=Be (P:=P) h;refine⟨k,hk,λ {ρ w x'} ow hx=>?_⟩;cases hx;have hrun:=run_bytes_of_string (P:=P) w src dst e b hs hd he;have x3:=grownCap_le w (need:=b.size) 0 e;have jU:bytesRow b (grownCap w b.size 0 e)=((b.data.toList.map λ(b:UInt8)=>Value.int .u8 (b.toNat:Int))++List.replicate (grownCap w b.size 0 e-b.size) (Value.int .u8 0)).toArray:=by apply Array.ext';simp[bytesRow]
  have hlen:(bytesRow b (grownCap w b.size 0 e)).size=grownCap w b.size 0 e:=by rw[jU];simp at hbs⊢;omega
  rw[hlen,jU]at hrun;exact m9 (rest:=List.replicate (grownCap w b.size 0 e-b.size) (Value.int .u8 0)) (lo:=grownCap w b.size 0 e) (hi:=grownCap w b.size 0 e+1) (cap:=grownCap w b.size 0 e)
   (w':=w.drew.alloc (.cells ((b.data.toList.map λ(b:UInt8)=>Value.int .u8 (b.toNat:Int))++List.replicate (grownCap w b.size 0 e-b.size) (Value.int .u8 0)).toArray e (grownCap w b.size 0 e,grownCap w b.size 0 e+1)))
   ow (yQ _) x3 (by simp at hbs⊢;omega) (λo h1 h2=>⟨by simp at hbs⊢;omega,he⟩) hrun rfl rfl rfl rfl
 ·cases h
end Go.Eng
end
noncomputable section
namespace Go.Eng
open Go
variable {s s':AS} {l l':List Value} {x:Loc} {b n off sz:Nat} {P:Program} {ρ:Ren} {v x':Value} {r:Value×AS} {w w':World}
theorem gX {t:TypeId} (h:aK P t=some n):P.cellsOf t=n:=by unfold aK at h;unfold Program.cellsOf;rw[h];rfl
theorem Cy {o:Nat} {e:TypeId} (hs:w.shape? b=some (e,n)) (hc:(w.cell? ⟨b,o,none⟩).isSome=true):o<n:=by
 unfold World.shape? at hs;unfold World.cell? at hc;split at hs
 ·rename_i c el fr hb;cases hs;simp only[hb,Option.isSome_none,Bool.false_eq_true,if_false]at hc;rcases Nat.lt_or_ge o c.size with h|h
  ·exact h
  ·rw[Array.getElem?_eq_none h]at hc;cases hc
 ·cases hs
theorem qa {e:TypeId} {count:Nat} (hc:P.cellsOf e=sz) (h0:0<sz) (hm:off%sz=0) (hn:off/sz+n<=count):liesAt P P.depth e count off e n=true:=by
 have hd:P.depth=(2*(P.types.size+Made.depth)+1)+1:=rfl;rw[hd];simp only[liesAt,Bool.or_eq_true];left;rw[hd];have:¬sz=0:=by omega
 simp[rowAt,hc,hm,hn,sameLayout,this]
theorem Bg {o:Nat} {sh:TypeId×Nat} (h:w.shape? b=some sh):(Conv.seenAt ⟨b,o,none⟩).run P w= .ok ⟨b,o,none⟩ w:=by
 have hv:(viewAt b).run P w= .ok none w:=by simp[viewAt,h]
 simp only[Conv.seenAt,Sem.run_bind,hv,Result.andThen_ok,Sem.run_pure]
theorem qb {d:Option TypeDesc} (h:wE d=true):d=some .unsafePointer:=by
 unfold wE at h;split at h
 ·rename_i d;have h:=Nat.eq_of_beq_eq_true h;cases d<;>first|rfl|(simp[TypeDesc.ctorIdx]at h)
 ·cases h
theorem qc {src dst e:TypeId} {back:Bool} {x:Value} (hr:Rel P ρ s w) (ht:(back=false∧P.underlying src=some (.pointer e)∧P.underlying dst=some .unsafePointer)∨(back=true∧P.underlying src=some .unsafePointer∧P.underlying dst=some (.pointer e))) (h:BM P e back s x=some v) (hx:ag ρ x x'):∃u w',(convert src dst x').run P w= .ok u w'∧w'=w∧ag ρ v u:=by
 unfold BM at h;split at h
 ·cases h;cases hx;refine⟨_,w,?_,rfl,.fz⟩;rcases ht with ⟨_,h1,h2⟩|⟨_,h1,h2⟩<;>simp only[convert,Conv.unsafePointer,Sem.run_bind,run_underlying h1,run_underlying h2,Result.andThen_ok,Sem.run_pure]
 ·rename_i a;replace h:=U h;obtain⟨n,hn,h⟩:=h;replace h:=bP h;obtain⟨c,sz,m,ro,et,hb,h⟩:=h;replace h:=ae h;obtain⟨h0,h⟩:=h;replace h:=ae h;obtain⟨hm,h⟩:=h;replace h:=ae h;obtain⟨hs,h⟩:=h;replace h:=U h;obtain⟨l,hl,h⟩:=h;replace h:=ae h;obtain⟨PX,h⟩:=h;cases h;cases hx with| @ptr a x off hx=>?_
  obtain⟨_,hC⟩:=hr.blk _ _ x hb hx;have hC:aH P ρ x w c sz m ro et:=hC;have hs:=Nat.eq_of_beq_eq_true hs;subst hs;have h0:0<n:=Nat.le_of_ble_eq_true h0;have hm:off%n=0:=Nat.eq_of_beq_eq_true hm;obtain⟨q1,q2,q3⟩:=hC.cell _ _ hl;have OS:off/n*n=off:=by have:=Nat.div_add_mod off n;rw[hm,Nat.mul_comm]at this;simpa using this
  have hall:∀j,j<n->x.base+off+j<x.lim:= λj hj=>by
   obtain⟨u,hu,_⟩:=q3 j _ (List.getElem?_eq_getElem (by omega));have e1:x.base+(Nat.div off n*n+j)=x.base+off+j:=by show x.base+(off/n*n+j)=x.base+off+j;omega
   rw[e1]at hu;exact Cy hC.shape (by rw[hu];rfl)
  refine⟨_,w,?_,rfl,.ptr off hx⟩;have fh:¬n=0:=by omega
  have Na:=Bg (P:=P) (o:=x.base+off) hC.shape;rcases ht with ⟨_,h1,h2⟩|⟨yj,h1,h2⟩
  ·have O3:(cellsIn x.b).run P w= .ok (some x.lim) w:=by simp[cellsIn,hC.shape]
   have hlt:¬(x.base+off≥x.lim):=by have:=hall 0 h0;omega
   have dH:(decide (x.base+off≥x.lim)&&(⟨x.b,x.base+off,none⟩:Addr).spot.isNone)=false:=by rw[decide_eq_false hlt];rfl
   simp only[convert,Conv.unsafePointer,Sem.run_bind,run_underlying h1,run_underlying h2,Result.andThen_ok,Sem.run_pure,Na,O3,ax hn w,dH,fh,decide_false,Bool.or_self,Bool.false_eq_true,if_false]
  ·subst yj;have he:et=e:=Nat.eq_of_beq_eq_true PX;subst he;obtain⟨q,hq⟩:=hC.mult;have gE:(x.base+off)%n=0:=by
    rw[hq,<-OS,<-Nat.add_mul];simp
   have hlt:=hall (n-1) (by omega);have Kn:(variablesAt ⟨x.b,x.base+off,none⟩ et 1).run P w= .ok true w:=by
    have mQ:(shape (⟨x.b,x.base+off,none⟩:Addr).block).run P w= .ok (some (et,x.lim)) w:=by rw[run_shape];exact congrArg (λz=>Result.ok z w) hC.shape
    have hle:(x.base+off)/n+1<=x.lim/n:=by rw[Nat.le_div_iff_mul_le h0,Nat.add_mul,Nat.one_mul];have:=Nat.div_add_mod (x.base+off) n;rw[gE,Nat.mul_comm]at this;omega
    simp only[variablesAt,Sem.run_bind,run_program,Result.andThen_ok,mQ,Sem.run_pure,gX hn];rw[qa (gX hn) h0 gE hle]
   simp only[convert,Conv.unsafePointer,Sem.run_bind,run_underlying h1,run_underlying h2,Result.andThen_ok,Sem.run_pure,Na,ax hn w,Kn,fh,decide_false,Bool.or_true,if_true,Sem.run_pure]
 ·cases h
theorem zH {ts:Array TypeId} {ty:TypeId} (w:World) (h:E7 l=some v) (hl:af ρ l l'):
  ∃u,(Builtin.unsafeSliceData_ ts ty l'.toArray).run P w= .ok u w∧ag ρ v u:=by
 unfold E7 at h;split at h
 ·cases h;obtain⟨x',rfl,hx⟩:=af.wh hl;cases hx;exact⟨_,rfl,.fz⟩
 ·rename_i a0 n0 c0;obtain⟨x',rfl,hx⟩:=af.wh hl;replace h:=ae h;obtain⟨h0,h⟩:=h;cases h;cases hx with| @slice a x off _ _ cap ad hx q1 q2 q3 q4 q5=>?_
  have h0:0<c0/512:=Nat.le_of_ble_eq_true h0;have D8:ad=⟨x.b,x.base+off,none⟩:=by
   rcases q4 with q4|q4
   ·exact q4
   ·omega
  subst D8;exact⟨_,Go.Lib.run_unsafeSliceData_row w ts ty _ n0 cap (by omega),.ptr off hx⟩
 ·cases h
theorem Rel.freeze {a:Nat} {c:T (List Value)} {ro:Bool} {et:TypeId} (hr:Rel P ρ s w) (hs:s.set a (some (.cells c sz n true et))=some s') (hk:s.h.get a=some (.cells c sz n ro et)) (hx:ρ a=some x) (hsz:w'.heap.size=w.heap.size) (hold:∀b,b≠x.b->w'.heap[b]? =w.heap[b]?) (hc:∀o,w'.cell? ⟨x.b,o,none⟩=w.cell? ⟨x.b,o,none⟩) (mQ:w'.shape? x.b=w.shape? x.b) (ht:w'.tape=w.tape) (ho:w'.os=w.os) (hu:w'.output=w.output):Rel P ρ s' w'∧aN ρ s w ρ s' w':=by
 obtain⟨hnx,hg⟩:=AS.cP hs;have halt:a<s.nx:=by
  rcases Nat.lt_or_ge a s.nx with h|h
  ·exact h
  ·rw[hr.eu a h]at hx;cases hx
 obtain⟨hlt,hC⟩:=hr.blk _ _ x hk hx;have hC:aH P ρ x w c sz n ro et:=hC;have tr:∀ {y:Loc} {c' jn n' uT},y.b=x.b->∀ {Am},aH P ρ y w c' jn n' Am uT->aH P ρ y w' c' jn n' true uT:= λ {y c' jn n' uT} hy {Am} h=>
  ⟨λi l hl=>(let⟨p1,p2,p3⟩:=h.cell i l hl;⟨p1,p2,λj v hv=>by rw[hy,hc,<-hy];exact p3 j v hv⟩),λo ho=>by rw[hy,hc,<-hy];exact h.all o ho,λq=>(by cases q),(by rw[hy,mQ,<-hy];exact h.shape),h.mult⟩
 refine(λ(hS:aN ρ s w ρ s' w')=>⟨⟨λa ha=>hr.eu a (by omega),λb hb=>?_,λb k2 y e e'=>?_,by rw[(AS.aS hs).1,hnx];exact hr.lim,λb b' k1 k2 x1 x2 cL e1 e2 r1 r2 kg=>?_,hr.gl.of hS.size hS.frame⟩,hS⟩) ⟨λ_ _=>rfl,by omega,ht,ho,hu,by omega,λb cz hn=>?_,λb cz hn=>?_,λb r cz=>?_,(AS.aS hs).1,AS.qQ hs,λb k2 y hl _ zY hro hy=>hold _ (λe=>by
  have TC:b≠a:=by have:=(AS.aS hs).2;omega
  have:=(hr.aX b a k2 _ y x TC zY hk hy hx e).1;rw[hro]at this;cases this)⟩
 ·have iO:b≠x.b:= λe=>hn ⟨a,_,x,hk,hx,e.symm⟩;refine⟨hold b iO,?_⟩;rintro⟨c,k2,y,e,e',rfl⟩;rw[hg]at e;by_cases hc:c=a
  ·rw[hc,hx]at e';cases e';exact iO rfl
  ·rw[if_neg hc]at e;exact hn ⟨c,k2,y,e,e',rfl⟩
 ·exact .inl (by rw[hg,if_neg (λe=>by rw[e,hx]at hn;cases hn)])
 ·by_cases iO:b=x.b
  ·subst iO;have:kv (.cells c sz n ro et)=true:=oW (P:=P) (ρ:=ρ) cz (hr.blk _ _ x hk hx).2;cases this
  ·exact⟨r,by rw[hold b iO];exact cz⟩
 ·rw[hg,if_neg (by omega)];exact hr.top b (by omega)
 ·rw[hg]at e;by_cases cz:b=a
  ·subst cz;rw[if_pos rfl]at e;cases e;rw[hx]at e';cases e';exact⟨by rw[hsz];exact hlt,tr rfl hC⟩
  ·rw[if_neg cz]at e;obtain⟨h1,h2⟩:=hr.blk b k2 y e e';refine⟨by omega,?_⟩;by_cases Dg:y.b=x.b
   ·have hro:=(hr.aX b a k2 _ y x cz e hk e' hx Dg).1;cases k2 with
    |cells c2 s2 n2 TD OO=>have hro:TD=true:=hro;subst hro;exact tr Dg h2
    |map=>cases hro
    |cQ=>cases hro
    |mapIter=>cases hro
    |loop=>cases hro
    |pmap=>cases hro
   ·exact h2.congr (hold _ Dg)
 ·have old:∀ {b k},s'.h.get b=some k->∃k0,s.h.get b=some k0∧(eo k0=true->eo k=true):= λ {b k} e=>by
   rw[hg]at e;by_cases hb:b=a
   ·rw[if_pos hb]at e;cases e;exact⟨_,by rw[hb];exact hk,λ_=>rfl⟩
   ·rw[if_neg hb]at e;exact⟨k,e,id⟩
  obtain⟨TE,f1,g1⟩:=old e1;obtain⟨TF,f2,g2⟩:=old e2;obtain⟨p1,p2⟩:=hr.aX b b' TE TF x1 x2 cL f1 f2 r1 r2 kg;exact⟨g1 p1,g2 p2⟩
theorem xM (w:World) (a:Addr) (n:Nat) (x:Addr):(w.freeze a n).cell? x=w.cell? x:=by
 unfold World.freeze;split
 ·rfl
 ·simp only[World.cell?,Array.getElem?_modify];by_cases h:a.block=x.block
  ·rw[if_pos h];cases hk:w.heap[x.block]? with
   |none=>simp
   |some o=>cases o<;>simp
  ·rw[if_neg h]
theorem uE (w:World) (a:Addr) (n:Nat) (r:Nat):(w.freeze a n).shape? r=w.shape? r:=by
 unfold World.freeze;split
 ·rfl
 ·simp only[World.shape?,Array.getElem?_modify];by_cases h:a.block=r
  ·rw[if_pos h];cases hk:w.heap[r]? with
   |none=>simp
   |some o=>cases o<;>simp
  ·rw[if_neg h]
theorem xN (w:World) (a:Addr) (n:Nat) (b:Nat) (h:b≠a.block):(w.freeze a n).heap[b]? =w.heap[b]?:=by
 unfold World.freeze;split
 ·rfl
 ·simp[Array.getElem?_modify,Ne.symm h]
theorem zI (w:World) (a:Addr) (n:Nat):(w.freeze a n).heap.size=w.heap.size:=by unfold World.freeze;split<;>simp
theorem zJ (w:World) (a:Addr) (n:Nat):(w.freeze a n).tape=w.tape∧(w.freeze a n).os=w.os∧(w.freeze a n).output=w.output:=by unfold World.freeze;split<;>exact⟨rfl,rfl,rfl⟩
theorem Bh {ts:Array TypeId} {ty:TypeId} (hr:Rel P ρ s w) (h:J4 P ts s l=some r) (hl:af ρ l l'):
  jS P ρ s w (Builtin.unsafeString_ ts ty l'.toArray) r:=by
 have Ew:IntKind.i64.max=9223372036854775807:=rfl;unfold J4 at h;split at h
 ·rename_i u k yn;obtain⟨t0,fk,hu⟩:=gG yn;obtain⟨x',y',rfl,hx,hy⟩:=af.two hl;cases hx;cases hy;cases h;refine⟨ρ,_,w,?_,.string _,hr,.refl _ _ _⟩;have cW:([Value.pointer none,.int k (.ofNat 0)]:List Value).toArray= #[.pointer none,.int k 0]:=rfl;rw[cW];have h1:¬((0:Int)<0):=by decide
  have h2:¬((0:Int)>IntKind.i64.max):=by decide
  rw[show Builtin.unsafeString_ ts ty #[.pointer none,.int k 0]=asInt (.int k 0)>>=_ from rfl];simp only[fk,Sem.run_bind,lD,Result.andThen_ok,if_neg h1,if_neg h2,if_pos,Sem.run_pure];rfl
 ·rename_i u a k n yn;obtain⟨t0,fk,hu⟩:=gG yn;obtain⟨x',y',rfl,hx,hy⟩:=af.two hl;replace h:=bP h;obtain⟨c,sz,m,ro,et,hb,h⟩:=h;replace h:=ae h;obtain⟨het,h⟩:=h;replace h:=ae h;obtain⟨hsz,h⟩:=h;replace h:=ae h;obtain⟨JB,h⟩:=h;replace h:=ae h;obtain⟨hn,h⟩:=h;replace h:=U h;obtain⟨els,eI,h⟩:=h;replace h:=U h;obtain⟨bs,hbs,h⟩:=h;replace h:=U h;obtain⟨s',fR,h⟩:=h;cases h;cases hy;cases hx with| @ptr a x off hx=>?_
  have het:=Nat.eq_of_beq_eq_true het;have hsz:=Nat.eq_of_beq_eq_true hsz;have JB:=Nat.eq_of_beq_eq_true JB;subst het hsz;have hn:n<1000000:=Nat.le_of_ble_eq_true hn;have EB:aK P et=some 1:=by
   cases hq:aK P et with
   |none=>rw[hq]at JB;cases JB
   |some q=>rw[hq]at JB;simp at JB;rw[JB]
  obtain⟨hlt,hC⟩:=hr.blk _ _ x hb hx;have hC:aH P ρ x w c 1 m ro et:=hC;obtain⟨D7,hg⟩:=oY _ _ _ eI;have hlen:∀l∈els,l.length=1:= λl hl=>by obtain⟨i,hi⟩:=List.mem_iff_getElem?.1 hl;exact(hC.cell _ _ (hg i l hi)).2.1
  have OT:=oh hbs;have hbl:bs.length=n:=by have:=gR hlen;rw[OT,List.length_map,D7]at this;omega
  have hcell:∀j (b:UInt8),bs[j]? =some b->w.cell? ⟨x.b,x.base+off+j,none⟩=some (.int .u8 b.toNat):=by
   intro j b hj;have hf:els.flatten[j]? =some (.int .u8 (b.toNat:Int)):=by rw[OT];simp[hj]
   obtain⟨_,l,q1,q2⟩:=vu hlen hf;obtain⟨u,hu,eR⟩:=(hC.cell _ _ (hg _ l q1)).2.2 _ _ q2;cases eR;have e1:x.base+((off+j/1)*1+j%1)=x.base+off+j:=by simp[Nat.mod_one];omega
   have e2:x.base+(((⟨a,off,none⟩:Addr).off+j/1)*1+j%1)=x.base+off+j:=e1;rw[e2]at hu;exact hu
  have h1:¬(((n:Nat):Int)<0):=by omega
  have h2:¬(((n:Nat):Int)>IntKind.i64.max):=by rw[Ew];omega
  have cW:([Value.pointer (some ⟨x.b,x.base+off,none⟩),.int k (.ofNat n)]:List Value).toArray= #[.pointer (some ⟨x.b,x.base+off,none⟩),.int k (n:Int)]:=rfl;rw[cW];cases n with
  |zero=>have:bs= []:=List.length_eq_zero_iff.1 hbl;subst this;obtain⟨hR,hS⟩:=Rel.freeze hr fR hb hx rfl (λ_ _=>rfl) (λ_=>rfl) rfl rfl rfl rfl;refine⟨ρ,_,w,?_,.string _,hR,hS⟩;rw[show Builtin.unsafeString_ ts ty #[.pointer (some ⟨x.b,x.base+off,none⟩),.int k ((0:Nat):Int)]=asInt (.int k ((0:Nat):Int))>>=_ from rfl];simp only[fk,Sem.run_bind,lD,Result.andThen_ok,if_neg h1,if_neg h2];rfl
  |succ n=>
   have hne:¬(((n+1:Nat):Int)=0):=by omega
   have gj:x.base+off+n<x.lim:=by
    have PH:n<bs.length:=by omega
    have:=hcell n _ (List.getElem?_eq_getElem PH);exact Cy hC.shape (by rw[this];rfl)
   have Kn:(variablesAt ⟨x.b,x.base+off,none⟩ et (n+1)).run P w= .ok true w:=by
    have mQ:(shape (⟨x.b,x.base+off,none⟩:Addr).block).run P w= .ok (some (et,x.lim)) w:=by rw[run_shape];exact congrArg (λz=>Result.ok z w) hC.shape
    simp only[variablesAt,Sem.run_bind,run_program,Result.andThen_ok,mQ,Sem.run_pure,gX EB];rw[qa (gX EB) (by omega) (Nat.mod_one _) (by simp;omega)]
   have Mc:=Go.Lib.run_loadBytes (P:=P) w bs ⟨x.b,x.base+off,none⟩ .empty (λj b hj=>by rw[cY];exact hcell j b hj);rw[hbl]at Mc;obtain⟨f1,f2,f3⟩:=zJ w ⟨x.b,x.base+off,none⟩ (n+1);obtain⟨hR,hS⟩:=Rel.freeze (w':=w.freeze ⟨x.b,x.base+off,none⟩ (n+1)) hr fR hb hx (zI _ _ _) (λb cz=>xN _ _ _ _ cz) (λ_=>xM _ _ _ _) (uE _ _ _ _) f1 f2 f3;refine⟨ρ,.string ⟨⟨bs⟩⟩,_,?_,.string _,hR,hS⟩;have N9:(elemOf t0).run P w= .ok et w:=by simp[elemOf,run_underlying hu]
   have e0:(⟨(ByteArray.empty).data++bs.toArray⟩:ByteArray)=⟨⟨bs⟩⟩:=by have:(ByteArray.empty).data= #[]:=rfl;rw[this];simp
   rw[e0]at Mc;rw[show Builtin.unsafeString_ ts ty #[.pointer (some ⟨x.b,x.base+off,none⟩),.int k ((n+1:Nat):Int)]=asInt (.int k ((n+1:Nat):Int))>>=_ from rfl];simp only[fk,Sem.run_bind,lD,Result.andThen_ok,if_neg h1,if_neg h2,if_neg hne,N9,Int.toNat_natCast,Kn,if_true,Mc,run_freeze,Sem.run_pure]
 ·cases h
theorem xO {t:TypeId} {x:Value} (hr:Rel P ρ s w) (h:AJ P t s x=some r) (hx:ag ρ x x'):jS P ρ s w (Instr.range t x') r:=by
 unfold AJ at h;split at h
 ·rename_i b hu;replace h:=U h;obtain⟨s',fR,h⟩:=h;cases h;cases hx;have z8:(w.alloc (.stringIter b 0)).heap=w.heap.push (.stringIter b 0):=rfl;have hA:=Rel.alloc (P:=P) (x:=⟨w.heap.size,0,0,[]⟩) (w':=w.alloc (.stringIter b 0)) hr fR rfl (by simp[z8]) (λc hc=>by simp[z8,Array.getElem?_push,Nat.ne_of_lt hc]) rfl rfl rfl ⟨rfl,by simp[z8]⟩;refine⟨_,_,_,?_,ag.ptr (x:=⟨w.heap.size,0,0,[]⟩) 0 (bE _ _ _),hA.1,hA.2⟩;simp only[Instr.range,Sem.run_bind,run_underlying hu,Result.andThen_ok,Sem.run_pure,run_newObj_alloc]
 ·rename_i k e hu;replace h:=U h;obtain⟨s',fR,h⟩:=h;cases h;cases hx;have z8:(w.alloc (.mapIter none 0 #[] 0)).heap=w.heap.push (.mapIter none 0 #[] 0):=rfl;have hA:=Rel.alloc (P:=P) (x:=⟨w.heap.size,0,0,[]⟩) (w':=w.alloc (.mapIter none 0 #[] 0)) hr fR rfl (by simp[z8]) (λc hc=>by simp[z8,Array.getElem?_push,Nat.ne_of_lt hc]) rfl rfl rfl ⟨rfl,.inl ⟨rfl,by simp[z8]⟩⟩;refine⟨_,_,_,?_,ag.ptr (x:=⟨w.heap.size,0,0,[]⟩) 0 (bE _ _ _),hA.1,hA.2⟩;simp only[Instr.range,Sem.run_bind,run_underlying hu,Result.andThen_ok,Sem.run_pure,run_newObj_alloc]
 ·rename_i m k e hu;replace h:=bk h;obtain⟨kt,es,ck,hb,h⟩:=h;replace h:=U h;obtain⟨s',fR,h⟩:=h;cases h;cases hx with| @map _ y hy=>?_
  obtain⟨ents,hh,_⟩:=(hr.blk _ _ y hb hy).2;have z8:(w.alloc (.mapIter (some y.b) ck #[] ck)).heap=w.heap.push (.mapIter (some y.b) ck #[] ck):=rfl;have hA:=Rel.alloc (P:=P) (x:=⟨w.heap.size,0,0,[]⟩) (w':=w.alloc (.mapIter (some y.b) ck #[] ck)) hr fR rfl (by simp[z8]) (λc hc=>by simp[z8,Array.getElem?_push,Nat.ne_of_lt hc]) rfl rfl rfl ⟨rfl,.inr ⟨m,y,rfl,iM (hr.eu _ (Nat.le_refl _)) _ _ _ hy,by simp[z8]⟩⟩;refine⟨_,_,_,?_,ag.ptr (x:=⟨w.heap.size,0,0,[]⟩) 0 (bE _ _ _),hA.1,hA.2⟩;simp only[Instr.range,Sem.run_bind,run_underlying hu,Result.andThen_ok,Sem.run_pure,ar hh (by simp),run_newObj_alloc]
 ·cases h
theorem zK {ty:TypeId} {x:Value} (hr:Rel P ρ s w) (h:E6 s x=some r) (hx:ag ρ x x'):jS P ρ s w (Instr.next x' true ty) r:=by
 unfold E6 at h;split at h
 ·rename_i a sp;split at h
  ·rename_i b pos hb;cases hx with| @ptr a y off hy=>?_
   obtain⟨_,h0,hh⟩:=hr.blk _ _ y hb hy;rw[h0];rw[ah]at h;split at h
   ·rename_i hlt;replace h:=U h;obtain⟨s',fR,h⟩:=h;cases h;have hlt:pos<b.size:=by
     have:pos<len b.data.toList:=Nat.le_of_ble_eq_true hlt;rw[aV]at this;simpa using this
    have hS:=Rel.setObj (o':= .stringIter b (pos+(Utf8.decode b pos).2)) hr fR hb rfl hy (λw' oP=>⟨h0,oP⟩);refine⟨ρ,_,_,?_,.tuple (.cons (.bool _) (.cons (.int _ _) (.cons (.int _ _) .nil))),hS.1,hS.2⟩;simp only[Instr.next,Sem.run_bind,Sem.run_pure,Result.andThen_ok,ar hh (by simp),if_pos hlt,aM hh (by simp),goInt]
    try rfl
   ·rename_i hlt;cases h;have hlt:¬pos<b.size:= λh=>hlt (by
     have:pos<len b.data.toList:=by rw[aV];simpa using h
     exact Nat.ble_eq_true_of_le this)
    refine⟨ρ,_,w,?_,.tuple (.cons (.bool _) .nil),hr,.refl _ _ _⟩;simp only[Instr.next,Sem.run_bind,Sem.run_pure,Result.andThen_ok,ar hh (by simp),if_neg hlt]
    try rfl
  ·cases h
 ·cases h
theorem Bi {ts:Array TypeId} {ty:TypeId} (hr:Rel P ρ s w) (ht:AK (lR P ts 0)=true) (h:J2 s l=some v) (hl:af ρ l l'):
  ∃u,(Builtin.len_ ts ty l'.toArray).run P w= .ok u w∧ag ρ v u:=by
 have x4:∃t0 k e,ts[0]? =some t0∧P.underlying t0=some (.map k e):=by
  unfold AK at ht;split at ht
  ·rename_i k e yn;obtain⟨t0,h1,h2⟩:=gG yn;exact⟨t0,k,e,h1,h2⟩
  ·cases ht
 obtain⟨t0,k,e,fk,hu⟩:=x4;have h0:∀(x:Value),(#[x]:Array Value)[0]? =some x:= λ_=>rfl;unfold J2 at h;split at h
 ·cases h;obtain⟨x',rfl,hx⟩:=af.wh hl;cases hx;refine⟨_,?_,.int _ _⟩;simp only[Builtin.len_,fk,h0,Sem.run_bind,run_underlying hu,Result.andThen_ok,Sem.run_pure,goInt];rfl
 ·obtain⟨x',rfl,hx⟩:=af.wh hl;replace h:=bk h;obtain⟨kt,es,ck,hb,h⟩:=h;rw[ak]at h;cases h;cases hx with| @map a x hx=>?_
  obtain⟨ents,hh,⟨m,hp,hf,_⟩,_⟩:=(hr.blk _ _ x hb hx).2;refine⟨_,?_,.int _ _⟩;have hlen:len es=ents.size:=by
   rw[aV];have h1:∀ {l:List (Value×Value×Nat)} {m:List MapEntry},F2 (λp e=>p.1=e.key∧aC P kt p.1=true∧Plain p.1∧ag ρ p.2.1 e.val∧(p.2.2=0∨p.2.2=e.born+1)) l m->l.length=m.length:=by
    intro l m h;induction h with
    |nil=>rfl
    |cons _ _ ih=>simp[ih]
   rw[h1 hf,hp.length_eq];simp
  simp only[Builtin.len_,fk,h0,Sem.run_bind,run_underlying hu,Result.andThen_ok,Sem.run_pure,goInt,ar hh (by simp),hlen];rfl
 ·cases h
end Go.Eng
end
noncomputable section
namespace Go.Eng
open Go
variable {ks:List KK} {l:List Value} {d dd off:Nat} {P:Program} {ρ:Ren} {v v':Value}
theorem dZ {k:KK} (h:aJ (k::ks) l=true):∃v r,l=v::r∧mg k v=true∧aJ ks r=true:=by
 cases l with
 |nil=>cases h
 |cons v r=>
  have h':ab (mg k v) (aJ ks r) false=true:=h;rw[ah]at h';split at h'
  ·exact⟨v,r,rfl,‹_›,h'⟩
  ·cases h'
theorem cV (h:aJ [] l=true):l= []:=by
 cases l with
 |nil=>rfl
 |cons v r=>cases h
theorem xP:∀ {ks:List KK} {l:List Value},aJ ks l=true->l.length=ks.length:=by
 intro ks;induction ks with
 |nil=>intro l h;rw[cV h];rfl
 |cons k ks ih=>intro l h;obtain⟨v,r,rfl,_,h⟩:=dZ h;simp[ih h]
theorem cq:∀ {a b:List KK} {l:List Value},aJ (a++b) l=true->aJ a (l.take a.length)=true∧aJ b (l.drop a.length)=true:=by
 intro a;induction a with
 |nil=>intro b l h;exact⟨rfl,h⟩
 |cons k a ih=>intro b l h;obtain⟨v,r,rfl,h1,h2⟩:=dZ h;obtain⟨h3,h4⟩:=ih h2;refine⟨?_,h4⟩;show ab (mg k v) (aJ a (r.take a.length)) false=true;rw[h1];exact h3
theorem hO:∀ {ks:List KK} {l:List Value},aJ ks l=true->∀v∈l,Plain v∧cF v=true:=by
 intro ks;induction ks with
 |nil=>intro l h;rw[cV h];intro v hv;cases hv
 |cons k ks ih=>
  intro l h;obtain⟨v,r,rfl,h1,h2⟩:=dZ h;intro u hu;rcases List.mem_cons.1 hu with rfl|hu
  ·unfold mg at h1;split at h1
   ·exact⟨.int _ _,rfl⟩
   ·exact⟨.string _,rfl⟩
   ·exact⟨.bool _,rfl⟩
   ·cases h1
  ·exact ih h2 u hu
theorem zL {a:Option Bool} (h:fO a ks v=true):Plain v:=by
 unfold fO at h;split at h
 ·split at h
  ·exact .agg _ (λv hv=>(hO h v hv).1)
  ·cases h
 ·split at h
  ·cases h
  ·exact(hO h _ (by simp)).1
 ·cases h
theorem DE {a:Option Bool} (h:fO a ks v=true) (h':fO a ks v'=true):v=v'↔v.cells.toList=v'.cells.toList:=by
 refine⟨λe=>by rw[e],λe=>?_⟩;unfold fO at h h';split at h
 ·split at h
  ·simp only at h';split at h'
   ·exact congrArg Value.agg (Array.ext' e)
   ·cases h'
  ·cases h
 ·split at h
  ·cases h
  ·rename_i hne;simp only at h';split at h'
   ·cases h'
   ·rename_i cL;have e1:v.cells= #[v]:=by cases v<;>first|rfl|exact(hne _ rfl).elim
    have e2:v'.cells= #[v']:=by cases v'<;>first|rfl|exact(cL _ rfl).elim
    rw[e1,e2]at e;simpa using e
 ·cases h
theorem qd {t:TypeId} (h:dp P d t=some ks):∃b,isAgg P t=some b∧(b=false->ks.length=1):=by
 cases d with
 |zero=>cases h
 |succ d=>
  unfold dp at h;unfold isAgg;cases hu:P.underlying t with
  |none=>rw[hu]at h;cases h
  |some D=>
   rw[hu]at h;cases D<;>first
    |(cases h;exact⟨false,rfl,λ_=>rfl⟩)
    |exact⟨true,rfl,λh=>by cases h⟩
    |(cases h;done)
theorem lE {t:TypeId} {cs:Array Value} (w:World) (hp:dp P d t=some ks) (hs:aK P t=some ks.length) (hc:aJ ks ((cs.toList.drop off).take ks.length)=true):
  ∃v,(part t cs off).run P w= .ok v w∧fO (isAgg P t) ks v=true∧v.cells.toList=(cs.toList.drop off).take ks.length:=by
 obtain⟨b,hb,h1⟩:=qd hp;have hA:=jI hb w;rw[hb];cases b with
 |true=>
  have e:(cs.extract off (off+ks.length)).toList=(cs.toList.drop off).take ks.length:=by simp
  refine⟨.agg (cs.extract off (off+ks.length)),?_,?_,e⟩
  ·simp only[part,Sem.run_bind,hA,Result.andThen_ok,if_true,ax hs w,Sem.run_pure]
  ·show aJ ks (cs.extract off (off+ks.length)).toList=true;rw[e];exact hc
 |false=>
  have hl:=h1 rfl;rw[hl]at hc⊢;have hlen:=xP hc;rw[hl]at hlen;have mV:off<cs.size:=by simp at hlen;omega
  have e:(cs.toList.drop off).take 1= [cs[off]]:=by rw[List.take_one];simp[mV]
  rw[e]at hc⊢;have lT:=(hO hc cs[off] (by simp)).2;refine⟨cs[off],?_,?_,?_⟩
  ·simp only[part,Sem.run_bind,hA,Result.andThen_ok,Bool.false_eq_true,if_false,Array.getElem?_eq_getElem mV,Sem.run_pure]
  ·generalize cs[off]=v at hc lT;cases v<;>first|exact hc|cases lT
  ·generalize cs[off]=v at lT;cases v<;>first|rfl|cases lT
theorem jW {pl:TypeId->Option (List KK)} {f:Field} {fs:List Field} (h:ey P pl (f::fs) off=some ks):
  f.name≠ "_"∧f.offset=off∧∃l r,pl f.type=some l∧aK P f.type=some l.length∧ey P pl fs (off+l.length)=some r∧ks=l++r:=by
 unfold ey at h;split at h
 ·cases h
 ·rename_i hc;simp only[Bool.or_eq_true,beq_iff_eq,bne_iff_ne,ne_eq,not_or,Decidable.not_not]at hc;split at h
  ·rename_i l hl;split at h
   ·rename_i hs;split at h
    ·rename_i r hr;cases h;exact⟨hc.1,hc.2,l,r,hl,by simpa using hs,hr,rfl⟩
    ·cases h
   ·cases h
  ·cases h
def vc (P:Program) (d dd:Nat):Prop:=∀(t:TypeId) (ks:List KK),dp P d t=some ks->∀w:World,
 (∀em v,fO (isAgg P t) ks v=true->(Instr.checkKey em dd t v).run P w= .ok () w)∧
 (∀v v',fO (isAgg P t) ks v=true->fO (isAgg P t) ks v'=true->∃r:Bool,(Op.equalIn dd t v v').run P w= .ok r w∧(r=true↔v=v'))
theorem Cz (IH:vc P d dd) {t:TypeId} {xs ys:Array Value} (w:World) (hp:dp P d t=some ks) (hs:aK P t=some ks.length) (hx:aJ ks ((xs.toList.drop off).take ks.length)=true) (hy:aJ ks ((ys.toList.drop off).take ks.length)=true):
  ∃a b r,(part t xs off).run P w= .ok a w∧(part t ys off).run P w= .ok b w∧(Op.equalIn dd t a b).run P w= .ok r w∧(r=true↔(xs.toList.drop off).take ks.length=(ys.toList.drop off).take ks.length):=by
 obtain⟨a,p1,f1,c1⟩:=lE w hp hs hx;obtain⟨b,p2,f2,c2⟩:=lE w hp hs hy;obtain⟨r,hr,mX⟩:=(IH t ks hp w).2 a b f1 f2;exact⟨a,b,r,p1,p2,hr,by rw[mX,DE f1 f2,c1,c2]⟩
theorem yT (n:Nat) (a b:List Value):a=b↔a.take n=b.take n∧a.drop n=b.drop n:=
 ⟨λh=>by rw[h];exact⟨rfl,rfl⟩,λ⟨h1,h2⟩=>by rw[<-List.take_append_drop n a,<-List.take_append_drop n b,h1,h2]⟩
theorem zM (IH:vc P d dd) (xs ys:Array Value):∀(fs:List Field) (off:Nat) (ks:List KK) (w:World),ey P (dp P d) fs off=some ks->aJ ks (xs.toList.drop off)=true->aJ ks (ys.toList.drop off)=true->
  ∃r:Bool,(Op.eqFields dd xs ys fs).run P w= .ok r w∧(r=true↔xs.toList.drop off=ys.toList.drop off):=by
 intro fs;induction fs with
 |nil=>intro off ks w h hx hy;cases h;rw[cV hx,cV hy];exact⟨true,rfl,by simp⟩
 |cons f fs ih=>
  intro off ks w h hx hy;obtain⟨hn,ho,l,r,hl,hs,hr,rfl⟩:=jW h;obtain⟨x1,x2⟩:=cq hx;obtain⟨y1,y2⟩:=cq hy;obtain⟨a,b,r1,p1,p2,p3,mX⟩:=Cz IH w hl hs x1 y1;rw[List.drop_drop]at x2 y2;obtain⟨r2,q,Fv⟩:=ih _ _ w hr x2 y2;rw[yT l.length,List.drop_drop,List.drop_drop];subst ho;simp only[Op.eqFields,hn,ne_eq,not_false_eq_true,if_true,Sem.run_bind,p1,p2,p3,Result.andThen_ok];cases r1
  ·exact⟨false,by simp,by simp;intro e;exact absurd (mX.2 e) (by simp)⟩
  ·exact⟨r2,by simpa using q,by rw[Fv];simp[mX.1 rfl]⟩
theorem Bj (IH:vc P d dd) (xs ys:Array Value) {e:TypeId} {l:List KK} (hl:dp P d e=some l) (hs:aK P e=some l.length):∀(n i:Nat) (w:World),aJ (List.replicate n l).flatten (xs.toList.drop (i*l.length))=true->aJ (List.replicate n l).flatten (ys.toList.drop (i*l.length))=true->
  ∃r:Bool,(Op.eqItems dd e l.length xs ys (List.range' i n)).run P w= .ok r w∧(r=true↔xs.toList.drop (i*l.length)=ys.toList.drop (i*l.length)):=by
 intro n;induction n with
 |zero=>intro i w hx hy;rw[cV hx,cV hy];exact⟨true,rfl,by simp⟩
 |succ n ih=>
  intro i w hx hy;rw[List.replicate_succ,List.flatten_cons]at hx hy;obtain⟨x1,x2⟩:=cq hx;obtain⟨y1,y2⟩:=cq hy;obtain⟨a,b,r1,p1,p2,p3,mX⟩:=Cz IH w hl hs x1 y1;rw[List.drop_drop,<-Nat.succ_mul]at x2 y2;obtain⟨r2,q,Fv⟩:=ih _ w x2 y2;rw[yT l.length,List.drop_drop,List.drop_drop,<-Nat.succ_mul];simp only[List.range'_succ,Op.eqItems,Sem.run_bind,p1,p2,p3,Result.andThen_ok];cases r1
  ·exact⟨false,by simp,by simp;intro e;exact absurd (mX.2 e) (by simp)⟩
  ·exact⟨r2,by simpa using q,by rw[Fv];simp[mX.1 rfl]⟩
theorem tL (IH:vc P d dd) (em:Bool) (xs:Array Value) (w:World) {g:Field->PUnit->Sem (ForInStep PUnit)} (hg:∀f a,f.name≠ "_"->(part f.type xs f.offset).run P w= .ok a w->(Instr.checkKey em dd f.type a).run P w= .ok () w->(g f ⟨⟩).run P w= .ok (.yield ⟨⟩) w):
  ∀(fs:List Field) (off:Nat) (ks:List KK),ey P (dp P d) fs off=some ks->aJ ks (xs.toList.drop off)=true->(forIn fs PUnit.unit g).run P w= .ok PUnit.unit w:=by
 intro fs;induction fs with
 |nil=>intro off ks h hx;rfl
 |cons f fs ih=>intro off ks h hx;obtain⟨hn,ho,l,r,hl,hs,hr,rfl⟩:=jW h;obtain⟨x1,x2⟩:=cq hx;rw[List.drop_drop]at x2;obtain⟨a,p1,f1,_⟩:=lE w hl hs x1;have Ar:=(IH _ _ hl w).1 em a f1;subst ho;rw[List.forIn_cons];simp only[Sem.run_bind,hg f a hn p1 Ar,Result.andThen_ok];exact ih _ _ hr x2
theorem uF (IH:vc P d dd) (em:Bool) (xs:Array Value) (w:World) {e:TypeId} {l:List KK} (hl:dp P d e=some l) (hs:aK P e=some l.length) {g:Nat->PUnit->Sem (ForInStep PUnit)} (hg:∀i a,(part e xs (i*l.length)).run P w= .ok a w->(Instr.checkKey em dd e a).run P w= .ok () w->(g i ⟨⟩).run P w= .ok (.yield ⟨⟩) w):
  ∀(n i:Nat),aJ (List.replicate n l).flatten (xs.toList.drop (i*l.length))=true->(forIn (List.range' i n) PUnit.unit g).run P w= .ok PUnit.unit w:=by
 intro n;induction n with
 |zero=>intro i hx;rfl
 |succ n ih=>intro i hx;rw[List.replicate_succ,List.flatten_cons]at hx;obtain⟨x1,x2⟩:=cq hx;rw[List.drop_drop,<-Nat.succ_mul]at x2;obtain⟨a,p1,f1,_⟩:=lE w hl hs x1;have Ar:=(IH _ _ hl w).1 em a f1;rw[List.range'_succ,List.forIn_cons];simp only[Sem.run_bind,hg i a p1 Ar,Result.andThen_ok];exact ih _ x2
theorem eY {a:Option Bool} {k:KK} (ha:a=some false) (h:fO a [k] v=true):mg k v=true:=by
 subst ha;unfold fO at h;simp only at h;split at h
 ·cases h
 ·obtain⟨u,r,e,h1,_⟩:=dZ h;cases e;exact h1
theorem i5 {a:Option Bool} (ha:a=some true) (h:fO a ks v=true):∃cs,v= .agg cs∧aJ ks cs.toList=true:=by
 subst ha;unfold fO at h;simp only at h;split at h
 ·exact⟨_,rfl,h⟩
 ·cases h
theorem AV:∀(d m:Nat),vc P d (m+d)
 |0,m=> λt ks h=>by cases h
 |d+1,m=> λt ks h w=>by
  have IH:=AV d m;have TG:m+(d+1)=(m+d)+1:=rfl;rw[TG];unfold dp at h;cases hu:P.underlying t with
  |none=>rw[hu]at h;cases h
  |some D=>
   rw[hu]at h;cases D<;>try (cases h;done)
   case bool=>
    have uU:isAgg P t=some false:=by unfold isAgg;rw[hu]
    cases h;refine⟨λem v hv=>?_,λv v' hv eE=>?_⟩
    ·have:=eY uU hv;cases v<;>try (cases this;done)
     simp only[Instr.checkKey,Sem.run_bind,run_underlying hu,Result.andThen_ok,Sem.run_pure]
    ·have h1:=eY uU hv;have h2:=eY uU eE;cases v<;>try (cases h1;done)
     cases v'<;>try (cases h2;done)
     exact⟨_,run_equalIn_bool' w _ t _ _ hu,by simp⟩
   case int k=>
    have uU:isAgg P t=some false:=by unfold isAgg;rw[hu]
    cases h;refine⟨λem v hv=>?_,λv v' hv eE=>?_⟩
    ·have:=eY uU hv;cases v<;>try (cases this;done)
     simp only[Instr.checkKey,Sem.run_bind,run_underlying hu,Result.andThen_ok,Sem.run_pure]
    ·have h1:=eY uU hv;have h2:=eY uU eE;cases v<;>try (cases h1;done)
     cases v'<;>try (cases h2;done)
     rename_i k1 a k2 b;have e1:k=k1:=jA.1 h1;have e2:k=k2:=jA.1 h2;subst e1 e2;exact⟨_,run_equalIn_int w _ t _ _ _ _ hu,by simp⟩
   case string=>
    have uU:isAgg P t=some false:=by unfold isAgg;rw[hu]
    cases h;refine⟨λem v hv=>?_,λv v' hv eE=>?_⟩
    ·have:=eY uU hv;cases v<;>try (cases this;done)
     simp only[Instr.checkKey,Sem.run_bind,run_underlying hu,Result.andThen_ok,Sem.run_pure]
    ·have h1:=eY uU hv;have h2:=eY uU eE;cases v<;>try (cases h1;done)
     cases v'<;>try (cases h2;done)
     refine⟨_,run_equalIn_string w _ t _ _ hu,?_⟩;rw[ByteArray.toList_eq,ByteArray.toList_eq,beq_iff_eq,Value.string.injEq];exact⟨λh=>ByteArray.ext (Array.ext' h),λh=>by rw[h]⟩
   case array n e=>
    have uU:isAgg P t=some true:=by unfold isAgg;rw[hu]
    simp only at h;split at h
    ·rename_i l hl;split at h
     ·rename_i hs;have hs:aK P e=some l.length:=by simpa using hs
      cases h;refine⟨λem v hv=>?_,λv v' hv eE=>?_⟩
      ·obtain⟨cs,rfl,hc⟩:=i5 uU hv;simp only[Instr.checkKey,Sem.run_bind,run_underlying hu,Result.andThen_ok];simp only[Std.Legacy.Range.forIn_eq_forIn_range',Std.Legacy.Range.size,Nat.sub_zero,Nat.add_one_sub_one,Nat.div_one];rw[uF IH em cs w hl hs (λi a h1 h2=>by simp only[Sem.run_bind,ax hs w,Result.andThen_ok,h1,h2,Sem.run_pure]) n 0 (by simpa using hc)];rfl
      ·obtain⟨xs,rfl,hx⟩:=i5 uU hv;obtain⟨ys,rfl,hy⟩:=i5 uU eE;have hi:∃i,P.info? e=some i:=by
        unfold aK at hs;cases hi:P.info? e with
        |none=>rw[hi]at hs;cases hs
        |some i=>exact⟨i,rfl⟩
       obtain⟨i,hi⟩:=hi;obtain⟨r,hr,mX⟩:=Bj IH xs ys hl hs n 0 w (by simpa using hx) (by simpa using hy);refine⟨r,?_,?_⟩
       ·rw[run_equalIn_array (w:=w) (m+d) xs ys hu hi,gX hs,List.range_eq_range'];exact hr
       ·rw[mX];simp
     ·cases h
    ·cases h
   case struct fs=>
    have uU:isAgg P t=some true:=by unfold isAgg;rw[hu]
    simp only at h;split at h
    ·cases h
    ·rename_i lJ;have lJ:P.stoodInHeld t=false:=by simpa using lJ
     refine⟨λem v hv=>?_,λv v' hv eE=>?_⟩
     ·obtain⟨cs,rfl,hc⟩:=i5 uU hv;simp only[Instr.checkKey,Sem.run_bind,run_underlying hu,Result.andThen_ok];rw[<-Array.forIn_toList];rw[tL IH em cs w (λf a hn h1 h2=>by simp only[hn,ne_eq,not_false_eq_true,if_true,Sem.run_bind,Result.andThen_ok,h1,h2,Sem.run_pure]) fs.toList 0 ks h (by simpa using hc)];rfl
     ·obtain⟨xs,rfl,hx⟩:=i5 uU hv;obtain⟨ys,rfl,hy⟩:=i5 uU eE;have z6:P.fieldsOf t=fs:=by unfold Program.fieldsOf;rw[hu]
      obtain⟨r,hr,mX⟩:=zM IH xs ys fs.toList 0 ks w h (by simpa using hx) (by simpa using hy);refine⟨r,?_,by rw[mX];simp⟩;rw[run_equalIn_struct w (m+d) t xs ys (by rw[z6];exact hu) lJ,z6];exact hr
end Go.Eng
end
noncomputable section
namespace Go.Eng
open Go
variable {s:AS} {ents ents':Array MapEntry} {ok:Bool} {es bf g6 fQ:List (Value×Value×Nat)} {rest t1 t2:List MapEntry} {l l':List Value} {e e0:MapEntry} {b ck d:Nat} {P:Program} {ρ:Ren} {k u v x':Value} {r:Value×AS} {w:World}
theorem DG {o k:Option Bool} {r:Bool} (h:andM o k=some r):(o=some true∧k=some r)∨(o=some false∧r=false):=by
 cases o with
 |none=>cases h
 |some b=>
  have h:ab b k (some false)=some r:=h;cases b with
  |true=>exact .inl ⟨rfl,h⟩
  |false=>have h:some false=some r:=h;cases h;exact .inr ⟨rfl,rfl⟩
theorem Lb {f:Value->Mt} (hf:∀a b r,f a b=some r->(r=true↔a=b)):∀(l m:List Value) (r:Bool),mL (mapM' f l) m=some r->(r=true↔l=m):=by
 intro l;induction l with
 |nil=>
  intro m r h;cases m with
  |nil=>have h:some true=some r:=h;cases h;simp
  |cons b m=>cases h
 |cons a l ih=>
  intro m r h;cases m with
  |nil=>cases h
  |cons b m=>
   have h:andM (f a b) (mL (mapM' f l) m)=some r:=h;rcases DG h with ⟨G9,h⟩|⟨G9,rfl⟩
   ·have:=(hf a b true G9).1 rfl;rw[ih m r h,this];simp
   ·have:¬a=b:= λe=>by have:=(hf a b false G9).2 e;cases this
    simp[this]
theorem jB:∀(d:Nat) (a b:Value) (r:Bool),uS d a b=some r->(r=true↔a=b):=by
 intro d;induction d with
 |zero=>intro a b r h;cases h
 |succ d ih=>
  intro a b r h;cases a with
  |bool x=>
   have h:mB x b=some r:=h;cases b with
   |bool y=>have h:some (ab x y (dR y))=some r:=h;cases h;cases x<;>cases y<;>simp[ah,dR]
   |_=>cases h
  |int k n=>
   have h:mI k n b=some r:=h;cases b with
   |int k' m=>have h1:ab (tF k k') (some (zX n m)) none=some r:=h;clear h;replace h1:=ae h1;obtain⟨hk,h1⟩:=h1;replace hk:=jA.1 hk;subst hk;cases h1;rw[oL];simp
   |_=>cases h
  |string s=>
   have h:mS s.data.toList b=some r:=h;cases b with
   |string s'=>have h:some (DZ s.data.toList s'.data.toList)=some r:=h;cases h;rw[rL];simp only[beq_iff_eq,Value.string.injEq];exact⟨λh=>ByteArray.ext (Array.ext' h),λh=>by rw[h]⟩
   |_=>cases h
  |agg x=>
   have h:mA (mapM' (uS d) x.toList) b=some r:=h;cases b with
   |agg y=>have h:mL (mapM' (uS d) x.toList) y.toList=some r:=h;rw[Lb ih _ _ _ h,Value.agg.injEq];exact⟨λh=>Array.ext' h,λh=>by rw[h]⟩
   |_=>cases h
  |_=>cases h
theorem sU:∀ {es:List (Value×Value×Nat)} {o:Option (Value×Nat)},uW (uS d k) es=some o->(∃v,o=some v∧(k,v)∈es)∨(o=none∧∀p∈es,p.1≠k):=by
 intro es;induction es with
 |nil=>intro o h;have h:some none=some o:=h;cases h;exact .inr ⟨rfl,λp hp=>by cases hp⟩
 |cons p es ih=>
  intro o h;obtain⟨k',v⟩:=p;have h:Option.rec (motive:= λ_=>Option (Option (Value×Nat))) none (λb=>ab b (some (some v)) (uW (uS d k) es)) (uS d k k')=some o:=h;cases hk:uS d k k' with
  |none=>rw[hk]at h;cases h
  |some b=>
   rw[hk]at h;cases b with
   |true=>have h:some (some v)=some o:=h;cases h;have:=(jB _ _ _ _ hk).1 rfl;exact .inl ⟨v,rfl,by rw[this];simp⟩
   |false=>
    have h:uW (uS d k) es=some o:=h;have hne:k'≠k:= λe=>by have:=(jB _ _ _ _ hk).2 e.symm;cases this
    rcases ih h with ⟨v',h1,h2⟩|⟨h1,h2⟩
    ·exact .inl ⟨v',h1,by simp[h2]⟩
    ·refine .inr ⟨h1,λp hp=>?_⟩;rcases List.mem_cons.1 hp with rfl|hp
     ·exact hne
     ·exact h2 p hp
theorem kU:∀(d i:Nat),T.get (ll d) i=none
 |0,i=>T.get_e i
 |d+1,i=>by
  have e:ll (d+1)= .n none (ll d) (ll d):=rfl;rw[e];rcases bb i with rfl|⟨m,rfl⟩|⟨m,rfl⟩
  ·rw[T.dM]
  ·rw[T.bO];exact kU d m
  ·rw[T.bh];exact kU d m
theorem yU:∀ {es:List an} {t:T (List an)},idx es=some t->∀i p,p∈bucket t i↔p∈es∧LY p.1=i
 | [],t,h,i,p=>by have h:some (ll 11)=some t:=h;cases h;unfold bucket;rw[kU];exact⟨λh=>(by cases h),λh=>(by cases h.1)⟩
 |e::es,t,h,i,p=>by
  have h:ob (idx es) (λt=>EV e t)=some t:=h;obtain⟨t0,h0,h⟩:=U h;unfold EV at h;rw[ak]at h;have ih:=yU h0;unfold bucket;rw[T.aR _ _ _ _ h i];by_cases hi:i=LY e.1
  ·rw[if_pos hi];show p∈e::bucket t0 (LY e.1)↔_;rw[List.mem_cons,ih,List.mem_cons,hi];constructor
   ·rintro(rfl|⟨h1,h2⟩)
    ·exact⟨.inl rfl,rfl⟩
    ·exact⟨.inr h1,h2⟩
   ·rintro⟨h1|h1,h2⟩
    ·exact .inl h1
    ·exact .inr ⟨h1,h2⟩
  ·rw[if_neg hi];show p∈bucket t0 i↔_;rw[ih,List.mem_cons];constructor
   ·rintro⟨h1,h2⟩;exact⟨.inr h1,h2⟩
   ·rintro⟨h1|h1,h2⟩
    ·subst h1;exact(hi h2.symm).elim
    ·exact⟨h1,h2⟩
theorem gY {o:Option (Value×Nat)} (h:pD k es=some o):(∃v,o=some v∧(k,v)∈es)∨(o=none∧∀p∈es,p.1≠k):=by
 have h2:uW (uS 8 k) es=some o∨EW k es=some o:=by unfold pD at h;cases k<;>first|exact .inl h|exact .inr h
 rcases h2 with h|h
 ·exact sU h
 ·unfold EW at h;rw[ak]at h;obtain⟨t,ht,h⟩:=U h;have hb:=yU ht;rcases sU h with ⟨v,h1,h2⟩|⟨h1,h2⟩
  ·exact .inl ⟨v,h1,((hb _ _).1 h2).1⟩
  ·exact .inr ⟨h1,λp hp e=>h2 p ((hb _ _).2 ⟨hp,by rw[e]⟩) e⟩
theorem vA:∀ {es bf:List (Value×Value×Nat)},vZ k v ck es=some bf->(∃g6 v0 b0 fQ,es=g6++(k,v0,b0)::fQ∧bf=g6++(k,v,b0)::fQ)∨((∀p∈es,p.1≠k)∧bf=es++ [(k,v,ck)]):=by
 intro es;induction es with
 |nil=>intro o h;have h:some [(k,v,ck)]=some o:=h;cases h;exact .inr ⟨λp hp=>(by cases hp),rfl⟩
 |cons p es ih=>
  intro bf h;obtain⟨k',v',b'⟩:=p;have h:Option.rec (motive:= λ_=>Option (List (Value×Value×Nat))) none (λb=>ab b (some ((k,v,b')::es)) (ob (vZ k v ck es) λr=>some ((k',v',b')::r))) (uS 8 k k')=some bf:=h;cases hk:uS 8 k k' with
  |none=>rw[hk]at h;cases h
  |some b=>
   rw[hk]at h;cases b with
   |true=>have h:some ((k,v,b')::es)=some bf:=h;cases h;have:=(jB _ _ _ _ hk).1 rfl;subst this;exact .inl ⟨[],v',b',es,rfl,rfl⟩
   |false=>
    have h:ob (vZ k v ck es) (λr=>some ((k',v',b')::r))=some bf:=h;have hne:k'≠k:= λe=>by have:=(jB _ _ _ _ hk).2 e.symm;cases this
    obtain⟨r,hr,h⟩:=U h;cases h;rcases ih hr with ⟨g6,v0,b0,fQ,rfl,rfl⟩|⟨h1,rfl⟩
    ·exact .inl ⟨(k',v',b')::g6,v0,b0,fQ,rfl,rfl⟩
    ·refine .inr ⟨λp hp=>?_,rfl⟩;rcases List.mem_cons.1 hp with rfl|hp
     ·exact hne
     ·exact h1 p hp
theorem yV {x:Value×Nat} (hm:(k,x)∈es) (h:vZ k v ck es=some bf):∃g6 v0 b0 fQ,es=g6++(k,v0,b0)::fQ∧bf=g6++(k,v,b0)::fQ:=by
 rcases vA h with h|⟨h,_⟩
 ·exact h
 ·exact(h _ hm rfl).elim
theorem DH:∀ {es bf:List (Value×Value×Nat)},Ho k es=some bf->(∃g6 v0 fQ,es=g6++(k,v0)::fQ∧bf=g6++fQ)∨((∀p∈es,p.1≠k)∧bf=es):=by
 intro es;induction es with
 |nil=>intro o h;have h:some []=some o:=h;cases h;exact .inr ⟨λp hp=>(by cases hp),rfl⟩
 |cons p es ih=>
  intro bf h;obtain⟨k',v'⟩:=p;have h:Option.rec (motive:= λ_=>Option (List (Value×Value×Nat))) none (λb=>ab b (some es) (ob (Ho k es) λr=>some ((k',v')::r))) (uS 8 k k')=some bf:=h;cases hk:uS 8 k k' with
  |none=>rw[hk]at h;cases h
  |some b=>
   rw[hk]at h;cases b with
   |true=>have h:some es=some bf:=h;cases h;have:=(jB _ _ _ _ hk).1 rfl;subst this;exact .inl ⟨[],v',es,rfl,rfl⟩
   |false=>
    have h:ob (Ho k es) (λr=>some ((k',v')::r))=some bf:=h;have hne:k'≠k:= λe=>by have:=(jB _ _ _ _ hk).2 e.symm;cases this
    obtain⟨r,hr,h⟩:=U h;cases h;rcases ih hr with ⟨g6,v0,fQ,rfl,rfl⟩|⟨h1,rfl⟩
    ·exact .inl ⟨(k',v')::g6,v0,fQ,rfl,rfl⟩
    ·refine .inr ⟨λp hp=>?_,rfl⟩;rcases List.mem_cons.1 hp with rfl|hp
     ·exact hne
     ·exact h1 p hp
def gk (k:Value):List MapEntry->Nat->Option (Nat×Value)
 | [],_=>none
 |e::es,i=> @ite _ (e.key=k) (Classical.propDecidable _) (some (i,e.val)) (gk k es (i+1))
theorem Bk:∀ {l:List MapEntry} (j:Nat),(∀e∈l,e.key≠k)->gk k l j=none:=by
 intro l;induction l with
 |nil=>intro j _;rfl
 |cons e l ih=>intro j h;unfold gk;rw[if_neg (h e (by simp))];exact ih _ (λx hx=>h x (by simp[hx]))
theorem sV (hk:e.key=k):∀ {l1 l2:List MapEntry} (j:Nat),(∀x∈l1,x.key≠k)->gk k (l1++e::l2) j=some (j+l1.length,e.val):=by
 intro l1;induction l1 with
 |nil=>intro l2 j _;show gk k (e::l2) j=_;unfold gk;rw[if_pos hk];rfl
 |cons x l1 ih=>intro l2 j h;show gk k (x::(l1++e::l2)) j=_;unfold gk;rw[if_neg (h x (by simp)),ih _ (λy hy=>h y (by simp[hy]))];simp only[List.length_cons];rw[show j+1+l1.length=j+(l1.length+1) by omega]
theorem qe {D:TypeDesc} {a b:Value} {r:Bool} (h:Instr.sameNow D a b=some r):r=true↔a=b:=by
 unfold Instr.sameNow at h;split at h
 ·split at h
  ·rename_i hk;subst hk;cases h;simp
  ·cases h
 ·cases h;rename_i a b;rw[beq_toListBytes,ByteArray.toList_eq,ByteArray.toList_eq,beq_iff_eq,Value.string.injEq];exact⟨λh=>ByteArray.ext (Array.ext' h),λh=>by rw[h]⟩
 ·cases h;simp
 ·cases h
theorem uG {D:TypeDesc}:∀ {l:List MapEntry} {i:Nat} {r:Option (Nat×Value)},Instr.findNow D k l i=some r->r=gk k l i:=by
 intro l;induction l with
 |nil=>intro i r h;cases h;rfl
 |cons e l ih=>
  intro i r h;unfold Instr.findNow at h;unfold gk;split at h
  ·rename_i hs;cases h;rw[if_pos ((qe hs).1 rfl).symm]
  ·rename_i hs;have hne:¬e.key=k:= λe=>by have:=(qe hs).2 e.symm;cases this
   rw[if_neg hne];exact ih h
  ·cases h
theorem fI {kt:TypeId} (h:aC P kt v=true):∃ks,dp P 5 kt=some ks∧fO (isAgg P kt) ks v=true:=by
 unfold aC at h;split at h
 ·exact⟨_,‹_›,h⟩
 ·cases h
theorem dh {kt:TypeId} (h:aC P kt v=true):Plain v:=by obtain⟨ks,_,h⟩:=fI h;exact zL h
theorem aA {kt:TypeId} (h:aC P kt v=true) (em:Bool) (w:World):(Instr.checkKey em 10000 kt v).run P w= .ok () w:=by obtain⟨ks,hk,h⟩:=fI h;exact(AV 5 9995 kt ks hk w).1 em v h
theorem xQ {kt:TypeId} {a b:Value} (ha:aC P kt a=true) (hb:aC P kt b=true) (w:World):∃r:Bool,(Op.equal kt a b).run P w= .ok r w∧(r=true↔a=b):=by obtain⟨ks,hk,ha⟩:=fI ha;obtain⟨VH,fZ,hb⟩:=fI hb;rw[hk]at fZ;cases fZ;exact(AV 5 9995 kt ks hk w).2 a b ha hb
theorem tM {kt:TypeId} (hk:aC P kt k=true) (w:World):∀(l:List MapEntry) (i:Nat),(∀e∈l,aC P kt e.key=true)->(Instr.findAsking kt k l i).run P w= .ok (gk k l i) w:=by
 intro l;induction l with
 |nil=>intro i _;rfl
 |cons e l ih=>
  intro i h;obtain⟨r,hr,mX⟩:=xQ hk (h e (by simp)) w;unfold Instr.findAsking gk;rw[Sem.run_bind,hr,Result.andThen_ok];cases r with
  |true=>rw[if_pos rfl,if_pos (mX.1 rfl).symm];rfl
  |false=>
   have hne:¬e.key=k:= λe=>by have:=mX.2 e.symm;cases this
   rw[if_neg (by simp),if_neg hne];exact ih _ (λx hx=>h x (by simp[hx]))
theorem cu {kt:TypeId} (hk:aC P kt k=true) (w:World) {l:List MapEntry} (h:∀e∈l,aC P kt e.key=true):(Instr.findKey kt k l).run P w= .ok (gk k l 0) w:=by
 have hu:∃D,P.underlying kt=some D:=by
  obtain⟨ks,hp,_⟩:=fI hk;obtain⟨b,hb,_⟩:=qd hp;unfold isAgg at hb;split at hb
  ·exact⟨_,‹_›⟩
  ·exact⟨_,‹_›⟩
  ·exact⟨_,‹_›⟩
  ·cases hb
 obtain⟨D,hu⟩:=hu;unfold Instr.findKey;rw[Sem.run_bind,run_underlying hu,Result.andThen_ok];split
 ·rename_i r hr;rw[uG hr];rfl
 ·exact tM hk w l 0 h
theorem F2.split {α β:Type} {R:α->β->Prop} {a:α} {l2:List α}:∀ {l1:List α} {m:List β},F2 R (l1++a::l2) m->∃m1 b m2,m=m1++b::m2∧F2 R l1 m1∧R a b∧F2 R l2 m2:=by
 intro l1;induction l1 with
 |nil=>intro m h;cases h with|cons h hs=>exact⟨[],_,_,rfl,.nil,h,hs⟩
 |cons x l1 ih=>
  intro m h;cases h with
  |cons h hs=>obtain⟨m1,b,m2,rfl,h1,h2,h3⟩:=ih hs;exact⟨_::m1,b,m2,rfl,.cons h h1,h2,h3⟩
theorem F2.append {α β:Type} {R:α->β->Prop} {l2:List α} {m2:List β} (h2:F2 R l2 m2):∀ {l1:List α} {m1:List β},F2 R l1 m1->F2 R (l1++l2) (m1++m2)
 |_,_,.nil=>h2
 |_,_,.cons h hs=> .cons h (F2.append h2 hs)
theorem F2.cp {α β:Type} {R:α->β->Prop}:∀ {l:List α} {m:List β},F2 R l m->∀b∈m,∃a∈l,R a b
 |_,_,.nil,_,hb=>by cases hb
 |_,_,.cons h hs,b,hb=>by
  rcases List.mem_cons.1 hb with rfl|hb
  ·exact⟨_,by simp,h⟩
  ·obtain⟨a,ha,hr⟩:=F2.cp hs b hb;exact⟨a,by simp[ha],hr⟩
abbrev bN (P:Program) (ρ:Ren) (kt:TypeId) (p:Value×Value×Nat) (e:MapEntry):Prop:=p.1=e.key∧aC P kt p.1=true∧Plain p.1∧ag ρ p.2.1 e.val∧(p.2.2=0∨p.2.2=e.born+1)
theorem nJ {kt:TypeId}:∀ {es:List (Value×Value×Nat)} {l:List MapEntry},F2 (bN P ρ kt) es l->l.map (·.key)=es.map (·.1)
 |_,_,.nil=>rfl
 |_,_,.cons h hs=>by simp[nJ hs,h.1]
theorem aW.fits {kt:TypeId} (h:aW P ρ kt es ents):∀e∈ents.toList,aC P kt e.key=true:=by obtain⟨l,hp,hf,hn⟩:=h;intro e he;obtain⟨p,_,h1,h2,_⟩:=F2.cp hf e (hp.mem_iff.2 he);rw[<-h1];exact h2
theorem aW.nodup {kt:TypeId} (h:aW P ρ kt es ents):(ents.toList.map (·.key)).Nodup:=by obtain⟨l,hp,hf,hn⟩:=h;rw[<-(hp.map _).nodup_iff,nJ hf];exact hn
theorem aW.oM {kt:TypeId} (h:aW P ρ kt es ents) (hk:∀p∈es,p.1≠k):gk k ents.toList 0=none:=by obtain⟨l,hp,hf,hn⟩:=h;refine Bk 0 (λe he=>?_);obtain⟨p,oQ,h1,_⟩:=F2.cp hf e (hp.mem_iff.2 he);rw[<-h1];exact hk p oQ
theorem aW.gw {kt:TypeId} (h:aW P ρ kt (g6++(k,v,b)::fQ) ents):
  ∃l1 e l2 t1 t2,F2 (bN P ρ kt) g6 l1∧bN P ρ kt (k,v,b) e∧F2 (bN P ρ kt) fQ l2∧(l1++l2).Perm (t1++t2)∧ents.toList=t1++e::t2∧gk k ents.toList 0=some (t1.length,e.val):=by
 have ew:=h.nodup;obtain⟨l,hp,hf,hn⟩:=h;obtain⟨l1,e,l2,rfl,h1,h2,h3⟩:=hf.split;have he:e∈ents.toList:=hp.mem_iff.1 (by simp);obtain⟨t1,t2,ht⟩:=List.append_of_mem he;refine⟨l1,e,l2,t1,t2,h1,h2,h3,?_,ht,?_⟩
 ·rw[ht]at hp;have:=(List.perm_middle.symm.trans hp).trans List.perm_middle;exact this.cons_inv
 ·rw[ht]at ew⊢;have:=sV (l1:=t1) (l2:=t2) h2.1.symm 0 (λx hx PY=>?_)
  ·rw[this,Nat.zero_add]
  ·rw[List.map_append,List.map_cons,List.nodup_append]at ew;exact ew.2.2 x.key (List.mem_map.2 ⟨x,hx,rfl⟩) e.key (by simp) (by rw[PY];exact h2.1)
theorem ye.fits {kt:TypeId} (h:ye P ρ kt rest es ents):∀e∈ents.toList,aC P kt e.key=true:=by
 obtain⟨l,hp,hf,hk,hn⟩:=h;intro e he;rcases List.mem_append.1 (hp.mem_iff.2 he)with he|he
 ·obtain⟨p,_,h1,h2,_⟩:=F2.cp hf e he;rw[<-h1];exact h2
 ·exact hk e he
theorem ye.gw {kt:TypeId} (h:ye P ρ kt rest (g6++(k,v,b)::fQ) ents):
  ∃l1 e l2 t1 t2,F2 (bN P ρ kt) g6 l1∧bN P ρ kt (k,v,b) e∧F2 (bN P ρ kt) fQ l2∧(l1++l2++rest).Perm (t1++t2)∧ents.toList=t1++e::t2∧gk k ents.toList 0=some (t1.length,e.val)∧(∀e∈rest,aC P kt e.key=true)∧((l1++e::l2++rest).map (·.key)).Nodup:=by
 obtain⟨l,hp,hf,hk,hn⟩:=h;obtain⟨l1,e,l2,rfl,h1,h2,h3⟩:=hf.split;have he:e∈ents.toList:=hp.mem_iff.1 (by simp);obtain⟨t1,t2,ht⟩:=List.append_of_mem he;have ew:(ents.toList.map (·.key)).Nodup:=(hp.map _).nodup_iff.1 hn;refine⟨l1,e,l2,t1,t2,h1,h2,h3,?_,ht,?_,hk,hn⟩
 ·rw[ht,List.append_assoc,List.cons_append]at hp;have:=(List.perm_middle.symm.trans hp).trans List.perm_middle;rw[List.append_assoc];exact this.cons_inv
 ·rw[ht]at ew⊢;have:=sV (l1:=t1) (l2:=t2) h2.1.symm 0 (λx hx PY=>?_)
  ·rw[this,Nat.zero_add]
  ·rw[List.map_append,List.map_cons,List.nodup_append]at ew;exact ew.2.2 x.key (List.mem_map.2 ⟨x,hx,rfl⟩) e.key (by simp) (by rw[PY];exact h2.1)
theorem vB {β:Type} {a b:Option β} {v:β} (h:JZ a b=some v):a=some v∨b=some v:=by
 cases a with
 |none=>exact .inr h
 |some x=>exact .inl h
theorem qf {β:Type} {b:Option Blk} {k:TypeId->List (Value×Value×Nat)->Nat->Option β} {v:β} (h:wz b k=some v):∃kt es ck,b=some (.pmap kt es ck)∧k kt es ck=some v:=by
 unfold wz at h;split at h
 ·exact⟨_,_,_,rfl,h⟩
 ·cases h
theorem fJ {t:TypeId} {ke:TypeId×TypeId} (h:keyOf P t=some ke):P.underlying t=some (.map ke.1 ke.2):=by
 unfold keyOf at h;split at h
 ·cases h;assumption
 ·cases h
theorem oi {e:TypeId} (h:jw P e ok none=some v):∃z,gf P e=some z∧ag ρ v (if ok then .tuple #[z,.bool false]else z):=by
 unfold jw at h;obtain⟨z,hz,h⟩:=U h;cases h;refine⟨z,hz,?_⟩;have:=fH (ρ:=ρ) hz;rw[ah];cases ok with
 |true=>exact .tuple (.cons this (.cons (.bool _) .nil))
 |false=>exact this
theorem qg {e:TypeId} {x:Value} (h:jw P e ok (some (x,b))=some v) (hr:ag ρ x u):ag ρ v (if ok then .tuple #[u,.bool true]else u):=by
 unfold jw at h;cases h;rw[ah];cases ok with
 |true=>exact .tuple (.cons hr (.cons (.bool _) .nil))
 |false=>exact hr
theorem Borns.of {e1:MapEntry} (h:Borns ck ents) (ht:ents.toList=t1++e0::t2) (x4:ents'.toList=t1++e1::t2) (hb:e1.born=e0.born):Borns ck ents':=by
 obtain⟨h1,h2⟩:=h;rw[ht]at h1 h2;refine⟨by rw[x4];simpa[hb]using h1,λe he=>?_⟩;rw[x4]at he;rcases List.mem_append.1 he with he|he
 ·exact h2 e (by simp[he])
 ·rcases List.mem_cons.1 he with rfl|he
  ·rw[hb];exact h2 e0 (by simp)
  ·exact h2 e (by simp[he])
theorem Borns.push {ck:Nat} {ents:Array MapEntry} {e:MapEntry} (h:Borns ck ents) (hb:e.born=ck):Borns (ck+1) (ents.push e):=by
 obtain⟨h1,h2⟩:=h;refine⟨?_,λx hx=>?_⟩
 ·rw[Array.toList_push,List.map_append,List.nodup_append];refine⟨h1,by simp,λa ha b cz=>?_⟩;obtain⟨x,hx,rfl⟩:=List.mem_map.1 ha;have:=h2 x hx;simp at cz;omega
 ·rw[Array.toList_push]at hx;rcases List.mem_append.1 hx with hx|hx
  ·have:=h2 x hx;omega
  ·simp at hx;subst hx;omega
theorem Borns.drop (h:Borns ck ents) (ht:ents.toList=t1++e0::t2) (x4:ents'.toList=t1++t2):Borns ck ents':=by
 obtain⟨h1,h2⟩:=h;rw[ht]at h1 h2;refine⟨?_,λe he=>?_⟩
 ·rw[x4,List.map_append];rw[List.map_append,List.map_cons]at h1;exact(List.nodup_cons.1 ((List.perm_middle.nodup_iff).1 h1)).2
 ·rw[x4]at he;rcases List.mem_append.1 he with he|he
  ·exact h2 e (by simp[he])
  ·exact h2 e (by simp[he])
theorem uH {t:TypeId} {k' x:Value} (hr:Rel P ρ s w) (h:wZ P s t ok k x=some v) (hk:ag ρ k k') (hx:ag ρ x x'):∃u,(Instr.lookup t x' k' ok).run P w= .ok u w∧ag ρ v u:=by
 unfold wZ at h;replace h:=U h;obtain⟨⟨kt,e⟩,iq,h⟩:=h;replace h:=ae h;obtain⟨eM,h⟩:=h;replace iq:=fJ iq;simp only at h eM iq;have x6:=dh eM;have:=hk.plain x6;subst this;split at h
 ·cases hx;obtain⟨z,hz,hv⟩:=oi (ρ:=ρ) h;refine⟨_,?_,hv⟩;have jo:=cu (P:=P) eM w (l:= []) (λe he=>by cases he);have jo:(Instr.findKey kt k' []).run P w= .ok none w:=jo;simp only[Instr.lookup,Sem.run_bind,run_underlying iq,Result.andThen_ok,Sem.run_pure,aA eM,jo,bZ hz w]
 ·rename_i r;replace h:=vB h;rcases h with h|h
  ·replace h:=bk h;obtain⟨ud,es,ck,hb,h⟩:=h;replace h:=ae h;obtain⟨ma,h⟩:=h;replace h:=U h;obtain⟨o,ho,h⟩:=h;replace ma:=Nat.eq_of_beq_eq_true ma;subst ma;cases hx with| @map a y hy=>?_
   obtain⟨ents,hh,hm,iQ⟩:=(hr.blk _ _ y hb hy).2;have jo:=cu (P:=P) eM w hm.fits;rcases gY ho with ⟨⟨v0,b0⟩,rfl,eJ⟩|⟨rfl,dH⟩
   ·obtain⟨g6,fQ,rfl⟩:=List.append_of_mem eJ;obtain⟨l1,e0,l2,t1,t2,_,h2,_,_,_,hs⟩:=hm.gw;have hv:=qg h h2.2.2.2.1;rw[hs]at jo;refine⟨_,?_,hv⟩;simp only[Instr.lookup,Sem.run_bind,run_underlying iq,Result.andThen_ok,Sem.run_pure,ar hh (by simp),aA eM,jo]
   ·obtain⟨z,hz,hv⟩:=oi (ρ:=ρ) h;rw[hm.oM dH]at jo;refine⟨_,?_,hv⟩;simp only[Instr.lookup,Sem.run_bind,run_underlying iq,Result.andThen_ok,Sem.run_pure,ar hh (by simp),aA eM,jo,bZ hz w]
  ·replace h:=qf h;obtain⟨ud,es,ck,hb,h⟩:=h;replace h:=ae h;obtain⟨ma,h⟩:=h;replace h:=U h;obtain⟨o,ho,h⟩:=h;replace h:=U h;obtain⟨q,rfl,h⟩:=h;replace ma:=Nat.eq_of_beq_eq_true ma;subst ma;cases hx with| @map a y hy=>?_
   obtain⟨ents,hh,hm,iQ⟩:=(hr.blk _ _ y hb hy).2;have jo:=cu (P:=P) eM w hm.fits;rcases gY ho with ⟨⟨v0,b0⟩,he,eJ⟩|⟨he,_⟩
   ·cases he;obtain⟨g6,fQ,rfl⟩:=List.append_of_mem eJ;obtain⟨l1,e0,l2,t1,t2,_,h2,_,_,_,hs,_⟩:=hm.gw;have hv:=qg h h2.2.2.2.1;rw[hs]at jo;refine⟨_,?_,hv⟩;simp only[Instr.lookup,Sem.run_bind,run_underlying iq,Result.andThen_ok,Sem.run_pure,ar hh (by simp),aA eM,jo]
   ·cases he
 ·cases h
theorem tN:∀(d:Nat) {ks:List KK} {v:Value} {a:Option Bool},fO a ks v=true->Instr.sameBits (d+2) v v=true:=by
 intro d ks v a h;have cell:∀(n:Nat) (ks:List KK) (l:List Value),aJ ks l=true->∀v∈l,Instr.sameBits (n+1) v v=true:=by
  intro n ks;induction ks with
  |nil=>intro l h;rw[cV h];intro v hv;cases hv
  |cons k ks ih=>
   intro l h;obtain⟨v,r,rfl,h1,h2⟩:=dZ h;intro u hu;rcases List.mem_cons.1 hu with rfl|hu
   ·unfold mg at h1;split at h1
    ·simp[Instr.sameBits]
    ·rename_i s;simp only[Instr.sameBits];rw[beq_toListBytes];simp
    ·simp[Instr.sameBits]
    ·cases h1
   ·exact ih r h2 u hu
 unfold fO at h;split at h
 ·split at h
  ·rename_i cs;simp only[Instr.sameBits,beq_self_eq_true,Bool.true_and,List.all_eq_true];intro p hp;obtain⟨i,hi⟩:=List.mem_iff_getElem?.1 hp;rw[List.getElem?_zip_eq_some]at hi;have e:p.1=p.2:=by
    have:=hi.1.symm.trans hi.2;simpa using this
   obtain⟨p1,p2⟩:=p;simp only at e;subst e;exact cell d _ _ h p1 (List.mem_of_getElem? hi.1)
  ·cases h
 ·split at h
  ·cases h
  ·exact cell (d+1) _ _ h v (by simp)
 ·cases h
theorem gB {kt:TypeId} (h:aC P kt k=true) (w:World):(Instr.keyThatStays k k).run P w= .ok k w:=by obtain⟨ks,_,h⟩:=fI h;unfold Instr.keyThatStays;rw[if_pos (tN 9998 h)];rfl
theorem jl {t:TypeId} {m m' k' x:Value} (hr:Rel P ρ s w) (h:jH P t s m k x=some r) (hm:ag ρ m m') (hk:ag ρ k k') (hx:ag ρ x x'):
  wN P ρ s w (Instr.mapUpdate t m' k' x') r:=by
 unfold jH at h;replace h:=U h;obtain⟨⟨kt,e⟩,iq,h⟩:=h;replace h:=ae h;obtain⟨eM,h⟩:=h;replace iq:=fJ iq;simp only at h eM iq;have x6:=dh eM;have:=hk.plain x6;subst this;split at h
 ·rename_i b;replace h:=vB h;rcases h with h|h
  ·replace h:=bk h;obtain⟨ud,es,ck,hb,h⟩:=h;replace h:=ae h;obtain⟨ma,h⟩:=h;replace h:=U h;obtain⟨o,ho,h⟩:=h;replace ma:=Nat.eq_of_beq_eq_true ma;subst ma;cases hm with| @map a y hy=>?_
   obtain⟨ents,hh,fj,iQ⟩:=(hr.blk _ _ y hb hy).2;have jo:=cu (P:=P) eM w fj.fits;rcases gY ho with ⟨⟨vx,bx⟩,rfl,eJ⟩|⟨rfl,dH⟩
   ·replace h:=U h;obtain⟨bf,hes,h⟩:=h;replace h:=U h;obtain⟨s',fR,h⟩:=h;cases h;obtain⟨g6,v0,b0,fQ,rfl,rfl⟩:=yV eJ hes;obtain⟨l1,e0,l2,t1,t2,h1,h2,h3,hp,ht,iP⟩:=fj.gw;have gE:(ents.modify t1.length λe=> {e with key:=k',val:=x'})=(t1++ {e0 with key:=k',val:=x'}::t2).toArray:=by
     apply Array.ext_getElem?;intro i;have hg:ents[i]? =(t1++e0::t2)[i]?:=by rw[<-ht];simp
     rw[Array.getElem?_modify,hg];simp only[List.getElem?_toArray];by_cases hi:t1.length=i
     ·subst hi;simp
     ·rw[if_neg hi];rcases Nat.lt_or_gt_of_ne hi with h|h
      ·rw[List.getElem?_append_right (by omega),List.getElem?_append_right (by omega)];obtain⟨q,hq⟩:∃q,i-t1.length=q+1:=⟨i-t1.length-1,by omega⟩
       rw[hq];rfl
      ·rw[List.getElem?_append_left h,List.getElem?_append_left h]
    have JC:(ents[t1.length]?).map (·.key)=some k':=by
     have:ents[t1.length]? =(t1++e0::t2)[t1.length]?:=by rw[<-ht];simp
     rw[this];simp;exact h2.1.symm
    have hS:=Rel.setObj (o':= .map (ents.modify t1.length λe=> {e with key:=k',val:=x'}) ck) hr fR hb rfl hy (λw' oP=>⟨_,oP,⟨l1++ {e0 with key:=k',val:=x'}::l2,by
     rw[gE];exact(List.perm_middle.trans (hp.cons _)).trans List.perm_middle.symm,F2.append (.cons ⟨rfl,h2.2.1,h2.2.2.1,hx,h2.2.2.2.2⟩ h3) h1,by
     have:=fj.choose_spec.2.2;simpa using this⟩,iQ.of (e1:={e0 with key:=k',val:=x'}) ht (by rw[gE]) rfl⟩)
    refine⟨rfl,ρ,_,?_,hS.1,hS.2⟩;rw[iP]at jo;simp only[Instr.mapUpdate,Sem.run_bind,run_underlying iq,Result.andThen_ok,Sem.run_pure,ar hh (by simp),aA eM,jo,JC,Option.getD_some,gB eM,aM hh (by simp)]
   ·rw[ak]at h;replace h:=U h;obtain⟨s',fR,h⟩:=h;cases h;have iP:=fj.oM dH;obtain⟨l,hp,hf,hn⟩:=fj;have hS:=Rel.setObj (o':= .map (ents.push {key:=k',val:=x',born:=ck}) (ck+1)) hr fR hb rfl hy (λw' oP=>⟨_,oP,⟨{key:=k',val:=x',born:=ck}::l,by
     rw[Array.toList_push];exact(hp.cons _).trans (List.perm_append_singleton _ _).symm,.cons ⟨rfl,eM,x6,hx,.inr rfl⟩ hf,by
     rw[List.map_cons,List.nodup_cons];refine⟨λha=>?_,hn⟩;obtain⟨p,oQ,he⟩:=List.mem_map.1 ha;exact dH p oQ he⟩,iQ.push rfl⟩)
    refine⟨rfl,ρ,_,?_,hS.1,hS.2⟩;rw[iP]at jo;simp only[Instr.mapUpdate,Sem.run_bind,run_underlying iq,Result.andThen_ok,Sem.run_pure,ar hh (by simp),aA eM,jo,aM hh (by simp)]
  ·replace h:=qf h;obtain⟨ud,es,ck,hb,h⟩:=h;replace h:=ae h;obtain⟨ma,h⟩:=h;replace h:=U h;obtain⟨o,ho,h⟩:=h;replace h:=U h;obtain⟨q,rfl,h⟩:=h;replace ma:=Nat.eq_of_beq_eq_true ma;subst ma;cases hm with| @map a y hy=>?_
   obtain⟨ents,hh,fj,iQ⟩:=(hr.blk _ _ y hb hy).2;have jo:=cu (P:=P) eM w fj.fits;rcases gY ho with ⟨⟨vx,bx⟩,he,eJ⟩|⟨he,_⟩
   ·cases he;replace h:=U h;obtain⟨bf,hes,h⟩:=h;replace h:=U h;obtain⟨s',fR,h⟩:=h;cases h;obtain⟨g6,v0,b0,fQ,rfl,rfl⟩:=yV eJ hes;obtain⟨l1,e0,l2,t1,t2,h1,h2,h3,hp,ht,iP,TH,Ss⟩:=fj.gw;have gE:(ents.modify t1.length λe=> {e with key:=k',val:=x'})=(t1++ {e0 with key:=k',val:=x'}::t2).toArray:=by
     apply Array.ext_getElem?;intro i;have hg:ents[i]? =(t1++e0::t2)[i]?:=by rw[<-ht];simp
     rw[Array.getElem?_modify,hg];simp only[List.getElem?_toArray];by_cases hi:t1.length=i
     ·subst hi;simp
     ·rw[if_neg hi];rcases Nat.lt_or_gt_of_ne hi with h|h
      ·rw[List.getElem?_append_right (by omega),List.getElem?_append_right (by omega)];obtain⟨q,hq⟩:∃q,i-t1.length=q+1:=⟨i-t1.length-1,by omega⟩
       rw[hq];rfl
      ·rw[List.getElem?_append_left h,List.getElem?_append_left h]
    have JC:(ents[t1.length]?).map (·.key)=some k':=by
     have:ents[t1.length]? =(t1++e0::t2)[t1.length]?:=by rw[<-ht];simp
     rw[this];simp;exact h2.1.symm
    have hS:=Rel.setObj (o':= .map (ents.modify t1.length λe=> {e with key:=k',val:=x'}) ck) hr fR hb rfl hy (λw' oP=>⟨_,oP,⟨l1++ {e0 with key:=k',val:=x'}::l2,by
     rw[gE];rw[List.append_assoc,List.cons_append];rw[List.append_assoc]at hp;exact(List.perm_middle.trans (hp.cons _)).trans List.perm_middle.symm,F2.append (.cons ⟨rfl,h2.2.1,h2.2.2.1,hx,h2.2.2.2.2⟩ h3) h1,TH,by
     rw[List.map_append,List.map_append,List.map_cons]at Ss⊢;rw[show({e0 with key:=k',val:=x'}:MapEntry).key=e0.key from h2.1];exact Ss⟩,iQ.of (e1:={e0 with key:=k',val:=x'}) ht (by rw[gE]) rfl⟩)
    refine⟨rfl,ρ,_,?_,hS.1,hS.2⟩;rw[iP]at jo;simp only[Instr.mapUpdate,Sem.run_bind,run_underlying iq,Result.andThen_ok,Sem.run_pure,ar hh (by simp),aA eM,jo,JC,Option.getD_some,gB eM,aM hh (by simp)]
   ·cases he
 ·cases h
theorem o0 (ht:ents.toList=t1++e0::t2) (f:MapEntry->MapEntry):ents.modify t1.length f=(t1++f e0::t2).toArray:=by
 apply Array.ext_getElem?;intro i;have hg:ents[i]? =(t1++e0::t2)[i]?:=by rw[<-ht];simp
 rw[Array.getElem?_modify,hg];simp only[List.getElem?_toArray];by_cases hi:t1.length=i
 ·subst hi;simp
 ·rw[if_neg hi];rcases Nat.lt_or_gt_of_ne hi with h|h
  ·rw[List.getElem?_append_right (by omega),List.getElem?_append_right (by omega)];obtain⟨q,hq⟩:∃q,i-t1.length=q+1:=⟨i-t1.length-1,by omega⟩
   rw[hq];rfl
  ·rw[List.getElem?_append_left h,List.getElem?_append_left h]
theorem qE {t:TypeId} {m m' k':Value} (hr:Rel P ρ s w) (h:oR P t s m k=some r) (hm:ag ρ m m') (hk:ag ρ k k'):
  jS P ρ s w (Instr.mapEntry t m' k') r:=by
 unfold oR at h;replace h:=U h;obtain⟨⟨kt,e⟩,iq,h⟩:=h;replace h:=ae h;obtain⟨eM,h⟩:=h;replace iq:=fJ iq;simp only at h eM iq;have x6:=dh eM;have:=hk.plain x6;subst this;split at h
 ·rename_i b;replace h:=bk h;obtain⟨ud,es,ck,hb,h⟩:=h;replace h:=ae h;obtain⟨ma,h⟩:=h;replace h:=U h;obtain⟨o,ho,h⟩:=h;replace ma:=Nat.eq_of_beq_eq_true ma;subst ma;cases hm with| @map a y hy=>?_
  obtain⟨ents,hh,fj,iQ⟩:=(hr.blk _ _ y hb hy).2;have jo:=cu (P:=P) eM w fj.fits;rcases gY ho with ⟨⟨v0,b0⟩,rfl,eJ⟩|⟨rfl,dH⟩
  ·cases b0 with
   |zero=>cases h
   |succ b0=>?_
   replace h:=U h;obtain⟨s',fR,h⟩:=h;cases h;obtain⟨g6,fQ,rfl⟩:=List.append_of_mem eJ;obtain⟨l1,e0,l2,t1,t2,h1,h2,h3,hp,ht,iP⟩:=fj.gw;have gE:=o0 ht λe=> {e with key:=k'}
   have Q1:({e0 with key:=k'}:MapEntry)=e0:=by have:=h2.1;simp only at this;rw[this]
   rw[Q1]at gE;have JC:ents[t1.length]? =some e0:=by
    have:ents[t1.length]? =(t1++e0::t2)[t1.length]?:=by rw[<-ht];simp
    rw[this];simp
   have hS:=Rel.setObj (o':= .map (ents.modify t1.length λe=> {e with key:=k'}) ck) hr fR hb rfl hy (λw' oP=>⟨_,oP,⟨l1++e0::l2,by
    rw[gE];exact(List.perm_middle.trans (hp.cons _)).trans List.perm_middle.symm,F2.append (.cons h2 h3) h1,by
    have:=fj.choose_spec.2.2;exact this⟩,iQ.of (e1:=e0) ht (by rw[gE]) rfl⟩)
   rw[iP]at jo;refine⟨ρ,_,_,?_,.tuple (.cons h2.2.2.2.1 (.cons (.int _ _) .nil)),hS.1,hS.2⟩;have lN:e0.born=b0:=by
    rcases h2.2.2.2.2 with h|h
    ·cases h
    ·exact(Nat.succ.inj h).symm
   simp only[Instr.mapEntry,Sem.run_bind,run_underlying iq,Result.andThen_ok,Sem.run_pure,ar hh (by simp),aA eM,jo,JC,Option.map_some,Option.getD_some,h2.1.symm,gB eM,aM hh (by simp),lN,goInt];rfl
  ·replace h:=U h;obtain⟨z,hz,h⟩:=h;rw[ak]at h;replace h:=U h;obtain⟨s',fR,h⟩:=h;cases h;have iP:=fj.oM dH;obtain⟨l,hp,hf,hn⟩:=fj;have hS:=Rel.setObj (o':= .map (ents.push {key:=k',val:=z,born:=ck}) (ck+1)) hr fR hb rfl hy (λw' oP=>⟨_,oP,⟨{key:=k',val:=z,born:=ck}::l,by
    rw[Array.toList_push];exact(hp.cons _).trans (List.perm_append_singleton _ _).symm,.cons ⟨rfl,eM,x6,fH hz,.inr rfl⟩ hf,by
    rw[List.map_cons,List.nodup_cons];refine⟨λha=>?_,hn⟩;obtain⟨p,oQ,he⟩:=List.mem_map.1 ha;exact dH p oQ he⟩,iQ.push rfl⟩)
   refine⟨ρ,_,_,?_,.tuple (.cons (fH hz) (.cons (.int _ _) .nil)),hS.1,hS.2⟩;rw[iP]at jo;simp only[Instr.mapEntry,Sem.run_bind,run_underlying iq,Result.andThen_ok,Sem.run_pure,ar hh (by simp),aA eM,jo,bZ hz w,aM hh (by simp),goInt];rfl
 ·cases h
theorem vC {b:Nat} {x:Value}:∀ {es bf:List (Value×Value×Nat)},Hq b x es=some bf->∃g6 k v0 fQ,es=g6++(k,v0,b)::fQ∧bf=g6++(k,x,b)::fQ
 | [],_,h=>by cases h
 |(k',v',b')::es,bf,h=>by
  unfold Hq at h;rw[ah]at h;split at h
  ·rename_i hb;cases h;have:=Nat.eq_of_beq_eq_true hb;subst this;exact⟨[],k',v',es,rfl,rfl⟩
  ·rename_i hb;split at h
   ·rename_i r hr;cases h;obtain⟨g6,k,v0,fQ,rfl,rfl⟩:=vC hr;exact⟨(k',v',b')::g6,k,v0,fQ,rfl,rfl⟩
   ·cases h
theorem ov {t:TypeId} {m m' st GS x:Value} (hr:Rel P ρ s w) (h:kP s m st x=some r) (hm:ag ρ m m') (lJ:ag ρ st GS) (hx:ag ρ x x'):
  wN P ρ s w (Instr.entryStore t m' GS x') r:=by
 unfold kP at h;split at h
 ·rename_i b kk n;replace h:=U h;obtain⟨bn,iQ,h⟩:=h;replace h:=bk h;obtain⟨kt,es,ck,hb,h⟩:=h;replace h:=U h;obtain⟨bf,hes,h⟩:=h;replace h:=U h;obtain⟨s',fR,h⟩:=h;cases h;cases hm with| @map a y hy=>?_
  cases lJ;obtain⟨ents,hh,fj,iQ⟩:=(hr.blk _ _ y hb hy).2;obtain⟨g6,k,v0,fQ,rfl,rfl⟩:=vC hes;have hn:n=(bn:Int):=by cases n with|ofNat m=>cases iQ;rfl|negSucc m=>cases iQ
  obtain⟨l1,e0,l2,t1,t2,h1,h2,h3,hp,ht,iP⟩:=fj.gw;have lN:e0.born=bn:=by
   rcases h2.2.2.2.2 with h|h
   ·cases h
   ·exact(Nat.succ.inj h).symm
  have Q2:∀e∈t1,e.born≠bn:= λe he heq=>by have ew:=iQ.1;rw[ht,List.map_append,List.map_cons,List.nodup_append]at ew;exact ew.2.2 e.born (List.mem_map.2 ⟨e,he,rfl⟩) e0.born (by simp) (by rw[heq,lN])
  have Oa:ents.findIdx? (λe=>(e.born:Int)==n)=some t1.length:=by
   have hen:ents=(t1++e0::t2).toArray:=by rw[<-ht]
   rw[hen,List.findIdx?_toArray,List.findIdx?_append,List.findIdx?_cons];have Fw:t1.findIdx? (λe=>(e.born:Int)==n)=none:=by rw[List.findIdx?_eq_none_iff];intro e he;have:=Q2 e he;rw[hn];simp;omega
   rw[Fw,lN,hn];simp
  have gE:=o0 ht λe=> {e with val:=x'}
  have hS:=Rel.setObj (o':= .map (ents.modify t1.length λe=> {e with val:=x'}) ck) hr fR hb rfl hy (λw' oP=>⟨_,oP,⟨l1++ {e0 with val:=x'}::l2,by
   rw[gE];exact(List.perm_middle.trans (hp.cons _)).trans List.perm_middle.symm,F2.append (.cons ⟨h2.1,h2.2.1,h2.2.2.1,hx,h2.2.2.2.2⟩ h3) h1,by
   have:=fj.choose_spec.2.2;simpa using this⟩,iQ.of (e1:={e0 with val:=x'}) ht (by rw[gE]) rfl⟩)
  refine⟨rfl,ρ,_,?_,hS.1,hS.2⟩;simp only[Instr.entryStore,asInt,asIntOf,Sem.run_bind,Result.andThen_ok,Sem.run_pure,ar hh (by simp),Oa,aM hh (by simp)]
 ·cases h
theorem uI {ts:Array TypeId} {ty:TypeId} (hr:Rel P ρ s w) (h:xc P ts s l=some r) (hl:af ρ l l'):
  jS P ρ s w (Builtin.delete_ ts ty l'.toArray) r:=by
 unfold xc at h;split at h
 ·rename_i t0 b k fk;replace h:=U h;obtain⟨⟨kt,e⟩,iq,h⟩:=h;replace h:=ae h;obtain⟨eM,h⟩:=h;replace iq:=fJ iq;simp only at h eM iq;obtain⟨m',k',rfl,hm,hk⟩:=af.two hl;have x6:=dh eM;have:=hk.plain x6;subst this;replace h:=bk h;obtain⟨ud,es,ck,hb,h⟩:=h;replace h:=ae h;obtain⟨ma,h⟩:=h;replace h:=U h;obtain⟨bf,hes,h⟩:=h;replace h:=U h;obtain⟨s',fR,h⟩:=h;replace ma:=Nat.eq_of_beq_eq_true ma;subst ma;cases h;cases hm with| @map a y hy=>?_
  obtain⟨ents,hh,fj,iQ⟩:=(hr.blk _ _ y hb hy).2;have jo:=cu (P:=P) eM w fj.fits;have h0:∀(x y:Value),(#[x,y]:Array Value)[0]? =some x:= λ_ _=>rfl;have h1:∀(x y:Value),(#[x,y]:Array Value)[1]? =some y:= λ_ _=>rfl;rcases DH hes with ⟨g6,⟨v0,b0⟩,fQ,rfl,rfl⟩|⟨dH,rfl⟩
  ·obtain⟨l1,e0,l2,t1,t2,q1,q2,q3,hp,ht,iP⟩:=fj.gw;have gE:(ents.eraseIdxIfInBounds t1.length)=(t1++t2).toArray:=by
    apply Array.ext';rw[Array.toList_eraseIdxIfInBounds,ht];rw[List.eraseIdx_append_of_length_le (Nat.le_refl _),Nat.sub_self];rfl
   have hS:=Rel.setObj (o':= .map (ents.eraseIdxIfInBounds t1.length) ck) hr fR hb rfl hy (λw' oP=>⟨_,oP,⟨l1++l2,by rw[gE];exact hp,F2.append q3 q1,by have:=fj.choose_spec.2.2;rw[List.map_append,List.map_cons]at this;rw[List.map_append];have:=(List.perm_middle.nodup_iff).1 this;exact(List.nodup_cons.1 this).2⟩,iQ.drop ht (by rw[gE])⟩)
   refine⟨ρ,_,_,?_,.tuple .nil,hS.1,hS.2⟩;rw[iP]at jo;simp only[Builtin.delete_,fk,h0,h1,Sem.run_bind,run_underlying iq,Result.andThen_ok,Sem.run_pure,ar hh (by simp),aA eM,jo,aM hh (by simp)]
  ·have iP:=fj.oM dH;have hS:=Rel.setObj (o':= .map ents ck) hr fR hb rfl hy (λw' oP=>⟨_,oP,fj,iQ⟩);refine⟨ρ,_,_,?_,.tuple .nil,hS.1,hS.2⟩;rw[iP]at jo;simp only[Builtin.delete_,fk,h0,h1,Sem.run_bind,run_underlying iq,Result.andThen_ok,Sem.run_pure,ar hh (by simp),aA eM,jo,aM hh (by simp)]
 ·cases h
theorem uJ {t:TypeId} {kt:TypeId} {a:Nat}:Made P ρ w a (Instr.makeMap t none) (.map (some a)) (.map kt [] 0):=by have z8:(w.alloc (.map #[] 0)).heap=w.heap.push (.map #[] 0):=rfl;refine⟨⟨w.heap.size,0,0,[]⟩,_,w.alloc (.map #[] 0),?_,rfl,by simp[z8],(λc hc=>by simp[z8,Array.getElem?_push,Nat.ne_of_lt hc]),rfl,rfl,rfl,ag.map (x:=⟨w.heap.size,0,0,[]⟩) (bE _ _ _),⟨#[],by simp[z8],⟨[],.nil,.nil,by simp⟩,by simp[Borns]⟩⟩;simp only[Instr.makeMap,Sem.run_bind,Result.andThen_ok,Sem.run_pure,run_newObj_alloc]
end Go.Eng
end
