import Derived.Test.YtaadbnppakcjnaaGreatDoorEngB
import Derived.Lib.MakeNoZero
import Derived.Lib.Bytealg
import Derived.Lib.Overlaps
import Derived.Laws.Externs
import Derived.LoopNIn
set_option linter.unusedVariables false
set_option linter.unusedSimpArgs false
/- An evaluator of the code of the model, proved: what it answers, the program does, whatever the world. Part of the proof of SolveKnown. -/
namespace Go.Eng
open Go
variable {P:Program}
structure mX (w w':World):Prop where
 heap:w'.heap=w.heap
 tape:w'.tape=w.tape
 os:w'.os=w.os
 out:w'.output=w.output
theorem yx (k:Nat) (w:World):∃n w',(choose (.mapNext k)).run P w= .ok n w'∧mX w w'∧(0<k->n<k):=by
 rw[run_choose_drew];by_cases h:(Question.mapNext k).forced=true
 ·rw[if_pos h];exact⟨0,w,rfl,⟨rfl,rfl,rfl,rfl⟩,id⟩
 ·rw[if_neg h];exact⟨_,w.drew,rfl,⟨rfl,rfl,rfl,rfl⟩,λh=>Nat.mod_lt _ h⟩
theorem EH {w:World} {x:Nat} {ty:TypeId} (h:w.heap[x]? =some (.mapIter none 0 #[] 0)):(Instr.next (.pointer (some ⟨x,0,none⟩)) false ty).run P w= .ok (.tuple #[.bool false]) w:=by simp only[Instr.next,Sem.run_bind,au h (by simp),Result.andThen_ok,Sem.run_pure]
theorem next_some {w:World} {x m ck:Nat} {seen:Array Nat} {ents:Array MapEntry} (hi:w.heap[x]? =some (.mapIter (some m) ck seen ck)) (hm:w.heap[m]? =some (.map ents ck)) (hb:Borns ck ents):
  (∃w',(∀e∈ents.toList,e.born∈seen.toList)∧(∀ty,(Instr.next (.pointer (some ⟨x,0,none⟩)) false ty).run P w= .ok (.tuple #[.bool false]) w')∧mX w w')∨
  ∃e w1,e∈ents.toList∧e.born∉seen.toList∧(∀ty,(Instr.next (.pointer (some ⟨x,0,none⟩)) false ty).run P w= .ok (.tuple #[.bool true,e.key,e.val]) {w1 with heap:=w1.heap.setIfInBounds x (.mapIter (some m) ck (seen.push e.born) ck)})∧mX w w1:=by
 have hold:((ents.filter λe=>!seen.contains e.born).filter λe=>decide (e.born<ck))=(ents.filter λe=>!seen.contains e.born):=by rw[Array.filter_eq_self];intro e he;have:=hb.2 e (by simpa using(Array.mem_filter.1 he).1);simpa using this
 have hnew:((ents.filter λe=>!seen.contains e.born).filter λe=>decide (e.born≥ck))= #[]:=by rw[Array.filter_eq_empty_iff];intro e he;have:=hb.2 e (by simpa using(Array.mem_filter.1 he).1);simp;omega
 have OS:(!seen.isEmpty&&!ents.isEmpty&&ents.all λe=>decide (e.born≥ck))=false:=by
  cases wV:ents.isEmpty with
  |true=>simp
  |false=>
   have hne:0<ents.size:=by refine Nat.pos_of_ne_zero λh0=>?_;rw[Array.isEmpty,h0]at wV;exact absurd wV (by simp)
   have h0:=hb.2 ents[0] (by simp);have:(ents.all λe=>decide (e.born≥ck))=false:=by rw[Array.all_eq_false];exact⟨0,hne,by simp;omega⟩
   rw[this];simp
 generalize DK:(ents.filter λe=>!seen.contains e.born)=left at hold hnew;have eb:∀e∈left.toList,e∈ents.toList∧e.born∉seen.toList:= λe he=>by rw[<-DK]at he;simpa using he
 have Bx:∃bad:Sem Value,∀(FW:Array (Option MapEntry)),FW=(if left.isEmpty then #[none]else #[])++(left++ #[]).map some->∀n w',(choose (.mapNext FW.size)).run P w= .ok n w'->mX w w'->
   ∀ty,(Instr.next (.pointer (some ⟨x,0,none⟩)) false ty).run P w=Sem.run P (match FW[n]? with
    |some (some e)=>do
     setObj x (.mapIter (some m) ck (seen.push e.born) ck)
     pure (.tuple #[.bool true,e.key,e.val])
    |some none=>pure (.tuple #[.bool false])
    |none=>bad) w':=by
  apply Exists.intro;intro FW hc n w' Fx hs ty;simp only[Instr.next,Sem.run_bind,au hi (by simp),au hm (by simp),Result.andThen_ok,Sem.run_pure,OS,Bool.false_eq_true,if_false,DK,hold,hnew];rw[<-hc,Fx];rfl
 obtain⟨bad,Bx⟩:=Bx;obtain⟨n,w',Fx,hs,hn⟩:=yx (P:=P) ((if left.isEmpty then #[none]else #[])++(left++ #[]).map some:Array (Option MapEntry)).size w;have hrun:=Bx _ rfl n w' Fx hs;by_cases wV:left.isEmpty=true
 ·have hl:left= #[]:=by simpa[Array.isEmpty]using wV
  left;refine⟨w',λe he=>?_,?_,hs⟩
  ·have hne:e∉left.toList:=by rw[hl];simp
   rw[<-DK]at hne;have fP:e∈ents:=by simpa using he
   simp only[Array.mem_toList_iff,Array.mem_filter,not_and]at hne;have:=hne fP;simpa using this
  ·intro ty;rw[hrun,if_pos wV];subst hl;have:n=0:=by have:=hn (by simp);simpa using this
   subst this;simp[Sem.run_pure]
 ·right;rw[if_neg wV]at hn;simp only[if_neg wV,Array.append_empty,Array.empty_append]at hrun;simp only[Array.append_empty,Array.empty_append,Array.size_map]at hn;have Iz:0<left.size:=by
   refine Nat.pos_of_ne_zero λh0=>wV ?_;rw[Array.isEmpty,h0];rfl
  have hlt:=hn Iz;have fN:(left.map some)[n]? =some (some left[n]):=by simp[hlt]
  obtain⟨h1,h2⟩:=eb left[n] (by simp);refine⟨left[n],w',h1,h2,?_,hs⟩;intro ty;rw[hrun,fN];have pG:w'.heap[x]? =some (.mapIter (some m) ck seen ck):=by rw[hs.heap];exact hi
  simp only[Sem.run_bind,aQ pG (by simp),Result.andThen_ok,Sem.run_pure]
theorem find_born {ents:Array MapEntry} {ck:Nat} {e:MapEntry} (hb:Borns ck ents) (he:e∈ents.toList):ents.find? (λx=>x.born==e.born)=some e:=by
 obtain⟨t1,t2,ht⟩:=List.append_of_mem he;have hen:ents=(t1++e::t2).toArray:=by rw[<-ht]
 have dR:=hb.1;rw[ht,List.map_append,List.map_cons,List.nodup_append]at dR;rw[hen,List.find?_toArray,List.find?_append];have:t1.find? (λx=>x.born==e.born)=none:=by rw[List.find?_eq_none];intro x hx;have:=dR.2.2 x.born (List.mem_map.2 ⟨x,hx,rfl⟩) e.born (by simp);simpa using this
 rw[this];simp
theorem run_entry {w:World} {x m ck:Nat} {seen:Array Nat} {ents:Array MapEntry} {e:MapEntry} (hi:w.heap[x]? =some (.mapIter (some m) ck (seen.push e.born) ck)) (hm:w.heap[m]? =some (.map ents ck)) (hb:Borns ck ents) (he:e∈ents.toList):
  (Instr.entry (.pointer (some ⟨x,0,none⟩))).run P w= .ok (.tuple #[e.key,e.val]) w:=by
 have Nx:(seen.push e.born).back? =some e.born:=by simp
 simp only[Instr.entry,Sem.run_bind,au hi (by simp),au hm (by simp),Result.andThen_ok,Sem.run_pure,Nx,bne_self_eq_false,Bool.false_eq_true,if_false,find_born hb he]
end Go.Eng
namespace Go.Eng
open Go
variable {P:Program}
theorem kS {R1 R2:Value->Value->Prop} {r:Value->Option Value} (hr:∀v v' u,r v=some v'->R1 v u->R2 v' u):∀ {l l' m:List Value},bW r l=some l'->F2 R1 l m->F2 R2 l' m
 | [],l',m,h,hm=>by cases h;cases hm;exact .nil
 |v::l,l',m,h,hm=>by have h:ob (r v) (λv'=>ob (bW r l) λl'=>some (v'::l'))=some l':=h;replace h:=U h;obtain⟨v1,h1,h⟩:=h;replace h:=U h;obtain⟨l1,h2,h⟩:=h;cases h;cases hm with|cons a b=>exact .cons (hr _ _ _ h1 a) (kS hr h2 b)
theorem mY {ρ:Ren}:∀ {l m:List Value},af ρ l m->F2 (ag ρ) l m
 |_,_,.nil=> .nil
 |_,_,.cons h hs=> .cons h (mY hs)
theorem mZ {ρ:Ren}:∀ {l m:List Value},F2 (ag ρ) l m->af ρ l m
 |_,_,.nil=> .nil
 |_,_,.cons h hs=> .cons h (mZ hs)
theorem cZ {bf du:Ren} {φ:Nat->Option Nat} (h:∀a b x,φ a=some b->bf a=some x->du b=some x):∀(n:Nat) (v v' u:Value),aV φ n v=some v'->ag bf v u->ag du v' u
 |0,v,v',u,hv,_=>by cases hv
 |n+1,v,v',u,hv,hr=>by
  have iq:∀ {l l' m:List Value},bW (aV φ n) l=some l'->af bf l m->af du l' m:= λh1 h2=>mZ (kS (λv v' u=>cZ h n v v' u) h1 (mY h2));cases hr with
  |bool b=>cases b<;>(cases hv;exact .bool _)
  |int k m=>have hv:gM k m=some v':=hv;rw[di]at hv;cases hv;exact .int k m
  |string s=>cases hv;exact .string s
  |junk a b w hw nS=>cases hv;exact .junk a b _ hw nS
  |lY g off=>cases hv;exact .lY g off
  |eO=>cases hv;exact .eO
  | @ptr a x off hx=>have hv:(ob (φ a) λb'=>ar off λo'=>some (.pointer (some ⟨b',o',none⟩)))=some v':=hv;obtain⟨b',h1,hv⟩:=U hv;rw[ak]at hv;cases hv;exact .ptr off (h _ _ _ h1 hx)
  |ba=>cases hv;exact .ba
  | @slice a x off m c cap ad hx g1 g2 g3 g4 g5=>have hv:(ob (φ a) λb'=>ar off λo'=>ar m λm'=>ar c λc'=>some (.slice (some ⟨b',o',none⟩) m' c'))=some v':=hv;obtain⟨b',h1,hv⟩:=U hv;simp only[ak]at hv;cases hv;exact .slice off m c cap ad (h _ _ _ h1 hx) g1 g2 g3 g4 g5
  |ij=>cases hv;exact .ij
  | @map a x hx=>have hv:(ob (φ a) λb'=>some (.map (some b')))=some v':=hv;obtain⟨b',h1,hv⟩:=U hv;cases hv;exact .map (h _ _ _ h1 hx)
  | @func f a b a' b' ha hb=>have hv:(ob (bW (aV φ n) a.toList) λa'=>ob (bW (aV φ n) b.toList) λb'=>some (.func (.func f) ⟨a'⟩ ⟨b'⟩))=some v':=hv;obtain⟨a1,h1,hv⟩:=U hv;obtain⟨b1,h2,hv⟩:=U hv;cases hv;exact .func f (iq h1 ha) (iq h2 hb)
  |yield=>cases hv
  |nilFunc=>cases hv;exact .nilFunc
  |nilIface=>cases hv;exact .nilIface
  | @iface t x x' hx=>have hv:(ob (aV φ n x) λx'=>some (.iface t x'))=some v':=hv;obtain⟨x1,h1,hv⟩:=U hv;cases hv;exact .iface t (cZ h n _ _ _ h1 hx)
  | @agg a b ha=>have hv:(ob (bW (aV φ n) a.toList) λa'=>some (.agg ⟨a'⟩))=some v':=hv;obtain⟨a1,h1,hv⟩:=U hv;cases hv;exact .agg (iq h1 ha)
  | @tuple a b ha=>have hv:(ob (bW (aV φ n) a.toList) λa'=>some (.tuple ⟨a'⟩))=some v':=hv;obtain⟨a1,h1,hv⟩:=U hv;cases hv;exact .tuple (iq h1 ha)
theorem qQ {r:Value->Option Value}:∀ {l l':List Value},bW r l=some l'->l'.length=l.length∧∀(j:Nat) (v':Value),l'[j]? =some v'->∃v,l[j]? =some v∧r v=some v'
 | [],l',h=>by cases h;exact⟨rfl,λj v' hj=>by simp at hj⟩
 |v::l,l',h=>by
  have h:ob (r v) (λv'=>ob (bW r l) λl'=>some (v'::l'))=some l':=h;replace h:=U h;obtain⟨v1,h1,h⟩:=h;replace h:=U h;obtain⟨l1,h2,h⟩:=h;cases h;obtain⟨i1,i2⟩:=qQ h2;refine⟨by simp[i1],λj v' hj=>?_⟩;cases j with
  |zero=>simp at hj;subst hj;exact⟨v,rfl,h1⟩
  |succ j=>simp at hj⊢;exact i2 j v' hj
theorem bo:∀ {l:List Nat},bE l=true->l.Nodup
 | [],_=>List.nodup_nil
 |x::t,h=>by
  have h:ab (List.rec (motive:= λ_=>Bool) false (λy _ i=>ab (Nat.beq x y) true i) t) false (bE t)=true:=h;have hm:∀t:List Nat,(List.rec (motive:= λ_=>Bool) false (λy _ i=>ab (Nat.beq x y) true i) t:Bool)=false->x∉t:=by
   intro t;induction t with
   |nil=>simp
   |cons y t ih=>
    intro h;have h:ab (Nat.beq x y) true (List.rec (motive:= λ_=>Bool) false (λy _ i=>ab (Nat.beq x y) true i) t)=false:=h;rw[ai]at h;split at h
    ·cases h
    ·rename_i hb;intro hx;rcases List.mem_cons.1 hx with rfl|hx
     ·exact hb (Nat.beq_refl x)
     ·exact ih h hx
  cases e:(List.rec (motive:= λ_=>Bool) false (λy _ i=>ab (Nat.beq x y) true i) t:Bool)with
  |true=>rw[e]at h;cases h
  |false=>rw[e]at h;exact List.nodup_cons.2 ⟨hm t e,bo h⟩
theorem iO {n:Nat}:∀ {l:List Nat},oK n l=true->∀x∈l,x<n
 | [],_,x,hx=>by cases hx
 |y::t,h,x,hx=>by
  have h:ab (Nat.blt y n) (oK n t) false=true:=h;obtain⟨h0,h⟩:=ah h;rcases List.mem_cons.1 hx with rfl|hx
  ·have:=Nat.le_of_ble_eq_true h0;omega
  ·exact iO h x hx
theorem ga {n:Nat}:∀ {l:List Nat},ml n l=true->∀x∈l,n<=x
 | [],_,x,hx=>by cases hx
 |y::t,h,x,hx=>by
  have h:ab (Nat.ble n y) (ml n t) false=true:=h;obtain⟨h0,h⟩:=ah h;rcases List.mem_cons.1 hx with rfl|hx
  ·exact Nat.le_of_ble_eq_true h0
  ·exact ga h x hx
theorem zp {a b:List Value} (h:kA (ku 12) a b=true):a=b:=ff (bG 12) a b h
theorem ow:∀ {a b:T (List Value)},Mo a b=true->a=b
 | .e,.e,_=>rfl
 | .e,.n _ _ _,h=>by cases h
 | .n _ _ _,.e,h=>by cases h
 | .n v l r,.n v' l' r',h=>by
  have h:ab (Option.rec (motive:= λ_=>Bool) (Option.rec (motive:= λ_=>Bool) true (λ_=>false) v') (λx=>Option.rec (motive:= λ_=>Bool) false (λy=>kA (ku 12) x y) v') v) (ab (Mo l l') (Mo r r') false) false=true:=h;obtain⟨h0,h⟩:=ah h;obtain⟨h1,h2⟩:=ah h;rw[ow h1,ow h2];cases v with
  |none=>cases v' with|none=>rfl|some _=>cases h0
  |some x=>cases v' with|none=>cases h0|some y=>rw[zp h0]
theorem lN:∀ {a b:List (Value×Value×Nat)},FL a b=true->a=b
 | [],[],_=>rfl
 | [],_::_,h=>by cases h
 |_::_,[],h=>by cases h
 |(k,v,n)::a,(k',v',n')::b,h=>by have h:ab (ku 12 k k') (ab (ku 12 v v') (ab (Nat.beq n n') (FL a b) false) false) false=true:=h;obtain⟨h0,h⟩:=ah h;obtain⟨h1,h⟩:=ah h;obtain⟨h2,h⟩:=ah h;rw[bG 12 _ _ h0,bG 12 _ _ h1,Nat.eq_of_beq_eq_true h2,lN h]
theorem pt {a b:Blk} (h:xl a b=true):a=b:=by
 unfold xl at h;split at h
 ·rename_i c sz n ro et c' iX n' yS tz;obtain⟨h0,h⟩:=ah h;obtain⟨h1,h⟩:=ah h;obtain⟨h2,h⟩:=ah h;obtain⟨h3,h⟩:=ah h;have hro:ro=yS:=by cases ro<;>cases yS<;>first|rfl|exact(Bool.noConfusion h3)
  rw[Nat.eq_of_beq_eq_true h0,Nat.eq_of_beq_eq_true h1,Nat.eq_of_beq_eq_true h2,hro,ow h]
 ·obtain⟨h0,h⟩:=ah h;obtain⟨h1,h⟩:=ah h;rw[Nat.eq_of_beq_eq_true h0,Nat.eq_of_beq_eq_true h1,lN h]
 ·cases h
end Go.Eng
namespace Go.Eng
open Go
variable {P:Program}
theorem xS {N:Nat} {π:cX} {a b:Nat} (h:yT N π a=some b):(a<N∧b=a)∨(N<=a∧(a,b)∈π):=by
 unfold yT at h;rw[ai]at h;split at h
 ·rename_i hb;rw[ak]at h;cases h;exact .inl ⟨Nat.le_of_ble_eq_true hb,rfl⟩
 ·rename_i hb;refine .inr ⟨Nat.le_of_not_lt λhlt=>hb (Nat.ble_eq_true_of_le hlt),?_⟩;clear hb;induction π with
  |nil=>cases h
  |cons p t ih=>
   have h:ab (Nat.beq p.1 a) (some p.2) (List.rec (motive:= λ_=>Option Nat) none (λp _ ih=>ab (Nat.beq p.1 a) (some p.2) ih) t)=some b:=h;rw[ai]at h;split at h
   ·rename_i he;cases h;rw[<-Nat.eq_of_beq_eq_true he];exact List.mem_cons_self
   ·exact List.mem_cons_of_mem _ (ih h)
theorem rK:∀ {l:cX},(Bl l).Nodup->∀ {a b b'},(a,b)∈l->(a,b')∈l->b=b'
 | [],_,a,b,b',h,_=>by cases h
 |p::t,hn,a,b,b',h1,h2=>by
  have hn:(p.1::Bl t).Nodup:=hn;have hm:∀ {l:cX} {q:Nat×Nat},q∈l->q.1∈Bl l:= λ {l q} hq=>by
   induction l with
   |nil=>cases hq
   |cons x l ih=>
    rcases List.mem_cons.1 hq with rfl|hq
    ·exact List.mem_cons_self
    ·exact List.mem_cons_of_mem _ (ih hq)
  obtain⟨h3,h4⟩:=List.nodup_cons.1 hn;rcases List.mem_cons.1 h1 with e1|e1<;>rcases List.mem_cons.1 h2 with e2|e2
  ·rw[<-e1]at e2;cases e2;rfl
  ·rw[<-e1]at h3;exact(h3 (hm (q:=(a,b')) e2)).elim
  ·rw[<-e2]at h3;exact(h3 (hm (q:=(a,b)) e1)).elim
  ·exact rK h4 e1 e2
theorem xT:∀ {l:cX} {q:Nat×Nat},q∈l->q.1∈Bl l
 |x::l,q,hq=>by
  rcases List.mem_cons.1 hq with rfl|hq
  ·exact List.mem_cons_self
  ·exact List.mem_cons_of_mem _ (xT hq)
theorem jU:∀ {l:cX} {q:Nat×Nat},q∈l->q.2∈Bn l
 |x::l,q,hq=>by
  rcases List.mem_cons.1 hq with rfl|hq
  ·exact List.mem_cons_self
  ·exact List.mem_cons_of_mem _ (jU hq)
theorem rL:∀ {l:cX},(Bn l).Nodup->∀ {p q},p∈l->q∈l->p.2=q.2->p=q
 |p::t,hn,x,y,h1,h2,he=>by
  have hn:(p.2::Bn t).Nodup:=hn;obtain⟨h3,h4⟩:=List.nodup_cons.1 hn;rcases List.mem_cons.1 h1 with rfl|e1<;>rcases List.mem_cons.1 h2 with rfl|e2
  ·rfl
  ·exact(h3 (by rw[he];exact jU e2)).elim
  ·exact(h3 (by rw[<-he];exact jU e1)).elim
  ·exact rL h4 e1 e2 he
theorem oz {φ:Nat->Option Nat} {x:Option Blk} {y:Blk} (h:qd φ x (some y)=true):∃x',x=some x'∧FM φ x' y=true:=by
 cases x with
 |none=>cases h
 |some x'=>exact⟨x',rfl,h⟩
theorem qR {φ:Nat->Option Nat} {f g:T Blk}:∀ {n L:Nat},Ib φ f g n L=true->∀a,L<=a->a<L+n->qd φ (f.get a) (g.get a)=true
 |0,L,_,a,h1,h2=>by omega
 |n+1,L,h,a,h1,h2=>by
  have h:ab (qd φ (f.get L) (g.get L)) (Ib φ f g n (Nat.succ L)) false=true:=h;obtain⟨h3,h4⟩:=ah h;by_cases e:a=L
  ·rw[e];exact h3
  ·exact qR h4 a (by omega) (by omega)
theorem xU {φ:Nat->Option Nat} {f g:T Blk}:∀ {l:cX},Ic φ f g l=true->∀p∈l,qd φ (f.get p.1) (g.get p.2)=true
 |q::l,h,p,hp=>by
  have h:ab (qd φ (f.get q.1) (g.get q.2)) (Ic φ f g l) false=true:=h;obtain⟨h3,h4⟩:=ah h;rcases List.mem_cons.1 hp with rfl|hp
  ·exact h3
  ·exact xU h4 p hp
theorem mH {φ:Nat->Option Nat}:∀ {c' c:T (List Value)},Jr φ c' c=true->∀i l',c'.get i=some l'->∃l,c.get i=some l∧bW (aV φ 12) l=some l'
 | .e,_,_,i,l',h=>by rw[T.get_e]at h;cases h
 | .n v' l1 r1,.e,hs,i,l',h=>by
  have hs:ab (Option.rec (motive:= λ_=>Bool) true (λ_=>false) v') (ab (Jr φ l1 .e) (Jr φ r1 .e) false) false=true:=hs;obtain⟨h0,hs⟩:=ah hs;obtain⟨h1,h2⟩:=ah hs;rcases aA i with rfl|⟨m,rfl⟩|⟨m,rfl⟩
  ·rw[T.bp]at h;subst h;cases h0
  ·rw[T.aH]at h;obtain⟨l,e,_⟩:=mH h1 m l' h;rw[T.get_e]at e;cases e
  ·rw[T.ay]at h;obtain⟨l,e,_⟩:=mH h2 m l' h;rw[T.get_e]at e;cases e
 | .n v' l1 r1,.n v l2 r2,hs,i,l',h=>by
  have hs:ab (PR φ v v') (ab (Jr φ l1 l2) (Jr φ r1 r2) false) false=true:=hs;obtain⟨h0,hs⟩:=ah hs;obtain⟨h1,h2⟩:=ah hs;rcases aA i with rfl|⟨m,rfl⟩|⟨m,rfl⟩
  ·rw[T.bp]at h⊢;subst h;cases v with
   |none=>cases h0
   |some x=>
    have h0:Option.rec (motive:= λ_=>Bool) false (λx'=>kA (ku 12) x' l') (bW (aV φ 12) x)=true:=h0;cases hx:bW (aV φ 12) x with
    |none=>rw[hx]at h0;cases h0
    |some x'=>rw[hx]at h0;exact⟨x,rfl,by rw[hx,zp h0]⟩
  ·rw[T.aH]at h⊢;exact mH h1 m l' h
  ·rw[T.ay]at h⊢;exact mH h2 m l' h
theorem rM {k:Value}:∀ {es rest:List an} {q:an},xn k es=some (q,rest)->∃e1 e2,es=e1++q::e2∧rest=e1++e2∧q.1=k
 | [],rest,q,h=>by cases h
 |e::t,rest,q,h=>by
  have h:ab (ku 12 e.1 k) (some (e,t)) (ob (xn k t) λq=>some (q.1,e::q.2))=some (q,rest):=h;rw[ai]at h;split at h
  ·rename_i hk;cases h;exact⟨[],t,rfl,rfl,bG 12 _ _ hk⟩
  ·replace h:=U h;obtain⟨p,hp,h⟩:=h;cases h;obtain⟨e1,e2,h1,h2,h3⟩:=rM (q:=p.1) (rest:=p.2) hp;exact⟨e::e1,e2,by rw[h1];rfl,by rw[h2];rfl,h3⟩
theorem xV {α:Type} {R1 R2:an->α->Prop} {φ:Nat->Option Nat} (hR:∀p q e,p.1=q.1->Ia φ p q=true->R1 p e->R2 q e):∀ {bc es:List an} {l:List α},Dw φ bc es=true->F2 R1 es l->∃l',l'.Perm l∧F2 R2 bc l'∧(bc.map (·.1)).Perm (es.map (·.1))
 | [],[],l,_,hf=>by cases hf;exact⟨[],.refl _,.nil,.refl _⟩
 | [],_::_,l,h,_=>by cases h
 |e::bc,es,l,h,hf=>by
  have h:Option.rec (motive:= λ_=>Bool) false (λq:an×List an=>ab (Ia φ q.1 e) (Dw φ bc q.2) false) (xn e.1 es)=true:=h;cases ht:xn e.1 es with
  |none=>rw[ht]at h;cases h
  |some q=>
   rw[ht]at h;obtain⟨h1,h2⟩:=ah h;obtain⟨e1,e2,rfl,hr,hk⟩:=rM (q:=q.1) (rest:=q.2) ht;obtain⟨m1,b,m2,rfl,f1,hb,f2⟩:=hf.split;have RQ:F2 R1 q.2 (m1++m2):=by rw[hr];exact F2.append f2 f1
   obtain⟨l',p1,p2,p3⟩:=xV hR h2 RQ;refine⟨b::l',(p1.cons b).trans List.perm_middle.symm,.cons (hR _ _ _ hk h1 hb) p2,?_⟩;rw[hr]at p3;simp only[List.map_cons,List.map_append]at p3⊢;rw[<-hk];exact(p3.cons _).trans List.perm_middle.symm
theorem vV {bf du:Ren} {φ:Nat->Option Nat} (h:∀a b x,φ a=some b->bf a=some x->du b=some x) {x:Loc} {w:World} {k k':Blk} (hc:FM φ k k'=true) (hb:bX P bf x w k):bX P du x w k'∧dZ k=dZ k':=by
 unfold FM at hc;split at hc
 ·rename_i c sz n ro et c' iX n' yS tz;replace hc:=ah hc;obtain⟨h0,hc⟩:=hc;replace hc:=ah hc;obtain⟨h1,hc⟩:=hc;replace hc:=ah hc;obtain⟨h2,hc⟩:=hc;replace hc:=ah hc;obtain⟨h3,hc⟩:=hc;have hro:ro=yS:=by cases ro<;>cases yS<;>first|rfl|exact(Bool.noConfusion h3)
  replace h0:=Nat.eq_of_beq_eq_true h0;replace h1:=Nat.eq_of_beq_eq_true h1;replace h2:=Nat.eq_of_beq_eq_true h2;subst h0 h1 h2 hro;refine⟨⟨λi l' hl=>?_,hb.all,hb.free,hb.shape,hb.mult⟩,rfl⟩;obtain⟨l,hg,Fo⟩:=mH hc i l' hl;obtain⟨b1,b2,b3⟩:=hb.cell i l hg;obtain⟨g1,g2⟩:=qQ Fo;refine⟨b1,by rw[g1,b2],λj v' hv=>?_⟩;obtain⟨v,Ki,Fy⟩:=g2 j v' hv;obtain⟨u,hu,hr⟩:=b3 j v Ki;exact⟨u,hu,cZ h 12 v v' u Fy hr⟩
 ·rename_i kt es ck sK bc ck';replace hc:=ah hc;obtain⟨h0,hc⟩:=hc;replace hc:=ah hc;obtain⟨h1,hc⟩:=hc;replace h0:=Nat.eq_of_beq_eq_true h0;replace h1:=Nat.eq_of_beq_eq_true h1;subst h0 h1;obtain⟨ents,e1,⟨l,p1,p2,p3⟩,e3⟩:=hb;obtain⟨l',q1,q2,q3⟩:=xV (R2:= λp e=>p.1=e.key∧aG P kt p.1=true∧Plain p.1∧ag du p.2.1 e.val∧(p.2.2=0∨p.2.2=e.born+1)) (λp q e hk J1 hR=>by
   obtain⟨r1,r2,r3,r4,r5⟩:=hR;obtain⟨c1,c2⟩:=ah J1;rw[<-hk];refine⟨r1,r2,r3,?_,?_⟩
   ·cases hv:aV φ 12 p.2.1 with
    |none=>rw[hv]at c1;cases c1
    |some v'=>rw[hv]at c1;have c1:ku 12 v' q.2.1=true:=c1;rw[<-bG 12 _ _ c1];exact cZ h 12 _ _ _ hv r4
   ·rw[ai]at c2;split at c2
    ·rename_i hz;exact .inl (Nat.eq_of_beq_eq_true hz)
    ·rw[<-Nat.eq_of_beq_eq_true c2];exact r5) hc p2
  exact⟨⟨ents,e1,⟨l',q1.trans p1,q2,q3.nodup_iff.2 p3⟩,e3⟩,rfl⟩
 ·cases hc
theorem EJ {x y:Option Blk} (h:Dx x y=true):x=y:=by
 cases x with
 |none=>cases y with|none=>rfl|some _=>cases h
 |some x=>cases y with|none=>cases h|some y=>rw[pt h]
theorem qS {h g:T Blk}:∀ {n L:Nat} {ch:List Nat},yO h g n L=some ch->∀a,L<=a->a<L+n->a∈ch∨h.get a=g.get a
 |0,L,ch,_,a,h1,h2=>by omega
 |n+1,L,ch,hc,a,h1,h2=>by
  have hc:ob (yO h g n (Nat.succ L)) (λl=>ab (Dx (h.get L) (g.get L)) (some l) (ar L λa=>some (a::l)))=some ch:=hc;obtain⟨l,hl,hc⟩:=U hc;rw[ai]at hc;have ih:= λhne:a≠L=>qS hl a (by omega) (by omega);split at hc
  ·rename_i hs;cases hc;by_cases e:a=L
   ·rw[e];exact .inr (EJ hs)
   ·exact ih e
  ·rw[ak]at hc;cases hc;by_cases e:a=L
   ·rw[e];exact .inl List.mem_cons_self
   ·exact(ih e).imp (List.mem_cons_of_mem _) id
theorem qT {f h:T Blk}:∀ {l:List Nat},Ap f h l=true->∀a∈l,f.get a≠h.get a
 |b::l,hc,a,ha=>by
  have hc:ab (Nat.beq (Hv (f.get b)) (Hv (h.get b))) false (Ap f h l)=true:=hc;rw[ai]at hc;split at hc
  ·cases hc
  ·rename_i hne;rcases List.mem_cons.1 ha with rfl|ha
   ·intro e;exact hne (by rw[e];exact Nat.beq_refl _)
   ·exact qT hc a ha
theorem xW {h0 f:T Blk}:∀ {n a:Nat} {h h':T Blk},FN h0 f n a h=some h'->∀j,(j<a∨a+n<=j)->h'.get j=h.get j
 |0,a,h,h',e,j,_=>by cases e;rfl
 |n+1,a,h,h',e,j,hj=>by
  have e:ob (G2 (h0.get a) (f.get a)) (λb=>ob (Option.rec (motive:= λ_=>Option (T Blk)) (T.put none h a) (λk=>T.put (some k) h a) b) λh'=>FN h0 f n (Nat.succ a) h')=some h':=e;obtain⟨b,_,e⟩:=U e;obtain⟨h1,e1,e⟩:=U e;have hp:∃z,T.put z h a=some h1:=by
   cases b with
   |none=>exact⟨_,e1⟩
   |some k=>exact⟨_,e1⟩
  obtain⟨z,hp⟩:=hp;rw[xW e j (by omega),T.bu _ _ _ _ hp,if_neg (by omega)]
theorem m5:∀ {l:List Nat} {s s':AS},ql l s=some s'->s'.nx=s.nx∧s'.ao=s.ao∧(∀a∈l,s.ao<=a)∧∀j,s'.h.get j=if j∈l then none else s.h.get j
 | [],s,s',h=>by cases h;exact⟨rfl,rfl,λa ha=>(by cases ha),λj=>by simp⟩
 |a::l,s,s',h=>by
  have h:ob (s.set a none) (ql l)=some s':=h;obtain⟨s1,h1,h⟩:=U h;obtain⟨i1,i2,i3,i4⟩:=m5 h;obtain⟨j1,j2⟩:=AS.cD h1;obtain⟨k1,k2⟩:=AS.aT h1;refine⟨i1.trans j1,i2.trans k1,λb hb=>?_,λj=>?_⟩
  ·rcases List.mem_cons.1 hb with rfl|hb
   ·exact k2
   ·have:=i3 b hb;rw[k1]at this;exact this
  ·rw[i4,j2];by_cases e1:j∈l
   ·rw[if_pos e1,if_pos (List.mem_cons_of_mem _ e1)]
   ·rw[if_neg e1];by_cases e2:j=a
    ·rw[if_pos e2,if_pos (by rw[e2];exact List.mem_cons_self)]
    ·rw[if_neg e2,if_neg (λh=>(List.mem_cons.1 h).elim e2 e1)]
theorem iP {h0:T Blk}:∀ {l:List Nat} {h h':T Blk},mo h0 l h=some h'->∀j,h'.get j=if j∈l then h0.get j else h.get j
 | [],h,h',e,j=>by cases e;simp
 |a::l,h,h',e,j=>by
  have e:ob (Option.rec (motive:= λ_=>Option (T Blk)) (T.put none h a) (λk=>T.put (some k) h a) (h0.get a)) (mo h0 l)=some h':=e;obtain⟨h1,e1,e⟩:=U e;have e1:T.put (h0.get a) h a=some h1:=by
   cases hg:h0.get a with
   |none=>rw[hg]at e1;exact e1
   |some k=>rw[hg]at e1;exact e1
  rw[iP e j,T.bu _ _ _ _ e1];by_cases m1:j∈l
  ·rw[if_pos m1,if_pos (List.mem_cons_of_mem _ m1)]
  ·rw[if_neg m1];by_cases m2:j=a
   ·rw[if_pos m2,if_pos (by rw[m2];exact List.mem_cons_self),m2]
   ·rw[if_neg m2,if_neg (λh=>(List.mem_cons.1 h).elim m2 m1)]
theorem iH {h:T Blk}:∀ {n L:Nat} {od:List Nat},Bp h n L=some od->∀a∈od,Ie (h.get a)=true∧L<=a∧a<L+n
 |0,L,od,e,a,ha=>by cases e;cases ha
 |n+1,L,od,e,a,ha=>by
  have e:ob (Bp h n (Nat.succ L)) (λl=>ab (Ie (h.get L)) (ar L λa=>some (a::l)) (some l))=some od:=e;obtain⟨l,hl,e⟩:=U e;rw[ai]at e;split at e
  ·rename_i ho;rw[ak]at e;cases e;rcases List.mem_cons.1 ha with rfl|ha
   ·exact⟨ho,Nat.le_refl _,by omega⟩
   ·obtain⟨a1,a2,a3⟩:=iH hl a ha;exact⟨a1,by omega,by omega⟩
  ·cases e;obtain⟨a1,a2,a3⟩:=iH hl a ha;exact⟨a1,by omega,by omega⟩
theorem lO {f:an->Bool}:∀ {es:List an} {q:List an×List an},nM f es=some q->q.1.Sublist es∧q.2.Sublist es∧∀e∈es,e∈q.1∨e∈q.2
 | [],q,h=>by cases h;exact⟨.slnil,.slnil,λe he=>by cases he⟩
 |e::es,q,h=>by
  have h:ob (nM f es) (λq=>ab (f e) (some (e::q.1,q.2)) (some (q.1,e::q.2)))=some q:=h;obtain⟨p,hp,h⟩:=U h;obtain⟨h1,h2,h3⟩:=lO hp;rw[ai]at h;split at h
  ·cases h;exact⟨h1.cons_cons e,h2.cons e,λx hx=>by
    rcases List.mem_cons.1 hx with rfl|hx
    ·exact .inl List.mem_cons_self
    ·exact(h3 x hx).imp (List.mem_cons_of_mem _) id⟩
  ·cases h;exact⟨h1.cons e,h2.cons_cons e,λx hx=>by
    rcases List.mem_cons.1 hx with rfl|hx
    ·exact .inr List.mem_cons_self
    ·exact(h3 x hx).imp id (List.mem_cons_of_mem _)⟩
theorem iI {α:Type} {f:α->Bool}:∀ {l:List α},oP f l=true->∀x∈l,f x=true
 |y::l,h,x,hx=>by
  have h:ab (f y) (oP f l) false=true:=h;obtain⟨h1,h2⟩:=ah h;rcases List.mem_cons.1 hx with rfl|hx
  ·exact h1
  ·exact iI h2 x hx
theorem uv {e:an}:∀ {l:List (an×List an)} {q},q∈l->(q.1,e::q.2)∈G1 e l
 |p::l,q,h=>by
  rcases List.mem_cons.1 h with rfl|h
  ·exact List.mem_cons_self
  ·exact List.mem_cons_of_mem _ (uv h)
theorem uw {e:an} {l2:List an}:∀ {l1:List an},(e,l1++l2)∈Dy (l1++e::l2)
 | []=>List.mem_cons_self
 |x::l1=>List.mem_cons_of_mem _ (uv (e:=x) (q:=(e,l1++l2)) uw)
theorem pv {m:bM} {ev:Ev} {tm:T Value} {e:an} {s s':AS} (h:ic m ev tm e s=some s'):∃tm',bO m ev (e.1,e.2.1) tm s= .code .normal tm' s'∧oO tm tm'=true:=by
 unfold ic at h;split at h
 ·rename_i tm' s1 heq;obtain⟨h1,h2⟩:=ae h;cases h2;exact⟨tm',heq,h1⟩
 ·cases h
theorem pw {m:bM} {ev:Ev} {tm:T Value} {e:an} {s:AS} (h:eN m ev tm s e=true):∃tm' s',bO m ev (e.1,e.2.1) tm ⟨s.h,s.nx,s.nx⟩= .code .normal tm' s'∧oO tm tm'=true:=by
 unfold eN jP at h;split at h
 ·exact⟨_,_,‹_›,h⟩
 ·cases h
theorem xX {m:bM} {ev:Ev} {tm:T Value} {N:List an} {leaf:AS->Bool} {W:List an} {s:AS} (h:Js m ev tm N leaf W.length W s=true):(∀p∈N,eN m ev tm s p=true)∧(W= []->leaf s=true)∧
  ∀l1 e l2,W=l1++e::l2->∃s',ic m ev tm e s=some s'∧Js m ev tm N leaf (l1++l2).length (l1++l2) s'=true:=by
 cases W with
 |nil=>have h:ab (oP (eN m ev tm s) N) (leaf s) false=true:=h;obtain⟨h1,h2⟩:=ah h;exact⟨λp hp=>iI h1 p hp,λ_=>h2,λl1 e l2 he=>by cases l1<;>cases he⟩
 |cons x W=>
  have h:ab (oP (eN m ev tm s) N) (oP (λq=>Option.rec (motive:= λ_=>Bool) false (λs'=>Js m ev tm N leaf W.length q.2 s') (ic m ev tm q.1 s)) (Dy (x::W))) false=true:=h;obtain⟨h1,h2⟩:=ah h;refine⟨λp hp=>iI h1 p hp,λe=>(by cases e),λl1 e l2 he=>?_⟩;have hm:=iI h2 (e,l1++l2) (by rw[he];exact uw);have hl:W.length=(l1++l2).length:=by have:=congrArg List.length he;simp at this⊢;omega
  rw[<-hl];cases hr:ic m ev tm e s with
  |none=>rw[hr]at hm;cases hm
  |some s'=>rw[hr]at hm;exact⟨s',rfl,hm⟩
theorem Cc {N L n u6:Nat} {h g:T Blk} {ch:List Nat} {s:AS} (e:CG N L n u6 h g ch s=true):∃π,tJ N L n u6 h s.h g ch π=true:=by
 unfold CG at e;cases hp:(ob (GZ (Ao N 12) s.h g n L []) λl=>G0 (Ao N 12) s.h g 1000 0 l)with
 |none=>rw[hp]at e;cases e
 |some π=>rw[hp]at e;exact⟨π,e⟩
theorem yy {N L n u6:Nat} {h f g:T Blk} {ch:List Nat} {π:cX} (cB:tJ N L n u6 h f g ch π=true):(∀a∈ch,f.get a≠h.get a)∧∀a,L<=a->a<L+n->f.get a=none->g.get a=none:=by
 unfold tJ at cB;obtain⟨_,cB⟩:=ah cB;obtain⟨_,cB⟩:=ah cB;obtain⟨_,cB⟩:=ah cB;obtain⟨_,cB⟩:=ah cB;obtain⟨_,cB⟩:=ah cB;obtain⟨d6,cB⟩:=ah cB;obtain⟨d7,_⟩:=ah cB;refine⟨qT d6,λa h1 h2 he=>?_⟩;have:=qR d7 a h1 h2;rw[he]at this;cases hg:g.get a with
 |none=>rfl
 |some k=>rw[hg]at this;cases this
theorem px {m:bM} {ev:Ev} {tm:T Value} {s1 s2:AS} {mb:Nat} {es:List an}:∀ {ks:List Nat},nN m ev tm s1 mb es ks=some s2->∃L,tK m ev tm s1 mb es L=some s2
 | [],h=>by cases h
 |k::ks,h=>by
  have h:Jt (ar (Nat.max s1.ao (Nat.sub s1.nx k)) λL=>tK m ev tm s1 mb es L) (nN m ev tm s1 mb es ks)=some s2:=h;rw[ak]at h;cases hl:tK m ev tm s1 mb es (Nat.max s1.ao (Nat.sub s1.nx k))with
  |none=>rw[hl]at h;exact px h
  |some s3=>rw[hl]at h;cases h;exact⟨_,hl⟩
theorem rN {α:Type}:∀l:List α,len l=l.length
 | []=>rfl
 |_::l=>congrArg Nat.succ (rN l)
theorem zY {m:bM} {ev:Ev} {tm:T Value} {s1 sz:AS} {mb L:Nat} {es:List an} (h:tK m ev tm s1 mb es L=some sz):∃(od:List Nat) (s2 f1:AS) (q:List an×List an) (g hz:T Blk) (ch:List Nat),s1.ao<=L∧L<=s1.nx∧
  Bp s1.h (s1.nx-L) L=some od∧ql (mb::od) s1=some s2∧nM (eN m ev tm ⟨s2.h,s2.nx,L⟩) es=some q∧FN s2.h f1.h (f1.nx-L) L s2.h=some g∧yO s2.h g (s1.nx-L) L=some ch∧s1.nx<=f1.nx∧
  Js m ev tm q.1 (CG s1.nx L (s1.nx-L) f1.nx s2.h g ch) q.2.length q.2 ⟨s2.h,s2.nx,L⟩=true∧mo s1.h (mb::od) g=some hz∧sz=⟨hz,f1.nx,s1.ao⟩:=by
 unfold tK at h;obtain⟨h0,h⟩:=ae h;obtain⟨h1,h2⟩:=ah h0;rw[ak]at h;obtain⟨od,e1,h⟩:=U h;obtain⟨s2,e2,h⟩:=U h;obtain⟨q,e3,h⟩:=U h;obtain⟨f1,e4,h⟩:=U h;obtain⟨g,e5,h⟩:=U h;obtain⟨ch,e6,h⟩:=U h;obtain⟨e7,h⟩:=ae h;obtain⟨e8,h⟩:=ae h;obtain⟨hz,e9,h⟩:=U h;simp only[ak]at h;cases h;rw[rN]at e8;exact⟨od,s2,f1,q,g,hz,ch,Nat.le_of_ble_eq_true h1,Nat.le_of_ble_eq_true h2,e1,e2,e3,e5,e6,Nat.le_of_ble_eq_true e7,e8,e9,rfl⟩
theorem Rel.IA {ρ:Ren} {s s':AS} {w:World} (h:Rel P ρ s w) (hg:∀j k,s'.h.get j=some k->s.h.get j=some k) (hn:s'.nx=s.nx) (hl:s'.ao<=s'.nx):Rel P ρ s' w:=by
 refine⟨λa ha=>h.dM a (by rw[<-hn];exact ha),λa ha=>?_,λa k x e1 e2=>h.blk a k x (hg a k e1) e2,hl,λa a' k k' x x' hne e1 e2=>h.aX a a' k k' x x' hne (hg a k e1) (hg a' k' e2),λg gl vs g1 g2=>?_⟩
 ·cases e:s'.h.get a with
  |none=>rfl
  |some k=>have:=hg a k e;rw[h.top a (by rw[<-hn];exact ha)]at this;cases this
 ·obtain⟨a,b,c⟩:=h.gl g gl vs g1 g2;exact⟨a,λ⟨a',k,x,e1,e2,e3⟩=>b ⟨a',k,x,hg a' k e1,e2,e3⟩,c⟩
theorem vW {R:an->MapEntry->Prop} (hR:∀p e,R p e->p.1=e.key):∀ {es:List an} {l:List MapEntry},F2 R es l->l.map (·.key)=es.map (·.1)
 |_,_,.nil=>rfl
 |_,_,.cons h hs=>by simp only[List.map_cons];rw[hR _ _ h,vW hR hs]
theorem EL {ρ:Ren} {x:Loc} {w:World} {d:Option (List Deferred)}:∀ {k:Blk},(dZ k=false∧∀c sz n ro et,k≠.cells c sz n ro et)->bX P ρ x w k->w.heap[x.b]?≠some (.deferred d)
 | .cells ..,hk,_=>(hk.2 _ _ _ _ _ rfl).elim
 | .map ..,_,⟨_,h,_⟩=>by rw[h];simp
 | .pmap ..,_,⟨_,h,_⟩=>by rw[h];simp
 | .cE ..,_,⟨_,h⟩=>by rw[h];simp
 | .mapIter ..,_,⟨_,h⟩=>by rcases h with ⟨_,h⟩|⟨_,_,_,_,h⟩<;>(rw[h];simp)
 | .loop ..,_,⟨_,_,_,h,_⟩=>by rw[h];simp
theorem Gs {ρ:Ren} {sc:AS} {w:World} (hR:Rel P ρ sc w) {N L n u6 l:Nat} {h g:T Blk} {ch:List Nat} {π:cX} (cB:tJ N L n u6 h sc.h g ch π=true) (hn:L+n=N) (Th:N<=u6) (hl:l<=u6) (OT:∀a,u6<=a->g.get a=none)
  {cx:Ren} (hle:aK cx ρ) (LV:∀a,N<=a->cx a=none) (sT:∀a,a<L->sc.h.get a=g.get a) (LW:∀a k x,a<L->g.get a=some k->cx a=some x->bX P cx x w k) (jD:∀a,a<N->ρ a=cx a):
  ∃aj,(∀a,a<N->aj a=cx a)∧Rel P aj ⟨g,u6,l⟩ w∧∀b,aI aj ⟨g,u6,l⟩ b->aI ρ sc b:=by
 unfold tJ at cB;obtain⟨d1,cB⟩:=ah cB;obtain⟨d2,cB⟩:=ah cB;obtain⟨d3,cB⟩:=ah cB;obtain⟨d4,cB⟩:=ah cB;obtain⟨d5,cB⟩:=ah cB;obtain⟨d6,cB⟩:=ah cB;obtain⟨d7,d8⟩:=ah cB;replace d1:=bo d1;replace d2:=bo d2;have d3:= λ {q:Nat×Nat} (hq:q∈π)=>ga d3 _ (xT hq);have d4:= λ {q:Nat×Nat} (hq:q∈π)=>ga d4 _ (jU hq);have d5:= λ {q:Nat×Nat} (hq:q∈π)=>iO d5 _ (jU hq)
 let aj:Ren:= λb=>if b<N then cx b else match π.find? (λp=>p.2==b)with|some p=>ρ p.1|none=>none
 have hlt:∀a,a<N->aj a=cx a:= λa ha=>by show(if a<N then _ else _)=_;rw[if_pos ha]
 have wM:∀ {a b},(a,b)∈π->aj b=ρ a:= λ {a b} hm=>by
  show(if b<N then _ else _)=_;have:N<=b:=d4 hm;rw[if_neg (by omega)];cases hf:π.find? (λp=>p.2==b)with
  |none=>rw[List.find?_eq_none]at hf;exact absurd (beq_self_eq_true b) (hf (a,b) hm)
  |some p=>
   have h1:=List.mem_of_find?_eq_some hf;have h2:p.2=b:=by simpa using List.find?_some hf
   have:=rL d2 h1 hm h2;subst this;rfl
 have hinv:∀ {b x},aj b=some x->(b<N∧ρ b=some x)∨(N<=b∧∃a,(a,b)∈π∧ρ a=some x):= λ {b x} e=>by
  by_cases hb:b<N
  ·left;refine⟨hb,?_⟩;rw[hlt b hb]at e;rw[jD b hb];exact e
  ·right;refine⟨by omega,?_⟩;have e:(if b<N then cx b else match π.find? (λp=>p.2==b)with|some p=>ρ p.1|none=>none)=some x:=e;rw[if_neg hb]at e;cases hf:π.find? (λp=>p.2==b)with
   |none=>rw[hf]at e;cases e
   |some p=>
    rw[hf]at e;have h1:=List.mem_of_find?_eq_some hf;have h2:p.2=b:=by simpa using List.find?_some hf
    exact⟨p.1,by rw[<-h2];exact h1,e⟩
 have Ff:∀a b x,yT N π a=some b->ρ a=some x->aj b=some x:= λa b x e e'=>by
  rcases xS e with ⟨h1,rfl⟩|⟨h1,h2⟩
  ·rw[hlt _ h1,<-jD _ h1];exact e'
  ·rw[wM h2];exact e'
 have sO:aK cx aj:= λa x e=>by
  have:a<N:=Nat.lt_of_not_le λhle=>by rw[LV a hle]at e;cases e
  rw[hlt a this];exact e
 have FX:∀ {b k x},g.get b=some k->aj b=some x->∃a kf,sc.h.get a=some kf∧ρ a=some x∧dZ kf=dZ k∧bX P aj x w k∧((b<N∧a=b)∨(N<=b∧(a,b)∈π)):= λ {b k x} hg hx=>by
  rcases hinv hx with ⟨hb,eJ⟩|⟨hb,a,hm,eJ⟩
  ·by_cases Qj:b<L
   ·refine⟨b,k,by rw[sT b Qj];exact hg,eJ,rfl,?_,.inl ⟨hb,rfl⟩⟩;exact(LW b k x Qj hg (by rw[<-jD b hb];exact eJ)).mono sO
   ·have hc:=qR d7 b (by omega) (by omega);rw[hg]at hc;obtain⟨kf,ee,hc⟩:=oz hc;obtain⟨c1,c2⟩:=vV Ff hc (hR.blk b kf x ee eJ).2;exact⟨b,kf,ee,eJ,c2,c1,.inl ⟨hb,rfl⟩⟩
  ·have hc:=xU d8 (a,b) hm;simp only at hc;rw[hg]at hc;obtain⟨kf,ee,hc⟩:=oz hc;obtain⟨c1,c2⟩:=vV Ff hc (hR.blk a kf x ee eJ).2;exact⟨a,kf,ee,eJ,c2,c1,.inr ⟨hb,hm⟩⟩
 have mv:∀b,aI aj ⟨g,u6,l⟩ b->aI ρ sc b:= λb hb=>by obtain⟨a,k,x,e1,e2,e3⟩:=hb;obtain⟨a',kf,c1,c2,_⟩:=FX e1 e2;exact⟨a',kf,x,c1,c2,e3⟩
 refine⟨aj,hlt,⟨λa ha=>?_,λa ha=>OT a ha,λa k x e1 e2=>?_,hl,λa a' k k' x x' hne e1 e2 r1 r2 hb=>?_,λgg gl vs g1 g2=>?_⟩,mv⟩
 ·have ha:u6<=a:=ha;cases e:aj a with
  |none=>rfl
  |some x=>
   rcases hinv e with ⟨h1,_⟩|⟨_,a',hm,_⟩
   ·omega
   ·have:a<u6:=d5 hm;omega
 ·obtain⟨a',kf,c1,c2,c3,c4,c5⟩:=FX e1 e2;exact⟨(hR.blk a' kf x c1 c2).1,c4⟩
 ·obtain⟨b,kf,c1,c2,c3,c4,c5⟩:=FX e1 r1;obtain⟨b',RR,RS,RT,RU,Ti,RV⟩:=FX e2 r2;have cK:b≠b':=by
   rintro rfl;rcases c5 with ⟨h1,h2⟩|⟨h1,h2⟩<;>rcases RV with ⟨h3,h4⟩|⟨h3,h4⟩
   ·exact hne (h2.symm.trans h4)
   ·have:N<=b:=d3 h4;omega
   ·have:N<=b:=d3 h2;omega
   ·exact hne (rK d1 h2 h4)
  obtain⟨q1,q2⟩:=hR.aX b b' kf RR x x' cK c1 RS c2 RT hb;exact⟨by rw[<-c3];exact q1,by rw[<-RU];exact q2⟩
 ·obtain⟨q1,q2,q3⟩:=hR.gl gg gl vs g1 g2;exact⟨q1,λhh=>q2 (mv _ hh),q3⟩
theorem qU {aj:Ren} {g h:T Blk} {nx l:Nat} {w:World} (hR:Rel P aj ⟨g,nx,l⟩ w) {H:List Nat} {h1:T Blk} (hg:∀j,h.get j=if j∈H then h1.get j else g.get j)
  (hH:∀a∈H,∀k x,h1.get a=some k->aj a=some x->x.b<w.heap.size∧bX P aj x w k∧¬aI aj ⟨g,nx,l⟩ x.b∧∀gg gl vs,P.globals[gg]? =some gl->uR P gl.name=some vs->x.b≠gg)
  (hlt:∀a∈H,a<nx) (RW:∀a∈H,∀a'∈H,∀k k' x x',a≠a'->h1.get a=some k->h1.get a'=some k'->aj a=some x->aj a'=some x'->x.b=x'.b->dZ k=true∧dZ k'=true):Rel P aj ⟨h,nx,l⟩ w:=by
 have dk:∀ {a k},h.get a=some k->(a∈H∧h1.get a=some k)∨(a∉H∧g.get a=some k):= λ {a k} e=>by
  rw[hg]at e;split at e
  ·exact .inl ⟨by assumption,e⟩
  ·exact .inr ⟨by assumption,e⟩
 refine⟨hR.dM,λa ha=>?_,λa k x e1 e2=>?_,hR.ao,λa a' k k' x x' hne e1 e2 r1 r2 hb=>?_,λgg gl vs g1 g2=>?_⟩
 ·show h.get a=none;have ha:nx<=a:=ha;rw[hg,if_neg (λhm=>by have:=hlt a hm;omega)];exact hR.top a ha
 ·rcases dk e1 with ⟨m,e⟩|⟨m,e⟩
  ·obtain⟨c1,c2,_⟩:=hH a m k x e e2;exact⟨c1,c2⟩
  ·exact hR.blk a k x e e2
 ·rcases dk e1 with ⟨m,e⟩|⟨m,e⟩<;>rcases dk e2 with ⟨m',e'⟩|⟨m',e'⟩
  ·exact RW a m a' m' k k' x x' hne e e' r1 r2 hb
  ·exact((hH a m k x e r1).2.2.1 ⟨a',k',x',e',r2,hb.symm⟩).elim
  ·exact((hH a' m' k' x' e' r2).2.2.1 ⟨a,k,x,e,r1,hb⟩).elim
  ·exact hR.aX a a' k k' x x' hne e e' r1 r2 hb
 ·obtain⟨q1,q2,q3⟩:=hR.gl gg gl vs g1 g2;refine⟨q1,?_,q3⟩;rintro⟨a,k,x,e1,e2,e3⟩;rcases dk e1 with ⟨m,e⟩|⟨m,e⟩
  ·exact(hH a m k x e e2).2.2.2 gg gl vs g1 g2 e3
  ·exact q2 ⟨a,k,x,e,e2,e3⟩
def AS.wl (s:AS) (l:Nat):AS:=⟨s.h,s.nx,l⟩
theorem aR.Hl {ρ aj:Ren} {s s':AS} {w w':World} {l:Nat} (h:aR ρ s w aj s' w') (hl:l<=s.ao):aR ρ (s.wl l) w aj (s'.wl l) w':=
 ⟨h.jj,h.nx,h.tape,h.os,h.out,h.size,h.frame,h.ph,h.lp,rfl,λa ha=>h.low a (Nat.lt_of_lt_of_le ha hl),λa k x ha=>h.fW a k x (Nat.lt_of_lt_of_le ha hl)⟩
theorem Rel.Hl {ρ:Ren} {s:AS} {w:World} {l:Nat} (h:Rel P ρ s w) (hl:l<=s.nx):Rel P ρ (s.wl l) w:=⟨h.dM,h.top,h.blk,hl,h.aX,h.gl⟩
end Go.Eng
namespace Go.Eng
open Go
variable {P:Program}
def sU (ρ aj:Ren):Prop:=∀a x,ρ a=some x->∃x',aj a=some x'∧x'.b=x.b∧x'.base=x.base∧x'.ao=x.ao
mutual
theorem ag.nE {ρ aj:Ren} (hr:sU ρ aj):∀ {v u:Value},ag ρ v u->ag aj v u
 |_,_,.bool b=> .bool b
 |_,_,.int k n=> .int k n
 |_,_,.string s=> .string s
 |_,_,.junk m n v h h'=> .junk m n v h h'
 |_,_,.lY g off=> .lY g off
 |_,_,.eO=> .eO
 |_,_,.ptr (x:=x) off h=>by obtain⟨x',h1,h2,h3,h4⟩:=hr _ _ h;rw[<-h2,<-h3];exact .ptr off h1
 |_,_,.ba=> .ba
 |_,_,.slice (x:=x) off n c cap ad h q1 q2 q3 q4 q5=>by obtain⟨x',h1,h2,h3,h4⟩:=hr _ _ h;exact .slice off n c cap ad h1 q1 q2 q3 (by rw[h2,h3];exact q4) (by rw[h3,h4];exact q5)
 |_,_,.ij=> .ij
 |_,_,.map (x:=x) h=>by obtain⟨x',h1,h2,_⟩:=hr _ _ h;rw[<-h2];exact .map h1
 |_,_,.func f ha hb=> .func f (af.nE hr ha) (af.nE hr hb)
 |_,_,.yield (x:=x) h ha hb=>by obtain⟨x',h1,h2,_⟩:=hr _ _ h;rw[<-h2];exact .yield h1 (af.nE hr ha) (af.nE hr hb)
 |_,_,.nilFunc=> .nilFunc
 |_,_,.nilIface=> .nilIface
 |_,_,.iface t h=> .iface t (ag.nE hr h)
 |_,_,.agg h=> .agg (af.nE hr h)
 |_,_,.tuple h=> .tuple (af.nE hr h)
theorem af.nE {ρ aj:Ren} (hr:sU ρ aj):∀ {l m:List Value},af ρ l m->af aj l m
 |_,_,.nil=> .nil
 |_,_,.cons h hs=> .cons (ag.nE hr h) (af.nE hr hs)
end
theorem gO.nE {ρ aj:Ren} (hr:sU ρ aj) {tm:T Value} {tmps:Array Value} (h:gO ρ tm tmps):gO aj tm tmps:=
 λt v e=>let⟨u,hu,hv⟩:=h t v e;⟨u,hu,hv.nE hr⟩
theorem bX.nE {ρ aj:Ren} (hr:sU ρ aj) {x:Loc} {w:World}:∀ {k:Blk},bX P ρ x w k->bX P aj x w k
 | .cells ..,h=>⟨λi l e=>let⟨a,b,c⟩:=h.cell i l e;⟨a,b,λj v hv=>let⟨u,hu,er⟩:=c j v hv;⟨u,hu,er.nE hr⟩⟩,h.all,h.free,h.shape,h.mult⟩
 | .map ..,⟨e,h,⟨l,hp,hf,hn⟩,hb⟩=>⟨e,h,⟨l,hp,hf.mono λ_ _ ⟨a,b,c,d,e⟩=>⟨a,b,c,d.nE hr,e⟩,hn⟩,hb⟩
 | .pmap ..,⟨e,h,⟨l,hp,hf,hk,hn⟩,hb⟩=>⟨e,h,⟨l,hp,hf.mono λ_ _ ⟨a,b,c,d,e⟩=>⟨a,b,c,d.nE hr,e⟩,hk,hn⟩,hb⟩
 | .cE ..,h=>h
 | .mapIter ..,⟨h0,h⟩=>⟨h0,h.imp id λ⟨a,y,h1,h2,h3⟩=>by obtain⟨y',g1,g2,_⟩:=hr _ _ h2;exact⟨a,y',h1,g1,by rw[g2];exact h3⟩⟩
 | .loop ..,⟨t,f,r,h,he,hn⟩=>⟨t,f,r,h,he.nE hr,hn⟩
theorem Rel.rO {ρ aj:Ren} {s:AS} {w:World} {m:Nat} (h:Rel P ρ s w) (hm:s.h.get m=none) (hs:sU ρ aj) (hne:∀a,a≠m->aj a=ρ a) (Tj:m<s.nx):Rel P aj s w:=by
 have yU:∀ {a k},s.h.get a=some k->aj a=ρ a:= λ {a k} e=>hne a (λe'=>by rw[e',hm]at e;cases e);refine⟨λa ha=>?_,h.top,λa k x e1 e2=>?_,h.ao,λa a' k k' x x' hn e1 e2 r1 r2 hb=>?_,λg gl vs g1 g2=>?_⟩
 ·rw[hne a (by omega)];exact h.dM a ha
 ·rw[yU e1]at e2;obtain⟨h1,h2⟩:=h.blk a k x e1 e2;exact⟨h1,h2.nE hs⟩
 ·rw[yU e1]at r1;rw[yU e2]at r2;exact h.aX a a' k k' x x' hn e1 e2 r1 r2 hb
 ·obtain⟨q1,q2,q3⟩:=h.gl g gl vs g1 g2;refine⟨q1,?_,q3⟩;rintro⟨a,k,x,e1,e2,e3⟩;rw[yU e1]at e2;exact q2 ⟨a,k,x,e1,e2,e3⟩
theorem Rel.LX {ρ aj:Ren} {s se:AS} {w0 w:World} (h0:Rel P ρ s w0) (h:Rel P aj se w) (hle:aK ρ aj) (dh:∀a k,s.h.get a=some k->se.h.get a=some k):Rel P ρ s w:=by refine⟨h0.dM,h0.top,λa k x e e'=>?_,h0.ao,h0.aX,λg gl vs g1 g2=>(let⟨_,b,_⟩:=h0.gl g gl vs g1 g2;let⟨a',_,c'⟩:=h.gl g gl vs g1 g2;⟨a',b,c'⟩)⟩;obtain⟨h1,h2⟩:=h.blk a k x (dh a k e) (hle _ _ e');exact⟨h1,ov hle (h0.blk a k x e e').2 h2⟩
theorem xY {a:Nat}:∀ {l:List Nat},memN a l=true↔a∈l
 | []=>⟨λh=>(by cases h),λh=>(by cases h)⟩
 |x::l=>by
  show ab (Nat.beq x a) true (memN a l)=true↔_;rw[ai,List.mem_cons];split
  ·rename_i h;exact⟨λ_=> .inl (Nat.eq_of_beq_eq_true h).symm,λ_=>rfl⟩
  ·rename_i h;rw[xY];exact⟨.inr,λhh=>hh.elim (λe=>(h (by rw[e];exact Nat.beq_refl _)).elim) id⟩
theorem m6 {m:List Nat}:∀ {l:List Nat},CH l m=true->∀a∈l,a∈m
 |x::l,h,a,ha=>by
  have h:ab (memN x m) (CH l m) false=true:=h;obtain⟨h1,h2⟩:=ah h;rcases List.mem_cons.1 ha with rfl|ha
  ·exact xY.1 h1
  ·exact m6 h2 a ha
theorem jr {α:Type} (l m:List α):app l m=l++m:=by
 induction l with
 |nil=>rfl
 |cons a l ih=>show a::app l m=_;rw[ih];rfl
theorem bH:∀ {l:List WD} {a:Nat},a∈bV l↔ ∃d∈l,a∈d.own
 | [],a=>⟨λh=>(by cases h),λ⟨d,h,_⟩=>(by cases h)⟩
 |d::l,a=>by
  show a∈app d.own (bV l)↔_;rw[jr,List.mem_append,bH];constructor
  ·rintro(h|⟨e,h1,h2⟩)
   ·exact⟨d,List.mem_cons_self,h⟩
   ·exact⟨e,List.mem_cons_of_mem _ h1,h2⟩
  ·rintro⟨e,h1,h2⟩;rcases List.mem_cons.1 h1 with rfl|h1
   ·exact .inl h2
   ·exact .inr ⟨e,h1,h2⟩
theorem ux:∀ {l:List WD},(bV l).Nodup->∀ {d e:WD} {a:Nat},d∈l->e∈l->a∈d.own->a∈e.own->d=e
 |x::l,hn,d,e,a,h1,h2,h3,h4=>by
  have hn:(app x.own (bV l)).Nodup:=hn;rw[jr,List.nodup_append]at hn;rcases List.mem_cons.1 h1 with rfl|g1<;>rcases List.mem_cons.1 h2 with rfl|g2
  ·rfl
  ·exact(hn.2.2 a h3 a (bH.2 ⟨e,g2,h4⟩) rfl).elim
  ·exact(hn.2.2 a h4 a (bH.2 ⟨d,g1,h3⟩) rfl).elim
  ·exact ux hn.2.1 g1 g2 h3 h4
theorem qV:∀ {l:List WD} {d:WD},d∈l->d.i∈CK l
 |x::l,d,h=>by
  rcases List.mem_cons.1 h with rfl|h
  ·exact List.mem_cons_self
  ·exact List.mem_cons_of_mem _ (qV h)
theorem uy:∀ {l:List WD},(CK l).Nodup->∀ {d e:WD},d∈l->e∈l->d.i=e.i->d=e
 |x::l,hn,d,e,h1,h2,h3=>by
  have hn:(x.i::CK l).Nodup:=hn;obtain⟨q1,q2⟩:=List.nodup_cons.1 hn;rcases List.mem_cons.1 h1 with rfl|g1<;>rcases List.mem_cons.1 h2 with rfl|g2
  ·rfl
  ·exact(q1 (by rw[h3];exact qV g2)).elim
  ·exact(q1 (by rw[<-h3];exact qV g1)).elim
  ·exact uy q2 g1 g2 h3
theorem rP:∀ {l:List WD} {i:Nat} {q:an},findD l i=some q->∃d∈l,d.i=i∧q=(d.k,d.v',d.n)
 |d::l,i,q,h=>by
  have h:ab (Nat.beq d.i i) (some (d.k,d.v',d.n)) (findD l i)=some q:=h;rw[ai]at h;split at h
  ·rename_i hi;cases h;exact⟨d,List.mem_cons_self,Nat.eq_of_beq_eq_true hi,rfl⟩
  ·obtain⟨e,h1,h2⟩:=rP h;exact⟨e,List.mem_cons_of_mem _ h1,h2⟩
theorem rQ:∀ {l:List WD} {i:Nat},findD l i=none->∀d∈l,d.i≠i
 |e::l,i,h,d,hd=>by
  have h:ab (Nat.beq e.i i) (some (e.k,e.v',e.n)) (findD l i)=none:=h;rw[ai]at h;split at h
  ·cases h
  ·rename_i hi;rcases List.mem_cons.1 hd with rfl|hd
   ·exactλhe=>hi (by rw[he];exact Nat.beq_refl _)
   ·exact rQ h d hd
theorem xZ {l:List WD}:∀ {es r:List an} {i:Nat},CL l es i=some r->r.length=es.length∧∀j,(findD l (i+j)=none->r[j]? =es[j]?)∧∀q,findD l (i+j)=some q->j<es.length->r[j]? =some q
 | [],r,i,h=>by cases h;exact⟨rfl,λj=>⟨λ_=>rfl,λq _ hj=>by simp at hj⟩⟩
 |p::es,r,i,h=>by
  have h:ob (CL l es (Nat.succ i)) (λr=>Option.rec (motive:= λ_=>Option (List an)) (some (p::r)) (λq=>some (q::r)) (findD l i))=some r:=h;obtain⟨r1,h1,h⟩:=U h;obtain⟨g1,g2⟩:=xZ h1;have hr:∃z,r=z::r1∧(findD l i=none->z=p)∧∀q,findD l i=some q->z=q:=by
   cases hf:findD l i with
   |none=>rw[hf]at h;cases h;exact⟨p,rfl,λ_=>rfl,λq hq=>by cases hq⟩
   |some q=>rw[hf]at h;cases h;exact⟨q,rfl,λhq=>(by cases hq),λq' hq=>by cases hq;rfl⟩
  obtain⟨z,rfl,z1,z2⟩:=hr;refine⟨by simp[g1],λj=>?_⟩;cases j with
  |zero=>exact⟨λhf=>by simp[z1 hf],λq hf _=>by simp[z2 q hf]⟩
  |succ j=>obtain⟨e1,e2⟩:=g2 j;rw[show i+(j+1)=i.succ+j by omega];exact⟨λhf=>by simpa using e1 hf,λq hf hj=>by simpa using e2 q hf (by simpa using hj)⟩
structure JG (me:List an) (D:List WD) (es:List an):Prop where
 len:es.length=me.length
 done:∀d∈D,es[d.i]? =some (d.k,d.v',d.n)
 rest:∀i,(∀d∈D,d.i≠i)->es[i]? =me[i]?
theorem JG.step {me es:List an} {D:List WD} {d:WD} (h:JG me D es) (hd:∀e∈D,e.i≠d.i) (hlt:d.i<me.length):JG me (d::D) (es.set d.i (d.k,d.v',d.n)):=by
 refine⟨by simp[h.len],λe he=>?_,λi hi=>?_⟩
 ·rcases List.mem_cons.1 he with rfl|he
  ·rw[List.getElem?_set,if_pos rfl,if_pos (by rw[h.len];exact hlt)]
  ·rw[List.getElem?_set_ne (λe'=>hd e he e'.symm)];exact h.done e he
 ·rw[List.getElem?_set_ne (hi d List.mem_cons_self)];exact h.rest i λe he=>hi e (List.mem_cons_of_mem _ he)
theorem JG.all {me es r:List an} {D l:List WD} (h:JG me D es) (h1:∀d∈D,d∈l) (h2:∀d∈l,d∈D) (hf:CL l me 0=some r):es=r:=by
 obtain⟨g1,g2⟩:=xZ hf;refine List.ext_getElem? λi=>?_;obtain⟨e1,e2⟩:=g2 i;rw[Nat.zero_add]at e1 e2;cases hq:findD l i with
 |none=>rw[e1 hq];exact h.rest i λd hd=>rQ hq d (h1 d hd)
 |some q=>
  obtain⟨d,hd,rfl,rfl⟩:=rP hq;have Qk:=h.done d (h2 d hd);have hlt:d.i<me.length:=by have:=(List.getElem?_eq_some_iff.1 Qk).1;rw[h.len]at this;exact this
  rw[Qk,e2 _ hq hlt]
theorem x3:∀ {l:List WD} {h h':T Blk},FP l h=some h'->(bV l).Nodup->(∀d∈l,∀a∈d.own,h'.get a=d.R.h.get a)∧∀a,a∉bV l->h'.get a=h.get a
 | [],h,h',e,_=>by cases e;exact⟨λd hd=>(by cases hd),λ_ _=>rfl⟩
 |d::l,h,h',e,hn=>by
  have e:ob (mo d.R.h d.own h) (FP l)=some h':=e;obtain⟨h1,e1,e⟩:=U e;have HQ:(app d.own (bV l)).Nodup:=hn;rw[jr,List.nodup_append]at HQ;obtain⟨g1,g2⟩:=x3 e HQ.2.1;have hs:=iP e1;refine⟨λx hx a ha=>?_,λa ha=>?_⟩
  ·rcases List.mem_cons.1 hx with rfl|hx
   ·rw[g2 a (λhm=>HQ.2.2 a ha a hm rfl),hs,if_pos ha]
   ·exact g1 x hx a ha
  ·have ha:a∉app d.own (bV l):=ha;rw[jr,List.mem_append]at ha;rw[g2 a (λhm=>ha (.inr hm)),hs,if_neg (λhm=>ha (.inl hm))]
theorem iQ:∀ {l:List WD} {p:an},p∈qm l↔ ∃d∈l,d.e=p
 | [],p=>⟨λh=>(by cases h),λ⟨d,h,_⟩=>(by cases h)⟩
 |d::l,p=>by
  show p∈d.e::qm l↔_;rw[List.mem_cons,iQ];constructor
  ·rintro(rfl|⟨e,h1,h2⟩)
   ·exact⟨d,List.mem_cons_self,rfl⟩
   ·exact⟨e,List.mem_cons_of_mem _ h1,h2⟩
  ·rintro⟨e,h1,h2⟩;rcases List.mem_cons.1 h1 with rfl|h1
   ·exact .inl h2.symm
   ·exact .inr ⟨e,h1,h2⟩
theorem rR:∀ {l:List WD},((qm l).map (·.1)).Nodup->∀ {d e:WD},d∈l->e∈l->d.e=e.e->d=e
 |x::l,hn,d,e,h1,h2,h3=>by
  have hn:(x.e.1::(qm l).map (·.1)).Nodup:=hn;obtain⟨q1,q2⟩:=List.nodup_cons.1 hn;rcases List.mem_cons.1 h1 with rfl|g1<;>rcases List.mem_cons.1 h2 with rfl|g2
  ·rfl
  ·exact(q1 (by rw[h3];exact List.mem_map.2 ⟨e.e,iQ.2 ⟨e,g2,rfl⟩,rfl⟩)).elim
  ·exact(q1 (by rw[<-h3];exact List.mem_map.2 ⟨d.e,iQ.2 ⟨d,g1,rfl⟩,rfl⟩)).elim
  ·exact rR q2 g1 g2 h3
structure IB (m:bM) (ev:Ev) (tm:T Value) (N n L:Nat) (h2:T Blk) (sB:AS) (mm kt ck:Nat) (me:List an) (d:WD):Prop where
 run:ic m ev tm d.e d.S=some d.R
 nx:d.S.nx=sB.nx
 ao:d.S.ao=sB.ao
 get:∀j,j≠mm->d.S.h.get j=if j∈d.own then h2.get j else sB.h.get j
 Ql:me[d.i]? =some (d.k,d.v,d.n)
 RX:d.S.h.get mm=some (.pmap kt [(d.k,d.v,d.n)] ck)
 now:d.R.h.get mm=some (.pmap kt [(d.k,d.v',d.n)] ck)
 plain:aV (yT N []) 12 d.v'=some d.v'
 own:∀a∈d.own,ig (h2.get a)=true∧ig (d.R.h.get a)=true∧qd (yT N []) (d.R.h.get a) (d.R.h.get a)=true
 ne:∀a∈mm::d.own,d.R.h.get a≠d.S.h.get a
 same:∀a,L<=a->a<L+n->a∈mm::d.own∨d.S.h.get a=d.R.h.get a
theorem K2:∀(i:Nat) (es:List an),(Nat.rec (motive:= λ_=>List an->Option an) (λl=>List.rec (motive:= λ_=>Option an) none (λx _ _=>some x) l) (λ_ ih l=>List.rec (motive:= λ_=>Option an) none (λ_ t _=>ih t) l) i es:Option an)=es[i]?
 |0,[]=>rfl
 |0,_::_=>rfl
 |i+1,[]=>rfl
 |i+1,_::t=>by have:=K2 i t;simpa using this
theorem uz {kt ck n:Nat} {k v:Value} {b:Option Blk} (h:FO kt ck k v n b=true):b=some (.pmap kt [(k,v,n)] ck):=by
 unfold FO at h;split at h
 ·obtain⟨h1,h⟩:=ah h;obtain⟨h2,h⟩:=ah h;obtain⟨h3,h⟩:=ah h;obtain⟨h4,h5⟩:=ah h;rw[Nat.eq_of_beq_eq_true h1,Nat.eq_of_beq_eq_true h2,bG 12 _ _ h3,bG 12 _ _ h4,Nat.eq_of_beq_eq_true h5]
 ·cases h
theorem uA {N:Nat} {h2 g:T Blk}:∀ {l:List Nat},DA N h2 g l=true->∀a∈l,ig (h2.get a)=true∧ig (g.get a)=true∧qd (yT N []) (g.get a) (g.get a)=true
 |x::l,h,a,ha=>by
  have h:ab (ab (ig (h2.get x)) (ab (ig (g.get x)) (qd (yT N []) (g.get x) (g.get x)) false) false) (DA N h2 g l) false=true:=h;obtain⟨h1,h3⟩:=ah h;rcases List.mem_cons.1 ha with rfl|ha
  ·obtain⟨q1,q2⟩:=ah h1;obtain⟨q3,q4⟩:=ah q2;exact⟨q1,q3,q4⟩
  ·exact uA h3 a ha
theorem Cd {m:bM} {ev:Ev} {tm:T Value} {N n L:Nat} {h2:T Blk} {sB:AS} {mm kt ck:Nat} {me:List an} {p:an×List Nat×AS} {d:WD} (h:CJ m ev tm h2 sB mm kt ck me p=some d) (cB:Bq m ev tm N n L h2 sB mm kt ck me d=true):IB m ev tm N n L h2 sB mm kt ck me d:=by
 unfold CJ at h;obtain⟨q,e1,h⟩:=U h;obtain⟨hh,e2,h⟩:=U h;obtain⟨hp,e3,h⟩:=U h;obtain⟨R,e4,h⟩:=U h;obtain⟨v',e5,h⟩:=U h;unfold Bq at cB;obtain⟨o1,cB⟩:=ah cB;obtain⟨o2,cB⟩:=ah cB;obtain⟨o3,cB⟩:=ah cB;obtain⟨o4,cB⟩:=ah cB;obtain⟨o5,cB⟩:=ah cB;obtain⟨o6,o7⟩:=ah cB;have fN:= λj=>T.bu _ _ _ _ e3 j;have lW:=iP e2;have gp:aV (yT N []) 12 d.v'=some d.v':=by
  cases hv:aV (yT N []) 12 d.v' with
  |none=>rw[hv]at o4;cases o4
  |some u=>rw[hv]at o4;have o4:ku 12 u d.v'=true:=o4;rw[bG 12 _ _ o4]
 have hent:me[d.i]? =some (d.k,d.v,d.n):=by
  unfold G3 at o1;rw[K2]at o1;cases hm:me[d.i]? with
  |none=>rw[hm]at o1;cases o1
  |some p=>rw[hm]at o1;obtain⟨a1,a2⟩:=ah (show ab (ku 12 p.1 d.k) (ab (ku 12 p.2.1 d.v) (Nat.beq p.2.2 d.n) false) false=true from o1);obtain⟨a3,a4⟩:=ah a2;rw[<-bG 12 _ _ a1,<-bG 12 _ _ a3,<-Nat.eq_of_beq_eq_true a4]
 have hsame:∀a,L<=a->a<L+n->a∈mm::d.own∨d.S.h.get a=d.R.h.get a:=by
  cases hc:yO d.S.h d.R.h n L with
  |none=>rw[hc]at o7;cases o7
  |some ch=>rw[hc]at o7;intro a h1 h3;exact(qS hc a h1 h3).imp (λhm=>m6 o7 a hm) id
 have hown:=uA o5;have hne:=qT o6;have OU:=uz o2;have OV:=uz o3;cases h;refine⟨e4,rfl,rfl,λj hj=>?_,hent,OU,OV,gp,hown,hne,hsame⟩;show hp.get j=_;rw[fN,if_neg hj,lW]
theorem rS {m:bM} {ev:Ev} {tm:T Value} {N n L:Nat} {h2:T Blk} {sB:AS} {mm kt ck:Nat} {me:List an}:∀ {l:List (an×List Nat×AS)} {ws:List WD},Aq m ev tm h2 sB mm kt ck me l=some ws->oP (Bq m ev tm N n L h2 sB mm kt ck me) ws=true->∀d∈ws,IB m ev tm N n L h2 sB mm kt ck me d
 | [],ws,h,_,d,hd=>by cases h;cases hd
 |p::l,ws,h,cB,d,hd=>by
  have h:ob (CJ m ev tm h2 sB mm kt ck me p) (λd=>ob (Aq m ev tm h2 sB mm kt ck me l) λr=>some (d::r))=some ws:=h;obtain⟨d0,e1,h⟩:=U h;obtain⟨r,e2,h⟩:=U h;cases h;rcases List.mem_cons.1 hd with rfl|hd
  ·exact Cd e1 (iI cB _ List.mem_cons_self)
  ·have cB:ab (Bq m ev tm N n L h2 sB mm kt ck me d0) (oP (Bq m ev tm N n L h2 sB mm kt ck me) r) false=true:=cB;exact rS e2 (ah cB).2 d hd
theorem py {m:bM} {ev:Ev} {tm:T Value} {s1 s2:AS} {mb:Nat} {es:List an}:∀ {ks:List Nat},nO m ev tm s1 mb es ks=some s2->∃L,tL m ev tm s1 mb es L=some s2
 | [],h=>by cases h
 |k::ks,h=>by
  have h:Jt (ar (Nat.max s1.ao (Nat.sub s1.nx k)) λL=>tL m ev tm s1 mb es L) (nO m ev tm s1 mb es ks)=some s2:=h;rw[ak]at h;cases hl:tL m ev tm s1 mb es (Nat.max s1.ao (Nat.sub s1.nx k))with
  |none=>rw[hl]at h;exact py h
  |some s3=>rw[hl]at h;cases h;exact⟨_,hl⟩
theorem zZ {m:bM} {ev:Ev} {tm:T Value} {s1 sz:AS} {mb L:Nat} {es:List an} (h:tL m ev tm s1 mb es L=some sz):
  ∃(od:List Nat) (s2 sB:AS) (q:List an×List an) (mm kt ck:Nat) (me GA:List an) (Kj:List Nat) (ws:List WD) (h1 h3 hz:T Blk),s1.ao<=L∧L<=s1.nx∧Bp s1.h (s1.nx-L) L=some od∧ql (mb::od) s1=some s2∧nM (eN m ev tm ⟨s2.h,s2.nx,L⟩) es=some q∧
   s2.h.get mm=some (.map kt me ck)∧sB.nx=s2.nx∧sB.ao=L∧(∀j,sB.h.get j=if j∈mm::Kj then none else s2.h.get j)∧(∀a∈Kj,a∈bV ws)∧(∀a∈bV ws,a∈Kj)∧(∀d∈ws,IB m ev tm s1.nx (s1.nx-L) L s2.h sB mm kt ck me d)∧
   CL ws me 0=some GA∧(CK ws).Nodup∧(mm::bV ws).Nodup∧qm ws=q.2∧(∀a∈mm::bV ws,L<=a∧a<s1.nx)∧(∀p∈q.1,eN m ev tm sB p=true)∧
   FP ws s2.h=some h1∧T.put (some (.map kt GA ck)) h1 mm=some h3∧mo s1.h (mb::od) h3=some hz∧sz=⟨hz,s1.nx,s1.ao⟩∧ws≠ []:=by
 unfold tL at h;obtain⟨h0,h⟩:=ae h;obtain⟨g1,g2⟩:=ah h0;rw[ak]at h;obtain⟨od,e1,h⟩:=U h;obtain⟨s2,e2,h⟩:=U h;obtain⟨q,e3,h⟩:=U h;obtain⟨fs,e4,h⟩:=U h;obtain⟨mm,e5,h⟩:=U h;obtain⟨kt,me,ck,e6,h⟩:=bj h;obtain⟨Fl,e7,h⟩:=U h;obtain⟨ws,e8,h⟩:=U h;obtain⟨GA,e9,h⟩:=U h;obtain⟨c0,h⟩:=ae h;obtain⟨c1,c0⟩:=ah c0;obtain⟨c2,c0⟩:=ah c0;obtain⟨c3,c0⟩:=ah c0;obtain⟨c4,c0⟩:=ah c0;obtain⟨c5,c6⟩:=ah c0;obtain⟨c7,h⟩:=ae h;obtain⟨c8,h⟩:=ae h;obtain⟨h1,RY,h⟩:=U h;obtain⟨h3,RZ,h⟩:=U h;obtain⟨hz,R0,h⟩:=U h;simp only[ak]at h;cases h;have hne:ws≠ []:=by
  rintro rfl;cases fs with
  |nil=>cases e5
  |cons p fs=>have e8:ob (CJ m ev tm s2.h ⟨Fl.h,Fl.nx,L⟩ mm kt ck me p) (λd=>ob (Aq m ev tm s2.h ⟨Fl.h,Fl.nx,L⟩ mm kt ck me fs) λr=>some (d::r))=some []:=e8;obtain⟨_,_,e8⟩:=U e8;obtain⟨_,_,e8⟩:=U e8;cases e8
 obtain⟨i1,i2,i3,i4⟩:=m5 e7;exact⟨od,s2,⟨Fl.h,Fl.nx,L⟩,q,mm,kt,ck,me,GA,vk mm fs,ws,h1,h3,hz,Nat.le_of_ble_eq_true g1,Nat.le_of_ble_eq_true g2,e1,e2,e3,e6,i1,rfl,i4,m6 (ah c4).1,m6 (ah c4).2,rS e8 c7,e9,bo c1,bo c2,lN c3,λa ha=>⟨ga c5 a ha,iO c6 a ha⟩,λp hp=>iI c8 p hp,RY,RZ,R0,rfl,hne⟩
theorem kn {b:Option Blk} (h:ig b=true):∃k,b=some k∧dZ k=false∧((∃c sz n et,k= .cells c sz n false et)∨∃kt es ck,k= .map kt es ck):=by
 unfold ig at h;split at h
 ·exact⟨_,rfl,rfl,.inl ⟨_,_,_,_,rfl⟩⟩
 ·exact⟨_,rfl,rfl,.inr ⟨_,_,_,rfl⟩⟩
 ·cases h
theorem oA {ρ:Ren} {x:Loc} {w:World} {d:Option (List Deferred)}:∀ {k:Blk},bX P ρ x w k->w.heap[x.b]?≠some (.deferred d)
 | .cells ..,h=> λe=>by have:=h.shape;unfold World.shape? at this;rw[e]at this;cases this
 | .map ..,⟨_,h,_⟩=>by rw[h];simp
 | .pmap ..,⟨_,h,_⟩=>by rw[h];simp
 | .cE ..,⟨_,h⟩=>by rw[h];simp
 | .mapIter ..,⟨_,h⟩=>by rcases h with ⟨_,h⟩|⟨_,_,_,_,h⟩<;>(rw[h];simp)
 | .loop ..,⟨_,_,_,h,_⟩=>by rw[h];simp
end Go.Eng
namespace Go.Eng
open Go
variable {P:Program}
theorem Inv.start {aa nt:Nat} {ρ:Ren} {tm:T Value} {a:Act} (h:bD aa nt ρ tm a) {d:Nat} (hd:kept aa d=false) (hlt:d<nt) {v u:Value} (hv:ag ρ v u):Inv aa nt [] ρ (.cons d v .nil) tm (a.put (some d) u):=by
 have hsz:d<a.tmps.size:=Nat.lt_of_lt_of_le hlt h.size;refine⟨⟨by simpa[Act.put]using h.size,h.tk,λt w hw=>?_⟩,λt w _ hk hw=>?_,λp hp=>(by cases hp)⟩
 ·have hne:t≠d:= λe=>by have:=h.tk t w hw;rw[e,hd]at this;cases this
  obtain⟨u',hu,hr⟩:=h.env t w hw;exact⟨u',by rw[bk hne];exact hu,hr⟩
 ·rw[vQ,ai]at hw;split at hw
  ·rename_i e;have e:=Nat.eq_of_beq_eq_true e;cases hw;subst e;exact⟨u,aU hsz,hv⟩
  ·cases hw
theorem bD.put {aa nt:Nat} {ρ:Ren} {tm az:T Value} {a:Act} (h:bD aa nt ρ tm a) {d:Nat} {v u:Value} (hd:kept aa d=true) (hlt:d<nt) (hv:ag ρ v u) (hp:T.put (some v) tm d=some az):bD aa nt ρ az (a.put (some d) u):=by
 have hsz:d<a.tmps.size:=Nat.lt_of_lt_of_le hlt h.size;have hg:=T.bu _ _ _ _ hp;refine⟨by simpa[Act.put]using h.size,λt w hw=>?_,λt w hw=>?_⟩
 ·rw[hg]at hw;split at hw
  ·rename_i e;rw[e];exact hd
  ·exact h.tk t w hw
 ·rw[hg]at hw;split at hw
  ·rename_i e;cases hw;rw[e];exact⟨u,aU hsz,hv⟩
  ·rename_i e;obtain⟨u',hu,hr⟩:=h.env t w hw;exact⟨u',by rw[bk e];exact hu,hr⟩
theorem bD.dV {aa nt:Nat} {ρ:Ren} {tm:T Value} {a:Act} (h:bD aa nt ρ tm a) {d:Nat} {u:Value} (hd:kept aa d=false):bD aa nt ρ tm (a.put (some d) u):=by
 refine⟨by simpa[Act.put]using h.size,h.tk,λt w hw=>?_⟩;have hne:t≠d:= λe=>by have:=h.tk t w hw;rw[e,hd]at this;cases this
 obtain⟨u',hu,hr⟩:=h.env t w hw;exact⟨u',by rw[bk hne];exact hu,hr⟩
theorem ko {aa nt:Nat} {ev:Ev} (hev:EvOk P ev) {F:Fence} (hF:eL F) {body:Code} {c:CF} (hc:cV P aa nt body c) {i2 b1:Nat} {r2:Array Oper} {t2:List Oper} {q:Oper} {l2:List CI} (xa:dD P aa nt r2.toList t2 []=some l2) (Fz:r2.toList=q::t2)
  {d2 it:Nat} (Kk:q.guard=none) (GH:q.dst=some d2) (JH:q.op= .entry (.tmp it)) (Kl:kept aa d2=false) (hlt:d2<nt) {ρ:Ren} {az:T Value} {s:AS} {a:Act} {w:World} {k v k' v':Value} {x:bY} {MQ:T Value} {sx:AS}
  (hrun:iE b1 (gn (c ev) (i5 ev l2 sJ (.cons d2 (.tuple #[k,v]) .nil) az s))= .code x MQ sx) (hE:bD aa nt ρ az a) {n0:N0} (eR:n0.n<=w.heap.size) (hM:Marks n0 ρ s w a.defers) (hL:∀l,F.round=some l->∃r,w.heap[l]? =some (Obj.loop r)) (hR:Rel P ρ s w)
  (hent:(Instr.entry (a.eval (.tmp it))).run P w= .ok (.tuple #[k',v']) w) (hk:ag ρ k k') (hv:ag ρ v v') {Q:Exit->Act->World->Prop} (hQ:kF P n0 aa nt ρ s w x MQ sx Q):(Code.block b1 (.seq (.region i2 r2 false) body)).wpIn F 0 P Q a w:=by
 refine wpIn_block ?_;refine wpIn_seq ?_;refine wpIn_region ?_;have hsz:r2.size=t2.length+1:=by rw[<-Array.length_toList,Fz];rfl
 have hr:List.range r2.size=0::List.range' 1 t2.length:=by rw[hsz,List.range_eq_range',List.range'_succ]
 rw[hr];have h0:r2[0]? =some q:=by
  have:r2.toList[0]? =some q:=by rw[Fz];rfl
  simpa using this
 have hw:Region.wanted q (yielded r2 a.tmps)=true:=by unfold Region.wanted;rw[Kk]
 simp only[wpOpsIn,h0];rw[if_pos hw];refine⟨λf _=>hF.fn f,?_⟩;rw[Oper.semAt_eq _ _ _ (λc e=>by rw[JH]at e;cases e)];have hex:(execOp a.eval q).run P w= .ok (.value (.tuple #[k',v'])) w:=by
  have he:execOp a.eval q=(do pure (.value (<-Instr.entry (a.eval (.tmp it))))):=by unfold execOp;rw[JH]
  rw[he];exact aM hent
 rw[hex,Oper.uponIn_value,GH];have hI:=Inv.start hE Kl hlt (ag.tuple (a:= #[k,v]) (b:= #[k',v']) (.cons hk (.cons hv .nil)));cases hrg:i5 ev l2 sJ (.cons d2 (.tuple #[k,v]) .nil) az s with
 |no=>rw[hrg]at hrun;cases hrun
 |val=>rw[hrg]at hrun;cases hrun
 |code xr MR sr=>
  rw[hrg]at hrun;refine uj hF hev (all:=r2) (x:=xr) (tm':=MR) (s':=sr) t2 1 (by rw[Fz];rfl) [] l2 xa ρ _ az s _ w hrg hI hR (λbf a1 w1 hx cM Cw de dq=>?_);subst hx;have gF:Marks n0 bf sr w1 a1.defers:=by rw[Cw];exact hM.step dq
  have hrun:iE b1 (c ev MR sr)= .code x MQ sx:=hrun;cases ho:c ev MR sr with
  |no=>rw[ho]at hrun;cases hrun
  |val=>rw[ho]at hrun;cases hrun
  |code e2 pF s2=>
   rw[ho]at hrun;refine hc ev hev F hF bf MR sr a1 w1 e2 pF s2 ho cM n0 (Nat.le_trans eR dq.size) gF (dc hL dq) de _ (λdu a2 w2 lX u7 eS fI=>?_);have hS:=dq.trans fI;cases e2 with
   |normal=>cases hrun;exact hQ du a2 w2 lX u7 eS hS
   |exit i=>
    have h:ab (Nat.beq i b1) (.code .normal pF s2) (.code (.exit i) pF s2)=Out.code x MQ sx:=hrun;rw[ai]at h;show(if i=b1 then Q .normal a2 w2 else Q (.exit i) a2 w2);split at h
    ·rename_i hi;cases h;rw[if_pos (Nat.eq_of_beq_eq_true hi)];exact hQ du a2 w2 lX u7 eS hS
    ·rename_i hi;cases h;rw[if_neg (λe=>hi (by rw[e];exact Nat.beq_refl _))];exact hQ du a2 w2 lX u7 eS hS
   |goto l=>cases hrun;exact hQ du a2 w2 lX u7 eS hS
   |ret=>cases hrun;exact hQ du a2 w2 lX u7 eS hS
theorem ct {F:Fence} (hF:eL F) {i1 d1 t9 it:Nat} {r1:Array Oper} {o p:Oper} (wO:r1.toList= [o,p]) (yW:o.guard=none) (FA:o.dst=some d1) (Fg:o.op= .next (.tmp it) false) (FB:p.guard=none) (FC:p.dst=some t9) (Fh:p.op= .extract (.tmp d1) 0)
  {a:Act} {w w2:World} {vs:Array Value} {b:Bool} (wY:vs[0]? =some (.bool b)) (hlt:d1<a.tmps.size) (LY:∀ty,(Instr.next (a.eval (.tmp it)) false ty).run P w= .ok (.tuple vs) w2) {Q:Exit->Act->World->Prop}
  (hQ:Q .normal ((a.put (some d1) (.tuple vs)).put (some t9) (.bool b)) w2):(Code.region i1 r1 false).wpIn F 0 P Q a w:=by
 refine wpIn_region ?_;have hsz:r1.size=2:=by rw[<-Array.length_toList,wO];rfl
 have hr:List.range r1.size= [0,1]:=by rw[hsz];rfl
 rw[hr];have h0:r1[0]? =some o:=by
  have:r1.toList[0]? =some o:=by rw[wO];rfl
  simpa using this
 have h1:r1[1]? =some p:=by
  have:r1.toList[1]? =some p:=by rw[wO];rfl
  simpa using this
 have GK:Region.wanted o (yielded r1 a.tmps)=true:=by unfold Region.wanted;rw[yW]
 simp only[wpOpsIn,h0,h1];rw[if_pos GK];refine⟨λf _=>hF.fn f,?_⟩;rw[Oper.semAt_eq _ _ _ (λc e=>by rw[Fg]at e;cases e)];have hex:(execOp a.eval o).run P w= .ok (.value (.tuple vs)) w2:=by
  have he:execOp a.eval o=(do pure (.value (<-Instr.next (a.eval (.tmp it)) false o.type))):=by unfold execOp;rw[Fg]
  rw[he];exact aM (LY _)
 rw[hex,Oper.uponIn_value,FA];show(if Region.wanted p _=true then _ else _);rw[if_pos (by unfold Region.wanted;rw[FB])];refine⟨λf _=>hF.fn f,?_⟩;rw[Oper.semAt_eq _ _ _ (λc e=>by rw[Fh]at e;cases e)];have OW:(execOp (a.put (some d1) (.tuple vs)).eval p).run P w2= .ok (.value (.bool b)) w2:=by
  have he:execOp (a.put (some d1) (.tuple vs)).eval p=(do pure (.value (<-Instr.extract ((a.put (some d1) (.tuple vs)).eval (.tmp d1)) 0))):=by unfold execOp;rw[Fh]
  rw[he,cm (aU hlt)];refine aM ?_;simp only[Instr.extract,wY,Sem.run_pure]
 rw[OW,Oper.uponIn_value,FC];exact hQ
theorem tu {a:Code} {m:vm} (h:jQ a=some m):∃i1 r1 i2 r2 o p q,a= .seq (.region i1 r1 false) (.seq (.cond (.tmp m.t9) .skip (.exit m.b0)) (.block m.b1 (.seq (.region i2 r2 false) m.body)))∧
  r1.toList= [o,p]∧o.guard=none∧o.dst=some m.d1∧o.op= .next (.tmp m.it) false∧p.guard=none∧p.dst=some m.t9∧p.op= .extract (.tmp m.d1) 0∧
  m.r2=r2.toList∧r2.toList=q::m.t2∧q.guard=none∧q.dst=some m.d2∧q.op= .entry (.tmp m.it):=by
 unfold jQ at h;split at h
 ·rename_i i1 r1 t b0 b1 i2 r2 body;split at h
  ·rename_i d1 it t9 d2 PU t2 hn he;replace h:=ae h;obtain⟨h1,h⟩:=h;replace h:=ae h;obtain⟨h2,h⟩:=h;replace h1:=Nat.eq_of_beq_eq_true h1;replace h2:=Nat.eq_of_beq_eq_true h2;subst h1;subst h2;cases h;unfold D6 at hn;split at hn
   ·rename_i o p R3;split at hn
    ·rename_i a1 d a2 Tk a3 a4 Tl a5 d' a6;replace hn:=ae hn;obtain⟨h3,hn⟩:=hn;replace h3:=Nat.eq_of_beq_eq_true h3;subst h3;cases hn;unfold AU at he;split at he
     ·rename_i q t R4;split at he
      ·cases he;exact⟨i1,r1,i2,r2,o,p,q,rfl,R3,by assumption,by assumption,by assumption,by assumption,by assumption,by assumption,rfl,R4,by assumption,by assumption,by assumption⟩
      ·cases he
     ·cases he
    ·cases hn
   ·cases hn
  ·cases h
 ·cases h
theorem filter_less {seen:List Nat} {b:Nat}:∀ {l:List MapEntry},(∃e∈l,e.born=b)->b∉seen->(l.filter λe=>!(seen++ [b]).contains e.born).length<(l.filter λe=>!seen.contains e.born).length
 | [],⟨e,he,_⟩,_=>by cases he
 |x::l,⟨e,he,hb⟩,hs=>by
  have hle:∀l:List MapEntry,(l.filter λe=>!(seen++ [b]).contains e.born).length<=(l.filter λe=>!seen.contains e.born).length:=by
   intro l;induction l with
   |nil=>exact Nat.le_refl _
   |cons y l ih=>
    rw[List.filter_cons,List.filter_cons];by_cases h1:y.born∈seen
    ·simp[h1];simpa using ih
    ·by_cases h2:y.born=b
     ·simp[h1,h2,hs];have:=ih;simp at this;omega
     ·simp[h1,h2];simpa using ih
  rw[List.filter_cons,List.filter_cons];rcases List.mem_cons.1 he with rfl|he
  ·subst hb;have:=hle l;simp[hs];simp at this;omega
  ·have ih:=filter_less ⟨e,he,hb⟩ hs;by_cases h1:x.born∈seen
   ·simp[h1];simpa using ih
   ·by_cases h2:x.born=b
    ·simp[h1,h2,hs];simp at ih;omega
    ·simp[h1,h2];simpa using ih
theorem z6 {aa nt:Nat} {a0:Code} {m:vm} {k:Code->Option CF} {ws:List Nat} {f:CF} (Jf:jQ a0=some m) (sS:kM P nt aa k ws m=some f) (hk:∀c cf,k c=some cf->cV P aa nt c cf):cV P aa nt (.loop a0) f:=by
 obtain⟨i1,r1,i2,r2,o,p,q,rfl,wO,yW,FA,Fg,FB,FC,Fh,IC,Fz,Kk,GH,JH⟩:=tu Jf;unfold kM at sS;replace sS:=bh sS;obtain⟨MS,sS⟩:=sS;replace sS:=ae sS;obtain⟨uU,sS⟩:=sS;replace sS:=U sS;obtain⟨l2,xa,sS⟩:=sS;replace sS:=U sS;obtain⟨c,hc,sS⟩:=sS;have ID:=hk _ _ hc;obtain⟨h1,uU⟩:=ah uU;obtain⟨h2,uU⟩:=ah uU;obtain⟨h3,uU⟩:=ah uU;obtain⟨JI,uU⟩:=ah uU;obtain⟨BB,Hm⟩:=ah uU;have IE:m.it≠m.t9:= λe=>by rw[e,Nat.beq_refl]at Hm;cases Hm
 have Cw:m.d1<nt:=Nat.le_of_ble_eq_true h1;have Kl:m.d2<nt:=Nat.le_of_ble_eq_true h2;have h9:m.t9<nt:=Nat.le_of_ble_eq_true h3;have oT:kept aa m.d1=false:=by
  cases hb:kept aa m.d1 with
  |false=>rfl
  |true=>rw[hb]at MS;cases MS
 have IF:kept aa m.d2=false:=by rw[oT]at MS;exact MS
 rw[IC]at xa;intro ev hev F hF ρ tm s a w e tm' s' h hE n0 eR hM hL hR Q hQ;cases sS;generalize nU:(⟨m.b0,m.b1,JR m.it,m.t9,c,l2,m.d2,D5 aa ws⟩:bM)=M at h;have OX:M.it=JR m.it:=by rw[<-nU]
 have vX:∀e tm s,bO M ev e tm s=Option.rec (motive:= λ_=>Out) .no (λaz=>iE m.b1 (gn (c ev) (i5 ev l2 sJ (.cons m.d2 (.tuple #[e.1,e.2]) .nil) az s))) (T.put (some (.bool true)) tm m.t9):= λe tm s=>by rw[<-nU];rfl
 have zq:∀tm s,gY M tm s=Option.rec (motive:= λ_=>Out) .no (λaz=> .code (.exit m.b0) az s) (T.put (some (.bool false)) tm m.t9):= λtm s=>by rw[<-nU];rfl
 have h:Option.rec (motive:= λ_=>Out) .no (λdL=>match M.it .nil dL with
  |some (.pointer (some ⟨ib,0,none⟩))=>kK (s.h.get ib) λr ck=>Option.rec (motive:= λ_=>Out) .no (λes=>Option.rec (motive:= λ_=>Out) .no (λs1=>mD M ev dL s1 r es (dm M ev dL s1 es none)) (s.set ib none)) (qv s r ck)
  |_=> .no) (xk M.ws tm)= .code e tm' s':=h
 cases ly:xk M.ws tm with
 |none=>rw[ly]at h;cases h
 |some dL=>
  rw[ly]at h;have h:(match M.it .nil dL with
   |some (.pointer (some ⟨ib,0,none⟩))=>kK (s.h.get ib) λr ck=>Option.rec (motive:= λ_=>Out) .no (λes=>Option.rec (motive:= λ_=>Out) .no (λs1=>mD M ev dL s1 r es (dm M ev dL s1 es none)) (s.set ib none)) (qv s r ck)
   |_=> .no)= .code e tm' s':=h
  have dh:=uu ly;have Fi:bD aa nt ρ dL a:=⟨hE.size,λt v hv=>hE.tk t v (dh t v hv),λt v hv=>hE.env t v (dh t v hv)⟩
  split at h
  ·rename_i ib HB;rw[OX]at HB;have HB:dL.get m.it=some (.pointer (some ⟨ib,0,none⟩)):=HB;unfold kK at h;split at h
   ·rename_i r ck hblk;have h:Option.rec (motive:= λ_=>Out) .no (λes=>Option.rec (motive:= λ_=>Out) .no (λs1=>mD M ev dL s1 r es (dm M ev dL s1 es none)) (s.set ib none)) (qv s r ck)= .code e tm' s':=h;cases hes:qv s r ck with
    |none=>rw[hes]at h;cases h
    |some es=>
     rw[hes]at h;cases gE:s.set ib none with
     |none=>rw[gE]at h;cases h
     |some s1=>
      rw[gE]at h;have h:mD M ev dL s1 r es (dm M ev dL s1 es none)= .code e tm' s':=h;have nI:∀ {a1:Act},bD aa nt ρ dL a1->∃x,ρ ib=some x∧a1.eval (.tmp m.it)= .pointer (some ⟨x.b,x.base,none⟩):= λ {a1} cM=>by
       obtain⟨u,hu,hv⟩:=cM.env _ _ HB;cases hv with
       |ptr off hx=>exact⟨_,hx,by rw[cm hu];simp⟩
      obtain⟨x,hx,_⟩:=nI Fi;obtain⟨OY,xp,oU⟩:=hR.blk ib _ x hblk hx;have nI:∀ {a1:Act},bD aa nt ρ dL a1->a1.eval (.tmp m.it)= .pointer (some ⟨x.b,0,none⟩):= λ {a1} cM=>by obtain⟨x',eJ,he⟩:=nI cM;rw[hx]at eJ;cases eJ;rw[he,xp]
      obtain⟨de,dq⟩:=hR.forget gE hx;have sM:s1.nx=s.nx:=(AS.cD gE).1;have Fe:¬aI ρ s1 x.b:=by
       rintro⟨a',k',x',e1,e2,e3⟩;rw[(AS.cD gE).2]at e1;by_cases hne:a'=ib
       ·rw[if_pos hne]at e1;cases e1
       ·rw[if_neg hne]at e1;have:=(hR.aX a' ib k' _ x' x hne e1 hblk e2 hx e3).2;cases this
      cases JJ:dm M ev dL s1 es none with
      |none=>
       rw[JJ]at h;have h:KS M ev dL s1 r es= .code e tm' s':=h;cases r with
       |none=>cases h
       |some mb=>
        rcases oU with ⟨h0,_⟩|⟨Tm,y,OZ,hy,oU⟩
        ·cases h0
        cases OZ;have hes:mapOf (s.h.get mb) (λ_ es ck'=>ab (Nat.beq ck ck') (some es) none)=some es:=hes;replace hes:=bj hes;obtain⟨kt,bc,ck',EZ,hes⟩:=hes;replace hes:=ae hes;obtain⟨yX,hes⟩:=hes;replace yX:=Nat.eq_of_beq_eq_true yX;subst yX;cases hes;have hne:mb≠ib:= λe=>by rw[e,hblk]at EZ;cases EZ
        have yI:∀j,s1.h.get j=if j=ib then none else s.h.get j:=(AS.cD gE).2
        have qf:s1.h.get mb=some (.map kt es ck):=by rw[yI,if_neg hne];exact EZ
        obtain⟨IG,ents,Az,eI,iw⟩:=hR.blk mb _ y EZ hy;have CX:∀j k,s1.h.get j=some k->s.h.get j=some k∧j≠ib:= λj k e=>by
         rw[yI]at e;by_cases hj:j=ib
         ·rw[if_pos hj]at e;cases e
         ·rw[if_neg hj]at e;exact⟨e,hj⟩
        have FY:∀j k,s1.h.get j=some k->j<s1.nx:= λj k e=>Nat.lt_of_not_le λhle=>by rw[de.top j hle]at e;cases e
        have vw:∀e∈ents.toList,∃p∈es,bJ P ρ kt p e:= λe he=>by obtain⟨l,hp,hf,_⟩:=eI;exact F2.bZ hf e (hp.mem_iff.2 he)
        have FZ:∀p∈es,∃e∈ents.toList,bJ P ρ kt p e:= λp hp=>by obtain⟨l,Cx,hf,_⟩:=eI;obtain⟨gk,fk,rfl⟩:=List.append_of_mem hp;obtain⟨m1,b,m2,rfl,_,hr,_⟩:=hf.split;exact⟨b,Cx.mem_iff.1 (by simp),hr⟩
        have NS:(es.map (·.1)).Nodup:=by obtain⟨l,Cx,hf,dR⟩:=eI;exact dR
        have xv:∀p∈es,∀q∈es,p.1=q.1->p=q:= λp hp q hq e=>by
         have dR:=NS;obtain⟨gk,fk,rfl⟩:=List.append_of_mem hp;rw[List.map_append,List.map_cons,List.nodup_append]at dR;rcases List.mem_append.1 hq with hq|hq
         ·exact(dR.2.2 q.1 (List.mem_map.2 ⟨q,hq,rfl⟩) p.1 (by simp) e.symm).elim
         ·rcases List.mem_cons.1 hq with rfl|hq
          ·rfl
          ·exact((List.nodup_cons.1 dR.2.1).1 (by rw[e];exact List.mem_map.2 ⟨q,hq,rfl⟩)).elim
        have Bc:∀e'∈ents.toList,∀e∈ents.toList,e'.key=e.key->e'=e:= λe' fP e he hk=>by
         obtain⟨l,Cx,hf,dR⟩:=eI;have F1:(ents.toList.map (·.key)).Nodup:=(Cx.map _).nodup_iff.1 (by rw[vW (λp e h=>h.1) hf];exact dR);obtain⟨t1,t2,ht⟩:=List.append_of_mem he;rw[ht]at fP F1;rw[List.map_append,List.map_cons,List.nodup_append]at F1;rcases List.mem_append.1 fP with fP|fP
         ·exact(F1.2.2 e'.key (List.mem_map.2 ⟨e',fP,rfl⟩) e.key (by simp) hk).elim
         ·rcases List.mem_cons.1 fP with rfl|fP
          ·rfl
          ·exact((List.nodup_cons.1 F1.2.1).1 (by rw[<-hk];exact List.mem_map.2 ⟨e',fP,rfl⟩)).elim
        have ld:∀e∈ents.toList,∀e'∈ents.toList,e.born=e'.born->e=e':= λe he e' fP hb=>by
         obtain⟨t1,t2,ht⟩:=List.append_of_mem he;have dR:=iw.1;rw[ht]at fP dR;rw[List.map_append,List.map_cons,List.nodup_append]at dR;rcases List.mem_append.1 fP with fP|fP
         ·exact(dR.2.2 e'.born (List.mem_map.2 ⟨e',fP,rfl⟩) e.born (by simp) hb.symm).elim
         ·rcases List.mem_cons.1 fP with rfl|fP
          ·rfl
          ·exact((List.nodup_cons.1 dR.2.1).1 (by rw[hb];exact List.mem_map.2 ⟨e',fP,rfl⟩)).elim
        have h:Option.rec (motive:= λ_=>Out) .no (λs2=>gY M dL s2) (Jt (nO M ev dL s1 mb es [256,1024,4096]) (nN M ev dL s1 mb es [64,256,1024,2048,4096,16384,1000000]))= .code e tm' s':=h;have dk:(∃sz,nO M ev dL s1 mb es [256,1024,4096]=some sz∧gY M dL sz= .code e tm' s')∨Option.rec (motive:= λ_=>Out) .no (λs2=>gY M dL s2) (nN M ev dL s1 mb es [64,256,1024,2048,4096,16384,1000000])= .code e tm' s':=by
         cases sN:nO M ev dL s1 mb es [256,1024,4096]with
         |none=>rw[sN]at h;exact .inr h
         |some sz=>rw[sN]at h;exact .inl ⟨sz,rfl,h⟩
        clear h;refine dk.elim ?_ λh=>?_
        ·rintro⟨sz,sN,h⟩;obtain⟨L,NT⟩:=py sN;obtain⟨od,s2,sB,q,mm,NU,MT,me,GA,Kj,ws,Tn,To,hz,R5,NV,CY,II,IJ,MO,Qm,NW,R6,O0,LZ,HR,O1,Iz,K3,zr,wW,zs,qg,bA,lW,hsz,L3⟩:=zZ NT;obtain⟨Km,Qn,Kn,JK⟩:=m5 II;have AA:s1.ao=s.ao:=(AS.aT gE).1;have BC:∀a∈mb::od,∀k,s1.h.get a=some k->dZ k=false∧∀c sz n ro et,k≠.cells c sz n ro et:= λa ha k hk=>by
          rcases List.mem_cons.1 ha with rfl|ha
          ·rw[qf]at hk;cases hk;exact⟨rfl,λ_ _ _ _ _=>by simp⟩
          ·have:=(iH CY a ha).1;rw[hk]at this;cases k with
           |cells=>cases this
           |map=>cases this
           |cE=>exact⟨rfl,λ_ _ _ _ _=>by simp⟩
           |mapIter=>exact⟨rfl,λ_ _ _ _ _=>by simp⟩
           |loop=>exact⟨rfl,λ_ _ _ _ _=>by simp⟩
           |pmap=>exact⟨rfl,λ_ _ _ _ _=>by simp⟩
         have nJ:∀j k,s2.h.get j=some k->s1.h.get j=some k∧j∉mb::od:= λj k e=>by
          rw[JK]at e;by_cases hj:j∈mb::od
          ·rw[if_pos hj]at e;cases e
          ·rw[if_neg hj]at e;exact⟨e,hj⟩
         have eS:Rel P ρ s2 w:=de.IA (λj k e=>(nJ j k e).1) Km (by rw[Qn,Km,AA,sM];exact hR.ao);have oV:sB.nx=s1.nx:=Qm.trans Km;have BD:∀j,sB.h.get j=if j∈mm::bV ws then none else s2.h.get j:= λj=>by
          rw[R6];have:j∈mm::Kj↔j∈mm::bV ws:=by rw[List.mem_cons,List.mem_cons];exact⟨λh=>h.imp id (O0 j),λh=>h.imp id (LZ j)⟩
          by_cases hj:j∈mm::bV ws
          ·rw[if_pos hj,if_pos (this.2 hj)]
          ·rw[if_neg hj,if_neg (λh=>hj (this.1 h))]
         have NX:∀a∈mm::bV ws,sB.h.get a=none:= λa ha=>by rw[BD,if_pos ha]
         have F3:∀j k,sB.h.get j=some k->s2.h.get j=some k∧j∉mm::bV ws:= λj k e=>by
          rw[BD]at e;by_cases hj:j∈mm::bV ws
          ·rw[if_pos hj]at e;cases e
          ·rw[if_neg hj]at e;exact⟨e,hj⟩
         have R7:Rel P ρ sB w:=eS.IA (λj k e=>(F3 j k e).1) Qm (by rw[NW,oV];exact NV);have gp:∀a∈mm::bV ws,∃k,s2.h.get a=some k∧dZ k=false:= λa ha=>by
          rcases List.mem_cons.1 ha with rfl|ha
          ·exact⟨_,MO,rfl⟩
          ·obtain⟨d,hd,ha⟩:=bH.1 ha;obtain⟨k,h1,h2,_⟩:=kn ((HR d hd).own a ha).1;exact⟨k,h1,h2⟩
         have HT:∀ {b},aI ρ sB b->aI ρ s2 b:= λ {b} ⟨a,k,x',e1,e2,e3⟩=>⟨a,k,x',(F3 _ _ e1).1,e2,e3⟩
         have MU:∀ {b},aI ρ s2 b->aI ρ s b:= λ {b} ⟨a,k,x',e1,e2,e3⟩=>⟨a,k,x',(CX _ _ (nJ _ _ e1).1).1,e2,e3⟩
         have MV:∀a∈mm::bV ws,∀x',ρ a=some x'->¬aI ρ sB x'.b:=by rintro a ha x' e1 ⟨a',k',pH,e3,e4,e5⟩;obtain⟨k,hk,hro⟩:=gp a ha;obtain⟨c1,c2⟩:=F3 _ _ e3;have:=(eS.aX a a' k k' x' pH (λe=>c2 (by rw[<-e];exact ha)) hk c1 e1 e4 e5.symm).1;rw[hro]at this;cases this
         have Qo:∀a∈mm::bV ws,∀a'∈mm::bV ws,a≠a'->∀x' pH,ρ a=some x'->ρ a'=some pH->x'.b≠pH.b:= λa ha a' dp cK x' pH e1 e2 e3=>by obtain⟨k,hk,hro⟩:=gp a ha;obtain⟨k',fE,_⟩:=gp a' dp;have:=(eS.aX a a' k k' x' pH cK hk fE e1 e2 e3).1;rw[hro]at this;cases this
         have IK:∀a∈mb::od,∀k x',s1.h.get a=some k->ρ a=some x'->¬aI ρ s2 x'.b:=by rintro a ha k x' e1 e2 ⟨a',k',pH,e3,e4,e5⟩;obtain⟨c1,c2⟩:=nJ _ _ e3;have:=(de.aX a a' k k' x' pH (λe=>c2 (by rw[<-e];exact ha)) e1 c1 e2 e4 e5.symm).1;rw[(BC a ha k e1).1]at this;cases this
         have IL:¬aI ρ s2 x.b:= λ⟨a',k',pH,e3,e4,e5⟩=>Fe ⟨a',k',pH,(nJ _ _ e3).1,e4,e5⟩;have K4:¬aI ρ sB x.b:= λh=>IL (HT h);have Ko:∀a∈mb::od,∀k x',s1.h.get a=some k->ρ a=some x'->x'.b≠x.b:= λa ha k x' e1 e2 e3=>Fe ⟨a,k,x',e1,e2,e3⟩;have Qp:∀a∈mm::bV ws,∀x',ρ a=some x'->aI ρ s2 x'.b:= λa ha x' e1=>by obtain⟨k,hk,_⟩:=gp a ha;exact⟨a,k,x',hk,e1,rfl⟩
         have F4:=wW mm List.mem_cons_self;have F5:mm∉bV ws:=(List.nodup_cons.1 K3).1;have Qq:=(List.nodup_cons.1 K3).2;have FD:aR ρ s w ρ (sB.wl s.ao) w:=by
          refine⟨λ_ _=>rfl,by show s.nx<=sB.nx;rw[oV,sM];exact Nat.le_refl _,rfl,rfl,rfl,Nat.le_refl _,λb hb hn=>⟨rfl,λh=>hn (MU (HT h))⟩,λa ha hn=>?_,λb r hb=>⟨r,hb⟩,rfl,λa ha=>?_,λ_ _ _ _ _ _ _ _=>rfl⟩
          ·show sB.h.get a=s.h.get a∨sB.h.get a=none;rw[BD,JK,yI];by_cases h0:a∈mm::bV ws
           ·rw[if_pos h0];exact .inr rfl
           ·rw[if_neg h0];by_cases h1:a∈mb::od
            ·rw[if_pos h1];exact .inr rfl
            ·rw[if_neg h1];by_cases h2:a=ib
             ·rw[if_pos h2];exact .inr rfl
             ·rw[if_neg h2];exact .inl rfl
          ·show sB.h.get a=s.h.get a;have ha:a<s.ao:=ha;rw[BD,JK,yI,if_neg (λhm=>by have:=(wW a hm).1;omega),if_neg (λhm=>by have:=Kn a hm;omega),if_neg (λe=>by have:=(AS.aT gE).2;omega)]
         let HI:World->Prop:= λw1=>∀a∈mb::od,∀k x',s1.h.get a=some k->ρ a=some x'->w1.heap[x'.b]? =w.heap[x'.b]?
         let In:List WD->List an->World->Prop:= λDn ec w1=>
          (∀d∈ws,d∈Dn->∀a∈d.own,∀k x',d.R.h.get a=some k->ρ a=some x'->bX P ρ x' w1 k)∧
          (∀d∈ws,d∉Dn->∀a∈d.own,∀k x',s2.h.get a=some k->ρ a=some x'->bX P ρ x' w1 k)∧
          (∀y',ρ mm=some y'->∃ents',w1.heap[y'.b]? =some (.map ents' MT)∧aW P ρ NU ec ents'∧Borns MT ents')∧JG me Dn ec∧(∀d∈Dn,d∈ws∧∀a∈mm::d.own,ρ a≠none)
         have IM:∀ {Dn ec w1 w2},In Dn ec w1->(∀a∈mm::bV ws,∀x',ρ a=some x'->w2.heap[x'.b]? =w1.heap[x'.b]?)->In Dn ec w2:= λ {Dn ec w1 w2} h hh=>by obtain⟨a1,a2,a3,a4,a5⟩:=h;refine⟨λd hd hD a ha k x' e1 e2=>(a1 d hd hD a ha k x' e1 e2).congr (hh a (List.mem_cons_of_mem _ (bH.2 ⟨d,hd,ha⟩)) x' e2),λd hd hD a ha k x' e1 e2=>(a2 d hd hD a ha k x' e1 e2).congr (hh a (List.mem_cons_of_mem _ (bH.2 ⟨d,hd,ha⟩)) x' e2),λy' e=>?_,a4,a5⟩;obtain⟨ents',b1,b2,b3⟩:=a3 y' e;exact⟨ents',by rw[hh mm List.mem_cons_self y' e];exact b1,b2,b3⟩
         let I:Act->World->Prop:= λa1 w1=>∃(Dn:List WD) (ec:List an) (seen:Array Nat),bD aa nt ρ dL a1∧Marks n0 ρ sB w1 a1.defers∧Rel P ρ sB w1∧aR ρ s w ρ (sB.wl s.ao) w1∧HI w1∧
          w1.heap[x.b]? =some (.mapIter (some y.b) ck seen ck)∧In Dn ec w1∧
          (∀en∈ents.toList,∀p∈es,bJ P ρ kt p en->en.born∈seen.toList∨p∈q.1∨∃d∈ws,d∉Dn∧d.e=p)∧(∀d∈ws,d∉Dn->∃en∈ents.toList,bJ P ρ kt d.e en∧en.born∉seen.toList)
         let μ:Act->World->Nat:= λ_ w1=>match w1.heap[x.b]? with|some (.mapIter _ _ seen _)=>(ents.toList.filter λ(e:MapEntry)=>!seen.toList.contains e.born).length|_=>0
         obtain⟨R8,JL,NY⟩:=lO IJ;have NZ:∀d∈ws,d.e∈es:= λd hd=>JL.subset (by rw[<-zr];exact iQ.2 ⟨d,hd,rfl⟩);have R9:((qm ws).map (·.1)).Nodup:=by rw[zr];exact NS.sublist (JL.map _)
         refine wpIn_loop I μ ⟨[],me,#[],Fi,(hM.re (λd hd=>?_)),R7,FD,λa ha k x' e1 e2=>rfl,oU,⟨λd _ h=>(by cases h),λd hd _ a ha k x' e1 e2=>(eS.blk a k x' e1 e2).2,λy' e1=>(eS.blk mm _ y' MO e1).2,⟨rfl,λd h=>(by cases h),λi _=>rfl⟩,λd h=>(by cases h)⟩,λen hen p hp _=>?_,λd hd _=>?_⟩ (λa1 w1 hI=>?_)
         ·obtain⟨r,z1,z2,z3,z4,z5⟩:=hd;exact⟨r,z1,z2,z3,λh=>z4 (MU (HT h)),z5⟩
         ·rcases NY p hp with h|h
          ·exact .inr (.inl h)
          ·rw[<-zr]at h;obtain⟨d,hd,he⟩:=iQ.1 h;exact .inr (.inr ⟨d,hd,(by simp),he⟩)
         ·obtain⟨en,h1,h2⟩:=FZ d.e (NZ d hd);exact⟨en,h1,h2,by simp⟩
         obtain⟨Dn,ec,seen,cM,gF,Fj,gm,HU,sV,hIn,BE,BF⟩:=hI;have sP:w1.heap[y.b]? =some (.map ents ck):=by rw[HU mb List.mem_cons_self _ y qf hy];exact Az
         have hμ:μ a1 w1=(ents.toList.filter λe=>!seen.toList.contains e.born).length:=by show(match w1.heap[x.b]? with|some (.mapIter _ _ seen _)=>(ents.toList.filter λ(e:MapEntry)=>!seen.toList.contains e.born).length|_=>0)=_;rw[sV]
         refine wpIn_seq ?_;rcases next_some (P:=P) sV sP iw with ⟨w2,hall,hrun,hsame⟩|⟨en,w2,hen,hnew,hrun,hsame⟩
         ·
          refine ct hF wO yW FA Fg FB FC Fh (vs:= #[.bool false]) (b:=false) rfl (Nat.lt_of_lt_of_le Cw cM.size) (λty=>by rw[nI cM];exact hrun ty) ?_;have hD:∀d∈ws,d∈Dn:= λd hd=>Classical.byContradiction λhn=>by obtain⟨en,h1,_,h3⟩:=BF d hd hn;exact h3 (hall en h1)
          have iz:Rel P ρ sB w2:=Fj.of_heap hsame.heap;have fI:aR ρ s w ρ (sB.wl s.ao) w2:=gm.trans (.of_heap hsame.heap hsame.tape hsame.os hsame.out);have u7:Marks n0 ρ sB w2 a1.defers:=gF.step (.of_heap hsame.heap hsame.tape hsame.os hsame.out);have O2:In Dn ec w2:=IM hIn λa ha x' e=>by rw[hsame.heap]
          have F6:HI w2:= λa ha k x' e1 e2=>by rw[hsame.heap];exact HU a ha k x' e1 e2
          obtain⟨b1,b2,b3,b4,b5⟩:=O2;have Sa:ec=GA:=b4.all (λd hd=>(b5 d hd).1) hD O1;subst Sa;obtain⟨Sb,Sc⟩:=x3 qg Qq;have N1:=T.bu _ _ _ _ bA;have MW:=iP lW;have Qr:∀a∈mm::bV ws,a∉mb::od:= λa ha hm=>by obtain⟨k,hk,_⟩:=gp a ha;exact(nJ a k hk).2 hm
          have Kp:∀j,hz.get j=if j∈(mm::bV ws)++(mb::od)then hz.get j else sB.h.get j:= λj=>by
           by_cases hj:j∈(mm::bV ws)++(mb::od)
           ·rw[if_pos hj]
           ·rw[if_neg hj];rw[List.mem_append]at hj;have h1:j∉mm::bV ws:= λh=>hj (.inl h);have h2:j∉mb::od:= λh=>hj (.inr h);rw[MW,if_neg h2,N1,if_neg (λe=>h1 (by rw[e];exact List.mem_cons_self)),Sc j (λh=>h1 (List.mem_cons_of_mem _ h)),BD,if_neg h1]
          have NB:hz.get mm=some (.map NU ec MT):=by rw[MW,if_neg (Qr mm List.mem_cons_self),N1,if_pos rfl]
          have Sd:∀d∈ws,∀a∈d.own,hz.get a=d.R.h.get a:= λd hd a ha=>by have hm:a∈bV ws:=bH.2 ⟨d,hd,ha⟩;rw[MW,if_neg (Qr a (List.mem_cons_of_mem _ hm)),N1,if_neg (λe=>F5 (by rw[<-e];exact hm)),Sb d hd a ha]
          have xe:∀a∈mb::od,hz.get a=s1.h.get a:= λa ha=>by rw[MW,if_pos ha]
          have Kq:∀a∈(mm::bV ws)++(mb::od),∀k x',hz.get a=some k->ρ a=some x'->(∃k0,s1.h.get a=some k0∧dZ k0=false)∧dZ k=false∧bX P ρ x' w2 k:= λa ha k x' e1 e2=>by
           rcases List.mem_append.1 ha with ha|ha
           ·obtain⟨k0,yN,hro⟩:=gp a ha;refine⟨⟨k0,(nJ _ _ yN).1,hro⟩,?_⟩;rcases List.mem_cons.1 ha with rfl|ha
            ·rw[NB]at e1;cases e1;exact⟨rfl,b3 x' e2⟩
            ·obtain⟨d,hd,ha⟩:=bH.1 ha;rw[Sd d hd a ha]at e1;obtain⟨k2,h1,h2,_⟩:=kn ((HR d hd).own a ha).2.1;rw[e1]at h1;cases h1;exact⟨h2,b1 d hd (hD d hd) a ha k x' e1 e2⟩
           ·rw[xe a ha]at e1;exact⟨⟨k,e1,(BC a ha k e1).1⟩,(BC a ha k e1).1,((de.blk a k x' e1 e2).2).congr (F6 a ha k x' e1 e2)⟩
          have Se:∀a∈(mm::bV ws)++(mb::od),∀k x',hz.get a=some k->ρ a=some x'->¬aI ρ sB x'.b:= λa ha k x' e1 e2=>by
           rcases List.mem_append.1 ha with ha|ha
           ·exact MV a ha x' e2
           ·rw[xe a ha]at e1;exactλh=>IK a ha k x' e1 e2 (HT h)
          have N2:Rel P ρ ⟨hz,s1.nx,s.ao⟩ w2:=by
           refine qU (g:=sB.h) (H:=(mm::bV ws)++(mb::od)) (h1:=hz) ⟨λa ha=>iz.dM a (by rw[oV];exact ha),λa ha=>iz.top a (by rw[oV];exact ha),iz.blk,by show s.ao<=s1.nx;rw[sM];exact hR.ao,iz.aX,iz.gl⟩ Kp (λa ha k x' e1 e2=>?_) (λa ha=>?_) (λa ha a' dp k k' x' pH cK e1 e2 r1 r2 hb=>?_)
           ·obtain⟨⟨k0,yN,_⟩,_,hB⟩:=Kq a ha k x' e1 e2;refine⟨Nat.lt_of_lt_of_le (de.blk a k0 x' yN e2).1 fI.size,hB,λh=>Se a ha k x' e1 e2 h,λgg gl vs g1 g2 e=>?_⟩;exact(de.gl gg gl vs g1 g2).2.1 ⟨a,k0,x',yN,e2,e⟩
           ·rcases List.mem_append.1 ha with ha|ha
            ·exact(wW a ha).2
            ·rcases List.mem_cons.1 ha with rfl|ha
             ·exact FY _ _ qf
             ·have:=(iH CY a ha).2.2;omega
           ·obtain⟨⟨k0,yN,q0⟩,_⟩:=Kq a ha k x' e1 r1;obtain⟨⟨k1,nD,_⟩,_⟩:=Kq a' dp k' pH e2 r2;have:=(de.aX a a' k0 k1 x' pH cK yN nD r1 r2 hb).1;rw[q0]at this;cases this
          have vy:∀b,aI ρ ⟨hz,s1.nx,s.ao⟩ b->aI ρ s b:=by
           rintro b ⟨a,k,x',e1,e2,e3⟩;have e1:hz.get a=some k:=e1;by_cases hm:a∈(mm::bV ws)++(mb::od)
           ·obtain⟨⟨k0,yN,_⟩,_⟩:=Kq a hm k x' e1 e2;exact⟨a,k0,x',(CX _ _ yN).1,e2,e3⟩
           ·rw[Kp,if_neg hm]at e1;exact MU (HT ⟨a,k,x',e1,e2,e3⟩)
          have N3:aR ρ s w ρ ⟨hz,s1.nx,s.ao⟩ w2:=by
           refine⟨λ_ _=>rfl,by show s.nx<=s1.nx;omega,fI.tape,fI.os,fI.out,fI.size,λb hb hn=>⟨(fI.frame b hb hn).1,λh=>hn (vy b h)⟩,λa ha hn=>?_,fI.lp,rfl,λa ha=>?_,fI.fW⟩
           ·show hz.get a=s.h.get a∨hz.get a=none;have N4:a≠ib:= λe=>by rw[e,hx]at hn;cases hn
            have Kr:s1.h.get a=s.h.get a:=by rw[yI,if_neg N4]
            by_cases hm:a∈mb::od
            ·rw[xe a hm,Kr];exact .inl rfl
            ·by_cases ho:a∈mm::bV ws
             ·exfalso;rcases List.mem_cons.1 ho with rfl|fT
              ·have O3:∃d,d∈ws:=by
                cases ws with
                |nil=>exact(L3 rfl).elim
                |cons d _=>exact⟨d,List.mem_cons_self⟩
               obtain⟨d,hd⟩:=O3;exact(b5 d (hD d hd)).2 _ List.mem_cons_self hn
              ·obtain⟨d,hd,dp⟩:=bH.1 fT;exact(b5 d (hD d hd)).2 a (List.mem_cons_of_mem _ dp) hn
             ·rw[Kp,if_neg (λh=>(List.mem_append.1 h).elim ho hm),BD,if_neg ho,JK,if_neg hm,Kr];exact .inl rfl
           ·show hz.get a=s.h.get a;have ha:a<s.ao:=ha;have hm:a∉(mm::bV ws)++(mb::od):= λh=>by
             rcases List.mem_append.1 h with h|h
             ·have:=(wW a h).1;omega
             ·have:=Kn a h;omega
            rw[Kp,if_neg hm];exact FD.low a ha
          rw[zq]at h;cases hp:T.put (some (.bool false)) dL m.t9 with
          |none=>rw[hp]at h;cases h
          |some az=>
           rw[hp,hsz,AA]at h;cases h;have lX:=cM.dV (u:= .tuple #[.bool false]) oT;have AI:=lX.put JI h9 (.bool false) hp;refine wpIn_seq ?_;have Cy:((a1.put (some m.d1) (.tuple #[.bool false])).put (some m.t9) (.bool false)).eval (.tmp m.t9)= .bool false:=cm (aU (Nat.lt_of_lt_of_le h9 lX.size));refine wpIn_cond Cy ?_;refine wpIn_exit ?_;refine hQ ρ _ _ AI ?_ N2 N3;rw[aF,aF];refine u7.re (λd hd=>?_);obtain⟨r,z1,z2,z3,z4,z5⟩:=hd;refine⟨r,z1,z2,z3,?_,z5⟩;rintro⟨a,k,x',e1,e2,rfl⟩;have e1:hz.get a=some k:=e1;by_cases hm:a∈(mm::bV ws)++(mb::od)
           ·exact oA (Kq a hm k x' e1 e2).2.2 z2
           ·rw[Kp,if_neg hm]at e1;exact z4 ⟨a,k,x',e1,e2,rfl⟩
         ·
          refine ct hF wO yW FA Fg FB FC Fh (vs:= #[.bool true,en.key,en.val]) (b:=true) rfl (Nat.lt_of_lt_of_le Cw cM.size) (λty=>by rw[nI cM];exact hrun ty) ?_;have CZ:Rel P ρ sB w2:=Fj.of_heap hsame.heap;generalize hw3:({w2 with heap:=w2.heap.setIfInBounds x.b (.mapIter (some y.b) ck (seen.push en.born) ck)}:World)=w3;have iz:Rel P ρ sB w3:=by rw[<-hw3];exact CZ.vu K4 (λi=>by simp[World.cell?,hsame.heap,sV])
          have Fq:x.b<w2.heap.size:=by have:=(Array.getElem?_eq_some_iff.1 sV).1;rw[hsame.heap];exact this
          have nK:w3.heap[x.b]? =some (.mapIter (some y.b) ck (seen.push en.born) ck):=by rw[<-hw3];simp[Fq]
          have JM:x.b<w3.heap.size:=(Array.getElem?_eq_some_iff.1 nK).1;have BK:y.b≠x.b:=Ko mb List.mem_cons_self _ y qf hy;have ej:∀b,b≠x.b->w3.heap[b]? =w1.heap[b]?:= λb hb=>by rw[<-hw3];simp only;rw[Array.getElem?_setIfInBounds_ne (Ne.symm hb),hsame.heap]
          have tQ:w3.heap[y.b]? =some (.map ents ck):=by rw[ej _ BK];exact sP
          have hsz3:w3.heap.size=w1.heap.size:=by rw[<-hw3];simp[hsame.heap]
          have ht3:w3.tape=w1.tape∧w3.os=w1.os∧w3.output=w1.output:=by rw[<-hw3];exact⟨hsame.tape,hsame.os,hsame.out⟩
          have NA:s.ao<=ib:=(AS.aT gE).2;have iA:aR ρ s w ρ (sB.wl s.ao) w3:=by
           refine⟨gm.jj,gm.nx,by rw[ht3.1];exact gm.tape,by rw[ht3.2.1];exact gm.os,by rw[ht3.2.2];exact gm.out,by rw[hsz3];exact gm.size,λb hb hn=>?_,gm.ph,λb l hb=>?_,gm.ao,gm.low,λa' k' x' hl hn fE hro eJ=>?_⟩
           ·have ir:b≠x.b:= λe=>hn ⟨ib,_,x,hblk,hx,e.symm⟩;obtain⟨q1,q2⟩:=gm.frame b hb hn;exact⟨by rw[ej b ir];exact q1,q2⟩
           ·have ir:b≠x.b:= λe=>by rw[e,oU]at hb;cases hb
            rw[ej b ir];exact gm.lp b l hb
           ·have ir:x'.b≠x.b:= λe=>by
             have cK:a'≠ib:=by omega
             have:=(hR.aX a' ib k' _ x' x cK fE hblk eJ hx e).1;rw[hro]at this;cases this
            rw[ej _ ir];exact gm.fW a' k' x' hl hn fE hro eJ
          have GM:Marks n0 ρ sB w3 a1.defers:=by
           refine gF.re (λd hd=>?_);obtain⟨r,q1,q2,q3,q4,q5⟩:=hd;have Ks:r≠x.b:= λe=>by rw[e,sV]at q2;cases q2
           exact⟨r,q1,by rw[ej r Ks];exact q2,by rw[hsz3];exact q3,q4,q5⟩
          have C0:HI w3:= λa ha k x' e1 e2=>by rw[ej _ (Ko a ha k x' e1 e2)];exact HU a ha k x' e1 e2
          have K5:In Dn ec w3:=IM hIn λa ha x' e=>ej _ λe'=>IL (by rw[<-e'];exact Qp a ha x' e);have Kt:∀l,F.round=some l->∃r,w3.heap[l]? =some (Obj.loop r):=dc hL iA;have Hz:n0.n<=w3.heap.size:=Nat.le_trans eR iA.size;refine wpIn_seq ?_;have lX:=cM.dV (u:= .tuple #[.bool true,en.key,en.val]) oT;have Cy:((a1.put (some m.d1) (.tuple #[.bool true,en.key,en.val])).put (some m.t9) (.bool true)).eval (.tmp m.t9)= .bool true:=cm (aU (Nat.lt_of_lt_of_le h9 lX.size));refine wpIn_cond Cy ?_;refine wpIn_skip ?_;show(Code.block m.b1 (.seq (.region i2 r2 false) m.body)).wpIn F 0 P _ _ w3;obtain⟨pe,wS,hent⟩:=vw en hen;have i7:∀(HV:Ren),sU ρ HV->∀(sA:AS) (xx:bY) (tx:T Value) (sx:AS),bO M ev (pe.1,pe.2.1) dL sA= .code xx tx sx->Rel P HV sA w3->Marks n0 HV sA w3 a1.defers->∀Q':Exit->Act->World->Prop,kF P n0 aa nt HV sA w3 xx tx sx Q'->
            (Code.block m.b1 (.seq (.region i2 r2 false) m.body)).wpIn F 0 P Q' ((a1.put (some m.d1) (.tuple #[.bool true,en.key,en.val])).put (some m.t9) (.bool true)) w3:=by
           intro HV Qs sA xx tx sx dt HO Ku Q' Kv;rw[vX]at dt;cases hp:T.put (some (.bool true)) dL m.t9 with
           |none=>rw[hp]at dt;cases dt
           |some az=>
            rw[hp]at dt;have O4:bD aa nt HV dL a1:=⟨cM.size,cM.tk,gO.nE Qs cM.env⟩
            have O5:=O4.dV (u:= .tuple #[.bool true,en.key,en.val]) oT;have AI:=O5.put JI h9 (.bool true) hp;have Kw:ag HV pe.1 en.key:=by rw[hent.1];have:=hent.2.2.1;rw[hent.1]at this;exact jq this
            have C1:((a1.put (some m.d1) (.tuple #[.bool true,en.key,en.val])).put (some m.t9) (.bool true)).eval (.tmp m.it)= .pointer (some ⟨x.b,0,none⟩):=by
             have C2:m.it≠m.d1:= λe=>by rw[e,oT]at BB;cases BB
             rw[cq (by intro e;exact IE (by injection e)),cq (by intro e;exact C2 (by injection e))];exact nI cM
            exact ko hev hF ID xa Fz Kk GH JH IF Kl (k:=pe.1) (v:=pe.2.1) dt AI Hz (by rw[aF,aF];exact Ku) Kt HO (by rw[C1];exact run_entry nK tQ iw hen) Kw (hent.2.2.2.1.nE Qs) Kv
          have hrefl:sU ρ ρ:= λa x e=>⟨x,e,rfl,rfl,rfl⟩
          have C3:∀ {w':World} {a':Act},w'.heap[x.b]? =some (.mapIter (some y.b) ck (seen.push en.born) ck)->μ a' w'<μ a1 w1:= λ {w' a'} cQ=>by rw[hμ];show(match w'.heap[x.b]? with|some (.mapIter _ _ seen _)=>(ents.toList.filter λ(e:MapEntry)=>!seen.toList.contains e.born).length|_=>0)<_;rw[cQ];simp only[Array.toList_push];exact filter_less ⟨en,hen,rfl⟩ hnew
          have Ek:∀jC∈ents.toList,jC.born∈seen.toList->jC.born∈(seen.push en.born).toList:= λjC _ h=>by rw[Array.toList_push];exact List.mem_append.2 (.inl h)
          by_cases Kx:∃d∈ws,d∉Dn∧d.e=pe
          ·obtain⟨d,hd,Qt,rfl⟩:=Kx;have W:=HR d hd;obtain⟨tx,dt,mw⟩:=pv W.run;obtain⟨c1,c2,c3,c4,c5⟩:=K5;have Qu:∀f∈Dn,f.i≠d.i:= λf hf he=>Qt (by rw[<-uy Iz (c5 f hf).1 hd he];exact hf);have O6:ec[d.i]? =some (d.k,d.v,d.n):=by rw[c4.rest d.i Qu];exact W.Ql
           have Ky:d.i<me.length:=(List.getElem?_eq_some_iff.1 W.Ql).1;obtain⟨A,B,N5,Qv⟩:∃A B,ec=A++(d.k,d.v,d.n)::B∧A.length=d.i:=by obtain⟨hlt,wM⟩:=List.getElem?_eq_some_iff.1 O6;refine⟨ec.take d.i,ec.drop (d.i+1),?_,by rw[List.length_take];omega⟩;rw[<-wM,List.getElem_cons_drop,List.take_append_drop]
           have my:∀a∈mm::d.own,a∈mm::bV ws:= λa ha=>by
            rcases List.mem_cons.1 ha with rfl|ha
            ·exact List.mem_cons_self
            ·exact List.mem_cons_of_mem _ (bH.2 ⟨d,hd,ha⟩)
           have AB:∀j,d.S.h.get j=if j∈mm::d.own then d.S.h.get j else sB.h.get j:= λj=>by
            by_cases hj:j∈mm::d.own
            ·rw[if_pos hj]
            ·rw[if_neg hj,W.get j (λe=>hj (by rw[e];exact List.mem_cons_self)),if_neg (λh=>hj (List.mem_cons_of_mem _ h))]
           have Sf:d.S=⟨d.S.h,sB.nx,sB.ao⟩:=by rw[<-W.nx,<-W.ao]
           have Hn:∀nF:Ren,sU ρ nF->(∀a,a≠mm->nF a=ρ a)->(∀z,nF mm=some z->bX P nF z w3 (.pmap NU [(d.k,d.v,d.n)] MT)∧∃y',ρ mm=some y'∧y'.b=z.b)->
             Rel P nF d.S w3∧Marks n0 nF d.S w3 a1.defers∧Rel P nF sB w3∧∀b,aI nF d.S b->aI ρ sB b∨∃a∈mm::d.own,∃x',ρ a=some x'∧x'.b=b:=by
            intro nF hs hne hz;have HW:Rel P nF sB w3:=iz.rO (NX mm List.mem_cons_self) hs hne (by rw[oV];exact F4.2);have Kz:∀a z,nF a=some z->∃x',ρ a=some x'∧x'.b=z.b:= λa z e=>by
             by_cases ha:a=mm
             ·subst ha;exact(hz z e).2
             ·rw[hne a ha]at e;exact⟨z,e,rfl⟩
            have Qw:∀b,aI nF sB b->aI ρ sB b:=by rintro b ⟨a,k,z,e1,e2,e3⟩;obtain⟨x',h1,h2⟩:=Kz a z e2;exact⟨a,k,x',e1,h1,h2.trans e3⟩
            have Jg:∀b,aI nF d.S b->aI ρ sB b∨∃a∈mm::d.own,∃x',ρ a=some x'∧x'.b=b:=by
             rintro b ⟨a,k,z,e1,e2,e3⟩;by_cases ha:a∈mm::d.own
             ·obtain⟨x',h1,h2⟩:=Kz a z e2;exact .inr ⟨a,ha,x',h1,h2.trans e3⟩
             ·rw[AB,if_neg ha]at e1;exact .inl (Qw b ⟨a,k,z,e1,e2,e3⟩)
            have JU:Rel P nF ⟨d.S.h,sB.nx,sB.ao⟩ w3:=by
             refine qU (g:=sB.h) (H:=mm::d.own) (h1:=d.S.h) HW AB (λa ha k z e1 e2=>?_) (λa ha=>by rw[oV];exact(wW a (my a ha)).2) (λa ha a' dp k k' z z' hn e1 e2 r1 r2 hb=>?_)
             ·obtain⟨x',h1,h2⟩:=Kz a z e2;obtain⟨k0,yN,_⟩:=gp a (my a ha);refine⟨by rw[<-h2];exact Nat.lt_of_lt_of_le (eS.blk a k0 x' yN h1).1 iA.size,?_,λh=>MV a (my a ha) x' h1 (by rw[h2];exact Qw _ h),λgg gl vs g1 g2 e=>(eS.gl gg gl vs g1 g2).2.1 ⟨a,k0,x',yN,h1,h2.trans e⟩⟩;by_cases hm:a=mm
              ·subst hm;rw[W.RX]at e1;cases e1;exact(hz z e2).1
              ·rw[W.get a hm]at e1;have dp:a∈d.own:=(List.mem_cons.1 ha).resolve_left hm;rw[if_pos dp]at e1;rw[hne a hm]at e2;exact(c2 d hd Qt a dp k z e1 e2).nE hs
             ·obtain⟨x1,h1,h2⟩:=Kz a z r1;obtain⟨x2,h3,h4⟩:=Kz a' z' r2;exact(Qo a (my a ha) a' (my a' dp) hn x1 x2 h1 h3 (by rw[h2,h4];exact hb)).elim
            refine⟨by rw[Sf];exact JU,(GM.re (λf hf=>?_)),HW,Jg⟩;obtain⟨r,z1,z2,z3,z4,z5⟩:=hf;refine⟨r,z1,z2,z3,?_,z5⟩;rintro⟨a,k,z,e1,e2,rfl⟩;exact oA (JU.blk a k z e1 e2).2 z2
           cases Fc:ρ mm with
           |none=>
            obtain⟨HW,N6,_,_⟩:=Hn ρ hrefl (λ_ _=>rfl) (λz e=>by rw[Fc]at e;cases e);refine i7 ρ hrefl d.S .normal tx d.R dt HW N6 _ (λdu a' w' kV nU eT aS=>?_);exfalso;rcases aS.ph mm (by rw[W.nx,oV];exact F4.2) Fc with e|e
            ·exact W.ne mm List.mem_cons_self e
            ·rw[W.now]at e;cases e
           |some y'=>
            obtain⟨ents',m1,⟨l,mp,mf,mn⟩,m3⟩:=c3 y' Fc;rw[N5]at mf mn;obtain⟨l1,b,l2,rfl,f1,fb,f2⟩:=mf.split;have L4:((l1++b::l2).map (·.key)).Nodup:=by rw[vW (λp e h=>h.1) mf];exact mn
            let nF:Ren:= λa=>if a=mm then some {y' with rest:=l1++l2}else ρ a
            have JN:nF mm=some {y' with rest:=l1++l2}:=if_pos rfl;have hne:∀a,a≠mm->nF a=ρ a:= λa ha=>if_neg ha;have hs:sU ρ nF:= λa z e=>by
             by_cases ha:a=mm
             ·subst ha;rw[Fc]at e;cases e;exact⟨_,JN,rfl,rfl,rfl⟩
             ·exact⟨z,by rw[hne a ha];exact e,rfl,rfl,rfl⟩
            have fu:sU nF ρ:= λa z e=>by
             by_cases ha:a=mm
             ·subst ha;rw[JN]at e;cases e;exact⟨y',Fc,rfl,rfl,rfl⟩
             ·rw[hne a ha]at e;exact⟨z,e,rfl,rfl,rfl⟩
            have JO:((b::(l1++l2)).map (·.key)).Nodup:=((List.perm_middle (a:=b) (l₁:=l1) (l₂:=l2)).map (·.key)).nodup_iff.1 L4;obtain⟨HW,N6,O7,Qx⟩:=Hn nF hs hne (λz e=>by
             rw[JN]at e;cases e;refine⟨⟨ents',m1,⟨[b],(show([b]++(l1++l2)).Perm ents'.toList from(List.perm_middle (a:=b) (l₁:=l1) (l₂:=l2)).symm.trans mp),.cons ⟨fb.1,fb.2.1,fb.2.2.1,fb.2.2.2.1.nE hs,fb.2.2.2.2⟩ .nil,λe he=>?_,JO⟩,m3⟩,y',Fc,rfl⟩;rcases List.mem_append.1 he with he|he
             ·obtain⟨p,_,h1,h2,_⟩:=F2.bZ f1 e he;rw[<-h1];exact h2
             ·obtain⟨p,_,h1,h2,_⟩:=F2.bZ f2 e he;rw[<-h1];exact h2)
            refine i7 nF hs d.S .normal tx d.R dt HW N6 _ (λdu a' w' kV nU eT aS=>?_);have C4:aK nF du:=aS.le HW;have IP:∀a,a<s1.nx->du a=nF a:= λa ha=>aS.jj a (by rw[W.nx,oV];exact ha);have O8:∀b,¬aI ρ s2 b->¬aI nF d.S b:= λb hn h=>by
             rcases Qx b h with h|⟨a,ha,x',e1,rfl⟩
             ·exact hn (HT h)
             ·exact hn (Qp a (my a ha) x' e1)
            have IQ:∀b,b<w3.heap.size->¬aI ρ s2 b->w'.heap[b]? =w3.heap[b]?:= λb hb hn=>(aS.frame b hb (O8 b hn)).1;have cQ:w'.heap[x.b]? =some (.mapIter (some y.b) ck (seen.push en.born) ck):=(IQ x.b JM IL).trans nK;have O9:HI w':= λa ha k x' e1 e2=>(IQ x'.b (Nat.lt_of_lt_of_le (de.blk a k x' e1 e2).1 iA.size) (IK a ha k x' e1 e2)).trans (C0 a ha k x' e1 e2);have dh:∀a k,sB.h.get a=some k->d.R.h.get a=some k:= λa k e=>by
             obtain⟨e2,e3⟩:=F3 a k e;have KA:a∉mm::d.own:= λh=>e3 (my a h);have MX:d.S.h.get a=some k:=by rw[AB,if_neg KA];exact e
             by_cases N7:a<L
             ·rw[aS.low a (by rw[W.ao,NW];exact N7)];exact MX
             ·have Tp:=FY a k (nJ a k e2).1;rcases W.same a (by omega) (by omega)with h|h
              ·exact(KA h).elim
              ·rw[<-h];exact MX
            have Pa:Rel P nF sB w':=O7.LX eT C4 dh;have L5:Rel P ρ sB w':=Pa.rO (NX mm List.mem_cons_self) fu (λa ha=>(hne a ha).symm) (by rw[oV];exact F4.2);have K6:∀f∈ws,f≠d->∀a∈f.own,∀x',ρ a=some x'->w'.heap[x'.b]? =w3.heap[x'.b]?:= λf hf Cz a ha x' e1=>by
             have N8:a∈mm::bV ws:=List.mem_cons_of_mem _ (bH.2 ⟨f,hf,ha⟩);obtain⟨k0,yN,_⟩:=gp a N8;refine(aS.frame x'.b (Nat.lt_of_lt_of_le (eS.blk a k0 x' yN e1).1 iA.size) λh=>?_).1;rcases Qx _ h with h|⟨a2,MY,x2,e2,e3⟩
             ·exact MV a N8 x' e1 h
             ·have Pb:a2≠a:= λe=>by
               subst e;rcases List.mem_cons.1 MY with rfl|MY
               ·exact F5 (bH.2 ⟨f,hf,ha⟩)
               ·exact Cz (ux Qq hf hd ha MY)
              exact Qo a2 (my a2 MY) a N8 Pb x2 x' e2 e1 e3
            have Ff:∀a b x,yT s1.nx [] a=some b->du a=some x->nF b=some x:= λa b x e e'=>by
             rcases xS e with ⟨h1,rfl⟩|⟨_,h2⟩
             ·rw[<-IP _ h1];exact e'
             ·cases h2
            have Pc:In (d::Dn) (ec.set d.i (d.k,d.v',d.n)) w':=by
             refine⟨λf hf BQ a ha k x' e1 e2=>?_,λf hf BQ a ha k x' e1 e2=>?_,λTq e=>?_,c4.step Qu Ky,λf hf=>?_⟩
             ·by_cases Cz:f=d
              ·subst Cz;have HX:a≠mm:= λe=>F5 (by rw[<-e];exact bH.2 ⟨f,hf,ha⟩);have hlt:=(wW a (List.mem_cons_of_mem _ (bH.2 ⟨f,hf,ha⟩))).2;have hc:=(W.own a ha).2.2;rw[e1]at hc;obtain⟨k2,yD,hc⟩:=oz hc;cases yD;exact((vV Ff hc (eT.blk a k x' e1 (by rw[IP a hlt,hne a HX];exact e2)).2).1).nE fu
              ·have Pd:f∈Dn:=(List.mem_cons.1 BQ).resolve_left Cz;exact(c1 f hf Pd a ha k x' e1 e2).congr (K6 f hf Cz a ha x' e2)
             ·have Cz:f≠d:= λe=>BQ (by rw[e];exact List.mem_cons_self);exact(c2 f hf (λh=>BQ (List.mem_cons_of_mem _ h)) a ha k x' e1 e2).congr (K6 f hf Cz a ha x' e2)
             ·rw[Fc]at e;cases e;obtain⟨L6,n1,⟨lb,np,nf,_,_⟩,n3⟩:=(eT.blk mm _ {y' with rest:=l1++l2} W.now (by rw[IP mm F4.2];exact JN)).2;cases nf with
              | @cons _ b' _ Tr cr hs2=>
              cases hs2;refine⟨L6,n1,⟨l1++b'::l2,List.perm_middle.trans np,?_,?_⟩,n3⟩
              ·rw[N5,<-Qv,List.set_append_right _ _ (Nat.le_refl _),Nat.sub_self];exact F2.append (.cons ⟨cr.1,cr.2.1,cr.2.2.1,(cZ Ff 12 _ _ _ W.plain cr.2.2.2.1).nE fu,cr.2.2.2.2⟩ f2) f1
              ·rw[N5,<-Qv,List.set_append_right _ _ (Nat.le_refl _),Nat.sub_self];simpa using mn
             ·rcases List.mem_cons.1 hf with rfl|hf
              ·refine⟨hd,λa ha hn=>?_⟩;rcases List.mem_cons.1 ha with rfl|dp
               ·rw[Fc]at hn;cases hn
               ·have HX:a≠mm:= λe=>F5 (by rw[<-e];exact bH.2 ⟨f,hd,dp⟩);have hlt:=(wW a (List.mem_cons_of_mem _ (bH.2 ⟨f,hd,dp⟩))).2;rcases aS.ph a (by rw[W.nx,oV];exact hlt) (by rw[hne a HX];exact hn)with e|e
                ·exact W.ne a ha e
                ·obtain⟨k,hk,_⟩:=kn (W.own a dp).2.1;rw[hk]at e;cases e
              ·exact c5 f hf
            have Sg:aR ρ s w ρ (sB.wl s.ao) w':=by
             refine⟨λ_ _=>rfl,iA.nx,aS.tape.trans iA.tape,aS.os.trans iA.os,aS.out.trans iA.out,Nat.le_trans iA.size aS.size,λb hb hn=>?_,iA.ph,λb r hb=>?_,rfl,iA.low,λa k x' hl hn hk hro eJ=>?_⟩
             ·obtain⟨q1,q2⟩:=iA.frame b hb hn;exact⟨(IQ b (Nat.lt_of_lt_of_le hb iA.size) (λh=>hn (MU h))).trans q1,q2⟩
             ·obtain⟨r1,h1⟩:=iA.lp b r hb;exact aS.lp b r1 h1
             ·have KA:a∉mm::d.own:= λh=>by have:=(wW a (my a h)).1;omega
              have HX:a≠mm:= λe=>KA (by rw[e];exact List.mem_cons_self);have MX:d.S.h.get a=some k:=by rw[AB,if_neg KA];exact(iA.low a hl).trans hk
              exact(aS.fW a k x' (by rw[W.ao,NW];omega) (by rw[W.nx,oV];omega) MX hro (by rw[hne a HX];exact eJ)).trans (iA.fW a k x' hl hn hk hro eJ)
            have Sh:Marks n0 ρ sB w' a'.defers:=by
             refine nU.re (λf hf=>?_);obtain⟨r,z1,z2,z3,z4,z5⟩:=hf;refine⟨r,z1,z2,z3,?_,z5⟩;rintro⟨a,k,x',e1,e2,e3⟩;have HX:a≠mm:= λe=>by rw[e,NX mm List.mem_cons_self]at e1;cases e1
             exact z4 ⟨a,k,x',dh a k e1,C4 _ _ (by rw[hne a HX];exact e2),e3⟩
            refine⟨⟨d::Dn,_,seen.push en.born,⟨kV.size,Fi.tk,gO.nE fu (fZ C4 (gO.nE hs cM.env) (λt v hv=>kV.env t v (cY mw t v hv)))⟩,Sh,L5,Sg,O9,cQ,Pc,λjC h1 p h2 h3=>?_,λf hf BQ=>?_⟩,C3 (a':=a') cQ⟩
            ·by_cases CA:p=d.e
             ·left;rw[CA]at h3;have:jC=en:=Bc jC h1 en hen (h3.1.symm.trans hent.1);rw[this];simp
             ·rcases BE jC h1 p h2 h3 with hc|hc|⟨f,hf,BQ,rfl⟩
              ·exact .inl (Ek jC h1 hc)
              ·exact .inr (.inl hc)
              ·exact .inr (.inr ⟨f,hf,λhm=>(List.mem_cons.1 hm).elim (λe=>CA (by rw[e])) BQ,rfl⟩)
            ·have Cz:f≠d:= λe=>BQ (by rw[e];exact List.mem_cons_self);obtain⟨jC,h1,h2,h3⟩:=BF f hf (λh=>BQ (List.mem_cons_of_mem _ h));refine⟨jC,h1,h2,λhm=>?_⟩;rw[Array.toList_push]at hm;rcases List.mem_append.1 hm with hm|hm
             ·exact h3 hm
             ·simp only[List.mem_singleton]at hm;have:=ld jC h1 en hen hm;subst this;exact Cz (rR R9 hf hd (xv f.e (NZ f hf) d.e wS (by rw[h2.1,hent.1])))
          ·have KB:pe∈q.1:=by
            rcases BE en hen pe wS hent with hc|hc|hc
            ·exact(hnew hc).elim
            ·exact hc
            ·exact(Kx hc).elim
           obtain⟨tx,sx,dt,mw⟩:=pw (zs pe KB);have GN:Rel P ρ ⟨sB.h,sB.nx,sB.nx⟩ w3:=⟨iz.dM,iz.top,iz.blk,Nat.le_refl _,iz.aX,iz.gl⟩
           refine i7 ρ hrefl _ .normal tx sx dt GN (GM.re (λ_ h=>h)) _ (λdu a' w' kV nU eT aS=>?_);have hle:=aS.le GN;have jM:∀q,q<sB.nx->sx.h.get q=sB.h.get q:= λq hq=>aS.low q hq;have KD:Rel P ρ sB w':=iz.down eT hle jM;have cQ:w'.heap[x.b]? =some (.mapIter (some y.b) ck (seen.push en.born) ck):=((aS.frame x.b JM K4).1).trans nK;have KE:aR ρ (sB.wl s.ao) w3 ρ (sB.wl s.ao) w':=by refine⟨λ_ _=>rfl,Nat.le_refl _,aS.tape,aS.os,aS.out,aS.size,λb hb hn=>⟨(aS.frame b hb hn).1,hn⟩,λ_ _ _=> .inl rfl,aS.lp,rfl,λ_ _=>rfl,λq k' x' hl hn fE hro eJ=>?_⟩;have hl:q<s.ao:=hl;exact aS.fW q k' x' (show q<sB.nx by rw[oV,sM];have:=hR.ao;omega) hn fE hro eJ
           have Pe:In Dn ec w':=IM K5 λa ha x' e=>by obtain⟨k0,yN,_⟩:=gp a ha;exact(aS.frame x'.b (Nat.lt_of_lt_of_le (eS.blk a k0 x' yN e).1 iA.size) (MV a ha x' e)).1
           refine⟨⟨Dn,ec,seen.push en.born,⟨kV.size,Fi.tk,fZ hle cM.env (λt v hv=>kV.env t v (cY mw t v hv))⟩,(nU.re (λd hd=>?_)),KD,iA.trans KE,λa ha k x' e1 e2=>?_,cQ,Pe,λjC h1 p h2 h3=>?_,λf hf BQ=>?_⟩,C3 (a':=a') cQ⟩
           ·obtain⟨r,q1,q2,q3,q4,q5⟩:=hd;exact⟨r,q1,q2,q3,λhh=>q4 (hh.up iz hle jM),q5⟩
           ·exact((aS.frame x'.b (Nat.lt_of_lt_of_le (de.blk a k x' e1 e2).1 iA.size) (λh=>IK a ha k x' e1 e2 (HT h))).1).trans (C0 a ha k x' e1 e2)
           ·by_cases CA:p=pe
            ·exact .inr (.inl (by rw[CA];exact KB))
            ·exact(BE jC h1 p h2 h3).imp (Ek jC h1) id
           ·obtain⟨jC,h1,h2,h3⟩:=BF f hf BQ;refine⟨jC,h1,h2,λhm=>?_⟩;rw[Array.toList_push]at hm;rcases List.mem_append.1 hm with hm|hm
            ·exact h3 hm
            ·simp only[List.mem_singleton]at hm;have:=ld jC h1 en hen hm;subst this;exact Kx ⟨f,hf,BQ,xv f.e (NZ f hf) pe wS (by rw[h2.1,hent.1])⟩
        cases HR:nN M ev dL s1 mb es [64,256,1024,2048,4096,16384,1000000]with
        |none=>rw[HR]at h;cases h
        |some sz=>
         rw[HR]at h;have h:gY M dL sz= .code e tm' s':=h;obtain⟨L,NT⟩:=px HR;obtain⟨od,s2,f1,q,g,hz,ch,R5,NV,CY,II,IJ,qg,Fx,Si,yY,lW,hsz⟩:=zY NT;obtain⟨Km,Qn,Kn,JK⟩:=m5 II;have AA:s1.ao=s.ao:=(AS.aT gE).1;generalize IS:(⟨s2.h,s2.nx,L⟩:AS)=wT at yY;have F7:wT.h=s2.h:=by rw[<-IS]
         have C5:wT.nx=s1.nx:=by rw[<-IS];exact Km
         have K7:wT.ao=L:=by rw[<-IS]
         have hg2:∀j,wT.h.get j=if j∈mb::od then none else s1.h.get j:= λj=>by rw[F7];exact JK j
         have BC:∀a∈mb::od,∀k,s1.h.get a=some k->dZ k=false∧∀c sz n ro et,k≠.cells c sz n ro et:= λa ha k hk=>by
          rcases List.mem_cons.1 ha with rfl|ha
          ·rw[qf]at hk;cases hk;exact⟨rfl,λ_ _ _ _ _=>by simp⟩
          ·have:=(iH CY a ha).1;rw[hk]at this;cases k with
           |cells=>cases this
           |map=>cases this
           |cE=>exact⟨rfl,λ_ _ _ _ _=>by simp⟩
           |mapIter=>exact⟨rfl,λ_ _ _ _ _=>by simp⟩
           |loop=>exact⟨rfl,λ_ _ _ _ _=>by simp⟩
           |pmap=>exact⟨rfl,λ_ _ _ _ _=>by simp⟩
         have nJ:∀j k,wT.h.get j=some k->s1.h.get j=some k∧j∉mb::od:= λj k e=>by
          rw[hg2]at e;by_cases hj:j∈mb::od
          ·rw[if_pos hj]at e;cases e
          ·rw[if_neg hj]at e;exact⟨e,hj⟩
         have IT:Rel P ρ wT w:=de.IA (λj k e=>(nJ j k e).1) C5 (by rw[K7,C5];exact NV);have Pf:∀a∈mb::od,∀k x',s1.h.get a=some k->ρ a=some x'->¬aI ρ wT x'.b:=by rintro a ha k x' e1 e2 ⟨a',k',pH,e3,e4,e5⟩;obtain⟨c1,c2⟩:=nJ _ _ e3;have:=(de.aX a a' k k' x' pH (λe=>c2 (by rw[<-e];exact ha)) e1 c1 e2 e4 e5.symm).1;rw[(BC a ha k e1).1]at this;cases this
         have Pg:¬aI ρ wT x.b:=by rintro⟨a',k',pH,e3,e4,e5⟩;exact Fe ⟨a',k',pH,(nJ _ _ e3).1,e4,e5⟩
         have Ko:∀a∈mb::od,∀k x',s1.h.get a=some k->ρ a=some x'->x'.b≠x.b:= λa ha k x' e1 e2 e3=>Fe ⟨a,k,x',e1,e2,e3⟩;have FD:aR ρ s w ρ (wT.wl s.ao) w:=by
          refine⟨λ_ _=>rfl,by show s.nx<=wT.nx;rw[C5,sM];exact Nat.le_refl _,rfl,rfl,rfl,Nat.le_refl _,λb hb hn=>⟨rfl,?_⟩,λa ha hn=>?_,λb r hb=>⟨r,hb⟩,rfl,λa ha=>?_,λ_ _ _ _ _ _ _ _=>rfl⟩
          ·rintro⟨a',k',pH,e3,e4,e5⟩;exact hn ⟨a',k',pH,(CX _ _ (nJ _ _ e3).1).1,e4,e5⟩
          ·show wT.h.get a=s.h.get a∨wT.h.get a=none;rw[hg2,yI];by_cases h1:a∈mb::od
           ·rw[if_pos h1];exact .inr rfl
           ·rw[if_neg h1];by_cases h2:a=ib
            ·rw[if_pos h2];exact .inr rfl
            ·rw[if_neg h2];exact .inl rfl
          ·show wT.h.get a=s.h.get a;rw[hg2,yI,if_neg (λhm=>by have:=Kn a hm;omega),if_neg (λe=>by have:=(AS.aT gE).2;omega)]
         let HI:Ren->AS->World->Prop:= λbf sc w1=>∀a∈mb::od,∀k x',s1.h.get a=some k->ρ a=some x'->w1.heap[x'.b]? =w.heap[x'.b]?∧¬aI bf sc x'.b
         let I:Act->World->Prop:= λa1 w1=>∃(bf:Ren) (sc:AS) (W:List an) (seen:Array Nat),bD aa nt ρ dL a1∧Marks n0 bf sc w1 a1.defers∧Rel P bf sc w1∧aR ρ s w bf (sc.wl s.ao) w1∧sc.ao=L∧(∀a,a<L->sc.h.get a=wT.h.get a)∧s1.nx<=sc.nx∧
          HI bf sc w1∧¬aI bf sc x.b∧w1.heap[x.b]? =some (.mapIter (some y.b) ck seen ck)∧Js M ev dL q.1 (CG s1.nx L (s1.nx-L) f1.nx s2.h g ch) W.length W sc=true∧
          (W.map (·.1)).Nodup∧(∀p∈W,p∈es)∧(∀en∈ents.toList,∀p∈es,bJ P ρ kt p en->en.born∈seen.toList∨p∈q.1∨p∈W)∧(∀p∈W,∃en∈ents.toList,bJ P ρ kt p en∧en.born∉seen.toList)
         let μ:Act->World->Nat:= λ_ w1=>match w1.heap[x.b]? with|some (.mapIter _ _ seen _)=>(ents.toList.filter λ(e:MapEntry)=>!seen.toList.contains e.born).length|_=>0
         obtain⟨R8,JL,NY⟩:=lO IJ;refine wpIn_loop I μ ⟨ρ,wT,q.2,#[],Fi,(hM.re (λd hd=>?_)),IT,FD,K7,λ_ _=>rfl,by rw[C5];exact Nat.le_refl _,λa ha k x' e1 e2=>⟨rfl,Pf a ha k x' e1 e2⟩,Pg,oU,yY,NS.sublist (JL.map _),λp hp=>JL.subset hp,λen hen p hp _=> .inr (NY p hp),λp hp=>?_⟩ (λa1 w1 hI=>?_)
         ·obtain⟨r,z1,z2,z3,z4,z5⟩:=hd;exact⟨r,z1,z2,z3,λ⟨a',k',pH,e3,e4,e5⟩=>z4 ⟨a',k',pH,(CX _ _ (nJ _ _ e3).1).1,e4,e5⟩,z5⟩
         ·obtain⟨en,h1,h2⟩:=FZ p (JL.subset hp);exact⟨en,h1,h2,by simp⟩
         obtain⟨bf,sc,W,seen,cM,gF,Fj,gm,F8,sT,K8,HU,GO,sV,IU,N9,Oa,BE,BF⟩:=hI;have oS:aK ρ bf:=gm.le hR;have Ph:bD aa nt bf dL a1:=⟨cM.size,cM.tk,gO.mono oS cM.env⟩
         have sP:w1.heap[y.b]? =some (.map ents ck):=by rw[(HU mb List.mem_cons_self _ y qf hy).1];exact Az
         have hμ:μ a1 w1=(ents.toList.filter λe=>!seen.toList.contains e.born).length:=by show(match w1.heap[x.b]? with|some (.mapIter _ _ seen _)=>(ents.toList.filter λ(e:MapEntry)=>!seen.toList.contains e.born).length|_=>0)=_;rw[sV]
         refine wpIn_seq ?_;rcases next_some (P:=P) sV sP iw with ⟨w2,hall,hrun,hsame⟩|⟨en,w2,hen,hnew,hrun,hsame⟩
         ·
          refine ct hF wO yW FA Fg FB FC Fh (vs:= #[.bool false]) (b:=false) rfl (Nat.lt_of_lt_of_le Cw cM.size) (λty=>by rw[nI cM];exact hrun ty) ?_;have hW:W= []:=by
           cases W with
           |nil=>rfl
           |cons p W=>obtain⟨en,h1,_,h3⟩:=BF p List.mem_cons_self;exact(h3 (hall en h1)).elim
          subst hW;obtain⟨_,L7,_⟩:=xX IU;obtain⟨π,K9⟩:=Cc (L7 rfl);obtain⟨Pj,Pk⟩:=yy K9;have eS:Rel P bf sc w2:=Fj.of_heap hsame.heap;have fI:aR ρ s w bf (sc.wl s.ao) w2:=gm.trans (.of_heap hsame.heap hsame.tape hsame.os hsame.out);have u7:Marks n0 bf sc w2 a1.defers:=gF.step (.of_heap hsame.heap hsame.tape hsame.os hsame.out);have F6:HI bf sc w2:= λa ha k x' e1 e2=>by rw[hsame.heap];exact HU a ha k x' e1 e2
          have xw:∀j,(j<L∨f1.nx<=j)->g.get j=wT.h.get j:= λj hj=>by rw[F7];exact xW qg j (hj.imp id λ_=>by omega)
          have S7:∀ {a k},s.h.get a=some k->a<s1.nx:= λ {a k} e=>by rw[sM];exact Nat.lt_of_not_le λhle=>by rw[hR.top a hle]at e;cases e
          obtain⟨aj,FT,Sj,mv⟩:=Gs eS (l:=s.ao) K9 (by omega) Si (by have:=hR.ao;omega) (λa ha=>by rw[xw a (.inr ha)];exact IT.top a (by rw[C5];omega)) oS (λa ha=>hR.dM a (by rw[<-sM];exact ha)) (λa ha=>by rw[sT a ha,xw a (.inl ha)]) (λa k x' ha e1 e2=>by rw[xw a (.inl ha)]at e1;exact ov oS (IT.blk a k x' e1 e2).2 (eS.blk a k x' (by rw[sT a ha];exact e1) (oS _ _ e2)).2) (λa ha=>fI.jj a (by omega))
          have sO:aK ρ aj:= λa x' e=>by
           have:a<s1.nx:=Nat.lt_of_not_le λhle=>by rw[hR.dM a (by omega)]at e;cases e
           rw[FT a this];exact e
          have F9:=iP lW;have gj:∀ {a k x'},a∈mb::od->s1.h.get a=some k->aj a=some x'->ρ a=some x':= λ {a k x'} _ e1 e2=>by rw[<-FT a (FY a k e1)];exact e2
          have N2:Rel P aj ⟨hz,f1.nx,s.ao⟩ w2:=by
           refine qU Sj F9 (λa ha k x' e1 e2=>?_) (λa ha=>?_) (λa ha a' dp k k' x' pH cK e1 e2 r1 r2 hb=>?_)
           ·have Cr:=gj ha e1 e2;obtain⟨z1,z2⟩:=de.blk a k x' e1 Cr;obtain⟨z3,z4⟩:=F6 a ha k x' e1 Cr;refine⟨Nat.lt_of_lt_of_le z1 fI.size,(z2.congr z3).mono sO,λhh=>z4 (mv _ hh),λgg gl vs g1 g2 e=>?_⟩;exact(de.gl gg gl vs g1 g2).2.1 ⟨a,k,x',e1,Cr,e⟩
           ·rcases List.mem_cons.1 ha with rfl|ha
            ·have:=FY _ _ qf;omega
            ·have:=(iH CY a ha).2.2;omega
           ·exact de.aX a a' k k' x' pH cK e1 e2 (gj ha e1 r1) (gj dp e2 r2) hb
          have vy:∀b,aI aj ⟨hz,f1.nx,s.ao⟩ b->aI bf sc b∨∃a k x',a∈mb::od∧s1.h.get a=some k∧ρ a=some x'∧x'.b=b:=by
           rintro b ⟨a,k,x',e1,e2,e3⟩;have e1:hz.get a=some k:=e1;rw[F9]at e1;by_cases hm:a∈mb::od
           ·rw[if_pos hm]at e1;exact .inr ⟨a,k,x',hm,e1,gj hm e1 e2,e3⟩
           ·rw[if_neg hm]at e1;exact .inl (mv _ ⟨a,k,x',e1,e2,e3⟩)
          have N3:aR ρ s w aj ⟨hz,f1.nx,s.ao⟩ w2:=by
           refine⟨λa ha=>FT a (by omega),by show s.nx<=f1.nx;omega,fI.tape,fI.os,fI.out,fI.size,λb hb hn=>?_,λa ha hn=>?_,fI.lp,rfl,λa ha=>?_,fI.fW⟩
           ·obtain⟨z1,z2⟩:=fI.frame b hb hn;refine⟨z1,λhh=>?_⟩;rcases vy b hh with hh|⟨a,k,x',m1,m2,m3,m4⟩
            ·exact z2 hh
            ·exact hn ⟨a,k,x',(CX _ _ m2).1,m3,m4⟩
           ·show hz.get a=s.h.get a∨hz.get a=none;have N4:a≠ib:= λe=>by rw[e,hx]at hn;cases hn
            have Kr:s1.h.get a=s.h.get a:=by rw[yI,if_neg N4]
            rw[F9];by_cases hm:a∈mb::od
            ·rw[if_pos hm,Kr];exact .inl rfl
            ·rw[if_neg hm];have Ob:wT.h.get a=s.h.get a:=by rw[hg2,if_neg hm,Kr]
             by_cases N7:a<L
             ·rw[xw a (.inl N7),Ob];exact .inl rfl
             ·rcases qS Fx a (by omega) (by omega)with hc|hc
              ·rcases fI.ph a ha hn with hp|hp
               ·have hp:sc.h.get a=s.h.get a:=hp;exact(Pj a hc (by rw[hp,<-F7,Ob])).elim
               ·have hp:sc.h.get a=none:=hp;exact .inr (Pk a (by omega) (by omega) hp)
              ·rw[<-hc,<-F7,Ob];exact .inl rfl
           ·show hz.get a=s.h.get a;have ha:a<s.ao:=ha;have hm:a∉mb::od:= λhm=>by have:=Kn a hm;omega
            rw[F9,if_neg hm,xw a (.inl (by omega)),hg2,if_neg hm,yI,if_neg (λe=>by have:=(AS.aT gE).2;omega)]
          rw[zq]at h;cases hp:T.put (some (.bool false)) dL m.t9 with
          |none=>rw[hp]at h;cases h
          |some az=>
           rw[hp,hsz,AA]at h;cases h;have lX:=cM.dV (u:= .tuple #[.bool false]) oT;have AI:=lX.put JI h9 (.bool false) hp;refine wpIn_seq ?_;have Cy:((a1.put (some m.d1) (.tuple #[.bool false])).put (some m.t9) (.bool false)).eval (.tmp m.t9)= .bool false:=cm (aU (Nat.lt_of_lt_of_le h9 lX.size));refine wpIn_cond Cy ?_;refine wpIn_exit ?_;refine hQ aj _ _ ⟨AI.size,AI.tk,gO.mono sO AI.env⟩ ?_ N2 N3;rw[aF,aF];refine u7.re (λd hd=>?_);obtain⟨r,z1,z2,z3,z4,z5⟩:=hd;refine⟨r,z1,z2,z3,λhh=>?_,z5⟩;rcases vy r hh with hh|⟨a,k,x',m1,m2,m3,rfl⟩
           ·exact z4 hh
           ·exact EL (BC a m1 k m2) (((de.blk a k x' m2 m3).2).congr (F6 a m1 k x' m2 m3).1) z2
         ·
          refine ct hF wO yW FA Fg FB FC Fh (vs:= #[.bool true,en.key,en.val]) (b:=true) rfl (Nat.lt_of_lt_of_le Cw cM.size) (λty=>by rw[nI cM];exact hrun ty) ?_;have CZ:Rel P bf sc w2:=Fj.of_heap hsame.heap;generalize hw3:({w2 with heap:=w2.heap.setIfInBounds x.b (.mapIter (some y.b) ck (seen.push en.born) ck)}:World)=w3;have iz:Rel P bf sc w3:=by rw[<-hw3];exact CZ.vu GO (λi=>by simp[World.cell?,hsame.heap,sV])
          have Fq:x.b<w2.heap.size:=by have:=(Array.getElem?_eq_some_iff.1 sV).1;rw[hsame.heap];exact this
          have nK:w3.heap[x.b]? =some (.mapIter (some y.b) ck (seen.push en.born) ck):=by rw[<-hw3];simp[Fq]
          have BK:y.b≠x.b:=Ko mb List.mem_cons_self _ y qf hy;have ej:∀b,b≠x.b->w3.heap[b]? =w1.heap[b]?:= λb hb=>by rw[<-hw3];simp only;rw[Array.getElem?_setIfInBounds_ne (Ne.symm hb),hsame.heap]
          have tQ:w3.heap[y.b]? =some (.map ents ck):=by rw[ej _ BK];exact sP
          have hsz3:w3.heap.size=w1.heap.size:=by rw[<-hw3];simp[hsame.heap]
          have ht3:w3.tape=w1.tape∧w3.os=w1.os∧w3.output=w1.output:=by rw[<-hw3];exact⟨hsame.tape,hsame.os,hsame.out⟩
          have NA:s.ao<=ib:=(AS.aT gE).2;have iA:aR ρ s w bf (sc.wl s.ao) w3:=by
           refine⟨gm.jj,gm.nx,by rw[ht3.1];exact gm.tape,by rw[ht3.2.1];exact gm.os,by rw[ht3.2.2];exact gm.out,by rw[hsz3];exact gm.size,λb hb hn=>?_,gm.ph,λb l hb=>?_,gm.ao,gm.low,λa' k' x' hl hn fE hro eJ=>?_⟩
           ·have ir:b≠x.b:= λe=>hn ⟨ib,_,x,hblk,hx,e.symm⟩;obtain⟨q1,q2⟩:=gm.frame b hb hn;exact⟨by rw[ej b ir];exact q1,q2⟩
           ·have ir:b≠x.b:= λe=>by rw[e,oU]at hb;cases hb
            rw[ej b ir];exact gm.lp b l hb
           ·have ir:x'.b≠x.b:= λe=>by
             have cK:a'≠ib:=by omega
             have:=(hR.aX a' ib k' _ x' x cK fE hblk eJ hx e).1;rw[hro]at this;cases this
            rw[ej _ ir];exact gm.fW a' k' x' hl hn fE hro eJ
          have GM:Marks n0 bf sc w3 a1.defers:=by
           refine gF.re (λd hd=>?_);obtain⟨r,q1,q2,q3,q4,q5⟩:=hd;have Ks:r≠x.b:= λe=>by rw[e,sV]at q2;cases q2
           exact⟨r,q1,by rw[ej r Ks];exact q2,by rw[hsz3];exact q3,q4,q5⟩
          have C0:HI bf sc w3:= λa ha k x' e1 e2=>by rw[ej _ (Ko a ha k x' e1 e2)];exact HU a ha k x' e1 e2
          have Kt:∀l,F.round=some l->∃r,w3.heap[l]? =some (Obj.loop r):=dc hL iA;have Hz:n0.n<=w3.heap.size:=Nat.le_trans eR iA.size;refine wpIn_seq ?_;have lX:=Ph.dV (u:= .tuple #[.bool true,en.key,en.val]) oT;have Cy:((a1.put (some m.d1) (.tuple #[.bool true,en.key,en.val])).put (some m.t9) (.bool true)).eval (.tmp m.t9)= .bool true:=cm (aU (Nat.lt_of_lt_of_le h9 lX.size));refine wpIn_cond Cy ?_;refine wpIn_skip ?_;show(Code.block m.b1 (.seq (.region i2 r2 false) m.body)).wpIn F 0 P _ _ w3;obtain⟨pe,wS,hent⟩:=vw en hen;have Kw:ag bf pe.1 en.key:=by rw[hent.1];have:=hent.2.2.1;rw[hent.1]at this;exact jq this
          have i7:∀(sA:AS) (xx:bY) (tx:T Value) (sx:AS),bO M ev (pe.1,pe.2.1) dL sA= .code xx tx sx->Rel P bf sA w3->Marks n0 bf sA w3 a1.defers->∀Q':Exit->Act->World->Prop,kF P n0 aa nt bf sA w3 xx tx sx Q'->
            (Code.block m.b1 (.seq (.region i2 r2 false) m.body)).wpIn F 0 P Q' ((a1.put (some m.d1) (.tuple #[.bool true,en.key,en.val])).put (some m.t9) (.bool true)) w3:=by
           intro sA xx tx sx dt HO Ku Q' Kv;rw[vX]at dt;cases hp:T.put (some (.bool true)) dL m.t9 with
           |none=>rw[hp]at dt;cases dt
           |some az=>
            rw[hp]at dt;have AI:=lX.put JI h9 (.bool true) hp;have C1:((a1.put (some m.d1) (.tuple #[.bool true,en.key,en.val])).put (some m.t9) (.bool true)).eval (.tmp m.it)= .pointer (some ⟨x.b,0,none⟩):=by
             have C2:m.it≠m.d1:= λe=>by rw[e,oT]at BB;cases BB
             rw[cq (by intro e;exact IE (by injection e)),cq (by intro e;exact C2 (by injection e))];exact nI cM
            exact ko hev hF ID xa Fz Kk GH JH IF Kl (k:=pe.1) (v:=pe.2.1) dt AI Hz (by rw[aF,aF];exact Ku) Kt HO (by rw[C1];exact run_entry nK tQ iw hen) Kw (ag.mono oS hent.2.2.2.1) Kv
          obtain⟨zs,_,L8⟩:=xX IU;have C3:∀ {w':World} {a':Act},w'.heap[x.b]? =some (.mapIter (some y.b) ck (seen.push en.born) ck)->μ a' w'<μ a1 w1:= λ {w' a'} cQ=>by rw[hμ];show(match w'.heap[x.b]? with|some (.mapIter _ _ seen _)=>(ents.toList.filter λ(e:MapEntry)=>!seen.toList.contains e.born).length|_=>0)<_;rw[cQ];simp only[Array.toList_push];exact filter_less ⟨en,hen,rfl⟩ hnew
          have Ho:∀jC∈ents.toList,∀p∈es,bJ P ρ kt p jC->p≠pe->jC.born∈(seen.push en.born).toList∨p∈q.1∨p∈W:= λjC h1 p h2 h3 _=>by rw[Array.toList_push];exact(BE jC h1 p h2 h3).imp (λh=>List.mem_append.2 (.inl h)) id
          have La:∀p∈W,p≠pe->∃jC∈ents.toList,bJ P ρ kt p jC∧jC.born∉(seen.push en.born).toList:= λp hp cK=>by
           obtain⟨jC,h1,h2,h3⟩:=BF p hp;refine⟨jC,h1,h2,λhm=>?_⟩;rw[Array.toList_push]at hm;rcases List.mem_append.1 hm with hm|hm
           ·exact h3 hm
           ·simp only[List.mem_singleton]at hm;have:=ld jC h1 en hen hm;subst this;exact cK (xv p (Oa p hp) pe wS (by rw[h2.1,hent.1]))
          by_cases Oc:pe∈W
          ·
           obtain⟨l1,MZ,KF⟩:=List.append_of_mem Oc;obtain⟨sn,Sk,Pl⟩:=L8 l1 pe MZ KF;obtain⟨tx,dt,mw⟩:=pv Sk;refine i7 sc .normal tx sn dt iz GM _ (λdu a' w' kV nU eT aS=>?_);have C4:=aS.le iz;have L9:s.ao<=sc.ao:=by rw[F8];omega
           have JM:x.b<w3.heap.size:=(Array.getElem?_eq_some_iff.1 nK).1;obtain⟨Sl,Pm⟩:=aS.frame x.b JM GO;have cQ:w'.heap[x.b]? =some (.mapIter (some y.b) ck (seen.push en.born) ck):=by rw[Sl];exact nK
           have IV:∀p∈l1++MZ,p≠pe∧p∈W:= λp hp=>by
            refine⟨λe=>?_,by rw[KF];rcases List.mem_append.1 hp with hp|hp<;>simp[hp]⟩;have dR:=N9;rw[KF,List.map_append,List.map_cons,List.nodup_append]at dR;subst e;rcases List.mem_append.1 hp with hp|hp
            ·exact dR.2.2 p.1 (List.mem_map.2 ⟨p,hp,rfl⟩) p.1 (by simp) rfl
            ·exact(List.nodup_cons.1 dR.2.1).1 (List.mem_map.2 ⟨p,hp,rfl⟩)
           refine⟨⟨du,sn,l1++MZ,seen.push en.born,⟨kV.size,Fi.tk,fZ (λa x' e=>C4 _ _ (oS _ _ e)) cM.env (λt v hv=>kV.env t v (cY mw t v hv))⟩,nU,eT,iA.trans (aS.Hl L9),aS.ao.trans F8,λa ha=>?_,Nat.le_trans K8 aS.nx,λa ha k x' e1 e2=>?_,Pm,cQ,Pl,?_,λp hp=>Oa p (IV p hp).2,λjC h1 p h2 h3=>?_,λp hp=>La p (IV p hp).2 (IV p hp).1⟩,C3 (a':=a') cQ⟩
           ·rw[aS.low a (by rw[F8];exact ha)];exact sT a ha
           ·obtain⟨z1,z2⟩:=C0 a ha k x' e1 e2;obtain⟨z3,z4⟩:=aS.frame x'.b (Nat.lt_of_lt_of_le (de.blk a k x' e1 e2).1 iA.size) z2;exact⟨z3.trans z1,z4⟩
           ·have dR:=N9;rw[KF]at dR;exact dR.sublist (((List.sublist_cons_self pe MZ).append_left l1).map _)
           ·by_cases CA:p=pe
            ·left;rw[CA]at h3;have:jC=en:=Bc jC h1 en hen (h3.1.symm.trans hent.1);rw[this];simp
            ·rcases Ho jC h1 p h2 h3 CA with hc|hc|hc
             ·exact .inl hc
             ·exact .inr (.inl hc)
             ·refine .inr (.inr ?_);rw[KF]at hc;rcases List.mem_append.1 hc with hc|hc
              ·exact List.mem_append.2 (.inl hc)
              ·rcases List.mem_cons.1 hc with hc|hc
               ·exact(CA hc).elim
               ·exact List.mem_append.2 (.inr hc)
          ·
           have KB:pe∈q.1:=by
            rcases BE en hen pe wS hent with hc|hc|hc
            ·exact(hnew hc).elim
            ·exact hc
            ·exact(Oc hc).elim
           obtain⟨tx,sx,dt,mw⟩:=pw (zs pe KB);have GN:Rel P bf ⟨sc.h,sc.nx,sc.nx⟩ w3:=⟨iz.dM,iz.top,iz.blk,Nat.le_refl _,iz.aX,iz.gl⟩
           refine i7 _ .normal tx sx dt GN (GM.re (λ_ h=>h)) _ (λdu a' w' kV nU eT aS=>?_);have hle:=aS.le GN;have jM:∀q,q<sc.nx->sx.h.get q=sc.h.get q:= λq hq=>aS.low q hq;have KD:Rel P bf sc w':=iz.down eT hle jM;have JM:x.b<w3.heap.size:=(Array.getElem?_eq_some_iff.1 nK).1;have yF:w'.heap[x.b]? =w3.heap[x.b]?:=(aS.frame x.b JM GO).1;have cQ:w'.heap[x.b]? =some (.mapIter (some y.b) ck (seen.push en.born) ck):=by rw[yF];exact nK
           have KE:aR bf (sc.wl s.ao) w3 bf (sc.wl s.ao) w':=by
            refine⟨λ_ _=>rfl,Nat.le_refl _,aS.tape,aS.os,aS.out,aS.size,λb hb hn=>⟨(aS.frame b hb hn).1,hn⟩,λ_ _ _=> .inl rfl,aS.lp,rfl,λ_ _=>rfl,λq k' x' hl hn fE hro eJ=>?_⟩;have hl:q<s.ao:=hl;have HQ:s.ao<=sc.nx:=by have:=hR.ao;omega
            exact aS.fW q k' x' (Nat.lt_of_lt_of_le hl HQ) hn fE hro eJ
           refine⟨⟨bf,sc,W,seen.push en.born,⟨kV.size,Fi.tk,fZ (λa x' e=>hle _ _ (oS _ _ e)) cM.env (λt v hv=>kV.env t v (cY mw t v hv))⟩,(nU.re (λd hd=>?_)),KD,iA.trans KE,F8,sT,K8,λa ha k x' e1 e2=>?_,GO,cQ,IU,N9,Oa,λjC h1 p h2 h3=>?_,λp hp=>La p hp (λe=>Oc (by rw[<-e];exact hp))⟩,C3 (a':=a') cQ⟩
           ·obtain⟨r,q1,q2,q3,q4,q5⟩:=hd;exact⟨r,q1,q2,q3,λhh=>q4 (hh.up iz hle jM),q5⟩
           ·obtain⟨z1,z2⟩:=C0 a ha k x' e1 e2;exact⟨((aS.frame x'.b (Nat.lt_of_lt_of_le (de.blk a k x' e1 e2).1 iA.size) z2).1).trans z1,z2⟩
           ·by_cases CA:p=pe
            ·exact .inr (.inl (by rw[CA];exact KB))
            ·exact Ho jC h1 p h2 h3 CA
      |some found=>
       rw[JJ]at h;obtain⟨Sm,_,Sn⟩:=gL JJ;have Lb:∀(a1:Act) (w2:World) (KG:Value),bD aa nt ρ dL a1->Marks n0 ρ s1 w2 a1.defers->Rel P ρ s1 w2->aR ρ s w ρ s1 w2->found=none->∀QL:Exit->Act->World->Prop,QL (.exit m.b0)=Q (.exit m.b0)->
         (Code.seq (.cond (.tmp m.t9) .skip (.exit m.b0)) (.block m.b1 (.seq (.region i2 r2 false) m.body))).wpIn F 0 P QL ((a1.put (some m.d1) KG).put (some m.t9) (.bool false)) w2:=by
        intro a1 w2 KG cM gF eS fI hf QL So;subst hf;have h:gY M dL s1= .code e tm' s':=h;rw[zq]at h;cases hp:T.put (some (.bool false)) dL m.t9 with
        |none=>rw[hp]at h;cases h
        |some az=>rw[hp]at h;cases h;have AI:=(cM.dV (u:=KG) oT).put JI h9 (.bool false) hp;refine wpIn_seq ?_;have Cy:((a1.put (some m.d1) KG).put (some m.t9) (.bool false)).eval (.tmp m.t9)= .bool false:=cm (aU (Nat.lt_of_lt_of_le h9 (cM.dV (u:=KG) oT).size));refine wpIn_cond Cy ?_;refine wpIn_exit ?_;show QL (.exit m.b0) _ _;rw[So];exact hQ ρ _ _ AI (by rw[aF,aF];exact gF) eS fI
       rcases oU with ⟨rfl,oU⟩|⟨mb,y,rfl,hy,oU⟩
       ·
        have hes:some []=some es:=hes;cases hes;have hf:found=none:=by have JJ:some none=some found:=JJ;cases JJ;rfl
        let I:Act->World->Prop:= λa1 w1=>bD aa nt ρ dL a1∧Marks n0 ρ s1 w1 a1.defers∧Rel P ρ s1 w1∧aR ρ s w ρ s1 w1∧w1.heap[x.b]? =some (.mapIter none 0 #[] 0)
        refine wpIn_loop I (λ_ _=>0) ⟨Fi,hM.step dq,de,dq,oU⟩ (λa1 w1 hI=>?_);obtain⟨cM,gF,Fj,gm,sV⟩:=hI;refine wpIn_seq ?_;refine ct hF wO yW FA Fg FB FC Fh (vs:= #[.bool false]) (b:=false) rfl (Nat.lt_of_lt_of_le Cw cM.size) (λty=>by rw[nI cM];exact EH sV) ?_;exact Lb a1 w1 _ cM gF Fj gm hf _ rfl
       ·
        have hes:mapOf (s.h.get mb) (λ_ es ck'=>ab (Nat.beq ck ck') (some es) none)=some es:=hes;replace hes:=bj hes;obtain⟨kt,bc,ck',EZ,hes⟩:=hes;replace hes:=ae hes;obtain⟨yX,hes⟩:=hes;replace yX:=Nat.eq_of_beq_eq_true yX;subst yX;cases hes;have hne:mb≠ib:= λe=>by rw[e,hblk]at EZ;cases EZ
        have qf:s1.h.get mb=some (.map kt es ck):=by rw[(AS.cD gE).2,if_neg hne];exact EZ
        obtain⟨IG,ents,Az,eI,iw⟩:=hR.blk mb _ y EZ hy;have Hp:mb<s1.nx:=by rw[sM];exact Nat.lt_of_not_le λhle=>by rw[hR.dM mb hle]at hy;cases hy
        have vw:∀e∈ents.toList,∃p∈es,bJ P ρ kt p e:= λe he=>by obtain⟨l,hp,hf,_⟩:=eI;exact F2.bZ hf e (hp.mem_iff.2 he)
        have FZ:∀p∈es,∃e∈ents.toList,bJ P ρ kt p e:= λp hp=>by obtain⟨l,Cx,hf,_⟩:=eI;obtain⟨gk,fk,rfl⟩:=List.append_of_mem hp;obtain⟨m1,b,m2,rfl,_,hr,_⟩:=hf.split;exact⟨b,Cx.mem_iff.1 (by simp),hr⟩
        have xv:∀p∈es,∀q∈es,p.1=q.1->p=q:= λp hp q hq e=>by
         obtain⟨l,Cx,hf,dR⟩:=eI;obtain⟨gk,fk,rfl⟩:=List.append_of_mem hp;rw[List.map_append,List.map_cons,List.nodup_append]at dR;rcases List.mem_append.1 hq with hq|hq
         ·exact(dR.2.2 q.1 (List.mem_map.2 ⟨q,hq,rfl⟩) p.1 (by simp) e.symm).elim
         ·rcases List.mem_cons.1 hq with rfl|hq
          ·rfl
          ·exact((List.nodup_cons.1 dR.2.1).1 (by rw[e];exact List.mem_map.2 ⟨q,hq,rfl⟩)).elim
        have ld:∀e∈ents.toList,∀e'∈ents.toList,e.born=e'.born->e=e':= λe he e' fP hb=>by
         obtain⟨t1,t2,ht⟩:=List.append_of_mem he;have dR:=iw.1;rw[ht]at fP dR;rw[List.map_append,List.map_cons,List.nodup_append]at dR;rcases List.mem_append.1 fP with fP|fP
         ·exact(dR.2.2 e'.born (List.mem_map.2 ⟨e',fP,rfl⟩) e.born (by simp) hb.symm).elim
         ·rcases List.mem_cons.1 fP with rfl|fP
          ·rfl
          ·exact((List.nodup_cons.1 dR.2.1).1 (by rw[hb];exact List.mem_map.2 ⟨e',fP,rfl⟩)).elim
        let Pn:MapEntry->Prop:= λe=>∃p∈es,bJ P ρ kt p e∧Bb M ev dL s1 p
        let I:Act->World->Prop:= λa1 w1=>bD aa nt ρ dL a1∧Marks n0 ρ s1 w1 a1.defers∧Rel P ρ s1 w1∧aR ρ s w ρ s1 w1∧w1.heap[y.b]? =some (.map ents ck)∧
         ∃seen:Array Nat,w1.heap[x.b]? =some (.mapIter (some y.b) ck seen ck)∧∀e∈ents.toList,e.born∈seen.toList->Pn e
        let μ:Act->World->Nat:= λ_ w1=>match w1.heap[x.b]? with|some (.mapIter _ _ seen _)=>(ents.toList.filter λ(e:MapEntry)=>!seen.toList.contains e.born).length|_=>0
        refine wpIn_loop I μ ⟨Fi,hM.step dq,de,dq,Az,#[],oU,λe _ h=>by simp at h⟩ (λa1 w1 hI=>?_);obtain⟨cM,gF,Fj,gm,sP,seen,sV,mu⟩:=hI;have hμ:μ a1 w1=(ents.toList.filter λe=>!seen.toList.contains e.born).length:=by show(match w1.heap[x.b]? with|some (.mapIter _ _ seen _)=>(ents.toList.filter λ(e:MapEntry)=>!seen.toList.contains e.born).length|_=>0)=_;rw[sV]
        refine wpIn_seq ?_;rcases next_some (P:=P) sV sP iw with ⟨w2,hall,hrun,hsame⟩|⟨en,w2,hen,hnew,hrun,hsame⟩
        ·refine ct hF wO yW FA Fg FB FC Fh (vs:= #[.bool false]) (b:=false) rfl (Nat.lt_of_lt_of_le Cw cM.size) (λty=>by rw[nI cM];exact hrun ty) ?_;have hf:found=none:=by
          cases Cz:found with
          |none=>rfl
          |some o=>
           exfalso;rcases Sn o Cz with h|⟨p,hp,aP⟩
           ·cases h
           ·obtain⟨e1,AG,Po⟩:=FZ p hp;obtain⟨p',nT,er,⟨⟨tA,sA,Ma⟩,_⟩⟩:=mu e1 AG (hall e1 AG);have:p'=p:=xv p' nT p hp (by rw[er.1,Po.1]);subst this;obtain⟨ho,xx,t3,s3,Hx,GO⟩:=aP;rw[Ma,Hx]at ho;cases ho;exact GO rfl
         exact Lb a1 w2 _ cM (gF.step (.of_heap hsame.heap hsame.tape hsame.os hsame.out)) (Fj.of_heap hsame.heap) (gm.trans (.of_heap hsame.heap hsame.tape hsame.os hsame.out)) hf _ rfl
        ·refine ct hF wO yW FA Fg FB FC Fh (vs:= #[.bool true,en.key,en.val]) (b:=true) rfl (Nat.lt_of_lt_of_le Cw cM.size) (λty=>by rw[nI cM];exact hrun ty) ?_;have CZ:Rel P ρ s1 w2:=Fj.of_heap hsame.heap;have S8:aR ρ s1 w1 ρ s1 w2:= .of_heap hsame.heap hsame.tape hsame.os hsame.out;generalize hw3:({w2 with heap:=w2.heap.setIfInBounds x.b (.mapIter (some y.b) ck (seen.push en.born) ck)}:World)=w3;have iz:Rel P ρ s1 w3:=by rw[<-hw3];exact CZ.vu Fe (λi=>by simp[World.cell?,hsame.heap,sV])
         have Fq:x.b<w2.heap.size:=by have:=(Array.getElem?_eq_some_iff.1 sV).1;rw[hsame.heap];exact this
         have nK:w3.heap[x.b]? =some (.mapIter (some y.b) ck (seen.push en.born) ck):=by rw[<-hw3];simp[Fq]
         have BK:y.b≠x.b:= λe=>Fe ⟨mb,_,y,qf,hy,e⟩;have tQ:w3.heap[y.b]? =some (.map ents ck):=by rw[<-hw3];simp only;rw[Array.getElem?_setIfInBounds_ne (Ne.symm BK),hsame.heap];exact sP
         have ej:∀b,b≠x.b->w3.heap[b]? =w1.heap[b]?:= λb hb=>by rw[<-hw3];simp only;rw[Array.getElem?_setIfInBounds_ne (Ne.symm hb),hsame.heap]
         have hsz3:w3.heap.size=w1.heap.size:=by rw[<-hw3];simp[hsame.heap]
         have ht3:w3.tape=w1.tape∧w3.os=w1.os∧w3.output=w1.output:=by rw[<-hw3];exact⟨hsame.tape,hsame.os,hsame.out⟩
         have NA:s.ao<=ib:=(AS.aT gE).2;have Mb:w.heap[x.b]? =some (.mapIter (some y.b) ck #[] ck):=oU;have iA:aR ρ s w ρ s1 w3:=by
          refine⟨gm.jj,gm.nx,by rw[ht3.1];exact gm.tape,by rw[ht3.2.1];exact gm.os,by rw[ht3.2.2];exact gm.out,by rw[hsz3];exact gm.size,λb hb hn=>?_,gm.ph,λb l hb=>?_,gm.ao,gm.low,λa' k' x' hl hn fE hro eJ=>?_⟩
          ·have ir:b≠x.b:= λe=>hn ⟨ib,_,x,hblk,hx,e.symm⟩;obtain⟨q1,q2⟩:=gm.frame b hb hn;exact⟨by rw[ej b ir];exact q1,q2⟩
          ·have ir:b≠x.b:= λe=>by rw[e,Mb]at hb;cases hb
           rw[ej b ir];exact gm.lp b l hb
          ·have ir:x'.b≠x.b:= λe=>by
            have cK:a'≠ib:=by omega
            have:=(hR.aX a' ib k' _ x' x cK fE hblk eJ hx e).1;rw[hro]at this;cases this
           rw[ej _ ir];exact gm.fW a' k' x' hl hn fE hro eJ
         have GM:Marks n0 ρ s1 w3 a1.defers:=by
          refine gF.re (λd hd=>?_);obtain⟨r,q1,q2,q3,q4,q5⟩:=hd;have Ks:r≠x.b:= λe=>by rw[e,sV]at q2;cases q2
          exact⟨r,q1,by rw[ej r Ks];exact q2,by rw[hsz3];exact q3,q4,q5⟩
         have Kt:∀l,F.round=some l->∃r,w3.heap[l]? =some (Obj.loop r):=dc hL iA;have Hz:n0.n<=w3.heap.size:=Nat.le_trans eR iA.size;refine wpIn_seq ?_;have lX:=cM.dV (u:= .tuple #[.bool true,en.key,en.val]) oT;have Cy:((a1.put (some m.d1) (.tuple #[.bool true,en.key,en.val])).put (some m.t9) (.bool true)).eval (.tmp m.t9)= .bool true:=cm (aU (Nat.lt_of_lt_of_le h9 lX.size));refine wpIn_cond Cy ?_;refine wpIn_skip ?_;show(Code.block m.b1 (.seq (.region i2 r2 false) m.body)).wpIn F 0 P _ _ w3;obtain⟨pe,wS,hent⟩:=vw en hen;have Kw:ag ρ pe.1 en.key:=by rw[hent.1];have:=hent.2.2.1;rw[hent.1]at this;exact jq this
         have i7:∀(sA:AS) (xx:bY) (tx:T Value) (sx:AS),bO M ev (pe.1,pe.2.1) dL sA= .code xx tx sx->Rel P ρ sA w3->Marks n0 ρ sA w3 a1.defers->∀Q':Exit->Act->World->Prop,kF P n0 aa nt ρ sA w3 xx tx sx Q'->
           (Code.block m.b1 (.seq (.region i2 r2 false) m.body)).wpIn F 0 P Q' ((a1.put (some m.d1) (.tuple #[.bool true,en.key,en.val])).put (some m.t9) (.bool true)) w3:=by
          intro sA xx tx sx dt HO Ku Q' Kv;rw[vX]at dt;cases hp:T.put (some (.bool true)) dL m.t9 with
          |none=>rw[hp]at dt;cases dt
          |some az=>
           rw[hp]at dt;have AI:=lX.put JI h9 (.bool true) hp;have C1:((a1.put (some m.d1) (.tuple #[.bool true,en.key,en.val])).put (some m.t9) (.bool true)).eval (.tmp m.it)= .pointer (some ⟨x.b,0,none⟩):=by
            have C2:m.it≠m.d1:= λe=>by rw[e,oT]at BB;cases BB
            rw[cq (by intro e;exact IE (by injection e)),cq (by intro e;exact C2 (by injection e))];exact nI cM
           exact ko hev hF ID xa Fz Kk GH JH IF Kl (k:=pe.1) (v:=pe.2.1) dt AI Hz (by rw[aF,aF];exact Ku) Kt HO (by rw[C1];exact run_entry nK tQ iw hen) Kw hent.2.2.2.1 Kv
         rcases Sm pe wS with cB|⟨o,yH,aP⟩
         ·have Pp:=cB;obtain⟨_,tx,sx,dt,mw⟩:=Pp;have GN:Rel P ρ ⟨s1.h,s1.nx,s1.nx⟩ w3:=⟨iz.dM,iz.top,iz.blk,Nat.le_refl _,iz.aX,iz.gl⟩
          refine i7 _ .normal tx sx dt GN (GM.re (λ_ h=>h)) _ (λaj a' w' kV nU eT aS=>?_);have hle:=aS.le GN;have jM:∀q,q<s1.nx->sx.h.get q=s1.h.get q:= λq hq=>aS.low q hq;have KD:Rel P ρ s1 w':=iz.down eT hle jM;have yF:w'.heap[x.b]? =w3.heap[x.b]?:=(aS.frame x.b (by rw[hsz3];exact(Array.getElem?_eq_some_iff.1 sV).1) Fe).1;have Sq:w'.heap[y.b]? =w3.heap[y.b]?:=aS.fW mb _ y Hp Hp qf rfl hy;have KE:aR ρ s1 w3 ρ s1 w':=by refine⟨λ_ _=>rfl,Nat.le_refl _,aS.tape,aS.os,aS.out,aS.size,λb hb hn=>⟨(aS.frame b hb hn).1,hn⟩,λ_ _ _=> .inl rfl,aS.lp,rfl,λ_ _=>rfl,λq k' x' hl hn fE hro eJ=>?_⟩;exact aS.fW q k' x' (Nat.lt_of_lt_of_le hl iz.ao) hn fE hro eJ
          have cQ:w'.heap[x.b]? =some (.mapIter (some y.b) ck (seen.push en.born) ck):=by rw[yF];exact nK
          refine⟨⟨⟨kV.size,Fi.tk,fZ hle cM.env (λt v hv=>kV.env t v (cY mw t v hv))⟩,(nU.re (λd hd=>?_)),KD,iA.trans KE,by rw[Sq];exact tQ,_,cQ,λe1 AG wX=>?_⟩,?_⟩
          ·obtain⟨r,q1,q2,q3,q4,q5⟩:=hd;exact⟨r,q1,q2,q3,λhh=>q4 (hh.up iz hle jM),q5⟩
          ·rw[Array.toList_push]at wX;rcases List.mem_append.1 wX with wX|wX
           ·exact mu e1 AG wX
           ·simp only[List.mem_singleton]at wX;have:=ld e1 AG en hen wX;subst this;exact⟨pe,wS,hent,cB⟩
          ·rw[hμ];show(match w'.heap[x.b]? with|some (.mapIter _ _ seen _)=>(ents.toList.filter λ(e:MapEntry)=>!seen.toList.contains e.born).length|_=>0)<_;rw[cQ];simp only[Array.toList_push];exact filter_less ⟨en,hen,rfl⟩ hnew
         ·obtain⟨ho,xx,t3,s3,rfl,GO⟩:=aP;subst yH;have h:Out.code xx t3 s3= .code e tm' s':=h;cases h;refine i7 s1 e tm' s' ho iz GM _ (λaj a' w' kV nU eT aS=>?_);have:=hQ aj a' w' kV nU eT (iA.trans aS);cases e with
          |normal=>exact(GO rfl).elim
          |exit id=>exact this
          |goto l=>exact this
          |ret=>exact this
   ·cases h
  ·cases h
end Go.Eng
namespace Go.Eng
open Go
variable {P:Program}
theorem DL {aa nt:Nat} (c:Code):cV P aa nt c (λ_ _ _=> .no):= λev hev F hF ρ tm s a w x tm' s' h=>by cases h
theorem Ce {o:Option CF} {f:CF} (h:Ih o=some f):o=some f∨f= λ_ _ _=> .no:=by
 cases o with
 |none=>cases h;exact .inr rfl
 |some g=>cases h;exact .inl rfl
theorem EN (hP:Plainly P) (hm:P.follows .mixedOrders=true) {aa nt fn:Nat}:∀(n:Nat) (c:Code) (f:CF),fm P fn nt aa n c=some f->cV P aa nt c f:=by
 intro n;induction n with
 |zero=>intro c f h;cases h
 |succ n ih=>
  intro c;cases c with
  |skip=>intro f h;cases h;exact Gj
  |region id ops draw=>
   intro f h;have h:Ih (ab draw (Ig (qs P aa nt ops.toList λst last=>some (tI st last)) (mC P aa nt ops.toList)) (ob (dD P aa nt ops.toList ops.toList []) An))=some f:=h;rcases Ce h with h|rfl
   ·cases draw with
    |true=>
     have h:Ig (qs P aa nt ops.toList λst last=>some (tI st last)) (mC P aa nt ops.toList)=some f:=h;cases e:(qs P aa nt ops.toList λst last=>some (tI st last))with
     |none=>rw[e]at h;exact EG hm h
     |some g=>rw[e]at h;cases h;exact Gq hm e
    |false=>obtain⟨l,hl,h⟩:=U h;rw[Ex]at h;cases h;exact su hl
   ·exact DL _
  |seq a b=>intro f h;have h:ob (fm P fn nt aa n a) (λa=>ob (fm P fn nt aa n b) λb=>some (CE a b))=some f:=h;obtain⟨fa,ha,h⟩:=U h;obtain⟨fb,hb,h⟩:=U h;cases h;exact Ed (ih a fa ha) (ih b fb hb)
  |cond c a b=>intro f h;have h:ob (bz aa [] c) (λc=>ob (fm P fn nt aa n a) λa=>ob (fm P fn nt aa n b) λb=>some (xj c a b))=some f:=h;obtain⟨fc,hc,h⟩:=U h;obtain⟨fa,ha,h⟩:=U h;obtain⟨fb,hb,h⟩:=U h;cases h;exact A5 hc (ih a fa ha) (ih b fb hb)
  |block id a=>intro f h;have h:ob (fm P fn nt aa n a) (λa=>some (qt id a))=some f:=h;obtain⟨fa,ha,h⟩:=U h;cases h;exact xL (ih a fa ha)
  |loop a=>
   intro f h;have h:(match jQ a with
    |some m=>kM P nt aa (fm P fn nt aa n) (AR a) m
    |none=>ob (fm P fn nt aa n a) λa=>some (Dv a))=some f:=h
   split at h
   ·rename_i m hs;exact z6 hs h (λc cf hc=>ih c cf hc)
   ·obtain⟨fa,ha,h⟩:=U h;cases h;exact Gm (ih a fa ha)
  |rangeFunc g ps I2 bd=>intro f h;have h:ob (bz aa [] g) (λf=>ab (sG (λp=>Nat.blt p nt) ps.toList) (some (lG P fn nt aa f ps.toList I2 bd)) none)=some f:=h;obtain⟨fg,hg,h⟩:=U h;obtain⟨sN,h⟩:=ae h;cases h;exact wJ hP hg λp hp=>Nat.le_of_ble_eq_true (eV sN p hp)
  |exit id=>intro f h;cases h;exact Gk id
  |scope a=>intro f h;have h:ob (fm P fn nt aa n a) (λa=>some (qu a))=some f:=h;obtain⟨fa,ha,h⟩:=U h;cases h;exact xK (ih a fa ha)
  |label l=>intro f h;cases h;exact ED l
  |goto l=>intro f h;cases h;exact Gl l
  |ret=>intro f h;cases h;exact Jb
  |refuse w=>intro f h;cases h;exact DL _
theorem dJ (hP:Plainly P) (hm:P.follows .mixedOrders=true) {aa nt fn:Nat} (c:Code) (f:CF) (h:dv P fn nt aa c=some f):cV P aa nt c f:=EN hP hm 1000 c f h
def kG (tmps:Array Value):ResultVar->Sem Value
 | .tmp t=>pure (tmps.getD t undef)
 | .cell a t=>do loadVar t (<-asAddr (tmps.getD a undef))
theorem z7 {ρ:Ren} {s:AS} {w:World} {tm:T Value} {tmps:Array Value} {r:ResultVar} {v:Value} (hR:Rel P ρ s w) (hE:gO ρ tm tmps) (h:vM P s tm r=some v):∃u,(kG tmps r).run P w= .ok u w∧ag ρ v u:=by
 cases r with
 |tmp t=>have h:tm.get t=some v:=h;obtain⟨u,hu,hv⟩:=hE t v h;refine⟨u,?_,hv⟩;show Sem.run P (pure (tmps.getD t undef)) w=_;rw[Array.getD_eq_getD_getElem?,hu];rfl
 |cell a t=>
  have h:ob (tm.get a) (λa=>tG P t s a)=some v:=h;obtain⟨p,hp,h⟩:=U h;obtain⟨u,hu,hv⟩:=hE a p hp;obtain⟨r,h1,h2⟩:=oY hR h hv;refine⟨r,?_,h2⟩;unfold tG at h;split at h
  ·cases hv with| @ptr _ x off hx=>?_
   have e1:(Instr.loadAt t (.pointer (some ⟨x.b,x.base+off,none⟩)))=loadVar t ⟨x.b,x.base+off,none⟩:=rfl;show Sem.run P (do loadVar t (<-asAddr (tmps.getD a undef))) w=_;rw[Array.getD_eq_getD_getElem?,hu];rw[e1]at h1;exact h1
  ·unfold xh at h;split at h
   ·rename_i g off _;cases hv with| @lY g off=>?_
    have e1:(Instr.loadAt t (.pointer (some ⟨g,off,none⟩)))=loadVar t ⟨g,off,none⟩:=rfl;show Sem.run P (do loadVar t (<-asAddr (tmps.getD a undef))) w=_;rw[Array.getD_eq_getD_getElem?,hu];rw[e1]at h1;exact h1
   ·cases h
theorem uB {ρ:Ren} {s:AS} {w:World} {tm:T Value} {tmps:Array Value} (hR:Rel P ρ s w) (hE:gO ρ tm tmps):∀(l:List ResultVar) (vs:List Value),jR P s tm l=some vs->∃us,(l.mapM (kG tmps)).run P w= .ok us w∧af ρ vs us
 | [],vs,h=>by have h:some []=some vs:=h;cases h;exact⟨[],rfl,.nil⟩
 |r::l,vs,h=>by have h:ob (vM P s tm r) (λv=>ob (jR P s tm l) λl=>some (v::l))=some vs:=h;obtain⟨v,hv,h⟩:=U h;obtain⟨Hw,wY,h⟩:=U h;cases h;obtain⟨u,h1,h2⟩:=z7 hR hE hv;obtain⟨us,h3,h4⟩:=uB hR hE l Hw wY;refine⟨u::us,?_,.cons h2 h4⟩;rw[List.mapM_cons];simp only[Sem.run_bind,h1,Result.andThen_ok,h3,Sem.run_pure]
theorem z8 (fn:Func) (tmps:Array Value):results fn tmps=(do let vs<-fn.results.mapM (kG tmps);pure (if h:vs.size=1 then vs[0]else .tuple vs)):=by unfold results;congr 1
theorem rT {ρ:Ren} {s s':AS} {w:World} {tm:T Value} {tmps:Array Value} {fn:Func} {v:Value} (hR:Rel P ρ s w) (hE:gO ρ tm tmps) (h:vn P fn.results.toList tm s= .val v s'):s'=s∧∃u,(results fn tmps).run P w= .ok u w∧ag ρ v u:=by
 have h:Option.rec (motive:= λ_=>Out) .no (λvs=>match vs with
  | [v]=> .val v s
  |vs=> .val (.tuple ⟨vs⟩) s) (jR P s tm fn.results.toList)= .val v s':=h
 cases hr:jR P s tm fn.results.toList with
 |none=>rw[hr]at h;cases h
 |some vs=>
  rw[hr]at h;obtain⟨us,h1,h2⟩:=uB hR hE _ _ hr;have hrun:(fn.results.mapM (kG tmps)).run P w= .ok us.toArray w:=by
   rw[Array.mapM_eq_mapM_toList];have:(Functor.map List.toArray (fn.results.toList.mapM (kG tmps)))=(do let l<-fn.results.toList.mapM (kG tmps);pure l.toArray):=by rw[map_eq_pure_bind]
   rw[this];simp only[Sem.run_bind,h1,Result.andThen_ok,Sem.run_pure]
  rw[z8];simp only[Sem.run_bind,hrun,Result.andThen_ok,Sem.run_pure];have hl:=h2.length
  match vs,us,h2,h with
  | [v'],[u'],.cons hv .nil,h=>cases h;exact⟨rfl,u',rfl,hv⟩
  | [],[],h2,h=>cases h;exact⟨rfl,.tuple #[],rfl,.tuple .nil⟩
  |v1::v2::vs,u1::u2::us,h2,h=>cases h;refine⟨rfl,.tuple (u1::u2::us).toArray,?_,.tuple h2⟩;simp
theorem run_takeDeferred {r:Nat} {w:World} (h:w.heap[r]? =some (.deferred (some []))):(Instr.takeDeferred r).run P w= .ok [] {w with heap:=w.heap.setIfInBounds r (.deferred none)}:=by simp only[Instr.takeDeferred,Sem.run_bind,au h (by simp),Result.andThen_ok,aQ h (by simp),Sem.run_pure]
theorem uC {F:Fence} {fn:Func} {tmps:Array Value} {R:Ending->World->Prop} {n0:Nat} {cx ρ:Ren} {s0 s:AS} {w0:World} (eR:n0=w0.heap.size) (Od:List Deferred)
  (hQ:∀w,Rel P ρ s w->aR cx s0 w0 ρ s w->LeavesInM F 0 P fn tmps R Od .returning w):∀(ds:List Deferred) (w:World),(∀d∈ds,∃r,d.target= .collected r∧w.heap[r]? =some (.deferred (some []))∧r<w.heap.size∧¬aI ρ s r∧n0<=r)->(ds.Pairwise λd d'=>∀r,d.target= .collected r->d'.target≠.collected r)->Rel P ρ s w->aR cx s0 w0 ρ s w->LeavesInM F 0 P fn tmps R (ds++Od) .returning w
 | [],w,_,_,hR,hS=>hQ w hR hS
 |d::ds,w,Fa,tC,hR,hS=>by
  obtain⟨r,h1,h2,h3,h4,h5⟩:=Fa d (by simp);refine⟨by simp,.inl ⟨r,_,h1,run_takeDeferred h2,uC eR Od hQ ds _ (λd' sQ=>?_) (List.pairwise_cons.1 tC).2 (hR.vu h4 (λi=>by simp[World.cell?,h2])) ?_⟩⟩
  ·obtain⟨r',e1,e2,e3,e4,e5⟩:=Fa d' (by simp[sQ]);have hne:r≠r':= λe=>(List.pairwise_cons.1 tC).1 d' sQ r h1 (by rw[e1,e]);exact⟨r',e1,by simp[hne,e2],by simpa using e3,e4,e5⟩
  ·refine⟨hS.jj,hS.nx,hS.tape,hS.os,hS.out,by simpa using hS.size,λb hb hn=>?_,hS.ph,λb l hb=>?_,hS.ao,hS.low,λa k x hl hn hk hro hx=>?_⟩
   ·obtain⟨a1,a2⟩:=hS.frame b hb hn;have hne:r≠b:=by omega
    exact⟨by simp[hne,a1],a2⟩
   ·obtain⟨r',er⟩:=hS.lp b l hb;have hne:r≠b:= λe=>by rw[e,er]at h2;cases h2
    exact⟨r',by simp[hne,er]⟩
   ·have hne:r≠x.b:= λe=>h4 ⟨a,k,x,by rw[hS.low a hl];exact hk,by rw[hS.jj a hn];exact hx,e.symm⟩;rw[<-hS.fW a k x hl hn hk hro hx];simp[hne]
theorem wK {F:Fence} {fn:Func} {tmps:Array Value} {R:Ending->World->Prop} {cx ρ:Ren} {s0 s:AS} {w0:World} {v:Value} (hv:∀w,Rel P ρ s w->∃u,(results fn tmps).run P w= .ok u w∧ag ρ v u)
  (hQ:∀u w,ag ρ v u->Rel P ρ s w->aR cx s0 w0 ρ s w->R (.returned u) w) (ds:List Deferred) (w:World) (hM:Marks ⟨w0.heap.size,[]⟩ ρ s w ds) (hR:Rel P ρ s w) (hS:aR cx s0 w0 ρ s w):LeavesInM F 0 P fn tmps R ds .returning w:=by
 obtain⟨ms,he,Fa,tC⟩:=hM.own;rw[he];exact uC (n0:=w0.heap.size) rfl _ (λw hR hS=>by obtain⟨u,h1,h2⟩:=hv w hR;exact⟨u,h1,hQ u w h2 hR hS⟩) ms w Fa tC hR hS
theorem pz {aa i:Nat} {v:Value} {t t':T Value} (h:mF aa i v t=some t'):∀j,t'.get j=if kept aa i=true∧j=i then some v else t.get j:=by
 have h:ab (kept aa i) (T.put (some v) t i) (some t)=some t':=h;cases hk:kept aa i with
 |true=>rw[hk,bF]at h;intro j;rw[T.bu _ _ _ _ h j];simp
 |false=>rw[hk,bS]at h;cases h;intro j;simp
theorem kq {aa:Nat}:∀(l:List Value) (i:Nat) (t t':T Value),mG aa l i t=some t'->∀j v,t'.get j=some v->(kept aa j=true∧i<=j∧l[j-i]? =some v)∨t.get j=some v
 | [],i,t,t',h,j,v,hv=>by have h:some t=some t':=h;cases h;exact .inr hv
 |a::l,i,t,t',h,j,v,hv=>by
  have h:ob (mF aa i a t) (λt'=>mG aa l (Nat.succ i) t')=some t':=h;obtain⟨t1,h1,h⟩:=U h;rcases kq l _ _ _ h j v hv with ⟨e1,e2,e3⟩|e
  ·refine .inl ⟨e1,by omega,?_⟩;rw[show j-i=(j-(i+1))+1 by omega];simpa using e3
  ·rw[pz h1]at e;split at e
   ·rename_i hc;cases e;obtain⟨hk,rfl⟩:=hc;exact .inl ⟨hk,by omega,by simp⟩
   ·exact .inr e
theorem El {f aa:Nat} {fn:Func} {c:Code} (hf:P.funcs[f]? =some fn) (hb:fn.body=some c) {t0:T Value} (fQ:mkT fn.ntmps=some t0) {b:CF} (hc:cV P aa fn.ntmps c b)
  {ev:Ev} (hev:EvOk P ev) {args aq:List Value} {s s':AS} {v:Value} (h:JT P aa t0 fn.results.toList b ev args s= .val v s') {ρ:Ren} {w:World} (hR:Rel P ρ s w) (ha:af ρ args aq):
  CallsIn Fence.wide 0 P f aq.toArray w λe w'=>∃u,e= .returned u∧∃aj,ag aj v u∧Rel P aj s' w'∧aR ρ s w aj s' w':=by
 have h:Option.rec (motive:= λ_=>Out) .no (λtm=>nY P fn.results.toList (b ev tm s)) (mG aa args 0 t0)= .val v s':=h;cases hp:mG aa args 0 t0 with
 |none=>rw[hp]at h;cases h
 |some tm=>
  rw[hp]at h;have h:nY P fn.results.toList (b ev tm s)= .val v s':=h;have hlen:=ha.length;have hE:bD aa fn.ntmps ρ tm {tmps:=aq.toArray++Array.replicate (fn.ntmps-aq.toArray.size) undef,defers:= []}:=by
   refine⟨by simp;omega,λt v hv=>?_,λt v hv=>?_⟩
   ·rcases kq _ _ _ _ hp t v hv with ⟨h1,_,_⟩|h1
    ·exact h1
    ·rw[AW _ _ fQ]at h1;cases h1
   ·rcases kq _ _ _ _ hp t v hv with ⟨_,_,h1⟩|h1
    ·obtain⟨u,hu,eu⟩:=ha.get h1;refine⟨u,?_,eu⟩;have hlt:t<aq.length:=by
      have:=(List.getElem?_eq_some_iff.1 hu).1;simpa using this
     rw[Array.getElem?_append_left (by simpa using hlt)];simpa using hu
    ·rw[AW _ _ fQ]at h1;cases h1
  refine callsIn_of_wp_marks hf hb trivial ?_;cases ho:b ev tm s with
  |no=>rw[ho]at h;cases h
  |val=>rw[ho]at h;cases h
  |code x az s1=>
   rw[ho]at h;have fin:∀aj a' w',bD aa fn.ntmps aj az a'->Marks ⟨w.heap.size,[]⟩ aj s1 w' a'.defers->Rel P aj s1 w'->aR ρ s w aj s1 w'->vn P fn.results.toList az s1= .val v s'->
     LeavesInM Fence.wide 0 P fn a'.tmps (λe w'=>∃u,e= .returned u∧∃aj,ag aj v u∧Rel P aj s' w'∧aR ρ s w aj s' w') a'.defers .returning w':=by
    intro aj a' w' kV nU eT aS Lc;obtain⟨Fp,_⟩:=rT eT kV.env Lc;rw[Fp];exact wK (λw2 eS=>(rT eS kV.env Lc).2) (λu w2 hu eS fI=>⟨u,rfl,aj,hu,eS,fI⟩) _ _ nU eT aS
   refine hc ev hev Fence.wide (.inl rfl) ρ tm s _ w x az s1 ho hE ⟨w.heap.size,[]⟩ (Nat.le_refl _) .nil (λl hl=>(by cases hl)) hR _ (λaj a' w' kV nU eT aS=>?_);cases x with
   |normal=>exact fin aj a' w' kV nU eT aS h
   |ret=>exact fin aj a' w' kV nU eT aS h
   |exit id=>cases h
   |goto l=>cases h
theorem Mc (hP:Plainly P) (hm:P.follows .mixedOrders=true) {f aa:Nat} {fn:Func} {c:Code} (hf:P.funcs[f]? =some fn) (hb:fn.body=some c) {t0:T Value} (fQ:mkT fn.ntmps=some t0) {b:CF} (hc:dv P f fn.ntmps aa c=some b)
  {ev:Ev} (hev:EvOk P ev) {args aq:List Value} {s s':AS} {v:Value} (h:JT P aa t0 fn.results.toList b ev args s= .val v s') {ρ:Ren} {w:World} (hR:Rel P ρ s w) (ha:af ρ args aq):
  CallsIn Fence.wide 0 P f aq.toArray w λe w'=>∃u,e= .returned u∧∃aj,ag aj v u∧Rel P aj s' w'∧aR ρ s w aj s' w':=El hf hb fQ (dJ hP hm c b hc) hev h hR ha
theorem lq {kp:Nat}:∀(ps:List Tmp) (l:List Value) (t t':T Value),iK kp ps l t=some t'->∀ {ρ:Ren} {l':List Value} {tmps:Array Value},af ρ l l'->gO ρ t tmps->(∀p∈ps,p<tmps.size)->(∀j v,t.get j=some v->kept kp j=true)->
  l'.length=ps.length∧gO ρ t' ((ps.toArray.zip l'.toArray).foldl (λtmps (t,a)=>tmps.setIfInBounds t a) tmps)∧(∀j v,t'.get j=some v->kept kp j=true)∧((ps.toArray.zip l'.toArray).foldl (λtmps (t,a)=>tmps.setIfInBounds t a) tmps).size=tmps.size
 | [],l,t,t',h,ρ,l',tmps,hl,hE,_,hk=>by
  cases l with
  |nil=>have h:some t=some t':=h;cases h;cases hl;exact⟨rfl,by simpa using hE,hk,by simp⟩
  |cons=>cases h
 |p::ps,l,t,t',h,ρ,l',tmps,hl,hE,hlt,hk=>by
  cases l with
  |nil=>cases h
  |cons v l=>
   have h:ob (mF kp p v t) (λt'=>iK kp ps l t')=some t':=h;obtain⟨t1,h1,h⟩:=U h;cases hl with| @cons _ u _ l' hv hs=>?_
   have hg:=pz h1;obtain⟨a1,a2,a3,a4⟩:=lq ps l t1 t' h (tmps:=tmps.setIfInBounds p u) hs (λj w hw=>by
    rw[hg]at hw;by_cases e:j=p
    ·subst e;by_cases Oe:kept kp j=true
     ·rw[if_pos ⟨Oe,rfl⟩]at hw;cases hw;exact⟨u,by simp[hlt j (by simp)],hv⟩
     ·rw[if_neg (λh=>Oe h.1)]at hw;exact(Oe (hk j w hw)).elim
    ·rw[if_neg (λh=>e h.2)]at hw;obtain⟨u',lU,hr⟩:=hE j w hw;exact⟨u',by rw[Array.getElem?_setIfInBounds_ne (Ne.symm e)];exact lU,hr⟩) (λq hq=>by simpa using hlt q (by simp[hq])) (λj w hw=>by
    rw[hg]at hw;split at hw
    ·rename_i hc;rw[hc.2];exact hc.1
    ·exact hk j w hw)
   refine⟨by simp[a1],?_,a3,?_⟩
   ·rw[List.zip_toArray]at a2⊢;simpa using a2
   ·rw[List.zip_toArray]at a4⊢;simpa using a4
theorem run_getLoop {l:Nat} {r:Loop} {w:World} (h:w.heap[l]? =some (.loop r)):(Instr.getLoop l).run P w= .ok r w:=by simp only[Instr.getLoop,Sem.run_bind,run_getObj_loop h,Result.andThen_ok,Sem.run_pure]
theorem run_yield {l:Nat} {r:Loop} {w:World} {args:Array Value} (h:w.heap[l]? =some (.loop r)) (ha:args.size=r.params.size):
  (Instr.yield l args).run P w= .ok (.round l r.fn ((r.params.zip args).foldl (λtmps (t,a)=>tmps.setIfInBounds t a) r.tmps) r.assign r.body) w:=by
 simp only[Instr.yield,Sem.run_bind,run_getLoop h,Result.andThen_ok,ha,ne_eq,not_true_eq_false,if_false,Sem.run_pure]
theorem run_beginRound {l:Nat} {r:Loop} {w:World} (h:w.heap[l]? =some (.loop r)) (hs:r.state= .ready):(Instr.beginRound l).run P w= .ok () (w.putObj l (.loop {r with state:= .busy})):=by simp only[Instr.beginRound,Sem.run_bind,run_getLoop h,Result.andThen_ok,run_setObj_loop _ h,hs,Sem.run_pure]
theorem run_endRound {l:Nat} {r:Loop} {w:World} {j:Option Code} (h:w.heap[l]? =some (.loop r)):(Instr.endRound l j).run P w= .ok (.bool j.isNone) (w.putObj l (.loop {r with state:=if j.isNone then .ready else .done,pending:=j})):=by simp only[Instr.endRound,Sem.run_bind,run_getLoop h,Result.andThen_ok,run_setObj_loop _ h,Sem.run_pure]
theorem lr {ev:Ev} {o:Option CF} {tm:T Value} {s:AS} {x:bY} {tm':T Value} {s':AS} (h:eD ev o tm s= .code x tm' s'):∃f,o=some f∧f ev tm s= .code x tm' s':=by
 cases o with
 |none=>cases h
 |some f=>exact⟨f,rfl,h⟩
theorem EO (hP:Plainly P) (hm:P.follows .mixedOrders=true) {ev:Ev} (hev:EvOk P ev) {l:Nat} {args aq:List Value} {s s':AS} {v:Value} (h:nZ P ev l args s= .val v s') {ρ:Ren} {w:World} {x:Loc} (hR:Rel P ρ s w) (hx:ρ l=some x) (ha:af ρ args aq):
  bb P (Instr.yield x.b aq.toArray) w λu w'=>∃aj,ag aj v u∧Rel P aj s' w'∧aR ρ s w aj s' w':=by
 obtain⟨st,fB,fn,nt,kp,tm,ps,I2,bd,hblk,h⟩:=hO h (by simp);have h:st= .ready∧Option.rec (motive:= λ_=>Out) .no (λaz=>beginRound ev l (dv P fn nt kp bd) (eD ev (dv P fn nt kp I2) az s)) (iK kp ps args tm)= .val v s':=by cases st<;>first|(cases h;done)|exact⟨rfl,h⟩
 obtain⟨rfl,h⟩:=h;cases iu:iK kp ps args tm with
 |none=>rw[iu]at h;cases h
 |some az=>
  rw[iu]at h;have h:beginRound ev l (dv P fn nt kp bd) (eD ev (dv P fn nt kp I2) az s)= .val v s':=h;obtain⟨hlt,tmps,fn',d,hh,h1,h2,h3,h4⟩:=hR.blk l _ x hblk hx;obtain⟨a1,a2,a3,a4⟩:=lq ps args tm az iu ha h1 (λp hp=>Nat.lt_of_lt_of_le (h4 p hp) h3) h2;unfold bb;rw[run_yield hh (by simpa using a1)];simp only;cases ho:eD ev (dv P fn nt kp I2) az s with
  |no=>rw[ho]at h;cases h
  |val=>rw[ho]at h;cases h
  |code e1 pF s2=>
   rw[ho]at h;have hn:e1= .normal:=by cases e1<;>first|rfl|(cases h;done)
   subst hn;have h:jJ (s2.h.get l) (λst fB Kf Kg Kh tm ps assign body=>match st with
    | .ready=>ez s2 l (.loop .busy fB Kf Kg Kh tm ps assign body) λs3=>endRound l (eD ev (dv P fn nt kp bd) pF s3)
    |_=> .no)= .val v s':=h
   obtain⟨Qy,DM,Kf,Kg,Kh,Pq,NO,NP,NQ,Md,h⟩:=hO h (by simp);have h:Qy= .ready∧(ez s2 l (.loop .busy DM Kf Kg Kh Pq NO NP NQ) λs3=>endRound l (eD ev (dv P fn nt kp bd) pF s3))= .val v s':=by cases Qy<;>first|(cases h;done)|exact⟨rfl,h⟩
   obtain⟨rfl,h⟩:=h;obtain⟨s3,hs3,h⟩:=km h (by simp);obtain⟨fa,xc,ho⟩:=lr ho;cases JP:eD ev (dv P fn nt kp bd) pF s3 with
   |no=>rw[JP]at h;cases h
   |val=>rw[JP]at h;cases h
   |code e4 Sr s4=>
    rw[JP]at h;obtain⟨fb,HF,JP⟩:=lr JP;have h:jJ (s4.h.get l) (λ_ _ fn nt kp tm ps assign body=>match(generalizing:=false) e4 with
     | .normal=>ez s4 l (.loop .ready none fn nt kp tm ps assign body) λs5=> .val (.bool true) s5
     | .ret=>ez s4 l (.loop .done (some .ret) fn nt kp tm ps assign body) λs5=> .val (.bool false) s5
     | .exit id=>ez s4 l (.loop .done (some (.exit id)) fn nt kp tm ps assign body) λs5=> .val (.bool false) s5
     | .goto _=> .no)= .val v s':=h
    obtain⟨Ts,QK,Ss,Su,Sv,Sw,Sx,Sy,Sz,Me,h⟩:=hO h (by simp);have Ld:l<s.nx:=Nat.lt_of_not_le λhle=>by rw[hR.dM l hle]at hx;cases hx
    refine roundIn_of_wpIn trivial ?_;have hL:∀l',(Fence.wide.inRound x.b).round=some l'->∃r,w.heap[l']? =some (Obj.loop r):= λl' Fo=>by have:x.b=l':=Option.some.inj Fo;rw[<-this];exact⟨_,hh⟩
    refine dJ hP hm I2 fa xc ev hev (Fence.wide.inRound x.b) (.inr ⟨_,rfl⟩) ρ az s {tmps:=(ps.toArray.zip aq.toArray).foldl (λtmps (t,a)=>tmps.setIfInBounds t a) tmps,defers:= []} w .normal pF s2 ho ⟨Nat.le_trans h3 (Nat.le_of_eq a4.symm),a3,a2⟩ ⟨w.heap.size,[]⟩ (Nat.le_refl _) .nil hL hR _ (λdu SA w2 lX u7 eS fI=>?_);have M0:du l=some x:=by rw[fI.jj l Ld];exact hx
    obtain⟨r2,Fz,SB,_,_,_,_,_,_,_,_,iz,iA⟩:=qO eS M0 Md hs3;refine⟨_,run_beginRound Fz SB,?_⟩;have HC:({r2 with state:=LoopState.busy}:Loop)={r2 with state:=LoopState.busy,pending:=DM}:=by
     have:r2.pending=DM:=by assumption
     rw[<-this]
    rw[HC];have CW:=fI.trans iA;refine dJ hP hm bd fb HF ev hev (Fence.wide.inRound x.b) (.inr ⟨_,rfl⟩) du pF s3 SA _ e4 Sr s4 JP lX ⟨w.heap.size,[]⟩ CW.size (u7.step iA) (dc hL CW) iz _ (λQz Tt w4 Tu _ SC SD=>?_)
    ·have Le:=CW.trans SD;have SE:Qz l=some x:=by rw[Le.jj l Ld];exact hx
     have fin:∀(E8:LoopState) (j:Option Code),(ez s4 l (.loop E8 j Ss Su Sv Sw Sx Sy Sz) λs5=> .val (.bool j.isNone) s5)= .val v s'->E8=(if j.isNone then .ready else .done)->
       ∃v1 w5,(Instr.endRound x.b j).run P w4= .ok v1 w5∧∃u,Ending.returned v1= .returned u∧∃aj,ag aj v u∧Rel P aj s' w5∧aR ρ s w aj s' w5:=by
      intro E8 j BA ed;obtain⟨s5,SG,BA⟩:=km BA (by simp);cases BA;obtain⟨r5,SH,_,_,_,_,_,_,_,_,_,SI,SJ⟩:=qO SC SE Me SG;refine⟨_,_,run_endRound SH,_,rfl,Qz,.bool _,?_,?_⟩
      ·rw[<-ed];exact SI
      ·rw[<-ed];exact Le.trans SJ
     cases e4 with
     |normal=>exact fin .ready none h rfl
     |ret=>exact fin .done (some .ret) h rfl
     |exit id=>exact fin .done (some (.exit id)) h rfl
     |goto l=>cases h
end Go.Eng
namespace Go.Eng
open Go
variable {P:Program} {ρ:Ren}
def FFOk (P:Program) (f:Nat) (F:FF):Prop:=∀ev,EvOk P ev->∀args s v s',F ev args s= .val v s'->∀ρ w aq,Rel P ρ s w->af ρ args aq->
 bb P (callFunc f aq.toArray) w λu w'=>∃aj,ag aj v u∧Rel P aj s' w'∧aR ρ s w aj s' w'
def ExtFits (P:Program) (f:Nat):Ext->Prop
 | .same=>∃fn,P.funcs[f]? =some fn∧fn.body.isNone=true∧Extern.findNext fn=none∧Extern.find fn=some Extern.AbiNoEscape.same
 | .cmp=>∃fn,P.funcs[f]? =some fn∧fn.body.isNone=true∧Extern.findNext fn=none∧Extern.find fn=some Extern.BytealgCompare.compare
 | .makeNoZero et=>∃fn ps t,P.funcs[f]? =some fn∧fn.body.isNone=true∧Extern.findNext fn=none∧Extern.find fn=some (Extern.BytealgMakeNoZero.makeNoZero ps #[t])∧P.underlying t=some (.slice et)
 | .overlaps et=>∃fn tS tR,P.funcs[f]? =some fn∧fn.body.isNone=true∧Extern.findNext fn=none∧Extern.find fn=some (Extern.SlicesOverlaps.overlaps #[tS,tS] #[tR])∧P.underlying tS=some (.slice et)∧P.underlying et=some (.int .i64)∧∀w,(sizeOf et).run P w= .ok 1 w
 | .indexByteString=>∃fn,P.funcs[f]? =some fn∧fn.body.isNone=true∧Extern.findNext fn=none∧Extern.find fn=some Extern.BytealgIndexByte.indexByte
theorem rU:∀(a b:List UInt8),Lib.compareBytes a b=if Op.bytesLess a b=true then-1 else if(a==b)=true then 0 else 1
 | [],[]=>rfl
 | [],_::_=>rfl
 |_::_,[]=>rfl
 |x::a,y::b=>by
  have ih:=rU a b;show(if x<y then(-1:Int)else if y<x then 1 else Lib.compareBytes a b)=if(decide (x<y)||(x==y&&Op.bytesLess a b))=true then-1 else if(x::a==y::b)=true then 0 else 1
  by_cases h1:x<y
  ·simp[h1]
  ·by_cases h2:y<x
   ·have hne:x≠y:= λe=>by subst e;exact h1 h2
    simp[h1,h2,hne]
   ·have he:x=y:=by
     rw[UInt8.lt_iff_toNat_lt]at h1 h2;exact UInt8.toNat_inj.1 (by omega)
    subst he;rw[if_neg h1,ih];simp[h1]
theorem mJ {m:Sem Value} {u:Value} {w w':World} {f:Nat} {fn:Func} {e:Array Value->Sem Value} {args:Array Value} (hP:Plainly P) (hf:P.funcs[f]? =some fn) (hb:fn.body.isNone=true) (hn:Extern.findNext fn=none) (he:Extern.find fn=some e) (hm:e args=m)
  (hr:m.run P w= .ok u w'):(callFunc f args).run P w= .ok (.value u) w':=by
 rw[run_callFunc_extern hf (hP f fn hf) hb hn he,hm,hr];rfl
theorem pA (c:Nat):∀(l:List UInt8) (i:Nat),mQ c l i=match(List.range l.length).find? λk=>(l[k]?.getD 0).toNat==c with|some k=>((i+k:Nat):Int)|none=> -1
 | [],i=>rfl
 |b::l,i=>by
  have ih:=pA c l (i+1);show ab (Nat.beq b.toNat c) (.ofNat i) (mQ c l (Nat.succ i))=_;rw[List.length_cons,Lib.find_range_succ];have h0:(((b::l)[0]?.getD 0).toNat==c)=Nat.beq b.toNat c:=by
   rw[Bool.eq_iff_iff];constructor
   ·intro h;rw[Nat.beq_eq];simpa using h
   ·intro h;rw[Nat.beq_eq]at h;simpa using h
  rw[h0];cases hb:Nat.beq b.toNat c with
  |true=>rfl
  |false=>
   rw[bS,ih];have he:(λk=>(((b::l)[k+1]?.getD 0).toNat==c))= λk=>(l[k]?.getD 0).toNat==c:=by funext k;simp
   simp only[Bool.false_eq_true,if_false,he];cases(List.range l.length).find? λk=>(l[k]?.getD 0).toNat==c with
   |none=>rfl
   |some k=>
    show((i+1+k:Nat):Int)=((i+(k+1):Nat):Int)
    congr 1;omega
theorem rV:∀(n t:Nat) (acc:Array Value),(∀v∈acc.toList,cy v=true)->∀v∈(Extern.BytealgMakeNoZero.digits n t acc).toList,cy v=true
 |0,_,_,h=>h
 |n+1,t,acc,h=>by
  rw[Extern.BytealgMakeNoZero.digits];refine rV n _ _ λv hv=>?_;rw[Array.toList_push]at hv;rcases List.mem_append.1 hv with hv|hv
  ·exact h v hv
  ·simp only[List.mem_singleton]at hv;subst hv;rfl
theorem uD:∀(l:List Value),(∀v∈l,cy v=true)->af ρ (List.replicate l.length (Value.complex .f32 0 0)) l
 | [],_=> .nil
 |v::l,h=> .cons (.junk _ _ _ (h v (by simp)) (λe=>by cases e)) (uD l λu hu=>h u (by simp[hu]))
theorem find_congr {α:Type} {p q:α->Bool}:∀ {l:List α},(∀x∈l,p x=q x)->l.find? p=l.find? q
 | [],_=>rfl
 |x::l,h=>by rw[List.find?_cons,List.find?_cons,h x (by simp),find_congr λy hy=>h y (by simp[hy])]
theorem pB {α:Type} (x:α):∀n:Nat,(List.replicate n [x]).flatten=List.replicate n x
 |0=>rfl
 |n+1=>by rw[List.replicate_succ,List.flatten_cons,List.replicate_succ,pB x n];rfl
theorem Gt (ps:Array TypeId) (t e:TypeId) (ht:P.underlying t=some (.slice e)) (n:Nat) (hn:n<=281474976710656) (w:World):
  ∃cs:Array Value,(Extern.BytealgMakeNoZero.makeNoZero ps #[t] #[.int .i64 n]).run P w= .ok (.slice (some ⟨w.heap.size,0,none⟩) n cs.size) (w.drew.drew.alloc (.cells cs e))∧n<=cs.size∧∀v∈cs.toList,cy v=true:=by
 obtain⟨q,Lf,Lg,Pr,hq⟩:∃(q:Question) (Lf:Sem Value) (Lg:Sem Unit),Extern.BytealgMakeNoZero.makeNoZero ps #[t] #[.int .i64 n]=
   (do
    let .slice elem<-underlying t|Lf
    if(n:Int)<0||(n:Int)>2^48 then Lg
    let cap<-choose (.appendCap (n:Int).toNat 0 elem)
    askRoom cap
    let bytes<-choose q
    let a<-newRow elem (Extern.BytealgMakeNoZero.digits cap bytes #[])
    pure (.slice (some a) (n:Int).toNat cap))∧q.forced=false:=⟨_,_,_,rfl,rfl⟩
 refine⟨Extern.BytealgMakeNoZero.digits (grownCap w n 0 e) (q.cut (w.tape (w.drawn+1) q)) #[],?_,?_,rV _ _ _ (by simp)⟩
 ·rw[Pr];have h1:¬(n:Int)<0:=by omega
  have h2:¬(281474976710656:Int)<(n:Int):=by omega
  have h3:∀a b,(Question.appendCap a 0 b).forced=false:= λ_ _=>rfl;simp[run_underlying ht,h1,h2,h3,hq,newRow,Lib.size_digits,grownCap]
 ·rw[Lib.size_digits];simpa using grownCap_ge w n 0 e
theorem Cf {w:World} {b o t k:Nat} {u:Value} (hs:w.shape? b=some (t,k)) (hc:w.cell? ⟨b,o,none⟩=some u):k≠0:=by
 unfold World.shape? at hs;unfold World.cell? at hc;cases hh:w.heap[b]? with
 |none=>rw[hh]at hs;cases hs
 |some ob=>rw[hh]at hs hc;cases ob<;>simp at hs hc;obtain⟨rfl,rfl⟩:=hs;intro h0;rw[Array.getElem?_eq_none (by omega)]at hc;cases hc
theorem Jh (hP:Plainly P) {f:Nat} {e:Ext} (hf:ExtFits P f e):FFOk P f (λ_ args s=>gN (Br s e args)):=by
 intro ev hev args s v s' h ρ w aq hR ha;have h:gN (Br s e args)= .val v s':=h;have hx:Br s e args=some (v,s'):=by
  cases hx:Br s e args with
  |none=>rw[hx]at h;cases h
  |some p=>rw[hx]at h;cases h;rfl
 clear h;unfold bb;unfold Br at hx;split at hx
 ·rename_i x;cases hx;obtain⟨fn,h1,h2,h3,h4⟩:=hf;obtain⟨x',rfl,hv⟩:=af.uS ha;rw[mJ (m:=pure x') (w':=w) (u:=x') hP h1 h2 h3 h4 rfl rfl];exact⟨ρ,hv,hR,.refl _ _ _⟩
 ·rename_i a b;cases hx;obtain⟨fn,h1,h2,h3,h4⟩:=hf;obtain⟨a',b',rfl,KH,KI⟩:=af.two ha;cases KH;cases KI;rw[mJ (m:=Extern.BytealgCompare.compare #[.string a,.string b]) (w':=w) hP h1 h2 h3 h4 rfl (Lib.run_compareString ..)];refine⟨ρ,?_,hR,.refl _ _ _⟩;rw[rU,qy,qx,ai,ai];have:(if Op.bytesLess a.data.toList b.data.toList=true then Int.negSucc 0 else if(a.data.toList==b.data.toList)=true then Int.ofNat 0 else Int.ofNat 1)=(if Op.bytesLess a.data.toList b.data.toList=true then(-1:Int)else if(a.data.toList==b.data.toList)=true then 0 else 1):=rfl;rw[this];exact .int _ _
 ·rename_i et n;obtain⟨hn,hx⟩:=ae hx;obtain⟨els,ea,hx⟩:=U hx;have hn:n<=1000000:=Nat.le_of_ble_eq_true hn;have ea:=pY _ _ _ ea;subst ea;obtain⟨fn,ps,t,h1,h2,h3,h4,h5⟩:=hf;obtain⟨x',rfl,hv⟩:=af.uS ha;cases hv;obtain⟨cs,hrun,hle,lk⟩:=Gt ps t et h5 n (by omega) w;have SK:=mJ (args:= #[.int .i64 (.ofNat n)]) hP h1 h2 h3 h4 rfl hrun;rw[SK];have EX:cs.toList.length=cs.size:=by simp
  have hcs:cs=(cs.toList.take n++cs.toList.drop n).toArray:=by apply Array.ext';simp
  have Mf:(List.replicate n [Value.complex .f32 0 0]).flatten=List.replicate (cs.toList.take n).length (Value.complex .f32 0 0):=by
   have:(cs.toList.take n).length=n:=by rw[List.length_take];omega
   rw[this];exact pB _ n
  obtain⟨aj,hv,eT,aS⟩:=oZ (w':=w.drew.drew.alloc (.cells cs et)) (cs:=cs.toList.take n) (rest:=cs.toList.drop n) (lo:=0) (hi:=0) (cap:=cs.size) hR hx (by rw[Mf];exact uD _ λv hv=>lk v (List.mem_of_mem_take hv)) hle (by rw[List.length_take,List.length_drop];omega) (λo h1 h2=>by omega) (by rw[<-hcs];rfl) rfl rfl rfl
  exact⟨aj,hv,eT,aS⟩
 ·rename_i et a oa n ca b o m cb;obtain⟨hne,hx⟩:=bh hx;obtain⟨tC,hx⟩:=ae hx;cases hx;have Fs:a≠b:= λe=>by rw[e,Nat.beq_refl]at hne;cases hne
  obtain⟨fn,tS,tR,h1,h2,h3,h4,h5,h6,h7⟩:=hf;obtain⟨a',b',rfl,KH,KI⟩:=af.two ha;have QW:1<=n∧1<=m:=by
   rw[ai]at hne;split at hne
   ·cases hne
   ·rw[ai]at hne;split at hne
    ·cases hne
    ·rename_i h0;have g0:n≠0:= λe=>h0 (by rw[e];rfl);have g1:m≠0:= λe=>by rw[e]at hne;cases hne
     omega
  unfold D7 at tC;split at tC
  ·rename_i cA SL nA eA c sz nB eB QA BM;obtain⟨q1,tC⟩:=ah tC;obtain⟨q2,q3⟩:=ah tC;replace q1:=Nat.eq_of_beq_eq_true q1;replace q2:=Nat.eq_of_beq_eq_true q2;subst q1;subst q2;cases KH with
   | @slice _ x _ _ _ Ps SM QB p1 p2 p3 p4 p5=>
   cases KI with
   | @slice _ y _ _ _ Pt SN QC r1 r2 r3 r4 r5=>
   have Pu:SM=⟨x.b,x.base+oa,none⟩:=by rcases p4 with e|e;exact e;omega
   have Pv:SN=⟨y.b,y.base+o,none⟩:=by rcases r4 with e|e;exact e;omega
   subst Pu;subst Pv;have QD:aL P ρ x w cA SL nA false eA:=(hR.blk a _ x QA QB).2;have Of:aL P ρ y w c 1 nB false eB:=(hR.blk b _ y BM QC).2;have jE:x.b≠y.b:= λe=>by have:=(hR.aX a b _ _ x y Fs QA BM QB QC e).1;cases this
   have GC:∀o,w.frozen? ⟨x.b,o,none⟩=false:= λo=>by
    cases hf:w.frozen? ⟨x.b,o,none⟩with
    |false=>rfl
    |true=>have:=(QD.free rfl o hf).2;rw[h6]at this;cases this
   have hk:y.ao≠0:=by
    unfold tX at q3;cases hg:c.get o with
    |none=>rw[hg]at q3;cases q3
    |some l=>
     cases l with
     |nil=>rw[hg]at q3;cases q3
     |cons v l=>obtain⟨_,_,hc⟩:=Of.cell o _ hg;obtain⟨u,hu,_⟩:=hc 0 v rfl;exact Cf Of.shape hu
   have hrun:=Lib.run_overlaps_apart (P:=P) w tS tR eA h5 1 h7 ⟨x.b,x.base+oa,none⟩ ⟨y.b,y.base+o,none⟩ n Ps m Pt jE eA eB x.ao y.ao QD.shape Of.shape hk (GC _) (GC _);rw[mJ (w':=w) (u:= .bool false) hP h1 h2 h3 h4 rfl hrun];exact⟨ρ,.bool _,hR,.refl _ _ _⟩
  ·cases tC
 ·rename_i a c;obtain⟨n,hn,hx⟩:=U hx;obtain⟨hlt,hx⟩:=ae hx;obtain⟨u,hu,hx⟩:=U hx;cases hx;obtain⟨fn,h1,h2,h3,h4⟩:=hf;obtain⟨a',b',rfl,KH,KI⟩:=af.two ha;cases KH;cases KI;have hlt:n<256:=Nat.le_of_ble_eq_true hlt;have hc:c=(n:Int):=by cases c with|ofNat m=>cases hn;rfl|negSucc m=>cases hn
  subst hc;rw[mJ (m:=Extern.BytealgIndexByte.indexByte #[.string a,.int .u8 n]) hP h1 h2 h3 h4 rfl (run_indexByte_string a n w)];refine⟨ρ,?_,hR,.refl _ _ _⟩;have NN:firstIdx a (n:Int).toNat.toUInt8=mQ n a.data.toList 0:=by
   rw[pA];unfold firstIdx;have hsz:a.size=a.data.toList.length:=by rw[Array.length_toList];rfl
   have hp:∀i,i<a.size->(a[i]! ==(n:Int).toNat.toUInt8)=((a.data.toList[i]?.getD 0).toNat==n):= λi hi=>by
    have hg:a[i]! =a.data.toList[i]?.getD 0:=by have h':i<a.data.size:=hi;have e1:a[i]! =a[i]:=getElem!_pos a i hi;rw[e1,Array.getElem?_toList,Array.getElem?_eq_getElem h'];rfl
    rw[hg,Int.toNat_natCast,Bool.eq_iff_iff];simp only[beq_iff_eq];constructor
    ·intro h;rw[h];simp;omega
    ·intro h;apply UInt8.toNat_inj.1;rw[h];simp;omega
   rw[<-hsz];have:(List.range a.size).find? (λi=>a[i]! ==(n:Int).toNat.toUInt8)=(List.range a.size).find? λk=>(a.data.toList[k]?.getD 0).toNat==n:=by exact find_congr λx hx=>hp x (List.mem_range.1 hx)
   rw[this];cases(List.range a.size).find? λk=>(a.data.toList[k]?.getD 0).toNat==n with
   |none=>rfl
   |some k=>simp
  rw[di]at hu;cases hu;rw[NN];exact .int _ _
 ·cases hx
end Go.Eng
namespace Go.Eng
open Go
variable {P:Program} {ρ:Ren}
theorem fz:∀ {a b:T Blk},uQ a b=true->∀j k,a.get j=some k->b.get j=some k
 | .e,_,_,j,k,h=>by rw[T.get_e]at h;cases h
 | .n v l r,.e,hs,j,k,h=>by
  have hs:ab (Option.rec (motive:= λ_=>Bool) true (λ_=>false) v) (ab (uQ l .e) (uQ r .e) false) false=true:=hs;obtain⟨h0,hs⟩:=ah hs;obtain⟨h1,h2⟩:=ah hs;rcases aA j with rfl|⟨m,rfl⟩|⟨m,rfl⟩
  ·rw[T.bp]at h;subst h;cases h0
  ·rw[T.aH]at h;have:=fz h1 m k h;rw[T.get_e]at this;cases this
  ·rw[T.ay]at h;have:=fz h2 m k h;rw[T.get_e]at this;cases this
 | .n v l r,.n v' l' r',hs,j,k,h=>by
  have hs:ab (Option.rec (motive:= λ_=>Bool) true (λk=>Option.rec (motive:= λ_=>Bool) false (λk'=>xl k k') v') v) (ab (uQ l l') (uQ r r') false) false=true:=hs;obtain⟨h0,hs⟩:=ah hs;obtain⟨h1,h2⟩:=ah hs;rcases aA j with rfl|⟨m,rfl⟩|⟨m,rfl⟩
  ·rw[T.bp]at h⊢;subst h;cases v' with
   |none=>cases h0
   |some k'=>rw[pt h0]
  ·rw[T.aH]at h⊢;exact fz h1 m k h
  ·rw[T.ay]at h⊢;exact fz h2 m k h
theorem m7:∀ {a:T Blk},CN a=true->∀j k,a.get j=some k->dZ k=false
 | .e,_,j,k,h=>by rw[T.get_e]at h;cases h
 | .n v l r,hs,j,k,h=>by
  have hs:ab (Option.rec (motive:= λ_=>Bool) true (λk=>match k with| .cells _ _ _ ro _=>dz ro| .map .. =>true|_=>false) v) (ab (CN l) (CN r) false) false=true:=hs;obtain⟨h0,hs⟩:=ah hs;obtain⟨h1,h2⟩:=ah hs;rcases aA j with rfl|⟨m,rfl⟩|⟨m,rfl⟩
  ·rw[T.bp]at h;subst h;cases k with
   |cells c sz n ro et=>cases ro with|false=>rfl|true=>cases h0
   |map=>rfl
   |cE=>cases h0
   |mapIter=>cases h0
   |loop=>cases h0
   |pmap=>cases h0
  ·rw[T.aH]at h;exact m7 h1 m k h
  ·rw[T.ay]at h;exact m7 h2 m k h
theorem qW:∀(a h:T Blk) (j:Nat),(jy a h).get j=match a.get j with|some _=>none|none=>h.get j
 | .e,h,j=>by rw[T.get_e];rfl
 | .n v l r,.e,j=>by show(T.e:T Blk).get j=_;rw[T.get_e];split<;>first|rfl|rw[T.get_e]
 | .n v l r,.n v' l' r',j=>by
  show(T.n (Option.rec (motive:= λ_=>Option Blk) v' (λ_=>none) v) (jy l l') (jy r r')).get j=_;rcases aA j with rfl|⟨m,rfl⟩|⟨m,rfl⟩
  ·rw[T.bp,T.bp,T.bp];cases v<;>rfl
  ·rw[T.aH,T.aH,T.aH];exact qW l l' m
  ·rw[T.ay,T.ay,T.ay];exact qW r r' m
theorem iJ:∀(a h:T Blk) (j:Nat),(gT a h).get j=match a.get j with|some k=>some k|none=>h.get j
 | .e,h,j=>by rw[T.get_e];rfl
 | .n v l r,.e,j=>by
  show(T.n v (gT l .e) (gT r .e)).get j=_;rw[T.get_e];rcases aA j with rfl|⟨m,rfl⟩|⟨m,rfl⟩
  ·rw[T.bp,T.bp];cases v<;>rfl
  ·rw[T.aH,T.aH,iJ l .e m,T.get_e]
  ·rw[T.ay,T.ay,iJ r .e m,T.get_e]
 | .n v l r,.n v' l' r',j=>by
  show(T.n (Option.rec (motive:= λ_=>Option Blk) v' (λk=>some k) v) (gT l l') (gT r r')).get j=_;rcases aA j with rfl|⟨m,rfl⟩|⟨m,rfl⟩
  ·rw[T.bp,T.bp,T.bp];cases v<;>rfl
  ·rw[T.aH,T.aH,T.aH];exact iJ l l' m
  ·rw[T.ay,T.ay,T.ay];exact iJ r r' m
theorem iR:∀(d j:Nat),(kZ d).get j=none
 |0,j=>T.get_e j
 |d+1,j=>by
  show(T.n none (kZ d) (kZ d)).get j=none;rcases aA j with rfl|⟨m,rfl⟩|⟨m,rfl⟩
  ·rw[T.bp]
  ·rw[T.aH];exact iR d m
  ·rw[T.ay];exact iR d m
theorem dn (a:T Blk) (j:Nat):(roomH a).get j=a.get j:=by unfold roomH;rw[iJ,iR];cases a.get j<;>rfl
theorem Rel.less {s:AS} {w:World} {h:T Blk} {lm:Nat} (hr:Rel P ρ s w) (hs:∀j k,h.get j=some k->s.h.get j=some k) (hl:lm<=s.nx):Rel P ρ ⟨h,s.nx,lm⟩ w:=
  ⟨hr.dM,λa ha=>(by
    cases e:h.get a with
    |none=>rfl
    |some k=>have:=hs a k e;rw[hr.top a ha]at this;cases this),
   λa k x e e'=>hr.blk a k x (hs a k e) e',hl,λa a' k k' x x' hne e1 e2 r1 r2 hb=>hr.aX a a' k k' x x' hne (hs _ _ e1) (hs _ _ e2) r1 r2 hb,hr.gl.of (Nat.le_refl _) λb _ hn=>⟨rfl,λ⟨j,k,y,e1,e2,e3⟩=>hn ⟨j,k,y,hs _ _ e1,e2,e3⟩⟩⟩
theorem aR.less {aj:Ren} {s s':AS} {w w':World} {h:T Blk} (hS:aR ρ s w aj s' w') (hs:∀j k,h.get j=some k->s'.h.get j=some k) (h0:s.ao=0):aR ρ s w aj ⟨h,s'.nx,s'.ao⟩ w':=
  ⟨hS.jj,hS.nx,hS.tape,hS.os,hS.out,hS.size,λb hb hn=>⟨(hS.frame b hb hn).1,λ⟨j,k,x,e1,e2,e3⟩=>(hS.frame b hb hn).2 ⟨j,k,x,hs j k e1,e2,e3⟩⟩,
   λa ha hn=>(by
    show h.get a=s.h.get a∨h.get a=none;cases e:h.get a with
    |none=>exact .inr rfl
    |some k=>
      rcases hS.ph a ha hn with h1|h1
      · rw[hs a k e]at h1;exact .inl h1
      · rw[hs a k e]at h1;cases h1),
   hS.lp,hS.ao,λa ha=>(by rw[h0]at ha;omega),λa k x ha=>(by rw[h0]at ha;omega)⟩
theorem aI.room {h:T Blk} {nx lm b:Nat}:aI ρ ⟨roomH h,nx,lm⟩ b↔aI ρ ⟨h,nx,lm⟩ b:=by unfold aI;simp only[dn]
theorem Rel.room {w:World} {h:T Blk} {nx lm:Nat} (hr:Rel P ρ ⟨h,nx,lm⟩ w):Rel P ρ ⟨roomH h,nx,lm⟩ w:=
  ⟨hr.dM,λa ha=>(dn h a).trans (hr.top a ha),λa k x e e'=>hr.blk a k x ((dn h a).symm.trans e) e',hr.ao,
   λa a' k k' x x' hne e1 e2 r1 r2 hb=>hr.aX a a' k k' x x' hne ((dn h a).symm.trans e1) ((dn h a').symm.trans e2) r1 r2 hb,
   λg gl vs g1 g2=>(let⟨a,b,c⟩:=hr.gl g gl vs g1 g2;⟨a,λhh=>b (aI.room.1 hh),c⟩)⟩
theorem aR.room {aj:Ren} {s':AS} {w w':World} {h:T Blk} {nx lm:Nat} (hS:aR ρ ⟨roomH h,nx,lm⟩ w aj s' w'):aR ρ ⟨h,nx,lm⟩ w aj s' w':=
  ⟨hS.jj,hS.nx,hS.tape,hS.os,hS.out,hS.size,λb hb hn=>hS.frame b hb (λhh=>hn (aI.room.1 hh)),
   λa ha hn=>(hS.ph a ha hn).imp (λe=>e.trans (dn h a)) id,hS.lp,hS.ao,λa ha=>(hS.low a ha).trans (dn h a),
   λa k x ha hn hk=>hS.fW a k x ha hn ((dn h a).trans hk)⟩
def EntryOk (P:Program) (e:Entry):Prop:=∀ρ w aq,Rel P ρ ⟨e.hin,e.nx,0⟩ w->af ρ e.args aq->
 bb P (callFunc e.f aq.toArray) w λu w'=>∃aj,ag aj e.v u∧Rel P aj ⟨e.aP,e.u5,0⟩ w'∧aR ρ ⟨e.hin,e.nx,0⟩ w aj ⟨e.aP,e.u5,0⟩ w'
theorem bb.mono {m:Sem Next} {w:World} {R R':Value->World->Prop} (h:bb P m w R) (hr:∀u w',R u w'->R' u w'):bb P m w R':=by
 unfold bb at h⊢;split at h
 ·exact hr _ _ h
 ·exact CallsIn.mono h λe w'' ⟨u,he,hR⟩=>⟨u,he,hr _ _ hR⟩
 ·exact RoundIn.mono h λe w'' ⟨u,he,hR⟩=>⟨u,he,hr _ _ hR⟩
 ·exact h.elim
theorem zt {a b h:T Blk} {j:Nat}:(gT a (jy b h)).get j=match a.get j with|some k=>some k|none=>(match b.get j with|some _=>none|none=>h.get j):=by rw[iJ,qW]
theorem zu {a b h:T Blk} {j:Nat} {k:Blk} (hk:(gT a (jy b h)).get j=some k):a.get j=some k∨(a.get j=none∧b.get j=none∧h.get j=some k):=by
 rw[zt]at hk;cases h1:a.get j with
 |some k'=>rw[h1]at hk;exact .inl hk
 |none=>
  rw[h1]at hk;cases h2:b.get j with
  |some _=>rw[h2]at hk;cases hk
  |none=>rw[h2]at hk;exact .inr ⟨rfl,rfl,hk⟩
theorem mv {s:AS} {w:World} {hin:T Blk} {nx:Nat} (hR:Rel P ρ s w) (dh:∀j k,hin.get j=some k->s.h.get j=some k) (hro:∀j k,hin.get j=some k->dZ k=false) {j:Nat} {k:Blk} {x:Loc} (hn:hin.get j=none) (hk:s.h.get j=some k) (hx:ρ j=some x):¬aI ρ ⟨hin,nx,0⟩ x.b:=by
 rintro⟨j2,k2,x2,e1,e2,e3⟩;have hne:j2≠j:= λhe=>by rw[he]at e1;have e1:hin.get j=some k2:=e1;rw[hn]at e1;cases e1
 have:=(hR.aX j2 j k2 k x2 x hne (dh _ _ e1) hk e2 hx e3).1;rw[hro _ _ e1]at this;cases this
theorem Cg {e:Entry} (he:EntryOk P e) {args aq:List Value} {s s':AS} {v:Value} {w:World} (hh:mR e args s=true) (ho:qH e s= .val v s') (hR:Rel P ρ s w) (ha:af ρ args aq):
  bb P (callFunc e.f aq.toArray) w λu w'=>∃aj,ag aj v u∧Rel P aj s' w'∧aR ρ s w aj s' w':=by
 obtain⟨h1,hh⟩:=ah hh;obtain⟨h2,hh⟩:=ah hh;obtain⟨h3,hh⟩:=ah hh;obtain⟨h4,h5⟩:=ah hh;have hnx:=Nat.eq_of_beq_eq_true h1;have kB:=Nat.eq_of_beq_eq_true h2;have eh:=zp h3;have hro:=m7 h4;have dh:=fz h5;cases ho;subst eh;have HY:Rel P ρ ⟨e.hin,e.nx,0⟩ w:=by have:=hR.less dh (Nat.zero_le s.nx);rw[hnx];exact this
 refine(he ρ w aq HY ha).mono λu w' ⟨aj,hv,eT,aS⟩=>⟨aj,hv,?_,?_⟩
 all_goals have dk:∀ {j k},(gT e.aP (jy e.hin s.h)).get j=some k->e.aP.get j=some k∨(e.aP.get j=none∧e.hin.get j=none∧s.h.get j=some k):= λ {j k} h=>zu h
 all_goals have hlt:∀ {j k},s.h.get j=some k->j<s.nx:= λ {j k} h=>Nat.lt_of_not_le λhle=>by rw[hR.top j hle]at h;cases h
 all_goals have jD:∀ {j k},s.h.get j=some k->aj j=ρ j:= λ {j k} h=>aS.jj j (by show j<e.nx;rw[hnx];exact hlt h)
 all_goals have aP:∀ {j k x},e.hin.get j=none->s.h.get j=some k->ρ j=some x->¬aI ρ ⟨e.hin,e.nx,0⟩ x.b:= λ {j k x} hn hk hx=>mv hR dh hro hn hk hx
 ·refine⟨eT.dM,λa ha=>?_,λa k x h hx=>?_,Nat.zero_le _,λa a' k k' x x' hne g1 g2 r1 r2 hb=>?_,λg gl vs g1 g2=>?_⟩
  rotate_right
  ·obtain⟨a,b,c⟩:=eT.gl g gl vs g1 g2;obtain⟨_,b0,_⟩:=hR.gl g gl vs g1 g2;refine⟨a,?_,c⟩;rintro⟨j,k,x,h,hx,hb⟩;rcases dk h with h|⟨_,_,h⟩
   ·exact b ⟨j,k,x,h,hx,hb⟩
   ·rw[jD h]at hx;exact b0 ⟨j,k,x,h,hx,hb⟩
  ·cases h:(gT e.aP (jy e.hin s.h)).get a with
   |none=>rfl
   |some k=>
    exfalso;have ha:e.u5<=a:=ha;rcases dk h with h|⟨_,_,h⟩
    ·have:=eT.top a ha;have this:e.aP.get a=none:=this;rw[h]at this;cases this
    ·have h6:=hlt h;have h7:e.nx<=e.u5:=aS.nx;omega
  ·rcases dk h with h|⟨_,hn,h⟩
   ·exact eT.blk a k x h hx
   ·rw[jD h]at hx;obtain⟨b1,b2⟩:=hR.blk a k x h hx;have hle:aK ρ aj:=aS.le HY;exact⟨Nat.lt_of_lt_of_le b1 aS.size,(b2.congr (aS.frame _ b1 (aP hn h hx)).1).mono hle⟩
  ·rcases dk g1 with g1|⟨_,n1,g1⟩
   ·rcases dk g2 with g2|⟨_,n2,g2⟩
    ·exact eT.aX a a' k k' x x' hne g1 g2 r1 r2 hb
    ·rw[jD g2]at r2;have:=(aS.frame _ (hR.blk a' k' x' g2 r2).1 (aP n2 g2 r2)).2;exact(this ⟨a,k,x,g1,r1,hb⟩).elim
   ·rw[jD g1]at r1;rcases dk g2 with g2|⟨_,n2,g2⟩
    ·have:=(aS.frame _ (hR.blk a k x g1 r1).1 (aP n1 g1 r1)).2;exact(this ⟨a',k',x',g2,r2,hb.symm⟩).elim
    ·rw[jD g2]at r2;exact hR.aX a a' k k' x x' hne g1 g2 r1 r2 hb
 ·refine⟨λa ha=>aS.jj a (by show a<e.nx;rw[hnx];exact ha),by rw[<-hnx];exact aS.nx,aS.tape,aS.os,aS.out,aS.size,λb hb hn=>?_,λa ha hn=>?_,aS.lp,kB.symm,λa ha=>by rw[kB]at ha;omega,λa k x ha=>by rw[kB]at ha;omega⟩
  ·have yG:¬aI ρ ⟨e.hin,e.nx,0⟩ b:=by
    rintro⟨j,k,x,e1,e2,e3⟩;exact hn ⟨j,k,x,dh _ _ e1,e2,e3⟩
   obtain⟨f1,f2⟩:=aS.frame b hb yG;refine⟨f1,?_⟩;rintro⟨j,k,x,e1,e2,e3⟩;rcases dk e1 with h|⟨_,_,h⟩
   ·exact f2 ⟨j,k,x,h,e2,e3⟩
   ·rw[jD h]at e2;exact hn ⟨j,k,x,h,e2,e3⟩
  ·show(gT e.aP (jy e.hin s.h)).get a=s.h.get a∨(gT e.aP (jy e.hin s.h)).get a=none;have Og:e.aP.get a=e.hin.get a∨e.aP.get a=none:=aS.ph a (by show a<e.nx;rw[hnx];exact ha) hn;rw[zt];cases h1:e.aP.get a with
   |some k=>
    rcases Og with h|h
    ·rw[h1]at h;exact .inl (dh a k h.symm).symm
    ·rw[h1]at h;cases h
   |none=>
    cases h2:e.hin.get a with
    |some _=>exact .inr rfl
    |none=>exact .inl rfl
theorem qX {f:Nat} {F:FF} (hF:FFOk P f F):∀es:List Entry,(∀e∈es,e.f=f∧EntryOk P e)->FFOk P f (oM es F)
 | [],_=>hF
 |e::es,h=>by
  intro ev hev args s v s' hr ρ w aq hR ha;have hr:ab (mR e args s) (qH e s) (oM es F ev args s)= .val v s':=hr;cases hh:mR e args s with
  |true=>rw[hh]at hr;obtain⟨hf,he⟩:=h e (by simp);rw[<-hf];exact Cg he hh hr hR ha
  |false=>rw[hh]at hr;exact qX hF es (λe' fP=>h e' (by simp[fP])) ev hev args s v s' hr ρ w aq hR ha
theorem fh {f:Nat}:∀ {l:List Entry} {e:Entry},e∈i6 f l->e∈l∧e.f=f
 | [],e,h=>by cases h
 |x::l,e,h=>by
  have h:e∈ab (Nat.beq x.f f) (x::i6 f l) (i6 f l):=h;rw[ai]at h;split at h
  ·rename_i hb;rcases List.mem_cons.1 h with rfl|h
   ·exact⟨by simp,Nat.eq_of_beq_eq_true hb⟩
   ·have:=fh h;exact⟨by simp[this.1],this.2⟩
  ·have:=fh h;exact⟨by simp[this.1],this.2⟩
end Go.Eng
namespace Go.Eng
open Go
variable {P:Program}
structure CfgOk (P:Program) (X:Cfg):Prop where
 plain:Plainly P
 mixed:P.follows .mixedOrders=true
 ext:∀f e,pU f X.ext=some e->ExtFits P f e
 tab:∀e∈X.tab,EntryOk P e
 sum:∀f e,pT f X.sum=some e->FFOk P f (As e)
theorem vY {X:Cfg} (hX:CfgOk P X) {f:Nat} {F:FF} (h:mkFn P X f=some F):FFOk P f F:=by
 unfold mkFn at h;split at h
 ·rename_i e he;cases h;exact hX.sum f e he
 ·split at h
  ·rename_i fn hfn;split at h
   ·rename_i body hb;obtain⟨t0,fQ,h⟩:=U h;obtain⟨b,SO,h⟩:=U h;cases h;refine qX ?_ _ λe he=>⟨(fh he).2,hX.tab e (fh he).1⟩
    intro ev hev args s v s' hr ρ w aq hR ha;unfold bb;rw[ft hX.plain hfn hb];exact Mc hX.plain hX.mixed hfn hb fQ SO hev hr hR ha
   ·rename_i hb;obtain⟨e,he,h⟩:=U h;cases h;exact Jh hX.plain (hX.ext f e he)
  ·cases h
def GWorld (P:Program) (w:World):Prop:=∀g gl vs,P.globals[g]? =some gl->uR P gl.name=some vs->g<w.heap.size∧∀(i:Nat) (v:Value),vs[i]? =some v->w.cell? ⟨g,i,none⟩=some v
end Go.Eng
namespace Go.Eng
open Go
variable {P:Program} {ρ:Ren}
theorem Gu {hin aP:T Blk} {nx u5:Nat} {s:AS} {w w':World} {ρ aj:Ren} (hnx:nx=s.nx) (kB:s.ao=0) (hro:∀j k,hin.get j=some k->dZ k=false) (dh:∀j k,hin.get j=some k->s.h.get j=some k) (hR:Rel P ρ s w)
  (HY:Rel P ρ ⟨hin,nx,0⟩ w) (eT:Rel P aj ⟨aP,u5,0⟩ w') (aS:aR ρ ⟨hin,nx,0⟩ w aj ⟨aP,u5,0⟩ w'):
  Rel P aj ⟨gT aP (jy hin s.h),u5,0⟩ w'∧aR ρ s w aj ⟨gT aP (jy hin s.h),u5,0⟩ w':=by
 refine⟨?_,?_⟩
 all_goals have dk:∀ {j k},(gT aP (jy hin s.h)).get j=some k->aP.get j=some k∨(aP.get j=none∧hin.get j=none∧s.h.get j=some k):= λ {j k} h=>zu h
 all_goals have hlt:∀ {j k},s.h.get j=some k->j<s.nx:= λ {j k} h=>Nat.lt_of_not_le λhle=>by rw[hR.top j hle]at h;cases h
 all_goals have jD:∀ {j k},s.h.get j=some k->aj j=ρ j:= λ {j k} h=>aS.jj j (by show j<nx;rw[hnx];exact hlt h)
 all_goals have IW:∀ {j k x},hin.get j=none->s.h.get j=some k->ρ j=some x->¬aI ρ ⟨hin,nx,0⟩ x.b:= λ {j k x} hn hk hx=>mv hR dh hro hn hk hx
 ·refine⟨eT.dM,λa ha=>?_,λa k x h hx=>?_,Nat.zero_le _,λa a' k k' x x' hne g1 g2 r1 r2 hb=>?_,λg gl vs g1 g2=>?_⟩
  rotate_right
  ·obtain⟨a,b,c⟩:=eT.gl g gl vs g1 g2;obtain⟨_,b0,_⟩:=hR.gl g gl vs g1 g2;refine⟨a,?_,c⟩;rintro⟨j,k,x,h,hx,hb⟩;rcases dk h with h|⟨_,_,h⟩
   ·exact b ⟨j,k,x,h,hx,hb⟩
   ·rw[jD h]at hx;exact b0 ⟨j,k,x,h,hx,hb⟩
  ·cases h:(gT aP (jy hin s.h)).get a with
   |none=>rfl
   |some k=>
    exfalso;have ha:u5<=a:=ha;rcases dk h with h|⟨_,_,h⟩
    ·have:=eT.top a ha;have this:aP.get a=none:=this;rw[h]at this;cases this
    ·have h6:=hlt h;have h7:nx<=u5:=aS.nx;omega
  ·rcases dk h with h|⟨_,hn,h⟩
   ·exact eT.blk a k x h hx
   ·rw[jD h]at hx;obtain⟨b1,b2⟩:=hR.blk a k x h hx;have hle:aK ρ aj:=aS.le HY;exact⟨Nat.lt_of_lt_of_le b1 aS.size,(b2.congr (aS.frame _ b1 (IW hn h hx)).1).mono hle⟩
  ·rcases dk g1 with g1|⟨_,n1,g1⟩
   ·rcases dk g2 with g2|⟨_,n2,g2⟩
    ·exact eT.aX a a' k k' x x' hne g1 g2 r1 r2 hb
    ·rw[jD g2]at r2;have:=(aS.frame _ (hR.blk a' k' x' g2 r2).1 (IW n2 g2 r2)).2;exact(this ⟨a,k,x,g1,r1,hb⟩).elim
   ·rw[jD g1]at r1;rcases dk g2 with g2|⟨_,n2,g2⟩
    ·have:=(aS.frame _ (hR.blk a k x g1 r1).1 (IW n1 g1 r1)).2;exact(this ⟨a',k',x',g2,r2,hb.symm⟩).elim
    ·rw[jD g2]at r2;exact hR.aX a a' k k' x x' hne g1 g2 r1 r2 hb
 ·refine⟨λa ha=>aS.jj a (by show a<nx;rw[hnx];exact ha),by rw[<-hnx];exact aS.nx,aS.tape,aS.os,aS.out,aS.size,λb hb hn=>?_,λa ha hn=>?_,aS.lp,kB.symm,λa ha=>by rw[kB]at ha;omega,λa k x ha=>by rw[kB]at ha;omega⟩
  ·have yG:¬aI ρ ⟨hin,nx,0⟩ b:=by
    rintro⟨j,k,x,e1,e2,e3⟩;exact hn ⟨j,k,x,dh _ _ e1,e2,e3⟩
   obtain⟨f1,f2⟩:=aS.frame b hb yG;refine⟨f1,?_⟩;rintro⟨j,k,x,e1,e2,e3⟩;rcases dk e1 with h|⟨_,_,h⟩
   ·exact f2 ⟨j,k,x,h,e2,e3⟩
   ·rw[jD h]at e2;exact hn ⟨j,k,x,h,e2,e3⟩
  ·show(gT aP (jy hin s.h)).get a=s.h.get a∨(gT aP (jy hin s.h)).get a=none;have Og:aP.get a=hin.get a∨aP.get a=none:=aS.ph a (by show a<nx;rw[hnx];exact ha) hn;rw[zt];cases h1:aP.get a with
   |some k=>
    rcases Og with h|h
    ·rw[h1]at h;exact .inl (dh a k h.symm).symm
    ·rw[h1]at h;cases h
   |none=>
    cases h2:hin.get a with
    |some _=>exact .inr rfl
    |none=>exact .inl rfl
structure LEntry where
 nx:Nat
 tm:T Value
 hin:T Blk
 x:bY
 M1:T Value
 aP:T Blk
 u5:Nat
noncomputable def C6 (e:LEntry) (tm:T Value) (s:AS):Bool:=
 ab (Nat.beq e.nx s.nx) (ab (Nat.beq s.ao 0) (ab (oO e.tm tm) (ab (CN e.hin) (uQ e.hin s.h) false) false) false) false
noncomputable def Ga (e:LEntry) (s:AS):Out:= .code e.x e.M1 ⟨gT e.aP (jy e.hin s.h),e.u5,0⟩
noncomputable def BG (es:List LEntry) (F:KO):KO:=List.rec (motive:= λ_=>KO) F (λe _ ih tm s=>ab (C6 e tm s) (Ga e s) (ih tm s)) es
noncomputable def tT (es:List LEntry) (a:KO) (n:Nat):KO:=Nat.rec (motive:= λ_=>KO) (λ_ _=> .no) (λ_ ih=>BG es (λtm s=>gn ih (a tm s))) n
noncomputable def fLoopT (es:List LEntry) (a:CF):CF:= λev tm s=>tT es (a ev) 1000000 tm s
noncomputable def Oh (a b:bY):Bool:=match a,b with
 | .normal,.normal=>true| .exit i,.exit j=>Nat.beq i j| .ret,.ret=>true|_,_=>false
theorem Ch {a b:bY} (h:Oh a b=true):a=b:=by
 unfold Oh at h;split at h
 ·rfl
 ·rw[Nat.eq_of_beq_eq_true h]
 ·rfl
 ·cases h
noncomputable def lOutIs (e:LEntry) (o:Out):Bool:=Out.rec (motive:= λ_=>Bool) false (λx tm s=>ab (Oh e.x x) (ab (oO e.M1 tm) (ab (Nat.beq s.nx e.u5) (ab (Nat.beq s.ao 0) (uQ e.aP s.h) false) false) false) false) (λ_ _=>false) o
def DN (P:Program) (aa nt:Nat) (c:Code) (tm:T Value) (s:AS) (x:bY) (tm':T Value) (s':AS):Prop:=
 ∃m,∀F,eL F->∀ρ a w,bD aa nt ρ tm a->∀n0:N0,n0.n<=w.heap.size->Marks n0 ρ s w a.defers->(∀l,F.round=some l->∃r,w.heap[l]? =some (Obj.loop r))->Rel P ρ s w->
  ∀Q,kF P n0 aa nt ρ s w x tm' s' Q->Code.roundsIn F 0 P c Q m a w
def gy (P:Program) (aa nt:Nat) (c:Code) (e:LEntry):Prop:=DN P aa nt c e.tm ⟨e.hin,e.nx,0⟩ e.x e.M1 ⟨e.aP,e.u5,0⟩
theorem rW:∀ {es:List LEntry} {F:KO} {tm:T Value} {s:AS},BG es F tm s=F tm s∨∃e∈es,C6 e tm s=true∧BG es F tm s=Ga e s
 | [],F,tm,s=> .inl rfl
 |e::es,F,tm,s=>by
  have h:BG (e::es) F tm s=ab (C6 e tm s) (Ga e s) (BG es F tm s):=rfl;rw[h];cases hh:C6 e tm s with
  |true=>exact .inr ⟨e,by simp,hh,rfl⟩
  |false=>
   rw[bS];rcases rW (es:=es) (F:=F) (tm:=tm) (s:=s)with h1|⟨e',h1,h2,h3⟩
   ·exact .inl h1
   ·exact .inr ⟨e',by simp[h1],h2,h3⟩
theorem Marks.less {n0:N0} {ρ:Ren} {s:AS} {h:T Blk} {nx lm:Nat} {w:World} {ds:List Deferred} (hM:Marks n0 ρ s w ds) (hs:∀j k,h.get j=some k->s.h.get j=some k):Marks n0 ρ ⟨h,nx,lm⟩ w ds:=
 hM.re λ_ ⟨r,h1,h2,h3,h4,h5⟩=>⟨r,h1,h2,h3,λ⟨a,k,x,e1,e2,e3⟩=>h4 ⟨a,k,x,hs a k e1,e2,e3⟩,h5⟩
theorem Aa {aa nt:Nat} {c:Code} {e:LEntry} (he:gy P aa nt c e) {tm:T Value} {s:AS} (hh:C6 e tm s=true):
  DN P aa nt c tm s e.x e.M1 ⟨gT e.aP (jy e.hin s.h),e.u5,0⟩:=by
 obtain⟨h1,hh⟩:=ah hh;obtain⟨h2,hh⟩:=ah hh;obtain⟨h3,hh⟩:=ah hh;obtain⟨h4,h5⟩:=ah hh;have hnx:=Nat.eq_of_beq_eq_true h1;have kB:=Nat.eq_of_beq_eq_true h2;have KJ:=cY h3;have hro:=m7 h4;have dh:=fz h5;obtain⟨m,he⟩:=he;refine⟨m,λF hF ρ a w hE n0 eR hM hL hR Q hQ=>?_⟩;have HY:Rel P ρ ⟨e.hin,e.nx,0⟩ w:=by have:=hR.less dh (Nat.zero_le s.nx);rw[hnx];exact this
 refine he F hF ρ a w ⟨hE.size,λt v h=>hE.tk t v (KJ t v h),λt v h=>hE.env t v (KJ t v h)⟩ n0 eR (hM.less dh) hL HY Q (λaj a' w' kV nU eT aS=>?_);obtain⟨eS,fI⟩:=Gu hnx kB hro dh hR HY eT aS;refine hQ aj a' w' kV (nU.re λd ⟨r,g1,g2,g3,g4,g5⟩=>⟨r,g1,g2,g3,?_,g5⟩) eS fI;rintro⟨j,k,x,q1,q2,q3⟩;rcases zu q1 with q1|⟨q0,SP,q1⟩
 ·exact g4 ⟨j,k,x,q1,q2,q3⟩
 ·have hlt:j<s.nx:=Nat.lt_of_not_le λhle=>by rw[hR.top j hle]at q1;cases q1
  have hr:aj j=ρ j:=fI.jj j hlt;rw[hr]at q2;obtain⟨b1,b2⟩:=hR.blk j k x q1 q2;have yG:¬aI ρ ⟨e.hin,e.nx,0⟩ x.b:=mv hR dh hro SP q1 q2;have hf:=(aS.frame x.b b1 yG).1;subst q3;rw[hf]at g2;exact oA b2 g2
theorem qY {aa nt:Nat} {c:Code} {f:CF} (hf:cV P aa nt c f) {es:List LEntry} (hes:∀e∈es,gy P aa nt c e) {ev:Ev} (hev:EvOk P ev):
  ∀(j:Nat) (tm:T Value) (s:AS) (x:bY) (tm':T Value) (s':AS),tT es (f ev) j tm s= .code x tm' s'->DN P aa nt c tm s x tm' s'
 |0,tm,s,x,tm',s',h=>by cases h
 |j+1,tm,s,x,tm',s',h=>by
  have h:BG es (λtm s=>gn (tT es (f ev) j) (f ev tm s)) tm s= .code x tm' s':=h;rcases rW (es:=es) (F:= λtm s=>gn (tT es (f ev) j) (f ev tm s)) (tm:=tm) (s:=s)with h1|⟨e,he,hh,h1⟩
  ·rw[h1]at h;have h:gn (tT es (f ev) j) (f ev tm s)= .code x tm' s':=h;cases ho:f ev tm s with
   |no=>rw[ho]at h;cases h
   |val=>rw[ho]at h;cases h
   |code e1 az s1=>
    rw[ho]at h;cases e1 with
    |normal=>have h:tT es (f ev) j az s1= .code x tm' s':=h;obtain⟨m,ih⟩:=qY hf hes hev j az s1 x tm' s' h;refine⟨m+1,λF hF ρ a w hE n0 eR hM hL hR Q hQ=>?_⟩;rw[roundsIn_succ];refine hf ev hev F hF ρ tm s a w .normal az s1 ho hE n0 eR hM hL hR _ (λbf a1 w1 cM gF de dq=>?_);exact ih F hF bf a1 w1 cM n0 (Nat.le_trans eR dq.size) gF (dc hL dq) de Q (λdu a2 w2 lX u7 eS fI=>hQ du a2 w2 lX u7 eS (dq.trans fI))
    |exit id=>cases h;exact⟨1,λF hF ρ a w hE n0 eR hM hL hR Q hQ=>hf ev hev F hF ρ tm s a w (.exit id) _ _ ho hE n0 eR hM hL hR _ (λbf a1 w1 cM gF de dq=>hQ bf a1 w1 cM gF de dq)⟩
    |goto l=>cases h;exact⟨1,λF hF ρ a w hE n0 eR hM hL hR Q hQ=>hf ev hev F hF ρ tm s a w (.goto l) _ _ ho hE n0 eR hM hL hR _ (λbf a1 w1 cM gF de dq=>hQ bf a1 w1 cM gF de dq)⟩
    |ret=>cases h;exact⟨1,λF hF ρ a w hE n0 eR hM hL hR Q hQ=>hf ev hev F hF ρ tm s a w .ret _ _ ho hE n0 eR hM hL hR _ (λbf a1 w1 cM gF de dq=>hQ bf a1 w1 cM gF de dq)⟩
  ·rw[h1]at h;have h:Ga e s= .code x tm' s':=h;cases h;exact Aa (hes e he) hh
theorem Ci {aa nt:Nat} {c:Code} {f:CF} (hf:cV P aa nt c f) {es:List LEntry} (hes:∀e∈es,gy P aa nt c e):cV P aa nt (.loop c) (fLoopT es f):= λev hev F hF ρ tm s a w x tm' s' h hE n0 eR hM hL hR Q hQ=>by obtain⟨m,hm⟩:=qY hf hes hev 1000000 tm s x tm' s' h;exact wpIn_loop_rounds m (hm F hF ρ a w hE n0 eR hM hL hR Q hQ)
theorem Cj {aa nt:Nat} {c:Code} {f:CF} (hf:cV P aa nt c f) {es:List LEntry} (hes:∀e∈es,gy P aa nt c e) {ev:Ev} (hev:EvOk P ev) {e:LEntry}
  (h:lOutIs e (fLoopT es f ev e.tm ⟨roomH e.hin,e.nx,0⟩)=true):gy P aa nt c e:=by
 cases ho:fLoopT es f ev e.tm ⟨roomH e.hin,e.nx,0⟩with
 |no=>rw[ho]at h;cases h
 |val=>rw[ho]at h;cases h
 |code x tm s=>rw[ho]at h;obtain⟨h1,h⟩:=ah h;obtain⟨h2,h⟩:=ah h;obtain⟨h3,h⟩:=ah h;obtain⟨h4,h5⟩:=ah h;have hx:=Ch h1;have KJ:=cY h2;have hnx:=Nat.eq_of_beq_eq_true h3;have kB:=Nat.eq_of_beq_eq_true h4;have dh:=fz h5;subst hx;obtain⟨sh,SQ,Pw⟩:=s;cases hnx;cases kB;obtain⟨m,hm⟩:=qY hf hes hev 1000000 _ _ _ _ _ ho;refine⟨m,λF hF ρ a w hE n0 eR hM hL hR Q hQ=>hm F hF ρ a w hE n0 eR (hM.re λd ⟨r,g1,g2,g3,g4,g5⟩=>⟨r,g1,g2,g3,λhh=>g4 (aI.room.1 hh),g5⟩) hL hR.room Q (λaj a' w' kV nU eT aS=>?_)⟩;refine hQ aj a' w' ⟨kV.size,λt v h=>kV.tk t v (KJ t v h),λt v h=>kV.env t v (KJ t v h)⟩ (nU.less dh) (eT.less dh (Nat.zero_le _)) (aS.less dh rfl).room
noncomputable def qh (P:Program) (fn nt aa:Nat) (lt:Nat->List LEntry) (n:Nat):Code->Nat->Option CF:=
 Nat.rec (motive:= λ_=>Code->Nat->Option CF) (λ_ _=>none) (λ_ k c p=>match c with
  | .seq a b=>ob (k a (2*p+1)) λa=>ob (k b (2*p+2)) λb=>some (CE a b)
  | .block id a=>ob (k a (2*p+1)) λa=>some (qt id a)
  | .scope a=>ob (k a (2*p+1)) λa=>some (qu a)
  | .cond x a b=>ob (bz aa [] x) λx=>ob (k a (2*p+1)) λa=>ob (k b (2*p+2)) λb=>some (xj x a b)
  | .loop a=>(match lt p with
   | []=>dv P fn nt aa (.loop a)
   |e::es=>ob (k a (2*p+1)) λa=>some (fLoopT (e::es) a))
  |c=>dv P fn nt aa c) n
def bT:Code->Nat->List (Nat×Code)
 | .seq a b,p=>bT a (2*p+1)++bT b (2*p+2)
 | .block _ a,p=>bT a (2*p+1)
 | .scope a,p=>bT a (2*p+1)
 | .cond _ a b,p=>bT a (2*p+1)++bT b (2*p+2)
 | .loop a,p=>(p,a)::bT a (2*p+1)
 |_,_=> []
theorem fS (hP:Plainly P) (hm:P.follows .mixedOrders=true) {aa nt fn:Nat} {lt:Nat->List LEntry}:∀(n:Nat) (c:Code) (p:Nat) (f:CF),(∀q∈bT c p,∀e∈lt q.1,gy P aa nt q.2 e)->qh P fn nt aa lt n c p=some f->cV P aa nt c f
 |0,c,p,f,_,h=>by cases h
 |n+1,c,p,f,hl,h=>by
  cases c with
  |seq a b=>have h:ob (qh P fn nt aa lt n a (2*p+1)) (λa=>ob (qh P fn nt aa lt n b (2*p+2)) λb=>some (CE a b))=some f:=h;obtain⟨fa,ha,h⟩:=U h;obtain⟨fb,hb,h⟩:=U h;cases h;exact Ed (fS hP hm n a _ fa (λq hq=>hl q (by simp[bT,hq])) ha) (fS hP hm n b _ fb (λq hq=>hl q (by simp[bT,hq])) hb)
  |block id a=>have h:ob (qh P fn nt aa lt n a (2*p+1)) (λa=>some (qt id a))=some f:=h;obtain⟨fa,ha,h⟩:=U h;cases h;exact xL (fS hP hm n a _ fa (λq hq=>hl q (by simp[bT,hq])) ha)
  |scope a=>have h:ob (qh P fn nt aa lt n a (2*p+1)) (λa=>some (qu a))=some f:=h;obtain⟨fa,ha,h⟩:=U h;cases h;exact xK (fS hP hm n a _ fa (λq hq=>hl q (by simp[bT,hq])) ha)
  |cond x a b=>have h:ob (bz aa [] x) (λx=>ob (qh P fn nt aa lt n a (2*p+1)) λa=>ob (qh P fn nt aa lt n b (2*p+2)) λb=>some (xj x a b))=some f:=h;obtain⟨fx,hx,h⟩:=U h;obtain⟨fa,ha,h⟩:=U h;obtain⟨fb,hb,h⟩:=U h;cases h;exact A5 hx (fS hP hm n a _ fa (λq hq=>hl q (by simp[bT,hq])) ha) (fS hP hm n b _ fb (λq hq=>hl q (by simp[bT,hq])) hb)
  |loop a=>
   have h:(match lt p with
    | []=>dv P fn nt aa (.loop a)
    |e::es=>ob (qh P fn nt aa lt n a (2*p+1)) λa=>some (fLoopT (e::es) a))=some f:=h
   cases hp:lt p with
   |nil=>rw[hp]at h;exact dJ hP hm _ f h
   |cons e es=>rw[hp]at h;obtain⟨fa,ha,h⟩:=U h;cases h;exact Ci (fS hP hm n a _ fa (λq hq=>hl q (by simp[bT,hq])) ha) (λe' fP=>hl (p,a) (by simp[bT]) e' (by rw[hp];exact fP))
  |skip=>exact dJ hP hm _ f h
  |region=>exact dJ hP hm _ f h
  |rangeFunc=>exact dJ hP hm _ f h
  |exit=>exact dJ hP hm _ f h
  |label=>exact dJ hP hm _ f h
  |goto=>exact dJ hP hm _ f h
  |ret=>exact dJ hP hm _ f h
  |refuse=>exact dJ hP hm _ f h
theorem Ji (hP:Plainly P) {f aa:Nat} {fn:Func} {c:Code} (hf:P.funcs[f]? =some fn) (hb:fn.body=some c) {t0:T Value} (fQ:mkT fn.ntmps=some t0) {b:CF} (hc:cV P aa fn.ntmps c b):FFOk P f (JT P aa t0 fn.results.toList b):=by intro ev hev args s v s' hr ρ w aq hR ha;unfold bb;rw[ft hP hf hb];exact El hf hb fQ hc hev hr hR ha
noncomputable def qB (P:Program) (f:Nat):Code:=match P.funcs[f]? with|some fn=>(match fn.body with|some c=>c|none=> .skip)|none=> .skip
noncomputable def BH (P:Program) (f:Nat):Nat:=match P.funcs[f]? with|some fn=>fn.ntmps|none=>0
noncomputable def vZ (p:Nat) (l:List (Nat×Code)):Code:=List.rec (motive:= λ_=>Code) .skip (λq _ ih=>ab (Nat.beq q.1 p) q.2 ih) l
noncomputable def vz (p:Nat) (l:List (Nat×Code)):Bool:=List.rec (motive:= λ_=>Bool) true (λq _ ih=>ab (Nat.beq q.1 p) false ih) l
noncomputable def DO (p:Nat) (l:List (Nat×Code)):Bool:=List.rec (motive:= λ_=>Bool) true (λq t ih=>ab (Nat.beq q.1 p) (vz p t) ih) l
theorem uE {p:Nat}:∀ {l:List (Nat×Code)},vz p l=true->∀q∈l,q.1≠p
 | [],_,q,hq=>by cases hq
 |r::l,h,q,hq=>by
  have h:ab (Nat.beq r.1 p) false (vz p l)=true:=h;cases hr:Nat.beq r.1 p with
  |true=>rw[hr]at h;cases h
  |false=>
   rw[hr]at h;rcases List.mem_cons.1 hq with rfl|hq
   ·exact Nat.ne_of_beq_eq_false hr
   ·exact uE h q hq
theorem x4 {p:Nat}:∀ {l:List (Nat×Code)},DO p l=true->∀q∈l,q.1=p->q.2=vZ p l
 | [],_,q,hq,_=>by cases hq
 |r::l,h,q,hq,he=>by
  have h:ab (Nat.beq r.1 p) (vz p l) (DO p l)=true:=h;show q.2=ab (Nat.beq r.1 p) r.2 (vZ p l);cases hr:Nat.beq r.1 p with
  |true=>
   rw[hr]at h;rcases List.mem_cons.1 hq with rfl|hq
   ·rfl
   ·exact(uE h q hq he).elim
  |false=>
   rw[hr]at h;rcases List.mem_cons.1 hq with rfl|hq
   ·rw[he,Nat.beq_refl]at hr;cases hr
   ·exact x4 h q hq he
noncomputable def vA (P:Program) (f p:Nat):Code:=vZ p (bT (qB P f) 0)
noncomputable def loopF (P:Program) (X:Cfg) (f p:Nat):CF:=Option.rec (motive:= λ_=>CF) (λ_ _ _=> .no) (λF=>F) (qh P f (BH P f) (jI X f) (λ_=> []) 500 (vA P f p) (2*p+1))
noncomputable def fnL (P:Program) (X:Cfg) (f p:Nat) (es:List LEntry):FF:=match P.funcs[f]? with
 |some fn=>(match mkT fn.ntmps,qh P f fn.ntmps (jI X f) (λq=>ab (Nat.beq q p) es []) 500 (qB P f) 0 with
  |some t0,some b=>JT P (jI X f) t0 fn.results.toList b
  |_,_=> λ_ _ _=> .no)
 |none=> λ_ _ _=> .no
abbrev LAt (P:Program) (X:Cfg) (f p:Nat) (e:LEntry):Prop:=gy P (jI X f) (BH P f) (vA P f p) e
theorem EP (hP:Plainly P) (hm:P.follows .mixedOrders=true) (X:Cfg) (f p:Nat):cV P (jI X f) (BH P f) (vA P f p) (loopF P X f p):=by
 unfold loopF;cases h:qh P f (BH P f) (jI X f) (λ_=> []) 500 (vA P f p) (2*p+1)with
 |none=>exact DL _
 |some F=>exact fS hP hm 500 _ _ F (λq _ e he=>by cases he) h
theorem lat_ok {X:Cfg} (hX:CfgOk P X) {f p:Nat} {es:List LEntry} (hes:∀e∈es,LAt P X f p e) {ev:Ev} (hev:EvOk P ev) {e:LEntry}
  (h:lOutIs e (fLoopT es (loopF P X f p) ev e.tm ⟨roomH e.hin,e.nx,0⟩)=true):LAt P X f p e:=Cj (EP hX.plain hX.mixed X f p) hes hev h
theorem fnL_okX {X:Cfg} (hX:CfgOk P X) {f p:Nat} {es:List LEntry} (h1:DO p (bT (qB P f) 0)=true) (hb:(P.funcs[f]?.bind (·.body)).isSome=true) (hes:∀e∈es,LAt P X f p e):FFOk P f (fnL P X f p es):=by
 have dg:FFOk P f (λ_ _ _=> .no):= λev hev args s v s' h=>by cases h
 unfold fnL;split
 ·rename_i fn hf;split
  ·rename_i t0 b fQ jE;cases hc:fn.body with
   |none=>rw[hf]at hb;simp[hc]at hb
   |some c=>
    have e1:qB P f=c:=by unfold qB;rw[hf];simp[hc]
    have e2:BH P f=fn.ntmps:=by unfold BH;rw[hf]
    refine Ji hX.plain hf hc fQ (fS hX.plain hX.mixed 500 c 0 b (λq hq e he=>?_) (by rw[<-e1];exact jE));by_cases Oi:q.1=p
    ·have J9:Nat.beq q.1 p=true:=by rw[Oi];exact Nat.beq_refl p
     rw[J9,bF]at he;rw[<-e1]at hq;have:=x4 h1 q hq Oi;rw[this,<-e2];exact hes e he
    ·have J9:Nat.beq q.1 p=false:=by cases h0:Nat.beq q.1 p with|false=>rfl|true=>exact(Oi (Nat.eq_of_beq_eq_true h0)).elim
     rw[J9,bS]at he;cases he
  ·exact dg
 ·exact dg
end Go.Eng
