import Derived.Test.YtaadbnppakcjnaaGreatDoorEngA
import Derived.Great.FillDense
import Derived.Laws.Tables
import Derived.Laws.BytesString
import Derived.Laws.IdiomStrings
import Derived.Lib.UnsafeStr
import Derived.Laws.StructEq
import Derived.ChangeKeysEq
import Derived.RangeFuncIn
import Derived.RangeFuncLeaves
import Derived.RangeFuncRecord
set_option linter.unusedVariables false
set_option linter.unusedSimpArgs false
/- An evaluator of the code of the model, proved: what it answers, the program does, whatever the world. Part of the proof of SolveKnown. -/
namespace Go.Eng
open Go
variable {P:Program} {ρ:Ren}
theorem o8 (off:Nat) (cs:Array Value) (l:List Value) (h:off+l.length<=cs.size):
  (l.zipIdx.foldl (λcs (x:Value×Nat)=>cs.setIfInBounds (off+x.2) x.1) cs)=(cs.toList.take off++l++cs.toList.drop (off+l.length)).toArray:=by
 obtain⟨h1,h2⟩:=Go.Great.foldl_set off l 0 cs;apply Array.ext_getElem?;intro k;rw[h2 k];simp only[Nat.add_zero,List.getElem?_toArray];by_cases hk:off<=k∧k<off+l.length∧k<cs.size
 ·rw[if_pos hk,List.append_assoc,List.getElem?_append_right (by simp;omega),List.getElem?_append_left (by simp;omega)];congr 1;simp;omega
 ·rw[if_neg hk];by_cases yD:k<off
  ·rw[List.append_assoc,List.getElem?_append_left (by simp;omega),List.getElem?_take_of_lt yD];simp
  ·rw[List.getElem?_append_right (by simp;omega),List.getElem?_drop];simp only[List.length_append,List.length_take,Array.length_toList,Array.getElem?_toList];congr 1;omega
theorem nk (v:Value) (off:Nat) (cs:Array Value):v.cells.zipIdx.foldl (λcs (c,j)=>cs.setIfInBounds (off+j) c) cs=v.cells.toList.zipIdx.foldl (λcs (x:Value×Nat)=>cs.setIfInBounds (off+x.2) x.1) cs:=by rw[<-Array.foldl_toList,Array.toList_zipIdx]
theorem xE {is:List Nat}:∀ {vs us:List Value},af ρ vs us->F2 (λp q=>p.1=q.1∧ag ρ p.2 q.2) (sD is vs) (sD is us):=by
 induction is with
 |nil=>intro vs us _;exact .nil
 |cons i is ih=>
  intro vs us h;cases h with
  |nil=>exact .nil
  |cons h hs=>exact .cons ⟨rfl,h⟩ (ih hs)
theorem o9 {place place':Nat->Option (Nat×Nat)} (hp:∀i q,place i=some q->place' i=some q):
  ∀ {ps AF:List (Nat×Value)},F2 (λp q=>p.1=q.1∧ag ρ p.2 q.2) ps AF->∀ {l r l':List Value},De place ps l=some r->af ρ l l'->∃r',Instr.fill place' l'.toArray AF=some r'.toArray∧af ρ r r':=by
 intro ps AF sN;induction sN with
 |nil=>intro l r l' h hl;cases h;exact⟨l',rfl,hl⟩
 | @cons p q ps AF Jw _ ih=>
  intro l r l' h hl;obtain⟨i,v⟩:=p;obtain⟨i',v'⟩:=q;obtain⟨h1,hv⟩:=Jw;simp only at h1 hv;subst h1;have h':ob (place i) (λq=>ab (Nat.beq (len v.cells.toList) q.2) (ob (Bf v.cells.toList l q.1) (De place ps)) none)=some r:=h;obtain⟨⟨off,sz⟩,hq,h'⟩:=U h';obtain⟨hlen,h'⟩:=ae h';obtain⟨l1,GD,h'⟩:=U h';have hlen:v.cells.toList.length=sz:=by rw[<-aZ];exact Nat.eq_of_beq_eq_true hlen
  obtain⟨Ip,hle⟩:=vN _ _ _ _ GD;have Jx:=hv.cells.length;have AH:=hl.length;have hrel:af ρ l1 (l'.take off++v'.cells.toList++l'.drop (off+v'.cells.toList.length)):=by rw[Ip,Jx];exact((hl.take off).append hv.cells).append (hl.drop _)
  obtain⟨r',er,HC⟩:=ih h' hrel;refine⟨r',?_,HC⟩;have hsz:v'.cells.size=sz:=by rw[<-hlen,Jx];simp
  have sO:off+v'.cells.toList.length<=l'.toArray.size:=by rw[<-Jx,List.size_toArray,<-AH];exact hle
  unfold Instr.fill;rw[hp _ _ hq];have hc:(decide (v'.cells.size≠sz)||decide (off+v'.cells.size>l'.toArray.size))=false:=by
   have:¬(off+v'.cells.size>l'.toArray.size):=by simp at sO⊢;omega
   simp[hsz]at this⊢;exact this
  simp only;rw[hc];simp only[Bool.false_eq_true,if_false];rw[nk,o8 off l'.toArray _ sO];exact er
theorem pM {t:TypeId} {fs:Array Field} (hu:P.underlying t=some (.struct fs)) (h:iB P t=true):
  ∃places,fs.toList.mapM (λ(f:Field)=>(P.info? f.type).map λi=>(f.offset,i.size))=some places∧∀(i:Nat) (f:Field) (n:Nat),fs[i]? =some f->aO P f.type=some n->places[i]? =some (f.offset,n):=by
 unfold iB at h;rw[hu]at h;simp only at h;have key:∀(l:List Field),(List.rec (motive:= λ_=>Bool) true (λ(f:Field) _ ih=>match P.info? f.type with|some _=>ih|none=>false) l)=true->
   ∃places,l.mapM (λ(f:Field)=>(P.info? f.type).map λi=>(f.offset,i.size))=some places∧∀(i:Nat) (f:Field) (n:Nat),l[i]? =some f->aO P f.type=some n->places[i]? =some (f.offset,n):=by
  intro l;induction l with
  |nil=>intro _;exact⟨[],rfl,λi f n h=>by simp at h⟩
  |cons f l ih=>
   intro h;simp only at h;cases hi:P.info? f.type with
   |none=>rw[hi]at h;cases h
   |some i=>
    rw[hi]at h;obtain⟨places,hp,hg⟩:=ih h;refine⟨(f.offset,i.size)::places,by simp[List.mapM_cons,hi,hp],λj g n hj hn=>?_⟩;cases j with
    |zero=>cases hj;unfold aO at hn;rw[hi]at hn;cases hn;rfl
    |succ j=>exact hg j g n (by simpa using hj) hn
 obtain⟨places,hp,hg⟩:=key _ h;exact⟨places,hp,λi f n hf=>hg i f n (by simpa using hf)⟩
theorem wt {t:TypeId} {is:List Nat} {vs us:List Value} {v:Value} (w:World) (h:za P t is vs=some v) (hv:af ρ vs us):∃u,(Instr.build t (sD is us).toArray).run P w= .ok u w∧ag ρ v u:=by
 unfold za at h;obtain⟨cB,h⟩:=ae h;obtain⟨z,hz,h⟩:=U h;obtain⟨r,hr,h⟩:=U h;cases h;obtain⟨zv,JA,rfl⟩:=lH hz;obtain⟨_,i,hi,Cu⟩:=g9 JA;have sN:=xE (is:=is) hv;have GF:af ρ zv.cells.toList zv.cells.toList:=(eY JA).cells;have hb:∃r',P.built t (sD is us)=some r'∧af ρ r r'.toList:=by
  unfold Program.built;rw[hi];cases hu:P.underlying t with
  |none=>unfold iB at cB;rw[hu]at cB;cases cB
  |some d=>
   cases d<;>try (unfold iB at cB;rw[hu]at cB;cases cB;done)
   case array n e=>
    unfold iB at cB;rw[hu]at cB;simp only at cB;cases Nw:P.info? e with
    |none=>rw[Nw]at cB;cases cB
    |some ie=>
     obtain⟨r',h1,h2⟩:=o9 (place':= λi=>some (i*ie.size,ie.size)) (λi q hq=>by unfold y9 at hq;rw[hu]at hq;obtain⟨n,hn,hq⟩:=U hq;unfold aO at hn;rw[Nw]at hn;cases hn;cases hq;rfl) sN hr GF
     simp only[Cu,Nw];exact⟨_,h1,h2⟩
   case struct fs=>
    obtain⟨places,hp,hg⟩:=pM hu cB;obtain⟨r',h1,h2⟩:=o9 (place':=(places.toArray[·]?)) (λi q hq=>by
     unfold y9 at hq;rw[hu]at hq;simp only at hq;split at hq
     ·rename_i f hf;obtain⟨n,hn,hq⟩:=U hq;cases hq;have:=hg i f n hf hn;simpa using this
     ·cases hq) sN hr GF
    simp only[Cu,hp];exact⟨_,h1,h2⟩
 obtain⟨r',h1,h2⟩:=hb;exact⟨_,run_build w t _ r' h1,.agg h2⟩
theorem yg {sz:Nat}:∀(i:Nat) (l r:List (List Value)) (x:List Value),ve x i l=some r->(∀e∈l,e.length=sz)->x.length=sz->r.flatten=l.flatten.take (i*sz)++x++l.flatten.drop (i*sz+sz)∧(∀e∈r,e.length=sz)∧i*sz+sz<=l.flatten.length:=by
 intro i;induction i with
 |zero=>
  intro l r x h hl hx;cases l with
  |nil=>cases h
  |cons a l=>
   cases h;have ha:=hl a (by simp);refine⟨?_,λe he=>?_,by simp;omega⟩
   ·simp only[List.flatten_cons,Nat.zero_mul,List.take_zero,List.nil_append,Nat.zero_add];rw[<-ha,List.drop_left]
   ·rcases List.mem_cons.1 he with rfl|he
    ·exact hx
    ·exact hl e (by simp[he])
 |succ i ih=>
  intro l r x h hl hx;cases l with
  |nil=>cases h
  |cons a l=>
   have h':ob (ve x i l) (λr=>some (a::r))=some r:=h;obtain⟨r',er,h'⟩:=U h';cases h';have ha:=hl a (by simp);obtain⟨h1,h2,h3⟩:=ih _ _ _ er (λe he=>hl e (by simp[he])) hx;refine⟨?_,λe he=>?_,by simp only[List.flatten_cons,List.length_append,Nat.add_mul];omega⟩
   ·have e1:(i+1)*sz=a.length+i*sz:=by rw[Nat.add_mul,ha];omega
    have e2:(i+1)*sz+sz=a.length+(i*sz+sz):=by rw[Nat.add_mul,ha];omega
    simp only[List.flatten_cons];rw[e2,e1,h1,List.take_append,List.drop_append];rw[List.take_of_length_le (l:=a) (by omega),@List.drop_eq_nil_of_le _ a _ (by omega)];simp
   ·rcases List.mem_cons.1 he with rfl|he
    ·exact ha
    ·exact h2 e he
theorem sj {sz:Nat}:∀ {ps AF:List (Nat×Value)},F2 (λp q=>p.1=q.1∧ag ρ p.2 q.2) ps AF->∀ {l r:List (List Value)} {l':List Value},qF sz ps l=some r->(∀e∈l,e.length=sz)->af ρ l.flatten l'->
  ∃r',Instr.fill (λi=>some (i*sz,sz)) l'.toArray AF=some r'.toArray∧af ρ r.flatten r':=by
 intro ps AF sN;induction sN with
 |nil=>intro l r l' h _ hl;cases h;exact⟨l',rfl,hl⟩
 | @cons p q ps AF Jw _ ih=>
  intro l r l' h hsz hl;obtain⟨i,v⟩:=p;obtain⟨i',v'⟩:=q;obtain⟨h1,hv⟩:=Jw;simp only at h1 hv;subst h1;have h':ab (Nat.beq (len v.cells.toList) sz) (ob (ve v.cells.toList i l) (qF sz ps)) none=some r:=h;obtain⟨hlen,h'⟩:=ae h';obtain⟨l1,GD,h'⟩:=U h';have hlen:v.cells.toList.length=sz:=by rw[<-aZ];exact Nat.eq_of_beq_eq_true hlen
  obtain⟨Ip,OC,hle⟩:=yg _ _ _ _ GD hsz hlen;have Jx:=hv.cells.length;have AH:=hl.length;have wY:v'.cells.toList.length=sz:=by rw[<-Jx,hlen]
  have hrel:af ρ l1.flatten (l'.take (i*sz)++v'.cells.toList++l'.drop (i*sz+v'.cells.toList.length)):=by rw[Ip,wY];exact((hl.take _).append hv.cells).append (hl.drop _)
  obtain⟨r',er,HC⟩:=ih h' OC hrel;refine⟨r',?_,HC⟩;have yP:v'.cells.size=sz:=by rw[<-wY];simp
  have sO:i*sz+v'.cells.toList.length<=l'.toArray.size:=by rw[wY,List.size_toArray,<-AH];exact hle
  unfold Instr.fill;have hc:(decide (v'.cells.size≠sz)||decide (i*sz+v'.cells.size>l'.toArray.size))=false:=by
   have:¬(i*sz+v'.cells.size>l'.toArray.size):=by simp at sO⊢;omega
   simp[yP]at this⊢;exact this
  simp only;rw[hc];simp only[Bool.false_eq_true,if_false];rw[nk,o8 (i*sz) l'.toArray _ sO];exact er
theorem oF {t:TypeId} {n:Nat} {is:List Nat} {s:AS} {vs:List Value} {r:Value×AS} (h:jY P t n is s vs=some r):
  ∃k,s.new k=some r.2∧∀ {ρ:Ren} {w:World} {us:List Value},ρ s.nx=none->af ρ vs us->Made P ρ w s.nx (Instr.buildSlice t n (sD is us).toArray) r.1 k:=by
 unfold jY at h;replace h:=U h;obtain⟨e,he,h⟩:=h;replace h:=U h;obtain⟨⟨sz,z⟩,E4,h⟩:=h;replace h:=ae h;obtain⟨hm,h⟩:=h;replace h:=U h;obtain⟨KP,h0,h⟩:=h;replace h:=U h;obtain⟨els,ea,h⟩:=h;obtain⟨k,hk,mq⟩:=rq (P:=P) h (Nat.le_refl _);refine⟨k,hk,λ {ρ w us} nz hv=>?_⟩;obtain⟨i,zv,hi,Cu,hz,hsz,lB,BJ,xb,GF,JA⟩:=dF (ρ:=ρ) E4;have h0:=pY _ _ _ h0;subst h0;have hm:n*sz<=16000000:=Nat.le_of_ble_eq_true hm;have hu:P.underlying t=some (.slice e):=by
  unfold pS at he;split at he
  ·rename_i hu;cases he;exact hu
  ·cases he
 have CQ:¬(n*sz>2^24):=by omega
 obtain⟨r',h1,h2⟩:=sj (xE (is:=is) hv) ea (λe he=>by rw[(List.mem_replicate.1 he).2];exact BJ) (af.replicate GF n);refine mq (w':=w.alloc (.cells r'.toArray e)) nz h2 ?_ rfl rfl rfl rfl;have Nv:zv.cells.size=sz:=by rw[<-BJ,hz];simp
 have jz:((Array.range (n*sz)).map (zv.cells[·%zv.cells.size]!))=((List.replicate n z).flatten).toArray:=by apply Array.ext';have:=lK z n;rw[BJ,hz]at this;rw[Nv];simpa[hz]using this
 have h1:Instr.fill (λi=>some (i*sz,sz)) ((List.replicate n z).flatten).toArray (sD is us)=some r'.toArray:=h1;simp only[Instr.buildSlice,Sem.run_bind,run_underlying hu,Result.andThen_ok,ax xb w,if_neg CQ,newRow];by_cases hn:n*sz=0
 ·have yV:((List.replicate n z).flatten).toArray= #[]:=by
   rw[<-jz,hn];simp
  have wO:Array.range 0= #[]:=by apply Array.ext';simp
  rw[yV]at h1;simp[hn,wO,h1]
 ·simp only[if_neg hn,Sem.run_bind,bU JA w,Sem.run_pure,Result.andThen_ok,jz,h1,run_newObj_alloc]
end Go.Eng
namespace Go.Eng
open Go
variable {P:Program} {ρ:Ren}
theorem yh {ts:Array TypeId} {e:TypeId} (he:qq P ts=some e):∃t0,ts[0]? =some t0∧P.underlying t0=some (.slice e):=by
 unfold qq lj at he;split at he
 ·rename_i e' fP;cases he;split at fP
  ·rename_i t ht;exact⟨t,ht,fP⟩
  ·cases fP
 ·cases he
theorem fY {ts:Array TypeId} {i:Nat} {d:TypeDesc} (h:lj P ts i=some d):∃t,ts[i]? =some t∧P.underlying t=some d:=by
 unfold lj at h;split at h
 ·rename_i t ht;exact⟨t,ht,h⟩
 ·cases h
theorem yi {ts:Array TypeId} {ty:TypeId} {s:AS} {w:World} {l l':List Value} {r:Value×AS} (hr:Rel P ρ s w) (h:copyA P ts s l=some r) (hl:af ρ l l'):
  jx P ρ s w (Builtin.copy_ ts ty l'.toArray) r:=by
 unfold copyA at h;replace h:=U h;obtain⟨e,he,h⟩:=h;replace h:=U h;obtain⟨sz,hs,h⟩:=h;obtain⟨t0,fQ,hu⟩:=yh he;split at h
 case h_2=>cases h
 rename_i base dl c y;obtain⟨x',y',rfl,hx,hy⟩:=af.two hl;replace h:=U h;obtain⟨n,hn,h⟩:=h;rw[ak]at h;replace h:=U h;obtain⟨els,ea,h⟩:=h;obtain⟨hlen,GG⟩:=uc (P:=P) w hn hy;obtain⟨a1,a2,cs,hcs,mc,hf⟩:=bt hr ea hy (λb m c e=>Nat.le_trans (Nat.min_le_left _ _) (GG b m c e));have h0:∀(x y:Value),(#[x,y]:Array Value)[0]? =some x:= λ_ _=>rfl;have h1:∀(x y:Value),(#[x,y]:Array Value)[1]? =some y:= λ_ _=>rfl;have eh:([x',y']:List Value).toArray= #[x',y']:=rfl;rw[eh];split at h
 ·cases h;cases hx;refine⟨ρ,_,w,?_,.int _ _,hr,.refl _ _ _⟩;simp only[Builtin.copy_,fQ,h0,h1,Sem.run_bind,run_underlying hu,Result.andThen_ok,hlen,ax hs w,hf,Sem.run_pure,goInt];rfl
 ·rename_i a;replace h:=U h;obtain⟨s',fu,h⟩:=h;cases h;cases hx with| @slice a x off dl c cap ad hx q1 q2 q3 q4 q5=>?_
  have hrun:∀w',(storeCells ad cs).run P w= .ok () w'->(Builtin.copy_ ts ty #[.slice (some ad) dl cap,y']).run P w= .ok (goInt (Nat.min n dl)) w':=by intro w' nS;simp only[Builtin.copy_,fQ,h0,h1,Sem.run_bind,run_underlying hu,Result.andThen_ok,hlen,ax hs w,hf,Sem.run_pure,nS]
  rcases Nat.eq_zero_or_pos (Nat.min n dl)with hm|hm
  ·rw[hm]at a2 mc;have:=List.length_eq_zero_iff.1 a2;subst this;cases fu;have:cs= []:=List.length_eq_zero_iff.1 (by rw[mc];simp);subst this;exact⟨ρ,_,w,hrun w rfl,.int _ _,hr,.refl _ _ _⟩
  ·have Ct:ad=⟨x.b,x.base+off,none⟩:=by
    rcases q4 with q4|q4
    ·exact q4
    ·have:=Nat.min_le_right n dl;have:Nat.min n dl<=dl:=this;omega
   subst Ct;obtain⟨w',kU,hR,hS⟩:=fj hx hr fu hcs a1;exact⟨ρ,_,w',hrun w' kU,.int _ _,hR,hS⟩
theorem aQ {w:World} {r:Nat} {o o':Obj} (h:w.heap[r]? =some o) (hc:∀c e f,o≠.cells c e f):(setObj r o').run P w= .ok () {w with heap:=w.heap.setIfInBounds r o'}:=by cases o<;>first|exact(hc _ _ _ rfl).elim|simp[setObj,Sem.run,h]
theorem au {w:World} {r:Nat} {o:Obj} (h:w.heap[r]? =some o) (hc:∀c e f,o≠.cells c e f):(getObj r).run P w= .ok o w:=by cases o<;>first|exact(hc _ _ _ rfl).elim|simp[getObj,Sem.run,h]
theorem Rel.setObj {s s':AS} {w:World} {a:Nat} {k k':Blk} {x:Loc} {o':Obj} (hr:Rel P ρ s w) (hs:s.set a (some k')=some s')
  (hk:s.h.get a=some k) (hro:dZ k=false) (hx:ρ a=some x) (hb:∀w':World,w'.heap[x.b]? =some o'->bX P ρ x w' k') (hlk:jK k=true->jK k'=true:=by intro h;cases h):
  Rel P ρ s' {w with heap:=w.heap.setIfInBounds x.b o'}∧aR ρ s w ρ s' {w with heap:=w.heap.setIfInBounds x.b o'}:=
 have hlt:=(hr.blk a k x hk hx).1
 Rel.write hr hs hk hro hx (by simp) (λb cr=>by simp[Ne.symm cr]) rfl rfl rfl (hb _ (by simp[hlt])) hlk
theorem wu {ts:Array TypeId} {ty:TypeId} {s:AS} {w:World} {l l':List Value} {r:Value×AS} (hr:Rel P ρ s w) (h:zh P ts s l=some r) (hl:af ρ l l'):
  jx P ρ s w (Builtin.clear_ ts ty l'.toArray) r:=by
 unfold zh at h;split at h
 ·rename_i xb;cases h;obtain⟨t0,fQ,hu⟩:=fY xb;obtain⟨x',rfl,hx⟩:=af.uS hl;cases hx;refine⟨ρ,_,w,?_,.tuple .nil,hr,.refl _ _ _⟩;have h0:∀(x:Value),(#[x]:Array Value)[0]? =some x:= λ_=>rfl;simp only[Builtin.clear_,fQ,h0,Sem.run_bind,run_underlying hu,Result.andThen_ok,Sem.run_pure]
 ·rename_i e a n c xb;obtain⟨t0,fQ,hu⟩:=fY xb;obtain⟨x',rfl,hx⟩:=af.uS hl;replace h:=U h;obtain⟨⟨sz,z⟩,E4,h⟩:=h;replace h:=U h;obtain⟨els,ea,h⟩:=h;replace h:=U h;obtain⟨s',fu,h⟩:=h;cases h;have ea:=pY _ _ _ ea;subst ea;obtain⟨i,zv,hi,Cu,hz,hsz,lB,BJ,S6,GF,JA⟩:=dF (ρ:=ρ) E4;have h0:∀(x:Value),(#[x]:Array Value)[0]? =some x:= λ_=>rfl;cases hx with| @slice a x off n c cap ad hx q1 q2 q3 q4 q5=>?_
  cases n with
  |zero=>cases fu;refine⟨ρ,_,w,?_,.tuple .nil,hr,.refl _ _ _⟩;simp only[Builtin.clear_,fQ,h0,Sem.run_bind,run_underlying hu,Result.andThen_ok,Sem.run_pure]
  |succ n=>
   have Ct:ad=⟨x.b,x.base+off,none⟩:=by
    rcases q4 with q4|q4
    ·exact q4
    ·omega
   subst Ct;obtain⟨w',kU,hR,hS⟩:=fj hx hr fu (af.replicate GF (n+1)) (λl hl=>by rw[(List.mem_replicate.1 hl).2];exact BJ);have P2:=gI zv.cells (n+1);rw[<-hz]at P2;refine⟨ρ,_,w',?_,.tuple .nil,hR,hS⟩;simp only[Builtin.clear_,fQ,h0,Sem.run_bind,run_underlying hu,Result.andThen_ok,Sem.run_pure,bU JA w,P2,kU]
 ·rename_i k e r' xb;obtain⟨t0,fQ,hu⟩:=fY xb;obtain⟨x',rfl,hx⟩:=af.uS hl;replace h:=bj h;obtain⟨kt,es,ck,hb,h⟩:=h;replace h:=U h;obtain⟨s',fu,h⟩:=h;cases h;have h0:∀(x:Value),(#[x]:Array Value)[0]? =some x:= λ_=>rfl;cases hx with| @map a x hx=>?_
  obtain⟨ents,hh,hm,_⟩:=(hr.blk _ _ x hb hx).2;have hS:=Rel.setObj (o':= .map #[] ck) hr fu hb rfl hx (λw' nS=>⟨#[],nS,⟨[],.nil,.nil,by simp⟩,by simp[Borns]⟩);refine⟨ρ,_,_,?_,.tuple .nil,hS.1,hS.2⟩;simp only[Builtin.clear_,fQ,h0,Sem.run_bind,run_underlying hu,Result.andThen_ok,Sem.run_pure,au hh (by simp),aQ hh (by simp)]
 ·cases h
end Go.Eng
namespace Go.Eng
open Go
variable {P:Program} {ρ:Ren}
theorem yj {src dst:TypeId} {ds d:TypeDesc} {x x' v:Value} (w:World) (hs:P.underlying src=some ds) (hd:P.underlying dst=some d) (h:Dl d x=some v) (hx:ag ρ x x'):
  ∃u,(convert src dst x').run P w= .ok u w∧ag ρ v u:=by
 unfold Dl at h;split at h
 ·rw[gu]at h;cases h;cases hx;refine⟨_,?_,.int _ _⟩;simp only[convert,Sem.run_bind,run_underlying hs,run_underlying hd,Result.andThen_ok,Conv.intToInt,Sem.run_pure]
 ·cases h;cases hx;refine⟨_,?_,.string _⟩;simp only[convert,Sem.run_bind,run_underlying hs,run_underlying hd,Result.andThen_ok,Conv.intToString,Sem.run_pure]
 ·cases h;cases hx;refine⟨_,?_,.string _⟩;simp only[convert,Sem.run_bind,run_underlying hs,run_underlying hd,Result.andThen_ok,Sem.run_pure]
 ·cases h
theorem nq:∀ {els:List (List Value)} {l:List UInt8},kI els=some l->els.flatten=l.map λ(b:UInt8)=>Value.int .u8 (b.toNat:Int):=by
 intro els;induction els with
 |nil=>intro l h;cases h;rfl
 |cons e els ih=>
  intro l h;have h':(match(generalizing:=false) e with
   | [.int k n]=>ab (sd k .u8) (ob (jv n) λn=>ab (Nat.blt n 256) (ob (kI els) λr=>some (UInt8.ofNat n::r)) none) none
   |_=>none)=some l:=h
  split at h'
  ·rename_i k n;obtain⟨hk,h'⟩:=ae h';obtain⟨m,hm,h'⟩:=U h';obtain⟨hlt,h'⟩:=ae h';obtain⟨r,hr,h'⟩:=U h';cases h';have hk:=jd.1 hk;have hm:=eX hm;subst hk hm;have hlt:m<256:=Nat.le_of_ble_eq_true hlt;rw[List.flatten_cons,ih hr];have e1:(UInt8.ofNat m).toNat=m:=by simp[UInt8.toNat_ofNat'];omega
   simp[e1]
  ·cases h'
theorem B6 {l:List UInt8} {m:List Value} (h:af ρ (l.map λ(b:UInt8)=>Value.int .u8 (b.toNat:Int)) m):m=l.map λ(b:UInt8)=>Value.int .u8 (b.toNat:Int):=
 af.plain h (λv hv=>by obtain⟨b,_,rfl⟩:=List.mem_map.1 hv;exact .int _ _)
theorem yk {src dst e:TypeId} {s:AS} {w:World} {x x' v:Value} (hr:Rel P ρ s w) (hs:P.underlying src=some (.slice e)) (he:P.underlying e=some (.int .u8)) (hd:P.underlying dst=some .string)
  (h:Dm s x=some v) (hx:ag ρ x x'):∃u,(convert src dst x').run P w= .ok u w∧ag ρ v u:=by
 unfold Dm at h;split at h
 ·rename_i base n c;replace h:=U h;obtain⟨els,ea,h⟩:=h;replace h:=U h;obtain⟨l,hl,h⟩:=h;cases h;obtain⟨_,a2,cs,hcs,mc,hf⟩:=bt hr ea hx (λb m c e=>by cases e;exact Nat.le_refl _);rw[nq hl]at hcs;have hcs:=B6 hcs;refine⟨.string ⟨⟨l⟩⟩,?_,.string _⟩;cases hx with
  |ba=>
   have:l= []:=by rw[Nat.zero_mul]at mc;rw[hcs,List.length_map]at mc;exact List.length_eq_zero_iff.1 mc
   subst this;have:(convert src dst (.slice none 0 0)).run P w= .ok (.string .empty) w:=by simp only[convert,Sem.run_bind,run_underlying hs,run_underlying hd,run_underlying he,Result.andThen_ok,Conv.bytesToString,Sem.run_pure]
   exact this
  |slice off n c cap ad hx q1 q2 q3 q4 q5=>
   have J2:(loadCells ad n).run P w= .ok ((l.map (λb=>(b.toNat:Int))).map (Value.int .u8)).toArray w:=by have:=hf;simp only[Builtin.firstCells,Nat.mul_one]at this;rw[this,hcs,List.map_map];rfl
   have:=run_bytesToString (P:=P) w ad n cap _ J2;rw[foldl_push_byteCells]at this;simp only[convert,Sem.run_bind,run_underlying hs,run_underlying hd,run_underlying he,Result.andThen_ok];rw[this];simp
 ·cases h
theorem zJ {src dst e:TypeId} {s:AS} {x:Value} {r:Value×AS} (hs:P.underlying src=some .string) (hd:P.underlying dst=some (.slice e)) (he:P.underlying e=some (.int .u8))
  (h:Dp e s x=some r):∃k,s.new k=some r.2∧∀ {ρ:Ren} {w:World} {x':Value},ρ s.nx=none->ag ρ x x'->Made P ρ w s.nx (convert src dst x') r.1 k:=by
 unfold Dp at h;split at h
 ·rename_i b;obtain⟨hle,h⟩:=ae h;obtain⟨els,ea,h⟩:=U h;have ea:=ni ea;subst ea;have hle:b.data.toList.length<=1000000:=by rw[<-aZ];exact Nat.le_of_ble_eq_true hle
  have hbs:b.size=b.data.toList.length:=by simp
  rw[aZ,<-hbs]at h;obtain⟨k,hk,mq⟩:=zI (P:=P) h;refine⟨k,hk,λ {ρ w x'} nz hx=>?_⟩;cases hx;have hrun:=run_bytes_of_string (P:=P) w src dst e b hs hd he;have wM:=grownCap_le w (need:=b.size) 0 e;have jz:bytesRow b (grownCap w b.size 0 e)=((b.data.toList.map λ(b:UInt8)=>Value.int .u8 (b.toNat:Int))++List.replicate (grownCap w b.size 0 e-b.size) (Value.int .u8 0)).toArray:=by apply Array.ext';simp[bytesRow]
  have hlen:(bytesRow b (grownCap w b.size 0 e)).size=grownCap w b.size 0 e:=by rw[jz];simp at hbs⊢;omega
  rw[hlen,jz]at hrun;exact mq (rest:=List.replicate (grownCap w b.size 0 e-b.size) (Value.int .u8 0)) (lo:=grownCap w b.size 0 e) (hi:=grownCap w b.size 0 e+1) (cap:=grownCap w b.size 0 e)
   (w':=w.drew.alloc (.cells ((b.data.toList.map λ(b:UInt8)=>Value.int .u8 (b.toNat:Int))++List.replicate (grownCap w b.size 0 e-b.size) (Value.int .u8 0)).toArray e (grownCap w b.size 0 e,grownCap w b.size 0 e+1)))
   nz (xC _) wM (by simp at hbs⊢;omega) (λo h1 h2=>⟨by simp at hbs⊢;omega,he⟩) hrun rfl rfl rfl rfl
 ·cases h
end Go.Eng
namespace Go.Eng
open Go
variable {P:Program} {ρ:Ren}
theorem gC {t:TypeId} {n:Nat} (h:aO P t=some n):P.cellsOf t=n:=by unfold aO at h;unfold Program.cellsOf;rw[h];rfl
theorem AZ {w:World} {b o n:Nat} {e:TypeId} (hs:w.shape? b=some (e,n)) (hc:(w.cell? ⟨b,o,none⟩).isSome=true):o<n:=by
 unfold World.shape? at hs;unfold World.cell? at hc;split at hs
 ·rename_i c el fr hb;cases hs;simp only[hb,Option.isSome_none,Bool.false_eq_true,if_false]at hc;rcases Nat.lt_or_ge o c.size with h|h
  ·exact h
  ·rw[Array.getElem?_eq_none h]at hc;cases hc
 ·cases hs
theorem pb {e:TypeId} {sz off count n:Nat} (hc:P.cellsOf e=sz) (h0:0<sz) (hm:off%sz=0) (hn:off/sz+n<=count):liesAt P P.depth e count off e n=true:=by
 have hd:P.depth=(2*(P.types.size+Made.depth)+1)+1:=rfl;rw[hd];simp only[liesAt,Bool.or_eq_true];left;rw[hd];have:¬sz=0:=by omega
 simp[rowAt,hc,hm,hn,sameLayout,this]
theorem zK {w:World} {b o:Nat} {sh:TypeId×Nat} (h:w.shape? b=some sh):(Conv.seenAt ⟨b,o,none⟩).run P w= .ok ⟨b,o,none⟩ w:=by
 have hv:(viewAt b).run P w= .ok none w:=by simp[viewAt,h]
 simp only[Conv.seenAt,Sem.run_bind,hv,Result.andThen_ok,Sem.run_pure]
theorem pc {d:Option TypeDesc} (h:vg d=true):d=some .unsafePointer:=by
 unfold vg at h;split at h
 ·rename_i d;have h:=Nat.eq_of_beq_eq_true h;cases d<;>first|rfl|(simp[TypeDesc.ctorIdx]at h)
 ·cases h
theorem pf {src dst e:TypeId} {back:Bool} {s:AS} {w:World} {x x' v:Value} (hr:Rel P ρ s w)
  (ht:(back=false∧P.underlying src=some (.pointer e)∧P.underlying dst=some .unsafePointer)∨(back=true∧P.underlying src=some .unsafePointer∧P.underlying dst=some (.pointer e)))
  (h:Ai P e back s x=some v) (hx:ag ρ x x'):∃u w',(convert src dst x').run P w= .ok u w'∧w'=w∧ag ρ v u:=by
 unfold Ai at h;split at h
 ·cases h;cases hx;refine⟨_,w,?_,rfl,.eO⟩;rcases ht with ⟨_,h1,h2⟩|⟨_,h1,h2⟩<;>simp only[convert,Conv.unsafePointer,Sem.run_bind,run_underlying h1,run_underlying h2,Result.andThen_ok,Sem.run_pure]
 ·rename_i a;replace h:=U h;obtain⟨n,hn,h⟩:=h;replace h:=bN h;obtain⟨c,sz,m,ro,et,hb,h⟩:=h;replace h:=ae h;obtain⟨h0,h⟩:=h;replace h:=ae h;obtain⟨hm,h⟩:=h;replace h:=ae h;obtain⟨hs,h⟩:=h;replace h:=U h;obtain⟨l,hl,h⟩:=h;replace h:=ae h;obtain⟨Nx,h⟩:=h;cases h;cases hx with| @ptr a x off hx=>?_
  obtain⟨_,hC⟩:=hr.blk _ _ x hb hx;have hC:aL P ρ x w c sz m ro et:=hC;have hs:=Nat.eq_of_beq_eq_true hs;subst hs;have h0:0<n:=Nat.le_of_ble_eq_true h0;have hm:off%n=0:=Nat.eq_of_beq_eq_true hm;obtain⟨q1,q2,q3⟩:=hC.cell _ _ hl;have Mp:off/n*n=off:=by have:=Nat.div_add_mod off n;rw[hm,Nat.mul_comm]at this;simpa using this
  have hall:∀j,j<n->x.base+off+j<x.ao:= λj hj=>by
   obtain⟨u,hu,_⟩:=q3 j _ (List.getElem?_eq_getElem (by omega));have e1:x.base+(Nat.div off n*n+j)=x.base+off+j:=by show x.base+(off/n*n+j)=x.base+off+j;omega
   rw[e1]at hu;exact AZ hC.shape (by rw[hu];rfl)
  refine⟨_,w,?_,rfl,.ptr off hx⟩;have eR:¬n=0:=by omega
  have KU:=zK (P:=P) (o:=x.base+off) hC.shape;rcases ht with ⟨_,h1,h2⟩|⟨wX,h1,h2⟩
  ·have MB:(cellsIn x.b).run P w= .ok (some x.ao) w:=by simp[cellsIn,hC.shape]
   have hlt:¬(x.base+off≥x.ao):=by have:=hall 0 h0;omega
   have dg:(decide (x.base+off≥x.ao)&&(⟨x.b,x.base+off,none⟩:Addr).spot.isNone)=false:=by rw[decide_eq_false hlt];rfl
   simp only[convert,Conv.unsafePointer,Sem.run_bind,run_underlying h1,run_underlying h2,Result.andThen_ok,Sem.run_pure,KU,MB,ax hn w,dg,eR,decide_false,Bool.or_self,Bool.false_eq_true,if_false]
  ·subst wX;have he:et=e:=Nat.eq_of_beq_eq_true Nx;subst he;obtain⟨q,hq⟩:=hC.mult;have fX:(x.base+off)%n=0:=by
    rw[hq,<-Mp,<-Nat.add_mul];simp
   have hlt:=hall (n-1) (by omega);have Iq:(variablesAt ⟨x.b,x.base+off,none⟩ et 1).run P w= .ok true w:=by
    have lW:(shape (⟨x.b,x.base+off,none⟩:Addr).block).run P w= .ok (some (et,x.ao)) w:=by rw[run_shape];exact congrArg (λz=>Result.ok z w) hC.shape
    have hle:(x.base+off)/n+1<=x.ao/n:=by rw[Nat.le_div_iff_mul_le h0,Nat.add_mul,Nat.one_mul];have:=Nat.div_add_mod (x.base+off) n;rw[fX,Nat.mul_comm]at this;omega
    simp only[variablesAt,Sem.run_bind,run_program,Result.andThen_ok,lW,Sem.run_pure,gC hn];rw[pb (gC hn) h0 fX hle]
   simp only[convert,Conv.unsafePointer,Sem.run_bind,run_underlying h1,run_underlying h2,Result.andThen_ok,Sem.run_pure,KU,ax hn w,Iq,eR,decide_false,Bool.or_true,if_true,Sem.run_pure]
 ·cases h
theorem yl {ts:Array TypeId} {ty:TypeId} {l l':List Value} {v:Value} (w:World) (h:Dk l=some v) (hl:af ρ l l'):
  ∃u,(Builtin.unsafeSliceData_ ts ty l'.toArray).run P w= .ok u w∧ag ρ v u:=by
 unfold Dk at h;split at h
 ·cases h;obtain⟨x',rfl,hx⟩:=af.uS hl;cases hx;exact⟨_,rfl,.eO⟩
 ·rename_i a0 n0 c0;obtain⟨x',rfl,hx⟩:=af.uS hl;replace h:=ae h;obtain⟨h0,h⟩:=h;cases h;cases hx with| @slice a x off _ _ cap ad hx q1 q2 q3 q4 q5=>?_
  have h0:0<c0/512:=Nat.le_of_ble_eq_true h0;have Ct:ad=⟨x.b,x.base+off,none⟩:=by
   rcases q4 with q4|q4
   ·exact q4
   ·omega
  subst Ct;exact⟨_,Go.Lib.run_unsafeSliceData_row w ts ty _ n0 cap (by omega),.ptr off hx⟩
 ·cases h
theorem Rel.freeze {s s':AS} {w w':World} {a:Nat} {x:Loc} {c:T (List Value)} {sz n:Nat} {ro:Bool} {et:TypeId} (hr:Rel P ρ s w) (hs:s.set a (some (.cells c sz n true et))=some s')
  (hk:s.h.get a=some (.cells c sz n ro et)) (hx:ρ a=some x) (hsz:w'.heap.size=w.heap.size) (hold:∀b,b≠x.b->w'.heap[b]? =w.heap[b]?)
  (hc:∀o,w'.cell? ⟨x.b,o,none⟩=w.cell? ⟨x.b,o,none⟩) (lW:w'.shape? x.b=w.shape? x.b)
  (ht:w'.tape=w.tape) (ho:w'.os=w.os) (hu:w'.output=w.output):Rel P ρ s' w'∧aR ρ s w ρ s' w':=by
 obtain⟨hnx,hg⟩:=AS.cD hs;have halt:a<s.nx:=by
  rcases Nat.lt_or_ge a s.nx with h|h
  ·exact h
  ·rw[hr.dM a h]at hx;cases hx
 obtain⟨hlt,hC⟩:=hr.blk _ _ x hk hx;have hC:aL P ρ x w c sz n ro et:=hC;have tr:∀ {y:Loc} {c' iX n' tz},y.b=x.b->∀ {yS},aL P ρ y w c' iX n' yS tz->aL P ρ y w' c' iX n' true tz:= λ {y c' iX n' tz} hy {yS} h=>
  ⟨λi l hl=>(let⟨p1,p2,p3⟩:=h.cell i l hl;⟨p1,p2,λj v hv=>by rw[hy,hc,<-hy];exact p3 j v hv⟩),λo ho=>by rw[hy,hc,<-hy];exact h.all o ho,λq=>(by cases q),(by rw[hy,lW,<-hy];exact h.shape),h.mult⟩
 refine(λ(hS:aR ρ s w ρ s' w')=>⟨⟨λa ha=>hr.dM a (by omega),λb hb=>?_,λb k2 y e e'=>?_,by rw[(AS.aT hs).1,hnx];exact hr.ao,λb b' k1 k2 x1 x2 cK e1 e2 r1 r2 jE=>?_,hr.gl.of hS.size hS.frame⟩,hS⟩) ⟨λ_ _=>rfl,by omega,ht,ho,hu,by omega,λb cr hn=>?_,λb cr hn=>?_,λb r cr=>?_,(AS.aT hs).1,AS.pX hs,λb k2 y hl _ yD hro hy=>hold _ (λe=>by
  have Q8:b≠a:=by have:=(AS.aT hs).2;omega
  have:=(hr.aX b a k2 _ y x Q8 yD hk hy hx e).1;rw[hro]at this;cases this)⟩
 ·have ir:b≠x.b:= λe=>hn ⟨a,_,x,hk,hx,e.symm⟩;refine⟨hold b ir,?_⟩;rintro⟨c,k2,y,e,e',rfl⟩;rw[hg]at e;by_cases hc:c=a
  ·rw[hc,hx]at e';cases e';exact ir rfl
  ·rw[if_neg hc]at e;exact hn ⟨c,k2,y,e,e',rfl⟩
 ·exact .inl (by rw[hg,if_neg (λe=>by rw[e,hx]at hn;cases hn)])
 ·by_cases ir:b=x.b
  ·subst ir;have:jK (.cells c sz n ro et)=true:=n9 (P:=P) (ρ:=ρ) cr (hr.blk _ _ x hk hx).2;cases this
  ·exact⟨r,by rw[hold b ir];exact cr⟩
 ·rw[hg,if_neg (by omega)];exact hr.top b (by omega)
 ·rw[hg]at e;by_cases cr:b=a
  ·subst cr;rw[if_pos rfl]at e;cases e;rw[hx]at e';cases e';exact⟨by rw[hsz];exact hlt,tr rfl hC⟩
  ·rw[if_neg cr]at e;obtain⟨h1,h2⟩:=hr.blk b k2 y e e';refine⟨by omega,?_⟩;by_cases BK:y.b=x.b
   ·have hro:=(hr.aX b a k2 _ y x cr e hk e' hx BK).1;cases k2 with
    |cells c2 s2 n2 Q9 Mm=>have hro:Q9=true:=hro;subst hro;exact tr BK h2
    |map=>cases hro
    |cE=>cases hro
    |mapIter=>cases hro
    |loop=>cases hro
    |pmap=>cases hro
   ·exact h2.congr (hold _ BK)
 ·have old:∀ {b k},s'.h.get b=some k->∃k0,s.h.get b=some k0∧(dZ k0=true->dZ k=true):= λ {b k} e=>by
   rw[hg]at e;by_cases hb:b=a
   ·rw[if_pos hb]at e;cases e;exact⟨_,by rw[hb];exact hk,λ_=>rfl⟩
   ·rw[if_neg hb]at e;exact⟨k,e,id⟩
  obtain⟨Ra,f1,g1⟩:=old e1;obtain⟨Rb,f2,g2⟩:=old e2;obtain⟨p1,p2⟩:=hr.aX b b' Ra Rb x1 x2 cK f1 f2 r1 r2 jE;exact⟨g1 p1,g2 p2⟩
theorem wv (w:World) (a:Addr) (n:Nat) (x:Addr):(w.freeze a n).cell? x=w.cell? x:=by
 unfold World.freeze;split
 ·rfl
 ·simp only[World.cell?,Array.getElem?_modify];by_cases h:a.block=x.block
  ·rw[if_pos h];cases hk:w.heap[x.block]? with
   |none=>simp
   |some o=>cases o<;>simp
  ·rw[if_neg h]
theorem tc (w:World) (a:Addr) (n:Nat) (r:Nat):(w.freeze a n).shape? r=w.shape? r:=by
 unfold World.freeze;split
 ·rfl
 ·simp only[World.shape?,Array.getElem?_modify];by_cases h:a.block=r
  ·rw[if_pos h];cases hk:w.heap[r]? with
   |none=>simp
   |some o=>cases o<;>simp
  ·rw[if_neg h]
theorem wx (w:World) (a:Addr) (n:Nat) (b:Nat) (h:b≠a.block):(w.freeze a n).heap[b]? =w.heap[b]?:=by
 unfold World.freeze;split
 ·rfl
 ·simp[Array.getElem?_modify,Ne.symm h]
theorem ym (w:World) (a:Addr) (n:Nat):(w.freeze a n).heap.size=w.heap.size:=by unfold World.freeze;split<;>simp
theorem yn (w:World) (a:Addr) (n:Nat):(w.freeze a n).tape=w.tape∧(w.freeze a n).os=w.os∧(w.freeze a n).output=w.output:=by unfold World.freeze;split<;>exact⟨rfl,rfl,rfl⟩
theorem zL {ts:Array TypeId} {ty:TypeId} {s:AS} {w:World} {l l':List Value} {r:Value×AS} (hr:Rel P ρ s w) (h:H6 P ts s l=some r) (hl:af ρ l l'):
  jx P ρ s w (Builtin.unsafeString_ ts ty l'.toArray) r:=by
 have CP:IntKind.i64.max=9223372036854775807:=rfl;unfold H6 at h;split at h
 ·rename_i u k xb;obtain⟨t0,fQ,hu⟩:=fY xb;obtain⟨x',y',rfl,hx,hy⟩:=af.two hl;cases hx;cases hy;cases h;refine⟨ρ,_,w,?_,.string _,hr,.refl _ _ _⟩;have eh:([Value.pointer none,.int k (.ofNat 0)]:List Value).toArray= #[.pointer none,.int k 0]:=rfl;rw[eh];have h1:¬((0:Int)<0):=by decide
  have h2:¬((0:Int)>IntKind.i64.max):=by decide
  rw[show Builtin.unsafeString_ ts ty #[.pointer none,.int k 0]=asInt (.int k 0)>>=_ from rfl];simp only[fQ,Sem.run_bind,kO,Result.andThen_ok,if_neg h1,if_neg h2,if_pos,Sem.run_pure];rfl
 ·rename_i u a k n xb;obtain⟨t0,fQ,hu⟩:=fY xb;obtain⟨x',y',rfl,hx,hy⟩:=af.two hl;replace h:=bN h;obtain⟨c,sz,m,ro,et,hb,h⟩:=h;replace h:=ae h;obtain⟨het,h⟩:=h;replace h:=ae h;obtain⟨hsz,h⟩:=h;replace h:=ae h;obtain⟨HD,h⟩:=h;replace h:=ae h;obtain⟨hn,h⟩:=h;replace h:=U h;obtain⟨els,ea,h⟩:=h;replace h:=U h;obtain⟨bs,hbs,h⟩:=h;replace h:=U h;obtain⟨s',fu,h⟩:=h;cases h;cases hy;cases hx with| @ptr a x off hx=>?_
  have het:=Nat.eq_of_beq_eq_true het;have hsz:=Nat.eq_of_beq_eq_true hsz;have HD:=Nat.eq_of_beq_eq_true HD;subst het hsz;have hn:n<1000000:=Nat.le_of_ble_eq_true hn;have CU:aO P et=some 1:=by
   cases hq:aO P et with
   |none=>rw[hq]at HD;cases HD
   |some q=>rw[hq]at HD;simp at HD;rw[HD]
  obtain⟨hlt,hC⟩:=hr.blk _ _ x hb hx;have hC:aL P ρ x w c 1 m ro et:=hC;obtain⟨Cs,hg⟩:=oe _ _ _ ea;have hlen:∀l∈els,l.length=1:= λl hl=>by obtain⟨i,hi⟩:=List.mem_iff_getElem?.1 hl;exact(hC.cell _ _ (hg i l hi)).2.1
  have Mq:=nq hbs;have hbl:bs.length=n:=by have:=gw hlen;rw[Mq,List.length_map,Cs]at this;omega
  have hcell:∀j (b:UInt8),bs[j]? =some b->w.cell? ⟨x.b,x.base+off+j,none⟩=some (.int .u8 b.toNat):=by
   intro j b hj;have hf:els.flatten[j]? =some (.int .u8 (b.toNat:Int)):=by rw[Mq];simp[hj]
   obtain⟨_,l,q1,q2⟩:=ub hlen hf;obtain⟨u,hu,er⟩:=(hC.cell _ _ (hg _ l q1)).2.2 _ _ q2;cases er;have e1:x.base+((off+j/1)*1+j%1)=x.base+off+j:=by simp[Nat.mod_one];omega
   have e2:x.base+(((⟨a,off,none⟩:Addr).off+j/1)*1+j%1)=x.base+off+j:=e1;rw[e2]at hu;exact hu
  have h1:¬(((n:Nat):Int)<0):=by omega
  have h2:¬(((n:Nat):Int)>IntKind.i64.max):=by rw[CP];omega
  have eh:([Value.pointer (some ⟨x.b,x.base+off,none⟩),.int k (.ofNat n)]:List Value).toArray= #[.pointer (some ⟨x.b,x.base+off,none⟩),.int k (n:Int)]:=rfl;rw[eh];cases n with
  |zero=>have:bs= []:=List.length_eq_zero_iff.1 hbl;subst this;obtain⟨hR,hS⟩:=Rel.freeze hr fu hb hx rfl (λ_ _=>rfl) (λ_=>rfl) rfl rfl rfl rfl;refine⟨ρ,_,w,?_,.string _,hR,hS⟩;rw[show Builtin.unsafeString_ ts ty #[.pointer (some ⟨x.b,x.base+off,none⟩),.int k ((0:Nat):Int)]=asInt (.int k ((0:Nat):Int))>>=_ from rfl];simp only[fQ,Sem.run_bind,kO,Result.andThen_ok,if_neg h1,if_neg h2];rfl
  |succ n=>
   have hne:¬(((n+1:Nat):Int)=0):=by omega
   have fK:x.base+off+n<x.ao:=by
    have Ni:n<bs.length:=by omega
    have:=hcell n _ (List.getElem?_eq_getElem Ni);exact AZ hC.shape (by rw[this];rfl)
   have Iq:(variablesAt ⟨x.b,x.base+off,none⟩ et (n+1)).run P w= .ok true w:=by
    have lW:(shape (⟨x.b,x.base+off,none⟩:Addr).block).run P w= .ok (some (et,x.ao)) w:=by rw[run_shape];exact congrArg (λz=>Result.ok z w) hC.shape
    simp only[variablesAt,Sem.run_bind,run_program,Result.andThen_ok,lW,Sem.run_pure,gC CU];rw[pb (gC CU) (by omega) (Nat.mod_one _) (by simp;omega)]
   have J2:=Go.Lib.run_loadBytes (P:=P) w bs ⟨x.b,x.base+off,none⟩ .empty (λj b hj=>by rw[cL];exact hcell j b hj);rw[hbl]at J2;obtain⟨f1,f2,f3⟩:=yn w ⟨x.b,x.base+off,none⟩ (n+1);obtain⟨hR,hS⟩:=Rel.freeze (w':=w.freeze ⟨x.b,x.base+off,none⟩ (n+1)) hr fu hb hx (ym _ _ _) (λb cr=>wx _ _ _ _ cr) (λ_=>wv _ _ _ _) (tc _ _ _ _) f1 f2 f3;refine⟨ρ,.string ⟨⟨bs⟩⟩,_,?_,.string _,hR,hS⟩;have LI:(elemOf t0).run P w= .ok et w:=by simp[elemOf,run_underlying hu]
   have e0:(⟨(ByteArray.empty).data++bs.toArray⟩:ByteArray)=⟨⟨bs⟩⟩:=by have:(ByteArray.empty).data= #[]:=rfl;rw[this];simp
   rw[e0]at J2;rw[show Builtin.unsafeString_ ts ty #[.pointer (some ⟨x.b,x.base+off,none⟩),.int k ((n+1:Nat):Int)]=asInt (.int k ((n+1:Nat):Int))>>=_ from rfl];simp only[fQ,Sem.run_bind,kO,Result.andThen_ok,if_neg h1,if_neg h2,if_neg hne,LI,Int.toNat_natCast,Iq,if_true,J2,run_freeze,Sem.run_pure]
 ·cases h
theorem wy {t:TypeId} {s:AS} {w:World} {x x':Value} {r:Value×AS} (hr:Rel P ρ s w) (h:ze P t s x=some r) (hx:ag ρ x x'):jx P ρ s w (Instr.range t x') r:=by
 unfold ze at h;split at h
 ·rename_i b hu;replace h:=U h;obtain⟨s',fu,h⟩:=h;cases h;cases hx;have yJ:(w.alloc (.stringIter b 0)).heap=w.heap.push (.stringIter b 0):=rfl;have hA:=Rel.alloc (P:=P) (x:=⟨w.heap.size,0,0,[]⟩) (w':=w.alloc (.stringIter b 0)) hr fu rfl (by simp[yJ]) (λc hc=>by simp[yJ,Array.getElem?_push,Nat.ne_of_lt hc]) rfl rfl rfl ⟨rfl,by simp[yJ]⟩;refine⟨_,_,_,?_,ag.ptr (x:=⟨w.heap.size,0,0,[]⟩) 0 (bC _ _ _),hA.1,hA.2⟩;simp only[Instr.range,Sem.run_bind,run_underlying hu,Result.andThen_ok,Sem.run_pure,run_newObj_alloc]
 ·rename_i k e hu;replace h:=U h;obtain⟨s',fu,h⟩:=h;cases h;cases hx;have yJ:(w.alloc (.mapIter none 0 #[] 0)).heap=w.heap.push (.mapIter none 0 #[] 0):=rfl;have hA:=Rel.alloc (P:=P) (x:=⟨w.heap.size,0,0,[]⟩) (w':=w.alloc (.mapIter none 0 #[] 0)) hr fu rfl (by simp[yJ]) (λc hc=>by simp[yJ,Array.getElem?_push,Nat.ne_of_lt hc]) rfl rfl rfl ⟨rfl,.inl ⟨rfl,by simp[yJ]⟩⟩;refine⟨_,_,_,?_,ag.ptr (x:=⟨w.heap.size,0,0,[]⟩) 0 (bC _ _ _),hA.1,hA.2⟩;simp only[Instr.range,Sem.run_bind,run_underlying hu,Result.andThen_ok,Sem.run_pure,run_newObj_alloc]
 ·rename_i m k e hu;replace h:=bj h;obtain⟨kt,es,ck,hb,h⟩:=h;replace h:=U h;obtain⟨s',fu,h⟩:=h;cases h;cases hx with| @map _ y hy=>?_
  obtain⟨ents,hh,_⟩:=(hr.blk _ _ y hb hy).2;have yJ:(w.alloc (.mapIter (some y.b) ck #[] ck)).heap=w.heap.push (.mapIter (some y.b) ck #[] ck):=rfl;have hA:=Rel.alloc (P:=P) (x:=⟨w.heap.size,0,0,[]⟩) (w':=w.alloc (.mapIter (some y.b) ck #[] ck)) hr fu rfl (by simp[yJ]) (λc hc=>by simp[yJ,Array.getElem?_push,Nat.ne_of_lt hc]) rfl rfl rfl ⟨rfl,.inr ⟨m,y,rfl,ik (hr.dM _ (Nat.le_refl _)) _ _ _ hy,by simp[yJ]⟩⟩;refine⟨_,_,_,?_,ag.ptr (x:=⟨w.heap.size,0,0,[]⟩) 0 (bC _ _ _),hA.1,hA.2⟩;simp only[Instr.range,Sem.run_bind,run_underlying hu,Result.andThen_ok,Sem.run_pure,au hh (by simp),run_newObj_alloc]
 ·cases h
theorem yo {ty:TypeId} {s:AS} {w:World} {x x':Value} {r:Value×AS} (hr:Rel P ρ s w) (h:Dj s x=some r) (hx:ag ρ x x'):jx P ρ s w (Instr.next x' true ty) r:=by
 unfold Dj at h;split at h
 ·rename_i a sp;split at h
  ·rename_i b pos hb;cases hx with| @ptr a y off hy=>?_
   obtain⟨_,h0,hh⟩:=hr.blk _ _ y hb hy;rw[h0];rw[ai]at h;split at h
   ·rename_i hlt;replace h:=U h;obtain⟨s',fu,h⟩:=h;cases h;have hlt:pos<b.size:=by
     have:pos<len b.data.toList:=Nat.le_of_ble_eq_true hlt;rw[aZ]at this;simpa using this
    have hS:=Rel.setObj (o':= .stringIter b (pos+(Utf8.decode b pos).2)) hr fu hb rfl hy (λw' nS=>⟨h0,nS⟩);refine⟨ρ,_,_,?_,.tuple (.cons (.bool _) (.cons (.int _ _) (.cons (.int _ _) .nil))),hS.1,hS.2⟩;simp only[Instr.next,Sem.run_bind,Sem.run_pure,Result.andThen_ok,au hh (by simp),if_pos hlt,aQ hh (by simp),goInt]
    try rfl
   ·rename_i hlt;cases h;have hlt:¬pos<b.size:= λh=>hlt (by
     have:pos<len b.data.toList:=by rw[aZ];simpa using h
     exact Nat.ble_eq_true_of_le this)
    refine⟨ρ,_,w,?_,.tuple (.cons (.bool _) .nil),hr,.refl _ _ _⟩;simp only[Instr.next,Sem.run_bind,Sem.run_pure,Result.andThen_ok,au hh (by simp),if_neg hlt]
    try rfl
  ·cases h
 ·cases h
theorem zM {ts:Array TypeId} {ty:TypeId} {s:AS} {w:World} {l l':List Value} {v:Value} (hr:Rel P ρ s w) (ht:zf (lj P ts 0)=true) (h:H4 s l=some v) (hl:af ρ l l'):
  ∃u,(Builtin.len_ ts ty l'.toArray).run P w= .ok u w∧ag ρ v u:=by
 have wN:∃t0 k e,ts[0]? =some t0∧P.underlying t0=some (.map k e):=by
  unfold zf at ht;split at ht
  ·rename_i k e xb;obtain⟨t0,h1,h2⟩:=fY xb;exact⟨t0,k,e,h1,h2⟩
  ·cases ht
 obtain⟨t0,k,e,fQ,hu⟩:=wN;have h0:∀(x:Value),(#[x]:Array Value)[0]? =some x:= λ_=>rfl;unfold H4 at h;split at h
 ·cases h;obtain⟨x',rfl,hx⟩:=af.uS hl;cases hx;refine⟨_,?_,.int _ _⟩;simp only[Builtin.len_,fQ,h0,Sem.run_bind,run_underlying hu,Result.andThen_ok,Sem.run_pure,goInt];rfl
 ·obtain⟨x',rfl,hx⟩:=af.uS hl;replace h:=bj h;obtain⟨kt,es,ck,hb,h⟩:=h;rw[ak]at h;cases h;cases hx with| @map a x hx=>?_
  obtain⟨ents,hh,⟨m,hp,hf,_⟩,_⟩:=(hr.blk _ _ x hb hx).2;refine⟨_,?_,.int _ _⟩;have hlen:len es=ents.size:=by
   rw[aZ];have h1:∀ {l:List (Value×Value×Nat)} {m:List MapEntry},F2 (λp e=>p.1=e.key∧aG P kt p.1=true∧Plain p.1∧ag ρ p.2.1 e.val∧(p.2.2=0∨p.2.2=e.born+1)) l m->l.length=m.length:=by
    intro l m h;induction h with
    |nil=>rfl
    |cons _ _ ih=>simp[ih]
   rw[h1 hf,hp.length_eq];simp
  simp only[Builtin.len_,fQ,h0,Sem.run_bind,run_underlying hu,Result.andThen_ok,Sem.run_pure,goInt,au hh (by simp),hlen];rfl
 ·cases h
end Go.Eng
namespace Go.Eng
open Go
variable {P:Program} {ρ:Ren}
theorem dG {k:KK} {ks:List KK} {l:List Value} (h:aN (k::ks) l=true):∃v r,l=v::r∧lz k v=true∧aN ks r=true:=by
 cases l with
 |nil=>cases h
 |cons v r=>
  have h':ab (lz k v) (aN ks r) false=true:=h;rw[ai]at h';split at h'
  ·exact⟨v,r,rfl,‹_›,h'⟩
  ·cases h'
theorem cJ {l:List Value} (h:aN [] l=true):l= []:=by
 cases l with
 |nil=>rfl
 |cons v r=>cases h
theorem wz:∀ {ks:List KK} {l:List Value},aN ks l=true->l.length=ks.length:=by
 intro ks;induction ks with
 |nil=>intro l h;rw[cJ h];rfl
 |cons k ks ih=>intro l h;obtain⟨v,r,rfl,_,h⟩:=dG h;simp[ih h]
theorem cg:∀ {a b:List KK} {l:List Value},aN (a++b) l=true->aN a (l.take a.length)=true∧aN b (l.drop a.length)=true:=by
 intro a;induction a with
 |nil=>intro b l h;exact⟨rfl,h⟩
 |cons k a ih=>intro b l h;obtain⟨v,r,rfl,h1,h2⟩:=dG h;obtain⟨h3,h4⟩:=ih h2;refine⟨?_,h4⟩;show ab (lz k v) (aN a (r.take a.length)) false=true;rw[h1];exact h3
theorem gJ:∀ {ks:List KK} {l:List Value},aN ks l=true->∀v∈l,Plain v∧cy v=true:=by
 intro ks;induction ks with
 |nil=>intro l h;rw[cJ h];intro v hv;cases hv
 |cons k ks ih=>
  intro l h;obtain⟨v,r,rfl,h1,h2⟩:=dG h;intro u hu;rcases List.mem_cons.1 hu with rfl|hu
  ·unfold lz at h1;split at h1
   ·exact⟨.int _ _,rfl⟩
   ·exact⟨.string _,rfl⟩
   ·exact⟨.bool _,rfl⟩
   ·cases h1
  ·exact ih h2 u hu
theorem yq {a:Option Bool} {ks:List KK} {v:Value} (h:fp a ks v=true):Plain v:=by
 unfold fp at h;split at h
 ·split at h
  ·exact .agg _ (λv hv=>(gJ h v hv).1)
  ·cases h
 ·split at h
  ·cases h
  ·exact(gJ h _ (by simp)).1
 ·cases h
theorem B7 {a:Option Bool} {ks:List KK} {v v':Value} (h:fp a ks v=true) (h':fp a ks v'=true):v=v'↔v.cells.toList=v'.cells.toList:=by
 refine⟨λe=>by rw[e],λe=>?_⟩;unfold fp at h h';split at h
 ·split at h
  ·simp only at h';split at h'
   ·exact congrArg Value.agg (Array.ext' e)
   ·cases h'
  ·cases h
 ·split at h
  ·cases h
  ·rename_i hne;simp only at h';split at h'
   ·cases h'
   ·rename_i cK;have e1:v.cells= #[v]:=by cases v<;>first|rfl|exact(hne _ rfl).elim
    have e2:v'.cells= #[v']:=by cases v'<;>first|rfl|exact(cK _ rfl).elim
    rw[e1,e2]at e;simpa using e
 ·cases h
theorem pg {d:Nat} {t:TypeId} {ks:List KK} (h:cT P d t=some ks):∃b,isAgg P t=some b∧(b=false->ks.length=1):=by
 cases d with
 |zero=>cases h
 |succ d=>
  unfold cT at h;unfold isAgg;cases hu:P.underlying t with
  |none=>rw[hu]at h;cases h
  |some D=>
   rw[hu]at h;cases D<;>first
    |(cases h;exact⟨false,rfl,λ_=>rfl⟩)
    |exact⟨true,rfl,λh=>by cases h⟩
    |(cases h;done)
theorem kP {t:TypeId} {ks:List KK} {cs:Array Value} {off d:Nat} (w:World) (hp:cT P d t=some ks) (hs:aO P t=some ks.length) (hc:aN ks ((cs.toList.drop off).take ks.length)=true):
  ∃v,(part t cs off).run P w= .ok v w∧fp (isAgg P t) ks v=true∧v.cells.toList=(cs.toList.drop off).take ks.length:=by
 obtain⟨b,hb,h1⟩:=pg hp;have hA:=jm hb w;rw[hb];cases b with
 |true=>
  have e:(cs.extract off (off+ks.length)).toList=(cs.toList.drop off).take ks.length:=by simp
  refine⟨.agg (cs.extract off (off+ks.length)),?_,?_,e⟩
  ·simp only[part,Sem.run_bind,hA,Result.andThen_ok,if_true,ax hs w,Sem.run_pure]
  ·show aN ks (cs.extract off (off+ks.length)).toList=true;rw[e];exact hc
 |false=>
  have hl:=h1 rfl;rw[hl]at hc⊢;have hlen:=wz hc;rw[hl]at hlen;have ma:off<cs.size:=by simp at hlen;omega
  have e:(cs.toList.drop off).take 1= [cs[off]]:=by rw[List.take_one];simp[ma]
  rw[e]at hc⊢;have lk:=(gJ hc cs[off] (by simp)).2;refine⟨cs[off],?_,?_,?_⟩
  ·simp only[part,Sem.run_bind,hA,Result.andThen_ok,Bool.false_eq_true,if_false,Array.getElem?_eq_getElem ma,Sem.run_pure]
  ·generalize cs[off]=v at hc lk;cases v<;>first|exact hc|cases lk
  ·generalize cs[off]=v at lk;cases v<;>first|rfl|cases lk
theorem jB {pl:TypeId->Option (List KK)} {f:Field} {fs:List Field} {off:Nat} {ks:List KK} (h:dS P pl (f::fs) off=some ks):
  f.name≠ "_"∧f.offset=off∧∃l r,pl f.type=some l∧aO P f.type=some l.length∧dS P pl fs (off+l.length)=some r∧ks=l++r:=by
 unfold dS at h;split at h
 ·cases h
 ·rename_i hc;simp only[Bool.or_eq_true,beq_iff_eq,bne_iff_ne,ne_eq,not_or,Decidable.not_not]at hc;split at h
  ·rename_i l hl;split at h
   ·rename_i hs;split at h
    ·rename_i r hr;cases h;exact⟨hc.1,hc.2,l,r,hl,by simpa using hs,hr,rfl⟩
    ·cases h
   ·cases h
  ·cases h
def tN (P:Program) (d dd:Nat):Prop:=∀(t:TypeId) (ks:List KK),cT P d t=some ks->∀w:World,
 (∀em v,fp (isAgg P t) ks v=true->(Instr.checkKey em dd t v).run P w= .ok () w)∧
 (∀v v',fp (isAgg P t) ks v=true->fp (isAgg P t) ks v'=true->∃r:Bool,(Op.equalIn dd t v v').run P w= .ok r w∧(r=true↔v=v'))
theorem A0 {d dd:Nat} (IH:tN P d dd) {t:TypeId} {ks:List KK} {xs ys:Array Value} {off:Nat} (w:World) (hp:cT P d t=some ks) (hs:aO P t=some ks.length)
  (hx:aN ks ((xs.toList.drop off).take ks.length)=true) (hy:aN ks ((ys.toList.drop off).take ks.length)=true):
  ∃a b r,(part t xs off).run P w= .ok a w∧(part t ys off).run P w= .ok b w∧(Op.equalIn dd t a b).run P w= .ok r w∧(r=true↔(xs.toList.drop off).take ks.length=(ys.toList.drop off).take ks.length):=by
 obtain⟨a,p1,f1,c1⟩:=kP w hp hs hx;obtain⟨b,p2,f2,c2⟩:=kP w hp hs hy;obtain⟨r,hr,mg⟩:=(IH t ks hp w).2 a b f1 f2;exact⟨a,b,r,p1,p2,hr,by rw[mg,B7 f1 f2,c1,c2]⟩
theorem xF (n:Nat) (a b:List Value):a=b↔a.take n=b.take n∧a.drop n=b.drop n:=
 ⟨λh=>by rw[h];exact⟨rfl,rfl⟩,λ⟨h1,h2⟩=>by rw[<-List.take_append_drop n a,<-List.take_append_drop n b,h1,h2]⟩
theorem yr {d dd:Nat} (IH:tN P d dd) (xs ys:Array Value):∀(fs:List Field) (off:Nat) (ks:List KK) (w:World),dS P (cT P d) fs off=some ks->aN ks (xs.toList.drop off)=true->aN ks (ys.toList.drop off)=true->
  ∃r:Bool,(Op.eqFields dd xs ys fs).run P w= .ok r w∧(r=true↔xs.toList.drop off=ys.toList.drop off):=by
 intro fs;induction fs with
 |nil=>intro off ks w h hx hy;cases h;rw[cJ hx,cJ hy];exact⟨true,rfl,by simp⟩
 |cons f fs ih=>
  intro off ks w h hx hy;obtain⟨hn,ho,l,r,hl,hs,hr,rfl⟩:=jB h;obtain⟨x1,x2⟩:=cg hx;obtain⟨y1,y2⟩:=cg hy;obtain⟨a,b,r1,p1,p2,p3,mg⟩:=A0 IH w hl hs x1 y1;rw[List.drop_drop]at x2 y2;obtain⟨r2,q,DE⟩:=ih _ _ w hr x2 y2;rw[xF l.length,List.drop_drop,List.drop_drop];subst ho;simp only[Op.eqFields,hn,ne_eq,not_false_eq_true,if_true,Sem.run_bind,p1,p2,p3,Result.andThen_ok];cases r1
  ·exact⟨false,by simp,by simp;intro e;exact absurd (mg.2 e) (by simp)⟩
  ·exact⟨r2,by simpa using q,by rw[DE];simp[mg.1 rfl]⟩
theorem zN {d dd:Nat} (IH:tN P d dd) (xs ys:Array Value) {e:TypeId} {l:List KK} (hl:cT P d e=some l) (hs:aO P e=some l.length):∀(n i:Nat) (w:World),aN (List.replicate n l).flatten (xs.toList.drop (i*l.length))=true->aN (List.replicate n l).flatten (ys.toList.drop (i*l.length))=true->
  ∃r:Bool,(Op.eqItems dd e l.length xs ys (List.range' i n)).run P w= .ok r w∧(r=true↔xs.toList.drop (i*l.length)=ys.toList.drop (i*l.length)):=by
 intro n;induction n with
 |zero=>intro i w hx hy;rw[cJ hx,cJ hy];exact⟨true,rfl,by simp⟩
 |succ n ih=>
  intro i w hx hy;rw[List.replicate_succ,List.flatten_cons]at hx hy;obtain⟨x1,x2⟩:=cg hx;obtain⟨y1,y2⟩:=cg hy;obtain⟨a,b,r1,p1,p2,p3,mg⟩:=A0 IH w hl hs x1 y1;rw[List.drop_drop,<-Nat.succ_mul]at x2 y2;obtain⟨r2,q,DE⟩:=ih _ w x2 y2;rw[xF l.length,List.drop_drop,List.drop_drop,<-Nat.succ_mul];simp only[List.range'_succ,Op.eqItems,Sem.run_bind,p1,p2,p3,Result.andThen_ok];cases r1
  ·exact⟨false,by simp,by simp;intro e;exact absurd (mg.2 e) (by simp)⟩
  ·exact⟨r2,by simpa using q,by rw[DE];simp[mg.1 rfl]⟩
theorem sk {d dd:Nat} (IH:tN P d dd) (em:Bool) (xs:Array Value) (w:World) {g:Field->PUnit->Sem (ForInStep PUnit)}
  (hg:∀f a,f.name≠ "_"->(part f.type xs f.offset).run P w= .ok a w->(Instr.checkKey em dd f.type a).run P w= .ok () w->(g f ⟨⟩).run P w= .ok (.yield ⟨⟩) w):
  ∀(fs:List Field) (off:Nat) (ks:List KK),dS P (cT P d) fs off=some ks->aN ks (xs.toList.drop off)=true->(forIn fs PUnit.unit g).run P w= .ok PUnit.unit w:=by
 intro fs;induction fs with
 |nil=>intro off ks h hx;rfl
 |cons f fs ih=>intro off ks h hx;obtain⟨hn,ho,l,r,hl,hs,hr,rfl⟩:=jB h;obtain⟨x1,x2⟩:=cg hx;rw[List.drop_drop]at x2;obtain⟨a,p1,f1,_⟩:=kP w hl hs x1;have yX:=(IH _ _ hl w).1 em a f1;subst ho;rw[List.forIn_cons];simp only[Sem.run_bind,hg f a hn p1 yX,Result.andThen_ok];exact ih _ _ hr x2
theorem td {d dd:Nat} (IH:tN P d dd) (em:Bool) (xs:Array Value) (w:World) {e:TypeId} {l:List KK} (hl:cT P d e=some l) (hs:aO P e=some l.length) {g:Nat->PUnit->Sem (ForInStep PUnit)}
  (hg:∀i a,(part e xs (i*l.length)).run P w= .ok a w->(Instr.checkKey em dd e a).run P w= .ok () w->(g i ⟨⟩).run P w= .ok (.yield ⟨⟩) w):
  ∀(n i:Nat),aN (List.replicate n l).flatten (xs.toList.drop (i*l.length))=true->(forIn (List.range' i n) PUnit.unit g).run P w= .ok PUnit.unit w:=by
 intro n;induction n with
 |zero=>intro i hx;rfl
 |succ n ih=>intro i hx;rw[List.replicate_succ,List.flatten_cons]at hx;obtain⟨x1,x2⟩:=cg hx;rw[List.drop_drop,<-Nat.succ_mul]at x2;obtain⟨a,p1,f1,_⟩:=kP w hl hs x1;have yX:=(IH _ _ hl w).1 em a f1;rw[List.range'_succ,List.forIn_cons];simp only[Sem.run_bind,hg i a p1 yX,Result.andThen_ok];exact ih _ x2
theorem eE {a:Option Bool} {k:KK} {v:Value} (ha:a=some false) (h:fp a [k] v=true):lz k v=true:=by
 subst ha;unfold fp at h;simp only at h;split at h
 ·cases h
 ·obtain⟨u,r,e,h1,_⟩:=dG h;cases e;exact h1
theorem iG {a:Option Bool} {ks:List KK} {v:Value} (ha:a=some true) (h:fp a ks v=true):∃cs,v= .agg cs∧aN ks cs.toList=true:=by
 subst ha;unfold fp at h;simp only at h;split at h
 ·exact⟨_,rfl,h⟩
 ·cases h
theorem zl:∀(d m:Nat),tN P d (m+d)
 |0,m=> λt ks h=>by cases h
 |d+1,m=> λt ks h w=>by
  have IH:=zl d m;have Rc:m+(d+1)=(m+d)+1:=rfl;rw[Rc];unfold cT at h;cases hu:P.underlying t with
  |none=>rw[hu]at h;cases h
  |some D=>
   rw[hu]at h;cases D<;>try (cases h;done)
   case bool=>
    have tB:isAgg P t=some false:=by unfold isAgg;rw[hu]
    cases h;refine⟨λem v hv=>?_,λv v' hv eu=>?_⟩
    ·have:=eE tB hv;cases v<;>try (cases this;done)
     simp only[Instr.checkKey,Sem.run_bind,run_underlying hu,Result.andThen_ok,Sem.run_pure]
    ·have h1:=eE tB hv;have h2:=eE tB eu;cases v<;>try (cases h1;done)
     cases v'<;>try (cases h2;done)
     exact⟨_,run_equalIn_bool' w _ t _ _ hu,by simp⟩
   case int k=>
    have tB:isAgg P t=some false:=by unfold isAgg;rw[hu]
    cases h;refine⟨λem v hv=>?_,λv v' hv eu=>?_⟩
    ·have:=eE tB hv;cases v<;>try (cases this;done)
     simp only[Instr.checkKey,Sem.run_bind,run_underlying hu,Result.andThen_ok,Sem.run_pure]
    ·have h1:=eE tB hv;have h2:=eE tB eu;cases v<;>try (cases h1;done)
     cases v'<;>try (cases h2;done)
     rename_i k1 a k2 b;have e1:k=k1:=jd.1 h1;have e2:k=k2:=jd.1 h2;subst e1 e2;exact⟨_,run_equalIn_int w _ t _ _ _ _ hu,by simp⟩
   case string=>
    have tB:isAgg P t=some false:=by unfold isAgg;rw[hu]
    cases h;refine⟨λem v hv=>?_,λv v' hv eu=>?_⟩
    ·have:=eE tB hv;cases v<;>try (cases this;done)
     simp only[Instr.checkKey,Sem.run_bind,run_underlying hu,Result.andThen_ok,Sem.run_pure]
    ·have h1:=eE tB hv;have h2:=eE tB eu;cases v<;>try (cases h1;done)
     cases v'<;>try (cases h2;done)
     refine⟨_,run_equalIn_string w _ t _ _ hu,?_⟩;rw[ByteArray.toList_eq,ByteArray.toList_eq,beq_iff_eq,Value.string.injEq];exact⟨λh=>ByteArray.ext (Array.ext' h),λh=>by rw[h]⟩
   case array n e=>
    have tB:isAgg P t=some true:=by unfold isAgg;rw[hu]
    simp only at h;split at h
    ·rename_i l hl;split at h
     ·rename_i hs;have hs:aO P e=some l.length:=by simpa using hs
      cases h;refine⟨λem v hv=>?_,λv v' hv eu=>?_⟩
      ·obtain⟨cs,rfl,hc⟩:=iG tB hv;simp only[Instr.checkKey,Sem.run_bind,run_underlying hu,Result.andThen_ok];simp only[Std.Legacy.Range.forIn_eq_forIn_range',Std.Legacy.Range.size,Nat.sub_zero,Nat.add_one_sub_one,Nat.div_one];rw[td IH em cs w hl hs (λi a h1 h2=>by simp only[Sem.run_bind,ax hs w,Result.andThen_ok,h1,h2,Sem.run_pure]) n 0 (by simpa using hc)];rfl
      ·obtain⟨xs,rfl,hx⟩:=iG tB hv;obtain⟨ys,rfl,hy⟩:=iG tB eu;have hi:∃i,P.info? e=some i:=by
        unfold aO at hs;cases hi:P.info? e with
        |none=>rw[hi]at hs;cases hs
        |some i=>exact⟨i,rfl⟩
       obtain⟨i,hi⟩:=hi;obtain⟨r,hr,mg⟩:=zN IH xs ys hl hs n 0 w (by simpa using hx) (by simpa using hy);refine⟨r,?_,?_⟩
       ·rw[run_equalIn_array (w:=w) (m+d) xs ys hu hi,gC hs,List.range_eq_range'];exact hr
       ·rw[mg];simp
     ·cases h
    ·cases h
   case struct fs=>
    have tB:isAgg P t=some true:=by unfold isAgg;rw[hu]
    simp only at h;split at h
    ·cases h
    ·rename_i kU;have kU:P.stoodInHeld t=false:=by simpa using kU
     refine⟨λem v hv=>?_,λv v' hv eu=>?_⟩
     ·obtain⟨cs,rfl,hc⟩:=iG tB hv;simp only[Instr.checkKey,Sem.run_bind,run_underlying hu,Result.andThen_ok];rw[<-Array.forIn_toList];rw[sk IH em cs w (λf a hn h1 h2=>by simp only[hn,ne_eq,not_false_eq_true,if_true,Sem.run_bind,Result.andThen_ok,h1,h2,Sem.run_pure]) fs.toList 0 ks h (by simpa using hc)];rfl
     ·obtain⟨xs,rfl,hx⟩:=iG tB hv;obtain⟨ys,rfl,hy⟩:=iG tB eu;have yH:P.fieldsOf t=fs:=by unfold Program.fieldsOf;rw[hu]
      obtain⟨r,hr,mg⟩:=yr IH xs ys fs.toList 0 ks w h (by simpa using hx) (by simpa using hy);refine⟨r,?_,by rw[mg];simp⟩;rw[run_equalIn_struct w (m+d) t xs ys (by rw[yH];exact hu) kU,yH];exact hr
end Go.Eng
namespace Go.Eng
open Go
variable {P:Program} {ρ:Ren}
theorem B8 {o k:Option Bool} {r:Bool} (h:andM o k=some r):(o=some true∧k=some r)∨(o=some false∧r=false):=by
 cases o with
 |none=>cases h
 |some b=>
  have h:ab b k (some false)=some r:=h;cases b with
  |true=>exact .inl ⟨rfl,h⟩
  |false=>have h:some false=some r:=h;cases h;exact .inr ⟨rfl,rfl⟩
theorem I9 {f:Value->Mt} (hf:∀a b r,f a b=some r->(r=true↔a=b)):∀(l m:List Value) (r:Bool),mL (mapM' f l) m=some r->(r=true↔l=m):=by
 intro l;induction l with
 |nil=>
  intro m r h;cases m with
  |nil=>have h:some true=some r:=h;cases h;simp
  |cons b m=>cases h
 |cons a l ih=>
  intro m r h;cases m with
  |nil=>cases h
  |cons b m=>
   have h:andM (f a b) (mL (mapM' f l) m)=some r:=h;rcases B8 h with ⟨Fs,h⟩|⟨Fs,rfl⟩
   ·have:=(hf a b true Fs).1 rfl;rw[ih m r h,this];simp
   ·have:¬a=b:= λe=>by have:=(hf a b false Fs).2 e;cases this
    simp[this]
theorem je:∀(d:Nat) (a b:Value) (r:Bool),tw d a b=some r->(r=true↔a=b):=by
 intro d;induction d with
 |zero=>intro a b r h;cases h
 |succ d ih=>
  intro a b r h;cases a with
  |bool x=>
   have h:mB x b=some r:=h;cases b with
   |bool y=>have h:some (ab x y (dz y))=some r:=h;cases h;cases x<;>cases y<;>simp[ai,dz]
   |_=>cases h
  |int k n=>
   have h:mI k n b=some r:=h;cases b with
   |int k' m=>have h1:ab (sd k k') (some (yC n m)) none=some r:=h;clear h;replace h1:=ae h1;obtain⟨hk,h1⟩:=h1;replace hk:=jd.1 hk;subst hk;cases h1;rw[nQ];simp
   |_=>cases h
  |string s=>
   have h:mS s.data.toList b=some r:=h;cases b with
   |string s'=>have h:some (Cn s.data.toList s'.data.toList)=some r:=h;cases h;rw[qx];simp only[beq_iff_eq,Value.string.injEq];exact⟨λh=>ByteArray.ext (Array.ext' h),λh=>by rw[h]⟩
   |_=>cases h
  |agg x=>
   have h:mA (mapM' (tw d) x.toList) b=some r:=h;cases b with
   |agg y=>have h:mL (mapM' (tw d) x.toList) y.toList=some r:=h;rw[I9 ih _ _ _ h,Value.agg.injEq];exact⟨λh=>Array.ext' h,λh=>by rw[h]⟩
   |_=>cases h
  |_=>cases h
theorem ry {k:Value} {d:Nat}:∀ {es:List (Value×Value×Nat)} {o:Option (Value×Nat)},tE (tw d k) es=some o->(∃v,o=some v∧(k,v)∈es)∨(o=none∧∀p∈es,p.1≠k):=by
 intro es;induction es with
 |nil=>intro o h;have h:some none=some o:=h;cases h;exact .inr ⟨rfl,λp hp=>by cases hp⟩
 |cons p es ih=>
  intro o h;obtain⟨k',v⟩:=p;have h:Option.rec (motive:= λ_=>Option (Option (Value×Nat))) none (λb=>ab b (some (some v)) (tE (tw d k) es)) (tw d k k')=some o:=h;cases hk:tw d k k' with
  |none=>rw[hk]at h;cases h
  |some b=>
   rw[hk]at h;cases b with
   |true=>have h:some (some v)=some o:=h;cases h;have:=(je _ _ _ _ hk).1 rfl;exact .inl ⟨v,rfl,by rw[this];simp⟩
   |false=>
    have h:tE (tw d k) es=some o:=h;have hne:k'≠k:= λe=>by have:=(je _ _ _ _ hk).2 e.symm;cases this
    rcases ih h with ⟨v',h1,h2⟩|⟨h1,h2⟩
    ·exact .inl ⟨v',h1,by simp[h2]⟩
    ·refine .inr ⟨h1,λp hp=>?_⟩;rcases List.mem_cons.1 hp with rfl|hp
     ·exact hne
     ·exact h2 p hp
theorem ki:∀(d i:Nat),T.get (kC d) i=none
 |0,i=>T.get_e i
 |d+1,i=>by
  have e:kC (d+1)= .n none (kC d) (kC d):=rfl;rw[e];rcases aA i with rfl|⟨m,rfl⟩|⟨m,rfl⟩
  ·rw[T.bp]
  ·rw[T.aH];exact ki d m
  ·rw[T.ay];exact ki d m
theorem xG:∀ {es:List an} {t:T (List an)},idx es=some t->∀i p,p∈bucket t i↔p∈es∧JQ p.1=i
 | [],t,h,i,p=>by have h:some (kC 11)=some t:=h;cases h;unfold bucket;rw[ki];exact⟨λh=>(by cases h),λh=>(by cases h.1)⟩
 |e::es,t,h,i,p=>by
  have h:ob (idx es) (λt=>Da e t)=some t:=h;obtain⟨t0,h0,h⟩:=U h;unfold Da at h;rw[ak]at h;have ih:=xG h0;unfold bucket;rw[T.bu _ _ _ _ h i];by_cases hi:i=JQ e.1
  ·rw[if_pos hi];show p∈e::bucket t0 (JQ e.1)↔_;rw[List.mem_cons,ih,List.mem_cons,hi];constructor
   ·rintro(rfl|⟨h1,h2⟩)
    ·exact⟨.inl rfl,rfl⟩
    ·exact⟨.inr h1,h2⟩
   ·rintro⟨h1|h1,h2⟩
    ·exact .inl h1
    ·exact .inr ⟨h1,h2⟩
  ·rw[if_neg hi];show p∈bucket t0 i↔_;rw[ih,List.mem_cons];constructor
   ·rintro⟨h1,h2⟩;exact⟨.inr h1,h2⟩
   ·rintro⟨h1|h1,h2⟩
    ·subst h1;exact(hi h2.symm).elim
    ·exact⟨h1,h2⟩
theorem gD {k:Value} {es:List (Value×Value×Nat)} {o:Option (Value×Nat)} (h:oJ k es=some o):(∃v,o=some v∧(k,v)∈es)∨(o=none∧∀p∈es,p.1≠k):=by
 have h2:tE (tw 8 k) es=some o∨Db k es=some o:=by unfold oJ at h;cases k<;>first|exact .inl h|exact .inr h
 rcases h2 with h|h
 ·exact ry h
 ·unfold Db at h;rw[ak]at h;obtain⟨t,ht,h⟩:=U h;have hb:=xG ht;rcases ry h with ⟨v,h1,h2⟩|⟨h1,h2⟩
  ·exact .inl ⟨v,h1,((hb _ _).1 h2).1⟩
  ·exact .inr ⟨h1,λp hp e=>h2 p ((hb _ _).2 ⟨hp,by rw[e]⟩) e⟩
theorem uf {k v:Value} {ck:Nat}:∀ {es bc:List (Value×Value×Nat)},uM k v ck es=some bc->(∃gk v0 b0 fk,es=gk++(k,v0,b0)::fk∧bc=gk++(k,v,b0)::fk)∨((∀p∈es,p.1≠k)∧bc=es++ [(k,v,ck)]):=by
 intro es;induction es with
 |nil=>intro o h;have h:some [(k,v,ck)]=some o:=h;cases h;exact .inr ⟨λp hp=>(by cases hp),rfl⟩
 |cons p es ih=>
  intro bc h;obtain⟨k',v',b'⟩:=p;have h:Option.rec (motive:= λ_=>Option (List (Value×Value×Nat))) none (λb=>ab b (some ((k,v,b')::es)) (ob (uM k v ck es) λr=>some ((k',v',b')::r))) (tw 8 k k')=some bc:=h;cases hk:tw 8 k k' with
  |none=>rw[hk]at h;cases h
  |some b=>
   rw[hk]at h;cases b with
   |true=>have h:some ((k,v,b')::es)=some bc:=h;cases h;have:=(je _ _ _ _ hk).1 rfl;subst this;exact .inl ⟨[],v',b',es,rfl,rfl⟩
   |false=>
    have h:ob (uM k v ck es) (λr=>some ((k',v',b')::r))=some bc:=h;have hne:k'≠k:= λe=>by have:=(je _ _ _ _ hk).2 e.symm;cases this
    obtain⟨r,hr,h⟩:=U h;cases h;rcases ih hr with ⟨gk,v0,b0,fk,rfl,rfl⟩|⟨h1,rfl⟩
    ·exact .inl ⟨(k',v',b')::gk,v0,b0,fk,rfl,rfl⟩
    ·refine .inr ⟨λp hp=>?_,rfl⟩;rcases List.mem_cons.1 hp with rfl|hp
     ·exact hne
     ·exact h1 p hp
theorem xH {k v:Value} {ck:Nat} {es bc:List (Value×Value×Nat)} {x:Value×Nat} (hm:(k,x)∈es) (h:uM k v ck es=some bc):∃gk v0 b0 fk,es=gk++(k,v0,b0)::fk∧bc=gk++(k,v,b0)::fk:=by
 rcases uf h with h|⟨h,_⟩
 ·exact h
 ·exact(h _ hm rfl).elim
theorem B9 {k:Value}:∀ {es bc:List (Value×Value×Nat)},FI k es=some bc->(∃gk v0 fk,es=gk++(k,v0)::fk∧bc=gk++fk)∨((∀p∈es,p.1≠k)∧bc=es):=by
 intro es;induction es with
 |nil=>intro o h;have h:some []=some o:=h;cases h;exact .inr ⟨λp hp=>(by cases hp),rfl⟩
 |cons p es ih=>
  intro bc h;obtain⟨k',v'⟩:=p;have h:Option.rec (motive:= λ_=>Option (List (Value×Value×Nat))) none (λb=>ab b (some es) (ob (FI k es) λr=>some ((k',v')::r))) (tw 8 k k')=some bc:=h;cases hk:tw 8 k k' with
  |none=>rw[hk]at h;cases h
  |some b=>
   rw[hk]at h;cases b with
   |true=>have h:some es=some bc:=h;cases h;have:=(je _ _ _ _ hk).1 rfl;subst this;exact .inl ⟨[],v',es,rfl,rfl⟩
   |false=>
    have h:ob (FI k es) (λr=>some ((k',v')::r))=some bc:=h;have hne:k'≠k:= λe=>by have:=(je _ _ _ _ hk).2 e.symm;cases this
    obtain⟨r,hr,h⟩:=U h;cases h;rcases ih hr with ⟨gk,v0,fk,rfl,rfl⟩|⟨h1,rfl⟩
    ·exact .inl ⟨(k',v')::gk,v0,fk,rfl,rfl⟩
    ·refine .inr ⟨λp hp=>?_,rfl⟩;rcases List.mem_cons.1 hp with rfl|hp
     ·exact hne
     ·exact h1 p hp
noncomputable def fL (k:Value):List MapEntry->Nat->Option (Nat×Value)
 | [],_=>none
 |e::es,i=> @ite _ (e.key=k) (Classical.propDecidable _) (some (i,e.val)) (fL k es (i+1))
theorem zO {k:Value}:∀ {l:List MapEntry} (j:Nat),(∀e∈l,e.key≠k)->fL k l j=none:=by
 intro l;induction l with
 |nil=>intro j _;rfl
 |cons e l ih=>intro j h;unfold fL;rw[if_neg (h e (by simp))];exact ih _ (λx hx=>h x (by simp[hx]))
theorem rz {k:Value} {e:MapEntry} (hk:e.key=k):∀ {l1 l2:List MapEntry} (j:Nat),(∀x∈l1,x.key≠k)->fL k (l1++e::l2) j=some (j+l1.length,e.val):=by
 intro l1;induction l1 with
 |nil=>intro l2 j _;show fL k (e::l2) j=_;unfold fL;rw[if_pos hk];rfl
 |cons x l1 ih=>intro l2 j h;show fL k (x::(l1++e::l2)) j=_;unfold fL;rw[if_neg (h x (by simp)),ih _ (λy hy=>h y (by simp[hy]))];simp only[List.length_cons];rw[show j+1+l1.length=j+(l1.length+1) by omega]
theorem pj {D:TypeDesc} {a b:Value} {r:Bool} (h:Instr.sameNow D a b=some r):r=true↔a=b:=by
 unfold Instr.sameNow at h;split at h
 ·split at h
  ·rename_i hk;subst hk;cases h;simp
  ·cases h
 ·cases h;rename_i a b;rw[beq_toListBytes,ByteArray.toList_eq,ByteArray.toList_eq,beq_iff_eq,Value.string.injEq];exact⟨λh=>ByteArray.ext (Array.ext' h),λh=>by rw[h]⟩
 ·cases h;simp
 ·cases h
theorem tf {D:TypeDesc} {k:Value}:∀ {l:List MapEntry} {i:Nat} {r:Option (Nat×Value)},Instr.findNow D k l i=some r->r=fL k l i:=by
 intro l;induction l with
 |nil=>intro i r h;cases h;rfl
 |cons e l ih=>
  intro i r h;unfold Instr.findNow at h;unfold fL;split at h
  ·rename_i hs;cases h;rw[if_pos ((pj hs).1 rfl).symm]
  ·rename_i hs;have hne:¬e.key=k:= λe=>by have:=(pj hs).2 e.symm;cases this
   rw[if_neg hne];exact ih h
  ·cases h
theorem eZ {kt:TypeId} {v:Value} (h:aG P kt v=true):∃ks,cT P 5 kt=some ks∧fp (isAgg P kt) ks v=true:=by
 unfold aG at h;split at h
 ·exact⟨_,‹_›,h⟩
 ·cases h
theorem cR {kt:TypeId} {v:Value} (h:aG P kt v=true):Plain v:=by obtain⟨ks,_,h⟩:=eZ h;exact yq h
theorem aD {kt:TypeId} {v:Value} (h:aG P kt v=true) (em:Bool) (w:World):(Instr.checkKey em 10000 kt v).run P w= .ok () w:=by obtain⟨ks,hk,h⟩:=eZ h;exact(zl 5 9995 kt ks hk w).1 em v h
theorem wB {kt:TypeId} {a b:Value} (ha:aG P kt a=true) (hb:aG P kt b=true) (w:World):∃r:Bool,(Op.equal kt a b).run P w= .ok r w∧(r=true↔a=b):=by obtain⟨ks,hk,ha⟩:=eZ ha;obtain⟨Tc,fE,hb⟩:=eZ hb;rw[hk]at fE;cases fE;exact(zl 5 9995 kt ks hk w).2 a b ha hb
theorem so {kt:TypeId} {k:Value} (hk:aG P kt k=true) (w:World):∀(l:List MapEntry) (i:Nat),(∀e∈l,aG P kt e.key=true)->(Instr.findAsking kt k l i).run P w= .ok (fL k l i) w:=by
 intro l;induction l with
 |nil=>intro i _;rfl
 |cons e l ih=>
  intro i h;obtain⟨r,hr,mg⟩:=wB hk (h e (by simp)) w;unfold Instr.findAsking fL;rw[Sem.run_bind,hr,Result.andThen_ok];cases r with
  |true=>rw[if_pos rfl,if_pos (mg.1 rfl).symm];rfl
  |false=>
   have hne:¬e.key=k:= λe=>by have:=mg.2 e.symm;cases this
   rw[if_neg (by simp),if_neg hne];exact ih _ (λx hx=>h x (by simp[hx]))
theorem cp {kt:TypeId} {k:Value} (hk:aG P kt k=true) (w:World) {l:List MapEntry} (h:∀e∈l,aG P kt e.key=true):(Instr.findKey kt k l).run P w= .ok (fL k l 0) w:=by
 have hu:∃D,P.underlying kt=some D:=by
  obtain⟨ks,hp,_⟩:=eZ hk;obtain⟨b,hb,_⟩:=pg hp;unfold isAgg at hb;split at hb
  ·exact⟨_,‹_›⟩
  ·exact⟨_,‹_›⟩
  ·exact⟨_,‹_›⟩
  ·cases hb
 obtain⟨D,hu⟩:=hu;unfold Instr.findKey;rw[Sem.run_bind,run_underlying hu,Result.andThen_ok];split
 ·rename_i r hr;rw[tf hr];rfl
 ·exact so hk w l 0 h
theorem F2.split {α β:Type} {R:α->β->Prop} {a:α} {l2:List α}:∀ {l1:List α} {m:List β},F2 R (l1++a::l2) m->∃m1 b m2,m=m1++b::m2∧F2 R l1 m1∧R a b∧F2 R l2 m2:=by
 intro l1;induction l1 with
 |nil=>intro m h;cases h with|cons h hs=>exact⟨[],_,_,rfl,.nil,h,hs⟩
 |cons x l1 ih=>
  intro m h;cases h with
  |cons h hs=>obtain⟨m1,b,m2,rfl,h1,h2,h3⟩:=ih hs;exact⟨_::m1,b,m2,rfl,.cons h h1,h2,h3⟩
theorem F2.append {α β:Type} {R:α->β->Prop} {l2:List α} {m2:List β} (h2:F2 R l2 m2):∀ {l1:List α} {m1:List β},F2 R l1 m1->F2 R (l1++l2) (m1++m2)
 |_,_,.nil=>h2
 |_,_,.cons h hs=> .cons h (F2.append h2 hs)
theorem F2.bZ {α β:Type} {R:α->β->Prop}:∀ {l:List α} {m:List β},F2 R l m->∀b∈m,∃a∈l,R a b
 |_,_,.nil,_,hb=>by cases hb
 |_,_,.cons h hs,b,hb=>by
  rcases List.mem_cons.1 hb with rfl|hb
  ·exact⟨_,by simp,h⟩
  ·obtain⟨a,ha,hr⟩:=F2.bZ hs b hb;exact⟨a,by simp[ha],hr⟩
abbrev bJ (P:Program) (ρ:Ren) (kt:TypeId) (p:Value×Value×Nat) (e:MapEntry):Prop:=p.1=e.key∧aG P kt p.1=true∧Plain p.1∧ag ρ p.2.1 e.val∧(p.2.2=0∨p.2.2=e.born+1)
theorem mV {kt:TypeId}:∀ {es:List (Value×Value×Nat)} {l:List MapEntry},F2 (bJ P ρ kt) es l->l.map (·.key)=es.map (·.1)
 |_,_,.nil=>rfl
 |_,_,.cons h hs=>by simp[mV hs,h.1]
theorem aW.fits {kt:TypeId} {es:List (Value×Value×Nat)} {ents:Array MapEntry} (h:aW P ρ kt es ents):∀e∈ents.toList,aG P kt e.key=true:=by obtain⟨l,hp,hf,hn⟩:=h;intro e he;obtain⟨p,_,h1,h2,_⟩:=F2.bZ hf e (hp.mem_iff.2 he);rw[<-h1];exact h2
theorem aW.nodup {kt:TypeId} {es:List (Value×Value×Nat)} {ents:Array MapEntry} (h:aW P ρ kt es ents):(ents.toList.map (·.key)).Nodup:=by obtain⟨l,hp,hf,hn⟩:=h;rw[<-(hp.map _).nodup_iff,mV hf];exact hn
theorem aW.nR {kt:TypeId} {es:List (Value×Value×Nat)} {ents:Array MapEntry} {k:Value} (h:aW P ρ kt es ents) (hk:∀p∈es,p.1≠k):fL k ents.toList 0=none:=by obtain⟨l,hp,hf,hn⟩:=h;refine zO 0 (λe he=>?_);obtain⟨p,nT,h1,_⟩:=F2.bZ hf e (hp.mem_iff.2 he);rw[<-h1];exact hk p nT
theorem aW.fR {kt:TypeId} {gk fk:List (Value×Value×Nat)} {ents:Array MapEntry} {k v:Value} {b:Nat} (h:aW P ρ kt (gk++(k,v,b)::fk) ents):
  ∃l1 e l2 t1 t2,F2 (bJ P ρ kt) gk l1∧bJ P ρ kt (k,v,b) e∧F2 (bJ P ρ kt) fk l2∧(l1++l2).Perm (t1++t2)∧ents.toList=t1++e::t2∧fL k ents.toList 0=some (t1.length,e.val):=by
 have dR:=h.nodup;obtain⟨l,hp,hf,hn⟩:=h;obtain⟨l1,e,l2,rfl,h1,h2,h3⟩:=hf.split;have he:e∈ents.toList:=hp.mem_iff.1 (by simp);obtain⟨t1,t2,ht⟩:=List.append_of_mem he;refine⟨l1,e,l2,t1,t2,h1,h2,h3,?_,ht,?_⟩
 ·rw[ht]at hp;have:=(List.perm_middle.symm.trans hp).trans List.perm_middle;exact this.cons_inv
 ·rw[ht]at dR⊢;have:=rz (l1:=t1) (l2:=t2) h2.1.symm 0 (λx hx Ny=>?_)
  ·rw[this,Nat.zero_add]
  ·rw[List.map_append,List.map_cons,List.nodup_append]at dR;exact dR.2.2 x.key (List.mem_map.2 ⟨x,hx,rfl⟩) e.key (by simp) (by rw[Ny];exact h2.1)
theorem wU.fits {kt:TypeId} {rest:List MapEntry} {es:List (Value×Value×Nat)} {ents:Array MapEntry} (h:wU P ρ kt rest es ents):∀e∈ents.toList,aG P kt e.key=true:=by
 obtain⟨l,hp,hf,hk,hn⟩:=h;intro e he;rcases List.mem_append.1 (hp.mem_iff.2 he)with he|he
 ·obtain⟨p,_,h1,h2,_⟩:=F2.bZ hf e he;rw[<-h1];exact h2
 ·exact hk e he
theorem wU.fR {kt:TypeId} {rest:List MapEntry} {gk fk:List (Value×Value×Nat)} {ents:Array MapEntry} {k v:Value} {b:Nat} (h:wU P ρ kt rest (gk++(k,v,b)::fk) ents):
  ∃l1 e l2 t1 t2,F2 (bJ P ρ kt) gk l1∧bJ P ρ kt (k,v,b) e∧F2 (bJ P ρ kt) fk l2∧(l1++l2++rest).Perm (t1++t2)∧ents.toList=t1++e::t2∧fL k ents.toList 0=some (t1.length,e.val)∧(∀e∈rest,aG P kt e.key=true)∧((l1++e::l2++rest).map (·.key)).Nodup:=by
 obtain⟨l,hp,hf,hk,hn⟩:=h;obtain⟨l1,e,l2,rfl,h1,h2,h3⟩:=hf.split;have he:e∈ents.toList:=hp.mem_iff.1 (by simp);obtain⟨t1,t2,ht⟩:=List.append_of_mem he;have dR:(ents.toList.map (·.key)).Nodup:=(hp.map _).nodup_iff.1 hn;refine⟨l1,e,l2,t1,t2,h1,h2,h3,?_,ht,?_,hk,hn⟩
 ·rw[ht,List.append_assoc,List.cons_append]at hp;have:=(List.perm_middle.symm.trans hp).trans List.perm_middle;rw[List.append_assoc];exact this.cons_inv
 ·rw[ht]at dR⊢;have:=rz (l1:=t1) (l2:=t2) h2.1.symm 0 (λx hx Ny=>?_)
  ·rw[this,Nat.zero_add]
  ·rw[List.map_append,List.map_cons,List.nodup_append]at dR;exact dR.2.2 x.key (List.mem_map.2 ⟨x,hx,rfl⟩) e.key (by simp) (by rw[Ny];exact h2.1)
theorem ug {β:Type} {a b:Option β} {v:β} (h:H2 a b=some v):a=some v∨b=some v:=by
 cases a with
 |none=>exact .inr h
 |some x=>exact .inl h
theorem pk {β:Type} {b:Option Blk} {k:TypeId->List (Value×Value×Nat)->Nat->Option β} {v:β} (h:vd b k=some v):∃kt es ck,b=some (.pmap kt es ck)∧k kt es ck=some v:=by
 unfold vd at h;split at h
 ·exact⟨_,_,_,rfl,h⟩
 ·cases h
theorem fe {t:TypeId} {ke:TypeId×TypeId} (h:keyOf P t=some ke):P.underlying t=some (.map ke.1 ke.2):=by
 unfold keyOf at h;split at h
 ·cases h;assumption
 ·cases h
theorem nr {e:TypeId} {ok:Bool} {v:Value} (h:ja P e ok none=some v):∃z,fF P e=some z∧ag ρ v (if ok then .tuple #[z,.bool false]else z):=by
 unfold ja at h;obtain⟨z,hz,h⟩:=U h;cases h;refine⟨z,hz,?_⟩;have:=eY (ρ:=ρ) hz;rw[ai];cases ok with
 |true=>exact .tuple (.cons this (.cons (.bool _) .nil))
 |false=>exact this
theorem pn {e:TypeId} {ok:Bool} {x u v:Value} {b:Nat} (h:ja P e ok (some (x,b))=some v) (hr:ag ρ x u):ag ρ v (if ok then .tuple #[u,.bool true]else u):=by
 unfold ja at h;cases h;rw[ai];cases ok with
 |true=>exact .tuple (.cons hr (.cons (.bool _) .nil))
 |false=>exact hr
theorem Borns.of {ck:Nat} {ents ents':Array MapEntry} {t1 t2:List MapEntry} {e0 e1:MapEntry} (h:Borns ck ents) (ht:ents.toList=t1++e0::t2) (wN:ents'.toList=t1++e1::t2) (hb:e1.born=e0.born):Borns ck ents':=by
 obtain⟨h1,h2⟩:=h;rw[ht]at h1 h2;refine⟨by rw[wN];simpa[hb]using h1,λe he=>?_⟩;rw[wN]at he;rcases List.mem_append.1 he with he|he
 ·exact h2 e (by simp[he])
 ·rcases List.mem_cons.1 he with rfl|he
  ·rw[hb];exact h2 e0 (by simp)
  ·exact h2 e (by simp[he])
theorem Borns.push {ck:Nat} {ents:Array MapEntry} {e:MapEntry} (h:Borns ck ents) (hb:e.born=ck):Borns (ck+1) (ents.push e):=by
 obtain⟨h1,h2⟩:=h;refine⟨?_,λx hx=>?_⟩
 ·rw[Array.toList_push,List.map_append,List.nodup_append];refine⟨h1,by simp,λa ha b cr=>?_⟩;obtain⟨x,hx,rfl⟩:=List.mem_map.1 ha;have:=h2 x hx;simp at cr;omega
 ·rw[Array.toList_push]at hx;rcases List.mem_append.1 hx with hx|hx
  ·have:=h2 x hx;omega
  ·simp at hx;subst hx;omega
theorem Borns.drop {ck:Nat} {ents ents':Array MapEntry} {t1 t2:List MapEntry} {e0:MapEntry} (h:Borns ck ents) (ht:ents.toList=t1++e0::t2) (wN:ents'.toList=t1++t2):Borns ck ents':=by
 obtain⟨h1,h2⟩:=h;rw[ht]at h1 h2;refine⟨?_,λe he=>?_⟩
 ·rw[wN,List.map_append];rw[List.map_append,List.map_cons]at h1;exact(List.nodup_cons.1 ((List.perm_middle.nodup_iff).1 h1)).2
 ·rw[wN]at he;rcases List.mem_append.1 he with he|he
  ·exact h2 e (by simp[he])
  ·exact h2 e (by simp[he])
theorem tg {s:AS} {w:World} {t:TypeId} {ok:Bool} {k k' x x' v:Value} (hr:Rel P ρ s w) (h:vF P s t ok k x=some v) (hk:ag ρ k k') (hx:ag ρ x x'):∃u,(Instr.lookup t x' k' ok).run P w= .ok u w∧ag ρ v u:=by
 unfold vF at h;replace h:=U h;obtain⟨⟨kt,e⟩,gU,h⟩:=h;replace h:=ae h;obtain⟨ee,h⟩:=h;replace gU:=fe gU;simp only at h ee gU;have wP:=cR ee;have:=hk.plain wP;subst this;split at h
 ·cases hx;obtain⟨z,hz,hv⟩:=nr (ρ:=ρ) h;refine⟨_,?_,hv⟩;have iY:=cp (P:=P) ee w (l:= []) (λe he=>by cases he);have iY:(Instr.findKey kt k' []).run P w= .ok none w:=iY;simp only[Instr.lookup,Sem.run_bind,run_underlying gU,Result.andThen_ok,Sem.run_pure,aD ee,iY,bU hz w]
 ·rename_i r;replace h:=ug h;rcases h with h|h
  ·replace h:=bj h;obtain⟨sK,es,ck,hb,h⟩:=h;replace h:=ae h;obtain⟨lx,h⟩:=h;replace h:=U h;obtain⟨o,ho,h⟩:=h;replace lx:=Nat.eq_of_beq_eq_true lx;subst lx;cases hx with| @map a y hy=>?_
   obtain⟨ents,hh,hm,iw⟩:=(hr.blk _ _ y hb hy).2;have iY:=cp (P:=P) ee w hm.fits;rcases gD ho with ⟨⟨v0,b0⟩,rfl,eb⟩|⟨rfl,dg⟩
   ·obtain⟨gk,fk,rfl⟩:=List.append_of_mem eb;obtain⟨l1,e0,l2,t1,t2,_,h2,_,_,_,hs⟩:=hm.fR;have hv:=pn h h2.2.2.2.1;rw[hs]at iY;refine⟨_,?_,hv⟩;simp only[Instr.lookup,Sem.run_bind,run_underlying gU,Result.andThen_ok,Sem.run_pure,au hh (by simp),aD ee,iY]
   ·obtain⟨z,hz,hv⟩:=nr (ρ:=ρ) h;rw[hm.nR dg]at iY;refine⟨_,?_,hv⟩;simp only[Instr.lookup,Sem.run_bind,run_underlying gU,Result.andThen_ok,Sem.run_pure,au hh (by simp),aD ee,iY,bU hz w]
  ·replace h:=pk h;obtain⟨sK,es,ck,hb,h⟩:=h;replace h:=ae h;obtain⟨lx,h⟩:=h;replace h:=U h;obtain⟨o,ho,h⟩:=h;replace h:=U h;obtain⟨q,rfl,h⟩:=h;replace lx:=Nat.eq_of_beq_eq_true lx;subst lx;cases hx with| @map a y hy=>?_
   obtain⟨ents,hh,hm,iw⟩:=(hr.blk _ _ y hb hy).2;have iY:=cp (P:=P) ee w hm.fits;rcases gD ho with ⟨⟨v0,b0⟩,he,eb⟩|⟨he,_⟩
   ·cases he;obtain⟨gk,fk,rfl⟩:=List.append_of_mem eb;obtain⟨l1,e0,l2,t1,t2,_,h2,_,_,_,hs,_⟩:=hm.fR;have hv:=pn h h2.2.2.2.1;rw[hs]at iY;refine⟨_,?_,hv⟩;simp only[Instr.lookup,Sem.run_bind,run_underlying gU,Result.andThen_ok,Sem.run_pure,au hh (by simp),aD ee,iY]
   ·cases he
 ·cases h
theorem sq:∀(d:Nat) {ks:List KK} {v:Value} {a:Option Bool},fp a ks v=true->Instr.sameBits (d+2) v v=true:=by
 intro d ks v a h;have cell:∀(n:Nat) (ks:List KK) (l:List Value),aN ks l=true->∀v∈l,Instr.sameBits (n+1) v v=true:=by
  intro n ks;induction ks with
  |nil=>intro l h;rw[cJ h];intro v hv;cases hv
  |cons k ks ih=>
   intro l h;obtain⟨v,r,rfl,h1,h2⟩:=dG h;intro u hu;rcases List.mem_cons.1 hu with rfl|hu
   ·unfold lz at h1;split at h1
    ·simp[Instr.sameBits]
    ·rename_i s;simp only[Instr.sameBits];rw[beq_toListBytes];simp
    ·simp[Instr.sameBits]
    ·cases h1
   ·exact ih r h2 u hu
 unfold fp at h;split at h
 ·split at h
  ·rename_i cs;simp only[Instr.sameBits,beq_self_eq_true,Bool.true_and,List.all_eq_true];intro p hp;obtain⟨i,hi⟩:=List.mem_iff_getElem?.1 hp;rw[List.getElem?_zip_eq_some]at hi;have e:p.1=p.2:=by
    have:=hi.1.symm.trans hi.2;simpa using this
   obtain⟨p1,p2⟩:=p;simp only at e;subst e;exact cell d _ _ h p1 (List.mem_of_getElem? hi.1)
  ·cases h
 ·split at h
  ·cases h
  ·exact cell (d+1) _ _ h v (by simp)
 ·cases h
theorem fV {kt:TypeId} {k:Value} (h:aG P kt k=true) (w:World):(Instr.keyThatStays k k).run P w= .ok k w:=by obtain⟨ks,_,h⟩:=eZ h;unfold Instr.keyThatStays;rw[if_pos (sq 9998 h)];rfl
theorem iV {s:AS} {w:World} {t:TypeId} {m m' k k' x x':Value} {r:Value×AS} (hr:Rel P ρ s w) (h:jl P t s m k x=some r) (hm:ag ρ m m') (hk:ag ρ k k') (hx:ag ρ x x'):
  vr P ρ s w (Instr.mapUpdate t m' k' x') r:=by
 unfold jl at h;replace h:=U h;obtain⟨⟨kt,e⟩,gU,h⟩:=h;replace h:=ae h;obtain⟨ee,h⟩:=h;replace gU:=fe gU;simp only at h ee gU;have wP:=cR ee;have:=hk.plain wP;subst this;split at h
 ·rename_i b;replace h:=ug h;rcases h with h|h
  ·replace h:=bj h;obtain⟨sK,es,ck,hb,h⟩:=h;replace h:=ae h;obtain⟨lx,h⟩:=h;replace h:=U h;obtain⟨o,ho,h⟩:=h;replace lx:=Nat.eq_of_beq_eq_true lx;subst lx;cases hm with| @map a y hy=>?_
   obtain⟨ents,hh,eI,iw⟩:=(hr.blk _ _ y hb hy).2;have iY:=cp (P:=P) ee w eI.fits;rcases gD ho with ⟨⟨vx,bx⟩,rfl,eb⟩|⟨rfl,dg⟩
   ·replace h:=U h;obtain⟨bc,hes,h⟩:=h;replace h:=U h;obtain⟨s',fu,h⟩:=h;cases h;obtain⟨gk,v0,b0,fk,rfl,rfl⟩:=xH eb hes;obtain⟨l1,e0,l2,t1,t2,h1,h2,h3,hp,ht,iu⟩:=eI.fR;have fX:(ents.modify t1.length λe=> {e with key:=k',val:=x'})=(t1++ {e0 with key:=k',val:=x'}::t2).toArray:=by
     apply Array.ext_getElem?;intro i;have hg:ents[i]? =(t1++e0::t2)[i]?:=by rw[<-ht];simp
     rw[Array.getElem?_modify,hg];simp only[List.getElem?_toArray];by_cases hi:t1.length=i
     ·subst hi;simp
     ·rw[if_neg hi];rcases Nat.lt_or_gt_of_ne hi with h|h
      ·rw[List.getElem?_append_right (by omega),List.getElem?_append_right (by omega)];obtain⟨q,hq⟩:∃q,i-t1.length=q+1:=⟨i-t1.length-1,by omega⟩
       rw[hq];rfl
      ·rw[List.getElem?_append_left h,List.getElem?_append_left h]
    have HE:(ents[t1.length]?).map (·.key)=some k':=by
     have:ents[t1.length]? =(t1++e0::t2)[t1.length]?:=by rw[<-ht];simp
     rw[this];simp;exact h2.1.symm
    have hS:=Rel.setObj (o':= .map (ents.modify t1.length λe=> {e with key:=k',val:=x'}) ck) hr fu hb rfl hy (λw' nS=>⟨_,nS,⟨l1++ {e0 with key:=k',val:=x'}::l2,by
     rw[fX];exact(List.perm_middle.trans (hp.cons _)).trans List.perm_middle.symm,F2.append (.cons ⟨rfl,h2.2.1,h2.2.2.1,hx,h2.2.2.2.2⟩ h3) h1,by
     have:=eI.choose_spec.2.2;simpa using this⟩,iw.of (e1:={e0 with key:=k',val:=x'}) ht (by rw[fX]) rfl⟩)
    refine⟨rfl,ρ,_,?_,hS.1,hS.2⟩;rw[iu]at iY;simp only[Instr.mapUpdate,Sem.run_bind,run_underlying gU,Result.andThen_ok,Sem.run_pure,au hh (by simp),aD ee,iY,HE,Option.getD_some,fV ee,aQ hh (by simp)]
   ·rw[ak]at h;replace h:=U h;obtain⟨s',fu,h⟩:=h;cases h;have iu:=eI.nR dg;obtain⟨l,hp,hf,hn⟩:=eI;have hS:=Rel.setObj (o':= .map (ents.push {key:=k',val:=x',born:=ck}) (ck+1)) hr fu hb rfl hy (λw' nS=>⟨_,nS,⟨{key:=k',val:=x',born:=ck}::l,by
     rw[Array.toList_push];exact(hp.cons _).trans (List.perm_append_singleton _ _).symm,.cons ⟨rfl,ee,wP,hx,.inr rfl⟩ hf,by
     rw[List.map_cons,List.nodup_cons];refine⟨λha=>?_,hn⟩;obtain⟨p,nT,he⟩:=List.mem_map.1 ha;exact dg p nT he⟩,iw.push rfl⟩)
    refine⟨rfl,ρ,_,?_,hS.1,hS.2⟩;rw[iu]at iY;simp only[Instr.mapUpdate,Sem.run_bind,run_underlying gU,Result.andThen_ok,Sem.run_pure,au hh (by simp),aD ee,iY,aQ hh (by simp)]
  ·replace h:=pk h;obtain⟨sK,es,ck,hb,h⟩:=h;replace h:=ae h;obtain⟨lx,h⟩:=h;replace h:=U h;obtain⟨o,ho,h⟩:=h;replace h:=U h;obtain⟨q,rfl,h⟩:=h;replace lx:=Nat.eq_of_beq_eq_true lx;subst lx;cases hm with| @map a y hy=>?_
   obtain⟨ents,hh,eI,iw⟩:=(hr.blk _ _ y hb hy).2;have iY:=cp (P:=P) ee w eI.fits;rcases gD ho with ⟨⟨vx,bx⟩,he,eb⟩|⟨he,_⟩
   ·cases he;replace h:=U h;obtain⟨bc,hes,h⟩:=h;replace h:=U h;obtain⟨s',fu,h⟩:=h;cases h;obtain⟨gk,v0,b0,fk,rfl,rfl⟩:=xH eb hes;obtain⟨l1,e0,l2,t1,t2,h1,h2,h3,hp,ht,iu,Re,P3⟩:=eI.fR;have fX:(ents.modify t1.length λe=> {e with key:=k',val:=x'})=(t1++ {e0 with key:=k',val:=x'}::t2).toArray:=by
     apply Array.ext_getElem?;intro i;have hg:ents[i]? =(t1++e0::t2)[i]?:=by rw[<-ht];simp
     rw[Array.getElem?_modify,hg];simp only[List.getElem?_toArray];by_cases hi:t1.length=i
     ·subst hi;simp
     ·rw[if_neg hi];rcases Nat.lt_or_gt_of_ne hi with h|h
      ·rw[List.getElem?_append_right (by omega),List.getElem?_append_right (by omega)];obtain⟨q,hq⟩:∃q,i-t1.length=q+1:=⟨i-t1.length-1,by omega⟩
       rw[hq];rfl
      ·rw[List.getElem?_append_left h,List.getElem?_append_left h]
    have HE:(ents[t1.length]?).map (·.key)=some k':=by
     have:ents[t1.length]? =(t1++e0::t2)[t1.length]?:=by rw[<-ht];simp
     rw[this];simp;exact h2.1.symm
    have hS:=Rel.setObj (o':= .map (ents.modify t1.length λe=> {e with key:=k',val:=x'}) ck) hr fu hb rfl hy (λw' nS=>⟨_,nS,⟨l1++ {e0 with key:=k',val:=x'}::l2,by
     rw[fX];rw[List.append_assoc,List.cons_append];rw[List.append_assoc]at hp;exact(List.perm_middle.trans (hp.cons _)).trans List.perm_middle.symm,F2.append (.cons ⟨rfl,h2.2.1,h2.2.2.1,hx,h2.2.2.2.2⟩ h3) h1,Re,by
     rw[List.map_append,List.map_append,List.map_cons]at P3⊢;rw[show({e0 with key:=k',val:=x'}:MapEntry).key=e0.key from h2.1];exact P3⟩,iw.of (e1:={e0 with key:=k',val:=x'}) ht (by rw[fX]) rfl⟩)
    refine⟨rfl,ρ,_,?_,hS.1,hS.2⟩;rw[iu]at iY;simp only[Instr.mapUpdate,Sem.run_bind,run_underlying gU,Result.andThen_ok,Sem.run_pure,au hh (by simp),aD ee,iY,HE,Option.getD_some,fV ee,aQ hh (by simp)]
   ·cases he
 ·cases h
theorem oi {ents:Array MapEntry} {t1 t2:List MapEntry} {e0:MapEntry} (ht:ents.toList=t1++e0::t2) (f:MapEntry->MapEntry):ents.modify t1.length f=(t1++f e0::t2).toArray:=by
 apply Array.ext_getElem?;intro i;have hg:ents[i]? =(t1++e0::t2)[i]?:=by rw[<-ht];simp
 rw[Array.getElem?_modify,hg];simp only[List.getElem?_toArray];by_cases hi:t1.length=i
 ·subst hi;simp
 ·rw[if_neg hi];rcases Nat.lt_or_gt_of_ne hi with h|h
  ·rw[List.getElem?_append_right (by omega),List.getElem?_append_right (by omega)];obtain⟨q,hq⟩:∃q,i-t1.length=q+1:=⟨i-t1.length-1,by omega⟩
   rw[hq];rfl
  ·rw[List.getElem?_append_left h,List.getElem?_append_left h]
theorem pN {s:AS} {w:World} {t:TypeId} {m m' k k':Value} {r:Value×AS} (hr:Rel P ρ s w) (h:nV P t s m k=some r) (hm:ag ρ m m') (hk:ag ρ k k'):
  jx P ρ s w (Instr.mapEntry t m' k') r:=by
 unfold nV at h;replace h:=U h;obtain⟨⟨kt,e⟩,gU,h⟩:=h;replace h:=ae h;obtain⟨ee,h⟩:=h;replace gU:=fe gU;simp only at h ee gU;have wP:=cR ee;have:=hk.plain wP;subst this;split at h
 ·rename_i b;replace h:=bj h;obtain⟨sK,es,ck,hb,h⟩:=h;replace h:=ae h;obtain⟨lx,h⟩:=h;replace h:=U h;obtain⟨o,ho,h⟩:=h;replace lx:=Nat.eq_of_beq_eq_true lx;subst lx;cases hm with| @map a y hy=>?_
  obtain⟨ents,hh,eI,iw⟩:=(hr.blk _ _ y hb hy).2;have iY:=cp (P:=P) ee w eI.fits;rcases gD ho with ⟨⟨v0,b0⟩,rfl,eb⟩|⟨rfl,dg⟩
  ·cases b0 with
   |zero=>cases h
   |succ b0=>?_
   replace h:=U h;obtain⟨s',fu,h⟩:=h;cases h;obtain⟨gk,fk,rfl⟩:=List.append_of_mem eb;obtain⟨l1,e0,l2,t1,t2,h1,h2,h3,hp,ht,iu⟩:=eI.fR;have fX:=oi ht λe=> {e with key:=k'}
   have OD:({e0 with key:=k'}:MapEntry)=e0:=by have:=h2.1;simp only at this;rw[this]
   rw[OD]at fX;have HE:ents[t1.length]? =some e0:=by
    have:ents[t1.length]? =(t1++e0::t2)[t1.length]?:=by rw[<-ht];simp
    rw[this];simp
   have hS:=Rel.setObj (o':= .map (ents.modify t1.length λe=> {e with key:=k'}) ck) hr fu hb rfl hy (λw' nS=>⟨_,nS,⟨l1++e0::l2,by
    rw[fX];exact(List.perm_middle.trans (hp.cons _)).trans List.perm_middle.symm,F2.append (.cons h2 h3) h1,by
    have:=eI.choose_spec.2.2;exact this⟩,iw.of (e1:=e0) ht (by rw[fX]) rfl⟩)
   rw[iu]at iY;refine⟨ρ,_,_,?_,.tuple (.cons h2.2.2.2.1 (.cons (.int _ _) .nil)),hS.1,hS.2⟩;have ld:e0.born=b0:=by
    rcases h2.2.2.2.2 with h|h
    ·cases h
    ·exact(Nat.succ.inj h).symm
   simp only[Instr.mapEntry,Sem.run_bind,run_underlying gU,Result.andThen_ok,Sem.run_pure,au hh (by simp),aD ee,iY,HE,Option.map_some,Option.getD_some,h2.1.symm,fV ee,aQ hh (by simp),ld,goInt];rfl
  ·replace h:=U h;obtain⟨z,hz,h⟩:=h;rw[ak]at h;replace h:=U h;obtain⟨s',fu,h⟩:=h;cases h;have iu:=eI.nR dg;obtain⟨l,hp,hf,hn⟩:=eI;have hS:=Rel.setObj (o':= .map (ents.push {key:=k',val:=z,born:=ck}) (ck+1)) hr fu hb rfl hy (λw' nS=>⟨_,nS,⟨{key:=k',val:=z,born:=ck}::l,by
    rw[Array.toList_push];exact(hp.cons _).trans (List.perm_append_singleton _ _).symm,.cons ⟨rfl,ee,wP,eY hz,.inr rfl⟩ hf,by
    rw[List.map_cons,List.nodup_cons];refine⟨λha=>?_,hn⟩;obtain⟨p,nT,he⟩:=List.mem_map.1 ha;exact dg p nT he⟩,iw.push rfl⟩)
   refine⟨ρ,_,_,?_,.tuple (.cons (eY hz) (.cons (.int _ _) .nil)),hS.1,hS.2⟩;rw[iu]at iY;simp only[Instr.mapEntry,Sem.run_bind,run_underlying gU,Result.andThen_ok,Sem.run_pure,au hh (by simp),aD ee,iY,bU hz w,aQ hh (by simp),goInt];rfl
 ·cases h
theorem uh {b:Nat} {x:Value}:∀ {es bc:List (Value×Value×Nat)},FJ b x es=some bc->∃gk k v0 fk,es=gk++(k,v0,b)::fk∧bc=gk++(k,x,b)::fk
 | [],_,h=>by cases h
 |(k',v',b')::es,bc,h=>by
  unfold FJ at h;rw[ai]at h;split at h
  ·rename_i hb;cases h;have:=Nat.eq_of_beq_eq_true hb;subst this;exact⟨[],k',v',es,rfl,rfl⟩
  ·rename_i hb;split at h
   ·rename_i r hr;cases h;obtain⟨gk,k,v0,fk,rfl,rfl⟩:=uh hr;exact⟨(k',v',b')::gk,k,v0,fk,rfl,rfl⟩
   ·cases h
theorem ny {s:AS} {w:World} {t:TypeId} {m m' st E8 x x':Value} {r:Value×AS} (hr:Rel P ρ s w) (h:jZ s m st x=some r) (hm:ag ρ m m') (kU:ag ρ st E8) (hx:ag ρ x x'):
  vr P ρ s w (Instr.entryStore t m' E8 x') r:=by
 unfold jZ at h;split at h
 ·rename_i b kk n;replace h:=U h;obtain⟨bn,iw,h⟩:=h;replace h:=bj h;obtain⟨kt,es,ck,hb,h⟩:=h;replace h:=U h;obtain⟨bc,hes,h⟩:=h;replace h:=U h;obtain⟨s',fu,h⟩:=h;cases h;cases hm with| @map a y hy=>?_
  cases kU;obtain⟨ents,hh,eI,iw⟩:=(hr.blk _ _ y hb hy).2;obtain⟨gk,k,v0,fk,rfl,rfl⟩:=uh hes;have hn:n=(bn:Int):=by cases n with|ofNat m=>cases iw;rfl|negSucc m=>cases iw
  obtain⟨l1,e0,l2,t1,t2,h1,h2,h3,hp,ht,iu⟩:=eI.fR;have ld:e0.born=bn:=by
   rcases h2.2.2.2.2 with h|h
   ·cases h
   ·exact(Nat.succ.inj h).symm
  have OE:∀e∈t1,e.born≠bn:= λe he heq=>by have dR:=iw.1;rw[ht,List.map_append,List.map_cons,List.nodup_append]at dR;exact dR.2.2 e.born (List.mem_map.2 ⟨e,he,rfl⟩) e0.born (by simp) (by rw[heq,ld])
  have LJ:ents.findIdx? (λe=>(e.born:Int)==n)=some t1.length:=by
   have hen:ents=(t1++e0::t2).toArray:=by rw[<-ht]
   rw[hen,List.findIdx?_toArray,List.findIdx?_append,List.findIdx?_cons];have DF:t1.findIdx? (λe=>(e.born:Int)==n)=none:=by rw[List.findIdx?_eq_none_iff];intro e he;have:=OE e he;rw[hn];simp;omega
   rw[DF,ld,hn];simp
  have fX:=oi ht λe=> {e with val:=x'}
  have hS:=Rel.setObj (o':= .map (ents.modify t1.length λe=> {e with val:=x'}) ck) hr fu hb rfl hy (λw' nS=>⟨_,nS,⟨l1++ {e0 with val:=x'}::l2,by
   rw[fX];exact(List.perm_middle.trans (hp.cons _)).trans List.perm_middle.symm,F2.append (.cons ⟨h2.1,h2.2.1,h2.2.2.1,hx,h2.2.2.2.2⟩ h3) h1,by
   have:=eI.choose_spec.2.2;simpa using this⟩,iw.of (e1:={e0 with val:=x'}) ht (by rw[fX]) rfl⟩)
  refine⟨rfl,ρ,_,?_,hS.1,hS.2⟩;simp only[Instr.entryStore,asInt,asIntOf,Sem.run_bind,Result.andThen_ok,Sem.run_pure,au hh (by simp),LJ,aQ hh (by simp)]
 ·cases h
theorem th {ts:Array TypeId} {ty:TypeId} {s:AS} {w:World} {l l':List Value} {r:Value×AS} (hr:Rel P ρ s w) (h:vI P ts s l=some r) (hl:af ρ l l'):
  jx P ρ s w (Builtin.delete_ ts ty l'.toArray) r:=by
 unfold vI at h;split at h
 ·rename_i t0 b k fQ;replace h:=U h;obtain⟨⟨kt,e⟩,gU,h⟩:=h;replace h:=ae h;obtain⟨ee,h⟩:=h;replace gU:=fe gU;simp only at h ee gU;obtain⟨m',k',rfl,hm,hk⟩:=af.two hl;have wP:=cR ee;have:=hk.plain wP;subst this;replace h:=bj h;obtain⟨sK,es,ck,hb,h⟩:=h;replace h:=ae h;obtain⟨lx,h⟩:=h;replace h:=U h;obtain⟨bc,hes,h⟩:=h;replace h:=U h;obtain⟨s',fu,h⟩:=h;replace lx:=Nat.eq_of_beq_eq_true lx;subst lx;cases h;cases hm with| @map a y hy=>?_
  obtain⟨ents,hh,eI,iw⟩:=(hr.blk _ _ y hb hy).2;have iY:=cp (P:=P) ee w eI.fits;have h0:∀(x y:Value),(#[x,y]:Array Value)[0]? =some x:= λ_ _=>rfl;have h1:∀(x y:Value),(#[x,y]:Array Value)[1]? =some y:= λ_ _=>rfl;rcases B9 hes with ⟨gk,⟨v0,b0⟩,fk,rfl,rfl⟩|⟨dg,rfl⟩
  ·obtain⟨l1,e0,l2,t1,t2,q1,q2,q3,hp,ht,iu⟩:=eI.fR;have fX:(ents.eraseIdxIfInBounds t1.length)=(t1++t2).toArray:=by
    apply Array.ext';rw[Array.toList_eraseIdxIfInBounds,ht];rw[List.eraseIdx_append_of_length_le (Nat.le_refl _),Nat.sub_self];rfl
   have hS:=Rel.setObj (o':= .map (ents.eraseIdxIfInBounds t1.length) ck) hr fu hb rfl hy (λw' nS=>⟨_,nS,⟨l1++l2,by rw[fX];exact hp,F2.append q3 q1,by have:=eI.choose_spec.2.2;rw[List.map_append,List.map_cons]at this;rw[List.map_append];have:=(List.perm_middle.nodup_iff).1 this;exact(List.nodup_cons.1 this).2⟩,iw.drop ht (by rw[fX])⟩)
   refine⟨ρ,_,_,?_,.tuple .nil,hS.1,hS.2⟩;rw[iu]at iY;simp only[Builtin.delete_,fQ,h0,h1,Sem.run_bind,run_underlying gU,Result.andThen_ok,Sem.run_pure,au hh (by simp),aD ee,iY,aQ hh (by simp)]
  ·have iu:=eI.nR dg;have hS:=Rel.setObj (o':= .map ents ck) hr fu hb rfl hy (λw' nS=>⟨_,nS,eI,iw⟩);refine⟨ρ,_,_,?_,.tuple .nil,hS.1,hS.2⟩;rw[iu]at iY;simp only[Builtin.delete_,fQ,h0,h1,Sem.run_bind,run_underlying gU,Result.andThen_ok,Sem.run_pure,au hh (by simp),aD ee,iY,aQ hh (by simp)]
 ·cases h
theorem ti {t:TypeId} {kt:TypeId} {a:Nat} {ρ:Ren} {w:World}:Made P ρ w a (Instr.makeMap t none) (.map (some a)) (.map kt [] 0):=by have yJ:(w.alloc (.map #[] 0)).heap=w.heap.push (.map #[] 0):=rfl;refine⟨⟨w.heap.size,0,0,[]⟩,_,w.alloc (.map #[] 0),?_,rfl,by simp[yJ],(λc hc=>by simp[yJ,Array.getElem?_push,Nat.ne_of_lt hc]),rfl,rfl,rfl,ag.map (x:=⟨w.heap.size,0,0,[]⟩) (bC _ _ _),⟨#[],by simp[yJ],⟨[],.nil,.nil,by simp⟩,by simp[Borns]⟩⟩;simp only[Instr.makeMap,Sem.run_bind,Result.andThen_ok,Sem.run_pure,run_newObj_alloc]
end Go.Eng
namespace Go.Eng
open Go
variable {P:Program}
def fH (ρ:Ren) (aa:Nat) (al:Al) (lo:Lo) (tm:T Value) (rf:Operand->Value) (ops:Array Operand):Prop:=∀x f v,x∈ops->bz aa al x=some f->f lo tm=some v->ag ρ v (rf x)
theorem fH.list {ρ:Ren} {aa:Nat} {al:Al} {lo:Lo} {tm:T Value} {rf:Operand->Value} {ops:Array Operand} (h:fH ρ aa al lo tm rf ops):∀ {xs:List Operand} {fs:List cu} {l:List Value},(∀x∈xs,x∈ops)->iy aa al xs=some fs->sC fs lo tm=some l->af ρ l (xs.map rf):=by
 intro xs;induction xs with
 |nil=>intro fs l _ hm hv;cases hm;cases hv;exact .nil
 |cons x xs ih=>intro fs l hin hm hv;have yK:ob (bz aa al x) (λx=>ob (iy aa al xs) λr=>some (x::r))=some fs:=hm;obtain⟨f,hf,yK⟩:=U yK;obtain⟨r,hr,yK⟩:=U yK;cases yK;have eu:Option.rec (motive:= λ_=>Option (List Value)) none (λv=>Option.rec (motive:= λ_=>Option (List Value)) none (λr=>some (v::r)) (sC r lo tm)) (f lo tm)=some l:=hv;obtain⟨v,h1,eu⟩:=aB eu;obtain⟨l',h2,eu⟩:=aB eu;cases eu;exact .cons (h _ _ _ (hin _ (by simp)) hf h1) (ih (λy hy=>hin y (by simp[hy])) hr h2)
def J3 (P:Program) (aa:Nat) (al:Al) (o:Oper) (f:VF):Prop:=
 (∀lo tm s s',f lo tm s=f lo tm s')∧∀ρ lo tm s v w rf,f lo tm s=some v->fH ρ aa al lo tm rf o.op.operands->∃u,(execOp rf o).run P w= .ok (.value u) w∧ag ρ v u
def MC (P:Program) (aa:Nat) (al:Al) (o:Oper) (f:VF):Prop:=
 ∀ρ lo tm s v w rf,f lo tm s=some v->Rel P ρ s w->fH ρ aa al lo tm rf o.op.operands->∃u,(execOp rf o).run P w= .ok (.value u) w∧ag ρ v u
def Rf (P:Program) (aa:Nat) (al:Al) (o:Oper) (f:SF):Prop:=
 ∀lo tm s r,f lo tm s=some r->∃k,s.new k=some r.2∧∀ρ w rf,ρ s.nx=none->fH ρ aa al lo tm rf o.op.operands->∃m:Sem Value,execOp rf o=(do pure (.value (<-m)))∧Made P ρ w s.nx m r.1 k
def jf (ρ:Ren) (v:Value) (nx:Next):Prop:=(∃u,nx= .value u∧ag ρ v u)∨(nx= .skip∧v= .tuple #[])
def J4 (P:Program) (aa:Nat) (al:Al) (o:Oper) (f:SF):Prop:=
 ∀ρ lo tm s r w rf,f lo tm s=some r->Rel P ρ s w->fH ρ aa al lo tm rf o.op.operands->∃aj nx w',(execOp rf o).run P w= .ok nx w'∧jf aj r.1 nx∧Rel P aj r.2 w'∧aR ρ s w aj r.2 w'
def bL (f:Value) (args:List Value):Sem Next:=do let d<-Deferred.ofValue f args.toArray;invoke d.target d.args
def Ir (P:Program) (aa:Nat) (al:Al) (o:Oper):Rd->Prop
 | .p f=>J3 P aa al o f
 | .r f=>MC P aa al o f
 | .a f=>Rf P aa al o f
 | .w f=>J4 P aa al o f
 | .c f I2=>∃c,o.op= .call c∧iy aa al c.args.toList=some I2∧∀ρ lo tm fv rf,f lo tm=some fv->fH ρ aa al lo tm rf o.op.operands->∃f',ag ρ fv f'∧∀w,(execOp rf o).run P w=(bL f' (c.args.toList.map rf)).run P w
section
variable {aa:Nat} {al:Al} {o:Oper}
theorem aM {m:Sem Value} {u:Value} {w w':World} (h:m.run P w= .ok u w'):((do pure (Next.value (<-m)):Sem Next)).run P w= .ok (.value u) w':=by simp only[Sem.run_bind,h,Result.andThen_ok,Sem.run_pure]
theorem xI {m:Sem Unit} {w w':World} (h:m.run P w= .ok () w'):((do m;pure Next.skip:Sem Next)).run P w= .ok .skip w':=by simp only[Sem.run_bind,h,Result.andThen_ok,Sem.run_pure]
theorem mr {x:Operand} {f:cu} {k:Value->Option Value} (hm:bz aa al x=some f)
  (h:∀ρ v v' u w rf,k v=some u->ag ρ v v'->rf x=v'->∃u',(execOp rf o).run P w= .ok (.value u') w∧ag ρ u u') (hin:x∈o.op.operands:=by simp[*,Op.operands,Call.operands]):J3 P aa al o (v1 f k):=by
 refine⟨λ_ _ _ _=>rfl,λρ lo tm s v w rf hv hR=>?_⟩;obtain⟨a,ha,hv⟩:=U hv;exact h ρ a _ v w rf hv (hR x f a hin hm ha) rfl
theorem DG {x y:Operand} {f g:cu} {k:Value->Value->Option Value} (hm:bz aa al x=some f) (Fu:bz aa al y=some g)
  (h:∀ρ a b u w rf,k a b=some u->ag ρ a (rf x)->ag ρ b (rf y)->∃u',(execOp rf o).run P w= .ok (.value u') w∧ag ρ u u') (hin:x∈o.op.operands:=by simp[*,Op.operands,Call.operands]) (yQ:y∈o.op.operands:=by simp[*,Op.operands,Call.operands]):J3 P aa al o (v2 f g k):=by
 refine⟨λ_ _ _ _=>rfl,λρ lo tm s v w rf hv hR=>?_⟩;obtain⟨a,ha,hv⟩:=U hv;obtain⟨b,hb,hv⟩:=U hv;exact h ρ a b v w rf hv (hR x f a hin hm ha) (hR y g b yQ Fu hb)
theorem tO {xs:List Operand} {fs:List cu} {k:List Value->Option Value} (hm:iy aa al xs=some fs)
  (h:∀ρ l u w rf,k l=some u->af ρ l (xs.map rf)->∃u',(execOp rf o).run P w= .ok (.value u') w∧ag ρ u u') (hin:∀x∈xs,x∈o.op.operands:=by simp[*,Op.operands,Call.operands]<;>grind):J3 P aa al o (vl fs k):=by
 refine⟨λ_ _ _ _=>rfl,λρ lo tm s v w rf hv hR=>?_⟩;obtain⟨l,hl,hv⟩:=U hv;exact h ρ l v w rf hv (hR.list hin hm hl)
theorem Av {x:Operand} {f:cu} {k:AS->Value->Option Value} (hm:bz aa al x=some f)
  (h:∀ρ s v u w rf,k s v=some u->Rel P ρ s w->ag ρ v (rf x)->∃u',(execOp rf o).run P w= .ok (.value u') w∧ag ρ u u') (hin:x∈o.op.operands:=by simp[*,Op.operands,Call.operands]):MC P aa al o (r1 f k):=by
 intro ρ lo tm s v w rf hv hr hR;obtain⟨a,ha,hv⟩:=U hv;exact h ρ s a v w rf hv hr (hR x f a hin hm ha)
theorem LK {x y:Operand} {f g:cu} {k:AS->Value->Value->Option Value} (hm:bz aa al x=some f) (Fu:bz aa al y=some g)
  (h:∀ρ s a b u w rf,k s a b=some u->Rel P ρ s w->ag ρ a (rf x)->ag ρ b (rf y)->∃u',(execOp rf o).run P w= .ok (.value u') w∧ag ρ u u') (hin:x∈o.op.operands:=by simp[*,Op.operands,Call.operands]) (yQ:y∈o.op.operands:=by simp[*,Op.operands,Call.operands]):MC P aa al o (r2 f g k):=by
 intro ρ lo tm s v w rf hv hr hR;obtain⟨a,ha,hv⟩:=U hv;obtain⟨b,hb,hv⟩:=U hv;exact h ρ s a b v w rf hv hr (hR x f a hin hm ha) (hR y g b yQ Fu hb)
theorem LL {xs:List Operand} {fs:List cu} {k:AS->List Value->Option Value} (hm:iy aa al xs=some fs)
  (h:∀ρ s l u w rf,k s l=some u->Rel P ρ s w->af ρ l (xs.map rf)->∃u',(execOp rf o).run P w= .ok (.value u') w∧ag ρ u u') (hin:∀x∈xs,x∈o.op.operands:=by simp[*,Op.operands,Call.operands]<;>grind):MC P aa al o (rl fs k):=by
 intro ρ lo tm s v w rf hv hr hR;obtain⟨l,hl,hv⟩:=U hv;exact h ρ s l v w rf hv hr (hR.list hin hm hl)
theorem db {ρ:Ren} {s:AS} {w:World} {m:Sem Value} {r:Value×AS} {rf:Operand->Value} (he:execOp rf o=(do pure (.value (<-m)))) (h:jx P ρ s w m r):
  ∃aj nx w',(execOp rf o).run P w= .ok nx w'∧jf aj r.1 nx∧Rel P aj r.2 w'∧aR ρ s w aj r.2 w':=by
 obtain⟨aj,u,w',h1,h2,h3,h4⟩:=h;exact⟨aj,_,w',by rw[he];exact aM h1,.inl ⟨u,rfl,h2⟩,h3,h4⟩
theorem hK {ρ:Ren} {s:AS} {w:World} {m:Sem Unit} {r:Value×AS} {rf:Operand->Value} (he:execOp rf o=(do m;pure .skip)) (h:vr P ρ s w m r):
  ∃aj nx w',(execOp rf o).run P w= .ok nx w'∧jf aj r.1 nx∧Rel P aj r.2 w'∧aR ρ s w aj r.2 w':=by
 obtain⟨h0,aj,w',h1,h3,h4⟩:=h;exact⟨aj,_,w',by rw[he];exact xI h1,.inr ⟨rfl,h0⟩,h3,h4⟩
theorem G8 {x:Operand} {f:cu} {k:AS->Value->Option (Value×AS)} (hm:bz aa al x=some f)
  (h:∀ρ s a r w rf,k s a=some r->Rel P ρ s w->ag ρ a (rf x)->∃aj nx w',(execOp rf o).run P w= .ok nx w'∧jf aj r.1 nx∧Rel P aj r.2 w'∧aR ρ s w aj r.2 w') (hin:x∈o.op.operands:=by simp[*,Op.operands,Call.operands]):J4 P aa al o (s1 f k):=by
 intro ρ lo tm s r w rf hv hr hR;obtain⟨a,ha,hv⟩:=U hv;exact h ρ s a r w rf hv hr (hR x f a hin hm ha)
theorem G9 {x y:Operand} {f g:cu} {k:AS->Value->Value->Option (Value×AS)} (hm:bz aa al x=some f) (Fu:bz aa al y=some g)
  (h:∀ρ s a b r w rf,k s a b=some r->Rel P ρ s w->ag ρ a (rf x)->ag ρ b (rf y)->∃aj nx w',(execOp rf o).run P w= .ok nx w'∧jf aj r.1 nx∧Rel P aj r.2 w'∧aR ρ s w aj r.2 w') (hin:x∈o.op.operands:=by simp[*,Op.operands,Call.operands]) (yQ:y∈o.op.operands:=by simp[*,Op.operands,Call.operands]):J4 P aa al o (s2 f g k):=by
 intro ρ lo tm s r w rf hv hr hR;obtain⟨a,ha,hv⟩:=U hv;obtain⟨b,hb,hv⟩:=U hv;exact h ρ s a b r w rf hv hr (hR x f a hin hm ha) (hR y g b yQ Fu hb)
theorem DH {x y z:Operand} {f g e:cu} {k:AS->Value->Value->Value->Option (Value×AS)} (hm:bz aa al x=some f) (Fu:bz aa al y=some g) (Rg:bz aa al z=some e)
  (h:∀ρ s a b c r w rf,k s a b c=some r->Rel P ρ s w->ag ρ a (rf x)->ag ρ b (rf y)->ag ρ c (rf z)->∃aj nx w',(execOp rf o).run P w= .ok nx w'∧jf aj r.1 nx∧Rel P aj r.2 w'∧aR ρ s w aj r.2 w') (hin:x∈o.op.operands:=by simp[*,Op.operands,Call.operands]) (yQ:y∈o.op.operands:=by simp[*,Op.operands,Call.operands]) (OF:z∈o.op.operands:=by simp[*,Op.operands,Call.operands]):J4 P aa al o (s3 f g e k):=by
 intro ρ lo tm s r w rf hv hr hR;obtain⟨a,ha,hv⟩:=U hv;obtain⟨b,hb,hv⟩:=U hv;obtain⟨c,hc,hv⟩:=U hv;exact h ρ s a b c r w rf hv hr (hR x f a hin hm ha) (hR y g b yQ Fu hb) (hR z e c OF Rg hc)
theorem xq {xs:List Operand} {fs:List cu} {k:AS->List Value->Option (Value×AS)} (hm:iy aa al xs=some fs)
  (h:∀ρ s l r w rf,k s l=some r->Rel P ρ s w->af ρ l (xs.map rf)->∃aj nx w',(execOp rf o).run P w= .ok nx w'∧jf aj r.1 nx∧Rel P aj r.2 w'∧aR ρ s w aj r.2 w') (hin:∀x∈xs,x∈o.op.operands:=by simp[*,Op.operands,Call.operands]<;>grind):J4 P aa al o (sl fs k):=by
 intro ρ lo tm s r w rf hv hr hR;obtain⟨l,hl,hv⟩:=U hv;exact h ρ s l r w rf hv hr (hR.list hin hm hl)
theorem dH {x:Operand} {k:cu->Rd} {r:Rd} (h:c1 aa al x k=some r):∃f,bz aa al x=some f∧r=k f:=by obtain⟨f,hf,h⟩:=U h;cases h;exact⟨f,hf,rfl⟩
theorem jg {x y:Operand} {k:cu->cu->Rd} {r:Rd} (h:c2 aa al x y k=some r):∃f g,bz aa al x=some f∧bz aa al y=some g∧r=k f g:=by obtain⟨f,hf,h⟩:=U h;obtain⟨g,hg,h⟩:=U h;cases h;exact⟨f,g,hf,hg,rfl⟩
theorem pZ {x y z:Operand} {k:cu->cu->cu->Rd} {r:Rd} (h:c3 aa al x y z k=some r):∃f g e,bz aa al x=some f∧bz aa al y=some g∧bz aa al z=some e∧r=k f g e:=by obtain⟨f,hf,h⟩:=U h;obtain⟨g,hg,h⟩:=U h;obtain⟨e,he,h⟩:=U h;cases h;exact⟨f,g,e,hf,hg,he,rfl⟩
theorem p0 {xs:List Operand} {k:List cu->Rd} {r:Rd} (h:cl aa al xs k=some r):∃fs,iy aa al xs=some fs∧r=k fs:=by obtain⟨f,hf,h⟩:=U h;cases h;exact⟨f,hf,rfl⟩
theorem yt {ρ:Ren} {v v' u:Value} {x:Operand} {rf:Operand->Value} (ho:o.op= .nilCheck x) (w:World) (h:Di v=some u) (hv:ag ρ v v') (hx:rf x=v'):∃u',(execOp rf o).run P w= .ok (.value u') w∧ag ρ u u':=by unfold Di at h;split at h<;>first|(cases h;done)|(cases h;refine⟨v',?_,hv⟩;cases hv<;>(unfold execOp;rw[ho];simp only[hx,Sem.run_pure]))
theorem vP {ρ:Ren} {lo:Lo} {tm:T Value} {rf:Operand->Value} {ops:Array Operand} (hR:fH ρ aa al lo tm rf ops) {x:Option Operand} {f:Option cu} {v:Option Value} (hm:qj aa al x=some f) (hv:FK f lo tm=some v) (hin:∀y,x=some y->y∈ops):gh ρ v (x.map rf):=by
 cases x with
 |none=>cases hm;cases hv;exact .none
 |some x=>obtain⟨g,hg,hm⟩:=U hm;cases hm;obtain⟨a,ha,hv⟩:=U hv;cases hv;exact .some (hR x g a (hin x rfl) hg ha)
end
theorem EC (ps:List (Nat×Operand)) (rf:Operand->Value):sD (ps.map (·.1)) ((ps.map (·.2)).map rf)=ps.map λp=>(p.1,rf p.2):=by
 induction ps with
 |nil=>rfl
 |cons p ps ih=>exact congrArg (_:: ·) ih
theorem xJ (ps:Array (Nat×Operand)) (rf:Operand->Value):(ps.map λ(i,x)=>(i,rf x))=(sD (ps.toList.map (·.1)) ((ps.toList.map (·.2)).map rf)).toArray:=by rw[EC];apply Array.ext';simp
section
variable {aa:Nat} {al:Al} {o:Oper}
theorem pO {c:Call} {b:Builtin} {t:TypeId} {rf:Operand->Value} (hc:c.callee= .builtin b):resolve rf c t=pure {target:= .builtin b c.argTypes t (c.args.map fun| .const _=>true|_=>false),args:=c.args.map rf}:=by unfold resolve;rw[hc];rfl
theorem wC {c:Call} {b:Builtin} {rf:Operand->Value} (ho:o.op= .call c) (hc:c.callee= .builtin b):
  execOp rf o=builtin b c.argTypes o.type (c.args.map fun| .const _=>true|_=>false) (c.args.map rf):=by
 unfold execOp;rw[ho];simp only[pO hc,pure_bind,invoke]
theorem dI (xs:Array Operand) (rf:Operand->Value):xs.map rf=(xs.toList.map rf).toArray:=by apply Array.ext';simp
theorem wD {sh:Bool} {c:Call} {b:Builtin} {fs:List cu} {r:Rd} (ho:o.op= .call c) (hc:c.callee= .builtin b) (hm:iy aa al c.args.toList=some fs) (h:kJ P sh b c.argTypes fs=some r):Ir P aa al o r:=by
 have he:= λrf:Operand->Value=>wC (rf:=rf) ho hc;unfold kJ at h;split at h
 ·rw[ai]at h;split at h
  ·cases h;rename_i sP;refine LL hm (λρ s l u w rf hv hr hl=>?_);obtain⟨u',h1,h2⟩:=zM (ty:=o.type) hr sP hv hl;exact⟨u',by rw[he,dI];exact aM h1,h2⟩
  ·cases h;refine tO hm (λρ l u w rf hv hl=>?_);obtain⟨h1,h2⟩:=zE (ty:=o.type) w hv hl;exact⟨u,by rw[he,dI];exact aM h1,h2⟩
 ·cases h;refine tO hm (λρ l u w rf hv hl=>?_);obtain⟨u',h1,h2⟩:=zF (ty:=o.type) w hv hl;exact⟨u',by rw[he,dI];exact aM h1,h2⟩
 ·cases h;refine xq hm (λρ s l r w rf hv hr hl=>db (m:=Builtin.append_ c.argTypes o.type (c.args.map rf)) (by rw[he];rfl) ?_);rw[dI];exact tb hr hv hl
 ·cases h;refine xq hm (λρ s l r w rf hv hr hl=>db (m:=Builtin.copy_ c.argTypes o.type (c.args.map rf)) (by rw[he];rfl) ?_);rw[dI];exact yi hr hv hl
 ·cases h;refine xq hm (λρ s l r w rf hv hr hl=>db (m:=Builtin.delete_ c.argTypes o.type (c.args.map rf)) (by rw[he];rfl) ?_);rw[dI];exact th hr hv hl
 ·cases h;refine xq hm (λρ s l r w rf hv hr hl=>db (m:=Builtin.clear_ c.argTypes o.type (c.args.map rf)) (by rw[he];rfl) ?_);rw[dI];exact wu hr hv hl
 ·cases h;refine tO hm (λρ l u w rf hv hl=>?_);obtain⟨u',h1,h2⟩:=BY (ts:=c.argTypes) (ty:=o.type) w hv hl;exact⟨u',by rw[he,dI];exact aM h1,h2⟩
 ·cases h;refine tO hm (λρ l u w rf hv hl=>?_);obtain⟨u',h1,h2⟩:=BZ (ts:=c.argTypes) (ty:=o.type) w hv hl;exact⟨u',by rw[he,dI];exact aM h1,h2⟩
 ·rw[ai]at h;split at h
  ·rename_i Is;cases h;have hb:b.ctorIdx=20:=Nat.eq_of_beq_eq_true Is;refine tO hm (λρ l u w rf hv hl=>?_);obtain⟨u',h1,h2⟩:=yl (ts:=c.argTypes) (ty:=o.type) w hv hl;refine⟨u',?_,h2⟩;rw[he,dI];cases b<;>first|(exact aM h1)|(simp[Builtin.ctorIdx]at hb)
  ·replace h:=ae h;obtain⟨Is,h⟩:=h;cases h;have hb:b.ctorIdx=21:=Nat.eq_of_beq_eq_true Is;refine xq hm (λρ s l r w rf hv hr hl=>db (m:=Builtin.unsafeString_ c.argTypes o.type (c.args.map rf)) ?_ ?_)
   ·rw[he];cases b<;>first|rfl|(simp[Builtin.ctorIdx]at hb)
   ·rw[dI];exact zL hr hv hl
theorem Ca {src dst:TypeId} {x:Operand} {f:cu} {r:Rd} (ho:o.op= .convert src dst x) (hm:bz aa al x=some f) (h:zi P src dst f=some r):Ir P aa al o r:=by
 have he:∀rf,execOp rf o=(do pure (.value (<-convert src dst (rf x)))):= λrf=>by unfold execOp;rw[ho]
 unfold zi at h;rw[ai]at h;split at h
 ·rename_i hd;have hd:=pc hd;split at h
  ·rename_i e hs;cases h;refine Av hm (λρ s v u w rf hv hr hx=>?_);obtain⟨u',w',h1,rfl,h2⟩:=pf hr (.inl ⟨rfl,hs,hd⟩) hv hx;exact⟨u',by rw[he];exact aM h1,h2⟩
  ·cases h
 ·rw[ai]at h;split at h
  ·rename_i hs;have hs:=pc hs;split at h
   ·rename_i e hd;cases h;refine Av hm (λρ s v u w rf hv hr hx=>?_);obtain⟨u',w',h1,rfl,h2⟩:=pf hr (.inr ⟨rfl,hs,hd⟩) hv hx;exact⟨u',by rw[he];exact aM h1,h2⟩
   ·cases h
  ·split at h
   ·rename_i e hs hd;split at h
    ·rename_i hu;cases h;refine Av hm (λρ s v u w rf hv hr hx=>?_);obtain⟨u',h1,h2⟩:=yk hr hs hu hd hv hx;exact⟨u',by rw[he];exact aM h1,h2⟩
    ·cases h
   ·rename_i e hs hd;split at h
    ·rename_i hu;replace h:=ae h;obtain⟨_,h⟩:=h;cases h;intro lo tm s r hv;obtain⟨a,ha,hv⟩:=U hv;obtain⟨k,hk,mq⟩:=zJ (P:=P) hs hd hu hv;exact⟨k,hk,λρ w rf nz hR=>⟨_,he rf,mq nz (hR x f a (by rw[ho];simp[Op.operands]) hm ha)⟩⟩
    ·cases h
   ·rename_i ds d _ _ hs hd;cases h;refine mr hm (λρ v v' u w rf hv hx wQ=>?_);obtain⟨u',h1,h2⟩:=yj (P:=P) w hs hd hv hx;exact⟨u',by rw[he,wQ];exact aM h1,h2⟩
   ·cases h
theorem Ja {x:Operand} {lo hi mx:Option Operand} {t:TypeId} {f:cu} {l h m:Option cu} (ho:o.op= .slice t x lo hi mx) (hx:bz aa al x=some f) (hl:qj aa al lo=some l) (hh:qj aa al hi=some h) (hm:qj aa al mx=some m):
  J3 P aa al o (D3 P t f l h m):=by
 have he:∀rf,execOp rf o=(do pure (.value (<-Instr.sliceAt t (rf x) (lo.map rf) (hi.map rf) (mx.map rf)))):= λrf=>by unfold execOp;rw[ho]
 refine⟨λ_ _ _ _=>rfl,λρ eQ tm s v w rf hv hR=>?_⟩;obtain⟨a,ha,hv⟩:=U hv;obtain⟨b,hb,hv⟩:=U hv;obtain⟨c,hc,hv⟩:=U hv;obtain⟨d,hd,hv⟩:=U hv;obtain⟨u,h1,h2⟩:=wm w hv (hR x f a (by rw[ho];simp[Op.operands]) hx ha) (vP hR hl hb (λy e=>by rw[ho,e];simp[Op.operands])) (vP hR hh hc (λy e=>by rw[ho,e];simp[Op.operands])) (vP hR hm hd (λy e=>by rw[ho,e];simp[Op.operands]));exact⟨u,by rw[he];exact aM h1,h2⟩
theorem ui {name:String} {t:TypeId} {v v' fv:Value} (h:vh P name t v=some fv) (w:World):∃f,fv= .func (.func f) #[v] #[]∧(method (P.types.size+Made.depth) t v' name).run P w= .ok (f,v') w:=by
 unfold vh at h;split at h
 ·rename_i i hi;have P4:(typeInfo t).run P w= .ok i w:=by simp[typeInfo,hi]
  split at h
  ·rename_i m hm;split at h
   ·rename_i f p Ha Hc;obtain⟨n,P5⟩:∃n,P.types.size+Made.depth=n+1:=⟨_,rfl⟩
    split at h
    ·rename_i e hu;cases h;refine⟨f,rfl,?_⟩;rw[P5];unfold method;simp only[Sem.run_bind,P4,Result.andThen_ok,hm,Ha,follow,Sem.run_pure,Hc,receiverAt,run_underlying hu,Place.get]
    ·cases h
    ·rename_i d hne hu;cases h;refine⟨f,rfl,?_⟩;rw[P5];unfold method;simp only[Sem.run_bind,P4,Result.andThen_ok,hm,Ha,follow,Sem.run_pure,Hc,receiverAt,run_underlying hu,Place.get]
    ·cases h
   ·cases h
  ·cases h
 ·cases h
theorem zP {o:Oper} {c:Call} {g:Operand} {name:String} {rf:Operand->Value} {ρ:Ren} {iv fv:Value} (ho:o.op= .call c) (hc:c.callee= .invoke g name) (hg:ag ρ iv (rf g))
  (h:D4 P name iv=some fv):∃f',ag ρ fv f'∧∀w,(execOp rf o).run P w=(bL f' (c.args.toList.map rf)).run P w:=by
 cases iv with
 |iface t v=>
  have h:vh P name t v=some fv:=h;generalize hrg:rf g=u at hg;cases hg with| @iface _ _ v' hv=>?_
  obtain⟨f,rfl,_⟩:=ui (v':=v') h default;refine⟨.func (.func f) #[v'] #[],.func f (.cons hv .nil) .nil,λw=>?_⟩;obtain⟨f2,he,hm⟩:=ui (v':=v') h w;have Rh:f=f2:=by injection he with h1;injection h1
  subst Rh;unfold execOp bL;rw[ho];have e1:(#[Value.iface t v']++c.args.map rf)[0]? =some (.iface t v'):=by rw[Array.getElem?_append_left (by simp)];rfl
  have e2:(#[Value.iface t v']++c.args.map rf).extract 1 (#[Value.iface t v']++c.args.map rf).size=c.args.map rf:=by apply Array.ext';simp[List.take_of_length_le]
  have e3: #[v']++(c.args.toList.map rf).toArray++ #[]= #[v']++c.args.map rf:=by apply Array.ext';simp
  simp only[resolve,hc,hrg,Deferred.ofValue,pure_bind,invoke,e1,e2,e3,callMethod,Sem.run_bind,run_program,Result.andThen_ok,hm]
 |_=>cases h
theorem p6 {r:Rd} (h:sE P aa al o.op=some r):Ir P aa al o r:=by
 cases ho:o.op<;>rw[ho]at h<;>(try (cases h;done))
 case move x=>obtain⟨f,hf,rfl⟩:=dH h;exact mr hf (λρ v v' u w rf hv hx wQ=>⟨v',by unfold execOp;rw[ho];simp only[wQ,Sem.run_pure],by cases hv;exact hx⟩)
 case assign x=>obtain⟨f,hf,rfl⟩:=dH h;exact mr hf (λρ v v' u w rf hv hx wQ=>⟨v',by unfold execOp;rw[ho];simp only[wQ,Sem.run_pure],by cases hv;exact hx⟩)
 case pick c a b=>
  obtain⟨f,g,e,hf,hg,he,rfl⟩:=pZ h;refine⟨λ_ _ _ _=>rfl,λρ lo tm s v w rf hv hR=>?_⟩;obtain⟨x,hx,hv⟩:=U hv;have hc:=hR c f x (by rw[ho];simp[Op.operands]) hf hx;unfold GV at hv;split at hv
  ·rename_i y;generalize P6:rf c=cv at hc;cases hc;rw[ai]at hv;cases y with
   |true=>refine⟨rf a,?_,hR a g v (by rw[ho];simp[Op.operands]) hg hv⟩;unfold execOp;rw[ho];simp only[P6,asBool,Sem.run_bind,Sem.run_pure,Result.andThen_ok,if_true]
   |false=>refine⟨rf b,?_,hR b e v (by rw[ho];simp[Op.operands]) he hv⟩;unfold execOp;rw[ho];simp only[P6,asBool,Sem.run_bind,Sem.run_pure,Result.andThen_ok,Bool.false_eq_true,if_false]
  ·cases hv
 case alloc t=>cases h;intro lo tm s r hv;obtain⟨k,hk,hm⟩:=yf (P:=P) hv;exact⟨k,hk,λρ w rf nz hR=>⟨_,by unfold execOp;rw[ho],hm nz⟩⟩
 case box t x=>obtain⟨f,hf,rfl⟩:=dH h;intro lo tm s r hv;obtain⟨a,ha,hv⟩:=U hv;obtain⟨k,hk,hm⟩:=B5 (P:=P) hv;exact⟨k,hk,λρ w rf nz hR=>⟨_,by unfold execOp;rw[ho],hm nz (hR x f a (by rw[ho];simp[Op.operands]) hf ha)⟩⟩
 case build t ps=>obtain⟨fs,hf,rfl⟩:=p0 h;refine tO hf (λρ l u w rf hv hl=>?_);obtain⟨u',h1,h2⟩:=wt w hv hl;rw[<-xJ]at h1;exact⟨u',by unfold execOp;rw[ho];exact aM h1,h2⟩
 case buildSlice t n ps=>obtain⟨fs,hf,rfl⟩:=p0 h;intro lo tm s r hv;obtain⟨l,hl,hv⟩:=U hv;obtain⟨k,hk,hm⟩:=oF (P:=P) hv;refine⟨k,hk,λρ w rf nz hR=>⟨Instr.buildSlice t n (ps.map λ(i,x)=>(i,rf x)),by unfold execOp;rw[ho],?_⟩⟩;rw[xJ];exact hm nz (hR.list (by rw[ho];simp[Op.operands]) hf hl)
 case load t a=>obtain⟨f,hf,rfl⟩:=dH h;refine Av hf (λρ s v u w rf hv hr hx=>?_);rw[Es]at hv;obtain⟨u',h1,h2⟩:=oY hr hv hx;exact⟨u',by unfold execOp;rw[ho];exact aM h1,h2⟩
 case store t a x=>obtain⟨f,g,hf,hg,rfl⟩:=jg h;exact G9 hf hg (λρ s a' x' r w rf hv hr ha hx=>hK (m:=Instr.storeAt t (rf a) (rf x)) (by unfold execOp;rw[ho]) (wq hr (by rw[BR]at hv;exact hv) ha hx))
 case nilCheck x=>obtain⟨f,hf,rfl⟩:=dH h;exact mr hf (λρ v v' u w rf hv hx wQ=>yt ho w hv hx wQ)
 case binOp op t x y c=>
  obtain⟨f,g,hf,hg,rfl⟩:=jg h;refine DG hf hg (λρ a b u w rf hv ha hb=>?_);rw[Eu]at hv;obtain⟨h1,h2⟩:=zC (P:=P) (ox:=x) (oy:=y) w (λhc=>by
   rw[ai]at hc;split at hc
   ·exact .inl ‹_›
   ·exact .inr hc) hv ha hb
  exact⟨u,by unfold execOp;rw[ho];exact aM h1,h2⟩
 case unOp op t x=>obtain⟨f,hf,rfl⟩:=dH h;refine mr hf (λρ v v' u w rf hv hx wQ=>?_);obtain⟨h1,h2⟩:=BX (P:=P) w hv hx;exact⟨u,by unfold execOp;rw[ho,];simp only[wQ];exact aM h1,h2⟩
 case convert a b x=>obtain⟨f,hf,h⟩:=U h;exact Ca ho hf h
 case makeInterface t x=>
  change (match P.underlying t with|some (.interface _)=>none|some _=>c1 aa al x λx=>Rd.p (v1 x λv=>some (.iface t v))|none=>none)=some r at h;split at h
  ·cases h
  ·rename_i d hne hu;obtain⟨f,hf,rfl⟩:=dH h;refine mr hf (λρ v v' u w rf hv hx wQ=>?_);cases hv;refine⟨.iface t v',?_,.iface t hx⟩;unfold execOp;rw[ho];simp only[wQ];refine aM ?_;simp only[Instr.makeInterface,Sem.run_bind,run_underlying hu,Result.andThen_ok];cases d<;>first|rfl|exact(hne _ rfl).elim
  ·cases h
 case makeFunc fn a b=>
  obtain⟨fa,xc,h⟩:=U h;obtain⟨fb,HF,h⟩:=U h;cases h;refine⟨λ_ _ _ _=>rfl,λρ lo tm s v w rf hv hR=>?_⟩;obtain⟨la,Mr,hv⟩:=U hv;replace hv:=U hv;obtain⟨lb,MD,hv⟩:=hv;have hfn:∃fi,fn= .func fi∧v= .func (.func fi) ⟨la⟩ ⟨lb⟩:=by cases fn<;>first|(cases hv;done)|(cases hv;exact⟨_,rfl,rfl⟩)
  obtain⟨fi,rfl,rfl⟩:=hfn;refine⟨.func (.func fi) (a.map rf) (b.map rf),?_,?_⟩
  ·unfold execOp;rw[ho];rfl
  ·have h1:=hR.list (by rw[ho];simp[Op.operands];grind) xc Mr;have h2:=hR.list (by rw[ho];simp[Op.operands];grind) HF MD;rw[<-Array.toList_map]at h1 h2;exact .func _ h1 h2
 case makeMap t r'=>
  cases r' with
  |some x=>cases h
  |none=>obtain⟨ke,gU,h⟩:=U h;cases h;intro lo tm s r hv;obtain⟨s',fu,hv⟩:=U hv;cases hv;exact⟨_,fu,λρ w rf nz hR=>⟨_,by unfold execOp;rw[ho];rfl,ti⟩⟩
 case makeSlice t l c=>obtain⟨f,g,hf,hg,rfl⟩:=jg h;intro lo tm s r hv;obtain⟨a,ha,hv⟩:=U hv;obtain⟨b,hb,hv⟩:=U hv;obtain⟨k,hk,hm⟩:=pL (P:=P) hv;exact⟨k,hk,λρ w rf nz hR=>⟨_,by unfold execOp;rw[ho],hm nz (hR l f a (by rw[ho];simp[Op.operands]) hf ha) (hR c g b (by rw[ho];simp[Op.operands]) hg hb)⟩⟩
 case slice t x lo hi mx=>obtain⟨f,hf,h⟩:=U h;obtain⟨a,ha,h⟩:=U h;obtain⟨b,hb,h⟩:=U h;obtain⟨c,hc,h⟩:=U h;cases h;exact Ja ho hf ha hb hc
 case fieldAddr t x fl=>obtain⟨f,hf,rfl⟩:=dH h;refine mr hf (λρ v v' u w rf hv hx wQ=>?_);rw[sZ]at hv;obtain⟨u',h1,h2⟩:=oC (P:=P) w hv hx;exact⟨u',by unfold execOp;rw[ho];simp only[wQ];exact aM h1,h2⟩
 case field t x fl=>obtain⟨f,hf,rfl⟩:=dH h;refine mr hf (λρ v v' u w rf hv hx wQ=>?_);obtain⟨u',h1,h2⟩:=wj (P:=P) w hv hx;exact⟨u',by unfold execOp;rw[ho];simp only[wQ];exact aM h1,h2⟩
 case indexAddr t x i=>obtain⟨f,g,hf,hg,rfl⟩:=jg h;refine DG hf hg (λρ a b u w rf hv ha hb=>?_);rw[s6]at hv;obtain⟨u',h1,h2⟩:=oD (P:=P) w hv ha hb;exact⟨u',by unfold execOp;rw[ho];exact aM h1,h2⟩
 case index t x i=>obtain⟨f,g,hf,hg,rfl⟩:=jg h;refine DG hf hg (λρ a b u w rf hv ha hb=>?_);obtain⟨u',h1,h2⟩:=wk (P:=P) w hv ha hb;exact⟨u',by unfold execOp;rw[ho];exact aM h1,h2⟩
 case lookup t x i ok=>obtain⟨f,g,hf,hg,rfl⟩:=jg h;refine LK hf hg (λρ s a b u w rf hv hr ha hb=>?_);obtain⟨u',h1,h2⟩:=tg hr hv hb ha;exact⟨u',by unfold execOp;rw[ho];exact aM h1,h2⟩
 case mapUpdate t m i x=>obtain⟨f,g,e,hf,hg,he,rfl⟩:=pZ h;exact DH hf hg he (λρ s a b c r w rf hv hr ha hb hc=>hK (m:=Instr.mapUpdate t (rf m) (rf i) (rf x)) (by unfold execOp;rw[ho]) (iV hr hv ha hb hc))
 case insert t m i x=>obtain⟨f,g,e,hf,hg,he,rfl⟩:=pZ h;exact DH hf hg he (λρ s a b c r w rf hv hr ha hb hc=>hK (m:=Instr.mapUpdate t (rf m) (rf i) (rf x)) (by unfold execOp;rw[ho]) (iV hr hv ha hb hc))
 case mapEntry t m i=>obtain⟨f,g,hf,hg,rfl⟩:=jg h;exact G9 hf hg (λρ s a b r w rf hv hr ha hb=>db (m:=Instr.mapEntry t (rf m) (rf i)) (by unfold execOp;rw[ho]) (pN hr hv ha hb))
 case entryStore t m st x=>obtain⟨f,g,e,hf,hg,he,rfl⟩:=pZ h;exact DH hf hg he (λρ s a b c r w rf hv hr ha hb hc=>hK (m:=Instr.entryStore t (rf m) (rf st) (rf x)) (by unfold execOp;rw[ho]) (ny hr hv ha hb hc))
 case range t x=>obtain⟨f,hf,rfl⟩:=dH h;exact G8 hf (λρ s a r w rf hv hr ha=>db (m:=Instr.range t (rf x)) (by unfold execOp;rw[ho]) (wy hr hv ha))
 case next x b=>
  cases b with
  |false=>cases h
  |true=>obtain⟨f,hf,rfl⟩:=dH h;exact G8 hf (λρ s a r w rf hv hr ha=>db (m:=Instr.next (rf x) true o.type) (by unfold execOp;rw[ho]) (yo hr hv ha))
 case extract x i=>obtain⟨f,hf,rfl⟩:=dH h;refine mr hf (λρ v v' u w rf hv hx wQ=>?_);obtain⟨u',h1,h2⟩:=sf (P:=P) w hv hx;exact⟨u',by unfold execOp;rw[ho];simp only[wQ];exact aM h1,h2⟩
 case call c=>
  change (match c.callee with
   | .value f=>ob (bz aa al f) λf=>cl aa al c.args.toList λI2=>Rd.c f I2
   | .builtin b=>ob (iy aa al c.args.toList) λI2=>kJ P (tW aa c.args.toList) b c.argTypes I2
   | .invoke r name=>ob (bz aa al r) λr=>cl aa al c.args.toList λI2=>Rd.c (AN P name r) I2)=some r at h
  split at h
  ·rename_i g hc;obtain⟨f,hf,h⟩:=U h;obtain⟨I2,has,rfl⟩:=p0 h;refine⟨c,ho,has,λρ lo tm fv rf hv eW=>⟨rf g,eW _ _ _ (by simp[ho,Op.operands,Call.operands,hc]) hf hv,λw=>?_⟩⟩;have:execOp rf o=bL (rf g) (c.args.toList.map rf):=by
    unfold execOp;rw[ho];simp only[resolve,hc,bL];rw[dI]
   rw[this]
  ·rename_i b hc;obtain⟨I2,has,h⟩:=U h;exact wD ho hc has h
  ·rename_i g name hc;obtain⟨f,hf,h⟩:=U h;obtain⟨I2,has,rfl⟩:=p0 h;refine⟨c,ho,has,λρ lo tm fv rf hv eW=>?_⟩;obtain⟨iv,BL,hv⟩:=U hv;have hg:=eW _ _ _ (by simp[ho,Op.operands,Call.operands,hc]) hf BL;exact zP ho hc hg hv
end
end Go.Eng
namespace Go.Eng
open Go
variable {P:Program}
structure bD (aa nt:Nat) (ρ:Ren) (tm:T Value) (a:Act):Prop where
 size:nt<=a.tmps.size
 tk:∀t v,tm.get t=some v->kept aa t=true
 env:gO ρ tm a.tmps
structure Inv (aa nt:Nat) (al:Al) (ρ:Ren) (lo:Lo) (tm:T Value) (a:Act):Prop extends bD aa nt ρ tm a where
 lo:∀t v,(∀p∈al,p.1≠t)->kept aa t=false->Lo.get t lo=some v->∃u,a.tmps[t]? =some u∧ag ρ v u
 al:∀p∈al,kept aa p.1=false∧p.1<nt∧((∃g:Nat,p.2= .const (.complex .f32 g 0))∨(a.tmps[p.1]? =some (a.eval p.2)∧((∃c,p.2= .const c)∨∃x,p.2= .tmp x∧∀q∈al,q.1≠x)))
theorem bD.mono {aa nt:Nat} {ρ aj:Ren} {tm:T Value} {a:Act} (h:bD aa nt ρ tm a) (hle:aK ρ aj):bD aa nt aj tm a:=⟨h.size,h.tk,h.env.mono hle⟩
theorem Inv.mono {aa nt:Nat} {al:Al} {ρ aj:Ren} {lo:Lo} {tm:T Value} {a:Act} (h:Inv aa nt al ρ lo tm a) (hle:aK ρ aj):Inv aa nt al aj lo tm a:=
 {h.tobD.mono hle with lo:= λt v h1 h2 h3=>let⟨u,hu,hr⟩:=h.lo t v h1 h2 h3;⟨u,hu,hr.mono hle⟩,al:=h.al}
theorem rA (t:Nat) (p:Nat×Operand) (al:Al):tH t (p::al)=ab (Nat.beq p.1 t) (some p.2) (tH t al):=rfl
theorem rB {t:Nat} {y:Operand}:∀ {al:Al},tH t al=some y->(t,y)∈al:=by
 intro al;induction al with
 |nil=>intro h;cases h
 |cons p al ih=>
  intro h;rw[rA,ai]at h;split at h
  ·rename_i hb;cases h;have:=Nat.eq_of_beq_eq_true hb;subst this;simp
  ·exact List.mem_cons_of_mem _ (ih h)
theorem rC {t:Nat}:∀ {al:Al},tH t al=none->∀p∈al,p.1≠t:=by
 intro al;induction al with
 |nil=>intro _ p hp;cases hp
 |cons p al ih=>
  intro h q hq;rw[rA,ai]at h;split at h
  ·cases h
  ·rename_i hb;rcases List.mem_cons.1 hq with rfl|hq
   ·intro e;exact hb (by rw[e];exact Nat.beq_refl _)
   ·exact ih h q hq
theorem vQ (t t':Nat) (v:Value) (r:Lo):Lo.get t (.cons t' v r)=ab (Nat.beq t t') (some v) (Lo.get t r):=rfl
theorem cm {a:Act} {t:Nat} {u:Value} (h:a.tmps[t]? =some u):a.eval (.tmp t)=u:=by show a.tmps.getD t undef=u;rw[Array.getD_eq_getD_getElem?,h];rfl
theorem kx {ρ:Ren} {v v':Value} (h:cH v=some v'):ag ρ v' v:=by
 unfold cH at h;split at h<;>cases h
 ·exact .bool _
 ·exact .int _ _
 ·exact .string _
 ·exact .eO
 ·exact .ba
 ·exact .ij
 ·exact .nilFunc
 ·exact .nilIface
theorem oj {aa nt:Nat} {al:Al} {ρ:Ren} {lo:Lo} {tm:T Value} {a:Act} (hI:Inv aa nt al ρ lo tm a) {y:Operand} {f:cu} {v:Value} (hm:Dq aa y=some f) (hv:f lo tm=some v)
  (hy:∀x,y= .tmp x->∀q∈al,q.1≠x):ag ρ v (a.eval y):=by
 unfold Dq at hm;split at hm
 ·rename_i t;rw[ai]at hm;split at hm
  ·cases hm;obtain⟨u,hu,hr⟩:=hI.env t v hv;rw[cm hu];exact hr
  ·rename_i hk;cases hm;obtain⟨u,hu,hr⟩:=hI.lo t v (hy t rfl) (by simpa using hk) hv;rw[cm hu];exact hr
 ·split at hm
  ·rename_i hc;cases hm;cases hv;exact kx hc
  ·cases hm;cases hv
 ·cases hm;cases hv;exact .lY _ 0
 ·cases hm;cases hv;exact .func _ .nil .nil
theorem Inv.ops {aa nt:Nat} {al:Al} {ρ:Ren} {lo:Lo} {tm:T Value} {a:Act} (hI:Inv aa nt al ρ lo tm a) {ops:Array Operand}:fH ρ aa al lo tm a.eval ops:=by
 intro x f v _ hm hv;unfold bz dN at hm;split at hm
 ·rename_i t;split at hm
  ·rename_i y hy;obtain⟨h1,h2,h3⟩:=hI.al _ (rB hy);rcases h3 with ⟨g,hg⟩|⟨h3,h4⟩
   ·simp only at hg;subst hg;cases hm;cases hv
   ·simp only at h3 h4;rw[cm h3];refine oj hI hm hv (λx hx=>?_);rcases h4 with ⟨c,hc⟩|⟨x',eJ,h5⟩
    ·rw[hc]at hx;cases hx
    ·rw[eJ]at hx;cases hx;exact h5
  ·rename_i hy;exact oj hI hm hv (λx hx=>by cases hx;exact rC hy)
 ·rename_i hne;exact oj hI hm hv (λx hx=>(hne x hx).elim)
theorem rD {d:Nat}:∀ {al:Al} {p:Nat×Operand},p∈cC d al->p.1≠d∧((∃y,(p.1,y)∈al∧p.2= .const (.complex .f32 0 0))∨(p∈al∧p.2≠.tmp d)):=by
 intro al;induction al with
 |nil=>intro p h;cases h
 |cons q al ih=>
  intro p h;have h':p∈ab (Nat.beq q.1 d) (cC d al) (ab (mi d q.2) ((q.1,.const (.complex .f32 0 0))::cC d al) (q::cC d al)):=h;have up:p∈cC d al->p.1≠d∧((∃y,(p.1,y)∈q::al∧p.2= .const (.complex .f32 0 0))∨(p∈q::al∧p.2≠.tmp d)):= λh=>by
   obtain⟨h1,h2⟩:=ih h;refine⟨h1,?_⟩;rcases h2 with ⟨y,h2,h3⟩|⟨h2,h3⟩
   ·exact .inl ⟨y,List.mem_cons_of_mem _ h2,h3⟩
   ·exact .inr ⟨List.mem_cons_of_mem _ h2,h3⟩
  rw[ai]at h';split at h'
  ·exact up h'
  ·rename_i hq;have GH:q.1≠d:= λe=>hq (by rw[e];exact Nat.beq_refl _);rw[ai]at h';split at h'
   ·rcases List.mem_cons.1 h' with rfl|h'
    ·exact⟨GH,.inl ⟨q.2,by simp,rfl⟩⟩
    ·exact up h'
   ·rename_i hs;rcases List.mem_cons.1 h' with rfl|h'
    ·refine⟨GH,.inr ⟨by simp,λe=>hs (by rw[e];exact Nat.beq_refl d)⟩⟩
    ·exact up h'
theorem kj {d:Nat} {t:Nat}:∀ {al:Al},(∀p∈cC d al,p.1≠t)->t≠d->∀p∈al,p.1≠t:=by
 intro al;induction al with
 |nil=>intro _ _ p hp;cases hp
 |cons q al ih=>
  intro h hd p hp;have h':∀p∈ab (Nat.beq q.1 d) (cC d al) (ab (mi d q.2) ((q.1,.const (.complex .f32 0 0))::cC d al) (q::cC d al)),p.1≠t:=h;rw[ai]at h';split at h'
  ·rename_i hq;have hq:=Nat.eq_of_beq_eq_true hq;rcases List.mem_cons.1 hp with rfl|hp
   ·rw[hq];exact hd.symm
   ·exact ih h' hd p hp
  ·rw[ai]at h';split at h'
   ·rcases List.mem_cons.1 hp with rfl|hp
    ·exact h' (p.1,.const (.complex .f32 0 0)) (List.mem_cons_self ..)
    ·exact ih (λp hp=>h' p (List.mem_cons_of_mem _ hp)) hd p hp
   ·rcases List.mem_cons.1 hp with rfl|hp
    ·exact h' _ (List.mem_cons_self ..)
    ·exact ih (λp hp=>h' p (List.mem_cons_of_mem _ hp)) hd p hp
theorem bk {a:Act} {d t:Nat} {u:Value} (h:t≠d):(a.put (some d) u).tmps[t]? =a.tmps[t]?:=by simp[Act.put,Ne.symm h]
theorem aU {a:Act} {d:Nat} {u:Value} (h:d<a.tmps.size):(a.put (some d) u).tmps[d]? =some u:=by simp[Act.put,h]
theorem cq {a:Act} {d:Nat} {u:Value} {y:Operand} (h:y≠.tmp d):(a.put (some d) u).eval y=a.eval y:=by
 cases y with
 |tmp t=>have:t≠d:= λe=>h (by rw[e]);simp[Act.eval,Act.put,Ne.symm this]
 |const v=>rfl
 |global g=>rfl
 |func f=>rfl
theorem Inv.Ea {aa nt:Nat} {al:Al} {ρ:Ren} {lo:Lo} {tm:T Value} {a:Act} (hI:Inv aa nt al ρ lo tm a) {d:Nat} {u:Value}:
  ∀p∈cC d al,kept aa p.1=false∧p.1<nt∧((∃g:Nat,p.2= .const (.complex .f32 g 0))∨((a.put (some d) u).tmps[p.1]? =some ((a.put (some d) u).eval p.2)∧((∃c,p.2= .const c)∨∃x,p.2= .tmp x∧x≠d∧∀q∈al,q.1≠x))):=by
 intro p hp;obtain⟨h1,h2⟩:=rD hp;rcases h2 with ⟨y,h2,h3⟩|⟨h2,h3⟩
 ·obtain⟨q1,q2,_⟩:=hI.al _ h2;exact⟨q1,q2,.inl ⟨0,h3⟩⟩
 ·obtain⟨q1,q2,q3⟩:=hI.al _ h2;refine⟨q1,q2,?_⟩;rcases q3 with q3|⟨q3,q4⟩
  ·exact .inl q3
  ·refine .inr ⟨by rw[bk h1,cq h3];exact q3,?_⟩;rcases q4 with q4|⟨x,q4,q5⟩
   ·exact .inl q4
   ·exact .inr ⟨x,q4,λe=>h3 (by rw[q4,e]),q5⟩
theorem mW {al:Al} {d x:Nat} (h:∀q∈al,q.1≠x):∀q∈cC d al,q.1≠x:=by
 intro q hq;rcases(rD hq).2 with ⟨y,h2,_⟩|⟨h2,_⟩
 ·exact h (q.1,y) h2
 ·exact h q h2
noncomputable def He (dst:Option Tmp) (al:Al):Al:=match dst with|some d=>cC d al|none=>al
theorem A4 {aa nt:Nat} {al:Al} {ρ aj:Ren} {lo:Lo} {tm:T Value} {a:Act} (hI:Inv aa nt al ρ lo tm a) (hle:aK ρ aj) {dst:Option Tmp} {d:DI} (hd:kX aa nt dst=some d) {v u:Value} (hv:ag aj v u)
  {k:K} {s:AS} {x:bY} {tm':T Value} {s':AS} (h:fM d v k lo tm s= .code x tm' s'):
  ∃bq az,k bq az s= .code x tm' s'∧Inv aa nt (He dst al) aj bq az (a.put dst u):=by
 unfold kX at hd;split at hd
 ·cases hd;exact⟨lo,tm,h,hI.mono hle⟩
 ·rename_i t;obtain⟨hlt,hd⟩:=ae hd;have hlt:t<nt:=Nat.le_of_ble_eq_true hlt;have hsz:t<a.tmps.size:=Nat.lt_of_lt_of_le hlt hI.size;have HG:=hI.mono hle;have Aw:nt<=(a.put (some t) u).tmps.size:=by simp[Act.put];exact hI.size
  have qa:∀p∈cC t al,kept aa p.1=false∧p.1<nt∧((∃g:Nat,p.2= .const (.complex .f32 g 0))∨((a.put (some t) u).tmps[p.1]? =some ((a.put (some t) u).eval p.2)∧((∃c,p.2= .const c)∨∃x,p.2= .tmp x∧∀q∈cC t al,q.1≠x))):= λp hp=>by
   obtain⟨h1,h2,h3⟩:=HG.Ea (u:=u) p hp;refine⟨h1,h2,?_⟩;rcases h3 with h3|⟨h3,h4⟩
   ·exact .inl h3
   ·refine .inr ⟨h3,?_⟩;rcases h4 with h4|⟨x,h4,_,h5⟩
    ·exact .inl h4
    ·exact .inr ⟨x,h4,mW h5⟩
  rw[ai]at hd;split at hd
  ·rename_i hk;cases hd;have h':Option.rec (motive:= λ_=>Out) .no (λtm'=>k lo tm' s) (T.put (some v) tm t)= .code x tm' s':=h;cases hp:T.put (some v) tm t with
   |none=>rw[hp]at h';cases h'
   |some az=>
    rw[hp]at h';have hg:=T.bu _ _ _ _ hp;refine⟨lo,az,h',⟨⟨Aw,λt' w hw=>?_,λt' w hw=>?_⟩,λt' w h1 h2 h3=>?_,qa⟩⟩
    ·rw[hg]at hw;by_cases e:t'=t
     ·rw[e];exact hk
     ·rw[if_neg e]at hw;exact hI.tk t' w hw
    ·rw[hg]at hw;by_cases e:t'=t
     ·rw[if_pos e]at hw;cases hw;rw[e];exact⟨u,aU hsz,hv⟩
     ·rw[if_neg e]at hw;obtain⟨u',lU,hr⟩:=HG.env t' w hw;exact⟨u',by rw[bk e];exact lU,hr⟩
    ·have e:t'≠t:= λe=>by rw[e,hk]at h2;cases h2
     obtain⟨u',lU,hr⟩:=HG.lo t' w (kj h1 e) h2 h3;exact⟨u',by rw[bk e];exact lU,hr⟩
  ·rename_i hk;cases hd;have h':k (.cons t v lo) tm s= .code x tm' s':=h;refine⟨.cons t v lo,tm,h',⟨⟨Aw,hI.tk,λt' w hw=>?_⟩,λt' w h1 h2 h3=>?_,qa⟩⟩
   ·have e:t'≠t:= λe=>by have:=hI.tk t' w hw;rw[e]at this;exact hk this
    obtain⟨u',lU,hr⟩:=HG.env t' w hw;exact⟨u',by rw[bk e];exact lU,hr⟩
   ·rw[vQ,ai]at h3;split at h3
    ·rename_i e;have e:=Nat.eq_of_beq_eq_true e;cases h3;subst e;exact⟨u,aU hsz,hv⟩
    ·rename_i e;have e:t'≠t:= λe'=>e (by rw[e'];exact Nat.beq_refl _);obtain⟨u',lU,hr⟩:=HG.lo t' w (kj h1 e) h2 h3;exact⟨u',by rw[bk e];exact lU,hr⟩
end Go.Eng
namespace Go.Eng
open Go
variable {P:Program}
theorem yu {d:Nat} {y:Operand} (h:mi d y=false):y≠.tmp d:= λe=>by rw[e]at h;have:Nat.beq d d=false:=h;rw[show Nat.beq d d=true from Nat.beq_refl d]at this;cases this
theorem Inv.alias {aa nt:Nat} {al:Al} {ρ:Ren} {lo:Lo} {tm:T Value} {a:Act} (hI:Inv aa nt al ρ lo tm a) {d:Nat} {x:Operand} (hx:(∃t,x= .tmp t)∨∃c,x= .const c) (hk:kept aa d=false) (hlt:d<nt)
  (hn:mi d (dN al x)=false):Inv aa nt ((d,dN al x)::cC d al) ρ lo tm (a.put (some d) (a.eval x)):=by
 have hsz:d<a.tmps.size:=Nat.lt_of_lt_of_le hlt hI.size;have hne:=yu hn;have Aw:nt<=(a.put (some d) (a.eval x)).tmps.size:=by simp[Act.put];exact hI.size
 refine⟨⟨Aw,hI.tk,λt' w hw=>?_⟩,λt' w h1 h2 h3=>?_,λp hp=>?_⟩
 ·have e:t'≠d:= λe=>by have:=hI.tk t' w hw;rw[e,hk]at this;cases this
  obtain⟨u',lU,hr⟩:=hI.env t' w hw;exact⟨u',by rw[bk e];exact lU,hr⟩
 ·have e:t'≠d:= λe=>h1 (d,dN al x) (List.mem_cons_self ..) e.symm;obtain⟨u',lU,hr⟩:=hI.lo t' w (kj (λp hp=>h1 p (List.mem_cons_of_mem _ hp)) e) h2 h3;exact⟨u',by rw[bk e];exact lU,hr⟩
 ·have keys:∀ {x'},x'≠d->(∀q∈al,q.1≠x')->∀q∈(d,dN al x)::cC d al,q.1≠x':= λ {x'} h1 h2 q hq=>by
   rcases List.mem_cons.1 hq with rfl|hq
   ·exact h1.symm
   ·exact mW h2 q hq
  rcases List.mem_cons.1 hp with rfl|hp
  ·refine⟨hk,hlt,?_⟩;rcases hx with ⟨t,rfl⟩|⟨c,rfl⟩
   ·unfold dN at hne⊢;simp only at hne⊢;cases hg:tH t al with
    |none=>
     rw[hg]at hne;simp only at hne⊢;have ME:t≠d:= λe=>hne (by rw[e]);refine .inr ⟨by rw[aU hsz,cq hne],.inr ⟨t,rfl,?_⟩⟩;intro q hq;rcases List.mem_cons.1 hq with rfl|hq
     ·exact ME.symm
     ·exact mW (rC hg) q hq
    |some y=>
     rw[hg]at hne;simp only at hne⊢;obtain⟨_,_,h3⟩:=hI.al _ (rB hg);rcases h3 with ⟨g,h3⟩|⟨h3,h4⟩
     ·exact .inl ⟨g,h3⟩
     ·simp only at h3 h4;refine .inr ⟨by rw[aU hsz,cq hne,cm h3],?_⟩;rcases h4 with h4|⟨x',h4,h5⟩
      ·exact .inl h4
      ·refine .inr ⟨x',h4,?_⟩;have Cv:x'≠d:= λe=>hne (by rw[h4,e]);intro q hq;rcases List.mem_cons.1 hq with rfl|hq
       ·exact Cv.symm
       ·exact mW h5 q hq
   ·exact .inr ⟨by rw[aU hsz];rfl,.inl ⟨c,rfl⟩⟩
  ·obtain⟨h1,h2,h3⟩:=hI.Ea (u:=a.eval x) p hp;refine⟨h1,h2,?_⟩;rcases h3 with h3|⟨h3,h4⟩
   ·exact .inl h3
   ·refine .inr ⟨h3,?_⟩;rcases h4 with h4|⟨x',h4,h5,h6⟩
    ·exact .inl h4
    ·exact .inr ⟨x',h4,keys h5 h6⟩
def bb (P:Program) (m:Sem Next) (w:World) (R:Value->World->Prop):Prop:=
 match m.run P w with
 | .ok (.value u) w'=>R u w'
 | .ok (.enter f args) w'=>CallsIn Fence.wide 0 P f args w' λe w''=>∃u,e= .returned u∧R u w''
 | .ok (.round l f tmps assign body) w'=>RoundIn Fence.wide 0 P l f tmps assign body w' λe w''=>∃u,e= .returned u∧R u w''
 |_=>False
def EvOk (P:Program) (ev:Ev):Prop:=∀f args s v s',ev f args s= .val v s'->∀ρ w f' aq,Rel P ρ s w->ag ρ f f'->af ρ args aq->
 bb P (bL f' aq) w λu w'=>∃aj,ag aj v u∧Rel P aj s' w'∧aR ρ s w aj s' w'
def eL (F:Fence):Prop:=F=Fence.wide∨∃l,F=Fence.wide.inRound l
theorem CallsIn.Ax {F:Fence} (hF:eL F) {f:FuncId} {args:Array Value} {w:World} {R:Ending->World->Prop} (h:CallsIn Fence.wide 0 P f args w R):CallsIn F 0 P f args w R:=by
 rcases hF with rfl|⟨l,rfl⟩
 ·exact h
 ·exact h
theorem RoundIn.Ax {F:Fence} (hF:eL F) {l:Nat} {f:FuncId} {tmps:Array Value} {I2 bd:Code} {w:World} {R:Ending->World->Prop} (h:RoundIn Fence.wide 0 P l f tmps I2 bd w R):RoundIn F 0 P l f tmps I2 bd w R:=by
 rcases hF with rfl|⟨l,rfl⟩
 ·exact h
 ·exact h
theorem eL.fn {F:Fence} (hF:eL F) (f:FuncId):F.fn f:=by rcases hF with rfl|⟨l,rfl⟩<;>trivial
theorem eL.depth {F:Fence} (hF:eL F):F.depth=none:=by rcases hF with rfl|⟨l,rfl⟩<;>rfl
section
variable {F:Fence} {aa nt:Nat} {al:Al} {ρ:Ren} {lo:Lo} {tm:T Value} {a:Act} {s:AS} {w:World} {o:Oper} {ev:Ev}
def KV (P:Program) (aa nt:Nat) (al:Al) (ρ:Ren) (s:AS) (w:World) (a:Act) (k:K) (out:Out) (N:Act->World->Prop):Prop:=
 ∀aj bq az s1 a1 w1,k bq az s1=out->Inv aa nt al aj bq az a1->a1.defers=a.defers->Rel P aj s1 w1->aR ρ s w aj s1 w1->N a1 w1
theorem aF (a:Act) (dst:Option Tmp) (v:Value):(a.put dst v).defers=a.defers:=by cases dst<;>rfl
theorem rE (o:Oper) (al:Al):gX o al=He o.dst al:=rfl
theorem zm (hF:eL F) (hev:EvOk P ev) {r:Rd} (hr:sE P aa al o.op=some r) {d:DI} {k:K} {x:bY} {tm':T Value} {s':AS} (h:eg ev (nG r d) k lo tm s= .code x tm' s')
  (eW:fH ρ aa al lo tm a.eval o.op.operands) (hR:Rel P ρ s w) {N:Act->World->Prop} {Q:Exit->Act->World->Prop}
  (fin:∀ {aj:Ren} {v u:Value} {s1:AS} {w1:World},fM d v k lo tm s1= .code x tm' s'->ag aj v u->Rel P aj s1 w1->aR ρ s w aj s1 w1->N (a.put o.dst u) w1):o.wpIn F 0 P a w N Q:=by
 have dt:=p6 hr;have HH:∀c,o.op≠.defer c:= λc e=>by rw[e]at hr;cases hr
 refine⟨λf _=>hF.fn f,?_⟩;rw[Oper.semAt_eq _ _ _ HH];cases r with
 |p f=>
  have h':Option.rec (motive:= λ_=>Out) .no (λv=>fM d v k lo tm s) (f lo tm s)= .code x tm' s':=h;cases hv:f lo tm s with
  |none=>rw[hv]at h';cases h'
  |some v=>rw[hv]at h';obtain⟨u,hu,J5⟩:=dt.2 ρ lo tm s v w a.eval hv eW;rw[hu];exact fin h' J5 hR (.refl _ _ _)
 |r f=>
  have h':Option.rec (motive:= λ_=>Out) .no (λv=>fM d v k lo tm s) (f lo tm s)= .code x tm' s':=h;cases hv:f lo tm s with
  |none=>rw[hv]at h';cases h'
  |some v=>rw[hv]at h';obtain⟨u,hu,J5⟩:=dt ρ lo tm s v w a.eval hv hR eW;rw[hu];exact fin h' J5 hR (.refl _ _ _)
 |a f=>
  have h':Option.rec (motive:= λ_=>Out) .no (λp=>fM d p.1 k lo tm p.2) (f lo tm s)= .code x tm' s':=h;cases hv:f lo tm s with
  |none=>rw[hv]at h';cases h'
  |some r=>rw[hv]at h';obtain⟨b,hb,hm⟩:=dt lo tm s r hv;obtain⟨m,he,mq⟩:=hm ρ w a.eval (hR.dM _ (Nat.le_refl _)) eW;obtain⟨aj,u,w',h1,h2,h3,h4⟩:=mq.LH hR hb;rw[he,aM h1];exact fin h' h2 h3 h4
 |w f=>
  have h':Option.rec (motive:= λ_=>Out) .no (λp=>fM d p.1 k lo tm p.2) (f lo tm s)= .code x tm' s':=h;cases hv:f lo tm s with
  |none=>rw[hv]at h';cases h'
  |some r=>
   rw[hv]at h';obtain⟨aj,nx,w',h1,h2,h3,h4⟩:=dt ρ lo tm s r w a.eval hv hR eW;rw[h1];rcases h2 with ⟨u,rfl,hu⟩|⟨rfl,he⟩
   ·exact fin h' hu h3 h4
   ·exact fin h' (by rw[he];exact .tuple .nil) h3 h4
 |c f I2=>
  obtain⟨c,ho,has,EX⟩:=dt;have h':Option.rec (motive:= λ_=>Out) .no (λl=>Option.rec (motive:= λ_=>Out) .no (λf=>nW d k lo tm (ev f l s)) (f lo tm)) (sC I2 lo tm)= .code x tm' s':=h;cases hl:sC I2 lo tm with
  |none=>rw[hl]at h';cases h'
  |some l=>
   cases hv:f lo tm with
   |none=>rw[hl,hv]at h';cases h'
   |some fv=>
    rw[hl,hv]at h';have h':nW d k lo tm (ev fv l s)= .code x tm' s':=h';cases he:ev fv l s with
    |no=>rw[he]at h';cases h'
    |code=>rw[he]at h';cases h'
    |val v s1=>
     rw[he]at h';have h':fM d v k lo tm s1= .code x tm' s':=h';obtain⟨g,hg,hex⟩:=EX ρ lo tm fv a.eval hv eW;have gi:=hev _ _ _ _ _ he ρ w _ _ hR hg (eW.list (by simp[ho,Op.operands,Call.operands]<;>grind) has hl);rw[hex w];unfold bb at gi;generalize (bL g (c.args.toList.map a.eval)).run P w=res at gi;cases res with
     |halt=>exact gi.elim
     |ok nx w1=>
      cases nx with
      |value u=>obtain⟨aj,h1,h2,h3⟩:=gi;exact fin h' h1 h2 h3
      |enter f args=>refine⟨λhd=>(by rw[hF.depth]at hd;cases hd),CallsIn.mono (CallsIn.Ax hF gi) ?_⟩;rintro e w2 ⟨u,rfl,aj,h1,h2,h3⟩;exact fin h' h1 h2 h3
      |round l f tmps I2 bd=>refine⟨λhd=>(by rw[hF.depth]at hd;cases hd),RoundIn.mono (RoundIn.Ax hF gi) ?_⟩;rintro e w2 ⟨u,rfl,aj,h1,h2,h3⟩;exact fin h' h1 h2 h3
      |_=>exact gi.elim
theorem Hf (hF:eL F) (hev:EvOk P ev) {r:Rd} (hr:sE P aa al o.op=some r) {d:DI} (hd:kX aa nt o.dst=some d) {k:K} {x:bY} {tm':T Value} {s':AS} (h:eg ev (nG r d) k lo tm s= .code x tm' s')
  (hI:Inv aa nt al ρ lo tm a) (hR:Rel P ρ s w) {N:Act->World->Prop} {Q:Exit->Act->World->Prop} (hN:KV P aa nt (gX o al) ρ s w a k (.code x tm' s') N):o.wpIn F 0 P a w N Q:=
 zm hF hev hr h hI.ops hR λhp hv h1 h2=>by obtain⟨bq,az,hk,J6⟩:=A4 hI (h2.le hR) hd hv hp;exact hN _ bq az _ _ _ hk (by rw[rE];exact J6) (aF _ _ _) h1 h2
end
end Go.Eng
namespace Go.Eng
open Go
variable {P:Program}
section
variable {F:Fence} {aa nt:Nat} {ev:Ev}
theorem wE {ops:Array Oper} {tmps:Array Value} {j d:Nat} {o:Oper} {b:Bool} (hj:ops[j]? =some o) (hd:o.dst=some d) (ht:tmps.getD d undef= .bool b):yielded ops tmps j=some b:=by
 unfold yielded;rw[hj,Option.bind_some,hd,Option.bind_some];rw[Array.getD_eq_getD_getElem?]at ht;cases hq:tmps[d]? with
 |none=>rw[hq]at ht;cases ht
 |some v=>rw[hq]at ht;simp only[Option.getD_some]at ht;rw[ht]
theorem tj {ops:Array Oper} {tmps:Array Value} {j d:Nat} {o:Oper} {c:Array Value} (hj:ops[j]? =some o) (hd:o.dst=some d) (ht:tmps.getD d undef= .tuple c):yielded ops tmps j=none:=by
 unfold yielded;rw[hj,Option.bind_some,hd,Option.bind_some];rw[Array.getD_eq_getD_getElem?]at ht;cases hq:tmps[d]? with
 |none=>rfl
 |some v=>rw[hq]at ht;simp only[Option.getD_some]at ht;rw[ht]
theorem qL {all:Array Oper} {al:Al} {ρ:Ren} {lo:Lo} {tm:T Value} {a:Act} {j:Nat} (eW:∀d g v,(∃o',all[j]? =some o'∧o'.dst=some d)->bz aa al (.tmp d)=some g->g lo tm=some v->ag ρ v (a.eval (.tmp d))) {o:Oper} {want y:Bool} {g:cu} (hg:o.guard=some (j,want)) (hm:iC aa al all.toList j=some g)
  (hy:kY want (g lo tm)=some y):Region.wanted o (yielded all a.tmps)=y:=by
 unfold iC at hm;split at hm
 ·rename_i o' fT;split at hm
  ·rename_i d hd;have hj:all[j]? =some o':=by simpa using fT
   unfold Region.wanted;rw[hg];simp only;unfold kY at hy;split at hy
   ·rename_i b BM;cases hy;have hv:=eW _ _ _ ⟨o',hj,hd⟩ hm BM;have ht:a.tmps.getD d undef= .bool b:=by
     have:a.eval (.tmp d)=a.tmps.getD d undef:=rfl;rw[<-this];generalize a.eval (.tmp d)=u at hv;cases hv;rfl
    rw[wE hj hd ht];cases b<;>cases want<;>rfl
   ·rename_i c BM;cases hy;have hv:=eW _ _ _ ⟨o',hj,hd⟩ hm BM;have ht:∃c',a.tmps.getD d undef= .tuple c':=by
     have:a.eval (.tmp d)=a.tmps.getD d undef:=rfl;rw[<-this];generalize a.eval (.tmp d)=u at hv;cases hv;exact⟨_,rfl⟩
    obtain⟨c',ht⟩:=ht;rw[tj hj hd ht];cases want<;>rfl
   ·cases hy
  ·cases hm
 ·cases hm
theorem LM (hF:eL F) (hev:EvOk P ev) {all:Array Oper} {al:Al} {ρ:Ren} {lo:Lo} {tm:T Value} {a:Act} {s:AS} {w:World} {o:Oper} {i:Nat} (hi:all[i]? =some o) {c:CI} (hc:Bi P aa nt al all.toList o=some c) {k:K} {x:bY} {tm':T Value} {s':AS}
  (h:eg ev c k lo tm s= .code x tm' s') (hI:Inv aa nt al ρ lo tm a) (hR:Rel P ρ s w) {rest:List Nat} {Q:Exit->Act->World->Prop}
  (hN:KV P aa nt (gX o al) ρ s w a k (.code x tm' s') (wpOpsIn F 0 P all Q rest)):wpOpsIn F 0 P all Q (i::rest) a w:=by
 obtain⟨r,hr,hc⟩:=U hc;obtain⟨d,hd,hc⟩:=U hc;simp only[wpOpsIn,hi];unfold cO at hc;split at hc
 ·rename_i hg;cases hc;have hw:Region.wanted o (yielded all a.tmps)=true:=by unfold Region.wanted;rw[hg]
  rw[if_pos hw];exact Hf hF hev hr hd h hI hR hN
 ·rename_i j want hg;obtain⟨g,yY,hc⟩:=U hc;cases hc;have h':Hu (kY want (g lo tm)) (eg ev (nG r d) k lo tm s) (fM d (.tuple #[]) k lo tm s)= .code x tm' s':=h;cases hy:kY want (g lo tm)with
  |none=>rw[hy]at h';cases h'
  |some y=>
   rw[hy]at h';have hw:=qL (λd g v _ hm hv=>hI.ops (ops:= #[.tmp d]) _ _ _ (by simp) hm hv) hg yY hy;cases y with
   |true=>rw[if_pos hw];exact Hf hF hev hr hd h' hI hR hN
   |false=>rw[if_neg (by rw[hw];simp)];refine⟨λf _=>hF.fn f,?_⟩;obtain⟨bq,az,hk,J6⟩:=A4 (u:=undef) hI (aK.refl ρ) hd (.tuple .nil) h';exact hN ρ bq az s _ w hk (by rw[rE];exact J6) (aF _ _ _) hR (.refl _ _ _)
theorem yv {o:Oper} {d:Nat} {x:Operand} (h:vi o=some (d,x)):o.guard=none∧o.dst=some d∧o.op= .move x∧((∃t,x= .tmp t)∨∃c,x= .const c):=by
 unfold vi at h;split at h
 ·cases h;exact⟨‹_›,‹_›,‹_›,.inl ⟨_,rfl⟩⟩
 ·cases h;exact⟨‹_›,‹_›,‹_›,.inr ⟨_,rfl⟩⟩
 ·cases h
theorem uj (hF:eL F) (hev:EvOk P ev) {all:Array Oper} {x:bY} {tm':T Value} {s':AS} {Q:Exit->Act->World->Prop}:∀(rest:List Oper) (i:Nat),all.toList.drop i=rest->∀(al:Al) (cs:List CI),dD P aa nt all.toList rest al=some cs->
  ∀(ρ:Ren) (lo:Lo) (tm:T Value) (s:AS) (a:Act) (w:World),i5 ev cs sJ lo tm s= .code x tm' s'->Inv aa nt al ρ lo tm a->Rel P ρ s w->
  (∀aj a' w',x= .normal->bD aa nt aj tm' a'->a'.defers=a.defers->Rel P aj s' w'->aR ρ s w aj s' w'->Q .normal a' w')->wpOpsIn F 0 P all Q (List.range' i rest.length) a w:=by
 intro rest;induction rest with
 |nil=>intro i _ al cs hc ρ lo tm s a w h hI hR hQ;cases hc;cases h;exact hQ ρ a w rfl hI.tobD rfl hR (.refl _ _ _)
 |cons o rest ih=>
  intro i Hg al cs hc ρ lo tm s a w h hI hR hQ;have hi:all[i]? =some o:=by
   have:all.toList[i]? =some o:=by have:=congrArg (·[0]?) Hg;simpa using this
   simpa using this
  have Eb:all.toList.drop (i+1)=rest:=by rw[<-List.drop_drop,Hg];rfl
  have step:∀ {c r},Bi P aa nt al all.toList o=some c->dD P aa nt all.toList rest (gX o al)=some r->cs=c::r->wpOpsIn F 0 P all Q (List.range' i (o::rest).length) a w:=by intro c r h1 h2 e;subst e;have h':eg ev c (i5 ev r sJ) lo tm s= .code x tm' s':=h;show wpOpsIn F 0 P all Q (i::List.range' (i+1) rest.length) a w;refine LM hF hev hi h1 h' hI hR (λbf bq az s1 a1 w1 hk J6 Cw de dq=>?_);refine ih (i+1) Eb _ _ h2 bf bq az s1 a1 w1 hk J6 de (λaj a' w' hx hE hd eT aS=>hQ aj a' w' hx hE (hd.trans Cw) eT (dq.trans aS))
  have p9:(match vi o with
   |some (d,x)=>ab (ab (kept aa d) true (ab (Nat.ble nt d) true (ab (mi d (dN al x)) true (writes (dN al x) rest)))) (ob (Bi P aa nt al all.toList o) λc=>ob (dD P aa nt all.toList rest (gX o al)) λr=>some (c::r)) (dD P aa nt all.toList rest ((d,dN al x)::cC d al))
   |none=>ob (Bi P aa nt al all.toList o) λc=>ob (dD P aa nt all.toList rest (gX o al)) λr=>some (c::r))=some cs:=hc
  split at p9
  ·rename_i d y GI;rw[ai]at p9;split at p9
   ·obtain⟨c,h1,p9⟩:=U p9;obtain⟨r,h2,p9⟩:=U p9;cases p9;exact step h1 h2 rfl
   ·rename_i oN;rw[ai]at oN;split at oN
    ·exact(oN rfl).elim
    ·rename_i hk;rw[ai]at oN;split at oN
     ·exact(oN rfl).elim
     ·rename_i hlt;have hk:kept aa d=false:=by simpa using hk
      have hlt:d<nt:=Nat.lt_of_not_le λh=>hlt (Nat.ble_eq_true_of_le h);have E9:mi d (dN al y)=false:=by
       cases ht:mi d (dN al y)with
       |false=>rfl
       |true=>rw[ht]at oN;exact(oN rfl).elim
      obtain⟨hg,hd,P7,GJ⟩:=yv GI;show wpOpsIn F 0 P all Q (i::List.range' (i+1) rest.length) a w;simp only[wpOpsIn,hi];have hw:Region.wanted o (yielded all a.tmps)=true:=by unfold Region.wanted;rw[hg]
      rw[if_pos hw];refine⟨λf _=>hF.fn f,?_⟩;rw[Oper.semAt_eq _ _ _ (λc e=>by rw[P7]at e;cases e)];have he:(execOp a.eval o).run P w= .ok (.value (a.eval y)) w:=by unfold execOp;rw[P7];rfl
      rw[he];show wpOpsIn F 0 P all Q (List.range' (i+1) rest.length) (a.put o.dst (a.eval y)) w;rw[hd];have HG:=hI.alias GJ hk hlt E9;exact ih (i+1) Eb _ _ p9 ρ lo tm s _ w h HG hR (λaj a' w' hx hE sQ eT aS=>hQ aj a' w' hx hE (sQ.trans (aF _ _ _)) eT aS)
  ·obtain⟨c,h1,p9⟩:=U p9;obtain⟨r,h2,p9⟩:=U p9;cases p9;exact step h1 h2 rfl
end
end Go.Eng
namespace Go.Eng
open Go
variable {P:Program}
def Ec:bY->Exit
 | .normal=> .normal
 | .exit id=> .exit id
 | .goto l=> .goto l
 | .ret=> .ret
structure N0 where
 n:Nat
 base:List Deferred
structure Marks (n0:N0) (ρ:Ren) (s:AS) (w:World) (ds:List Deferred):Prop where
 own:∃ms,ds=ms++n0.base∧(∀d∈ms,∃r,d.target= .collected r∧w.heap[r]? =some (.deferred (some []))∧r<w.heap.size∧¬aI ρ s r∧n0.n<=r)∧ms.Pairwise λd d'=>∀r,d.target= .collected r->d'.target≠.collected r
theorem Marks.step {n0:N0} {ρ aj:Ren} {s s':AS} {w w':World} {ds:List Deferred} (h:Marks n0 ρ s w ds) (hS:aR ρ s w aj s' w'):Marks n0 aj s' w' ds:=by obtain⟨ms,he,Fa,tC⟩:=h.own;refine⟨ms,he,λd hd=>?_,tC⟩;obtain⟨r,h1,h2,h3,h4,h5⟩:=Fa d hd;obtain⟨e,n⟩:=hS.frame r h3 h4;exact⟨r,h1,by rw[e];exact h2,Nat.lt_of_lt_of_le h3 hS.size,n,h5⟩
theorem Marks.re {n0:N0} {ρ aj:Ren} {s s':AS} {w w':World} {ds:List Deferred} (h:Marks n0 ρ s w ds) (f:∀d:Deferred,(∃r,d.target= .collected r∧w.heap[r]? =some (.deferred (some []))∧r<w.heap.size∧¬aI ρ s r∧n0.n<=r)->∃r,d.target= .collected r∧w'.heap[r]? =some (.deferred (some []))∧r<w'.heap.size∧¬aI aj s' r∧n0.n<=r):Marks n0 aj s' w' ds:=by obtain⟨ms,he,Fa,tC⟩:=h.own;exact⟨ms,he,λd hd=>f d (Fa d hd),tC⟩
theorem Marks.nil {n:Nat} {ρ:Ren} {s:AS} {w:World}:Marks ⟨n,[]⟩ ρ s w []:=⟨[],rfl,λd hd=>(by cases hd),.nil⟩
theorem Marks.at {n0:N0} {ρ:Ren} {s:AS} {w:World}:Marks n0 ρ s w n0.base:=⟨[],rfl,λd hd=>(by cases hd),.nil⟩
def kF (P:Program) (n0:N0) (aa nt:Nat) (ρ:Ren) (s:AS) (w:World) (x:bY) (tm':T Value) (s':AS) (Q:Exit->Act->World->Prop):Prop:=
 ∀aj a' w',bD aa nt aj tm' a'->Marks n0 aj s' w' a'.defers->Rel P aj s' w'->aR ρ s w aj s' w'->Q (Ec x) a' w'
def cV (P:Program) (aa nt:Nat) (c:Code) (cf:CF):Prop:=∀ev,EvOk P ev->∀F,eL F->∀ρ tm s a w x tm' s',cf ev tm s= .code x tm' s'->bD aa nt ρ tm a->∀n0:N0,n0.n<=w.heap.size->Marks n0 ρ s w a.defers->(∀l,F.round=some l->∃r,w.heap[l]? =some (Obj.loop r))->Rel P ρ s w->
 ∀Q,kF P n0 aa nt ρ s w x tm' s' Q->c.wpIn F 0 P Q a w
section
variable {aa nt:Nat}
theorem dc {F:Fence} {ρ aj:Ren} {s s':AS} {w w':World} (h:∀l,F.round=some l->∃r,w.heap[l]? =some (Obj.loop r)) (hS:aR ρ s w aj s' w'):∀l,F.round=some l->∃r,w'.heap[l]? =some (Obj.loop r):= λl hl=>let⟨r,hr⟩:=h l hl;hS.lp l r hr
theorem bD.inv {ρ:Ren} {tm:T Value} {a:Act} (h:bD aa nt ρ tm a):Inv aa nt [] ρ .nil tm a:=⟨h,λt v _ _ h=>(by cases h),λp hp=>(by cases hp)⟩
theorem Gj:cV P aa nt .skip (sI .normal):= λev hev F hF ρ tm s a w x tm' s' h hE n0 eR hM hL hR Q hQ=>by cases h;exact wpIn_skip (hQ ρ a w hE hM hR (.refl _ _ _))
theorem ED (l:Nat):cV P aa nt (.label l) (sI .normal):= λev hev F hF ρ tm s a w x tm' s' h hE n0 eR hM hL hR Q hQ=>by cases h;exact wpIn_label (hQ ρ a w hE hM hR (.refl _ _ _))
theorem Gk (id:Nat):cV P aa nt (.exit id) (sI (.exit id)):= λev hev F hF ρ tm s a w x tm' s' h hE n0 eR hM hL hR Q hQ=>by cases h;exact wpIn_exit (hQ ρ a w hE hM hR (.refl _ _ _))
theorem Gl (l:Nat):cV P aa nt (.goto l) (sI (.goto l)):= λev hev F hF ρ tm s a w x tm' s' h hE n0 eR hM hL hR Q hQ=>by cases h;exact wpIn_goto (hQ ρ a w hE hM hR (.refl _ _ _))
theorem Jb:cV P aa nt .ret (sI .ret):= λev hev F hF ρ tm s a w x tm' s' h hE n0 eR hM hL hR Q hQ=>by cases h;exact wpIn_ret (hQ ρ a w hE hM hR (.refl _ _ _))
theorem Ed {x y:Code} {f g:CF} (hf:cV P aa nt x f) (hg:cV P aa nt y g):cV P aa nt (.seq x y) (CE f g):= λev hev F hF ρ tm s a w e tm' s' h hE n0 eR hM hL hR Q hQ=>by
 have h:gn (g ev) (f ev tm s)= .code e tm' s':=h;refine wpIn_seq ?_;cases ho:f ev tm s with
 |no=>rw[ho]at h;cases h
 |val=>rw[ho]at h;cases h
 |code e1 az s1=>
  rw[ho]at h;refine hf ev hev F hF ρ tm s a w e1 az s1 ho hE n0 eR hM hL hR _ (λbf a1 w1 cM gF de dq=>?_);cases e1 with
  |normal=>exact hg ev hev F hF bf az s1 a1 w1 e tm' s' h cM n0 (Nat.le_trans eR dq.size) gF (dc hL dq) de Q (λdu a2 w2 h1 h2 h3 h4=>hQ du a2 w2 h1 h2 h3 (dq.trans h4))
  |exit id=>cases h;exact hQ bf a1 w1 cM gF de dq
  |goto l=>cases h;exact hQ bf a1 w1 cM gF de dq
  |ret=>cases h;exact hQ bf a1 w1 cM gF de dq
theorem A5 {c:Operand} {x y:Code} {co:cu} {f g:CF} (hc:bz aa [] c=some co) (hf:cV P aa nt x f) (hg:cV P aa nt y g):cV P aa nt (.cond c x y) (xj co f g):= λev hev F hF ρ tm s a w e tm' s' h hE n0 eR hM hL hR Q hQ=>by
 have h:Dt (co .nil tm) (f ev tm s) (g ev tm s)= .code e tm' s':=h;rw[Ew]at h;unfold AQ at h;split at h
 ·rename_i b hb;have hv:=hE.inv.ops (ops:= #[c]) _ _ _ (by simp) hc hb;have he:a.eval c= .bool b:=by
   generalize a.eval c=u at hv;cases hv;rfl
  refine wpIn_cond he ?_;rw[ai]at h;cases b with
  |true=>exact hf ev hev F hF ρ tm s a w e tm' s' h hE n0 eR hM hL hR Q hQ
  |false=>exact hg ev hev F hF ρ tm s a w e tm' s' h hE n0 eR hM hL hR Q hQ
 ·cases h
theorem dY {b:Frame} {a:Act} {k:List Item} {cs:List Frame} {w:World} {c:Code}:_root_.Go.step P (lone (b.atR a (.code (.scope c)::k)) cs w)= .next (lone (b.atR a (.code c:: .inScope c::k)) cs w):=
 step_lone_go (by simp[stepG,stepG.exec,Frame.atR])
theorem tn {b:Frame} {a:Act} {k:List Item} {cs:List Frame} {w:World} {c:Code}:_root_.Go.step P (lone (b.atR a (.inScope c::k)) cs w)= .next (lone (b.atR a k) cs w):=
 step_lone_go (by simp[stepG,stepG.exec,Frame.atR])
theorem zQ {F:Fence} {n:Nat} {Q Q':Exit->Act->World->Prop} {a:Act} {w:World} {c:Code} (h:c.wpIn F n P Q' a w) (hQ:∀e a w,Q' e a w->(∀l,e≠.goto l)∧Q e a w):(Code.scope c).wpIn F n P Q a w:=by
 intro b k cs hro hb hr;have h0:(lone (b.atR a (.code (.scope c)::k)) cs w).fenced P F:=fenced_calm hb hr rfl;obtain⟨e,Bu,Bv,hq,Bw⟩:=h b (.inScope c::k) cs hro hb hr;obtain⟨hg,hq⟩:=hQ e Bu Bv hq;cases e with
 |normal=>exact⟨.normal,Bu,Bv,hq,.head h0 dY (StepsIn.trans Bw (.one (fenced_calm hb hr rfl) tn))⟩
 |exit Nz=>
  have hx:exitTo Nz (.inScope c::k)=exitTo Nz k:=by simp[exitTo]
  exact⟨.exit Nz,Bu,Bv,hq,λk' hk=> .head h0 dY (Bw.1 k' (by rw[hx];exact hk)),
   λer hk=>let⟨k₁,h1,h2⟩:=Bw.2 er (by rw[hx];exact hk);⟨k₁,h1,.head h0 dY h2⟩⟩
 |goto l=>exact(hg l rfl).elim
 |ret=>exact⟨_,Bu,Bv,hq,.of_steps (.one h0 dY) Bw⟩
 |panic ch=>exact⟨_,Bu,Bv,hq,.of_steps (.one h0 dY) Bw⟩
 |outgrown=>exact⟨_,Bu,Bv,hq,.of_steps (.one h0 dY) Bw⟩
theorem xK {x:Code} {f:CF} (hf:cV P aa nt x f):cV P aa nt (.scope x) (qu f):= λev hev F hF ρ tm s a w e tm' s' h hE n0 eR hM hL hR Q hQ=>by
 have h:xA (f ev tm s)= .code e tm' s':=h;cases ho:f ev tm s with
 |no=>rw[ho]at h;cases h
 |val=>rw[ho]at h;cases h
 |code e1 az s1=>
  rw[ho]at h;refine zQ (Q':= λe a w=>(∀l,e≠.goto l)∧Q e a w) (hf ev hev F hF ρ tm s a w e1 az s1 ho hE n0 eR hM hL hR _ (λbf a1 w1 cM gF de dq=>?_)) (λ_ _ _ h=>h);cases e1 with
  |normal=>cases h;exact⟨λl e=>(by cases e),hQ bf a1 w1 cM gF de dq⟩
  |exit i=>cases h;exact⟨λl e=>(by cases e),hQ bf a1 w1 cM gF de dq⟩
  |goto l=>cases h
  |ret=>cases h;exact⟨λl e=>(by cases e),hQ bf a1 w1 cM gF de dq⟩
theorem xL {id:Nat} {x:Code} {f:CF} (hf:cV P aa nt x f):cV P aa nt (.block id x) (qt id f):= λev hev F hF ρ tm s a w e tm' s' h hE n0 eR hM hL hR Q hQ=>by
 have h:iE id (f ev tm s)= .code e tm' s':=h;refine wpIn_block ?_;cases ho:f ev tm s with
 |no=>rw[ho]at h;cases h
 |val=>rw[ho]at h;cases h
 |code e1 az s1=>
  rw[ho]at h;refine hf ev hev F hF ρ tm s a w e1 az s1 ho hE n0 eR hM hL hR _ (λbf a1 w1 cM gF de dq=>?_);cases e1 with
  |normal=>cases h;exact hQ bf a1 w1 cM gF de dq
  |exit i=>
   have h:ab (Nat.beq i id) (.code .normal az s1) (.code (.exit i) az s1)=Out.code e tm' s':=h;rw[ai]at h;show(if i=id then Q .normal a1 w1 else Q (.exit i) a1 w1);split at h
   ·rename_i hi;cases h;rw[if_pos (Nat.eq_of_beq_eq_true hi)];exact hQ bf a1 w1 cM gF de dq
   ·rename_i hi;cases h;rw[if_neg (λe=>hi (by rw[e];exact Nat.beq_refl _))];exact hQ bf a1 w1 cM gF de dq
  |goto l=>cases h;exact hQ bf a1 w1 cM gF de dq
  |ret=>cases h;exact hQ bf a1 w1 cM gF de dq
theorem su {id:Nat} {ops:Array Oper} {l:List CI} (hl:dD P aa nt ops.toList ops.toList []=some l):cV P aa nt (.region id ops false) (AP l):= λev hev F hF ρ tm s a w e tm' s' h hE n0 eR hM hL hR Q hQ=>by
 refine wpIn_region ?_;have:=uj (Q:=Q) hF hev (all:=ops) (x:=e) (tm':=tm') (s':=s') ops.toList 0 (by simp) [] l hl ρ .nil tm s a w h hE.inv hR (λaj a' w' hx kV hd eT aS=>by subst hx;exact hQ aj a' w' kV (by rw[hd];exact hM.step aS) eT aS)
 rw[List.range_eq_range'];simpa using this
theorem ju {p:Nat->Prop} (h:∃j,p j):∃j,p j∧∀i,p i->j<=i:=by
 obtain⟨n,hn⟩:=h;induction n using Nat.strongRecOn with
 |_ n ih=>
  by_cases h:∃i,i<n∧p i
  ·obtain⟨i,hi,hp⟩:=h;exact ih i hi hp
  ·exact⟨n,hn,λi hp=>Nat.le_of_not_lt λhi=>h ⟨i,hi,hp⟩⟩
open Classical in
noncomputable def least (p:Nat->Prop):Nat:=if h:∃j,p j then Classical.choose (ju h)else 0
theorem zR {p:Nat->Prop} (h:∃j,p j):p (least p):=by unfold least;rw[dif_pos h];exact(Classical.choose_spec (ju h)).1
theorem least_le {p:Nat->Prop} {i:Nat} (hi:p i):least p<=i:=by
 have h:∃j,p j:=⟨i,hi⟩
 unfold least;rw[dif_pos h];exact(Classical.choose_spec (ju h)).2 i hi
theorem Gm {c:Code} {f:CF} (hf:cV P aa nt c f):cV P aa nt (.loop c) (Dv f):= λev hev F hF ρ tm s a w e tm' s' h hE n0 eR hM hL hR Q hQ=>by
 let Ij:Act->World->Nat->Prop:= λa1 w1 j=>∃bf az s1,Du (f ev) j az s1= .code e tm' s'∧bD aa nt bf az a1∧Marks n0 bf s1 w1 a1.defers∧Rel P bf s1 w1∧aR ρ s w bf s1 w1
 refine wpIn_loop (λa1 w1=>∃j,Ij a1 w1 j) (λa1 w1=>least (Ij a1 w1)) ⟨1000000,ρ,tm,s,h,hE,hM,hR,.refl _ _ _⟩ (λa1 w1 hI=>?_);have iu:=zR hI;generalize hj:least (Ij a1 w1)=j at iu;obtain⟨bf,az,s1,hl,cM,gF,de,dq⟩:=iu;cases j with
 |zero=>cases hl
 |succ j=>
  have hl:gn (Du (f ev) j) (f ev az s1)= .code e tm' s':=hl;cases ho:f ev az s1 with
  |no=>rw[ho]at hl;cases hl
  |val=>rw[ho]at hl;cases hl
  |code e2 pF s2=>
   rw[ho]at hl;refine hf ev hev F hF bf az s1 a1 w1 e2 pF s2 ho cM n0 (Nat.le_trans eR dq.size) gF (dc hL dq) de _ (λdu a2 w2 lX u7 eS fI=>?_);cases e2 with
   |normal=>
    have P8:Ij a2 w2 j:=⟨du,pF,s2,hl,lX,u7,eS,dq.trans fI⟩
    refine⟨⟨j,P8⟩,?_⟩;show least (Ij a2 w2)<j+1;exact Nat.lt_succ_of_le (least_le P8)
   |exit id=>cases hl;exact hQ du a2 w2 lX u7 eS (dq.trans fI)
   |goto l=>cases hl;exact hQ du a2 w2 lX u7 eS (dq.trans fI)
   |ret=>cases hl;exact hQ du a2 w2 lX u7 eS (dq.trans fI)
end
end Go.Eng
namespace Go.Eng
open Go
variable {P:Program}
theorem jS (m i:Nat):aw m i=m.testBit i:=by
 unfold aw Nat.testBit;show Nat.beq (m>>>i&&&1) 1=(1&&&(m>>>i) !=0)
 rw[Nat.and_comm (m>>>i) 1,Nat.one_and_eq_mod_two];have:m>>>i%2<2:=Nat.mod_lt _ (by omega);generalize m>>>i%2=r at*
 match r,this with
 |0,_=>rfl
 |1,_=>rfl
theorem Gn (j:Nat):Nat.shiftLeft 1 j=2^j:=by show 1<<<j=2^j;rw[Nat.shiftLeft_eq,Nat.one_mul]
theorem jn (ms:List Nat) (j:Nat):∀es:List Edge,aw (ia ms es) j=true↔ ∃e∈es,Region.binds .any e=true∧(e.on=j∨aw (ms.getD e.on 0) j=true)
 | []=>by show aw 0 j=true↔_;rw[jS];simp
 |e::es=>by
  have ih:=jn ms j es;show aw (ab (Region.binds .any e) (Nat.lor (Nat.lor (Nat.shiftLeft 1 e.on) (ms.getD e.on 0)) (ia ms es)) (ia ms es)) j=true↔_;cases hb:Region.binds .any e with
  |false=>rw[bS,ih];simp[hb]
  |true=>
   rw[bF,Gn];show aw ((2^e.on|||ms.getD e.on 0)|||ia ms es) j=true↔_;rw[jS,Nat.testBit_or,Nat.testBit_or,Nat.testBit_two_pow,<-jS,<-jS];simp only[Bool.or_eq_true,ih,decide_eq_true_eq,List.mem_cons];constructor
   ·rintro((h|h)|⟨e',h1,h2,h3⟩)
    ·exact⟨e,.inl rfl,hb,.inl h⟩
    ·exact⟨e,.inl rfl,hb,.inr h⟩
    ·exact⟨e',.inr h1,h2,h3⟩
   ·rintro⟨e',rfl|h1,h2,h3⟩
    ·exact .inl h3
    ·exact .inr ⟨e',h1,h2,h3⟩
theorem rF:∀(l:List Oper) (yZ ms:List Nat),qk l yZ=some ms->∃r,ms=yZ++r∧r.length=l.length∧∀i o,l[i]? =some o->ms[yZ.length+i]? =some (ia (ms.take (yZ.length+i)) o.after.toList)
 | [],yZ,ms,h=>by have h:some yZ=some ms:=h;cases h;exact⟨[],by simp,rfl,λi o h=>by simp at h⟩
 |o::l,yZ,ms,h=>by
  have h:ar (ia yZ o.after.toList) (λm=>ob (sy yZ [m]) (qk l))=some ms:=h;rw[ak,pV]at h;have h:qk l (yZ++ [ia yZ o.after.toList])=some ms:=h;obtain⟨r,h1,h2,h3⟩:=rF l _ _ h;refine⟨ia yZ o.after.toList::r,by simp[h1],by simp[h2],λi o' hi=>?_⟩;cases i with
  |zero=>cases hi;rw[h1];simp
  |succ i=>have:=h3 i o' (by simpa using hi);simp only[List.length_append,List.length_cons,List.length_nil,Nat.zero_add]at this;rw[show yZ.length+(i+1)=yZ.length+1+i by omega];exact this
theorem uk {aa:Nat}:∀(l:List Oper) (i:Nat) (ms:List Nat) (r:List aE),Bk P aa l i ms=some r->∃k,r.length=l.length∧l.length+k=ms.length∧
  ∀j x,r[j]? =some x->x.i=i+j∧l[j]? =some x.o∧ms[j]? =some x.m∧x.m<2^(i+j)∧sE P aa [] x.o.op=some x.r
 | [],i,ms,r,h=>by have h:some []=some r:=h;cases h;exact⟨ms.length,rfl,by simp,λj x h=>by simp at h⟩
 |o::l,i,[],r,h=>by cases h
 |o::l,i,m::ms,r,h=>by
  have h:ab (Nat.blt m (Nat.pow 2 i)) (ob (sE P aa [] o.op) λr=>ar i λi=>ob (Bk P aa l (Nat.succ i) ms) λl=>some (⟨i,m,o,r⟩::l)) none=some r:=h;obtain⟨hm,h⟩:=ae h;obtain⟨rd,dt,h⟩:=U h;rw[ak]at h;obtain⟨r',er,h⟩:=U h;cases h;obtain⟨k,h1,h2,h3⟩:=uk l (i+1) ms r' er;have hm:m<2^i:=by have:=Nat.le_of_ble_eq_true hm;exact this
  refine⟨k,by simp[h1],by simp;omega,λj x hj=>?_⟩;cases j with
  |zero=>cases hj;exact⟨rfl,rfl,rfl,hm,dt⟩
  |succ j=>obtain⟨a1,a2,a3,a4,a5⟩:=h3 j x (by simpa using hj);exact⟨by omega,by simpa using a2,by simpa using a3,by rw[show i+(j+1)=i+1+j by omega];exact a4,a5⟩
structure dy (P:Program) (aa:Nat) (all:Array Oper) (l:List aE) (I:aE->Prop):Prop where
 at_:∀(i:Nat) (x:aE),l[i]? =some x->x.i=i
 len:l.length=all.size
 op:∀x∈l,all[x.i]? =some x.o
 rd:∀x∈l,¬I x->sE P aa [] x.o.op=some x.r
 ins:∀x∈l,I x->∃f,x.r= .p f
 below:∀x∈l,∀j,aw x.m j=true->j<x.i
 trans:∀x∈l,∀y∈l,aw x.m y.i=true->∀j,aw y.m j=true->aw x.m j=true
 dir:∀x∈l,∀e∈x.o.after.toList,Region.binds .any e=true->aw x.m e.on=true
 back:∀x∈l,∀j,aw x.m j=true->∃e∈x.o.after.toList,Region.binds .any e=true∧(e.on=j∨∃y∈l,y.i=e.on∧aw y.m j=true)
theorem dy.mem {aa:Nat} {I:aE->Prop} {all:Array Oper} {l:List aE} (h:dy P aa all l I) {x:aE} (hx:x∈l):l[x.i]? =some x:=by obtain⟨i,hi,rfl⟩:=List.getElem_of_mem hx;have:=h.at_ i l[i] (by simp[hi]);rw[this];simp[hi]
theorem dy.inj {aa:Nat} {I:aE->Prop} {all:Array Oper} {l:List aE} (h:dy P aa all l I) {x y:aE} (hx:x∈l) (hy:y∈l) (e:x.i=y.i):x=y:=by have h1:=h.mem hx;have h2:=h.mem hy;rw[e,h2]at h1;exact(Option.some.inj h1).symm
theorem dy.OG {aa:Nat} {I:aE->Prop} {all:Array Oper} {l:List aE} (h:dy P aa all l I) {i:Nat} {o:Oper} (ho:all[i]? =some o):∃x∈l,x.i=i∧x.o=o:=by
 have hi:i<l.length:=by rw[h.len];exact(Array.getElem?_eq_some_iff.1 ho).1
 have hx:=h.at_ i l[i] (by simp[hi]);have:=h.op l[i] (by simp);rw[hx,ho]at this;exact⟨l[i],by simp,hx,(Option.some.inj this).symm⟩
theorem A6 {aa:Nat} {all:Array Oper} {ms:List Nat} {l:List aE} (Fb:qk all.toList []=some ms) (hl:Bk P aa all.toList 0 ms=some l):dy P aa all l (λ_=>False):=by
 obtain⟨r,h1,h2,h3⟩:=rF _ _ _ Fb;obtain⟨k,d1,d2,d3⟩:=uk _ _ _ _ hl;simp only[List.length_nil,Nat.zero_add]at h3 d3;have key:∀x∈l,l[x.i]? =some x:= λx hx=>by obtain⟨i,hi,rfl⟩:=List.getElem_of_mem hx;have:=(d3 i l[i] (by simp[hi])).1;rw[this];simp[hi]
 have mk:∀x∈l,x.m=ia (ms.take x.i) x.o.after.toList:= λx hx=>by obtain⟨_,a2,a3,_,_⟩:=d3 x.i x (key x hx);have:=h3 x.i x.o a2;rw[a3]at this;exact Option.some.inj this
 have below:∀x∈l,∀j,aw x.m j=true->j<x.i:= λx hx j hj=>by obtain⟨_,_,_,a4,_⟩:=d3 x.i x (key x hx);rw[jS]at hj;have:=Nat.ge_two_pow_of_testBit hj;exact(Nat.pow_lt_pow_iff_right (by omega)).1 (Nat.lt_of_le_of_lt this a4)
 have dir:∀x∈l,∀e∈x.o.after.toList,Region.binds .any e=true->aw x.m e.on=true:= λx hx e he hb=>by rw[mk x hx,jn];exact⟨e,he,hb,.inl rfl⟩
 have sub:∀x∈l,∀i,i<x.i->∃y∈l,y.i=i∧(ms.take x.i).getD i 0=y.m:= λx hx i hi=>by
  have NA:x.i<l.length:=(List.getElem?_eq_some_iff.1 (key x hx)).1;have lV:i<l.length:=by omega
  obtain⟨b1,_,b3,_,_⟩:=d3 i l[i] (by simp[lV]);refine⟨l[i],by simp,b1,?_⟩;rw[List.getD_eq_getElem?_getD,List.getElem?_take,if_pos hi,b3];rfl
 have back:∀x∈l,∀j,aw x.m j=true->∃e∈x.o.after.toList,Region.binds .any e=true∧(e.on=j∨∃y∈l,y.i=e.on∧aw y.m j=true):= λx hx j hj=>by have Np:=hj;rw[mk x hx,jn]at hj;obtain⟨e,he,hb,h⟩:=hj;refine⟨e,he,hb,h.imp id λh=>?_⟩;obtain⟨y,hy,JB,Fc⟩:=sub x hx e.on (below x hx _ (dir x hx e he hb));rw[Fc]at h;exact⟨y,hy,JB,h⟩
 have OH:∀x∈l,∀y∈l,x.i=y.i->x=y:= λx hx y hy e=>by have h1:=key x hx;have h2:=key y hy;rw[e,h2]at h1;exact(Option.some.inj h1).symm
 have fwd:∀x∈l,∀e∈x.o.after.toList,Region.binds .any e=true->∀y∈l,y.i=e.on->∀j,aw y.m j=true->aw x.m j=true:= λx hx e he hb y hy JB j hj=>by obtain⟨z,hz,MF,NB⟩:=sub x hx e.on (below x hx _ (dir x hx e he hb));have:z=y:=OH z hz y hy (MF.trans JB.symm);subst this;rw[mk x hx,jn];exact⟨e,he,hb,.inr (by rw[NB];exact hj)⟩
 refine⟨λi x h=>((d3 i x h).1),by rw[d1];simp,λx hx=>?_,λx hx _=>((d3 x.i x (key x hx)).2.2.2.2),λ_ _ h=>h.elim,below,?_,dir,back⟩
 ·have:=(d3 x.i x (key x hx)).2.1;simpa using this
 ·intro x hx;generalize hn:x.i=n;induction n using Nat.strongRecOn generalizing x with
  |_ n ih=>
   intro y hy GJ j hj;obtain⟨e,he,hb,h|⟨z,hz,MF,Ri⟩⟩:=back x hx _ GJ
   ·exact fwd x hx e he hb y hy h.symm j hj
   ·have hlt:z.i<n:=by rw[MF,<-hn];exact below x hx _ (dir x hx e he hb)
    exact fwd x hx e he hb z hz MF j (ih z.i hlt z hz rfl y hy Ri j hj)
end Go.Eng
namespace Go.Eng
open Go
variable {P:Program} {aa:Nat} {all:Array Oper} {l:List aE} {I:aE->Prop}
theorem vR:∀l:List aE,aJ l=l.filter λx=>kT x.r
 | []=>rfl
 |x::l=>by show ab (kT x.r) (x::aJ l) (aJ l)=_;rw[vR l,List.filter_cons];cases kT x.r<;>rfl
theorem zS (m:Nat) (x:aE) (ws:List aE):level m (x::ws)=if aw m x.i=true then level m ws+1 else level m ws:=by show ab (aw m x.i) (Nat.succ (level m ws)) (level m ws)=_;cases aw m x.i<;>rfl
theorem wF (i:Nat) (x:aE) (ws:List aE):cU i (x::ws)=if aw x.m i=true then cU i ws else cU i ws+1:=by show ab (aw x.m i) (cU i ws) (Nat.succ (cU i ws))=_;cases aw x.m i<;>rfl
noncomputable def cnt (p:Nat->Bool) (ws:List aE):Nat:=(ws.filter λx=>p x.i).length
theorem fy (p:Nat->Bool) (x:aE) (ws:List aE):cnt p (x::ws)=if p x.i=true then cnt p ws+1 else cnt p ws:=by unfold cnt;rw[List.filter_cons];split<;>simp_all
theorem eU (m:Nat):∀ws:List aE,level m ws=cnt (aw m) ws
 | []=>rfl
 |x::ws=>by rw[zS,fy,eU m ws]
theorem vt {p q:Nat->Bool}:∀ {ws:List aE},(∀x∈ws,p x.i=true->q x.i=true)->cnt p ws<=cnt q ws
 | [],_=>Nat.le_refl _
 |x::ws,h=>by
  rw[fy,fy];have ih:=vt (p:=p) (q:=q) (ws:=ws) λy hy=>h y (by simp[hy]);split
  ·rw[if_pos (h x (by simp) ‹_›)];omega
  ·split<;>omega
theorem Ee {p q:Nat->Bool}:∀ {ws:List aE},(∀x∈ws,p x.i=true->q x.i=true)->∀y∈ws,p y.i=false->q y.i=true->cnt p ws<cnt q ws
 | [],_,y,hy,_,_=>by simp at hy
 |x::ws,h,y,hy,h1,h2=>by
  rw[fy,fy];have ih:=vt (p:=p) (q:=q) (ws:=ws) λy hy=>h y (by simp[hy]);rcases List.mem_cons.1 hy with rfl|hy
  ·rw[h1,h2];simp;omega
  ·have:=Ee (p:=p) (q:=q) (ws:=ws) (λy hy=>h y (by simp[hy])) y hy h1 h2;split
   ·rw[if_pos (h x (by simp) ‹_›)];omega
   ·split<;>omega
theorem xM {p:Nat->Bool} {i:Nat}:∀ {ws:List aE},(∀x∈ws,p x.i=true->aw x.m i=false)->cnt p ws<=cU i ws
 | [],_=>Nat.le_refl _
 |x::ws,h=>by
  rw[fy,wF];have ih:=xM (p:=p) (i:=i) (ws:=ws) λy hy=>h y (by simp[hy]);split
  ·rw[if_neg (by rw[h x (by simp) ‹_›];simp)];omega
  ·split<;>omega
theorem vS {p:Nat->Bool}:∀ {ws:List aE},(∀x∈ws,p x.i=true)->cnt p ws=ws.length
 | [],_=>rfl
 |x::ws,h=>by rw[fy,if_pos (h x (by simp)),vS λy hy=>h y (by simp[hy])];rfl
theorem qM {p:Nat->Bool}:∀ {ws:List aE},(∀x∈ws,p x.i=false)->cnt p ws=0
 | [],_=>rfl
 |x::ws,h=>by rw[fy,if_neg (by rw[h x (by simp)];simp),qM λy hy=>h y (by simp[hy])]
theorem rG (p:Nat->Bool) (a b:List aE):cnt p (a++b)=cnt p a+cnt p b:=by unfold cnt;rw[List.filter_append,List.length_append]
structure va (all:Array Oper) (l:List aE):Prop where
 chain:∀x∈aJ l,∀y∈aJ l,x.i<y.i->aw y.m x.i=true
 sorted:(aJ l).Pairwise λx y=>x.i<y.i
 OI:∀x∈l,∀y∈l,∀d,y.o.dst=some d->x.o.dst=some d->x=y
 OJ:∀x∈l,∀y∈l,∀d,y.o.dst=some d->d∈ey all.toList x.o->Aj x y=true
theorem eV {α:Type} {f:α->Bool}:∀ {l:List α},sG f l=true->∀x∈l,f x=true
 | [],_,x,hx=>by simp at hx
 |a::l,h,x,hx=>by
  have h:ab (f a) (sG f l) false=true:=h;cases hf:f a with
  |false=>rw[hf]at h;cases h
  |true=>
   rw[hf]at h;rcases List.mem_cons.1 hx with rfl|hx
   ·exact hf
   ·exact eV h x hx
theorem jL {x:aE}:x∈aJ l↔x∈l∧kT x.r=true:=by rw[vR,List.mem_filter]
theorem um (hD:dy P aa all l I):∀(ws:List aE) (p:Option Nat),(∀x∈ws,x∈l)->jb ws p=true->(∀q∈p,∃y∈l,y.i=q)->ws.Pairwise (λx y=>x.i<y.i)->
  (∀q∈p,∀y∈ws,aw y.m q=true)∧ws.Pairwise λx y=>aw y.m x.i=true
 | [],p,_,_,_,_=>⟨λq _ y hy=>by simp at hy,.nil⟩
 |x::ws,p,hin,h,hp,hs=>by
  have hx:=hin x (by simp);rw[List.pairwise_cons]at hs;have h1:jb ws (some x.i)=true∧∀q∈p,aw x.m q=true:=by
   cases p with
   |none=>exact⟨h,λq hq=>by cases hq⟩
   |some q=>
    have h:ab (aw x.m q) (jb ws (some x.i)) false=true:=h;cases hb:aw x.m q with
    |false=>rw[hb]at h;cases h
    |true=>rw[hb]at h;exact⟨h,λq' yL=>by cases yL;exact hb⟩
  obtain⟨i1,i2⟩:=um hD ws (some x.i) (λy hy=>hin y (by simp[hy])) h1.1 (λq hq=>by cases hq;exact⟨x,hx,rfl⟩) hs.2;refine⟨λq hq y hy=>?_,List.pairwise_cons.2 ⟨λy hy=>i1 x.i rfl y hy,i2⟩⟩;rcases List.mem_cons.1 hy with rfl|hy
  ·exact h1.2 q hq
  ·exact hD.trans y (hin y (by simp[hy])) x hx (i1 x.i rfl y hy) q (h1.2 q hq)
theorem uo (hD:dy P aa all l I):l.Pairwise λx y=>x.i<y.i:=by rw[List.pairwise_iff_getElem];intro i j hi hj Rj;rw[hD.at_ i _ (by simp[hi]),hD.at_ j _ (by simp[hj])];exact Rj
theorem jo {α:Type}:∀(d i:Nat),T.get (jG (α:=α) d) i=none
 |0,i=>T.get_e i
 |d+1,i=>by
  have e:jG (α:=α) (d+1)= .n none (jG d) (jG d):=rfl;rw[e];rcases aA i with rfl|⟨m,rfl⟩|⟨m,rfl⟩
  ·rw[T.bp]
  ·rw[T.aH];exact jo d m
  ·rw[T.ay];exact jo d m
theorem om:∀ {l:List aE} {t:T aE},CD l=some t->(∀d y,T.get t d=some y->y∈l∧y.o.dst=some d)∧(∀y∈l,∀d,y.o.dst=some d->T.get t d=some y)
 | [],t,h=>by have h:some (jG 12)=some t:=h;cases h;exact⟨λd y h=>(by rw[jo]at h;cases h),λy hy=>(by cases hy)⟩
 |x::l,t,h=>by
  have h:(match x.o.dst with
   |none=>CD l
   |some d=>ob (CD l) λt=>Option.rec (motive:= λ_=>Option (T aE)) (T.put (some x) t d) (λ_=>none) (T.get t d))=some t:=h
  split at h
  ·rename_i hd;obtain⟨i1,i2⟩:=om h;refine⟨λd y hy=>⟨List.mem_cons_of_mem _ (i1 d y hy).1,(i1 d y hy).2⟩,λy hy d gG=>?_⟩;rcases List.mem_cons.1 hy with rfl|hy
   ·rw[hd]at gG;cases gG
   ·exact i2 y hy d gG
  ·rename_i d hd;obtain⟨t0,h0,h⟩:=U h;obtain⟨i1,i2⟩:=om h0;cases hg:T.get t0 d with
   |some y=>rw[hg]at h;cases h
   |none=>
    rw[hg]at h;have h:T.put (some x) t0 d=some t:=h;have bA:=T.bu _ _ _ _ h;refine⟨λe y hy=>?_,λy hy e J7=>?_⟩
    ·rw[bA]at hy;by_cases he:e=d
     ·rw[if_pos he]at hy;cases hy;exact⟨List.mem_cons_self ..,by rw[he];exact hd⟩
     ·rw[if_neg he]at hy;exact⟨List.mem_cons_of_mem _ (i1 e y hy).1,(i1 e y hy).2⟩
    ·rw[bA];rcases List.mem_cons.1 hy with rfl|hy
     ·rw[hd]at J7;cases J7;rw[if_pos rfl]
     ·have:=i2 y hy e J7;by_cases he:e=d
      ·rw[he,hg]at this;cases this
      ·rw[if_neg he];exact this
theorem rH {l:List aE} (h:kD all.toList l=true):(∀x∈l,∀y∈l,∀d,y.o.dst=some d->x.o.dst=some d->x=y)∧(∀x∈l,∀y∈l,∀d,y.o.dst=some d->d∈ey all.toList x.o->Aj x y=true):=by
 unfold kD at h;cases ht:CD l with
 |none=>rw[ht]at h;cases h
 |some t=>
  rw[ht]at h;obtain⟨i1,i2⟩:=om ht;refine⟨λx hx y hy d h1 h2=>?_,λx hx y hy d h1 h2=>?_⟩
  ·have e1:=i2 x hx d h2;have e2:=i2 y hy d h1;rw[e1]at e2;cases e2;rfl
  ·have:=eV (eV h x hx) d h2;rw[i2 y hy d h1]at this;exact this
theorem Ef (hD:dy P aa all l I) (h1:jb (aJ l) none=true) (h2:kD all.toList l=true):va all l:=by
 have hs:(aJ l).Pairwise λx y=>x.i<y.i:=by rw[vR];exact(uo hD).filter _
 obtain⟨_,hc⟩:=um hD (aJ l) none (λx hx=>(jL.1 hx).1) h1 (λq hq=>by cases hq) hs;refine⟨λx hx y hy GJ=>?_,hs,(rH h2).1,(rH h2).2⟩;obtain⟨i,hi,rfl⟩:=List.getElem_of_mem hx;obtain⟨j,hj,rfl⟩:=List.getElem_of_mem hy;rcases Nat.lt_trichotomy i j with h|h|h
 ·exact List.pairwise_iff_getElem.1 hc i j hi hj h
 ·subst h;omega
 ·have:=List.pairwise_iff_getElem.1 hs j i hj hi h;omega
theorem va.dst (hW:va all l) {x y:aE} (hx:x∈l) (hy:y∈l) (hne:x.i≠y.i) {d:Nat} (h:y.o.dst=some d):x.o.dst≠some d:= λe=>hne (by rw[hW.OI x hx y hy d h e])
theorem va.use (hW:va all l) {x y:aE} (hx:x∈l) (hy:y∈l) {d:Nat} (h:y.o.dst=some d) (hu:d∈ey all.toList x.o):x.i≠y.i∧(y.i<x.i->aw x.m y.i=true)∧(x.i<y.i->aw y.m x.i=true):=by
 have hp:=hW.OJ x hx y hy d h hu;unfold Aj at hp;by_cases hi:x.i=y.i
 ·rw[ai,if_pos (by rw[hi];exact Nat.beq_refl _)]at hp;cases hp
 ·rw[ai,if_neg (λe=>hi (Nat.eq_of_beq_eq_true e))]at hp;rw[ai]at hp;split at hp
  ·rename_i hlt;have hlt:y.i<x.i:=Nat.le_of_ble_eq_true hlt;exact⟨hi,λ_=>hp,λh=>by omega⟩
  ·rename_i hlt;have hlt:¬y.i<x.i:= λh=>hlt (Nat.ble_eq_true_of_le h);exact⟨hi,λh=>(hlt h).elim,λ_=>hp⟩
end Go.Eng
namespace Go.Eng
open Go
variable {P:Program}
noncomputable def av (aa:Nat) (lo:Lo) (tm:T Value) (t:Nat):Option Value:=ab (kept aa t) (tm.get t) (Lo.get t lo)
theorem gx {aa t:Nat} {f:cu} (h:bz aa [] (.tmp t)=some f) (lo:Lo) (tm:T Value):f lo tm=av aa lo tm t:=by
 have h:ab (kept aa t) (some (JR t)) (some (PQ t))=some f:=h;unfold av;rw[ai]at h⊢;split at h<;>cases h
 ·rw[if_pos ‹_›];rfl
 ·rw[if_neg ‹_›];rfl
theorem xN {aa nt:Nat} {dst:Option Tmp} {d:DI} (hd:kX aa nt dst=some d) {v:Value} {k:K} {lo:Lo} {tm:T Value} {s:AS} {x:bY} {tm':T Value} {s':AS}
  (BN:∀t v,tm.get t=some v->kept aa t=true) (h:fM d v k lo tm s= .code x tm' s'):
  ∃bq az,k bq az s= .code x tm' s'∧(∀t,av aa bq az t=if dst=some t then some v else av aa lo tm t)∧(∀t v,az.get t=some v->kept aa t=true)∧∀d',dst=some d'->d'<nt:=by
 cases dst with
 |none=>cases hd;exact⟨lo,tm,h,λt=>by simp,BN,λ_ e=>by cases e⟩
 |some t0=>
  obtain⟨hlt,hd⟩:=ae hd;have hlt:t0<nt:=Nat.le_of_ble_eq_true hlt;rw[ai]at hd;split at hd
  ·rename_i hk;cases hd;have h':Option.rec (motive:= λ_=>Out) .no (λtm'=>k lo tm' s) (T.put (some v) tm t0)= .code x tm' s':=h;cases hp:T.put (some v) tm t0 with
   |none=>rw[hp]at h';cases h'
   |some az=>
    rw[hp]at h';have hg:=T.bu _ _ _ _ hp;refine⟨lo,az,h',λt=>?_,λt w hw=>?_,λ_ e=>by cases e;exact hlt⟩
    ·unfold av;rw[hg];by_cases e:t=t0
     ·subst e;simp[hk,bF]
     ·rw[if_neg e,if_neg (λe'=>e (Option.some.inj e').symm)]
    ·rw[hg]at hw;by_cases e:t=t0
     ·rw[e];exact hk
     ·rw[if_neg e]at hw;exact BN t w hw
  ·rename_i hk;cases hd;refine⟨.cons t0 v lo,tm,h,λt=>?_,BN,λ_ e=>by cases e;exact hlt⟩;unfold av;rw[vQ];by_cases e:t=t0
   ·subst e;rw[Nat.beq_refl,bF,if_pos rfl];have:kept aa t=false:=by simpa using hk
    rw[this,bS]
   ·rw[if_neg (λe'=>e (Option.some.inj e').symm)];have:Nat.beq t t0=false:=by
     cases hb:Nat.beq t t0 with
     |true=>exact(e (Nat.eq_of_beq_eq_true hb)).elim
     |false=>rfl
    rw[this,bS]
noncomputable def nC (l:List aE) (x:aE):Nat:=level x.m (aJ l)
def BO (l:List aE) (y x:aE):Prop:=nC l y<nC l x∨(nC l y=nC l x∧kT y.r=false∧(kT x.r=true∨y.i<x.i))
def Xs (l:List aE) (n m:Nat) (y:aE):Prop:=nC l y<n∨(nC l y=n∧kT y.r=false∧y.i<m)
theorem zT {l:List aE} {x:aE}:¬BO l x x:=by
 rintro(h|⟨_,h1,h2|h2⟩)
 ·omega
 ·rw[h1]at h2;cases h2
 ·omega
theorem xO {l:List aE} {x y:aE} (h:BO l x y):¬BO l y x:=by
 intro h';rcases h with h|⟨h,h1,h2⟩<;>rcases h' with h'|⟨h',h3,h4⟩
 ·omega
 ·omega
 ·omega
 ·rcases h2 with h2|h2
  ·rw[h3]at h2;cases h2
  ·rcases h4 with h4|h4
   ·rw[h1]at h4;cases h4
   ·omega
section
variable {aa nt:Nat} {all:Array Oper} {l:List aE} {I:aE->Prop}
theorem jT (hD:dy P aa all l I) {x y:aE} (hx:x∈l) (hy:y∈l) (h:aw x.m y.i=true):BO l y x:=by
 have hlt:=hD.below x hx _ h;have sub:∀z∈aJ l,aw y.m z.i=true->aw x.m z.i=true:= λz _ hz=>hD.trans x hx y hy h _ hz;cases hw:kT y.r with
 |true=>
  left;unfold nC;rw[eU,eU];refine Ee sub y (jL.2 ⟨hy,hw⟩) ?_ h;cases hb:aw y.m y.i with
  |false=>rfl
  |true=>have:=hD.below y hy _ hb;omega
 |false=>
  have hle:nC l y<=nC l x:=by unfold nC;rw[eU,eU];exact vt sub
  rcases Nat.lt_or_eq_of_le hle with h|h
  ·exact .inl h
  ·exact .inr ⟨h,hw,.inr hlt⟩
def iW (P:Program) (l:List aE) (ρ:Ren) (B:Nat->Nat->Prop) (cs:List sF) (S:AS) (x:aE) (lo:Lo) (tm:T Value) (v:Value):Prop:=
 match x.r with
 | .p f=>∃s,f lo tm s=some v
 | .r f=>(cU x.i (aJ l),λs'=>Bj v (f lo tm s'))∈cs
 | .a f=>∃s1 HJ,f lo tm s1=some (v,HJ)∧B x.i s1.nx∧s1.nx<S.nx∧ρ s1.nx=none∧(S.h.get s1.nx=HJ.h.get s1.nx∨S.h.get s1.nx=none)
 |_=>False
def vb (P:Program) (aa:Nat) (all:Array Oper) (l:List aE) (ρ:Ren) (B:Nat->Nat->Prop) (cs:List sF) (S:AS) (x:aE) (lo:Lo) (tm:T Value) (v:Value):Prop:=
 match x.o.guard with
 |none=>iW P l ρ B cs S x lo tm v
 |some (j,want)=>∃g y,iC aa [] all.toList j=some g∧kY want (g lo tm)=some y∧(y=true->iW P l ρ B cs S x lo tm v)∧(y=false->v= .tuple #[])
theorem iW.mono {ρ aj:Ren} {B B':Nat->Nat->Prop} {cs yE:List sF} {S S':AS} {x:aE} {lo:Lo} {tm:T Value} {v:Value} (h:iW P l ρ B cs S x lo tm v) (hB:∀b,B x.i b->B' x.i b) (hcs:∀c∈cs,c∈yE)
  (hS:∀b,B x.i b->b<S.nx->ρ b=none->b<S'.nx∧aj b=none∧(S'.h.get b=S.h.get b∨S'.h.get b=none)):iW P l aj B' yE S' x lo tm v:=by
 unfold iW at h⊢;split at h
 ·exact h
 ·exact hcs _ h
 ·obtain⟨s1,HJ,h1,h2,h3,h4,h5⟩:=h;obtain⟨a1,a2,a3⟩:=hS _ h2 h3 h4;refine⟨s1,HJ,h1,hB _ h2,a1,a2,?_⟩;rcases a3 with a3|a3
  ·rw[a3];exact h5
  ·exact .inr a3
 ·exact h
theorem vb.mono {ρ aj:Ren} {B B':Nat->Nat->Prop} {cs yE:List sF} {S S':AS} {x:aE} {lo:Lo} {tm:T Value} {v:Value} (h:vb P aa all l ρ B cs S x lo tm v) (hB:∀b,B x.i b->B' x.i b) (hcs:∀c∈cs,c∈yE)
  (hS:∀b,B x.i b->b<S.nx->ρ b=none->b<S'.nx∧aj b=none∧(S'.h.get b=S.h.get b∨S'.h.get b=none)):vb P aa all l aj B' yE S' x lo tm v:=by
 unfold vb at h⊢;split at h
 ·exact iW.mono h hB hcs hS
 ·obtain⟨g,y,h1,h2,h3,h4⟩:=h;exact⟨g,y,h1,h2,λe=>iW.mono (h3 e) hB hcs hS,h4⟩
structure St (P:Program) (aa nt:Nat) (all:Array Oper) (l:List aE) (E0:Nat->Option Value) (cx:Ren) (s0:AS) (w0:World) (a0:Act) (X:aE->Prop) (D:Nat->Prop) (B:Nat->Nat->Prop) (ρ:Ren) (cs:List sF) (lo:Lo) (tm:T Value) (S:AS) (a:Act) (w:World):Prop where
 tk:∀t v,tm.get t=some v->kept aa t=true
 uT:∀t,(∀y∈l,X y->y.o.dst≠some t)->av aa lo tm t=E0 t
 Fv:∀x∈l,X x->kT x.r=false->¬D x.i->∃eQ tm' v,vb P aa all l ρ B cs S x eQ tm' v∧(∀d,x.o.dst=some d->d<nt∧av aa lo tm d=some v)∧
  (∀t,(∀y∈l,y.o.dst=some t->BO l y x->av aa eQ tm' t=av aa lo tm t)∧((∀y∈l,y.o.dst=some t->¬BO l y x)->av aa eQ tm' t=E0 t))
 bB:∀i b,B i b->b<S.nx∧s0.nx<=b
 bI:∀i j b,B i b->B j b->i=j
 dX:∀y∈l,D y.i->X y
 md:∀y∈l,D y.i->∀d,y.o.dst=some d->∃v u,av aa lo tm d=some v∧a.tmps[d]? =some u∧ag ρ v u
 m0:∀t,(∀y∈l,D y.i->y.o.dst≠some t)->a.tmps[t]? =a0.tmps[t]?
 e0:∀t v,E0 t=some v->∃u,a0.tmps[t]? =some u∧ag ρ v u
 rel:Rel P ρ S w
 xd:aR cx s0 w0 ρ S w
 df:a.defers=a0.defers
 sz:nt<=a.tmps.size
variable {E0:Nat->Option Value} {cx:Ren} {s0:AS} {w0:World} {a0:Act} {D:Nat->Prop} {B:Nat->Nat->Prop} {ρ:Ren} {cs:List sF} {lo:Lo} {tm:T Value} {S:AS} {a:Act} {w:World}
theorem St.grow {n:Nat} {x:aE} (hD:dy P aa all l I) (hW:va all l) (h:St P aa nt all l E0 cx s0 w0 a0 (Xs l n x.i) D B ρ cs lo tm S a w) (hx:x∈l) (gV:kT x.r=false) (hn:nC l x=n)
  {v:Value} {bq:Lo} {az:T Value} {S1:AS} {dB:List sF} {B1:Nat->Nat->Prop}
  (gP:∀t,av aa bq az t=if x.o.dst=some t then some v else av aa lo tm t) (BN:∀t v,az.get t=some v->kept aa t=true) (E9:∀d,x.o.dst=some d->d<nt)
  (dA:vb P aa all l ρ B1 dB S1 x lo tm v) (hcs:∀c∈cs,c∈dB) (Rk:∀i b,B i b->B1 i b) (Rl:∀i b,B1 i b->b<S1.nx∧s0.nx<=b) (Rm:∀i j b,B1 i b->B1 j b->i=j)
  (hnx:S.nx<=S1.nx) (hh:∀b,b<S.nx->S1.h.get b=S.h.get b) (hrel:Rel P ρ S1 w) (nH:aR cx s0 w0 ρ S1 w):St P aa nt all l E0 cx s0 w0 a0 (Xs l n (x.i+1)) D B1 ρ dB bq az S1 a w:=by
 have hX:∀y,Xs l n x.i y->Xs l n (x.i+1) y:= λy hy=>hy.imp id λ⟨h1,h2,h3⟩=>⟨h1,h2,by omega⟩
 have JC:Xs l n (x.i+1) x:= .inr ⟨hn,gV,by omega⟩;have MG:¬Xs l n x.i x:=by rintro(h|⟨_,_,h⟩)<;>omega
 have kW:¬D x.i:= λhd=>MG (h.dX x hx hd);have Hv:∀y,Xs l n x.i y->BO l y x:= λy hy=>by
  rcases hy with hy|⟨h1,h2,h3⟩
  ·left;omega
  ·right;exact⟨by omega,h2,.inr h3⟩
 have other:∀y∈l,y≠x->∀d,y.o.dst=some d->x.o.dst≠some d:= λy hy hne d hd=>hW.dst hx hy (λe=>hne (hD.inj hy hx e.symm)) hd;have g7:∀y∈l,y≠x->∀d,y.o.dst=some d->av aa bq az d=av aa lo tm d:= λy hy hne d hd=>by rw[gP,if_neg (other y hy hne d hd)]
 refine⟨BN,λt ht=>?_,λy hy yM y3 ix=>?_,Rl,Rm,λy hy hd=>hX y (h.dX y hy hd),λy hy hd d KW=>?_,h.m0,h.e0,hrel,nH,h.df,h.sz⟩
 ·rw[gP,if_neg (ht x hx JC)];exact h.uT t λy hy yM=>ht y hy (hX y yM)
 ·by_cases e:y=x
  ·subst e;refine⟨lo,tm,v,dA,λd hd=>⟨E9 d hd,by rw[gP,if_pos hd]⟩,λt=>⟨λz hz Fw hb=>?_,λhb=>?_⟩⟩
   ·exact(g7 z hz (λe=>by subst e;exact zT hb) t Fw).symm
   ·exact h.uT t λz hz Rn Fw=>hb z hz Fw (Hv z Rn)
  ·have CV:Xs l n x.i y:=by
    rcases yM with h|⟨h1,h2,h3⟩
    ·exact .inl h
    ·refine .inr ⟨h1,h2,?_⟩;have:y.i≠x.i:= λe'=>e (hD.inj hy hx e');omega
   obtain⟨eQ,tm',v',r1,r2,r3⟩:=h.Fv y hy CV y3 ix;refine⟨eQ,tm',v',r1.mono (Rk y.i) hcs (λb hb hlt hr=>⟨by omega,hr,.inl (hh b hlt)⟩),λd hd=>⟨(r2 d hd).1,by rw[g7 y hy e d hd];exact(r2 d hd).2⟩,λt=>⟨λz hz Fw hb=>?_,(r3 t).2⟩⟩;rw[(r3 t).1 z hz Fw hb];refine(g7 z hz (λe'=>?_) t Fw).symm;subst e';exact xO (Hv y CV) hb
 ·rw[g7 y hy (λe=>by subst e;exact kW hd) d KW];exact h.md y hy hd d KW
theorem St.use {X:aE->Prop} (hD:dy P aa all l I) (hW:va all l) (h:St P aa nt all l E0 cx s0 w0 a0 X D B ρ cs lo tm S a w) (ei:∀y∈l,D y.i->∀j,aw y.m j=true->D j) {x:aE} (hx:x∈l) (kW:¬D x.i) (fO:∀j,aw x.m j=true->D j)
  {eQ:Lo} {tm':T Value} (ht:∀t,(∀y∈l,y.o.dst=some t->BO l y x->av aa eQ tm' t=av aa lo tm t)∧((∀y∈l,y.o.dst=some t->¬BO l y x)->av aa eQ tm' t=E0 t))
  {t:Nat} (hu:t∈ey all.toList x.o) {v:Value} (hv:av aa eQ tm' t=some v):ag ρ v (a.eval (.tmp t)):=by
 have base:(∀y∈l,y.o.dst=some t->¬BO l y x)->(∀y∈l,D y.i->y.o.dst≠some t)->ag ρ v (a.eval (.tmp t)):= λh1 h2=>by rw[(ht t).2 h1]at hv;obtain⟨u,lU,hr⟩:=h.e0 t v hv;rw[<-h.m0 t h2]at lU;rw[cm lU];exact hr
 by_cases hex:∃y∈l,y.o.dst=some t
 ·obtain⟨y,hy,gG⟩:=hex;obtain⟨hne,h1,h2⟩:=hW.use hx hy gG hu;have uniq:∀z∈l,z.o.dst=some t->z=y:= λz hz xe=>by
   by_cases e:z.i=y.i
   ·exact hD.inj hz hy e
   ·exact(hW.dst hz hy e gG xe).elim
  rcases Nat.lt_or_gt_of_ne hne with hlt|hlt
  ·have hb:=h2 hlt;have ix:¬D y.i:= λhd=>kW (ei y hy hd _ hb);refine base (λz hz xe=>?_) (λz hz P9 xe=>?_)
   ·rw[uniq z hz xe];exact xO (jT hD hy hx hb)
   ·rw[uniq z hz xe]at P9;exact ix P9
  ·have hb:=h1 hlt;have ix:=fO _ hb;rw[(ht t).1 y hy gG (jT hD hx hy hb)]at hv;obtain⟨v',u,e1,e2,e3⟩:=h.md y hy ix t gG;rw[hv]at e1;cases e1;rw[cm e2];exact e3
 ·exact base (λz hz xe=>(hex ⟨z,hz,xe⟩).elim) (λz hz _ xe=>hex ⟨z,hz,xe⟩)
theorem A7 {o:Oper} {t:Nat} (h:Operand.tmp t∈o.op.operands):t∈ey all.toList o:=by unfold ey;rw[nP,List.mem_append];exact .inl (List.mem_filterMap.2 ⟨.tmp t,by simpa using h,rfl⟩)
theorem rI {o o':Oper} {j t:Nat} {want:Bool} (hg:o.guard=some (j,want)) (hj:all[j]? =some o') (hd:o'.dst=some t):t∈ey all.toList o:=by
 unfold ey;rw[nP,List.mem_append];right;rw[hg];have:all.toList[j]? =some o':=by simpa using hj
 simp[this,hd]
theorem kQ {o:Oper} {eQ:Lo} {tm':T Value} (h:∀t∈ey all.toList o,∀v,av aa eQ tm' t=some v->ag ρ v (a.eval (.tmp t))):fH ρ aa [] eQ tm' a.eval o.op.operands:=by
 intro x f v hx hm hv;cases x with
 |tmp t=>rw[gx hm]at hv;exact h t (A7 hx) v hv
 |const c=>
  have yK:(match cH c with|some v=>some (JS v)|none=>some (λ_ _=>none))=some f:=hm;split at yK
  ·rename_i hc;cases yK;cases hv;exact kx hc
  ·cases yK;cases hv
 |global g=>cases hm;cases hv;exact .lY g 0
 |func g=>cases hm;cases hv;exact .func g .nil .nil
theorem St.real {X:aE->Prop} (hD:dy P aa all l I) (hW:va all l) (h:St P aa nt all l E0 cx s0 w0 a0 X D B ρ cs lo tm S a w) {x:aE} (hx:x∈l) (hX:X x) {v u:Value} (hd:∀d,x.o.dst=some d->d<nt∧av aa lo tm d=some v)
  {aj:Ren} {w1:World} (hv:ag aj v u) (hle:aK ρ aj) (hrel:Rel P aj S w1) (nH:aR cx s0 w0 aj S w1) (hB:∀j b,B j b->j≠x.i->ρ b=none->aj b=none):
  St P aa nt all l E0 cx s0 w0 a0 X (λi=>D i∨i=x.i) B aj cs lo tm S (a.put x.o.dst u) w1:=by
 refine⟨h.tk,h.uT,λy hy yM y3 ix=>?_,h.bB,h.bI,λy hy sQ=>?_,λy hy ix d gG=>?_,λt ht=>?_,λt v ht=>?_,hrel,nH,by rw[aF];exact h.df,?_⟩
 ·obtain⟨eQ,tm',v',r1,r2,r3⟩:=h.Fv y hy yM y3 (λe=>ix (.inl e));exact⟨eQ,tm',v',r1.mono (λ_ h=>h) (λ_ h=>h) (λb hb hlt hr=>⟨hlt,hB y.i b hb (λe=>ix (.inr e)) hr,.inl rfl⟩),r2,r3⟩
 ·rcases sQ with sQ|sQ
  ·exact h.dX y hy sQ
  ·rw[hD.inj hy hx sQ];exact hX
 ·by_cases e:y=x
  ·subst e;obtain⟨h1,h2⟩:=hd d gG;refine⟨v,u,h2,?_,hv⟩;rw[gG];exact aU (Nat.lt_of_lt_of_le h1 h.sz)
  ·have It:D y.i:=ix.resolve_right λe'=>e (hD.inj hy hx e');obtain⟨v',u',e1,e2,e3⟩:=h.md y hy It d gG;refine⟨v',u',e1,?_,e3.mono hle⟩;cases Cv:x.o.dst with
   |none=>exact e2
   |some dx=>
    have hne:d≠dx:= λe'=>by subst e';exact hW.dst hx hy (λe'=>e (hD.inj hy hx e'.symm)) gG Cv
    rw[bk hne];exact e2
 ·have eJ:=ht x hx (.inr rfl);have:=h.m0 t λy hy ix=>ht y hy (.inl ix);rw[<-this];cases Cv:x.o.dst with
  |none=>rfl
  |some dx=>exact bk λe=>eJ (by rw[Cv,e])
 ·obtain⟨u',h1,h2⟩:=h.e0 t v ht;exact⟨u',h1,h2.mono hle⟩
 ·cases Cv:x.o.dst with
  |none=>exact h.sz
  |some dx=>simpa[Act.put]using h.sz
theorem St.wrote {n:Nat} (hD:dy P aa all l I) (hW:va all l) (h:St P aa nt all l E0 cx s0 w0 a0 (Xs l n l.length) D B ρ cs lo tm S a w) {x:aE} (hx:x∈l) (gV:kT x.r=true) (hn:nC l x=n) (qn:∀y∈l,kT y.r=true->nC l y=n->y=x)
  {v u:Value} {aj:Ren} {bq:Lo} {az:T Value} {S1:AS} {w1:World} (gP:∀t,av aa bq az t=if x.o.dst=some t then some v else av aa lo tm t) (BN:∀t v,az.get t=some v->kept aa t=true) (E9:∀d,x.o.dst=some d->d<nt)
  (hv:ag aj v u) (hrel:Rel P aj S1 w1) (nH:aR ρ S w aj S1 w1):
  St P aa nt all l E0 cx s0 w0 a0 (Xs l (n+1) 0) (λi=>D i∨i=x.i) B aj cs bq az S1 (a.put x.o.dst u) w1:=by
 have hle:=nH.le h.rel;have hX:∀y∈l,Xs l (n+1) 0 y->Xs l n l.length y∨y=x:= λy hy yM=>by
  rcases yM with yM|⟨_,_,h3⟩
  ·rcases Nat.lt_or_eq_of_le (Nat.le_of_lt_succ yM)with h'|h'
   ·exact .inl (.inl h')
   ·cases hw:kT y.r with
    |true=>exact .inr (qn y hy hw h')
    |false=>exact .inl (.inr ⟨h',hw,(List.getElem?_eq_some_iff.1 (hD.mem hy)).1⟩)
  ·omega
 have Qa:∀y,Xs l n l.length y->Xs l (n+1) 0 y:= λy hy=> .inl (by rcases hy with h'|⟨h',_,_⟩<;>omega);have JC:Xs l (n+1) 0 x:= .inl (by omega);have MG:¬Xs l n l.length x:=by
  rintro(h'|⟨_,h',_⟩)
  ·omega
  ·rw[gV]at h';cases h'
 have other:∀y∈l,y≠x->∀d,y.o.dst=some d->x.o.dst≠some d:= λy hy hne d hd=>hW.dst hx hy (λe=>hne (hD.inj hy hx e.symm)) hd;have g7:∀y∈l,y≠x->∀d,y.o.dst=some d->av aa bq az d=av aa lo tm d:= λy hy hne d hd=>by rw[gP,if_neg (other y hy hne d hd)]
 refine⟨BN,λt ht=>?_,λy hy yM y3 ix=>?_,λi b hb=>⟨Nat.lt_of_lt_of_le (h.bB i b hb).1 nH.nx,(h.bB i b hb).2⟩,h.bI,λy hy sQ=>?_,λy hy ix d gG=>?_,λt ht=>?_,λt v ht=>?_,hrel,h.xd.trans nH,by rw[aF];exact h.df,?_⟩
 ·rw[gP,if_neg (ht x hx JC)];exact h.uT t λy hy yM=>ht y hy (Qa y yM)
 ·have BK:y≠x:= λe=>by rw[e,gV]at y3;cases y3
  have CV:=(hX y hy yM).resolve_right BK;obtain⟨eQ,tm',v',r1,r2,r3⟩:=h.Fv y hy CV y3 (λe=>ix (.inl e));refine⟨eQ,tm',v',r1.mono (λ_ h=>h) (λ_ h=>h) (λb hb hlt hr=>⟨Nat.lt_of_lt_of_le hlt nH.nx,by rw[nH.jj b hlt];exact hr,nH.ph b hlt hr⟩),λd hd=>⟨(r2 d hd).1,by rw[g7 y hy BK d hd];exact(r2 d hd).2⟩,λt=>⟨λz hz Fw hb=>?_,(r3 t).2⟩⟩;rw[(r3 t).1 z hz Fw hb];refine(g7 z hz (λe'=>?_) t Fw).symm;subst e';rcases hb with hb|⟨_,hb,_⟩
  ·rcases CV with h'|⟨h',_,_⟩<;>omega
  ·rw[gV]at hb;cases hb
 ·rcases sQ with sQ|sQ
  ·exact Qa y (h.dX y hy sQ)
  ·rw[hD.inj hy hx sQ];exact JC
 ·by_cases e:y=x
  ·subst e;refine⟨v,u,by rw[gP,if_pos gG],?_,hv⟩;rw[gG];exact aU (Nat.lt_of_lt_of_le (E9 d gG) h.sz)
  ·have It:D y.i:=ix.resolve_right λe'=>e (hD.inj hy hx e');obtain⟨v',u',e1,e2,e3⟩:=h.md y hy It d gG;refine⟨v',u',by rw[g7 y hy e d gG];exact e1,?_,e3.mono hle⟩;cases Cv:x.o.dst with
   |none=>exact e2
   |some dx=>
    have hne:d≠dx:= λe'=>by subst e';exact other y hy e d gG Cv
    rw[bk hne];exact e2
 ·have eJ:=ht x hx (.inr rfl);have:=h.m0 t λy hy ix=>ht y hy (.inl ix);rw[<-this];cases Cv:x.o.dst with
  |none=>rfl
  |some dx=>exact bk λe=>eJ (by rw[Cv,e])
 ·obtain⟨u',h1,h2⟩:=h.e0 t v ht;exact⟨u',h1,h2.mono hle⟩
 ·cases Cv:x.o.dst with
  |none=>exact h.sz
  |some dx=>simpa[Act.put]using h.sz
end
end Go.Eng
namespace Go.Eng
open Go
variable {P:Program}
theorem Rel.vT {ρ:Ren} {s s':AS} {w:World} {k:Blk} (h:Rel P ρ s w) (hs:s.new k=some s'):Rel P ρ s' w:=by
 obtain⟨hnx,hg⟩:=AS.dO hs;have dg:ρ s.nx=none:=h.dM _ (Nat.le_refl _);have yU:∀ {a k x},s'.h.get a=some k->ρ a=some x->s.h.get a=some k:= λ {a k x} e e'=>by
  rw[hg]at e;by_cases ha:a=s.nx
  ·rw[ha,dg]at e';cases e'
  ·rw[if_neg ha]at e;exact e
 exact⟨λa ha=>h.dM a (by omega),λa ha=>by rw[hg,if_neg (by omega)];exact h.top a (by omega),λa k x e e'=>h.blk a k x (yU e e') e',by rw[AS.gZ hs];have:=h.ao;omega,
  λa a' k k' x x' hne e1 e2 r1 r2 hb=>h.aX a a' k k' x x' hne (yU e1 r1) (yU e2 r2) r1 r2 hb,h.gl.of (Nat.le_refl _) λb _ hn=>⟨rfl,λ⟨j,k,y,e1,e2,e3⟩=>hn ⟨j,k,y,yU e1 e2,e2,e3⟩⟩⟩
theorem aR.vT {cx ρ:Ren} {s0 s s':AS} {w0 w:World} {k:Blk} (hS:aR cx s0 w0 ρ s w) (h:Rel P ρ s w) (hs:s.new k=some s'):aR cx s0 w0 ρ s' w:=by
 obtain⟨hnx,hg⟩:=AS.dO hs;have dg:ρ s.nx=none:=h.dM _ (Nat.le_refl _);refine⟨hS.jj,by have:=hS.nx;omega,hS.tape,hS.os,hS.out,hS.size,λb hb hn=>?_,λa ha hn=>?_,hS.lp,(AS.gZ hs).trans hS.ao,λa ha=>by rw[AS.vO hs h.ao a (by rw[hS.ao];exact ha),hS.low a ha],hS.fW⟩
 ·obtain⟨h1,h2⟩:=hS.frame b hb hn;refine⟨h1,?_⟩;rintro⟨a,k',x,e,e',rfl⟩;rw[hg]at e;by_cases ha:a=s.nx
  ·rw[ha,dg]at e';cases e'
  ·rw[if_neg ha]at e;exact h2 ⟨a,k',x,e,e',rfl⟩
 ·rw[hg,if_neg (by have:=hS.nx;omega)];exact hS.ph a ha hn
theorem Rel.realize {ρ:Ren} {s:AS} {w w':World} {b:Nat} {k:Blk} {x:Loc} (hr:Rel P ρ s w) (hb:b<s.nx) (dg:ρ b=none) (hk:s.h.get b=some k)
  (hx:x.b=w.heap.size) (hsz:w'.heap.size=w.heap.size+1) (hold:∀b,b<w.heap.size->w'.heap[b]? =w.heap[b]?) (J8:bX P (ρ.put b x) x w' k):Rel P (ρ.put b x) s w':=by
 have hle:aK ρ (ρ.put b x):=ik dg x;have bA:∀a,a≠b->(ρ.put b x) a=ρ a:= λa ha=>by unfold Ren.put;rw[if_neg ha]
 have eK:(ρ.put b x) b=some x:=by unfold Ren.put;rw[if_pos rfl]
 refine⟨λa ha=>by rw[bA a (by omega)];exact hr.dM a ha,hr.top,λa k' y e e'=>?_,hr.ao,λa a' k1 k2 x1 x2 hne e1 e2 r1 r2 jE=>?_,hr.gl.of (by omega) λc hc hn=>⟨hold c hc,λ⟨j,k',y,e1,e2,e3⟩=>?_⟩⟩
 rotate_right
 ·by_cases ha:j=b
  ·rw[ha,eK]at e2;cases e2;omega
  ·rw[bA j ha]at e2;exact hn ⟨j,k',y,e1,e2,e3⟩
 ·by_cases ha:a=b
  ·subst ha;rw[eK]at e';cases e';rw[hk]at e;cases e;exact⟨by omega,J8⟩
  ·rw[bA a ha]at e';obtain⟨h1,h2⟩:=hr.blk a k' y e e';exact⟨by omega,(h2.congr (hold _ h1)).mono hle⟩
 ·by_cases ha:a=b
  ·rw[ha,eK]at r1;cases r1;have dp:a'≠b:= λe=>hne (ha.trans e.symm);rw[bA a' dp]at r2;have:=(hr.blk a' k2 x2 e2 r2).1;omega
  ·rw[bA a ha]at r1;by_cases dp:a'=b
   ·rw[dp,eK]at r2;cases r2;have:=(hr.blk a k1 x1 e1 r1).1;omega
   ·rw[bA a' dp]at r2;exact hr.aX a a' k1 k2 x1 x2 hne e1 e2 r1 r2 jE
theorem Rel.xP {ρ:Ren} {s:AS} {w w':World} {b:Nat} {x:Loc} (hr:Rel P ρ s w) (hb:b<s.nx) (dg:ρ b=none) (hk:s.h.get b=none)
  (hsz:w'.heap.size=w.heap.size+1) (hold:∀b,b<w.heap.size->w'.heap[b]? =w.heap[b]?):Rel P (ρ.put b x) s w':=by
 have hle:aK ρ (ρ.put b x):=ik dg x;have bA:∀a,a≠b->(ρ.put b x) a=ρ a:= λa ha=>by unfold Ren.put;rw[if_neg ha]
 have hne:∀ {a k},s.h.get a=some k->a≠b:= λ {a k} e h=>by rw[h,hk]at e;cases e
 refine⟨λa ha=>by rw[bA a (by omega)];exact hr.dM a ha,hr.top,λa k' y e e'=>?_,hr.ao,λa a' k1 k2 x1 x2 cK e1 e2 r1 r2 jE=>?_,hr.gl.of (by omega) λc hc hn=>⟨hold c hc,λ⟨j,k',y,e1,e2,e3⟩=>hn ⟨j,k',y,e1,by rw[bA j (hne e1)]at e2;exact e2,e3⟩⟩⟩
 ·rw[bA a (hne e)]at e';obtain⟨h1,h2⟩:=hr.blk a k' y e e';exact⟨by omega,(h2.congr (hold _ h1)).mono hle⟩
 ·rw[bA a (hne e1)]at r1;rw[bA a' (hne e2)]at r2;exact hr.aX a a' k1 k2 x1 x2 cK e1 e2 r1 r2 jE
theorem aR.realize {cx ρ:Ren} {s0 s:AS} {w0 w w':World} {b:Nat} {x:Loc} (hr:Rel P ρ s w) (hS:aR cx s0 w0 ρ s w) (MH:s0.nx<=b)
  (hx:x.b=w.heap.size) (hsz:w'.heap.size=w.heap.size+1) (hold:∀b,b<w.heap.size->w'.heap[b]? =w.heap[b]?) (ht:w'.tape=w.tape) (ho:w'.os=w.os) (hu:w'.output=w.output):aR cx s0 w0 (ρ.put b x) s w':=by
 have bA:∀a,a≠b->(ρ.put b x) a=ρ a:= λa ha=>by unfold Ren.put;rw[if_neg ha]
 have eK:(ρ.put b x) b=some x:=by unfold Ren.put;rw[if_pos rfl]
 refine⟨λa ha=>by rw[bA a (by omega)];exact hS.jj a ha,hS.nx,by rw[ht,hS.tape],by rw[ho,hS.os],by rw[hu,hS.out],by have:=hS.size;omega,λc hc hn=>?_,hS.ph,λc r hc=>?_,hS.ao,hS.low,λa k y hl hn hk hro hy=>by have h1:=hS.fW a k y hl hn hk hro hy;rw[<-h1];exact hold _ (hr.blk a k y (by rw[hS.low a hl];exact hk) (by rw[hS.jj a hn];exact hy)).1⟩
 ·obtain⟨h1,h2⟩:=hS.frame c hc hn;have HK:c<w.heap.size:=Nat.lt_of_lt_of_le hc hS.size;refine⟨by rw[hold c HK];exact h1,?_⟩;rintro⟨a,k',y,e,e',rfl⟩;by_cases ha:a=b
  ·rw[ha,eK]at e';cases e';omega
  ·rw[bA a ha]at e';exact h2 ⟨a,k',y,e,e',rfl⟩
 ·obtain⟨r',er⟩:=hS.lp c r hc;exact⟨r',by rw[hold c (Array.getElem?_eq_some_iff.1 er).1];exact er⟩
section
variable {aa nt:Nat} {all:Array Oper} {l:List aE} {I:aE->Prop} {E0:Nat->Option Value} {cx:Ren} {s0:AS} {w0:World} {a0:Act} {D:Nat->Prop} {B:Nat->Nat->Prop} {ρ:Ren} {cs:List sF} {lo:Lo} {tm:T Value} {S:AS} {a:Act} {w:World} {ev:Ev}
variable {x':bY} {tm':T Value} {s':AS}
theorem ky {o:Oper} {d:DI} {c c':CI} {al:List Oper} (h:cO aa [] al o d c=some c'):(o.guard=none∧c'=c)∨∃j want g,o.guard=some (j,want)∧iC aa [] al j=some g∧c'= .gd g want d c:=by
 unfold cO at h;split at h
 ·rename_i hg;cases h;exact .inl ⟨hg,rfl⟩
 ·rename_i j want hg;obtain⟨g,MI,h⟩:=U h;cases h;exact .inr ⟨j,want,g,hg,MI,rfl⟩
theorem qN {o:Option Bool} {p q:Out} {x:bY} {tm':T Value} {s':AS} (h:Hu o p q= .code x tm' s'):∃y,o=some y∧(if y=true then p else q)= .code x tm' s':=by
 cases o with
 |none=>cases h
 |some y=>exact⟨y,rfl,by cases y<;>exact h⟩
theorem uq {x:aE} (dt:(∃f,x.r= .p f)∨sE P aa [] x.o.op=some x.r) (gV:kT x.r=false) (MK:∀f,x.r≠.r f) {d:DI} {k:K} (h:eg ev (nG x.r d) k lo tm S= .code x' tm' s'):
  ∃v S1,fM d v k lo tm S1= .code x' tm' s'∧(∀(B1:Nat->Nat->Prop) cs,(∀ML,S.new ML=some S1->B1 x.i S.nx)->ρ S.nx=none->iW P l ρ B1 cs S1 x lo tm v)∧(S1=S∨∃k,S.new k=some S1):=by
 cases hr:x.r with
 |p f=>
  rw[hr]at h;have h':Option.rec (motive:= λ_=>Out) .no (λv=>fM d v k lo tm S) (f lo tm S)= .code x' tm' s':=h;cases hv:f lo tm S with
  |none=>rw[hv]at h';cases h'
  |some v=>rw[hv]at h';exact⟨v,S,h',λB1 cs _ _=>by unfold iW;rw[hr];exact⟨S,hv⟩,.inl rfl⟩
 |r f=>exact(MK f hr).elim
 |a f=>
  have cB:=p6 (dt.resolve_left λ⟨f',e⟩=>by rw[hr]at e;cases e);rw[hr]at h cB;have h':Option.rec (motive:= λ_=>Out) .no (λp=>fM d p.1 k lo tm p.2) (f lo tm S)= .code x' tm' s':=h;cases hv:f lo tm S with
  |none=>rw[hv]at h';cases h'
  |some r=>rw[hv]at h';obtain⟨b,hb,_⟩:=cB lo tm S r hv;obtain⟨v,S1⟩:=r;refine⟨v,S1,h',λB1 cs hB dg=>?_,.inr ⟨b,hb⟩⟩;unfold iW;rw[hr];have:=AS.dO hb;exact⟨S,S1,hv,hB b hb,by rw[this.1];exact Nat.lt_succ_self _,dg,.inl rfl⟩
 |w f=>rw[hr]at gV;cases gV
 |c f I2=>rw[hr]at gV;cases gV
theorem dy.look (hD:dy P aa all l I) (x:aE) (hx:x∈l):(∃f,x.r= .p f)∨sE P aa [] x.o.op=some x.r:=by
 by_cases h:I x
 ·exact .inl (hD.ins x hx h)
 ·exact .inr (hD.rd x hx h)
structure Grow (l:List aE) (aa:Nat) (ρ:Ren) (X:aE->Prop) (lo:Lo) (tm:T Value) (S:AS) (bq:Lo) (az:T Value) (S1:AS):Prop where
 env:∀t,(∀y∈l,¬X y->y.o.dst≠some t)->av aa bq az t=av aa lo tm t
 nx:S.nx<=S1.nx
 old:∀b,b<S.nx->S1.h.get b=S.h.get b
 new:∀b,S.nx<=b->ρ b=none
theorem Grow.refl {X:aE->Prop} (h:Rel P ρ S w):Grow l aa ρ X lo tm S lo tm S:=⟨λ_ _=>rfl,Nat.le_refl _,λ_ _=>rfl,λb hb=>h.dM b hb⟩
theorem Grow.trans {X X1:aE->Prop} {bq JD:Lo} {az pF:T Value} {S1 S2:AS} (h:Grow l aa ρ X lo tm S bq az S1) (h1:Grow l aa ρ X1 bq az S1 JD pF S2) (hX:∀y,X y->X1 y):Grow l aa ρ X lo tm S JD pF S2:=
 ⟨λt ht=>by rw[h1.env t λy hy hn=>ht y hy λhx=>hn (hX y hx),h.env t ht],Nat.le_trans h.nx h1.nx,λb hb=>by rw[h1.old b (Nat.lt_of_lt_of_le hb h.nx),h.old b hb],h.new⟩
theorem Gp {n:Nat} {x:aE} (hD:dy P aa all l I) (hW:va all l) (h:St P aa nt all l E0 cx s0 w0 a0 (Xs l n x.i) D B ρ cs lo tm S a w) (hx:x∈l) (gV:kT x.r=false) (hn:nC l x=n) {dr:DR} (ly:H7 aa nt all.toList (aJ l) x=some dr)
  {k:KC} (hk:Dr ev dr k cs lo tm S= .code x' tm' s'):∃B1 dB bq az S1,St P aa nt all l E0 cx s0 w0 a0 (Xs l n (x.i+1)) D B1 ρ dB bq az S1 a w∧Grow l aa ρ (Xs l n x.i) lo tm S bq az S1∧k dB bq az S1= .code x' tm' s':=by
 obtain⟨d,hd,ly⟩:=U ly;have fin:∀ {v:Value} {dB:List sF} {S1:AS},fM d v (k dB) lo tm S1= .code x' tm' s'->(∀c∈cs,c∈dB)->(S1=S∨∃kb,S.new kb=some S1)->
   (∀(B1:Nat->Nat->Prop),(∀ML,S.new ML=some S1->B1 x.i S.nx)->ρ S.nx=none->vb P aa all l ρ B1 dB S1 x lo tm v)->
   ∃B1 dB bq az S1,St P aa nt all l E0 cx s0 w0 a0 (Xs l n (x.i+1)) D B1 ρ dB bq az S1 a w∧Grow l aa ρ (Xs l n x.i) lo tm S bq az S1∧k dB bq az S1= .code x' tm' s':=by
  intro v dB S1 hp hcs hS dA;obtain⟨bq,az,nD,gP,BN,E9⟩:=xN hd h.tk hp;have dg:ρ S.nx=none:=h.rel.dM _ (Nat.le_refl _);have MG:¬Xs l n x.i x:=by rintro(h|⟨_,_,h⟩)<;>omega
  have KX:∀t,(∀y∈l,¬Xs l n x.i y->y.o.dst≠some t)->av aa bq az t=av aa lo tm t:= λt ht=>by rw[gP,if_neg (ht x hx MG)]
  rcases hS with rfl|⟨kb,NC⟩
  ·refine⟨B,dB,bq,az,_,h.grow hD hW hx gV hn gP BN E9 (dA B (λML e=>?_) dg) hcs (λ_ _ h=>h) h.bB h.bI (Nat.le_refl _) (λ_ _=>rfl) h.rel h.xd,⟨KX,Nat.le_refl _,λ_ _=>rfl,λb hb=>h.rel.dM b hb⟩,nD⟩;have:=(AS.dO e).1;omega
  ·obtain⟨e1,e2⟩:=AS.dO NC;refine⟨λi b=>B i b∨(i=x.i∧b=S.nx),dB,bq,az,S1,h.grow hD hW hx gV hn gP BN E9 (dA _ (λ_ _=> .inr ⟨rfl,rfl⟩) dg) hcs (λ_ _ h=> .inl h) (λi b hb=>?_) (λi j b hi hj=>?_) (by omega) (λb hb=>by rw[e2,if_neg (by omega)])
    (h.rel.vT NC) (h.xd.vT h.rel NC),⟨KX,by omega,λb hb=>by rw[e2,if_neg (by omega)],λb hb=>h.rel.dM b hb⟩,nD⟩
   ·rcases hb with hb|⟨_,rfl⟩
    ·have:=h.bB i b hb;exact⟨by omega,this.2⟩
    ·exact⟨by omega,h.xd.nx⟩
   ·rcases hi with hi|⟨hi,hb⟩<;>rcases hj with hj|⟨hj,cr⟩
    ·exact h.bI i j b hi hj
    ·have:=(h.bB i b hi).1;omega
    ·have:=(h.bB j b hj).1;omega
    ·omega
 have rd:∀ {f:VF} {hi:Nat},x.r= .r f->hi=cU x.i (aJ l)->rdStep f d hi k cs lo tm S= .code x' tm' s'->(∀v (B1:Nat->Nat->Prop) dB,iW P l ρ B1 dB S x lo tm v->vb P aa all l ρ B1 dB S x lo tm v)->
   ∃B1 dB bq az S1,St P aa nt all l E0 cx s0 w0 a0 (Xs l n (x.i+1)) D B1 ρ dB bq az S1 a w∧Grow l aa ρ (Xs l n x.i) lo tm S bq az S1∧k dB bq az S1= .code x' tm' s':=by
  intro f hi hr HM kU ND;have ed:Option.rec (motive:= λ_=>Out) .no (λv=>fM d v (k ((hi,λs'=>Bj v (f lo tm s'))::cs)) lo tm S) (f lo tm S)= .code x' tm' s':=kU;cases hv:f lo tm S with
  |none=>rw[hv]at ed;cases ed
  |some v=>rw[hv]at ed;refine fin (v:=v) ed (λc hc=>by simp[hc]) (.inl rfl) (λB1 _ _=>ND v B1 _ ?_);unfold iW;rw[hr,HM];simp
 have plain:(∀f,x.r≠.r f)->ob (cO aa [] all.toList x.o d (nG x.r d)) (λc=>some (DR.pa c))=some dr->∃B1 dB bq az S1,St P aa nt all l E0 cx s0 w0 a0 (Xs l n (x.i+1)) D B1 ρ dB bq az S1 a w∧Grow l aa ρ (Xs l n x.i) lo tm S bq az S1∧k dB bq az S1= .code x' tm' s':=by
  intro MK ly;obtain⟨c,hc,ly⟩:=U ly;cases ly;have hk:eg ev c (k cs) lo tm S= .code x' tm' s':=hk;rcases ky hc with ⟨hg,rfl⟩|⟨j,want,g,hg,yY,rfl⟩
  ·obtain⟨v,S1,hp,dA,hS⟩:=uq (l:=l) (ρ:=ρ) (hD.look x hx) gV MK hk;exact fin hp (λ_ h=>h) hS (λB1 hB dg=>by unfold vb;rw[hg];exact dA B1 cs hB dg)
  ·have fE:Hu (kY want (g lo tm)) (eg ev (nG x.r d) (k cs) lo tm S) (fM d (.tuple #[]) (k cs) lo tm S)= .code x' tm' s':=hk;obtain⟨y,hy,fE⟩:=qN fE;cases y with
   |true=>obtain⟨v,S1,hp,dA,hS⟩:=uq (l:=l) (ρ:=ρ) (hD.look x hx) gV MK fE;exact fin hp (λ_ h=>h) hS (λB1 hB dg=>by unfold vb;rw[hg];exact⟨g,true,yY,hy,λ_=>dA B1 cs hB dg,λe=>by cases e⟩)
   |false=>exact fin (S1:=S) fE (λ_ h=>h) (.inl rfl) (λB1 hB dg=>by unfold vb;rw[hg];exact⟨g,false,yY,hy,λe=>(by cases e),λ_=>rfl⟩)
 cases hr:x.r with
 |r f=>
  rw[hr]at ly;simp only at ly;split at ly
  ·rename_i hg;rw[ak]at ly;cases ly;exact rd hr rfl hk (λv B1 dB h0=>by unfold vb;rw[hg];exact h0)
  ·rename_i j want hg;obtain⟨g,yY,ly⟩:=U ly;rw[ak]at ly;cases ly;have fE:Hu (kY want (g lo tm)) (rdStep f d (cU x.i (aJ l)) k cs lo tm S) (fM d (.tuple #[]) (k cs) lo tm S)= .code x' tm' s':=hk;obtain⟨y,hy,fE⟩:=qN fE;cases y with
   |true=>exact rd hr rfl fE (λv B1 dB h0=>by unfold vb;rw[hg];exact⟨g,true,yY,hy,λ_=>h0,λe=>by cases e⟩)
   |false=>exact fin (S1:=S) fE (λ_ h=>h) (.inl rfl) (λB1 hB dg=>by unfold vb;rw[hg];exact⟨g,false,yY,hy,λe=>(by cases e),λ_=>rfl⟩)
 |p f=>exact plain (by rw[hr];intro f e;cases e) (by rw[hr]at ly⊢;exact ly)
 |a f=>exact plain (by rw[hr];intro f e;cases e) (by rw[hr]at ly⊢;exact ly)
 |w f=>rw[hr]at gV;cases gV
 |c f I2=>rw[hr]at gV;cases gV
theorem St.Eg {X X':aE->Prop} (h:St P aa nt all l E0 cx s0 w0 a0 X D B ρ cs lo tm S a w) (hX:∀y∈l,X y↔X' y):St P aa nt all l E0 cx s0 w0 a0 X' D B ρ cs lo tm S a w:=
 ⟨h.tk,λt ht=>h.uT t λy hy yM=>ht y hy ((hX y hy).1 yM),λx hx JC=>h.Fv x hx ((hX x hx).2 JC),h.bB,h.bI,λy hy hd=>(hX y hy).1 (h.dX y hy hd),h.md,h.m0,h.e0,h.rel,h.xd,h.df,h.sz⟩
theorem jh {n:Nat} (hD:dy P aa all l I) (hW:va all l) {k:KC}:∀(l2:List aE) (m:Nat),l.drop m=l2->∀(dl:List DR),cj aa nt all.toList (aJ l) n l2=some dl->∀B cs lo tm S,St P aa nt all l E0 cx s0 w0 a0 (Xs l n m) D B ρ cs lo tm S a w->
  hZ ev dl k cs lo tm S= .code x' tm' s'->∃B1 dB bq az S1,St P aa nt all l E0 cx s0 w0 a0 (Xs l n l.length) D B1 ρ dB bq az S1 a w∧Grow l aa ρ (Xs l n m) lo tm S bq az S1∧k dB bq az S1= .code x' tm' s'
 | [],m,hm,dl,NF,B,cs,lo,tm,S,h,hk=>by
  cases NF;have hlen:l.length<=m:=by have:=congrArg List.length hm;simp at this;omega
  refine⟨B,cs,lo,tm,S,h.Eg (λy hy=>?_),.refl h.rel,hk⟩;have:=(List.getElem?_eq_some_iff.1 (hD.mem hy)).1;unfold Xs;constructor
  ·rintro(h|⟨h1,h2,_⟩)
   ·exact .inl h
   ·exact .inr ⟨h1,h2,this⟩
  ·rintro(h|⟨h1,h2,_⟩)
   ·exact .inl h
   ·exact .inr ⟨h1,h2,by omega⟩
 |x::l2,m,hm,dl,NF,B,cs,lo,tm,S,h,hk=>by
  have Qb:l[m]? =some x:=by have:=congrArg (·[0]?) hm;simpa using this
  have hx:x∈l:=List.mem_of_getElem? Qb;have hi:x.i=m:=hD.at_ m x Qb;have yK:l.drop (m+1)=l2:=by rw[<-List.drop_drop,hm];rfl
  have NG:∀y,Xs l n m y->Xs l n (m+1) y:= λy hy=>hy.imp id λ⟨h1,h2,h3⟩=>⟨h1,h2,by omega⟩
  have skip:¬(nC l x=n∧kT x.r=false)->St P aa nt all l E0 cx s0 w0 a0 (Xs l n (m+1)) D B ρ cs lo tm S a w:= λdg=>h.Eg λy hy=>by
   unfold Xs;constructor
   ·rintro(h|⟨h1,h2,h3⟩)
    ·exact .inl h
    ·exact .inr ⟨h1,h2,by omega⟩
   ·rintro(h|⟨h1,h2,h3⟩)
    ·exact .inl h
    ·refine .inr ⟨h1,h2,?_⟩;have:y.i≠m:= λe=>by
      have:=hD.inj hy hx (by omega);subst this;exact dg ⟨h1,h2⟩
     omega
  have qe:ab (kT x.r) (cj aa nt all.toList (aJ l) n l2) (ab (Nat.beq (level x.m (aJ l)) n) (ob (H7 aa nt all.toList (aJ l) x) λd=>ob (cj aa nt all.toList (aJ l) n l2) λr=>some (d::r)) (cj aa nt all.toList (aJ l) n l2))=some dl:=NF;cases hw:kT x.r with
  |true=>rw[hw,bF]at qe;obtain⟨B1,dB,bq,az,S1,h1,g1,nD⟩:=jh hD hW l2 (m+1) yK dl qe B cs lo tm S (skip (λe=>by rw[hw]at e;cases e.2)) hk;exact⟨B1,dB,bq,az,S1,h1,(Grow.refl h.rel).trans g1 NG,nD⟩
  |false=>
   rw[hw,bS]at qe;cases hb:Nat.beq (level x.m (aJ l)) n with
   |false=>
    rw[hb,bS]at qe;have:=jh hD hW l2 (m+1) yK dl qe B cs lo tm S (skip (λe=>?_)) hk
    ·obtain⟨B1,dB,bq,az,S1,h1,g1,nD⟩:=this;exact⟨B1,dB,bq,az,S1,h1,(Grow.refl h.rel).trans g1 NG,nD⟩
    have:level x.m (aJ l)=n:=e.1;rw[this,Nat.beq_refl]at hb;cases hb
   |true=>rw[hb,bF]at qe;obtain⟨dr,ly,qe⟩:=U qe;obtain⟨r,hr,qe⟩:=U qe;cases qe;have fE:Dr ev dr (hZ ev r k) cs lo tm S= .code x' tm' s':=hk;rw[<-hi]at h;obtain⟨B1,dB,bq,az,S1,h1,g1,nD⟩:=Gp hD hW h hx hw (Nat.eq_of_beq_eq_true hb) ly fE;rw[hi]at h1 g1;obtain⟨B2,NH,JD,pF,S2,h2,g2,yD⟩:=jh hD hW l2 (m+1) yK r hr B1 dB bq az S1 h1 nD;exact⟨B2,NH,JD,pF,S2,h2,g1.trans g2 NG,yD⟩
def Iu (P:Program) (aa nt:Nat) (all:Array Oper) (l:List aE) (ev:Ev) (last:List DR) (kf:K) (todo:List aE) (c:Nat) (cs:List sF) (lo:Lo) (tm:T Value) (S:AS) (out:Out):Prop:=
 match todo with
 | []=>kf lo tm S=out
 |x::rest=>∃d cw y4,kX aa nt x.o.dst=some d∧cO aa [] all.toList x.o d (nG x.r d)=some cw∧jH aa nt all.toList (aJ l) l rest (c+1)=some y4∧eg ev cw (cP ev y4 last kf (c+1) cs) lo tm S=out
theorem kR {c:Nat} {k:KC} {out:bY×T Value×AS} (h:eC c k cs lo tm S= .code out.1 out.2.1 out.2.2):fG c S cs=true∧k cs lo tm S= .code out.1 out.2.1 out.2.2:=by
 have h:ab (fG c S cs) (k cs lo tm S) .no= .code out.1 out.2.1 out.2.2:=h;cases hc:fG c S cs with
 |false=>rw[hc]at h;cases h
 |true=>rw[hc]at h;exact⟨rfl,h⟩
theorem ur {c:Nat} {kf:K} (hD:dy P aa all l I) (hW:va all l) {todo:List aE} {y4:List mj} {last:List DR} (kU:jH aa nt all.toList (aJ l) l todo c=some y4) (fK:cj aa nt all.toList (aJ l) (aJ l).length l=some last) (hc:c+todo.length=(aJ l).length)
  (h:St P aa nt all l E0 cx s0 w0 a0 (Xs l c 0) D B ρ cs lo tm S a w) (hk:cP ev y4 last kf c cs lo tm S= .code x' tm' s'):
  ∃B1 dB bq az S1,St P aa nt all l E0 cx s0 w0 a0 (Xs l c l.length) D B1 ρ dB bq az S1 a w∧Grow l aa ρ (Xs l c 0) lo tm S bq az S1∧fG c S1 dB=true∧Iu P aa nt all l ev last kf todo c dB bq az S1 (.code x' tm' s'):=by
 cases todo with
 |nil=>
  cases kU;have hc:c=(aJ l).length:=by simpa using hc
  have fE:hZ ev last (eC c λ_=>kf) cs lo tm S= .code x' tm' s':=hk;rw[<-hc]at fK;obtain⟨B1,dB,bq,az,S1,h1,g1,nD⟩:=jh hD hW l 0 (by simp) last fK B cs lo tm S h fE;obtain⟨e1,e2⟩:=kR (out:=(x',tm',s')) nD;exact⟨B1,dB,bq,az,S1,h1,g1,e1,e2⟩
 |cons x rest=>have ed:ob (cj aa nt all.toList (aJ l) c l) (λpre=>ob (kX aa nt x.o.dst) λd=>ob (cO aa [] all.toList x.o d (nG x.r d)) λcw=>ar (Nat.succ c) λn=>ob (jH aa nt all.toList (aJ l) l rest n) λr=>some (⟨pre,cw⟩::r))=some y4:=kU;obtain⟨pre,fO,ed⟩:=U ed;obtain⟨d,hd,ed⟩:=U ed;obtain⟨cw,HK,ed⟩:=U ed;rw[ak]at ed;obtain⟨r,hr,ed⟩:=U ed;cases ed;have fE:hZ ev pre (eC c λcs=>eg ev cw (cP ev r last kf (c+1) cs)) cs lo tm S= .code x' tm' s':=hk;obtain⟨B1,dB,bq,az,S1,h1,g1,nD⟩:=jh hD hW l 0 (by simp) pre fO B cs lo tm S h fE;obtain⟨e1,e2⟩:=kR (out:=(x',tm',s')) nD;exact⟨B1,dB,bq,az,S1,h1,g1,e1,d,cw,r,hd,HK,hr,e2⟩
end
end Go.Eng
namespace Go.Eng
open Go
variable {P:Program}
theorem ah {a b:Bool} (h:ab a b false=true):a=true∧b=true:=by
 cases a with
 |true=>exact⟨rfl,h⟩
 |false=>cases h
theorem tq {a b:Addr} (h:vJ a b=true):a=b:=by
 unfold vJ at h;split at h
 ·rename_i h1 h2;rw[ai]at h;split at h
  ·rename_i hb;obtain⟨b1,o1,s1⟩:=a;obtain⟨b2,o2,s2⟩:=b;simp only at h1 h2 hb h;subst h1;subst h2;rw[Nat.eq_of_beq_eq_true hb,Nat.eq_of_beq_eq_true h]
  ·cases h
 ·cases h
theorem kz {a b:Option Addr} (h:iD a b=true):a=b:=by
 unfold iD at h;split at h
 ·rfl
 ·rw[tq h]
 ·cases h
theorem sv {a b:Option Nat} (h:mP a b=true):a=b:=by
 unfold mP at h;split at h
 ·rfl
 ·rw[Nat.eq_of_beq_eq_true h]
 ·cases h
theorem wG {a b:Fn} (h:vj a b=true):a=b:=by
 unfold vj at h;split at h
 ·rw[Nat.eq_of_beq_eq_true h]
 ·rw[Nat.eq_of_beq_eq_true h]
 ·cases h
theorem ff {f:Value->Value->Bool} (hf:∀x y,f x y=true->x=y):∀a b:List Value,kA f a b=true->a=b
 | [],[],_=>rfl
 | [],_::_,h=>by cases h
 |_::_,[],h=>by cases h
 |x::a,y::b,h=>by
  have h:ab (f x y) (kA f a b) false=true:=h;cases hx:f x y with
  |false=>rw[hx]at h;cases h
  |true=>rw[hx]at h;rw[hf x y hx,ff hf a b h]
theorem p7 {a b:Array Value} (h:a.toList=b.toList):a=b:=Array.ext' h
theorem bG:∀(n:Nat) (v u:Value),ku n v u=true->v=u
 |0,_,_,h=>by cases h
 |n+1,v,u,h=>by
  have ih:=bG n;have h:(match(generalizing:=false) v,u with
   | .bool a,.bool b=>ab a b (dz b)
   | .int k a,.int k' b=>ab (sd k k') (yC a b) false
   | .string a,.string b=>Cn a.data.toList b.data.toList
   | .pointer a,.pointer b=>iD a b
   | .slice a n c,.slice b m d=>ab (iD a b) (ab (Nat.beq n m) (Nat.beq c d) false) false
   | .map a,.map b=>mP a b
   | .func f a b,.func g c d=>ab (vj f g) (ab (kA (ku n) a.toList c.toList) (kA (ku n) b.toList d.toList) false) false
   | .nilFunc,.nilFunc=>true
   | .nilIface,.nilIface=>true
   | .iface t a,.iface u b=>ab (Nat.beq t u) (ku n a b) false
   | .agg a,.agg b=>kA (ku n) a.toList b.toList
   | .tuple a,.tuple b=>kA (ku n) a.toList b.toList
   |_,_=>false)=true:=h
  rename_i hold;clear hold;split at h
  ·rename_i a b;cases a<;>cases b<;>first|rfl|(exact(Bool.noConfusion h))
  ·obtain⟨h1,h2⟩:=ah h;rw[nQ]at h2;rw[jd.1 h1,of_decide_eq_true h2]
  ·rename_i a b;rw[qx]at h;obtain⟨a⟩:=a;obtain⟨b⟩:=b;have:a=b:=Array.ext' (eq_of_beq h);rw[this]
  ·rw[kz h]
  ·obtain⟨h1,h⟩:=ah h;obtain⟨h2,h3⟩:=ah h;rw[kz h1,Nat.eq_of_beq_eq_true h2,Nat.eq_of_beq_eq_true h3]
  ·rw[sv h]
  ·obtain⟨h1,h⟩:=ah h;obtain⟨h2,h3⟩:=ah h;rw[wG h1,p7 (ff ih _ _ h2),p7 (ff ih _ _ h3)]
  ·rfl
  ·rfl
  ·obtain⟨h1,h2⟩:=ah h;rw[Nat.eq_of_beq_eq_true h1,ih _ _ h2]
  ·rw[p7 (ff ih _ _ h)]
  ·rw[p7 (ff ih _ _ h)]
  ·cases h
theorem rJ {v:Value} {o:Option Value} (h:Bj v o=true):o=some v:=by
 cases o with
 |none=>cases h
 |some u=>rw[bG 12 v u h]
theorem po {n:Nat} {s:AS}:∀ {l:List sF},fG n s l=true->∀c∈l,n<=c.1->c.2 s=true
 | [],_,c,hc,_=>by simp at hc
 |c0::l,h,c,hc,hn=>by
  have h:ab (Nat.ble n c0.1) (ab (c0.2 s) (fG n s l) false) (fG n s l)=true:=h;rw[ai]at h;rcases List.mem_cons.1 hc with rfl|hc
  ·rw[if_pos (Nat.ble_eq_true_of_le hn)]at h;exact(ah h).1
  ·refine po ?_ c hc hn;split at h
   ·exact(ah h).2
   ·exact h
end Go.Eng
namespace Go.Eng
open Go
variable {P:Program}
section
variable {aa nt:Nat} {all:Array Oper} {l:List aE} {I:aE->Prop} {E0:Nat->Option Value} {cx:Ren} {s0:AS} {w0:World} {a0:Act} {D:Nat->Prop} {B:Nat->Nat->Prop} {ρ:Ren} {cs:List sF} {lo:Lo} {tm:T Value} {S:AS} {a:Act} {w:World} {ev:Ev}
variable {x':bY} {tm':T Value} {s':AS} {F:Fence} {c:Nat}
structure tP (ρ:Ren) (w:World) (aj:Ren) (w':World):Prop where
 old:∀b,b<w.heap.size->w'.heap[b]? =w.heap[b]?
 size:w.heap.size<=w'.heap.size
 new:∀a y,ρ a=none->aj a=some y->w.heap.size<=y.b
theorem tP.refl (ρ:Ren) (w:World):tP ρ w ρ w:=⟨λ_ _=>rfl,Nat.le_refl _,λa y e e'=>by rw[e]at e';cases e'⟩
theorem Cb {X:aE->Prop} (hD:dy P aa all l I) (h:St P aa nt all l E0 cx s0 w0 a0 X D B ρ cs lo tm S a w) (oR:fG c S cs=true) {x:aE} (hx:x∈l) (hI:¬I x) (HM:c<=cU x.i (aJ l)) {eQ:Lo} {tm':T Value} {v:Value}
  (hr:iW P l ρ B cs S x eQ tm' v) (eW:fH ρ aa [] eQ tm' a.eval x.o.op.operands):
  ∃u aj w',(execOp a.eval x.o).run P w= .ok (.value u) w'∧ag aj v u∧aK ρ aj∧Rel P aj S w'∧aR cx s0 w0 aj S w'∧(∀j b,B j b->j≠x.i->ρ b=none->aj b=none)∧tP ρ w aj w':=by
 have cB:=p6 (hD.rd x hx hI);unfold iW at hr;split at hr
 ·rename_i f hf;rw[hf]at cB;obtain⟨s,hv⟩:=hr;obtain⟨u,h1,h2⟩:=cB.2 ρ eQ tm' s v w a.eval hv eW;exact⟨u,ρ,w,h1,h2,.refl _,h.rel,h.xd,λ_ _ _ _ e=>e,.refl _ _⟩
 ·rename_i f hf;rw[hf]at cB;have hv:=rJ (po oR _ hr HM);obtain⟨u,h1,h2⟩:=cB ρ eQ tm' S v w a.eval hv h.rel eW;exact⟨u,ρ,w,h1,h2,.refl _,h.rel,h.xd,λ_ _ _ _ e=>e,.refl _ _⟩
 ·rename_i f hf;rw[hf]at cB;obtain⟨s1,HJ,hv,hB,hlt,dg,hg⟩:=hr;obtain⟨k,hk,hm⟩:=cB eQ tm' s1 _ hv;obtain⟨m,he,x0,u,w',e1,e2,e3,e4,e5,e6,e7,e8,e9⟩:=hm ρ w a.eval dg eW;have hrel:Rel P (ρ.put s1.nx x0) S w':=by
   rcases hg with hg|hg
   ·have fN:S.h.get s1.nx=some k:=by rw[hg,(AS.dO hk).2,if_pos rfl]
    exact h.rel.realize hlt dg fN e2 e3 e4 e9
   ·exact h.rel.xP hlt dg hg e3 e4
  refine⟨u,ρ.put s1.nx x0,w',by rw[he];exact aM e1,e8,ik dg x0,hrel,h.xd.realize h.rel (h.bB _ _ hB).2 e2 e3 e4 e5 e6 e7,λj b hb hj hn=>?_,e4,by omega,λa y h0 h1=>?_⟩
  rotate_left
  ·unfold Ren.put at h1;split at h1
   ·cases h1;omega
   ·rw[h0]at h1;cases h1
  unfold Ren.put;rw[if_neg (λe=>?_)]
  ·exact hn
  ·subst e;exact hj (h.bI _ _ _ hb hB)
 ·exact hr.elim
theorem EE (hF:eL F) (hD:dy P aa all l I) (hW:va all l) (h:St P aa nt all l E0 cx s0 w0 a0 (Xs l c l.length) D B ρ cs lo tm S a w) (oR:fG c S cs=true) (ei:∀y∈l,D y.i->∀j,aw y.m j=true->D j)
  {x:aE} (hx:x∈l) (hI:¬I x) (gV:kT x.r=false) (wR:Xs l c l.length x) (kW:¬D x.i) (fO:∀j,aw x.m j=true->D j) (HM:c<=cU x.i (aJ l)) {Q:Exit->Act->World->Prop} {N:Act->World->Prop}
  (hN:∀aj a' w',St P aa nt all l E0 cx s0 w0 a0 (Xs l c l.length) (λi=>D i∨i=x.i) B aj cs lo tm S a' w'->aK ρ aj->tP ρ w aj w'->N a' w'):wpOpIn F 0 P all Q x.i N a w:=by
 obtain⟨eQ,tm',v,dA,hd,ht⟩:=h.Fv x hx wR gV kW;have sR:∀t∈ey all.toList x.o,∀v,av aa eQ tm' t=some v->ag ρ v (a.eval (.tmp t)):= λt hu v hv=>h.use hD hW ei hx kW fO ht hu hv;have eW:=kQ sR;have HH:∀c,x.o.op≠.defer c:= λc e=>by have:=hD.rd x hx hI;rw[e]at this;cases this
 unfold wpOpIn;rw[hD.op x hx];simp only;have Bx:iW P l ρ B cs S x eQ tm' v->x.o.wpIn F 0 P a w N Q:= λhr=>by obtain⟨u,aj,w',h1,h2,h3,h4,h5,h6,h7⟩:=Cb hD h oR hx hI HM hr eW;refine⟨λf _=>hF.fn f,?_⟩;rw[Oper.semAt_eq _ _ _ HH,h1];exact hN _ _ _ (h.real hD hW hx wR hd h2 h3 h4 h5 h6) h3 h7
 unfold vb at dA;split at dA
 ·rename_i hg;have hw:Region.wanted x.o (yielded all a.tmps)=true:=by unfold Region.wanted;rw[hg]
  rw[if_pos hw];exact Bx dA
 ·rename_i j want hg;obtain⟨g,y,yY,hy,h1,h2⟩:=dA;have hw:=qL (ρ:=ρ) (al:= []) (λd g v ⟨o',fT,sQ⟩ hm hv=>by
   rw[gx hm]at hv;exact sR d (rI hg fT sQ) v hv) hg yY hy
  cases y with
  |true=>rw[if_pos hw];exact Bx (h1 rfl)
  |false=>rw[if_neg (by rw[hw];simp)];refine⟨λf _=>hF.fn f,hN _ _ _ (h.real hD hW hx wR hd (by rw[h2 rfl];exact .tuple .nil) (.refl _) h.rel h.xd (λ_ _ _ _ e=>e)) (.refl _) (.refl _ _)⟩
theorem oq {listed:Array Bool} {i:Nat}:i∈Region.ready .any all listed↔i<all.size∧listed.getD i true=false∧∃o,all[i]? =some o∧∀e∈o.after.toList,Region.binds .any e=true->listed.getD e.on false=true:=by
 unfold Region.ready;rw[List.mem_filter,List.mem_range,Bool.and_eq_true];refine and_congr Iff.rfl (and_congr (by simp) ?_);cases ho:all[i]? with
 |none=>simp
 |some o=>
  simp only[Option.map_some,Option.getD_some,Array.all_eq_true'];constructor
  ·intro h;refine⟨o,rfl,λe he hb=>?_⟩;have:=h e (by simpa using he);simpa[hb]using this
  ·rintro⟨o',fT,h⟩ e he;cases fT;cases hb:Region.binds .any e with
   |false=>simp
   |true=>simpa using h e (by simpa using he) hb
theorem ns {listed:Array Bool} {i:Nat}:∀(r:List Nat),r.Nodup->i∈r->i<listed.size->listed.getD i true=false->
  (r.filter λj=>!(listed.setIfInBounds i true).getD j true).length+1=(r.filter λj=>!listed.getD j true).length
 | [],_,hi,_,_=>by simp at hi
 |j::r,hn,hi,hlt,hf=>by
  rw[List.nodup_cons]at hn;have other:∀k,k≠i->(listed.setIfInBounds i true).getD k true=listed.getD k true:= λk hk=>by rw[Array.getD_eq_getD_getElem?,Array.getD_eq_getD_getElem?,Array.getElem?_setIfInBounds_ne (Ne.symm hk)]
  by_cases e:j=i
  ·subst e;have h1:(listed.setIfInBounds j true).getD j true=true:=by
    rw[Array.getD_eq_getD_getElem?,Array.getElem?_setIfInBounds_self_of_lt hlt];rfl
   rw[List.filter_cons,List.filter_cons,h1,hf];simp only[Bool.not_true,Bool.false_eq_true,if_false,Bool.not_false,if_true,List.length_cons];congr 2;refine List.filter_congr λk hk=>?_;rw[other k (λe=>by subst e;exact hn.1 hk)]
  ·have pG:i∈r:=(List.mem_cons.1 hi).resolve_left (Ne.symm e);have ih:=ns r hn.2 pG hlt hf;rw[List.filter_cons,List.filter_cons,other j e];split
   ·simp only[List.length_cons];omega
   ·exact ih
theorem St.Hh {X:aE->Prop} (h:St P aa nt all l E0 cx s0 w0 a0 X D B ρ cs lo tm S a w) (hall:∀y∈l,D y.i):bD aa nt ρ tm a:=by
 refine⟨h.sz,h.tk,λt v hv=>?_⟩;have hg:av aa lo tm t=some v:=by unfold av;rw[h.tk t v hv];exact hv
 by_cases hex:∃y∈l,y.o.dst=some t
 ·obtain⟨y,hy,gG⟩:=hex;obtain⟨v',u,e1,e2,e3⟩:=h.md y hy (hall y hy) t gG;rw[hg]at e1;cases e1;exact⟨u,e2,e3⟩
 ·rw[h.uT t λy hy _ gG=>hex ⟨y,hy,gG⟩]at hg;obtain⟨u,e1,e2⟩:=h.e0 t v hg;exact⟨u,by rw[h.m0 t λy hy _ gG=>hex ⟨y,hy,gG⟩];exact e1,e2⟩
theorem xQ {kf:K} {J:(Nat->Prop)->Ren->AS->Lo->T Value->World->Prop} {Sp:aE->Prop} (hF:eL F) (hev:EvOk P ev) (hD:dy P aa all l I) (hW:va all l) {last:List DR} (fK:cj aa nt all.toList (aJ l) (aJ l).length l=some last) {Q:Exit->Act->World->Prop}
  (hQ:∀D B ρ cs lo tm S a w,(∀y∈l,D y.i)->St P aa nt all l E0 cx s0 w0 a0 (Xs l (aJ l).length l.length) D B ρ cs lo tm S a w->J D ρ S lo tm w->kf lo tm S= .code x' tm' s'->Q .normal a w)
  (Qc:∀x∈l,I x->Sp x) (Ro:∀x∈l,Sp x->kT x.r=false)
  (Rp:∀(D:Nat->Prop) (c:Nat) ρ S lo tm w bq az S1,1<=c->(∀y∈l,D y.i->Xs l c 0 y)->J D ρ S lo tm w->Grow l aa ρ (Xs l c 0) lo tm S bq az S1->J D ρ S1 bq az w)
  (Rq:∀(D:Nat->Prop) ρ S lo tm w x aj w',x∈l->¬Sp x->J D ρ S lo tm w->aK ρ aj->tP ρ w aj w'->J (λi=>D i∨i=x.i) aj S lo tm w')
  (hJs:∀(c:Nat) (D:Nat->Prop) B ρ cs lo tm S a w x (N:Act->World->Prop),x∈l->Sp x->¬D x.i->(∀j,aw x.m j=true->D j)->(∀y∈l,D y.i->∀j,aw y.m j=true->D j)->Xs l c l.length x->St P aa nt all l E0 cx s0 w0 a0 (Xs l c l.length) D B ρ cs lo tm S a w->J D ρ S lo tm w->
   (∀aj a' w',St P aa nt all l E0 cx s0 w0 a0 (Xs l c l.length) (λi=>D i∨i=x.i) B aj cs lo tm S a' w'->J (λi=>D i∨i=x.i) aj S lo tm w'->N a' w')->wpOpIn F 0 P all Q x.i N a w)
  (Rr:∀(c:Nat) (D:Nat->Prop) B ρ cs S lo tm a w x aj S1 bq az w1 v,x∈l->kT x.r=true->¬D x.i->St P aa nt all l E0 cx s0 w0 a0 (Xs l c l.length) D B ρ cs lo tm S a w->(∀t,x.o.dst=some t->¬ ∃y∈l,y≠x∧y.o.dst=some t)->nC l x=c->J D ρ S lo tm w->Rel P aj S1 w1->aR ρ S w aj S1 w1->(∀t,av aa bq az t=if x.o.dst=some t then some v else av aa lo tm t)->J (λi=>D i∨i=x.i) aj S1 bq az w1):
  ∀(fuel:Nat) (listed:Array Bool) (D:Nat->Prop) (B:Nat->Nat->Prop) (ρ:Ren) (cs:List sF) (lo:Lo) (tm:T Value) (S:AS) (a:Act) (w:World) (done todo:List aE),
   listed.size=all.size->(∀i,D i↔listed.getD i false=true)->(∀y∈l,D y.i->∀j,aw y.m j=true->D j)->((List.range all.size).filter (λi=>!listed.getD i true)).length<=fuel->
   aJ l=done++todo->(∀y∈done,D y.i)->(∀y∈todo,¬D y.i)->St P aa nt all l E0 cx s0 w0 a0 (Xs l done.length l.length) D B ρ cs lo tm S a w->J D ρ S lo tm w->fG done.length S cs=true->
   Iu P aa nt all l ev last kf todo done.length cs lo tm S (.code x' tm' s')->wpAnyIn F 0 P .any all Q fuel listed a w:=by
 intro fuel;induction fuel with
 |zero=>
  intro listed D B ρ cs lo tm S a w done todo hsz BP ei LN dw mu qo h hJ oR lf;have hall:∀i,i<all.size->listed.getD i true=true:= λi hi=>by
   cases hb:listed.getD i true with
   |true=>rfl
   |false=>have hm:i∈(List.range all.size).filter (λi=>!listed.getD i true):=List.mem_filter.2 ⟨List.mem_range.2 hi,by rw[hb];rfl⟩;have:=List.length_pos_of_mem hm;omega
  have hr:Region.ready .any all listed= []:=by rw[List.eq_nil_iff_forall_not_mem];intro i hi;obtain⟨h1,h2,_⟩:=oq.1 hi;rw[hall i h1]at h2;cases h2
  refine⟨hr,?_⟩;have qp:∀y∈l,D y.i:= λy hy=>by
   have hlt:y.i<all.size:=by rw[<-hD.len];exact(List.getElem?_eq_some_iff.1 (hD.mem hy)).1
   have:=hall y.i hlt;rw[BP,Array.getD_eq_getD_getElem?];rw[Array.getD_eq_getD_getElem?]at this;rw[Array.getElem?_eq_getElem (by omega)]at this⊢;exact this
  have JZ:todo= []:=by
   cases todo with
   |nil=>rfl
   |cons z rest=>exact(qo z (by simp) (qp z ((jL (l:=l)).1 (by rw[dw];simp)).1)).elim
  subst JZ;have hlen:done.length=(aJ l).length:=by rw[dw];simp
  rw[hlen]at h;exact hQ D B ρ cs lo tm S a w qp h hJ lf
 |succ fuel ih=>
  intro listed D B ρ cs lo tm S a w done todo hsz BP ei LN dw mu qo h hJ oR lf;refine⟨λhr=>?_,λi hi=>?_⟩
  ·
   have qp:∀n,∀y∈l,y.i=n->D y.i:=by
    intro n;induction n using Nat.strongRecOn with
    |_ n Rs=>
     intro y hy Td;by_cases hb:D y.i
     ·exact hb
     exfalso;have hlt:y.i<all.size:=by rw[<-hD.len];exact(List.getElem?_eq_some_iff.1 (hD.mem hy)).1
     have eb:y.i∈Region.ready .any all listed:=oq.2 ⟨hlt,by
       have:¬listed.getD y.i false=true:= λe=>hb ((BP _).2 e);rw[Array.getD_eq_getD_getElem?,Array.getElem?_eq_getElem (by omega)]at this⊢;simpa using this,y.o,hD.op y hy,λe he J9=>by
       have FT:=hD.below y hy _ (hD.dir y hy e he J9);have Cs:e.on<l.length:=by have:=(List.getElem?_eq_some_iff.1 (hD.mem hy)).1;omega
       have hz:=hD.at_ e.on l[e.on] (by simp[Cs]);have:=Rs e.on (by omega) l[e.on] (by simp) hz;rw[hz]at this;exact(BP _).1 this⟩
     rw[hr]at eb;cases eb
   have qp:∀y∈l,D y.i:= λy hy=>qp y.i y hy rfl;have JZ:todo= []:=by
    cases todo with
    |nil=>rfl
    |cons z rest=>exact(qo z (by simp) (qp z ((jL (l:=l)).1 (by rw[dw];simp)).1)).elim
   subst JZ;have hlen:done.length=(aJ l).length:=by rw[dw];simp
   rw[hlen]at h;exact hQ D B ρ cs lo tm S a w qp h hJ lf
  ·obtain⟨hlt,GG,o,ho,Eh⟩:=oq.1 hi;obtain⟨x,hx,rfl,rfl⟩:=hD.OG ho;have Iv:x.i<listed.size:=by omega
   have kW:¬D x.i:= λe=>by have:=(BP _).1 e;rw[Array.getD_eq_getD_getElem?,Array.getElem?_eq_getElem Iv]at this GG;simp only[Option.getD_some]at this GG;rw[GG]at this;cases this
   have fO:∀j,aw x.m j=true->D j:= λj hj=>by
    obtain⟨e,he,hb,h1|⟨y,hy,J7,Rt⟩⟩:=hD.back x hx j hj
    ·rw[<-h1];exact(BP _).2 (Eh e he hb)
    ·exact ei y hy (by rw[J7];exact(BP _).2 (Eh e he hb)) j Rt
   have yP:(listed.setIfInBounds x.i true).size=all.size:=by simpa using hsz
   have Iw:∀i,(D i∨i=x.i)↔(listed.setIfInBounds x.i true).getD i false=true:= λi=>by
    rw[Array.getD_eq_getD_getElem?];by_cases e:i=x.i
    ·subst e;rw[Array.getElem?_setIfInBounds_self_of_lt Iv];simp
    ·rw[Array.getElem?_setIfInBounds_ne (Ne.symm e),<-Array.getD_eq_getD_getElem?,<-BP];simp[e]
   have zn:∀y∈l,(D y.i∨y.i=x.i)->∀j,aw y.m j=true->(D j∨j=x.i):= λy hy ix j hj=>by
    rcases ix with ix|ix
    ·exact .inl (ei y hy ix j hj)
    ·rw[hD.inj hy hx ix]at hj;exact .inl (fO j hj)
   have zo:((List.range all.size).filter (λi=>!(listed.setIfInBounds x.i true).getD i true)).length<=fuel:=by have:=ns (listed:=listed) (i:=x.i) (List.range all.size) List.nodup_range (List.mem_range.2 hlt) Iv GG;omega
   have Hi:cnt (λi=>listed.getD i false) (aJ l)=done.length:=by
    rw[dw,rG,vS (λy hy=>(BP _).1 (mu y hy)),qM (λy hy=>by
     cases hb:listed.getD y.i false with
     |false=>rfl
     |true=>exact(qo y hy ((BP _).2 hb)).elim),Nat.add_zero]
   have KY:nC l x<=done.length:=by unfold nC;rw[eU,<-Hi];exact vt λy _ hb=>(BP _).1 (fO _ hb)
   cases gV:kT x.r with
   |false=>
    have wR:Xs l done.length l.length x:=by
     rcases Nat.lt_or_eq_of_le KY with h'|h'
     ·exact .inl h'
     ·exact .inr ⟨h',gV,(List.getElem?_eq_some_iff.1 (hD.mem hx)).1⟩
    have HM:done.length<=cU x.i (aJ l):=by
     rw[<-Hi];refine xM λy hy ix=>?_;cases hb:aw y.m x.i with
     |false=>rfl
     |true=>exact(kW (ei y (jL.1 hy).1 ((BP _).2 ix) _ hb)).elim
    have ME:∀y∈todo,¬(D y.i∨y.i=x.i):= λy hy ix=>by
     rcases ix with ix|ix
     ·exact qo y hy ix
     ·have y3:=(jL (l:=l)).1 (show y∈aJ l by rw[dw];simp[hy]);rw[hD.inj y3.1 hx ix,gV]at y3;cases y3.2
    by_cases iu:Sp x
    ·exact hJs done.length D B ρ cs lo tm S a w x _ hx iu kW fO ei wR h hJ λaj a' w' h' hJ'=>ih _ _ B aj cs lo tm S a' w' done todo yP Iw zn zo dw (λy hy=> .inl (mu y hy)) ME h' hJ' oR lf
    ·exact EE hF hD hW h oR ei hx (λhi=>iu (Qc x hx hi)) gV wR kW fO HM λaj a' w' h' hle hq=>ih _ _ B aj cs lo tm S a' w' done todo yP Iw zn zo dw (λy hy=> .inl (mu y hy)) ME h' (Rq D ρ S lo tm w x aj w' hx iu hJ hle hq) oR lf
   |true=>
    have HN:¬I x:= λhi=>by have:=Ro x hx (Qc x hx hi);rw[gV]at this;cases this
    have Ix:x∈aJ l:=jL.2 ⟨hx,gV⟩;have Ei:x∈todo:=by rw[dw,List.mem_append]at Ix;exact Ix.resolve_left λe=>kW (mu x e)
    have A8:=hW.sorted;rw[dw,List.pairwise_append]at A8;obtain⟨gE,hs2,hs3⟩:=A8;cases todo with
    |nil=>cases Ei
    |cons z rest=>
     have FU:z∈aJ l:=by rw[dw];simp
     have Ru:z=x:=by
      rcases List.mem_cons.1 Ei with e|e
      ·exact e.symm
      ·rw[List.pairwise_cons]at hs2;have hlt:=hs2.1 x e;exact(qo z (by simp) (fO _ (hW.chain z FU x Ix hlt))).elim
     subst Ru;have hn:nC l z=done.length:=by
      unfold nC;rw[eU,dw,rG,vS (λy hy=>hW.chain y (by rw[dw];simp[hy]) z FU (hs3 y hy z (by simp))),qM (λy hy=>?_),Nat.add_zero];cases hb:aw z.m y.i with
      |false=>rfl
      |true=>
       have h1:=hD.below z hx _ hb;rw[List.pairwise_cons]at hs2;rcases List.mem_cons.1 hy with rfl|hy
       ·omega
       ·have:=hs2.1 y hy;omega
     have qn:∀y∈l,kT y.r=true->nC l y=done.length->y=z:= λy hy y3 Te=>by
      have KZ:=jL.2 ⟨hy,y3⟩;rcases Nat.lt_trichotomy y.i z.i with e|e|e
      ·rcases jT hD hx hy (hW.chain y KZ z FU e)with h'|⟨_,h',_⟩
       ·omega
       ·rw[y3]at h';cases h'
      ·exact hD.inj hy hx e
      ·rcases jT hD hy hx (hW.chain z FU y KZ e)with h'|⟨_,h',_⟩
       ·omega
       ·rw[gV]at h';cases h'
     obtain⟨d,cw,y4,hd,HK,OK,hrun⟩:=lf;have ht:∀t,(∀y∈l,y.o.dst=some t->BO l y z->av aa lo tm t=av aa lo tm t)∧((∀y∈l,y.o.dst=some t->¬BO l y z)->av aa lo tm t=E0 t):= λt=>
      ⟨λ_ _ _ _=>rfl,λhb=>h.uT t λy hy Rv gG=>hb y hy gG (by
       rcases Rv with h'|⟨h1,h2,_⟩
       ·left;omega
       ·right;exact⟨by omega,h2,.inl gV⟩)⟩
     have sR:∀t∈ey all.toList z.o,∀v,av aa lo tm t=some v->ag ρ v (a.eval (.tmp t)):= λt hu v hv=>h.use hD hW ei hx kW fO ht hu hv;have eW:=kQ sR;have next:∀ {aj:Ren} {v u:Value} {s1:AS} {w1:World},fM d v (cP ev y4 last kf (done.length+1) cs) lo tm s1= .code x' tm' s'->ag aj v u->Rel P aj s1 w1->aR ρ S w aj s1 w1->
       wpAnyIn F 0 P .any all Q fuel (listed.setIfInBounds z.i true) (a.put z.o.dst u) w1:=by
      intro aj v u s1 w1 hp hv de dq;obtain⟨bq,az,nD,gP,BN,E9⟩:=xN hd h.tk hp;have h1:=h.wrote hD hW hx gV hn qn gP BN E9 hv de dq;have hlen:done.length+1+rest.length=(aJ l).length:=by rw[dw];simp;omega
      obtain⟨B2,NH,JD,pF,S2,h2,g2,LO,Jc⟩:=ur hD hW OK fK hlen h1 nD;have Rw:=Rr done.length D B ρ cs S lo tm a w z aj s1 bq az w1 v hx gV kW h (λt ht ⟨y,hy,hne,Rx⟩=>hW.dst hx hy (λe=>hne (hD.inj hy hx e.symm)) Rx ht) hn hJ de dq gP;have hJ2:=Rp _ _ _ _ _ _ _ _ _ _ (Nat.le_add_left _ _) h1.dX Rw g2;refine ih _ _ B2 aj NH JD pF S2 _ w1 (done++ [z]) rest yP Iw zn zo (by rw[dw];simp) (λy hy=>?_) (λy hy ix=>?_) (by simpa using h2) hJ2 (by simpa using LO) (by simpa using Jc)
      ·rcases List.mem_append.1 hy with hy|hy
       ·exact .inl (mu y hy)
       ·simp only[List.mem_singleton]at hy;rw[hy];exact .inr rfl
      ·rcases ix with ix|ix
       ·exact qo y (by simp[hy]) ix
       ·rw[List.pairwise_cons]at hs2;have:=hs2.1 y hy;omega
     unfold wpOpIn;rw[hD.op z hx];simp only;rcases ky HK with ⟨hg,rfl⟩|⟨j,want,g,hg,yY,rfl⟩
     ·have hw:Region.wanted z.o (yielded all a.tmps)=true:=by unfold Region.wanted;rw[hg]
      rw[if_pos hw];exact zm hF hev (hD.rd z hx HN) hrun eW h.rel next
     ·have Ay:Hu (kY want (g lo tm)) (eg ev (nG z.r d) (cP ev y4 last kf (done.length+1) cs) lo tm S) (fM d (.tuple #[]) (cP ev y4 last kf (done.length+1) cs) lo tm S)= .code x' tm' s':=hrun;obtain⟨y,hy,Ay⟩:=qN Ay;have hw:=qL (ρ:=ρ) (al:= []) (λd g v ⟨o',fT,sQ⟩ hm hv=>by
       rw[gx hm]at hv;exact sR d (rI hg fT sQ) v hv) hg yY hy
      cases y with
      |true=>rw[if_pos hw];exact zm hF hev (hD.rd z hx HN) Ay eW h.rel next
      |false=>rw[if_neg (by rw[hw];simp)];exact⟨λf _=>hF.fn f,next Ay (.tuple .nil) h.rel (.refl _ _ _)⟩
end
theorem Gq {aa nt id:Nat} {ops:Array Oper} {f:CF} (hm:P.follows .mixedOrders=true) (h:qs P aa nt ops.toList (λst last=>some (tI st last))=some f):cV P aa nt (.region id ops true) f:=by
 have h:(ob (qk ops.toList []) λms=>ob (Bk P aa ops.toList 0 ms) λl=>
  ab (jb (aJ l) none) (ab (kD ops.toList l)
   (ob (jH aa nt ops.toList (aJ l) l (aJ l) 0) λst=>ob (cj aa nt ops.toList (aJ l) (len (aJ l)) l) λlast=>some (tI st last)) none) none)=some f:=h
 obtain⟨ms,Fb,h⟩:=U h;obtain⟨l,hl,h⟩:=U h;obtain⟨Fx,h⟩:=ae h;obtain⟨NI,h⟩:=ae h;obtain⟨st,kU,h⟩:=U h;obtain⟨last,fK,h⟩:=U h;cases h;have hD:=A6 Fb hl;have hW:=Ef hD Fx NI;rw[aZ]at fK;intro ev hev F hF ρ tm s a w x tm' s' hr hE n0 eR hM hL hR Q hQ;have hr:cP ev st last sJ 0 [] .nil tm s= .code x tm' s':=hr;refine wpIn_region_any hm ?_;have eT:Rel P ρ s {w with drawn:=w.drawn+1}:=hR.of_heap rfl;have h0:St P aa nt ops l (av aa .nil tm) ρ s w a (Xs l 0 0) (λ_=>False) (λ_ _=>False) ρ [] .nil tm s a {w with drawn:=w.drawn+1}:=by
  refine⟨hE.tk,λt _=>rfl,λy _ hX _ _=>?_,λ_ _ h=>h.elim,λ_ _ _ h=>h.elim,λ_ _ h=>h.elim,λ_ _ h=>h.elim,λ_ _=>rfl,λt v hv=>?_,eT,.of_heap rfl rfl rfl rfl,rfl,hE.size⟩
  ·rcases hX with h|⟨_,_,h⟩<;>omega
  ·unfold av at hv;rw[ai]at hv;split at hv
   ·exact hE.env t v hv
   ·cases hv
 obtain⟨B1,dB,bq,az,S1,h1,_,oR,lf⟩:=ur hD hW kU fK (by simp) h0 hr;refine xQ (J:= λ_ _ _ _ _ _=>True) (Sp:= λ_=>False) hF hev hD hW fK (λD B ρ cs lo tm S a w hall h _ hk=>?_) (λ_ _ h=>h) (λ_ _ h=>h.elim) (by intros;trivial) (by intros;trivial) (λ_ _ _ _ _ _ _ _ _ _ _ _ _ h=>h.elim) (by intros;trivial)
  ops.size (Array.replicate ops.size false) _ B1 ρ dB bq az S1 a _ [] (aJ l) (by simp) (λi=>?_) (λ_ _ h=>h.elim) ?_ rfl (λ_ h=>by cases h) (λ_ _ h=>h) h1 trivial oR lf
 ·cases hk;exact hQ ρ a w (h.Hh hall) (by rw[h.df];exact hM.step h.xd) h.rel h.xd
 ·rw[Array.getD_eq_getD_getElem?,Array.getElem?_replicate];constructor
  ·exactλh=>h.elim
  ·intro h;split at h<;>cases h
 ·exact Nat.le_trans (List.length_filter_le _ _) (by simp)
end Go.Eng
namespace Go.Eng
open Go
variable {P:Program}
theorem Rel.other {ρ:Ren} {s:AS} {w:World} {b:Nat} {o':Obj} (hr:Rel P ρ s w) (hn:¬aI ρ s b) (dg:∀i,w.cell? ⟨b,i,none⟩=none):Rel P ρ s {w with heap:=w.heap.setIfInBounds b o'}:=
 ⟨hr.dM,hr.top,λa k x e e'=>by
  obtain⟨h1,h2⟩:=hr.blk a k x e e';have hne:b≠x.b:= λhe=>hn ⟨a,k,x,e,e',he.symm⟩;exact⟨by simpa using h1,h2.congr (by simp[hne])⟩,hr.ao,hr.aX,λg gl vs g1 g2=>by
  obtain⟨a,b',c⟩:=hr.gl g gl vs g1 g2;have hne:=hr.gl.ne dg g1 g2;exact⟨by simpa using a,b',λi v hv=>by rw[dW (w:=w) (by simp[hne])];exact c i v hv⟩⟩
theorem aR.other {cx ρ:Ren} {s0 s:AS} {w0 w:World} {b:Nat} {o':Obj} (hS:aR cx s0 w0 ρ s w) (Ka:Rel P cx s0 w0) (hb:w0.heap.size<=b):aR cx s0 w0 ρ s {w with heap:=w.heap.setIfInBounds b o'}:=by
 have hk:∀c,c<w0.heap.size->({w with heap:=w.heap.setIfInBounds b o'}:World).heap[c]? =w.heap[c]?:= λc hc=>by
  have:b≠c:=by omega
  simp[this]
 refine⟨hS.jj,hS.nx,hS.tape,hS.os,hS.out,by simpa using hS.size,λc hc hn=>⟨by rw[hk c hc];exact(hS.frame c hc hn).1,(hS.frame c hc hn).2⟩,hS.ph,λc r hc=>?_,hS.ao,hS.low,λa k x ha hn e hro e'=>?_⟩
 ·obtain⟨r',h1⟩:=hS.lp c r hc;exact⟨r',by rw[hk c (Array.getElem?_eq_some_iff.1 hc).1];exact h1⟩
 ·rw[hk _ (Ka.blk a k x e e').1];exact hS.fW a k x ha hn e hro e'
theorem F2.Hj {α β:Type} {R:α->β->Prop}:∀ {l l':List α} {m:List β},l.Perm l'->F2 R l m->∃m',m.Perm m'∧F2 R l' m':=by
 intro l l' m hp;induction hp generalizing m with
 |nil=>intro h;exact⟨m,.refl _,h⟩
 |cons x _ ih=>
  intro h;cases h with
  |cons h hs=>obtain⟨m',h1,h2⟩:=ih hs;exact⟨_::m',h1.cons _,.cons h h2⟩
 |swap x y l=>
  intro h;cases h with
  |cons h hs=>cases hs with|cons h' hs=>exact⟨_,.swap _ _ _,.cons h' (.cons h hs)⟩
 |trans _ _ Kb Kc=>intro h;obtain⟨m1,h1,h2⟩:=Kb h;obtain⟨m2,h3,h4⟩:=Kc h2;exact⟨m2,h1.trans h3,h4⟩
theorem F2.length {α β:Type} {R:α->β->Prop}:∀ {l:List α} {m:List β},F2 R l m->l.length=m.length
 |_,_,.nil=>rfl
 |_,_,.cons _ hs=>by simp[F2.length hs]
theorem F2.imp {α β:Type} {R R':α->β->Prop}:∀ {l:List α} {m:List β},F2 R l m->(∀a∈l,∀b∈m,R a b->R' a b)->F2 R' l m
 |_,_,.nil,_=> .nil
 |_,_,.cons h hs,hi=> .cons (hi _ (by simp) _ (by simp) h) (F2.imp hs λa ha b hb=>hi a (by simp[ha]) b (by simp[hb]))
theorem zU {ρ:Ren} {w:World} {t kt e:TypeId} {mb ck:Nat} {ents:Array MapEntry} {es:List (Value×Value×Nat)} {k x':Value} (gU:P.underlying t=some (.map kt e)) (hh:w.heap[mb]? =some (.map ents ck)) (eI:aW P ρ kt es ents)
  (ee:aG P kt k=true) (dg:∀p∈es,p.1≠k):(Instr.mapUpdate t (.map (some mb)) k x').run P w= .ok () {w with heap:=w.heap.setIfInBounds mb (.map (ents.push {key:=k,val:=x',born:=ck}) (ck+1))}:=by
 have iY:=cp (P:=P) ee w eI.fits;rw[eI.nR dg]at iY;simp only[Instr.mapUpdate,Sem.run_bind,run_underlying gU,Result.andThen_ok,Sem.run_pure,au hh (by simp),aD ee,iY,aQ hh (by simp)]
theorem zV {ρ:Ren} {kt:TypeId} {ck:Nat} {ents:Array MapEntry} {es:List (Value×Value×Nat)} {k x x':Value} (eI:aW P ρ kt es ents) (ee:aG P kt k=true) (dg:∀p∈es,p.1≠k) (hx:ag ρ x x'):
  aW P ρ kt (es++ [(k,x,0)]) (ents.push {key:=k,val:=x',born:=ck}):=by
 obtain⟨l,hp,hf,hn⟩:=eI;refine⟨l++ [{key:=k,val:=x',born:=ck}],by rw[Array.toList_push];exact hp.append_right _,F2.append (.cons ⟨rfl,ee,cR ee,hx,.inl rfl⟩ .nil) hf,?_⟩;rw[List.map_append,List.nodup_append];refine⟨hn,by simp,λa ha b hb=>?_⟩;obtain⟨p,nT,rfl⟩:=List.mem_map.1 ha;simp only[List.map_cons,List.map_nil,List.mem_singleton]at hb;subst hb;exact dg p nT
theorem aW.LP {ρ:Ren} {kt:TypeId} {ents:Array MapEntry} {es bc:List (Value×Value×Nat)} (h:aW P ρ kt es ents) (hp:es.Perm bc):aW P ρ kt bc ents:=by obtain⟨l,h1,h2,h3⟩:=h;obtain⟨l',h4,h5⟩:=h2.Hj hp;exact⟨l',h4.symm.trans h1,h5,(hp.map _).nodup_iff.1 h3⟩
theorem aW.zero {ρ:Ren} {kt:TypeId} {ents:Array MapEntry} {es bc:List (Value×Value×Nat)} (h:aW P ρ kt es ents) (hz:F2 (λp q=>p.1=q.1∧p.2.1=q.2.1∧q.2.2=0) es bc):aW P ρ kt bc ents:=by
 obtain⟨l,h1,h2,h3⟩:=h;have key:∀ {es bc:List (Value×Value×Nat)} {l:List MapEntry},F2 (λp q=>p.1=q.1∧p.2.1=q.2.1∧q.2.2=0) es bc->F2 (bJ P ρ kt) es l->F2 (bJ P ρ kt) bc l∧bc.map (·.1)=es.map (·.1):=by
  intro es bc l hz;induction hz generalizing l with
  |nil=>intro h;cases h;exact⟨.nil,rfl⟩
  |cons hh _ ih=>
   intro h;cases h with
   |cons a b=>obtain⟨i1,i2⟩:=ih b;obtain⟨e1,e2,e3⟩:=hh;obtain⟨a1,a2,a3,a4,_⟩:=a;exact⟨.cons ⟨by rw[<-e1];exact a1,by rw[<-e1];exact a2,by rw[<-e1];exact a3,by rw[<-e2];exact a4,.inl e3⟩ i1,by simp[i2,e1]⟩
 obtain⟨k1,k2⟩:=key hz h2;exact⟨l,h1,k1,by rw[k2];exact h3⟩
theorem A9 {aa:Nat} {v:Operand} {f:cu} (h:bz aa [] v=some f) {lo bq:Lo} {tm az:T Value} (he:∀t,v= .tmp t->av aa bq az t=av aa lo tm t):f bq az=f lo tm:=by
 cases v with
 |tmp t=>rw[gx h,gx h,he t rfl]
 |const c=>have h:(match cH c with|some v=>some (JS v)|none=>some (λ_ _=>none))=some f:=h;split at h<;>(cases h;rfl)
 |global g=>cases h;rfl
 |func g=>cases h;rfl
theorem lL {aa:Nat} {o:Oper} {q:uO} (h:cW aa o=some q):∃c v,o.guard=none∧o.dst=none∧o.op= .insert q.t (.tmp q.m) (.const c) v∧cH c=some q.k∧bz aa [] v=some q.v:=by
 unfold cW at h;split at h
 ·rename_i t m k v h1 h2 h3;obtain⟨k',hk,h⟩:=U h;obtain⟨v',hv,h⟩:=U h;cases h;exact⟨k,v,h1,h2,h3,hk,hv⟩
 ·cases h
theorem tt {v v':Value} (h:cH v=some v'):v'=v:=by unfold cH at h;split at h<;>first|(cases h;rfl)|cases h
structure By (P:Program) (aa:Nat) (l:List aE) (x0:aE) (t mt:Nat) (kt:TypeId):Prop where
 mem:x0∈l
 guard:x0.o.guard=none
 dst:x0.o.dst=some mt
 op:x0.o.op= .makeMap t none
 nC:nC l x0=0
 key:∃e,P.underlying t=some (.map kt e)
 look:∀x∈l,aY x.o=true->∃q,cW aa x.o=some q∧q.t=t∧q.m=mt∧aG P kt q.k=true∧aw x.m x0.i=true∧(∀T m k s,x.o.op= .insert T m k (.tmp s)->∀y∈l,y.o.dst=some s->aw x.m y.i=true)∧x.r= .p (λlo tm _=>ob (q.v lo tm) λ_=>some (.tuple #[]))
 apart:∀x∈l,∀y∈l,aY x.o=true->aY y.o=true->x≠y->∀q q',cW aa x.o=some q->cW aa y.o=some q'->q.k≠q'.k
def FV (aa:Nat) (l:List aE) (D:Nat->Prop) (lo:Lo) (tm:T Value) (x:aE) (e:Value×Value×Nat):Prop:=
 ∃q,cW aa x.o=some q∧e.1=q.k∧q.v lo tm=some e.2.1∧∀T m k s,x.o.op= .insert T m k (.tmp s)->∀y∈l,y.o.dst=some s->D y.i
theorem FV.env {aa:Nat} {l:List aE} {D D':Nat->Prop} {lo bq:Lo} {tm az:T Value} {x:aE} {e:Value×Value×Nat} (h:FV aa l D lo tm x e) (hD:∀i,D i->D' i) (he:∀t,(∀y∈l,y.o.dst=some t->D y.i)->av aa bq az t=av aa lo tm t):FV aa l D' bq az x e:=by obtain⟨q,h1,h2,h3,h4⟩:=h;refine⟨q,h1,h2,?_,λT m k s e y hy hd=>hD _ (h4 T m k s e y hy hd)⟩;obtain⟨c,v,_,_,ho,_,hv⟩:=lL h1;rw[<-h3];exact A9 hv λt et=>he t (h4 _ _ _ t (by rw[ho,et]))
def MJ (P:Program) (aa:Nat) (l:List aE) (x0:aE) (mt:Nat) (kt:TypeId) (s0:AS) (w0:World) (bm:Nat) (D:Nat->Prop) (ρ:Ren) (S:AS) (lo:Lo) (tm:T Value) (w:World):Prop:=
 av aa lo tm mt=some (.map (some bm))∧S.h.get bm=none∧bm<S.nx∧s0.nx<=bm∧
 (D x0.i->∃loc L es,ρ bm=some loc∧loc.b<w.heap.size∧w0.heap.size<=loc.b∧¬aI ρ S loc.b∧bX P ρ loc w (.map kt es es.length)∧List.Nodup L∧(∀x,x∈L↔x∈l∧aY x.o=true∧D x.i)∧F2 (FV aa l D lo tm) L es)
section
variable {aa nt:Nat} {all:Array Oper} {l:List aE} {I:aE->Prop} {E0:Nat->Option Value} {cx:Ren} {s0:AS} {w0:World} {a0:Act} {D:Nat->Prop} {B:Nat->Nat->Prop} {ρ:Ren} {cs:List sF} {lo:Lo} {tm:T Value} {S:AS} {a:Act} {w:World} {ev:Ev}
variable {x0:aE} {t mt bm:Nat} {kt:TypeId}
theorem lM {X:aE->Prop} (hD:dy P aa all l I) (hM:By P aa l x0 t mt kt) (hI:¬I x0) (h:St P aa nt all l E0 cx s0 w0 a0 X D B ρ cs lo tm S a w) (hX:X x0) (hJ:av aa lo tm mt=some (.map (some bm))) (hn:¬D x0.i):ρ bm=none∧B x0.i bm:=by
 have dt:=hD.rd x0 hM.mem hI;rw[hM.op]at dt;obtain⟨ke,gU,dt⟩:=U dt;have hw:kT x0.r=false:=by rw[<-Option.some.inj dt];rfl
 obtain⟨eQ,tm',v,dA,hd,_⟩:=h.Fv x0 hM.mem hX hw hn;unfold vb at dA;rw[hM.guard]at dA;unfold iW at dA;rw[<-Option.some.inj dt]at dA;obtain⟨s1,HJ,h1,h2,h3,h4,h5⟩:=dA;obtain⟨s2,hs2,h1⟩:=U h1;have:=(hd mt hM.dst).2;rw[hJ]at this;cases h1;cases this;exact⟨h4,h2⟩
theorem MJ.grow {c:Nat} {bq:Lo} {az:T Value} {S1:AS} (hD:dy P aa all l I) (hW:va all l) (hM:By P aa l x0 t mt kt) (hc:1<=c) (hX:∀y∈l,D y.i->Xs l c 0 y) (hJ:MJ P aa l x0 mt kt s0 w0 bm D ρ S lo tm w) (g:Grow l aa ρ (Xs l c 0) lo tm S bq az S1):
  MJ P aa l x0 mt kt s0 w0 bm D ρ S1 bq az w:=by
 obtain⟨j1,j2,j3,j4,j5⟩:=hJ;have JE:Xs l c 0 x0:= .inl (by rw[hM.nC];omega);refine⟨?_,by rw[g.old bm j3];exact j2,Nat.lt_of_lt_of_le j3 g.nx,j4,λhd=>?_⟩
 ·rw[g.env mt λy hy hn gG=>?_]
  ·exact j1
  ·have:y=x0:=by
    by_cases e:y.i=x0.i
    ·exact hD.inj hy hM.mem e
    ·exact(hW.dst hy hM.mem e hM.dst gG).elim
   rw[this]at hn;exact hn JE
 ·obtain⟨loc,L,es,k1,k2,k3,k4,k5,k6,k7,k8⟩:=j5 hd;refine⟨loc,L,es,k1,k2,k3,λ⟨b,k,x,e1,e2,e3⟩=>?_,k5,k6,k7,k8.mono λx e NJ=>NJ.env (λ_ h=>h) λs hs=>g.env s λy hy hn gG=>hn (hX y hy (hs y hy gG))⟩;by_cases hb:b<S.nx
  ·rw[g.old b hb]at e1;exact k4 ⟨b,k,x,e1,e2,e3⟩
  ·rw[g.new b (by omega)]at e2;cases e2
theorem MJ.quiet {x:aE} {aj:Ren} {w':World} (hx:x∈l) (hne:x.i≠x0.i) (yR:aY x.o=false) (hD:dy P aa all l I) (hJ:MJ P aa l x0 mt kt s0 w0 bm D ρ S lo tm w) (hle:aK ρ aj) (hq:tP ρ w aj w'):
  MJ P aa l x0 mt kt s0 w0 bm (λi=>D i∨i=x.i) aj S lo tm w':=by
 obtain⟨j1,j2,j3,j4,j5⟩:=hJ;refine⟨j1,j2,j3,j4,λhd=>?_⟩;obtain⟨loc,L,es,k1,k2,k3,k4,k5,k6,k7,k8⟩:=j5 (hd.resolve_right λe=>hne e.symm);refine⟨loc,L,es,hle _ _ k1,Nat.lt_of_lt_of_le k2 hq.size,k3,λ⟨b,k,y,e1,e2,e3⟩=>?_,(k5.congr (hq.old _ k2)).mono hle,k6,λz=>?_,k8.mono λz e Kd=>Kd.env (λ_ h=> .inl h) λ_ _=>rfl⟩
 ·cases h:ρ b with
  |none=>have:=hq.new b y h e2;omega
  |some y'=>have:=hle b y' h;rw[e2]at this;cases this;exact k4 ⟨b,k,_,e1,h,e3⟩
 ·rw[k7];constructor
  ·rintro⟨h1,h2,h3⟩;exact⟨h1,h2,.inl h3⟩
  ·rintro⟨h1,h2,h3|h3⟩
   ·exact⟨h1,h2,h3⟩
   ·rw[hD.inj h1 hx h3,yR]at h2;cases h2
theorem MJ.wrote {c:Nat} {x:aE} {aj:Ren} {S1:AS} {bq:Lo} {az:T Value} {w1:World} {v:Value} (hD:dy P aa all l I) (hM:By P aa l x0 t mt kt) (hI:¬I x0) (hx:x∈l) (gV:kT x.r=true) (yR:aY x.o=false) (kW:¬D x.i)
  (h:St P aa nt all l E0 cx s0 w0 a0 (Xs l c l.length) D B ρ cs lo tm S a w) (qn:∀t,x.o.dst=some t->¬ ∃y∈l,y≠x∧y.o.dst=some t) (hJ:MJ P aa l x0 mt kt s0 w0 bm D ρ S lo tm w) (hS:aR ρ S w aj S1 w1)
  (gP:∀t,av aa bq az t=if x.o.dst=some t then some v else av aa lo tm t):MJ P aa l x0 mt kt s0 w0 bm (λi=>D i∨i=x.i) aj S1 bq az w1:=by
 have GK:kT x0.r=false:=by have dt:=hD.rd x0 hM.mem hI;rw[hM.op]at dt;obtain⟨ke,gU,dt⟩:=U dt;rw[<-Option.some.inj dt];rfl
 have JE:x0≠x:= λe=>by rw[e,gV]at GK;cases GK
 have Ke:Xs l c l.length x0:=by
  rcases Nat.eq_zero_or_pos c with h0|h0
  ·exact .inr ⟨by rw[hM.nC,h0],GK,(List.getElem?_eq_some_iff.1 (hD.mem hM.mem)).1⟩
  ·exact .inl (by rw[hM.nC];exact h0)
 have hle:=hS.le h.rel;have hJ':=hJ;obtain⟨j1,j2,j3,j4,j5⟩:=hJ;have DF:S1.h.get bm=none:=by
  by_cases hd:D x0.i
  ·obtain⟨loc,L,es,k1,k2,k3,k4,_⟩:=j5 hd;cases e:S1.h.get bm with
   |none=>rfl
   |some k=>exact((hS.frame loc.b k2 k4).2 ⟨bm,k,loc,e,hle _ _ k1,rfl⟩).elim
  ·have dg:=(lM hD hM hI h Ke hJ'.1 hd).1;rcases hS.ph bm j3 dg with e|e
   ·rw[e];exact j2
   ·exact e
 refine⟨?_,DF,Nat.lt_of_lt_of_le j3 hS.nx,j4,λhd=>?_⟩
 ·rw[gP,if_neg (λe=>qn mt e ⟨x0,hM.mem,JE,hM.dst⟩)];exact j1
 ·have hd:D x0.i:=hd.resolve_right λe=>JE (hD.inj hM.mem hx e);obtain⟨loc,L,es,k1,k2,k3,k4,k5,k6,k7,k8⟩:=j5 hd;obtain⟨f1,f2⟩:=hS.frame loc.b k2 k4;refine⟨loc,L,es,hle _ _ k1,Nat.lt_of_lt_of_le k2 hS.size,k3,f2,(k5.congr f1).mono hle,k6,λz=>?_,k8.mono λz e Kd=>Kd.env (λ_ h=> .inl h) λs hs=>?_⟩
  ·rw[k7];constructor
   ·rintro⟨h1,h2,h3⟩;exact⟨h1,h2,.inl h3⟩
   ·rintro⟨h1,h2,h3|h3⟩
    ·exact⟨h1,h2,h3⟩
    ·rw[hD.inj h1 hx h3,yR]at h2;cases h2
  ·rw[gP];by_cases e:x.o.dst=some s
   ·exact(kW (hs x hx e)).elim
   ·rw[if_neg e]
variable {F:Fence} {c:Nat}
theorem MJ.made (hF:eL F) (hD:dy P aa all l I) (hW:va all l) (hM:By P aa l x0 t mt kt) (hI:¬I x0) (kW:¬D x0.i) (fO:∀j,aw x0.m j=true->D j) (ei:∀y∈l,D y.i->∀j,aw y.m j=true->D j)
  (LQ:∀y∈l,aY y.o=true->D y.i->D x0.i) (wR:Xs l c l.length x0) (h:St P aa nt all l E0 cx s0 w0 a0 (Xs l c l.length) D B ρ cs lo tm S a w) (hJ:MJ P aa l x0 mt kt s0 w0 bm D ρ S lo tm w) {Q:Exit->Act->World->Prop} {N:Act->World->Prop}
  (hN:∀aj a' w',St P aa nt all l E0 cx s0 w0 a0 (Xs l c l.length) (λi=>D i∨i=x0.i) B aj cs lo tm S a' w'->MJ P aa l x0 mt kt s0 w0 bm (λi=>D i∨i=x0.i) aj S lo tm w'->N a' w'):wpOpIn F 0 P all Q x0.i N a w:=by
 have hx:=hM.mem;have dt:=hD.rd x0 hx hI;have cB:=p6 dt;rw[hM.op]at dt;obtain⟨ke,gU,dt⟩:=U dt;have hr:=(Option.some.inj dt).symm;have lx:ke.1=kt:=by
  obtain⟨e,he⟩:=hM.key;have:=fe gU;rw[he]at this;injection this with this
  injection this with h1 _
  exact h1.symm
 have gV:kT x0.r=false:=by rw[hr];rfl
 obtain⟨eQ,tm',v,dA,hd,ht⟩:=h.Fv x0 hx wR gV kW;have sR:∀t∈ey all.toList x0.o,∀v,av aa eQ tm' t=some v->ag ρ v (a.eval (.tmp t)):= λt hu v hv=>h.use hD hW ei hx kW fO ht hu hv;have eW:=kQ sR;have HH:∀c,x0.o.op≠.defer c:= λc e=>by rw[hM.op]at e;cases e
 obtain⟨dg,hB⟩:=lM hD hM hI h wR hJ.1 kW;obtain⟨j1,j2,j3,j4,_⟩:=hJ;unfold vb at dA;rw[hM.guard]at dA;unfold iW at dA;rw[hr]at dA cB;obtain⟨s1,HJ,hv,h2,h3,h4,h5⟩:=dA;obtain⟨k,hk,hm⟩:=cB eQ tm' s1 _ hv;obtain⟨s2,hs2,eu⟩:=U hv;have MM:s1.nx=bm:=by have:=(hd mt hM.dst).2;rw[j1]at this;cases eu;cases this;rfl
 have fE:k= .map kt [] 0:=by cases eu;have e1:=(AS.dO hk).2 s1.nx;have e2:=(AS.dO hs2).2 s1.nx;rw[if_pos rfl]at e1 e2;rw[e1]at e2;rw[<-lx];exact Option.some.inj e2
 subst fE;obtain⟨m,he,x,u,w',e1,e2,e3,e4,e5,e6,e7,e8,e9⟩:=hm ρ w a.eval h4 eW;rw[MM]at e8 e9;unfold wpOpIn;rw[hD.op x0 hx];simp only;have hw:Region.wanted x0.o (yielded all a.tmps)=true:=by unfold Region.wanted;rw[hM.guard]
 rw[if_pos hw];refine⟨λf _=>hF.fn f,?_⟩;rw[Oper.semAt_eq _ _ _ HH,he,aM e1];have eK:(ρ.put bm x) bm=some x:=by unfold Ren.put;rw[if_pos rfl]
 refine hN _ _ _ (h.real hD hW hx wR hd e8 (ik dg x) (h.rel.xP j3 dg j2 e3 e4) (h.xd.realize h.rel j4 e2 e3 e4 e5 e6 e7) λj b hb hj hn=>?_)
  ⟨j1,j2,j3,j4,λ_=>⟨x,[],[],eK,by omega,by rw[e2];exact h.xd.size,λ⟨b,k,y,f1,f2,f3⟩=>?_,e9,by simp,λz=>?_,.nil⟩⟩
 ·unfold Ren.put;rw[if_neg (λe=>by subst e;exact hj (h.bI _ _ _ hb hB))];exact hn
 ·unfold Ren.put at f2;split at f2
  ·rename_i e;subst e;rw[j2]at f1;cases f1
  ·have:=(h.rel.blk b k y f1 f2).1;omega
 ·simp only[List.not_mem_nil,false_iff];rintro⟨g1,g2,g3|g3⟩
  ·exact kW (LQ z g1 g2 g3)
  ·rw[hD.inj g1 hx g3,show aY x0.o=false by unfold aY;rw[hM.op]]at g2;cases g2
theorem MJ.put (hF:eL F) (hD:dy P aa all l I) (hW:va all l) (hM:By P aa l x0 t mt kt) (Ka:Rel P cx s0 w0) {x:aE} (hx:x∈l) (yR:aY x.o=true) (kW:¬D x.i) (fO:∀j,aw x.m j=true->D j) (ei:∀y∈l,D y.i->∀j,aw y.m j=true->D j)
  (wR:Xs l c l.length x) (h:St P aa nt all l E0 cx s0 w0 a0 (Xs l c l.length) D B ρ cs lo tm S a w) (hJ:MJ P aa l x0 mt kt s0 w0 bm D ρ S lo tm w) {Q:Exit->Act->World->Prop} {N:Act->World->Prop}
  (hN:∀aj a' w',St P aa nt all l E0 cx s0 w0 a0 (Xs l c l.length) (λi=>D i∨i=x.i) B aj cs lo tm S a' w'->MJ P aa l x0 mt kt s0 w0 bm (λi=>D i∨i=x.i) aj S lo tm w'->N a' w'):wpOpIn F 0 P all Q x.i N a w:=by
 obtain⟨q,hq,rfl,rfl,ee,K0,Qd,hr⟩:=hM.look x hx yR;obtain⟨kc,vo,og,od,oo,Ry,Qe⟩:=lL hq;have Rz:=tt Ry;have gV:kT x.r=false:=by rw[hr];rfl
 obtain⟨eQ,tm',v,dA,hd,ht⟩:=h.Fv x hx wR gV kW;have sR:∀t∈ey all.toList x.o,∀v,av aa eQ tm' t=some v->ag ρ v (a.eval (.tmp t)):= λt hu v hv=>h.use hD hW ei hx kW fO ht hu hv;have eW:=kQ sR;have HH:∀c,x.o.op≠.defer c:= λc e=>by rw[oo]at e;cases e
 unfold vb at dA;rw[og]at dA;unfold iW at dA;rw[hr]at dA;obtain⟨s1,hv⟩:=dA;obtain⟨vv,Qf,_⟩:=U hv;have gP:∀s,(∀y∈l,y.o.dst=some s->aw x.m y.i=true)->av aa lo tm s=av aa eQ tm' s:= λs hs=>by
  by_cases hex:∃y∈l,y.o.dst=some s
  ·obtain⟨y,hy,gG⟩:=hex;exact((ht s).1 y hy gG (jT hD hx hy (hs y hy gG))).symm
  ·rw[(ht s).2 λy hy gG=>(hex ⟨y,hy,gG⟩).elim,h.uT s λy hy _ gG=>hex ⟨y,hy,gG⟩]
 have OL:q.v lo tm=some vv:=by rw[<-Qf];exact A9 Qe λs e=>gP s (Qd _ _ _ s (by rw[oo,e]))
 have Nt:ag ρ vv (a.eval vo):=eW vo q.v vv (by rw[oo];simp[Op.operands]) Qe Qf;obtain⟨j1,j2,j3,j4,j5⟩:=hJ;obtain⟨loc,L,es,k1,k2,k3,k4,k5,k6,k7,k8⟩:=j5 (fO _ K0);have GI:ag ρ (.map (some bm)) (a.eval (.tmp q.m)):=sR q.m (A7 (by rw[oo];simp[Op.operands])) _ (by
  rw[<-gP q.m λy hy gG=>?_]
  ·exact j1
  ·have:y=x0:=by
    by_cases e:y.i=x0.i
    ·exact hD.inj hy hM.mem e
    ·exact(hW.dst hy hM.mem e hM.dst gG).elim
   rw[this];exact K0)
 have RA:a.eval (.tmp q.m)= .map (some loc.b):=by generalize a.eval (.tmp q.m)=u at GI;cases GI with|map hy=>rw[k1]at hy;cases hy;rfl
 obtain⟨e,gU⟩:=hM.key;obtain⟨ents,hh,eI,iw⟩:=k5;have dg:∀p∈es,p.1≠q.k:= λp hp=>by obtain⟨z,hz,qz,RB,RC,_⟩:=F2.bZ k8 p hp;obtain⟨z1,z2,z3⟩:=(k7 z).1 hz;rw[RC];exact hM.apart z z1 x hx z2 yR (λe=>kW (by rw[<-e];exact z3)) qz q RB hq
 have hrun:=zU (w:=w) (x':=a.eval vo) gU hh eI ee dg;unfold wpOpIn;rw[hD.op x hx];simp only;have hw:Region.wanted x.o (yielded all a.tmps)=true:=by unfold Region.wanted;rw[og]
 rw[if_pos hw];refine⟨λf _=>hF.fn f,?_⟩;have LR:(execOp a.eval x.o).run P w= .ok .skip {w with heap:=w.heap.setIfInBounds loc.b (.map (ents.push {key:=q.k,val:=a.eval vo,born:=es.length}) (es.length+1))}:=by unfold execOp;rw[oo];have hk:a.eval (.const kc)=q.k:=Rz.symm;show(do Instr.mapUpdate q.t (a.eval (.tmp q.m)) (a.eval (.const kc)) (a.eval vo);pure Next.skip:Sem Next).run P w=_;rw[RA,hk];exact xI hrun
 rw[Oper.semAt_eq _ _ _ HH,LR];refine hN _ _ _ (h.real hD hW hx wR (λd e=>by rw[od]at e;cases e) (.tuple .nil:ag ρ (.tuple #[]) (.tuple #[])) (.refl _) (h.rel.other k4 (λi=>by simp[World.cell?,hh])) (h.xd.other Ka k3) λ_ _ _ _ e=>e)
  ⟨j1,j2,j3,j4,λ_=>⟨loc,L++ [x],es++ [(q.k,vv,0)],k1,by simpa using k2,k3,k4,⟨ents.push {key:=q.k,val:=a.eval vo,born:=es.length},by simp[k2],zV eI ee dg Nt,by rw[List.length_append];exact iw.push rfl⟩,?_,λz=>?_,F2.append (.cons ⟨q,hq,rfl,OL,λT m k s e y hy gG=> .inl (fO _ (Qd T m k s e y hy gG))⟩ .nil) (k8.mono λz e Kd=>Kd.env (λ_ h=> .inl h) λ_ _=>rfl)⟩⟩
 ·rw[List.nodup_append];refine⟨k6,by simp,λz hz y hy=>?_⟩;simp only[List.mem_singleton]at hy;subst hy;intro e;subst e;exact kW ((k7 z).1 hz).2.2
 ·simp only[List.mem_append,List.mem_singleton,k7];constructor
  ·rintro(⟨h1,h2,h3⟩|rfl)
   ·exact⟨h1,h2,.inl h3⟩
   ·exact⟨hx,yR,.inr rfl⟩
  ·rintro⟨h1,h2,h3|h3⟩
   ·exact .inl ⟨h1,h2,h3⟩
   ·exact .inr (hD.inj h1 hx h3)
end
theorem Ba (f:aE->aE):∀l,qc f l=l.map f
 | []=>rfl
 |x::l=>by show f x::qc f l=_;rw[Ba f l];rfl
theorem cS (aa:Nat) (x:aE):(aC aa x).i=x.i∧(aC aa x).m=x.m∧(aC aa x).o=x.o:=by unfold aC;split<;>exact⟨rfl,rfl,rfl⟩
theorem ot {aa:Nat} {o:Oper} {q:uO} (h:cW aa o=some q):aY o=true:=by obtain⟨c,v,_,_,ho,_⟩:=lL h;unfold aY;rw[ho]
theorem EF {aa:Nat} {all:Array Oper} {l0:List aE} (h:dy P aa all l0 (λ_=>False)) (hg:∀x∈l0,aY x.o=true->∃q,cW aa x.o=some q):dy P aa all (l0.map (aC aa)) (λx=>aY x.o=true):=by
 have eb:∀x∈l0.map (aC aa),∃y∈l0,x=aC aa y∧x.i=y.i∧x.m=y.m∧x.o=y.o:= λx hx=>by obtain⟨y,hy,rfl⟩:=List.mem_map.1 hx;obtain⟨f1,f2,f3⟩:=cS aa y;exact⟨y,hy,rfl,f1,f2,f3⟩
 have ND:∀y∈l0,aC aa y∈l0.map (aC aa):= λy hy=>List.mem_map.2 ⟨y,hy,rfl⟩;refine⟨λi x hx=>?_,by simpa using h.len,λx hx=>?_,λx hx hi=>?_,λx hx hi=>?_,λx hx j hj=>?_,λx hx y hy hb j hj=>?_,λx hx e he hb=>?_,λx hx j hj=>?_⟩
 ·rw[List.getElem?_map]at hx;cases e:l0[i]? with
  |none=>rw[e]at hx;cases hx
  |some y=>rw[e]at hx;cases hx;rw[(cS aa y).1];exact h.at_ i y e
 ·obtain⟨y,hy,_,f1,f2,f3⟩:=eb x hx;rw[f1,f3];exact h.op y hy
 ·obtain⟨y,hy,e,f1,f2,f3⟩:=eb x hx;rw[f3]at hi⊢;have:aC aa y=y:=by
   unfold aC;split
   ·rename_i q hq;exact(hi (ot hq)).elim
   ·rfl
  rw[e,this];exact h.rd y hy (λh=>h)
 ·obtain⟨y,hy,e,f1,f2,f3⟩:=eb x hx;rw[f3]at hi;obtain⟨q,hq⟩:=hg y hy hi;rw[e];unfold aC;rw[hq];exact⟨_,rfl⟩
 ·obtain⟨y,hy,e,f1,f2,f3⟩:=eb x hx;rw[f1];rw[f2]at hj;exact h.below y hy j hj
 ·obtain⟨x',eJ,e,f1,f2,f3⟩:=eb x hx;obtain⟨y',RD,e',g1,g2,g3⟩:=eb y hy;rw[f2,g1]at hb;rw[g2]at hj;rw[f2];exact h.trans x' eJ y' RD hb j hj
 ·obtain⟨y,hy,_,f1,f2,f3⟩:=eb x hx;rw[f3]at he;rw[f2];exact h.dir y hy e he hb
 ·obtain⟨y,hy,_,f1,f2,f3⟩:=eb x hx;rw[f2]at hj;rw[f3];obtain⟨e,he,hb,RE⟩:=h.back y hy j hj;refine⟨e,he,hb,RE.imp id λ⟨z,hz,h1,h2⟩=>⟨aC aa z,ND z hz,by rw[(cS aa z).1];exact h1,by rw[(cS aa z).2.1];exact h2⟩⟩
theorem pq:∀ {l:List aE} {x:aE} {t m:Nat},zj l=some (x,t,m)->x∈l∧xi x.o=some (t,m)
 | [],x,t,m,h=>by cases h
 |y::l,x,t,m,h=>by
  have h:(match xi y.o with|some q=>some (y,q.1,q.2)|none=>zj l)=some (x,t,m):=h;split at h
  ·rename_i q hq;cases h;exact⟨by simp,hq⟩
  ·have:=pq h;exact⟨by simp[this.1],this.2⟩
theorem zW {o:Oper} {t m:Nat} (h:xi o=some (t,m)):o.guard=none∧o.dst=some m∧o.op= .makeMap t none:=by
 unfold xi at h;split at h
 ·rename_i h1 h2 h3;cases h;exact⟨h1,h2,h3⟩
 ·cases h
theorem gK {aa:Nat}:∀ {l:List aE},nX (bg aa l)=true->l.Pairwise λx y=>∀q q',cW aa x.o=some q->cW aa y.o=some q'->q.k≠q'.k
 | [],_=> .nil
 |x::l,h=>by
  have hl:bg aa (x::l)=match cW aa x.o with|some q=>q::bg aa l|none=>bg aa l:=rfl
  rw[hl]at h;have eb:∀y∈l,∀q,cW aa y.o=some q->q∈bg aa l:=by
   clear h hl;induction l with
   |nil=>intro y hy;cases hy
   |cons z l ih=>
    intro y hy q hq;have hl:bg aa (z::l)=match cW aa z.o with|some q=>q::bg aa l|none=>bg aa l:=rfl
    rw[hl];rcases List.mem_cons.1 hy with rfl|hy
    ·rw[hq];simp
    ·have:=ih y hy q hq;split<;>simp[this]
  cases e:cW aa x.o with
  |none=>rw[e]at h;exact .cons (λy hy q q' h1=>by rw[e]at h1;cases h1) (gK h)
  |some q=>
   rw[e]at h;have h:ab (sG (λy=>Ds (tw 8 q.k y.k)) (bg aa l)) (nX (bg aa l)) false=true:=h;obtain⟨h1,h2⟩:=ah h;refine .cons (λy hy q1 q2 e1 e2=>?_) (gK h2);rw[e]at e1;cases e1;have:=eV h1 q2 (eb y hy q2 e2);unfold Ds at this;split at this
   ·rename_i hp;intro he;have:=(je 8 q.k q2.k false hp).2 he;cases this
   ·cases this
theorem ou {aa:Nat} {lo:Lo} {tm:T Value}:∀ {l:List aE} {es:List (Value×Value×Nat)},(∀x∈l,aY x.o=true->∃q,cW aa x.o=some q)->Ak (bg aa l) lo tm=some es->
  F2 (λx e=>∃q,cW aa x.o=some q∧e.1=q.k∧q.v lo tm=some e.2.1∧e.2.2=0) ((l.map (aC aa)).filter λx=>aY x.o) es∧(bg aa l).length=es.length
 | [],es,_,h=>by cases h;exact⟨.nil,rfl⟩
 |x::l,es,hg,h=>by
  have hl:bg aa (x::l)=match cW aa x.o with|some q=>q::bg aa l|none=>bg aa l:=rfl
  rw[hl]at h⊢;have MI:∀x∈l,aY x.o=true->∃q,cW aa x.o=some q:= λy hy=>hg y (by simp[hy]);have ho:=(cS aa x).2.2;cases e:cW aa x.o with
  |none=>
   rw[e]at h;have hn:aY (aC aa x).o=false:=by
    rw[ho];cases hi:aY x.o with
    |false=>rfl
    |true=>obtain⟨q,hq⟩:=hg x (by simp) hi;rw[e]at hq;cases hq
   obtain⟨i1,i2⟩:=ou MI h;rw[List.map_cons,List.filter_cons,hn];exact⟨i1,i2⟩
  |some q=>
   rw[e]at h;have h:ob (q.v lo tm) (λv=>ob (Ak (bg aa l) lo tm) λr=>some ((q.k,v,0)::r))=some es:=h;replace h:=U h;obtain⟨v,hv,h⟩:=h;replace h:=U h;obtain⟨r,hr,h⟩:=h;cases h;have hn:aY (aC aa x).o=true:=by rw[ho];exact ot e
   obtain⟨i1,i2⟩:=ou MI hr;rw[List.map_cons,List.filter_cons,hn];exact⟨.cons ⟨q,by rw[ho];exact e,rfl,hv,rfl⟩ i1,by simp[i2]⟩
theorem F2.both {α β γ:Type} {R1:α->β->Prop} {R2:α->γ->Prop} {T:β->γ->Prop} (hT:∀x p q,R1 x p->R2 x q->T p q):∀ {l:List α} {m:List β} {n:List γ},F2 R1 l m->F2 R2 l n->F2 T m n
 |_,_,_,.nil,h=>by cases h;exact .nil
 |_,_,_,.cons a b,h=>by cases h with|cons c d=>exact .cons (hT _ _ _ a c) (F2.both hT b d)
theorem Rel.LS {ρ:Ren} {s s':AS} {w:World} (hr:Rel P ρ s w) (hs:∀j k,s'.h.get j=some k->s.h.get j=some k) (hn:s'.nx=s.nx) (hl:s'.ao=s.ao):Rel P ρ s' w:=
  ⟨λa ha=>hr.dM a (by rw[<-hn];exact ha),λa ha=>(by
    cases e:s'.h.get a with
    |none=>rfl
    |some k=>have:=hs a k e;rw[hr.top a (by rw[<-hn];exact ha)]at this;cases this),
   λa k x e e'=>hr.blk a k x (hs a k e) e',by rw[hn,hl];exact hr.ao,λa a' k k' x x' hne e1 e2 r1 r2 hb=>hr.aX a a' k k' x x' hne (hs _ _ e1) (hs _ _ e2) r1 r2 hb,hr.gl.of (Nat.le_refl _) λb _ hn=>⟨rfl,λ⟨j,k,y,e1,e2,e3⟩=>hn ⟨j,k,y,hs _ _ e1,e2,e3⟩⟩⟩
theorem Rel.Jd {ρ:Ren} {s s':AS} {w:World} {b:Nat} {k:Blk} {x:Loc} (hr:Rel P ρ s w) (hs:s.set b (some k)=some s') (dg:s.h.get b=none) (hx:ρ b=some x) (hlt:x.b<w.heap.size) (Fe:¬aI ρ s x.b) (hb:bX P ρ x w k) (iw:b<s.nx) (OM:∀i,w.cell? ⟨x.b,i,none⟩=none):Rel P ρ s' w:=by
 obtain⟨hnx,hg⟩:=AS.cD hs;refine⟨λa ha=>hr.dM a (by omega),λa ha=>by rw[hg,if_neg (by omega)];exact hr.top a (by omega),λa k' y e e'=>?_,by rw[hnx,(AS.aT hs).1];exact hr.ao,λa a' k1 k2 x1 x2 hne e1 e2 r1 r2 jE=>?_,λg gl vs g1 g2=>?_⟩
 rotate_right
 ·obtain⟨a,b',c⟩:=hr.gl g gl vs g1 g2;refine⟨a,λ⟨j,k',y,e1,e2,e3⟩=>?_,c⟩;rw[hg]at e1;by_cases hj:j=b
  ·rw[hj,hx]at e2;cases e2;exact hr.gl.ne OM g1 g2 e3
  ·rw[if_neg hj]at e1;exact b' ⟨j,k',y,e1,e2,e3⟩
 ·rw[hg]at e;by_cases ha:a=b
  ·subst ha;rw[if_pos rfl]at e;cases e;rw[hx]at e';cases e';exact⟨hlt,hb⟩
  ·rw[if_neg ha]at e;exact hr.blk a k' y e e'
 ·rw[hg]at e1 e2;by_cases ha:a=b
  ·subst ha;rw[hx]at r1;cases r1;rw[if_neg (Ne.symm hne)]at e2;exact(Fe ⟨a',k2,x2,e2,r2,jE.symm⟩).elim
  ·rw[if_neg ha]at e1;by_cases dp:a'=b
   ·subst dp;rw[hx]at r2;cases r2;exact(Fe ⟨a,k1,x1,e1,r1,jE⟩).elim
   ·rw[if_neg dp]at e2;exact hr.aX a a' k1 k2 x1 x2 hne e1 e2 r1 r2 jE
theorem aR.Ej {cx ρ:Ren} {s0 s s':AS} {w0 w:World} {b:Nat} {k:Option Blk} (hS:aR cx s0 w0 ρ s w) (hs:s.set b k=some s') (hb:s0.nx<=b) (kB:s0.ao<=s0.nx) (hH:∀c,c<w0.heap.size->aI ρ s' c->aI ρ s c):aR cx s0 w0 ρ s' w:=by
 obtain⟨hnx,hg⟩:=AS.cD hs;refine⟨hS.jj,by rw[hnx];exact hS.nx,hS.tape,hS.os,hS.out,hS.size,λc hc hn=>⟨(hS.frame c hc hn).1,λh=>(hS.frame c hc hn).2 (hH c hc h)⟩,λa ha hn=>?_,hS.lp,by rw[(AS.aT hs).1];exact hS.ao,λa ha=>?_,hS.fW⟩
 ·rw[hg,if_neg (by omega)];exact hS.ph a ha hn
 ·rw[hg,if_neg (by omega)];exact hS.low a ha
section
variable {aa nt:Nat} {all:Array Oper} {l:List aE} {I:aE->Prop} {E0:Nat->Option Value} {cx:Ren} {s0:AS} {w0:World} {a0:Act} {D:Nat->Prop} {B:Nat->Nat->Prop} {ρ:Ren} {cs:List sF} {lo:Lo} {tm:T Value} {S:AS} {a:Act} {w:World} {ev:Ev}
variable {x':bY} {tm':T Value} {s':AS}
theorem St.forget {X:aE->Prop} {S2:AS} {bm:Nat} (h:St P aa nt all l E0 cx s0 w0 a0 X D B ρ cs lo tm S a w) (hs:S.set bm none=some S2) (hb:s0.nx<=bm) (kB:s0.ao<=s0.nx):St P aa nt all l E0 cx s0 w0 a0 X D B ρ cs lo tm S2 a w:=by
 obtain⟨hnx,hg⟩:=AS.cD hs;have dh:∀j k,S2.h.get j=some k->S.h.get j=some k:= λj k e=>by
  rw[hg]at e;split at e
  ·cases e
  ·exact e
 refine⟨h.tk,h.uT,λx hx hX hw hd=>?_,λi b cr=>by rw[hnx];exact h.bB i b cr,h.bI,h.dX,h.md,h.m0,h.e0,h.rel.LS dh hnx (AS.aT hs).1,h.xd.Ej hs hb kB λc _ ⟨j,k,y,e1,e2,e3⟩=>⟨j,k,y,dh j k e1,e2,e3⟩,h.df,h.sz⟩;obtain⟨eQ,tm',v,r1,r2,r3⟩:=h.Fv x hx hX hw hd;refine⟨eQ,tm',v,r1.mono (λ_ h=>h) (λ_ h=>h) (λb cr hlt dg=>⟨by rw[hnx];exact hlt,dg,?_⟩),r2,r3⟩;rw[hg];split
 ·exact .inr rfl
 ·exact .inl rfl
theorem zX {kf:K} {m:cu} {Gz:Nat} (hD:dy P aa all l I) (hW:va all l) {y4:List mj} {last:List DR} (kU:jH aa nt all.toList (aJ l) l (aJ l) 0=some y4) (fK:cj aa nt all.toList (aJ l) (aJ l).length l=some last)
  (h:St P aa nt all l E0 cx s0 w0 a0 (Xs l 0 0) D B ρ cs lo tm S a w) (hk:lF ev y4 last kf (jc m Gz) cs lo tm S= .code x' tm' s'):
  ∃B1 dB bq az S1 S2 bm,St P aa nt all l E0 cx s0 w0 a0 (Xs l 0 l.length) D B1 ρ dB bq az S1 a w∧m bq az=some (.map (some bm))∧Gz<=bm∧S1.set bm none=some S2∧fG 0 S2 dB=true∧Iu P aa nt all l ev last kf (aJ l) 0 dB bq az S2 (.code x' tm' s'):=by
 have forget:∀ {kc:KC} {dB:List sF} {bq:Lo} {az:T Value} {S1:AS},jc m Gz kc dB bq az S1= .code x' tm' s'->∃bm S2,m bq az=some (.map (some bm))∧Gz<=bm∧S1.set bm none=some S2∧kc dB bq az S2= .code x' tm' s':=by
  intro kc dB bq az S1 hf;unfold jc at hf;split at hf
  ·rename_i b hb;rw[ai]at hf;split at hf
   ·rename_i hle;cases e:S1.set b none with
    |none=>rw[e]at hf;cases hf
    |some S2=>rw[e]at hf;exact⟨b,S2,hb,Nat.le_of_ble_eq_true hle,e,hf⟩
   ·cases hf
  ·cases hf
 cases hw:aJ l with
 |nil=>
  rw[hw]at kU;cases kU;have fE:hZ ev last (jc m Gz (eC 0 λ_=>kf)) cs lo tm S= .code x' tm' s':=hk;have Je:cj aa nt all.toList (aJ l) 0 l=some last:=by rw[hw]at fK⊢;exact fK
  obtain⟨B1,dB,bq,az,S1,h1,_,nD⟩:=jh hD hW l 0 (by simp) last Je B cs lo tm S h fE;obtain⟨bm,S2,f1,f2,f3,f4⟩:=forget nD;obtain⟨e1,e2⟩:=kR (out:=(x',tm',s')) f4;exact⟨B1,dB,bq,az,S1,S2,bm,h1,f1,f2,f3,e1,e2⟩
 |cons x rest=>
  rw[hw]at kU;have ed:ob (cj aa nt all.toList (aJ l) 0 l) (λpre=>ob (kX aa nt x.o.dst) λd=>ob (cO aa [] all.toList x.o d (nG x.r d)) λcw=>ar (Nat.succ 0) λn=>ob (jH aa nt all.toList (aJ l) l rest n) λr=>some (⟨pre,cw⟩::r))=some y4:=by rw[hw];exact kU
  obtain⟨pre,fO,ed⟩:=U ed;obtain⟨d,hd,ed⟩:=U ed;obtain⟨cw,HK,ed⟩:=U ed;rw[ak]at ed;obtain⟨r,hr,ed⟩:=U ed;cases ed;have fE:hZ ev pre (jc m Gz (eC 0 λcs=>eg ev cw (cP ev r last kf 1 cs))) cs lo tm S= .code x' tm' s':=hk;obtain⟨B1,dB,bq,az,S1,h1,_,nD⟩:=jh hD hW l 0 (by simp) pre fO B cs lo tm S h fE;obtain⟨bm,S2,f1,f2,f3,f4⟩:=forget nD;obtain⟨e1,e2⟩:=kR (out:=(x',tm',s')) f4;exact⟨B1,dB,bq,az,S1,S2,bm,h1,f1,f2,f3,e1,d,cw,r,hd,HK,hr,e2⟩
end
theorem EG {aa nt id:Nat} {ops:Array Oper} {f:CF} (hm:P.follows .mixedOrders=true) (h:mC P aa nt ops.toList=some f):cV P aa nt (.region id ops true) f:=by
 unfold mC at h;obtain⟨ms,Fb,h⟩:=U h;obtain⟨l0,hl0,h⟩:=U h;obtain⟨⟨x0,t,mt⟩,wP,h⟩:=U h;obtain⟨ke,gU,h⟩:=U h;obtain⟨xt,h⟩:=ae h;obtain⟨tC,h⟩:=ae h;obtain⟨MN,h⟩:=ae h;simp only[Ba]at MN h;obtain⟨Fx,h⟩:=ae h;obtain⟨NI,h⟩:=ae h;obtain⟨st,kU,h⟩:=U h;obtain⟨last,fK,h⟩:=U h;obtain⟨m,NK,h⟩:=U h;cases h;simp only at xt MN NK gU;have RF:=A6 Fb hl0;have xt:=eV xt;have yI:∀x∈l0,aY x.o=true->∃q,cW aa x.o=some q:= λx hx hi=>by
  have:=xt x hx;unfold vK at this;split at this
  ·rename_i q hq;exact⟨q,hq⟩
  ·rw[hi]at this;cases this
 have hD:=EF RF yI;have hW:=Ef hD Fx NI;obtain⟨JE,sS⟩:=pq wP;obtain⟨og,od,oo⟩:=zW sS;have Iy:aY x0.o=false:=by unfold aY;rw[oo]
 have ON:aC aa x0=x0:=by
  unfold aC;split
  ·rename_i q hq;rw[ot hq]at Iy;cases Iy
  ·rfl
 have Bz:x0∈l0.map (aC aa):=List.mem_map.2 ⟨x0,JE,ON⟩;have gj:∀x∈l0.map (aC aa),∃y∈l0,x=aC aa y∧x.i=y.i∧x.m=y.m∧x.o=y.o:= λx hx=>by obtain⟨y,hy,rfl⟩:=List.mem_map.1 hx;obtain⟨f1,f2,f3⟩:=cS aa y;exact⟨y,hy,rfl,f1,f2,f3⟩
 have hkey:=fe gU;have GL:By P aa (l0.map (aC aa)) x0 t mt ke.1:=by
  refine⟨Bz,og,od,oo,Nat.eq_of_beq_eq_true MN,⟨_,hkey⟩,λx hx hi=>?_,λx hx y hy NL JB hne q q' hq yL=>?_⟩
  ·obtain⟨y,hy,e,f1,f2,f3⟩:=gj x hx;rw[f3]at hi;obtain⟨q,hq⟩:=yI y hy hi;have hg:=xt y hy;unfold vK at hg;rw[hq]at hg;obtain⟨g1,hg⟩:=ah hg;obtain⟨g2,hg⟩:=ah hg;obtain⟨g3,hg⟩:=ah hg;obtain⟨g4,g5⟩:=ah hg;refine⟨q,by rw[f3];exact hq,Nat.eq_of_beq_eq_true g1,Nat.eq_of_beq_eq_true g2,g3,by rw[f2];exact g4,λT m k s ho z hz xe=>?_,?_⟩
   ·rw[f3]at ho;unfold AO at g5;rw[ho]at g5;obtain⟨z',Nq,_,z1,z2,z3⟩:=gj z hz;have:=eV g5 z' Nq;rw[z3]at xe;rw[xe]at this;simp only[Nat.beq_refl,bF]at this;rw[f2,z1];exact this
   ·rw[e];unfold aC;rw[hq]
  ·obtain⟨x1,RG,e1,f1,f2,f3⟩:=gj x hx;obtain⟨y1,RH,e2,g1,g2,g3⟩:=gj y hy;rw[f3]at hq;rw[g3]at yL;have hp:=List.pairwise_iff_getElem.1 (gK tC);obtain⟨i,hi,rfl⟩:=List.getElem_of_mem RG;obtain⟨j,hj,rfl⟩:=List.getElem_of_mem RH;rcases Nat.lt_trichotomy i j with hlt|heq|hlt
   ·exact hp i j hi hj hlt q q' hq yL
   ·subst heq;exact(hne (e1.trans e2.symm)).elim
   ·exact(hp j i hj hi hlt q' q yL hq).symm
 have HN:¬(aY x0.o=true):=by rw[Iy];simp
 have GK:kT x0.r=false:=by have dt:=hD.rd x0 Bz HN;rw[oo]at dt;obtain⟨Tf,_,dt⟩:=U dt;rw[<-Option.some.inj dt];rfl
 rw[aZ]at fK;intro ev hev F hF ρ tm s a w x tm' s' hr hE n0 eR hM hL hR Q hQ;have hr:lF ev st last (H8 m ke.1 (bg aa l0)) (jc m s.nx) [] .nil tm s= .code x tm' s':=hr;refine wpIn_region_any hm ?_;have eT:Rel P ρ s {w with drawn:=w.drawn+1}:=hR.of_heap rfl;have h0:St P aa nt ops (l0.map (aC aa)) (av aa .nil tm) ρ s w a (Xs (l0.map (aC aa)) 0 0) (λ_=>False) (λ_ _=>False) ρ [] .nil tm s a {w with drawn:=w.drawn+1}:=by
  refine⟨hE.tk,λt _=>rfl,λy _ hX _ _=>?_,λ_ _ h=>h.elim,λ_ _ _ h=>h.elim,λ_ _ h=>h.elim,λ_ _ h=>h.elim,λ_ _=>rfl,λt v hv=>?_,eT,.of_heap rfl rfl rfl rfl,rfl,hE.size⟩
  ·rcases hX with h|⟨_,_,h⟩<;>omega
  ·unfold av at hv;rw[ai]at hv;split at hv
   ·exact hE.env t v hv
   ·cases hv
 obtain⟨B1,dB,bq,az,S1,S2,bm,h1,GI,MM,BA,oR,lf⟩:=zX hD hW kU fK h0 hr;have OO:Xs (l0.map (aC aa)) 0 (l0.map (aC aa)).length x0:= .inr ⟨Nat.eq_of_beq_eq_true MN,GK,(List.getElem?_eq_some_iff.1 (hD.mem Bz)).1⟩;rw[gx NK]at GI;obtain⟨_,hBm⟩:=lM hD GL HN h1 OO GI (λh=>h);have OP:=(h1.bB _ _ hBm).1;have h2:=h1.forget BA MM hR.ao;obtain⟨q1,q2⟩:=AS.cD BA;have RI:MJ P aa (l0.map (aC aa)) x0 mt ke.1 s w bm (λ_=>False) ρ S2 bq az {w with drawn:=w.drawn+1}:=⟨GI,by rw[q2,if_pos rfl],by rw[q1];exact OP,MM,λh=>h.elim⟩
 refine xQ (J:=MJ P aa (l0.map (aC aa)) x0 mt ke.1 s w bm) (Sp:= λx=>aY x.o=true∨x.i=x0.i) hF hev hD hW fK (λD B ρ cs lo tm S a' w' hall h hJ hk=>?_) (λ_ _ h=> .inl h) (λx hx iu=>?_)
  (λD c ρ S lo tm w bq az S1 hc hX hJ g=>hJ.grow hD hW GL hc hX g)
  (λD ρ S lo tm w x aj w' hx iu hJ hle hq=>hJ.quiet hx (λe=>iu (.inr e)) (by cases e:aY x.o with|false=>rfl|true=>exact(iu (.inl e)).elim) hD hle hq)
  (λc D B ρ cs lo tm S a w x N hx iu kW fO ei wR h hJ hN=>?_)
  (λc D B ρ cs S lo tm a w x aj S1 bq az w1 v hx gV kW h qn KY hJ de dq gP=>hJ.wrote hD GL HN hx gV (by
   cases e:aY x.o with
   |false=>rfl
   |true=>obtain⟨q,_,_,_,_,_,_,hr⟩:=GL.look x hx e;rw[hr]at gV;cases gV) kW h qn dq gP)
  ops.size (Array.replicate ops.size false) _ B1 ρ dB bq az S2 a _ [] (aJ (l0.map (aC aa))) (by simp) (λi=>?_) (λ_ _ h=>h.elim) ?_ rfl (λ_ h=>by cases h) (λ_ _ h=>h) h2 RI oR lf
 ·
  obtain⟨j1,j2,j3,j4,j5⟩:=hJ;obtain⟨loc,L,es,k1,k2,k3,k4,k5,k6,k7,k8⟩:=j5 (hall x0 Bz);unfold H8 at hk;rw[gx NK,j1]at hk;simp only at hk;cases hes:Ak (bg aa l0) lo tm with
  |none=>rw[hes]at hk;cases hk
  |some NM=>
   rw[hes]at hk;simp only at hk;cases hs:S.set bm (some (.map ke.1 NM (len (bg aa l0))))with
   |none=>rw[hs]at hk;cases hk
   |some s1=>
    rw[hs]at hk;cases hk;obtain⟨i1,i2⟩:=ou yI hes;have dR:((l0.map (aC aa)).filter λx=>aY x.o).Nodup:=by have hs:(l0.map (aC aa)).Nodup:=(uo hD).imp (λ {x y:aE} (h:x.i<y.i)=>(λe=>by subst e;omega:x≠y));exact hs.filter _
    have Cx:L.Perm ((l0.map (aC aa)).filter λx=>aY x.o):=(List.perm_ext_iff_of_nodup k6 dR).2 λz=>by rw[k7,List.mem_filter];exact⟨λ⟨z1,z2,_⟩=>⟨z1,z2⟩,λ⟨z1,z2⟩=>⟨z1,z2,hall z z1⟩⟩
    obtain⟨bc,p1,p2⟩:=k8.Hj Cx;obtain⟨ents,hh,eI,iw⟩:=k5;have hz:F2 (λp q=>p.1=q.1∧p.2.1=q.2.1∧q.2.2=0) bc NM:=F2.both (λx p q ⟨q1,a1,a2,a3,_⟩ ⟨q2,b1,b2,b3,b4⟩=>by rw[a1]at b1;cases b1;rw[a3]at b3;exact⟨a2.trans b2.symm,Option.some.inj b3,b4⟩) p2 i1
    have hlen:len (bg aa l0)=es.length:=by rw[aZ,i2,<-hz.length,p1.length_eq]
    have J8:bX P ρ loc w' (.map ke.1 NM (len (bg aa l0))):=by rw[hlen];exact⟨ents,hh,(eI.LP p1).zero hz,iw⟩
    have hrel:=h.rel.Jd hs j2 k1 k2 k4 J8 j3 (λi=>by simp[World.cell?,hh]);have nH:=h.xd.Ej hs j4 hR.ao λc hc ⟨j,k,y,e1,e2,e3⟩=>by
     rw[(AS.cD hs).2]at e1;split at e1
     ·rename_i e;subst e;rw[k1]at e2;cases e2;have:w.heap.size<=loc.b:=k3;have hc:c<w.heap.size:=hc;omega
     ·exact⟨j,k,y,e1,e2,e3⟩
    exact hQ ρ a' w' (h.Hh hall) (by rw[h.df];exact hM.step nH) hrel nH
 ·rcases iu with hi|hi
  ·obtain⟨q,_,_,_,_,_,_,hr⟩:=GL.look x hx hi;rw[hr];rfl
  ·rw[hD.inj hx Bz hi];exact GK
 ·by_cases hi:aY x.o=true
  ·exact hJ.put hF hD hW GL hR hx hi kW fO ei wR h hN
  ·have NJ:x=x0:=hD.inj hx Bz (iu.resolve_left hi);rw[NJ]at kW fO wR hN⊢;exact hJ.made hF hD hW GL HN kW fO ei (λy hy JB ix=>by obtain⟨q,_,_,_,_,hb,_⟩:=GL.look y hy JB;exact ei y hy ix _ hb) wR h hN
 ·rw[Array.getD_eq_getD_getElem?,Array.getElem?_replicate];constructor
  ·exactλh=>h.elim
  ·intro h;split at h<;>cases h
 ·exact Nat.le_trans (List.length_filter_le _ _) (by simp)
end Go.Eng
namespace Go.Eng
open Go
variable {P:Program}
def Plainly (P:Program):Prop:=∀(f:Nat) (fn:Func),P.funcs[f]? =some fn->(fn.name== "runtime.NumGoroutine")=false
theorem Rel.extend {ρ:Ren} {s:AS} {w w':World} {o:Obj} (h:Rel P ρ s w) (hh:w'.heap=w.heap.push o):Rel P ρ s w':=
 ⟨h.dM,h.top,λa k x e e'=>let⟨h1,h2⟩:=h.blk a k x e e';⟨by rw[hh,Array.size_push];omega,h2.congr (by rw[hh,Array.getElem?_push,if_neg (Nat.ne_of_lt h1)])⟩,h.ao,h.aX,h.gl.of (by rw[hh,Array.size_push];omega) λb hb hn=>⟨by rw[hh,Array.getElem?_push,if_neg (Nat.ne_of_lt hb)],hn⟩⟩
theorem aR.extend {ρ:Ren} {s:AS} {w w':World} {o:Obj} (hr:Rel P ρ s w) (hh:w'.heap=w.heap.push o) (ht:w'.tape=w.tape) (ho:w'.os=w.os) (hu:w'.output=w.output):aR ρ s w ρ s w':=
 ⟨λ_ _=>rfl,Nat.le_refl _,ht,ho,hu,by rw[hh,Array.size_push];omega,λb hb h=>⟨by rw[hh,Array.getElem?_push,if_neg (Nat.ne_of_lt hb)],h⟩,λ_ _ _=> .inl rfl,
  λb r h=>⟨r,by rw[hh,Array.getElem?_push,if_neg (Nat.ne_of_lt (Array.getElem?_eq_some_iff.1 h).1)];exact h⟩,rfl,λ_ _=>rfl,λa k x _ _ hk _ hx=>by rw[hh,Array.getElem?_push,if_neg (Nat.ne_of_lt (hr.blk a k x hk hx).1)]⟩
theorem Gr {ρ:Ren} {s:AS} {w:World} {b:Nat} (h:Rel P ρ s w) (hb:aI ρ s b):b<w.heap.size:=by obtain⟨a,k,x,e,e',rfl⟩:=hb;exact(h.blk a k x e e').1
def xu (fn:FuncId) (tmps:Array Value) (ps:List Tmp) (I2 bd:Code) (r:Nat):Loop:={state:= .ready,pending:=none,fn,tmps,params:=ps.toArray,assign:=I2,body:=bd,defers:=r}
theorem xR {ρ:Ren} {s s1:AS} {w w1:World} {aa nt fn:Nat} {tm:T Value} {a:Act} {ps:List Tmp} {I2 bd:Code} {fn' r:Nat} (hR:Rel P ρ s w) (hE:bD aa nt ρ tm a) (sN:∀p∈ps,p<nt) (hs:s.new (.loop .ready none fn nt aa tm ps I2 bd)=some s1)
  (hh:w1.heap=w.heap.push (.loop (xu fn' a.tmps ps I2 bd r))) (ht:w1.tape=w.tape) (ho:w1.os=w.os) (hu:w1.output=w.output):Rel P (ρ.put s.nx ⟨w.heap.size,0,0,[]⟩) s1 w1∧aR ρ s w (ρ.put s.nx ⟨w.heap.size,0,0,[]⟩) s1 w1:=by
 refine Rel.alloc hR hs rfl (by rw[hh,Array.size_push]) (λb hb=>by rw[hh,Array.getElem?_push,if_neg (Nat.ne_of_lt hb)]) ht ho hu ⟨a.tmps,fn',r,?_,hE.env.mono (ik (hR.dM _ (Nat.le_refl _)) _),hE.tk,hE.size,sN⟩;show w1.heap[w.heap.size]? =_;rw[hh,Array.getElem?_push,if_pos rfl];rfl
theorem wH {F:Fence} {ρ:Ren} {s s1:AS} {w:World} {aa nt fn:Nat} {n0:N0} {tm:T Value} {a:Act} {ps:Array Tmp} {I2 bd:Code} {fn':FuncId} (hR:Rel P ρ s w) (hE:bD aa nt ρ tm a) (eR:n0.n<=w.heap.size) (hM:Marks n0 ρ s w a.defers)
  (hL:∀l,F.round=some l->∃r,w.heap[l]? =some (Obj.loop r)) (sN:∀p∈ps.toList,p<nt) (hs:s.new (.loop .ready none fn nt aa tm ps.toList I2 bd)=some s1):
  ∃l mark w1 bf,(Instr.enterLoop fn' a.tmps ps I2 bd F.round).run P w= .ok (l,mark) w1∧bf s.nx=some ⟨l,0,0,[]⟩∧Rel P bf s1 w1∧aR ρ s w bf s1 w1∧Marks n0 bf s1 w1 (mark++a.defers):=by
 cases hro:F.round with
 |some l0=>
  obtain⟨r0,yV⟩:=hL l0 hro;have hrun:(Instr.enterLoop fn' a.tmps ps I2 bd (some l0)).run P w= .ok (w.heap.size,[]) (w.alloc (.loop (xu fn' a.tmps ps.toList I2 bd r0.defers))):=by simp only[Instr.enterLoop,Instr.getLoop,Sem.run_bind,run_getObj_loop yV,Result.andThen_ok,Sem.run_pure,run_newObj_alloc];rfl
  obtain⟨h1,h2⟩:=xR (w1:=w.alloc (.loop (xu fn' a.tmps ps.toList I2 bd r0.defers))) hR hE sN hs rfl rfl rfl rfl;exact⟨_,_,_,_,hrun,bC _ _ _,h1,h2,by simpa using hM.step h2⟩
 |none=>
  let wA:=w.alloc (.deferred (some []))
  have hA:wA.heap=w.heap.push (.deferred (some [])):=rfl;have HO:Rel P ρ s wA:=hR.extend hA;have Qg:aR ρ s w ρ s wA:= .extend hR hA rfl rfl rfl;have hrun:(Instr.enterLoop fn' a.tmps ps I2 bd none).run P w= .ok (wA.heap.size,[{target:= .collected w.heap.size,args:= #[]}]) (wA.alloc (.loop (xu fn' a.tmps ps.toList I2 bd w.heap.size))):=by simp only[Instr.enterLoop,Sem.run_bind,Result.andThen_ok,Sem.run_pure,run_newObj_alloc];rfl
  obtain⟨h1,h2⟩:=xR (w1:=wA.alloc (.loop (xu fn' a.tmps ps.toList I2 bd w.heap.size))) HO hE sN hs rfl rfl rfl rfl;have gF:Marks n0 ρ s wA ([{target:= .collected w.heap.size,args:= #[]}]++a.defers):=by
   obtain⟨ms,he,Fa,tC⟩:=(hM.step Qg).own;obtain⟨RJ,fP,OQ,_⟩:=hM.own;have MO:ms=RJ:=List.append_cancel_right (he.symm.trans fP);subst MO;refine⟨{target:= .collected w.heap.size,args:= #[]}::ms,by rw[he];rfl,λd hd=>?_,?_⟩
   ·rcases List.mem_cons.1 hd with rfl|hd
    ·exact⟨w.heap.size,rfl,by rw[hA,Array.getElem?_push,if_pos rfl],by rw[hA,Array.size_push];omega,λhh=>Nat.lt_irrefl _ (Gr hR hh),eR⟩
    ·exact Fa d hd
   ·refine List.pairwise_cons.2 ⟨λd hd r hr er=>?_,tC⟩;obtain⟨r1,e1,_,e3,_⟩:=OQ d hd;cases hr;rw[e1]at er;injection er with er
    omega
  exact⟨_,_,_,_,hrun,bC _ _ _,h1,Qg.trans h2,gF.step h2⟩
theorem wI {v:Value} (h:kE P v=true):∃f a b fn c,v= .func (.func f) a b∧P.funcs[f]? =some fn∧fn.body=some c:=by
 unfold kE at h;split at h
 ·rename_i f a b;split at h
  ·rename_i fn hf;split at h
   ·rename_i c hc;exact⟨f,a,b,fn,c,rfl,hf,hc⟩
   ·cases h
  ·cases h
 ·cases h
theorem ft (hP:Plainly P) {f:Nat} {fn:Func} {c:Code} (hf:P.funcs[f]? =some fn) (hb:fn.body=some c) (args:Array Value) (w:World):(callFunc f args).run P w= .ok (.enter f args) w:=by unfold callFunc;have RK:Sem.run P program w= .ok P w:=rfl;simp only[Sem.run_bind,RK,Result.andThen_ok,hf,hP f fn hf,Bool.false_eq_true,if_false,hb,Option.isNone_some,Sem.run_pure]
theorem hO {b:Option Blk} {k:LoopState->Option Code->Nat->Nat->Nat->T Value->List Tmp->Code->Code->Out} {o:Out} (h:jJ b k=o) (ho:o≠.no):∃st fB fn nt kp tm ps I2 bd,b=some (.loop st fB fn nt kp tm ps I2 bd)∧k st fB fn nt kp tm ps I2 bd=o:=by
 cases b with
 |none=>exact(ho h.symm).elim
 |some b=>cases b<;>first|exact(ho h.symm).elim|exact⟨_,_,_,_,_,_,_,_,_,rfl,h⟩
theorem km {s:AS} {i:Nat} {b:Blk} {k:AS->Out} {o:Out} (h:ez s i b k=o) (ho:o≠.no):∃s',s.set i (some b)=some s'∧k s'=o:=by
 have h:Option.rec (motive:= λ_=>Out) .no k (s.set i (some b))=o:=h;cases hs:s.set i (some b)with
 |none=>rw[hs]at h;exact(ho h.symm).elim
 |some s'=>rw[hs]at h;exact⟨s',rfl,h⟩
theorem qO {ρ:Ren} {s s':AS} {w:World} {l:Nat} {x:Loc} {st E8:LoopState} {fB DJ:Option Code} {fn nt kp:Nat} {tm:T Value} {ps:List Tmp} {I2 bd:Code} (hR:Rel P ρ s w) (hx:ρ l=some x)
  (hk:s.h.get l=some (.loop st fB fn nt kp tm ps I2 bd)) (hs:s.set l (some (.loop E8 DJ fn nt kp tm ps I2 bd))=some s'):
  ∃r:Loop,w.heap[x.b]? =some (.loop r)∧r.state=st∧r.pending=fB∧r.params=ps.toArray∧r.assign=I2∧r.body=bd∧gO ρ tm r.tmps∧(∀t v,tm.get t=some v->kept kp t=true)∧nt<=r.tmps.size∧(∀p∈ps,p<nt)∧
   Rel P ρ s' (w.putObj x.b (.loop {r with state:=E8,pending:=DJ}))∧aR ρ s w ρ s' (w.putObj x.b (.loop {r with state:=E8,pending:=DJ})):=by
 obtain⟨hlt,tmps,fn',d,hh,h1,h2,h3,h4⟩:=hR.blk l _ x hk hx;refine⟨_,hh,rfl,rfl,rfl,rfl,rfl,h1,h2,h3,h4,?_⟩;exact Rel.setObj hR hs hk rfl hx (λw' nS=>⟨tmps,fn',d,nS,h1,h2,h3,h4⟩) (λ_=>rfl)
theorem run_endLoop {l:Nat} {r:Loop} {w:World} (h:w.heap[l]? =some (.loop r)) (hb:r.state≠.busy):(Instr.endLoop l).run P w= .ok r.pending (w.putObj l (.loop {r with state:= .exhausted})):=by
 have:(r.state== .busy)=false:=by cases hs:r.state<;>first|rfl|exact(hb hs).elim
 simp only[Instr.endLoop,Instr.getLoop,Sem.run_bind,run_getObj_loop h,Result.andThen_ok,Sem.run_pure,this,Bool.false_eq_true,if_false,run_setObj_loop _ h]
theorem wJ {aa nt fn:Nat} (hP:Plainly P) {g:Operand} {fo:cu} {ps:Array Tmp} {I2 bd:Code} (hg:bz aa [] g=some fo) (sN:∀p∈ps.toList,p<nt):
  cV P aa nt (.rangeFunc g ps I2 bd) (lG P fn nt aa fo ps.toList I2 bd):= λev hev F hF ρ tm s a w e tm' s' h hE n0 eR hM hL hR Q hQ=>by
 have h:Option.rec (motive:= λ_=>Out) .no (λfv=>ab (kE P fv) (Option.rec (motive:= λ_=>Out) .no
  (λs1=>kL s.nx tm (ev fv [.func (.yield s.nx) #[] #[]] s1)) (s.new (.loop .ready none fn nt aa tm ps.toList I2 bd))) .no) (fo .nil tm)= .code e tm' s':=h
 cases hv:fo .nil tm with
 |none=>rw[hv]at h;cases h
 |some fv=>
  rw[hv]at h;have h:ab (kE P fv) (Option.rec (motive:= λ_=>Out) .no
   (λs1=>kL s.nx tm (ev fv [.func (.yield s.nx) #[] #[]] s1)) (s.new (.loop .ready none fn nt aa tm ps.toList I2 bd))) .no= .code e tm' s':=h
  cases hb:kE P fv with
  |false=>rw[hb]at h;cases h
  |true=>
   rw[hb,bF]at h;obtain⟨fi,fa,fb,Tg,c,rfl,NN,LU⟩:=wI hb;cases hs:s.new (.loop .ready none fn nt aa tm ps.toList I2 bd)with
   |none=>rw[hs]at h;cases h
   |some s1=>
    rw[hs]at h;have h:kL s.nx tm (ev (.func (.func fi) fa fb) [.func (.yield s.nx) #[] #[]] s1)= .code e tm' s':=h;cases ho:ev (.func (.func fi) fa fb) [.func (.yield s.nx) #[] #[]] s1 with
    |no=>rw[ho]at h;cases h
    |code=>rw[ho]at h;cases h
    |val v s2=>
     rw[ho]at h;have Qh:=hE.inv.ops (ops:= #[g]) _ _ _ (by simp) hg hv;generalize wM:a.eval g=gv at Qh;cases Qh with| @func _ _ _ MP JF xc HF=>?_
     refine wpIn_rangeFunc (λfn' _=>?_);obtain⟨l,mark,w1,bf,hent,hl,de,dq,gF⟩:=wH (F:=F) (fn':=fn') hR hE eR hM hL sN hs;have oS:=dq.le hR;have gi:=hev _ _ _ _ _ ho bf w1 (.func (.func fi) MP JF) [.func (.yield l) #[] #[]] de (.func fi (xc.mono oS) (HF.mono oS)) (.cons (.yield (x:=⟨l,0,0,[]⟩) hl .nil .nil) .nil);have hrun:∀args,(invoke (.fn (.func fi) JF) args).run P w1= .ok (.enter fi (args++JF)) w1:= λargs=>ft hP NN LU _ w1;have RL:(bL (.func (.func fi) MP JF) [.func (.yield l) #[] #[]]).run P w1= .ok (.enter fi (MP++ #[.func (.yield l) #[] #[]]++JF)) w1:=by unfold bL;simp only[Deferred.ofValue,pure_bind,hrun]
     unfold bb at gi;rw[RL]at gi;refine⟨l,mark,w1,{target:= .fn (.func fi) JF,args:=MP++ #[.func (.yield l) #[] #[]]},w1,fi,_,w1,hent,?_,λf' _=>hF.fn f',hrun _,λhd=>(by rw[hF.depth]at hd;cases hd),CallsIn.mono (CallsIn.Ax hF gi) ?_⟩
     ·unfold resolve;have hm:Array.map a.eval #[Operand.const (.func (.yield l) #[] #[])]= #[.func (.yield l) #[] #[]]:=by simp[Act.eval]
      simp only[wM,Deferred.ofValue,hm,Sem.run_pure]
     rintro e3 w3 ⟨u,rfl,du,h1,eS,fI⟩;have K1:=dq.trans fI;have h:jJ (s2.h.get s.nx) (λst fB fn' Nc Nd tm' AF Nf Ng=>
      match st with
      | .busy=> .no
      |_=>ez s2 s.nx (.loop .exhausted fB fn' Nc Nd tm' AF Nf Ng) λs3=>match fB with
       |none=> .code .normal tm s3
       |some c=>mE c tm s3)= .code e tm' s':=h
     obtain⟨st,fB,Kf,Kg,Kh,pF,NO,NP,NQ,hblk,h⟩:=hO h (by simp);have xa:du s.nx=some ⟨l,0,0,[]⟩:=by rw[fI.jj _ (by have:=(AS.dO hs).1;omega)];exact hl
     have h:st≠.busy∧(ez s2 s.nx (.loop .exhausted fB Kf Kg Kh pF NO NP NQ) λs3=>match(generalizing:=false) fB with
       |none=> .code .normal tm s3
       |some c=>mE c tm s3)= .code e tm' s':=by
      cases st<;>first|(cases h;done)|exact⟨by simp,h⟩
     obtain⟨wZ,h⟩:=h;obtain⟨s3,hs3,h⟩:=km h (by simp);obtain⟨r,hr,RM,Hk,_,_,_,_,_,_,_,iz,iA⟩:=qO eS xa hblk hs3;refine⟨r.pending,_,run_endLoop hr (by rw[RM];exact wZ),?_⟩;have HC:({r with state:=LoopState.exhausted}:Loop)={r with state:=LoopState.exhausted,pending:=fB}:=by rw[<-Hk]
     rw[HC];have CW:=K1.trans iA;have fin:∀x,Out.code x tm s3= .code e tm' s'->Q (Ec x) {a with defers:=mark++a.defers} (w3.putObj l (.loop {r with state:= .exhausted,pending:=fB})):= λx hx=>by cases hx;exact hQ du _ _ ⟨hE.size,hE.tk,hE.env.mono (K1.le hR)⟩ ((gF.step fI).step iA) iz CW
     rw[Hk];cases fB with
     |none=>exact fin .normal h
     |some c2=>
      have h:mE c2 tm s3= .code e tm' s':=h;unfold mE at h;split at h
      ·exact wpIn_ret (fin .ret h)
      ·exact wpIn_exit (fin (.exit _) h)
      ·cases h
end Go.Eng
namespace Go.Eng
open Go
variable {P:Program}
mutual
theorem jq {ρ:Ren}:∀ {v:Value},Plain v->ag ρ v v
 |_,.bool b=> .bool b
 |_,.int k n=> .int k n
 |_,.string s=> .string s
 |_,.agg a h=> .agg (pr a.toList h)
theorem pr {ρ:Ren}:∀(l:List Value),(∀v∈l,Plain v)->af ρ l l
 | [],_=> .nil
 |v::l,h=> .cons (jq (h v (by simp))) (pr l λu hu=>h u (by simp[hu]))
end
mutual
theorem iN {ρ aj:Ren} (hr:aK ρ aj):∀ {v u0 u:Value},ag ρ v u0->ag aj v u->ag ρ v u
 |_,_,_,.bool b,h=>by cases h;exact .bool b
 |_,_,_,.int k n,h=>by cases h;exact .int k n
 |_,_,_,.string s,h=>by cases h;exact .string s
 |_,_,_,.junk m n v _ _,h=>by cases h with|junk _ _ _ h h'=>exact .junk m n _ h h'
 |_,_,_,.lY g off,h=>by cases h;exact .lY g off
 |_,_,_,.eO,h=>by cases h;exact .eO
 |_,_,_,.ptr off hx,h=>by
  cases h with
  |ptr _ eJ=>rw[hr _ _ hx]at eJ;cases eJ;exact .ptr off hx
 |_,_,_,.ba,h=>by cases h;exact .ba
 |_,_,_,.slice off n c cap ad hx _ _ _ _ _,h=>by
  cases h with
  |slice _ _ _ OR RN eJ h1 h2 h3 h4 h5=>rw[hr _ _ hx]at eJ;cases eJ;exact .slice off n c OR RN hx h1 h2 h3 h4 h5
 |_,_,_,.ij,h=>by cases h;exact .ij
 |_,_,_,.map hx,h=>by
  cases h with
  |map eJ=>rw[hr _ _ hx]at eJ;cases eJ;exact .map hx
 |_,_,_,.func f ha hb,h=>by
  cases h with
  |func _ dp cr=>exact .func f (dT hr ha dp) (dT hr hb cr)
 |_,_,_,.yield hx ha hb,h=>by
  cases h with
  |yield eJ dp cr=>rw[hr _ _ hx]at eJ;cases eJ;exact .yield hx (dT hr ha dp) (dT hr hb cr)
 |_,_,_,.nilFunc,h=>by cases h;exact .nilFunc
 |_,_,_,.nilIface,h=>by cases h;exact .nilIface
 |_,_,_,.iface t hv,h=>by
  cases h with
  |iface _ eu=>exact .iface t (iN hr hv eu)
 |_,_,_,.agg ha,h=>by
  cases h with
  |agg dp=>exact .agg (dT hr ha dp)
 |_,_,_,.tuple ha,h=>by
  cases h with
  |tuple dp=>exact .tuple (dT hr ha dp)
theorem dT {ρ aj:Ren} (hr:aK ρ aj):∀ {l m0 m:List Value},af ρ l m0->af aj l m->af ρ l m
 |_,_,_,.nil,h=>by cases h;exact .nil
 |_,_,_,.cons hv hs,h=>by
  cases h with
  |cons eu fu=>exact .cons (iN hr hv eu) (dT hr hs fu)
end
theorem fZ {ρ aj:Ren} (hr:aK ρ aj) {tm:T Value} {t0 t1:Array Value} (h0:gO ρ tm t0) (h:gO aj tm t1):gO ρ tm t1:= λt v e=>by obtain⟨u0,_,NR⟩:=h0 t v e;obtain⟨u,hu,hv⟩:=h t v e;exact⟨u,hu,iN hr NR hv⟩
theorem vU {ρ aj:Ren} (hr:aK ρ aj) {kt:TypeId}:∀ {es:List (Value×Value×Nat)} {l0 l:List MapEntry},F2 (bJ P ρ kt) es l0->F2 (bJ P aj kt) es l->F2 (bJ P ρ kt) es l
 |_,_,_,.nil,.nil=> .nil
 |_,_,_,.cons h' fu,.cons h hs=> .cons ⟨h.1,h.2.1,h.2.2.1,iN hr h'.2.2.2.1 h.2.2.2.1,h.2.2.2.2⟩ (vU hr fu hs)
theorem yw {ρ aj:Ren} (hr:aK ρ aj) {kt:TypeId} {es:List (Value×Value×Nat)} {e0 e1:Array MapEntry} (h0:aW P ρ kt es e0) (h:aW P aj kt es e1):aW P ρ kt es e1:=by obtain⟨l0,_,HP,_⟩:=h0;obtain⟨l,hp,hf,hn⟩:=h;exact⟨l,hp,vU hr HP hf,hn⟩
theorem ov {ρ aj:Ren} (hr:aK ρ aj) {x:Loc} {w0 w:World}:∀ {k:Blk},bX P ρ x w0 k->bX P aj x w k->bX P ρ x w k
 | .cells ..,h0,h=>⟨λi l e=>by obtain⟨a,b,c⟩:=h.cell i l e;obtain⟨_,_,c0⟩:=h0.cell i l e;refine⟨a,b,λj v hv=>?_⟩;obtain⟨u,hu,eu⟩:=c j v hv;obtain⟨_,_,NR⟩:=c0 j v hv;exact⟨u,hu,iN hr NR eu⟩,h.all,h.free,h.shape,h.mult⟩
 | .map ..,⟨_,_,Jy,_⟩,⟨e,h,hm,hb⟩=>⟨e,h,yw hr Jy hm,hb⟩
 | .pmap ..,⟨_,_,⟨_,_,HP,_⟩,_⟩,⟨e,h,⟨l,hp,hf,hk,hn⟩,hb⟩=>⟨e,h,⟨l,hp,vU hr HP hf,hk,hn⟩,hb⟩
 | .cE ..,_,h=>h
 | .mapIter ..,⟨_,h0⟩,⟨hb,h⟩=>⟨hb,by
   rcases h with ⟨rfl,h⟩|⟨a,y,rfl,hy,h⟩
   ·exact .inl ⟨rfl,h⟩
   ·rcases h0 with ⟨h0,_⟩|⟨a0,y0,RO,Qi,_⟩
    ·cases h0
    ·cases RO;have:=hr _ _ Qi;rw[hy]at this;cases this;exact .inr ⟨a,y,rfl,Qi,h⟩⟩
 | .loop ..,⟨_,_,_,_,RP,_⟩,⟨t,f,r,h,he,hn⟩=>⟨t,f,r,h,fZ hr RP he,hn⟩
theorem Rel.down {ρ aj:Ren} {s se:AS} {w0 w:World} (h0:Rel P ρ s w0) (h:Rel P aj se w) (hle:aK ρ aj) (hsame:∀a,a<s.nx->se.h.get a=s.h.get a):Rel P ρ s w:=by
 have hlt:∀ {a x},ρ a=some x->a<s.nx:= λ {a x} e=>Nat.lt_of_not_le λhle=>by rw[h0.dM a hle]at e;cases e
 refine⟨h0.dM,h0.top,λa k x e e'=>?_,h0.ao,λa a' k k' x x' hne e1 e2 r1 r2 hb=>h0.aX a a' k k' x x' hne e1 e2 r1 r2 hb,λg gl vs g1 g2=>(let⟨_,b,_⟩:=h0.gl g gl vs g1 g2;let⟨a',_,c'⟩:=h.gl g gl vs g1 g2;⟨a',b,c'⟩)⟩;obtain⟨h1,h2⟩:=h.blk a k x (by rw[hsame a (hlt e')];exact e) (hle _ _ e');exact⟨h1,ov hle (h0.blk a k x e e').2 h2⟩
theorem aI.up {ρ aj:Ren} {s se:AS} {w0:World} (h0:Rel P ρ s w0) (hle:aK ρ aj) (hsame:∀a,a<s.nx->se.h.get a=s.h.get a) {b:Nat} (h:aI ρ s b):aI aj se b:=by
 obtain⟨a,k,x,e,e',hb⟩:=h;have:a<s.nx:=Nat.lt_of_not_le λhle=>by rw[h0.dM a hle]at e';cases e'
 exact⟨a,k,x,by rw[hsame a this];exact e,hle _ _ e',hb⟩
theorem Rel.vu {ρ:Ren} {s:AS} {w:World} {r:Nat} {o:Obj} (h:Rel P ρ s w) (hn:¬aI ρ s r) (dg:∀i,w.cell? ⟨r,i,none⟩=none):Rel P ρ s {w with heap:=w.heap.setIfInBounds r o}:=
 ⟨h.dM,h.top,λa k x e e'=>by
  obtain⟨h1,h2⟩:=h.blk a k x e e';have hne:r≠x.b:= λe2=>hn ⟨a,k,x,e,e',e2.symm⟩;exact⟨by simpa using h1,h2.congr (by simp[hne])⟩,h.ao,h.aX,λg gl vs g1 g2=>by
  obtain⟨a,b,c⟩:=h.gl g gl vs g1 g2;refine⟨by simpa using a,b,λi v hv=>?_⟩;have hc:=c i v hv;have hne:r≠g:= λe=>by rw[<-e,dg i]at hc;cases hc
  rw[dW (w:=w) (by simp[hne])];exact hc⟩
theorem cY:∀ {a b:T Value},oO a b=true->∀t v,a.get t=some v->b.get t=some v
 | .e,_,_,t,v,hv=>by rw[T.get_e]at hv;cases hv
 | .n v0 l r,.e,h,t,v,hv=>by
  cases v0 with
  |some v0=>cases h
  |none=>
   have h:ab (oO l .e) (oO r .e) false=true:=h;obtain⟨h1,h2⟩:=ah h;rcases aA t with rfl|⟨m,rfl⟩|⟨m,rfl⟩
   ·rw[T.bp]at hv;cases hv
   ·rw[T.aH]at hv;have:=cY h1 m v hv;rw[T.get_e]at this;cases this
   ·rw[T.ay]at hv;have:=cY h2 m v hv;rw[T.get_e]at this;cases this
 | .n v0 l r,.n v1 l' r',h,t,v,hv=>by
  have h:ab (match(generalizing:=false) v0 with|none=>true|some v=>Bj v v1) (ab (oO l l') (oO r r') false) false=true:=h;obtain⟨h0,h⟩:=ah h;obtain⟨h1,h2⟩:=ah h;rcases aA t with rfl|⟨m,rfl⟩|⟨m,rfl⟩
  ·rw[T.bp]at hv⊢;subst hv;exact rJ h0
  ·rw[T.aH]at hv⊢;exact cY h1 m v hv
  ·rw[T.ay]at hv⊢;exact cY h2 m v hv
theorem uu:∀ {ws:List Nat} {tm dL:T Value},xk ws tm=some dL->∀t v,dL.get t=some v->tm.get t=some v
 | [],tm,dL,h,t,v,hv=>by have h:some tm=some dL:=h;cases h;exact hv
 |w::ws,tm,dL,h,t,v,hv=>by
  have h:ob (T.put none tm w) (xk ws)=some dL:=h;obtain⟨t1,h1,h⟩:=U h;have:=uu h t v hv;rw[T.bu _ _ _ _ h1]at this;split at this
  ·cases this
  ·exact this
def Bb (m:bM) (ev:Ev) (tm:T Value) (s:AS) (p:Value×Value×Nat):Prop:=
 (∃tm' s',bO m ev (p.1,p.2.1) tm s= .code .normal tm' s')∧∃tm' s',bO m ev (p.1,p.2.1) tm ⟨s.h,s.nx,s.nx⟩= .code .normal tm' s'∧oO tm tm'=true
def qP (m:bM) (ev:Ev) (tm:T Value) (s:AS) (p:Value×Value×Nat) (o:Out):Prop:=
 bO m ev (p.1,p.2.1) tm s=o∧∃x tm' s',o= .code x tm' s'∧x≠.normal
theorem gL {m:bM} {ev:Ev} {tm:T Value} {s:AS}:∀ {es:List (Value×Value×Nat)} {f0 f:Option Out},dm m ev tm s es f0=some f->
  (∀p∈es,Bb m ev tm s p∨∃o,f=some o∧qP m ev tm s p o)∧(∀o,f0=some o->f=some o)∧(∀o,f=some o->f0=some o∨∃p∈es,qP m ev tm s p o)
 | [],f0,f,h=>by have h:some f0=some f:=h;cases h;exact⟨λp hp=>(by cases hp),λo h=>h,λo h=> .inl h⟩
 |p::es,f0,f,h=>by
  have h:(match(generalizing:=false) bO m ev (p.1,p.2.1) tm s with
   | .code .normal _ _=>ab (jP tm (bO m ev (p.1,p.2.1) tm ⟨s.h,s.nx,s.nx⟩)) (dm m ev tm s es f0) none
   | .code x az s1=>match(generalizing:=false) f0 with|none=>dm m ev tm s es (some (.code x az s1))|some _=>none
   |_=>none)=some f:=h
  split at h
  ·rename_i az s1 heq;obtain⟨h1,h⟩:=ae h;obtain⟨i1,i2,i3⟩:=gL h;refine⟨λq hq=>?_,i2,λo ho=>(i3 o ho).imp id λ⟨q,hq,hr⟩=>⟨q,by simp[hq],hr⟩⟩;rcases List.mem_cons.1 hq with rfl|hq
   ·left;refine⟨⟨az,s1,heq⟩,?_⟩;unfold jP at h1;split at h1
    ·exact⟨_,_,‹_›,h1⟩
    ·cases h1
   ·exact i1 q hq
  ·rename_i x az s1 hne heq;have hx:x≠.normal:= λe=>hne e;split at h
   ·obtain⟨i1,i2,i3⟩:=gL h;have aP:qP m ev tm s p (.code x az s1):=⟨heq,x,az,s1,rfl,hx⟩
    refine⟨λq hq=>?_,λo ho=>(by cases ho),λo ho=>?_⟩
    ·rcases List.mem_cons.1 hq with rfl|hq
     ·exact .inr ⟨_,i2 _ rfl,aP⟩
     ·exact i1 q hq
    ·right;rcases i3 o ho with h|⟨q,hq,hr⟩
     ·cases h;exact⟨p,by simp,aP⟩
     ·exact⟨q,by simp[hq],hr⟩
   ·cases h
  ·cases h
end Go.Eng
