import Derived.Test.YtadepknkjjmcnaaGreatDoorEngC
import Derived.Lib.MakeNoZero
import Derived.Lib.Bytealg
import Derived.Lib.Overlaps
import Derived.Laws.Externs
import Derived.LoopNIn
set_option linter.unusedVariables false
set_option linter.unusedSimpArgs false
/- An evaluator of the code of the model, proved: what it answers, the program does, whatever the world. Part of the proof of ArrowKnown. -/
noncomputable section
namespace Go.Eng
open Go
variable {s:AS} {a:Act} {ev:Ev} {Q:Exit->Act->World->Prop} {F:Fence} {n0:N0} {d aa nt:Nat} {o:Oper} {P:Program} {ρ:Ren} {tm aw:T Value} {k u v v':Value} {w:World}
theorem Inv.start (h:bt aa nt ρ tm a) (hd:kept aa d=false) (hlt:d<nt) (hv:ag ρ v u):Inv aa nt [] ρ (.cons d v .nil) tm (a.put (some d) u):=by
 have hsz:d<a.tmps.size:=Nat.lt_of_lt_of_le hlt h.size;refine⟨⟨by simpa[Act.put]using h.size,h.tk,λt w hw=>?_⟩,λt w _ hk hw=>?_,λp hp=>(by cases hp)⟩
 ·have hne:t≠d:= λe=>by have:=h.tk t w hw;rw[e,hd]at this;cases this
  obtain⟨u',hu,hr⟩:=h.env t w hw;exact⟨u',by rw[bl hne];exact hu,hr⟩
 ·rw[xl,ah]at hw;split at hw
  ·rename_i e;have e:=Nat.eq_of_beq_eq_true e;cases hw;subst e;exact⟨u,aT hsz,hv⟩
  ·cases hw
theorem bt.put {aa nt:Nat} {ρ:Ren} {tm aw:T Value} {a:Act} (h:bt aa nt ρ tm a) {d:Nat} {v u:Value} (hd:kept aa d=true) (hlt:d<nt) (hv:ag ρ v u) (hp:T.put (some v) tm d=some aw):bt aa nt ρ aw (a.put (some d) u):=by
 have hsz:d<a.tmps.size:=Nat.lt_of_lt_of_le hlt h.size;have hg:=T.aR _ _ _ _ hp;refine⟨by simpa[Act.put]using h.size,λt w hw=>?_,λt w hw=>?_⟩
 ·rw[hg]at hw;split at hw
  ·rename_i e;rw[e];exact hd
  ·exact h.tk t w hw
 ·rw[hg]at hw;split at hw
  ·rename_i e;cases hw;rw[e];exact⟨u,aT hsz,hv⟩
  ·rename_i e;obtain⟨u',hu,hr⟩:=h.env t w hw;exact⟨u',by rw[bl e];exact hu,hr⟩
theorem bt.eD (h:bt aa nt ρ tm a) (hd:kept aa d=false):bt aa nt ρ tm (a.put (some d) u):=by
 refine⟨by simpa[Act.put]using h.size,h.tk,λt w hw=>?_⟩;have hne:t≠d:= λe=>by have:=h.tk t w hw;rw[e,hd]at this;cases this
 obtain⟨u',hu,hr⟩:=h.env t w hw;exact⟨u',by rw[bl hne];exact hu,hr⟩
theorem kZ (hev:EvOk P ev) (hF:fq F) {body:Code} {c:CF} (hc:du P aa nt body c) {i2 b1:Nat} {r2:Array Oper} {t2:List Oper} {q:Oper} {l2:List CI} (ym:dC P aa nt r2.toList t2 []=some l2) (Hg:r2.toList=q::t2) {d2 it:Nat} (Ms:q.guard=none) (IC:q.dst=some d2) (LO:q.op= .entry (.tmp it)) (Mu:kept aa d2=false) (hlt:d2<nt) {k':Value} {x:cm} {Ph:T Value} {sx:AS} (hrun:iY b1 (gN (c ev) (js ev l2 lS (.cons d2 (.tuple #[k,v]) .nil) aw s))= .code x Ph sx) (hE:bt aa nt ρ aw a) (fh:n0.n<=w.heap.size) (hM:Marks n0 ρ s w a.defers) (hL:∀l,F.round=some l->∃r,w.heap[l]? =some (Obj.loop r)) (hR:Rel P ρ s w) (hent:(Instr.entry (a.eval (.tmp it))).run P w= .ok (.tuple #[k',v']) w) (hk:ag ρ k k') (hv:ag ρ v v') (hQ:lu P n0 aa nt ρ s w x Ph sx Q):(Code.block b1 (.seq (.region i2 r2 false) body)).wpIn F 0 P Q a w:=by
 refine wpIn_block ?_;refine wpIn_seq ?_;refine wpIn_region ?_;have hsz:r2.size=t2.length+1:=by rw[<-Array.length_toList,Hg];rfl
 have hr:List.range r2.size=0::List.range' 1 t2.length:=by rw[hsz,List.range_eq_range',List.range'_succ]
 rw[hr];have h0:r2[0]? =some q:=by
  have:r2.toList[0]? =some q:=by rw[Hg];rfl
  simpa using this
 have hw:Region.wanted q (yielded r2 a.tmps)=true:=by unfold Region.wanted;rw[Ms]
 simp only[wpOpsIn,h0];rw[if_pos hw];refine⟨λf _=>hF.fn f,?_⟩;rw[Oper.semAt_eq _ _ _ (λc e=>by rw[LO]at e;cases e)];have hex:(execOp a.eval q).run P w= .ok (.value (.tuple #[k',v'])) w:=by
  have he:execOp a.eval q=(do pure (.value (<-Instr.entry (a.eval (.tmp it))))):=by unfold execOp;rw[LO]
  rw[he];exact aI hent
 rw[hex,Oper.uponIn_value,IC];have hI:=Inv.start hE Mu hlt (ag.tuple (a:= #[k,v]) (b:= #[k',v']) (.cons hk (.cons hv .nil)));cases hrg:js ev l2 lS (.cons d2 (.tuple #[k,v]) .nil) aw s with
 |no=>rw[hrg]at hrun;cases hrun
 |val=>rw[hrg]at hrun;cases hrun
 |code xr Pj sr=>
  rw[hrg]at hrun;refine o9 hF hev (all:=r2) (x:=xr) (tm':=Pj) (s':=sr) t2 1 (by rw[Hg];rfl) [] l2 ym ρ _ aw s _ w hrg hI hR (λaO a1 w1 hx da Ch dn dv=>?_);subst hx;have g7:Marks n0 aO sr w1 a1.defers:=by rw[Ch];exact hM.step dv
  have hrun:iY b1 (c ev Pj sr)= .code x Ph sx:=hrun;cases ho:c ev Pj sr with
  |no=>rw[ho]at hrun;cases hrun
  |val=>rw[ho]at hrun;cases hrun
  |code e2 oO s2=>
   rw[ho]at hrun;refine hc ev hev F hF aO Pj sr a1 w1 e2 oO s2 ho da n0 (Nat.le_trans fh dv.size) g7 (dG hL dv) dn _ (λdb a2 w2 mR wu dO fC=>?_);have hS:=dv.trans fC;cases e2 with
   |normal=>cases hrun;exact hQ db a2 w2 mR wu dO hS
   |exit i=>
    have h:ab (Nat.beq i b1) (.code .normal oO s2) (.code (.exit i) oO s2)=Out.code x Ph sx:=hrun;rw[ah]at h;show(if i=b1 then Q .normal a2 w2 else Q (.exit i) a2 w2);split at h
    ·rename_i hi;cases h;rw[if_pos (Nat.eq_of_beq_eq_true hi)];exact hQ db a2 w2 mR wu dO hS
    ·rename_i hi;cases h;rw[if_neg (λe=>hi (by rw[e];exact Nat.beq_refl _))];exact hQ db a2 w2 mR wu dO hS
   |goto l=>cases hrun;exact hQ db a2 w2 mR wu dO hS
   |ret=>cases hrun;exact hQ db a2 w2 mR wu dO hS
theorem cB (hF:fq F) {i1 d1 t9 it:Nat} {r1:Array Oper} {p:Oper} (x5:r1.toList= [o,p]) (Aq:o.guard=none) (Hh:o.dst=some d1) (GZ:o.op= .next (.tmp it) false) (Hi:p.guard=none) (Hj:p.dst=some t9) (G0:p.op= .extract (.tmp d1) 0) {w2:World} {vs:Array Value} {b:Bool} (yk:vs[0]? =some (.bool b)) (hlt:d1<a.tmps.size) (Oo:∀ty,(Instr.next (a.eval (.tmp it)) false ty).run P w= .ok (.tuple vs) w2) (hQ:Q .normal ((a.put (some d1) (.tuple vs)).put (some t9) (.bool b)) w2):(Code.region i1 r1 false).wpIn F 0 P Q a w:=by
 refine wpIn_region ?_;have hsz:r1.size=2:=by rw[<-Array.length_toList,x5];rfl
 have hr:List.range r1.size= [0,1]:=by rw[hsz];rfl
 rw[hr];have h0:r1[0]? =some o:=by
  have:r1.toList[0]? =some o:=by rw[x5];rfl
  simpa using this
 have h1:r1[1]? =some p:=by
  have:r1.toList[1]? =some p:=by rw[x5];rfl
  simpa using this
 have IF:Region.wanted o (yielded r1 a.tmps)=true:=by unfold Region.wanted;rw[Aq]
 simp only[wpOpsIn,h0,h1];rw[if_pos IF];refine⟨λf _=>hF.fn f,?_⟩;rw[Oper.semAt_eq _ _ _ (λc e=>by rw[GZ]at e;cases e)];have hex:(execOp a.eval o).run P w= .ok (.value (.tuple vs)) w2:=by
  have he:execOp a.eval o=(do pure (.value (<-Instr.next (a.eval (.tmp it)) false o.type))):=by unfold execOp;rw[GZ]
  rw[he];exact aI (Oo _)
 rw[hex,Oper.uponIn_value,Hh];show(if Region.wanted p _=true then _ else _);rw[if_pos (by unfold Region.wanted;rw[Hi])];refine⟨λf _=>hF.fn f,?_⟩;rw[Oper.semAt_eq _ _ _ (λc e=>by rw[G0]at e;cases e)];have Rl:(execOp (a.put (some d1) (.tuple vs)).eval p).run P w2= .ok (.value (.bool b)) w2:=by
  have he:execOp (a.put (some d1) (.tuple vs)).eval p=(do pure (.value (<-Instr.extract ((a.put (some d1) (.tuple vs)).eval (.tmp d1)) 0))):=by unfold execOp;rw[G0]
  rw[he,ct (aT hlt)];refine aI ?_;simp only[Instr.extract,yk,Sem.run_pure]
 rw[Rl,Oper.uponIn_value,Hj];exact hQ
theorem uO {a:Code} {m:wJ} (h:kD a=some m):∃i1 r1 i2 r2 o p q,a= .seq (.region i1 r1 false) (.seq (.cond (.tmp m.t9) .skip (.exit m.b0)) (.block m.b1 (.seq (.region i2 r2 false) m.body)))∧
  r1.toList= [o,p]∧o.guard=none∧o.dst=some m.d1∧o.op= .next (.tmp m.it) false∧p.guard=none∧p.dst=some m.t9∧p.op= .extract (.tmp m.d1) 0∧
  m.r2=r2.toList∧r2.toList=q::m.t2∧q.guard=none∧q.dst=some m.d2∧q.op= .entry (.tmp m.it):=by
 unfold kD at h;split at h
 ·rename_i i1 r1 t b0 b1 i2 r2 body;split at h
  ·rename_i d1 it t9 d2 Sh t2 hn he;replace h:=ae h;obtain⟨h1,h⟩:=h;replace h:=ae h;obtain⟨h2,h⟩:=h;replace h1:=Nat.eq_of_beq_eq_true h1;replace h2:=Nat.eq_of_beq_eq_true h2;subst h1;subst h2;cases h;unfold FU at hn;split at hn
   ·rename_i o p Uu;split at hn
    ·rename_i a1 d a2 VR a3 a4 VU a5 d' a6;replace hn:=ae hn;obtain⟨h3,hn⟩:=hn;replace h3:=Nat.eq_of_beq_eq_true h3;subst h3;cases hn;unfold Cs at he;split at he
     ·rename_i q t Uv;split at he
      ·cases he;exact⟨i1,r1,i2,r2,o,p,q,rfl,Uu,by assumption,by assumption,by assumption,by assumption,by assumption,by assumption,rfl,Uv,by assumption,by assumption,by assumption⟩
      ·cases he
     ·cases he
    ·cases hn
   ·cases hn
  ·cases h
 ·cases h
theorem filter_less {seen:List Nat} {b:Nat}:∀ {l:List MapEntry},(∃e∈l,e.born=b)->b∉seen->(l.filter λe=>!(seen++ [b]).contains e.born).length<(l.filter λe=>!seen.contains e.born).length
 | [],⟨e,he,_⟩,_=>by cases he
 |x::l,⟨e,he,hb⟩,hs=>by
  have hle:∀l:List MapEntry,(l.filter λe=>!(seen++ [b]).contains e.born).length<=(l.filter λe=>!seen.contains e.born).length:=by
   intro l;induction l with
   |nil=>exact Nat.le_refl _
   |cons y l ih=>
    rw[List.filter_cons,List.filter_cons];by_cases h1:y.born∈seen
    ·simp[h1];simpa using ih
    ·by_cases h2:y.born=b
     ·simp[h1,h2,hs];have:=ih;simp at this;omega
     ·simp[h1,h2];simpa using ih
  rw[List.filter_cons,List.filter_cons];rcases List.mem_cons.1 he with rfl|he
  ·subst hb;have:=hle l;simp[hs];simp at this;omega
  ·have ih:=filter_less ⟨e,he,hb⟩ hs;by_cases h1:x.born∈seen
   ·simp[h1];simpa using ih
   ·by_cases h2:x.born=b
    ·simp[h1,h2,hs];simp at ih;omega
    ·simp[h1,h2];simpa using ih
theorem By {a0:Code} {m:wJ} {k:Code->Option CF} {ws:List Nat} {f:CF} (Lh:kD a0=some m) (uo:lB P nt aa k ws m=some f) (hk:∀c cf,k c=some cf->du P aa nt c cf):du P aa nt (.loop a0) f:=by
 obtain⟨i1,r1,i2,r2,o,p,q,rfl,x5,Aq,Hh,GZ,Hi,Hj,G0,Kz,Hg,Ms,IC,LO⟩:=uO Lh;unfold lB at uo;replace uo:=bj uo;obtain⟨Pk,uo⟩:=uo;replace uo:=ae uo;obtain⟨wj,uo⟩:=uo;replace uo:=U uo;obtain⟨l2,ym,uo⟩:=uo;replace uo:=U uo;obtain⟨c,hc,uo⟩:=uo;have KA:=hk _ _ hc;obtain⟨h1,wj⟩:=ai wj;obtain⟨h2,wj⟩:=ai wj;obtain⟨h3,wj⟩:=ai wj;obtain⟨LP,wj⟩:=ai wj;obtain⟨C7,Jl⟩:=ai wj;have KB:m.it≠m.t9:= λe=>by rw[e,Nat.beq_refl]at Jl;cases Jl
 have Ch:m.d1<nt:=Nat.le_of_ble_eq_true h1;have Mu:m.d2<nt:=Nat.le_of_ble_eq_true h2;have h9:m.t9<nt:=Nat.le_of_ble_eq_true h3;have pU:kept aa m.d1=false:=by
  cases hb:kept aa m.d1 with
  |false=>rfl
  |true=>rw[hb]at Pk;cases Pk
 have KD:kept aa m.d2=false:=by rw[pU]at Pk;exact Pk
 rw[Kz]at ym;intro ev hev F hF ρ tm s a w e tm' s' h hE n0 fh hM hL hR Q hQ;cases uo;generalize lP:(⟨m.b0,m.b1,OP m.it,m.t9,c,l2,m.d2,FT aa ws⟩:cy)=M at h;have Rm:M.it=OP m.it:=by rw[<-lP]
 have xu:∀e tm s,bT M ev e tm s=Option.rec (motive:= λ_=>Out) .no (λaw=>iY m.b1 (gN (c ev) (js ev l2 lS (.cons m.d2 (.tuple #[e.1,e.2]) .nil) aw s))) (T.put (some (.bool true)) tm m.t9):= λe tm s=>by rw[<-lP];rfl
 have AZ:∀tm s,iy M tm s=Option.rec (motive:= λ_=>Out) .no (λaw=> .code (.exit m.b0) aw s) (T.put (some (.bool false)) tm m.t9):= λtm s=>by rw[<-lP];rfl
 have h:Option.rec (motive:= λ_=>Out) .no (λee=>match M.it .nil ee with
  |some (.pointer (some ⟨ib,0,none⟩))=>lz (s.h.get ib) λr ck=>Option.rec (motive:= λ_=>Out) .no (λes=>Option.rec (motive:= λ_=>Out) .no (λs1=>nj M ev ee s1 r es (dK M ev ee s1 es none)) (s.set ib none)) (rJ s r ck)
  |_=> .no) (yy M.ws tm)= .code e tm' s':=h
 cases mc:yy M.ws tm with
 |none=>rw[mc]at h;cases h
 |some ee=>
  rw[mc]at h;have h:(match M.it .nil ee with
   |some (.pointer (some ⟨ib,0,none⟩))=>lz (s.h.get ib) λr ck=>Option.rec (motive:= λ_=>Out) .no (λes=>Option.rec (motive:= λ_=>Out) .no (λs1=>nj M ev ee s1 r es (dK M ev ee s1 es none)) (s.set ib none)) (rJ s r ck)
   |_=> .no)= .code e tm' s':=h
  have dj:=vJ mc;have G1:bt aa nt ρ ee a:=⟨hE.size,λt v hv=>hE.tk t v (dj t v hv),λt v hv=>hE.env t v (dj t v hv)⟩
  split at h
  ·rename_i ib Jz;rw[Rm]at Jz;have Jz:ee.get m.it=some (.pointer (some ⟨ib,0,none⟩)):=Jz;unfold lz at h;split at h
   ·rename_i r ck hblk;have h:Option.rec (motive:= λ_=>Out) .no (λes=>Option.rec (motive:= λ_=>Out) .no (λs1=>nj M ev ee s1 r es (dK M ev ee s1 es none)) (s.set ib none)) (rJ s r ck)= .code e tm' s':=h;cases hes:rJ s r ck with
    |none=>rw[hes]at h;cases h
    |some es=>
     rw[hes]at h;cases gZ:s.set ib none with
     |none=>rw[gZ]at h;cases h
     |some s1=>
      rw[gZ]at h;have h:nj M ev ee s1 r es (dK M ev ee s1 es none)= .code e tm' s':=h;have oE:∀ {a1:Act},bt aa nt ρ ee a1->∃x,ρ ib=some x∧a1.eval (.tmp m.it)= .pointer (some ⟨x.b,x.base,none⟩):= λ {a1} da=>by
       obtain⟨u,hu,hv⟩:=da.env _ _ Jz;cases hv with
       |ptr off hx=>exact⟨_,hx,by rw[ct hu];simp⟩
      obtain⟨x,hx,_⟩:=oE G1;obtain⟨Rn,yD,pV⟩:=hR.blk ib _ x hblk hx;have oE:∀ {a1:Act},bt aa nt ρ ee a1->a1.eval (.tmp m.it)= .pointer (some ⟨x.b,0,none⟩):= λ {a1} da=>by obtain⟨x',fm,he⟩:=oE da;rw[hx]at fm;cases fm;rw[he,yD]
      obtain⟨dn,dv⟩:=hR.forget gZ hx;have ug:s1.nx=s.nx:=(AS.cP gZ).1;have GX:¬aQ ρ s1 x.b:=by
       rintro⟨a',k',x',e1,e2,e3⟩;rw[(AS.cP gZ).2]at e1;by_cases hne:a'=ib
       ·rw[if_pos hne]at e1;cases e1
       ·rw[if_neg hne]at e1;have:=(hR.aX a' ib k' _ x' x hne e1 hblk e2 hx e3).2;cases this
      cases Ax:dK M ev ee s1 es none with
      |none=>
       rw[Ax]at h;have h:M7 M ev ee s1 r es= .code e tm' s':=h;cases r with
       |none=>cases h
       |some mb=>
        rcases pV with ⟨h0,_⟩|⟨VV,y,Ro,hy,pV⟩
        ·cases h0
        cases Ro;have hes:mapOf (s.h.get mb) (λ_ es ck'=>ab (Nat.beq ck ck') (some es) none)=some es:=hes;replace hes:=bk hes;obtain⟨kt,bf,ck',GP,hes⟩:=hes;replace hes:=ae hes;obtain⟨Ar,hes⟩:=hes;replace Ar:=Nat.eq_of_beq_eq_true Ar;subst Ar;cases hes;have hne:mb≠ib:= λe=>by rw[e,hblk]at GP;cases GP
        have z7:∀j,s1.h.get j=if j=ib then none else s.h.get j:=(AS.cP gZ).2
        have rk:s1.h.get mb=some (.map kt es ck):=by rw[z7,if_neg hne];exact GP
        obtain⟨KE,ents,B7,fj,iQ⟩:=hR.blk mb _ y GP hy;have EE:∀j k,s1.h.get j=some k->s.h.get j=some k∧j≠ib:= λj k e=>by
         rw[z7]at e;by_cases hj:j=ib
         ·rw[if_pos hj]at e;cases e
         ·rw[if_neg hj]at e;exact⟨e,hj⟩
        have HH:∀j k,s1.h.get j=some k->j<s1.nx:= λj k e=>Nat.lt_of_not_le λhle=>by rw[dn.top j hle]at e;cases e
        have wR:∀e∈ents.toList,∃p∈es,bN P ρ kt p e:= λe he=>by obtain⟨l,hp,hf,_⟩:=fj;exact F2.cp hf e (hp.mem_iff.2 he)
        have HJ:∀p∈es,∃e∈ents.toList,bN P ρ kt p e:= λp hp=>by obtain⟨l,Eb,hf,_⟩:=fj;obtain⟨g6,fQ,rfl⟩:=List.append_of_mem hp;obtain⟨m1,b,m2,rfl,_,hr,_⟩:=hf.split;exact⟨b,Eb.mem_iff.1 (by simp),hr⟩
        have Qi:(es.map (·.1)).Nodup:=by obtain⟨l,Eb,hf,ew⟩:=fj;exact ew
        have yH:∀p∈es,∀q∈es,p.1=q.1->p=q:= λp hp q hq e=>by
         have ew:=Qi;obtain⟨g6,fQ,rfl⟩:=List.append_of_mem hp;rw[List.map_append,List.map_cons,List.nodup_append]at ew;rcases List.mem_append.1 hq with hq|hq
         ·exact(ew.2.2 q.1 (List.mem_map.2 ⟨q,hq,rfl⟩) p.1 (by simp) e.symm).elim
         ·rcases List.mem_cons.1 hq with rfl|hq
          ·rfl
          ·exact((List.nodup_cons.1 ew.2.1).1 (by rw[e];exact List.mem_map.2 ⟨q,hq,rfl⟩)).elim
        have CK:∀e'∈ents.toList,∀e∈ents.toList,e'.key=e.key->e'=e:= λe' gq e he hk=>by
         obtain⟨l,Eb,hf,ew⟩:=fj;have HK:(ents.toList.map (·.key)).Nodup:=(Eb.map _).nodup_iff.1 (by rw[xt (λp e h=>h.1) hf];exact ew);obtain⟨t1,t2,ht⟩:=List.append_of_mem he;rw[ht]at gq HK;rw[List.map_append,List.map_cons,List.nodup_append]at HK;rcases List.mem_append.1 gq with gq|gq
         ·exact(HK.2.2 e'.key (List.mem_map.2 ⟨e',gq,rfl⟩) e.key (by simp) hk).elim
         ·rcases List.mem_cons.1 gq with rfl|gq
          ·rfl
          ·exact((List.nodup_cons.1 HK.2.1).1 (by rw[<-hk];exact List.mem_map.2 ⟨e',gq,rfl⟩)).elim
        have lN:∀e∈ents.toList,∀e'∈ents.toList,e.born=e'.born->e=e':= λe he e' gq hb=>by
         obtain⟨t1,t2,ht⟩:=List.append_of_mem he;have ew:=iQ.1;rw[ht]at gq ew;rw[List.map_append,List.map_cons,List.nodup_append]at ew;rcases List.mem_append.1 gq with gq|gq
         ·exact(ew.2.2 e'.born (List.mem_map.2 ⟨e',gq,rfl⟩) e.born (by simp) hb.symm).elim
         ·rcases List.mem_cons.1 gq with rfl|gq
          ·rfl
          ·exact((List.nodup_cons.1 ew.2.1).1 (by rw[hb];exact List.mem_map.2 ⟨e',gq,rfl⟩)).elim
        have h:Option.rec (motive:= λ_=>Out) .no (λs2=>iy M ee s2) (Lz (oK M ev ee s1 mb es [256,1024,4096]) (oJ M ev ee s1 mb es [64,256,1024,2048,4096,16384,1000000]))= .code e tm' s':=h;have gL:(∃sz,oK M ev ee s1 mb es [256,1024,4096]=some sz∧iy M ee sz= .code e tm' s')∨Option.rec (motive:= λ_=>Out) .no (λs2=>iy M ee s2) (oJ M ev ee s1 mb es [64,256,1024,2048,4096,16384,1000000])= .code e tm' s':=by
         cases uh:oK M ev ee s1 mb es [256,1024,4096]with
         |none=>rw[uh]at h;exact .inr h
         |some sz=>rw[uh]at h;exact .inl ⟨sz,rfl,h⟩
        clear h;refine gL.elim ?_ λh=>?_
        ·rintro⟨sz,uh,h⟩;obtain⟨L,Qj⟩:=qn uh;obtain⟨od,s2,sB,q,mm,Qk,Pl,me,Iw,JN,ws,VW,VX,hz,Uw,Ql,EF,KF,KG,Pf,SN,Qm,Ux,Rp,Oq,JO,Rq,Kw,Nk,A0,yh,A1,lU,bC,mQ,hsz,Ot⟩:=Bx Qj;obtain⟨JP,SO,Mv,LQ⟩:=nN KF;have B8:s1.lim=s.lim:=(AS.aS gZ).1;have C8:∀a∈mb::od,∀k,s1.h.get a=some k->eo k=false∧∀c sz n ro et,k≠.cells c sz n ro et:= λa ha k hk=>by
          rcases List.mem_cons.1 ha with rfl|ha
          ·rw[rk]at hk;cases hk;exact⟨rfl,λ_ _ _ _ _=>by simp⟩
          ·have:=(i6 EF a ha).1;rw[hk]at this;cases k with
           |cells=>cases this
           |map=>cases this
           |cQ=>exact⟨rfl,λ_ _ _ _ _=>by simp⟩
           |mapIter=>exact⟨rfl,λ_ _ _ _ _=>by simp⟩
           |loop=>exact⟨rfl,λ_ _ _ _ _=>by simp⟩
           |pmap=>exact⟨rfl,λ_ _ _ _ _=>by simp⟩
         have oF:∀j k,s2.h.get j=some k->s1.h.get j=some k∧j∉mb::od:= λj k e=>by
          rw[LQ]at e;by_cases hj:j∈mb::od
          ·rw[if_pos hj]at e;cases e
          ·rw[if_neg hj]at e;exact⟨e,hj⟩
         have dO:Rel P ρ s2 w:=dn.Kx (λj k e=>(oF j k e).1) JP (by rw[SO,JP,B8,ug];exact hR.lim);have pW:sB.nx=s1.nx:=SN.trans JP;have C9:∀j,sB.h.get j=if j∈mm::cg ws then none else s2.h.get j:= λj=>by
          rw[Ux];have:j∈mm::JN↔j∈mm::cg ws:=by rw[List.mem_cons,List.mem_cons];exact⟨λh=>h.imp id (Rp j),λh=>h.imp id (Oq j)⟩
          by_cases hj:j∈mm::cg ws
          ·rw[if_pos hj,if_pos (this.2 hj)]
          ·rw[if_neg hj,if_neg (λh=>hj (this.1 h))]
         have Qn:∀a∈mm::cg ws,sB.h.get a=none:= λa ha=>by rw[C9,if_pos ha]
         have HM:∀j k,sB.h.get j=some k->s2.h.get j=some k∧j∉mm::cg ws:= λj k e=>by
          rw[C9]at e;by_cases hj:j∈mm::cg ws
          ·rw[if_pos hj]at e;cases e
          ·rw[if_neg hj]at e;exact⟨e,hj⟩
         have Uy:Rel P ρ sB w:=dO.Kx (λj k e=>(HM j k e).1) SN (by rw[Qm,pW];exact Ql);have gO:∀a∈mm::cg ws,∃k,s2.h.get a=some k∧eo k=false:= λa ha=>by
          rcases List.mem_cons.1 ha with rfl|ha
          ·exact⟨_,Pf,rfl⟩
          ·obtain⟨d,hd,ha⟩:=bJ.1 ha;obtain⟨k,h1,h2,_⟩:=kY ((JO d hd).own a ha).1;exact⟨k,h1,h2⟩
         have JQ:∀ {b},aQ ρ sB b->aQ ρ s2 b:= λ {b} ⟨a,k,x',e1,e2,e3⟩=>⟨a,k,x',(HM _ _ e1).1,e2,e3⟩
         have Pm:∀ {b},aQ ρ s2 b->aQ ρ s b:= λ {b} ⟨a,k,x',e1,e2,e3⟩=>⟨a,k,x',(EE _ _ (oF _ _ e1).1).1,e2,e3⟩
         have Pn:∀a∈mm::cg ws,∀x',ρ a=some x'->¬aQ ρ sB x'.b:=by rintro a ha x' e1 ⟨a',k',qv,e3,e4,e5⟩;obtain⟨k,hk,hro⟩:=gO a ha;obtain⟨c1,c2⟩:=HM _ _ e3;have:=(dO.aX a a' k k' x' qv (λe=>c2 (by rw[<-e];exact ha)) hk c1 e1 e4 e5.symm).1;rw[hro]at this;cases this
         have SP:∀a∈mm::cg ws,∀a'∈mm::cg ws,a≠a'->∀x' qv,ρ a=some x'->ρ a'=some qv->x'.b≠qv.b:= λa ha a' cZ cL x' qv e1 e2 e3=>by obtain⟨k,hk,hro⟩:=gO a ha;obtain⟨k',fZ,_⟩:=gO a' cZ;have:=(dO.aX a a' k k' x' qv cL hk fZ e1 e2 e3).1;rw[hro]at this;cases this
         have KH:∀a∈mb::od,∀k x',s1.h.get a=some k->ρ a=some x'->¬aQ ρ s2 x'.b:=by rintro a ha k x' e1 e2 ⟨a',k',qv,e3,e4,e5⟩;obtain⟨c1,c2⟩:=oF _ _ e3;have:=(dn.aX a a' k k' x' qv (λe=>c2 (by rw[<-e];exact ha)) e1 c1 e2 e4 e5.symm).1;rw[(C8 a ha k e1).1]at this;cases this
         have KI:¬aQ ρ s2 x.b:= λ⟨a',k',qv,e3,e4,e5⟩=>GX ⟨a',k',qv,(oF _ _ e3).1,e4,e5⟩;have Nl:¬aQ ρ sB x.b:= λh=>KI (JQ h);have Mw:∀a∈mb::od,∀k x',s1.h.get a=some k->ρ a=some x'->x'.b≠x.b:= λa ha k x' e1 e2 e3=>GX ⟨a,k,x',e1,e2,e3⟩;have SQ:∀a∈mm::cg ws,∀x',ρ a=some x'->aQ ρ s2 x'.b:= λa ha x' e1=>by obtain⟨k,hk,_⟩:=gO a ha;exact⟨a,k,x',hk,e1,rfl⟩
         have HN:=yh mm List.mem_cons_self;have HO:mm∉cg ws:=(List.nodup_cons.1 Nk).1;have SR:=(List.nodup_cons.1 Nk).2;have Hk:aN ρ s w ρ (sB.wl s.lim) w:=by
          refine⟨λ_ _=>rfl,by show s.nx<=sB.nx;rw[pW,ug];exact Nat.le_refl _,rfl,rfl,rfl,Nat.le_refl _,λb hb hn=>⟨rfl,λh=>hn (Pm (JQ h))⟩,λa ha hn=>?_,λb r hb=>⟨r,hb⟩,rfl,λa ha=>?_,λ_ _ _ _ _ _ _ _=>rfl⟩
          ·show sB.h.get a=s.h.get a∨sB.h.get a=none;rw[C9,LQ,z7];by_cases h0:a∈mm::cg ws
           ·rw[if_pos h0];exact .inr rfl
           ·rw[if_neg h0];by_cases h1:a∈mb::od
            ·rw[if_pos h1];exact .inr rfl
            ·rw[if_neg h1];by_cases h2:a=ib
             ·rw[if_pos h2];exact .inr rfl
             ·rw[if_neg h2];exact .inl rfl
          ·show sB.h.get a=s.h.get a;have ha:a<s.lim:=ha;rw[C9,LQ,z7,if_neg (λhm=>by have:=(yh a hm).1;omega),if_neg (λhm=>by have:=Mv a hm;omega),if_neg (λe=>by have:=(AS.aS gZ).2;omega)]
         let HI:World->Prop:= λw1=>∀a∈mb::od,∀k x',s1.h.get a=some k->ρ a=some x'->w1.heap[x'.b]? =w.heap[x'.b]?
         let In:List WD->List an->World->Prop:= λDn ec w1=>
          (∀d∈ws,d∈Dn->∀a∈d.own,∀k x',d.R.h.get a=some k->ρ a=some x'->cj P ρ x' w1 k)∧
          (∀d∈ws,d∉Dn->∀a∈d.own,∀k x',s2.h.get a=some k->ρ a=some x'->cj P ρ x' w1 k)∧
          (∀y',ρ mm=some y'->∃ents',w1.heap[y'.b]? =some (.map ents' Pl)∧aW P ρ Qk ec ents'∧Borns Pl ents')∧LN me Dn ec∧(∀d∈Dn,d∈ws∧∀a∈mm::d.own,ρ a≠none)
         have KJ:∀ {Dn ec w1 w2},In Dn ec w1->(∀a∈mm::cg ws,∀x',ρ a=some x'->w2.heap[x'.b]? =w1.heap[x'.b]?)->In Dn ec w2:= λ {Dn ec w1 w2} h hh=>by obtain⟨a1,a2,a3,a4,a5⟩:=h;refine⟨λd hd hD a ha k x' e1 e2=>(a1 d hd hD a ha k x' e1 e2).congr (hh a (List.mem_cons_of_mem _ (bJ.2 ⟨d,hd,ha⟩)) x' e2),λd hd hD a ha k x' e1 e2=>(a2 d hd hD a ha k x' e1 e2).congr (hh a (List.mem_cons_of_mem _ (bJ.2 ⟨d,hd,ha⟩)) x' e2),λy' e=>?_,a4,a5⟩;obtain⟨ents',b1,b2,b3⟩:=a3 y' e;exact⟨ents',by rw[hh mm List.mem_cons_self y' e];exact b1,b2,b3⟩
         let I:Act->World->Prop:= λa1 w1=>∃(Dn:List WD) (ec:List an) (seen:Array Nat),bt aa nt ρ ee a1∧Marks n0 ρ sB w1 a1.defers∧Rel P ρ sB w1∧aN ρ s w ρ (sB.wl s.lim) w1∧HI w1∧
          w1.heap[x.b]? =some (.mapIter (some y.b) ck seen ck)∧In Dn ec w1∧
          (∀en∈ents.toList,∀p∈es,bN P ρ kt p en->en.born∈seen.toList∨p∈q.1∨∃d∈ws,d∉Dn∧d.e=p)∧(∀d∈ws,d∉Dn->∃en∈ents.toList,bN P ρ kt d.e en∧en.born∉seen.toList)
         let μ:Act->World->Nat:= λ_ w1=>match w1.heap[x.b]? with|some (.mapIter _ _ seen _)=>(ents.toList.filter λ(e:MapEntry)=>!seen.toList.contains e.born).length|_=>0
         obtain⟨Uz,LR,Qo⟩:=mG KG;have Qp:∀d∈ws,d.e∈es:= λd hd=>LR.subset (by rw[<-A0];exact ji.2 ⟨d,hd,rfl⟩);have UA:((rz ws).map (·.1)).Nodup:=by rw[A0];exact Qi.sublist (LR.map _)
         refine wpIn_loop I μ ⟨[],me,#[],G1,(hM.re (λd hd=>?_)),Uy,Hk,λa ha k x' e1 e2=>rfl,pV,⟨λd _ h=>(by cases h),λd hd _ a ha k x' e1 e2=>(dO.blk a k x' e1 e2).2,λy' e1=>(dO.blk mm _ y' Pf e1).2,⟨rfl,λd h=>(by cases h),λi _=>rfl⟩,λd h=>(by cases h)⟩,λen hen p hp _=>?_,λd hd _=>?_⟩ (λa1 w1 hI=>?_)
         ·obtain⟨r,z1,z2,z3,z4,z5⟩:=hd;exact⟨r,z1,z2,z3,λh=>z4 (Pm (JQ h)),z5⟩
         ·rcases Qo p hp with h|h
          ·exact .inr (.inl h)
          ·rw[<-A0]at h;obtain⟨d,hd,he⟩:=ji.1 h;exact .inr (.inr ⟨d,hd,(by simp),he⟩)
         ·obtain⟨en,h1,h2⟩:=HJ d.e (Qp d hd);exact⟨en,h1,h2,by simp⟩
         obtain⟨Dn,ec,seen,da,g7,G2,gM,JR,uu,hIn,Da,Db⟩:=hI;have uj:w1.heap[y.b]? =some (.map ents ck):=by rw[JR mb List.mem_cons_self _ y rk hy];exact B7
         have hμ:μ a1 w1=(ents.toList.filter λe=>!seen.toList.contains e.born).length:=by show(match w1.heap[x.b]? with|some (.mapIter _ _ seen _)=>(ents.toList.filter λ(e:MapEntry)=>!seen.toList.contains e.born).length|_=>0)=_;rw[uu]
         refine wpIn_seq ?_;rcases next_some (P:=P) uu uj iQ with ⟨w2,hall,hrun,hsame⟩|⟨en,w2,hen,hnew,hrun,hsame⟩
         ·
          refine cB hF x5 Aq Hh GZ Hi Hj G0 (vs:= #[.bool false]) (b:=false) rfl (Nat.lt_of_lt_of_le Ch da.size) (λty=>by rw[oE da];exact hrun ty) ?_;have hD:∀d∈ws,d∈Dn:= λd hd=>Classical.byContradiction λhn=>by obtain⟨en,h1,_,h3⟩:=Db d hd hn;exact h3 (hall en h1)
          have iu:Rel P ρ sB w2:=G2.of_heap hsame.heap;have fC:aN ρ s w ρ (sB.wl s.lim) w2:=gM.trans (.of_heap hsame.heap hsame.tape hsame.os hsame.out);have wu:Marks n0 ρ sB w2 a1.defers:=g7.step (.of_heap hsame.heap hsame.tape hsame.os hsame.out);have Rr:In Dn ec w2:=KJ hIn λa ha x' e=>by rw[hsame.heap]
          have HP:HI w2:= λa ha k x' e1 e2=>by rw[hsame.heap];exact JR a ha k x' e1 e2
          obtain⟨b1,b2,b3,b4,b5⟩:=Rr;have UB:ec=Iw:=b4.all (λd hd=>(b5 d hd).1) hD Rq;subst UB;obtain⟨UC,UD⟩:=zh lU SR;have Qq:=Hp.aR _ _ _ _ bC;have Po:=jh mQ;have SS:∀a∈mm::cg ws,a∉mb::od:= λa ha hm=>by obtain⟨k,hk,_⟩:=gO a ha;exact(oF a k hk).2 hm
          have Mx:∀j,hz.get j=if j∈(mm::cg ws)++(mb::od)then hz.get j else sB.h.get j:= λj=>by
           by_cases hj:j∈(mm::cg ws)++(mb::od)
           ·rw[if_pos hj]
           ·rw[if_neg hj];rw[List.mem_append]at hj;have h1:j∉mm::cg ws:= λh=>hj (.inl h);have h2:j∉mb::od:= λh=>hj (.inr h);rw[Po,if_neg h2,Qq,if_neg (λe=>h1 (by rw[e];exact List.mem_cons_self)),UD j (λh=>h1 (List.mem_cons_of_mem _ h)),C9,if_neg h1]
          have P1:hz.get mm=some (.map Qk ec Pl):=by rw[Po,if_neg (SS mm List.mem_cons_self),Qq,if_pos rfl]
          have UE:∀d∈ws,∀a∈d.own,hz.get a=d.R.h.get a:= λd hd a ha=>by have hm:a∈cg ws:=bJ.2 ⟨d,hd,ha⟩;rw[Po,if_neg (SS a (List.mem_cons_of_mem _ hm)),Qq,if_neg (λe=>HO (by rw[<-e];exact hm)),UC d hd a ha]
          have yr:∀a∈mb::od,hz.get a=s1.h.get a:= λa ha=>by rw[Po,if_pos ha]
          have My:∀a∈(mm::cg ws)++(mb::od),∀k x',hz.get a=some k->ρ a=some x'->(∃k0,s1.h.get a=some k0∧eo k0=false)∧eo k=false∧cj P ρ x' w2 k:= λa ha k x' e1 e2=>by
           rcases List.mem_append.1 ha with ha|ha
           ·obtain⟨k0,Ad,hro⟩:=gO a ha;refine⟨⟨k0,(oF _ _ Ad).1,hro⟩,?_⟩;rcases List.mem_cons.1 ha with rfl|ha
            ·rw[P1]at e1;cases e1;exact⟨rfl,b3 x' e2⟩
            ·obtain⟨d,hd,ha⟩:=bJ.1 ha;rw[UE d hd a ha]at e1;obtain⟨k2,h1,h2,_⟩:=kY ((JO d hd).own a ha).2.1;rw[e1]at h1;cases h1;exact⟨h2,b1 d hd (hD d hd) a ha k x' e1 e2⟩
           ·rw[yr a ha]at e1;exact⟨⟨k,e1,(C8 a ha k e1).1⟩,(C8 a ha k e1).1,((dn.blk a k x' e1 e2).2).congr (HP a ha k x' e1 e2)⟩
          have UF:∀a∈(mm::cg ws)++(mb::od),∀k x',hz.get a=some k->ρ a=some x'->¬aQ ρ sB x'.b:= λa ha k x' e1 e2=>by
           rcases List.mem_append.1 ha with ha|ha
           ·exact Pn a ha x' e2
           ·rw[yr a ha]at e1;exactλh=>KH a ha k x' e1 e2 (JQ h)
          have Qr:Rel P ρ ⟨hz,s1.nx,s.lim⟩ w2:=by
           refine sv (g:=sB.h) (H:=(mm::cg ws)++(mb::od)) (h1:=hz) ⟨λa ha=>iu.eu a (by rw[pW];exact ha),λa ha=>iu.top a (by rw[pW];exact ha),iu.blk,by show s.lim<=s1.nx;rw[ug];exact hR.lim,iu.aX,iu.gl⟩ Mx (λa ha k x' e1 e2=>?_) (λa ha=>?_) (λa ha a' cZ k k' x' qv cL e1 e2 r1 r2 hb=>?_)
           ·obtain⟨⟨k0,Ad,_⟩,_,hB⟩:=My a ha k x' e1 e2;refine⟨Nat.lt_of_lt_of_le (dn.blk a k0 x' Ad e2).1 fC.size,hB,λh=>UF a ha k x' e1 e2 h,λgg gl vs g1 g2 e=>?_⟩;exact(dn.gl gg gl vs g1 g2).2.1 ⟨a,k0,x',Ad,e2,e⟩
           ·rcases List.mem_append.1 ha with ha|ha
            ·exact(yh a ha).2
            ·rcases List.mem_cons.1 ha with rfl|ha
             ·exact HH _ _ rk
             ·have:=(i6 EF a ha).2.2;omega
           ·obtain⟨⟨k0,Ad,q0⟩,_⟩:=My a ha k x' e1 r1;obtain⟨⟨k1,lf,_⟩,_⟩:=My a' cZ k' qv e2 r2;have:=(dn.aX a a' k0 k1 x' qv cL Ad lf r1 r2 hb).1;rw[q0]at this;cases this
          have wS:∀b,aQ ρ ⟨hz,s1.nx,s.lim⟩ b->aQ ρ s b:=by
           rintro b ⟨a,k,x',e1,e2,e3⟩;have e1:hz.get a=some k:=e1;by_cases hm:a∈(mm::cg ws)++(mb::od)
           ·obtain⟨⟨k0,Ad,_⟩,_⟩:=My a hm k x' e1 e2;exact⟨a,k0,x',(EE _ _ Ad).1,e2,e3⟩
           ·rw[Mx,if_neg hm]at e1;exact Pm (JQ ⟨a,k,x',e1,e2,e3⟩)
          have Qs:aN ρ s w ρ ⟨hz,s1.nx,s.lim⟩ w2:=by
           refine⟨λ_ _=>rfl,by show s.nx<=s1.nx;omega,fC.tape,fC.os,fC.out,fC.size,λb hb hn=>⟨(fC.frame b hb hn).1,λh=>hn (wS b h)⟩,λa ha hn=>?_,fC.lp,rfl,λa ha=>?_,fC.gD⟩
           ·show hz.get a=s.h.get a∨hz.get a=none;have Qt:a≠ib:= λe=>by rw[e,hx]at hn;cases hn
            have h1a:s1.h.get a=s.h.get a:=by rw[z7,if_neg Qt]
            by_cases hm:a∈mb::od
            ·rw[yr a hm,h1a];exact .inl rfl
            ·by_cases ho:a∈mm::cg ws
             ·exfalso;rcases List.mem_cons.1 ho with rfl|gz
              ·have Rs:∃d,d∈ws:=by
                cases ws with
                |nil=>exact(Ot rfl).elim
                |cons d _=>exact⟨d,List.mem_cons_self⟩
               obtain⟨d,hd⟩:=Rs;exact(b5 d (hD d hd)).2 _ List.mem_cons_self hn
              ·obtain⟨d,hd,cZ⟩:=bJ.1 gz;exact(b5 d (hD d hd)).2 a (List.mem_cons_of_mem _ cZ) hn
             ·rw[Mx,if_neg (λh=>(List.mem_append.1 h).elim ho hm),C9,if_neg ho,LQ,if_neg hm,h1a];exact .inl rfl
           ·show hz.get a=s.h.get a;have ha:a<s.lim:=ha;have hm:a∉(mm::cg ws)++(mb::od):= λh=>by
             rcases List.mem_append.1 h with h|h
             ·have:=(yh a h).1;omega
             ·have:=Mv a h;omega
            rw[Mx,if_neg hm];exact Hk.low a ha
          rw[AZ]at h;cases hp:T.put (some (.bool false)) ee m.t9 with
          |none=>rw[hp]at h;cases h
          |some aw=>
           rw[hp,hsz,B8]at h;cases h;have mR:=da.eD (u:= .tuple #[.bool false]) pU;have Ci:=mR.put LP h9 (.bool false) hp;refine wpIn_seq ?_;have Ed:((a1.put (some m.d1) (.tuple #[.bool false])).put (some m.t9) (.bool false)).eval (.tmp m.t9)= .bool false:=ct (aT (Nat.lt_of_lt_of_le h9 mR.size));refine wpIn_cond Ed ?_;refine wpIn_exit ?_;refine hQ ρ _ _ Ci ?_ Qr Qs;rw[aB,aB];refine wu.re (λd hd=>?_);obtain⟨r,z1,z2,z3,z4,z5⟩:=hd;refine⟨r,z1,z2,z3,?_,z5⟩;rintro⟨a,k,x',e1,e2,rfl⟩;have e1:hz.get a=some k:=e1;by_cases hm:a∈(mm::cg ws)++(mb::od)
           ·exact po (My a hm k x' e1 e2).2.2 z2
           ·rw[Mx,if_neg hm]at e1;exact z4 ⟨a,k,x',e1,e2,rfl⟩
         ·
          refine cB hF x5 Aq Hh GZ Hi Hj G0 (vs:= #[.bool true,en.key,en.val]) (b:=true) rfl (Nat.lt_of_lt_of_le Ch da.size) (λty=>by rw[oE da];exact hrun ty) ?_;have EG:Rel P ρ sB w2:=G2.of_heap hsame.heap;generalize hw3:({w2 with heap:=w2.heap.setIfInBounds x.b (.mapIter (some y.b) ck (seen.push en.born) ck)}:World)=w3;have iu:Rel P ρ sB w3:=by rw[<-hw3];exact EG.wP Nl (λi=>by simp[World.cell?,hsame.heap,uu])
          have G8:x.b<w2.heap.size:=by have:=(Array.getElem?_eq_some_iff.1 uu).1;rw[hsame.heap];exact this
          have oG:w3.heap[x.b]? =some (.mapIter (some y.b) ck (seen.push en.born) ck):=by rw[<-hw3];simp[G8]
          have LS:x.b<w3.heap.size:=(Array.getElem?_eq_some_iff.1 oG).1;have Dg:y.b≠x.b:=Mw mb List.mem_cons_self _ y rk hy;have eQ:∀b,b≠x.b->w3.heap[b]? =w1.heap[b]?:= λb hb=>by rw[<-hw3];simp only;rw[Array.getElem?_setIfInBounds_ne (Ne.symm hb),hsame.heap]
          have ve:w3.heap[y.b]? =some (.map ents ck):=by rw[eQ _ Dg];exact uj
          have hsz3:w3.heap.size=w1.heap.size:=by rw[<-hw3];simp[hsame.heap]
          have ht3:w3.tape=w1.tape∧w3.os=w1.os∧w3.output=w1.output:=by rw[<-hw3];exact⟨hsame.tape,hsame.os,hsame.out⟩
          have P0:s.lim<=ib:=(AS.aS gZ).2;have ij:aN ρ s w ρ (sB.wl s.lim) w3:=by
           refine⟨gM.jY,gM.nx,by rw[ht3.1];exact gM.tape,by rw[ht3.2.1];exact gM.os,by rw[ht3.2.2];exact gM.out,by rw[hsz3];exact gM.size,λb hb hn=>?_,gM.ph,λb l hb=>?_,gM.lim,gM.low,λa' k' x' hl hn fZ hro fm=>?_⟩
           ·have iO:b≠x.b:= λe=>hn ⟨ib,_,x,hblk,hx,e.symm⟩;obtain⟨q1,q2⟩:=gM.frame b hb hn;exact⟨by rw[eQ b iO];exact q1,q2⟩
           ·have iO:b≠x.b:= λe=>by rw[e,pV]at hb;cases hb
            rw[eQ b iO];exact gM.lp b l hb
           ·have iO:x'.b≠x.b:= λe=>by
             have cL:a'≠ib:=by omega
             have:=(hR.aX a' ib k' _ x' x cL fZ hblk fm hx e).1;rw[hro]at this;cases this
            rw[eQ _ iO];exact gM.gD a' k' x' hl hn fZ hro fm
          have II:Marks n0 ρ sB w3 a1.defers:=by
           refine g7.re (λd hd=>?_);obtain⟨r,q1,q2,q3,q4,q5⟩:=hd;have Mz:r≠x.b:= λe=>by rw[e,uu]at q2;cases q2
           exact⟨r,q1,by rw[eQ r Mz];exact q2,by rw[hsz3];exact q3,q4,q5⟩
          have EH:HI w3:= λa ha k x' e1 e2=>by rw[eQ _ (Mw a ha k x' e1 e2)];exact JR a ha k x' e1 e2
          have Nm:In Dn ec w3:=KJ hIn λa ha x' e=>eQ _ λe'=>KI (by rw[<-e'];exact SQ a ha x' e);have MA:∀l,F.round=some l->∃r,w3.heap[l]? =some (Obj.loop r):=dG hL ij;have Jw:n0.n<=w3.heap.size:=Nat.le_trans fh ij.size;refine wpIn_seq ?_;have mR:=da.eD (u:= .tuple #[.bool true,en.key,en.val]) pU;have Ed:((a1.put (some m.d1) (.tuple #[.bool true,en.key,en.val])).put (some m.t9) (.bool true)).eval (.tmp m.t9)= .bool true:=ct (aT (Nat.lt_of_lt_of_le h9 mR.size));refine wpIn_cond Ed ?_;refine wpIn_skip ?_;show(Code.block m.b1 (.seq (.region i2 r2 false) m.body)).wpIn F 0 P _ _ w3;obtain⟨pe,x9,hent⟩:=wR en hen;have ju:∀(JS:Ren),ur ρ JS->∀(sA:AS) (xx:cm) (tx:T Value) (sx:AS),bT M ev (pe.1,pe.2.1) ee sA= .code xx tx sx->Rel P JS sA w3->Marks n0 JS sA w3 a1.defers->∀Q':Exit->Act->World->Prop,lu P n0 aa nt JS sA w3 xx tx sx Q'->
            (Code.block m.b1 (.seq (.region i2 r2 false) m.body)).wpIn F 0 P Q' ((a1.put (some m.d1) (.tuple #[.bool true,en.key,en.val])).put (some m.t9) (.bool true)) w3:=by
           intro JS SU sA xx tx sx dL JK MB Q' MC;rw[xu]at dL;cases hp:T.put (some (.bool true)) ee m.t9 with
           |none=>rw[hp]at dL;cases dL
           |some aw=>
            rw[hp]at dL;have Rt:bt aa nt JS ee a1:=⟨da.size,da.tk,gC.oA SU da.env⟩
            have Ru:=Rt.eD (u:= .tuple #[.bool true,en.key,en.val]) pU;have Ci:=Ru.put LP h9 (.bool true) hp;have MD:ag JS pe.1 en.key:=by rw[hent.1];have:=hent.2.2.1;rw[hent.1]at this;exact jL this
            have EJ:((a1.put (some m.d1) (.tuple #[.bool true,en.key,en.val])).put (some m.t9) (.bool true)).eval (.tmp m.it)= .pointer (some ⟨x.b,0,none⟩):=by
             have EL:m.it≠m.d1:= λe=>by rw[e,pU]at C7;cases C7
             rw[cx (by intro e;exact KB (by injection e)),cx (by intro e;exact EL (by injection e))];exact oE da
            exact kZ hev hF KA ym Hg Ms IC LO KD Mu (k:=pe.1) (v:=pe.2.1) dL Ci Jw (by rw[aB,aB];exact MB) MA JK (by rw[EJ];exact run_entry oG ve iQ hen) MD (hent.2.2.2.1.oA SU) MC
          have hrefl:ur ρ ρ:= λa x e=>⟨x,e,rfl,rfl,rfl⟩
          have EN:∀ {w':World} {a':Act},w'.heap[x.b]? =some (.mapIter (some y.b) ck (seen.push en.born) ck)->μ a' w'<μ a1 w1:= λ {w' a'} dg=>by rw[hμ];show(match w'.heap[x.b]? with|some (.mapIter _ _ seen _)=>(ents.toList.filter λ(e:MapEntry)=>!seen.toList.contains e.born).length|_=>0)<_;rw[dg];simp only[Array.toList_push];exact filter_less ⟨en,hen,rfl⟩ hnew
          have Gc:∀jZ∈ents.toList,jZ.born∈seen.toList->jZ.born∈(seen.push en.born).toList:= λjZ _ h=>by rw[Array.toList_push];exact List.mem_append.2 (.inl h)
          by_cases ME:∃d∈ws,d∉Dn∧d.e=pe
          ·obtain⟨d,hd,SV,rfl⟩:=ME;have W:=JO d hd;obtain⟨tx,dL,nc⟩:=qk W.run;obtain⟨c1,c2,c3,c4,c5⟩:=Nm;have SW:∀f∈Dn,f.i≠d.i:= λf hf he=>SV (by rw[<-vN Kw (c5 f hf).1 hd he];exact hf);have Rv:ec[d.i]? =some (d.k,d.v,d.n):=by rw[c4.rest d.i SW];exact W.SM
           have MG:d.i<me.length:=(List.getElem?_eq_some_iff.1 W.SM).1;obtain⟨A,B,Qu,SX⟩:∃A B,ec=A++(d.k,d.v,d.n)::B∧A.length=d.i:=by obtain⟨hlt,x3⟩:=List.getElem?_eq_some_iff.1 Rv;refine⟨ec.take d.i,ec.drop (d.i+1),?_,by rw[List.length_take];omega⟩;rw[<-x3,List.getElem_cons_drop,List.take_append_drop]
           have nd:∀a∈mm::d.own,a∈mm::cg ws:= λa ha=>by
            rcases List.mem_cons.1 ha with rfl|ha
            ·exact List.mem_cons_self
            ·exact List.mem_cons_of_mem _ (bJ.2 ⟨d,hd,ha⟩)
           have B9:∀j,d.S.h.get j=if j∈mm::d.own then d.S.h.get j else sB.h.get j:= λj=>by
            by_cases hj:j∈mm::d.own
            ·rw[if_pos hj]
            ·rw[if_neg hj,W.get j (λe=>hj (by rw[e];exact List.mem_cons_self)),if_neg (λh=>hj (List.mem_cons_of_mem _ h))]
           have UG:d.S=⟨d.S.h,sB.nx,sB.lim⟩:=by rw[<-W.nx,<-W.lim]
           have Jm:∀oB:Ren,ur ρ oB->(∀a,a≠mm->oB a=ρ a)->(∀z,oB mm=some z->cj P oB z w3 (.pmap Qk [(d.k,d.v,d.n)] Pl)∧∃y',ρ mm=some y'∧y'.b=z.b)->
             Rel P oB d.S w3∧Marks n0 oB d.S w3 a1.defers∧Rel P oB sB w3∧∀b,aQ oB d.S b->aQ ρ sB b∨∃a∈mm::d.own,∃x',ρ a=some x'∧x'.b=b:=by
            intro oB hs hne hz;have JT:Rel P oB sB w3:=iu.th (Qn mm List.mem_cons_self) hs hne (by rw[pW];exact HN.2);have MH:∀a z,oB a=some z->∃x',ρ a=some x'∧x'.b=z.b:= λa z e=>by
             by_cases ha:a=mm
             ·subst ha;exact(hz z e).2
             ·rw[hne a ha]at e;exact⟨z,e,rfl⟩
            have SY:∀b,aQ oB sB b->aQ ρ sB b:=by rintro b ⟨a,k,z,e1,e2,e3⟩;obtain⟨x',h1,h2⟩:=MH a z e2;exact⟨a,k,x',e1,h1,h2.trans e3⟩
            have Li:∀b,aQ oB d.S b->aQ ρ sB b∨∃a∈mm::d.own,∃x',ρ a=some x'∧x'.b=b:=by
             rintro b ⟨a,k,z,e1,e2,e3⟩;by_cases ha:a∈mm::d.own
             ·obtain⟨x',h1,h2⟩:=MH a z e2;exact .inr ⟨a,ha,x',h1,h2.trans e3⟩
             ·rw[B9,if_neg ha]at e1;exact .inl (SY b ⟨a,k,z,e1,e2,e3⟩)
            have L4:Rel P oB ⟨d.S.h,sB.nx,sB.lim⟩ w3:=by
             refine sv (g:=sB.h) (H:=mm::d.own) (h1:=d.S.h) JT B9 (λa ha k z e1 e2=>?_) (λa ha=>by rw[pW];exact(yh a (nd a ha)).2) (λa ha a' cZ k k' z z' hn e1 e2 r1 r2 hb=>?_)
             ·obtain⟨x',h1,h2⟩:=MH a z e2;obtain⟨k0,Ad,_⟩:=gO a (nd a ha);refine⟨by rw[<-h2];exact Nat.lt_of_lt_of_le (dO.blk a k0 x' Ad h1).1 ij.size,?_,λh=>Pn a (nd a ha) x' h1 (by rw[h2];exact SY _ h),λgg gl vs g1 g2 e=>(dO.gl gg gl vs g1 g2).2.1 ⟨a,k0,x',Ad,h1,h2.trans e⟩⟩;by_cases hm:a=mm
              ·subst hm;rw[W.Uq]at e1;cases e1;exact(hz z e2).1
              ·rw[W.get a hm]at e1;have cZ:a∈d.own:=(List.mem_cons.1 ha).resolve_left hm;rw[if_pos cZ]at e1;rw[hne a hm]at e2;exact(c2 d hd SV a cZ k z e1 e2).oA hs
             ·obtain⟨x1,h1,h2⟩:=MH a z r1;obtain⟨x2,h3,h4⟩:=MH a' z' r2;exact(SP a (nd a ha) a' (nd a' cZ) hn x1 x2 h1 h3 (by rw[h2,h4];exact hb)).elim
            refine⟨by rw[UG];exact L4,(II.re (λf hf=>?_)),JT,Li⟩;obtain⟨r,z1,z2,z3,z4,z5⟩:=hf;refine⟨r,z1,z2,z3,?_,z5⟩;rintro⟨a,k,z,e1,e2,rfl⟩;exact po (L4.blk a k z e1 e2).2 z2
           cases GW:ρ mm with
           |none=>
            obtain⟨JT,Qv,_,_⟩:=Jm ρ hrefl (λ_ _=>rfl) (λz e=>by rw[GW]at e;cases e);refine ju ρ hrefl d.S .normal tx d.R dL JT Qv _ (λdb a' w' iR lP eN aZ=>?_);exfalso;rcases aZ.ph mm (by rw[W.nx,pW];exact HN.2) GW with e|e
            ·exact W.ne mm List.mem_cons_self e
            ·rw[W.now]at e;cases e
           |some y'=>
            obtain⟨ents',m1,⟨l,mp,mf,mn⟩,m3⟩:=c3 y' GW;rw[Qu]at mf mn;obtain⟨l1,b,l2,rfl,f1,fb,f2⟩:=mf.split;have Ou:((l1++b::l2).map (·.key)).Nodup:=by rw[xt (λp e h=>h.1) mf];exact mn
            let oB:Ren:= λa=>if a=mm then some {y' with rest:=l1++l2}else ρ a
            have LU:oB mm=some {y' with rest:=l1++l2}:=if_pos rfl;have hne:∀a,a≠mm->oB a=ρ a:= λa ha=>if_neg ha;have hs:ur ρ oB:= λa z e=>by
             by_cases ha:a=mm
             ·subst ha;rw[GW]at e;cases e;exact⟨_,LU,rfl,rfl,rfl⟩
             ·exact⟨z,by rw[hne a ha];exact e,rfl,rfl,rfl⟩
            have fR:ur oB ρ:= λa z e=>by
             by_cases ha:a=mm
             ·subst ha;rw[LU]at e;cases e;exact⟨y',GW,rfl,rfl,rfl⟩
             ·rw[hne a ha]at e;exact⟨z,e,rfl,rfl,rfl⟩
            have LV:((b::(l1++l2)).map (·.key)).Nodup:=((List.perm_middle (a:=b) (l₁:=l1) (l₂:=l2)).map (·.key)).nodup_iff.1 Ou;obtain⟨JT,Qv,Rw,SZ⟩:=Jm oB hs hne (λz e=>by
             rw[LU]at e;cases e;refine⟨⟨ents',m1,⟨[b],(show([b]++(l1++l2)).Perm ents'.toList from(List.perm_middle (a:=b) (l₁:=l1) (l₂:=l2)).symm.trans mp),.cons ⟨fb.1,fb.2.1,fb.2.2.1,fb.2.2.2.1.oA hs,fb.2.2.2.2⟩ .nil,λe he=>?_,LV⟩,m3⟩,y',GW,rfl⟩;rcases List.mem_append.1 he with he|he
             ·obtain⟨p,_,h1,h2,_⟩:=F2.cp f1 e he;rw[<-h1];exact h2
             ·obtain⟨p,_,h1,h2,_⟩:=F2.cp f2 e he;rw[<-h1];exact h2)
            refine ju oB hs d.S .normal tx d.R dL JT Qv _ (λdb a' w' iR lP eN aZ=>?_);have EO:aG oB db:=aZ.le JT;have KL:∀a,a<s1.nx->db a=oB a:= λa ha=>aZ.jY a (by rw[W.nx,pW];exact ha);have Rx:∀b,¬aQ ρ s2 b->¬aQ oB d.S b:= λb hn h=>by
             rcases SZ b h with h|⟨a,ha,x',e1,rfl⟩
             ·exact hn (JQ h)
             ·exact hn (SQ a (nd a ha) x' e1)
            have KM:∀b,b<w3.heap.size->¬aQ ρ s2 b->w'.heap[b]? =w3.heap[b]?:= λb hb hn=>(aZ.frame b hb (Rx b hn)).1;have dg:w'.heap[x.b]? =some (.mapIter (some y.b) ck (seen.push en.born) ck):=(KM x.b LS KI).trans oG;have Ry:HI w':= λa ha k x' e1 e2=>(KM x'.b (Nat.lt_of_lt_of_le (dn.blk a k x' e1 e2).1 ij.size) (KH a ha k x' e1 e2)).trans (EH a ha k x' e1 e2);have dj:∀a k,sB.h.get a=some k->d.R.h.get a=some k:= λa k e=>by
             obtain⟨e2,e3⟩:=HM a k e;have MI:a∉mm::d.own:= λh=>e3 (nd a h);have Pp:d.S.h.get a=some k:=by rw[B9,if_neg MI];exact e
             by_cases Qw:a<L
             ·rw[aZ.low a (by rw[W.lim,Qm];exact Qw)];exact Pp
             ·have VY:=HH a k (oF a k e2).1;rcases W.same a (by omega) (by omega)with h|h
              ·exact(MI h).elim
              ·rw[<-h];exact Pp
            have Rz:Rel P oB sB w':=Rw.On eN EO dj;have Ov:Rel P ρ sB w':=Rz.th (Qn mm List.mem_cons_self) fR (λa ha=>(hne a ha).symm) (by rw[pW];exact HN.2);have Nn:∀f∈ws,f≠d->∀a∈f.own,∀x',ρ a=some x'->w'.heap[x'.b]? =w3.heap[x'.b]?:= λf hf Ee a ha x' e1=>by
             have Qx:a∈mm::cg ws:=List.mem_cons_of_mem _ (bJ.2 ⟨f,hf,ha⟩);obtain⟨k0,Ad,_⟩:=gO a Qx;refine(aZ.frame x'.b (Nat.lt_of_lt_of_le (dO.blk a k0 x' Ad e1).1 ij.size) λh=>?_).1;rcases SZ _ h with h|⟨a2,Pq,x2,e2,e3⟩
             ·exact Pn a Qx x' e1 h
             ·have RA:a2≠a:= λe=>by
               subst e;rcases List.mem_cons.1 Pq with rfl|Pq
               ·exact HO (bJ.2 ⟨f,hf,ha⟩)
               ·exact Ee (vM SR hf hd ha Pq)
              exact SP a2 (nd a2 Pq) a Qx RA x2 x' e2 e1 e3
            have GY:∀a b x,An s1.nx [] a=some b->db a=some x->oB b=some x:= λa b x e e'=>by
             rcases y9 e with ⟨h1,rfl⟩|⟨_,h2⟩
             ·rw[<-KL _ h1];exact e'
             ·cases h2
            have RB:In (d::Dn) (ec.set d.i (d.k,d.v',d.n)) w':=by
             refine⟨λf hf Dp a ha k x' e1 e2=>?_,λf hf Dp a ha k x' e1 e2=>?_,λVZ e=>?_,c4.step SW MG,λf hf=>?_⟩
             ·by_cases Ee:f=d
              ·subst Ee;have JU:a≠mm:= λe=>HO (by rw[<-e];exact bJ.2 ⟨f,hf,ha⟩);have hlt:=(yh a (List.mem_cons_of_mem _ (bJ.2 ⟨f,hf,ha⟩))).2;have hc:=(W.own a ha).2.2;rw[e1]at hc;obtain⟨k2,zY,hc⟩:=pn hc;cases zY;exact((xq GY hc (eN.blk a k x' e1 (by rw[KL a hlt,hne a JU];exact e2)).2).1).oA fR
              ·have RC:f∈Dn:=(List.mem_cons.1 Dp).resolve_left Ee;exact(c1 f hf RC a ha k x' e1 e2).congr (Nn f hf Ee a ha x' e2)
             ·have Ee:f≠d:= λe=>Dp (by rw[e];exact List.mem_cons_self);exact(c2 f hf (λh=>Dp (List.mem_cons_of_mem _ h)) a ha k x' e1 e2).congr (Nn f hf Ee a ha x' e2)
             ·rw[GW]at e;cases e;obtain⟨Ow,n1,⟨lb,np,nf,_,_⟩,n3⟩:=(eN.blk mm _ {y' with rest:=l1++l2} W.now (by rw[KL mm HN.2];exact LU)).2;cases nf with
              | @cons _ b' _ V0 cz hs2=>
              cases hs2;refine⟨Ow,n1,⟨l1++b'::l2,List.perm_middle.trans np,?_,?_⟩,n3⟩
              ·rw[Qu,<-SX,List.set_append_right _ _ (Nat.le_refl _),Nat.sub_self];exact F2.append (.cons ⟨cz.1,cz.2.1,cz.2.2.1,(cJ GY 12 _ _ _ W.plain cz.2.2.2.1).oA fR,cz.2.2.2.2⟩ f2) f1
              ·rw[Qu,<-SX,List.set_append_right _ _ (Nat.le_refl _),Nat.sub_self];simpa using mn
             ·rcases List.mem_cons.1 hf with rfl|hf
              ·refine⟨hd,λa ha hn=>?_⟩;rcases List.mem_cons.1 ha with rfl|cZ
               ·rw[GW]at hn;cases hn
               ·have JU:a≠mm:= λe=>HO (by rw[<-e];exact bJ.2 ⟨f,hd,cZ⟩);have hlt:=(yh a (List.mem_cons_of_mem _ (bJ.2 ⟨f,hd,cZ⟩))).2;rcases aZ.ph a (by rw[W.nx,pW];exact hlt) (by rw[hne a JU];exact hn)with e|e
                ·exact W.ne a ha e
                ·obtain⟨k,hk,_⟩:=kY (W.own a cZ).2.1;rw[hk]at e;cases e
              ·exact c5 f hf
            have UH:aN ρ s w ρ (sB.wl s.lim) w':=by
             refine⟨λ_ _=>rfl,ij.nx,aZ.tape.trans ij.tape,aZ.os.trans ij.os,aZ.out.trans ij.out,Nat.le_trans ij.size aZ.size,λb hb hn=>?_,ij.ph,λb r hb=>?_,rfl,ij.low,λa k x' hl hn hk hro fm=>?_⟩
             ·obtain⟨q1,q2⟩:=ij.frame b hb hn;exact⟨(KM b (Nat.lt_of_lt_of_le hb ij.size) (λh=>hn (Pm h))).trans q1,q2⟩
             ·obtain⟨r1,h1⟩:=ij.lp b r hb;exact aZ.lp b r1 h1
             ·have MI:a∉mm::d.own:= λh=>by have:=(yh a (nd a h)).1;omega
              have JU:a≠mm:= λe=>MI (by rw[e];exact List.mem_cons_self);have Pp:d.S.h.get a=some k:=by rw[B9,if_neg MI];exact(ij.low a hl).trans hk
              exact(aZ.gD a k x' (by rw[W.lim,Qm];omega) (by rw[W.nx,pW];omega) Pp hro (by rw[hne a JU];exact fm)).trans (ij.gD a k x' hl hn hk hro fm)
            have UI:Marks n0 ρ sB w' a'.defers:=by
             refine lP.re (λf hf=>?_);obtain⟨r,z1,z2,z3,z4,z5⟩:=hf;refine⟨r,z1,z2,z3,?_,z5⟩;rintro⟨a,k,x',e1,e2,e3⟩;have JU:a≠mm:= λe=>by rw[e,Qn mm List.mem_cons_self]at e1;cases e1
             exact z4 ⟨a,k,x',dj a k e1,EO _ _ (by rw[hne a JU];exact e2),e3⟩
            refine⟨⟨d::Dn,_,seen.push en.born,⟨iR.size,G1.tk,gC.oA fR (gH EO (gC.oA hs da.env) (λt v hv=>iR.env t v (dD nc t v hv)))⟩,UI,Ov,UH,Ry,dg,RB,λjZ h1 p h2 h3=>?_,λf hf Dp=>?_⟩,EN (a':=a') dg⟩
            ·by_cases Ef:p=d.e
             ·left;rw[Ef]at h3;have:jZ=en:=CK jZ h1 en hen (h3.1.symm.trans hent.1);rw[this];simp
             ·rcases Da jZ h1 p h2 h3 with hc|hc|⟨f,hf,Dp,rfl⟩
              ·exact .inl (Gc jZ h1 hc)
              ·exact .inr (.inl hc)
              ·exact .inr (.inr ⟨f,hf,λhm=>(List.mem_cons.1 hm).elim (λe=>Ef (by rw[e])) Dp,rfl⟩)
            ·have Ee:f≠d:= λe=>Dp (by rw[e];exact List.mem_cons_self);obtain⟨jZ,h1,h2,h3⟩:=Db f hf (λh=>Dp (List.mem_cons_of_mem _ h));refine⟨jZ,h1,h2,λhm=>?_⟩;rw[Array.toList_push]at hm;rcases List.mem_append.1 hm with hm|hm
             ·exact h3 hm
             ·simp only[List.mem_singleton]at hm;have:=lN jZ h1 en hen hm;subst this;exact Ee (tn UA hf hd (yH f.e (Qp f hf) d.e x9 (by rw[h2.1,hent.1])))
          ·have MK:pe∈q.1:=by
            rcases Da en hen pe x9 hent with hc|hc|hc
            ·exact(hnew hc).elim
            ·exact hc
            ·exact(ME hc).elim
           obtain⟨tx,sx,dL,nc⟩:=ql (A1 pe MK);have IJ:Rel P ρ ⟨sB.h,sB.nx,sB.nx⟩ w3:=⟨iu.eu,iu.top,iu.blk,Nat.le_refl _,iu.aX,iu.gl⟩
           refine ju ρ hrefl _ .normal tx sx dL IJ (II.re (λ_ h=>h)) _ (λdb a' w' iR lP eN aZ=>?_);have hle:=aZ.le IJ;have ky:∀q,q<sB.nx->sx.h.get q=sB.h.get q:= λq hq=>aZ.low q hq;have ML:Rel P ρ sB w':=iu.down eN hle ky;have dg:w'.heap[x.b]? =some (.mapIter (some y.b) ck (seen.push en.born) ck):=((aZ.frame x.b LS Nl).1).trans oG;have MM:aN ρ (sB.wl s.lim) w3 ρ (sB.wl s.lim) w':=by refine⟨λ_ _=>rfl,Nat.le_refl _,aZ.tape,aZ.os,aZ.out,aZ.size,λb hb hn=>⟨(aZ.frame b hb hn).1,hn⟩,λ_ _ _=> .inl rfl,aZ.lp,rfl,λ_ _=>rfl,λq k' x' hl hn fZ hro fm=>?_⟩;have hl:q<s.lim:=hl;exact aZ.gD q k' x' (show q<sB.nx by rw[pW,ug];have:=hR.lim;omega) hn fZ hro fm
           have RD:In Dn ec w':=KJ Nm λa ha x' e=>by obtain⟨k0,Ad,_⟩:=gO a ha;exact(aZ.frame x'.b (Nat.lt_of_lt_of_le (dO.blk a k0 x' Ad e).1 ij.size) (Pn a ha x' e)).1
           refine⟨⟨Dn,ec,seen.push en.born,⟨iR.size,G1.tk,gH hle da.env (λt v hv=>iR.env t v (dD nc t v hv))⟩,(lP.re (λd hd=>?_)),ML,ij.trans MM,λa ha k x' e1 e2=>?_,dg,RD,λjZ h1 p h2 h3=>?_,λf hf Dp=>?_⟩,EN (a':=a') dg⟩
           ·obtain⟨r,q1,q2,q3,q4,q5⟩:=hd;exact⟨r,q1,q2,q3,λhh=>q4 (hh.up iu hle ky),q5⟩
           ·exact((aZ.frame x'.b (Nat.lt_of_lt_of_le (dn.blk a k x' e1 e2).1 ij.size) (λh=>KH a ha k x' e1 e2 (JQ h))).1).trans (EH a ha k x' e1 e2)
           ·by_cases Ef:p=pe
            ·exact .inr (.inl (by rw[Ef];exact MK))
            ·exact(Da jZ h1 p h2 h3).imp (Gc jZ h1) id
           ·obtain⟨jZ,h1,h2,h3⟩:=Db f hf Dp;refine⟨jZ,h1,h2,λhm=>?_⟩;rw[Array.toList_push]at hm;rcases List.mem_append.1 hm with hm|hm
            ·exact h3 hm
            ·simp only[List.mem_singleton]at hm;have:=lN jZ h1 en hen hm;subst this;exact ME ⟨f,hf,Dp,yH f.e (Qp f hf) pe x9 (by rw[h2.1,hent.1])⟩
        cases JO:oJ M ev ee s1 mb es [64,256,1024,2048,4096,16384,1000000]with
        |none=>rw[JO]at h;cases h
        |some sz=>
         rw[JO]at h;have h:iy M ee sz= .code e tm' s':=h;obtain⟨L,Qj⟩:=qm JO;obtain⟨od,s2,f1,q,g,hz,ch,Uw,Ql,EF,KF,KG,lU,Hf,UJ,As,mQ,hsz⟩:=Bw Qj;obtain⟨JP,SO,Mv,LQ⟩:=nN KF;have B8:s1.lim=s.lim:=(AS.aS gZ).1;generalize KN:(⟨s2.h,s2.nx,L⟩:AS)=ya at As;have HQ:ya.h=s2.h:=by rw[<-KN]
         have EP:ya.nx=s1.nx:=by rw[<-KN];exact JP
         have No:ya.lim=L:=by rw[<-KN]
         have hg2:∀j,ya.h.get j=if j∈mb::od then none else s1.h.get j:= λj=>by rw[HQ];exact LQ j
         have C8:∀a∈mb::od,∀k,s1.h.get a=some k->eo k=false∧∀c sz n ro et,k≠.cells c sz n ro et:= λa ha k hk=>by
          rcases List.mem_cons.1 ha with rfl|ha
          ·rw[rk]at hk;cases hk;exact⟨rfl,λ_ _ _ _ _=>by simp⟩
          ·have:=(i6 EF a ha).1;rw[hk]at this;cases k with
           |cells=>cases this
           |map=>cases this
           |cQ=>exact⟨rfl,λ_ _ _ _ _=>by simp⟩
           |mapIter=>exact⟨rfl,λ_ _ _ _ _=>by simp⟩
           |loop=>exact⟨rfl,λ_ _ _ _ _=>by simp⟩
           |pmap=>exact⟨rfl,λ_ _ _ _ _=>by simp⟩
         have oF:∀j k,ya.h.get j=some k->s1.h.get j=some k∧j∉mb::od:= λj k e=>by
          rw[hg2]at e;by_cases hj:j∈mb::od
          ·rw[if_pos hj]at e;cases e
          ·rw[if_neg hj]at e;exact⟨e,hj⟩
         have KP:Rel P ρ ya w:=dn.Kx (λj k e=>(oF j k e).1) EP (by rw[No,EP];exact Ql);have RE:∀a∈mb::od,∀k x',s1.h.get a=some k->ρ a=some x'->¬aQ ρ ya x'.b:=by rintro a ha k x' e1 e2 ⟨a',k',qv,e3,e4,e5⟩;obtain⟨c1,c2⟩:=oF _ _ e3;have:=(dn.aX a a' k k' x' qv (λe=>c2 (by rw[<-e];exact ha)) e1 c1 e2 e4 e5.symm).1;rw[(C8 a ha k e1).1]at this;cases this
         have RF:¬aQ ρ ya x.b:=by rintro⟨a',k',qv,e3,e4,e5⟩;exact GX ⟨a',k',qv,(oF _ _ e3).1,e4,e5⟩
         have Mw:∀a∈mb::od,∀k x',s1.h.get a=some k->ρ a=some x'->x'.b≠x.b:= λa ha k x' e1 e2 e3=>GX ⟨a,k,x',e1,e2,e3⟩;have Hk:aN ρ s w ρ (ya.wl s.lim) w:=by
          refine⟨λ_ _=>rfl,by show s.nx<=ya.nx;rw[EP,ug];exact Nat.le_refl _,rfl,rfl,rfl,Nat.le_refl _,λb hb hn=>⟨rfl,?_⟩,λa ha hn=>?_,λb r hb=>⟨r,hb⟩,rfl,λa ha=>?_,λ_ _ _ _ _ _ _ _=>rfl⟩
          ·rintro⟨a',k',qv,e3,e4,e5⟩;exact hn ⟨a',k',qv,(EE _ _ (oF _ _ e3).1).1,e4,e5⟩
          ·show ya.h.get a=s.h.get a∨ya.h.get a=none;rw[hg2,z7];by_cases h1:a∈mb::od
           ·rw[if_pos h1];exact .inr rfl
           ·rw[if_neg h1];by_cases h2:a=ib
            ·rw[if_pos h2];exact .inr rfl
            ·rw[if_neg h2];exact .inl rfl
          ·show ya.h.get a=s.h.get a;rw[hg2,z7,if_neg (λhm=>by have:=Mv a hm;omega),if_neg (λe=>by have:=(AS.aS gZ).2;omega)]
         let HI:Ren->AS->World->Prop:= λaO sc w1=>∀a∈mb::od,∀k x',s1.h.get a=some k->ρ a=some x'->w1.heap[x'.b]? =w.heap[x'.b]?∧¬aQ aO sc x'.b
         let I:Act->World->Prop:= λa1 w1=>∃(aO:Ren) (sc:AS) (W:List an) (seen:Array Nat),bt aa nt ρ ee a1∧Marks n0 aO sc w1 a1.defers∧Rel P aO sc w1∧aN ρ s w aO (sc.wl s.lim) w1∧sc.lim=L∧(∀a,a<L->sc.h.get a=ya.h.get a)∧s1.nx<=sc.nx∧
          HI aO sc w1∧¬aQ aO sc x.b∧w1.heap[x.b]? =some (.mapIter (some y.b) ck seen ck)∧Ly M ev ee q.1 (Ek s1.nx L (s1.nx-L) f1.nx s2.h g ch) W.length W sc=true∧
          (W.map (·.1)).Nodup∧(∀p∈W,p∈es)∧(∀en∈ents.toList,∀p∈es,bN P ρ kt p en->en.born∈seen.toList∨p∈q.1∨p∈W)∧(∀p∈W,∃en∈ents.toList,bN P ρ kt p en∧en.born∉seen.toList)
         let μ:Act->World->Nat:= λ_ w1=>match w1.heap[x.b]? with|some (.mapIter _ _ seen _)=>(ents.toList.filter λ(e:MapEntry)=>!seen.toList.contains e.born).length|_=>0
         obtain⟨Uz,LR,Qo⟩:=mG KG;refine wpIn_loop I μ ⟨ρ,ya,q.2,#[],G1,(hM.re (λd hd=>?_)),KP,Hk,No,λ_ _=>rfl,by rw[EP];exact Nat.le_refl _,λa ha k x' e1 e2=>⟨rfl,RE a ha k x' e1 e2⟩,RF,pV,As,Qi.sublist (LR.map _),λp hp=>LR.subset hp,λen hen p hp _=> .inr (Qo p hp),λp hp=>?_⟩ (λa1 w1 hI=>?_)
         ·obtain⟨r,z1,z2,z3,z4,z5⟩:=hd;exact⟨r,z1,z2,z3,λ⟨a',k',qv,e3,e4,e5⟩=>z4 ⟨a',k',qv,(EE _ _ (oF _ _ e3).1).1,e4,e5⟩,z5⟩
         ·obtain⟨en,h1,h2⟩:=HJ p (LR.subset hp);exact⟨en,h1,h2,by simp⟩
         obtain⟨aO,sc,W,seen,da,g7,G2,gM,HR,pT,Np,JR,IK,uu,KQ,Qy,Qz,Da,Db⟩:=hI;have pS:aG ρ aO:=gM.le hR;have RG:bt aa nt aO ee a1:=⟨da.size,da.tk,gC.mono pS da.env⟩
         have uj:w1.heap[y.b]? =some (.map ents ck):=by rw[(JR mb List.mem_cons_self _ y rk hy).1];exact B7
         have hμ:μ a1 w1=(ents.toList.filter λe=>!seen.toList.contains e.born).length:=by show(match w1.heap[x.b]? with|some (.mapIter _ _ seen _)=>(ents.toList.filter λ(e:MapEntry)=>!seen.toList.contains e.born).length|_=>0)=_;rw[uu]
         refine wpIn_seq ?_;rcases next_some (P:=P) uu uj iQ with ⟨w2,hall,hrun,hsame⟩|⟨en,w2,hen,hnew,hrun,hsame⟩
         ·
          refine cB hF x5 Aq Hh GZ Hi Hj G0 (vs:= #[.bool false]) (b:=false) rfl (Nat.lt_of_lt_of_le Ch da.size) (λty=>by rw[oE da];exact hrun ty) ?_;have hW:W= []:=by
           cases W with
           |nil=>rfl
           |cons p W=>obtain⟨en,h1,_,h3⟩:=Db p List.mem_cons_self;exact(h3 (hall en h1)).elim
          subst hW;obtain⟨_,Ox,_⟩:=ze KQ;obtain⟨π,Nq⟩:=DL (Ox rfl);obtain⟨RH,RI⟩:=zS Nq;have dO:Rel P aO sc w2:=G2.of_heap hsame.heap;have fC:aN ρ s w aO (sc.wl s.lim) w2:=gM.trans (.of_heap hsame.heap hsame.tape hsame.os hsame.out);have wu:Marks n0 aO sc w2 a1.defers:=g7.step (.of_heap hsame.heap hsame.tape hsame.os hsame.out);have HP:HI aO sc w2:= λa ha k x' e1 e2=>by rw[hsame.heap];exact JR a ha k x' e1 e2
          have yI:∀j,(j<L∨f1.nx<=j)->g.get j=ya.h.get j:= λj hj=>by rw[HQ];exact zd lU j (hj.imp id λ_=>by omega)
          have Vz:∀ {a k},s.h.get a=some k->a<s1.nx:= λ {a k} e=>by rw[ug];exact Nat.lt_of_not_le λhle=>by rw[hR.top a hle]at e;cases e
          obtain⟨aj,HC,UK,pI⟩:=Ip dO (l:=s.lim) Nq (by omega) UJ (by have:=hR.lim;omega) (λa ha=>by rw[yI a (.inr ha)];exact KP.top a (by rw[EP];omega)) pS (λa ha=>hR.eu a (by rw[<-ug];exact ha)) (λa ha=>by rw[pT a ha,yI a (.inl ha)]) (λa k x' ha e1 e2=>by rw[yI a (.inl ha)]at e1;exact pj pS (KP.blk a k x' e1 e2).2 (dO.blk a k x' (by rw[pT a ha];exact e1) (pS _ _ e2)).2) (λa ha=>fC.jY a (by omega))
          have ui:aG ρ aj:= λa x' e=>by
           have:a<s1.nx:=Nat.lt_of_not_le λhle=>by rw[hR.eu a (by omega)]at e;cases e
           rw[HC a this];exact e
          have HT:=jh mQ;have ft:∀ {a k x'},a∈mb::od->s1.h.get a=some k->aj a=some x'->ρ a=some x':= λ {a k x'} _ e1 e2=>by rw[<-HC a (HH a k e1)];exact e2
          have Qr:Rel P aj ⟨hz,f1.nx,s.lim⟩ w2:=by
           refine sv UK HT (λa ha k x' e1 e2=>?_) (λa ha=>?_) (λa ha a' cZ k k' x' qv cL e1 e2 r1 r2 hb=>?_)
           ·have D6:=ft ha e1 e2;obtain⟨z1,z2⟩:=dn.blk a k x' e1 D6;obtain⟨z3,z4⟩:=HP a ha k x' e1 D6;refine⟨Nat.lt_of_lt_of_le z1 fC.size,(z2.congr z3).mono ui,λhh=>z4 (pI _ hh),λgg gl vs g1 g2 e=>?_⟩;exact(dn.gl gg gl vs g1 g2).2.1 ⟨a,k,x',e1,D6,e⟩
           ·rcases List.mem_cons.1 ha with rfl|ha
            ·have:=HH _ _ rk;omega
            ·have:=(i6 EF a ha).2.2;omega
           ·exact dn.aX a a' k k' x' qv cL e1 e2 (ft ha e1 r1) (ft cZ e2 r2) hb
          have wS:∀b,aQ aj ⟨hz,f1.nx,s.lim⟩ b->aQ aO sc b∨∃a k x',a∈mb::od∧s1.h.get a=some k∧ρ a=some x'∧x'.b=b:=by
           rintro b ⟨a,k,x',e1,e2,e3⟩;have e1:hz.get a=some k:=e1;rw[HT]at e1;by_cases hm:a∈mb::od
           ·rw[if_pos hm]at e1;exact .inr ⟨a,k,x',hm,e1,ft hm e1 e2,e3⟩
           ·rw[if_neg hm]at e1;exact .inl (pI _ ⟨a,k,x',e1,e2,e3⟩)
          have Qs:aN ρ s w aj ⟨hz,f1.nx,s.lim⟩ w2:=by
           refine⟨λa ha=>HC a (by omega),by show s.nx<=f1.nx;omega,fC.tape,fC.os,fC.out,fC.size,λb hb hn=>?_,λa ha hn=>?_,fC.lp,rfl,λa ha=>?_,fC.gD⟩
           ·obtain⟨z1,z2⟩:=fC.frame b hb hn;refine⟨z1,λhh=>?_⟩;rcases wS b hh with hh|⟨a,k,x',m1,m2,m3,m4⟩
            ·exact z2 hh
            ·exact hn ⟨a,k,x',(EE _ _ m2).1,m3,m4⟩
           ·show hz.get a=s.h.get a∨hz.get a=none;have Qt:a≠ib:= λe=>by rw[e,hx]at hn;cases hn
            have h1a:s1.h.get a=s.h.get a:=by rw[z7,if_neg Qt]
            rw[HT];by_cases hm:a∈mb::od
            ·rw[if_pos hm,h1a];exact .inl rfl
            ·rw[if_neg hm];have h2a:ya.h.get a=s.h.get a:=by rw[hg2,if_neg hm,h1a]
             by_cases Qw:a<L
             ·rw[yI a (.inl Qw),h2a];exact .inl rfl
             ·rcases sq Hf a (by omega) (by omega)with hc|hc
              ·rcases fC.ph a ha hn with hp|hp
               ·have hp:sc.h.get a=s.h.get a:=hp;exact(RH a hc (by rw[hp,<-HQ,h2a])).elim
               ·have hp:sc.h.get a=none:=hp;exact .inr (RI a (by omega) (by omega) hp)
              ·rw[<-hc,<-HQ,h2a];exact .inl rfl
           ·show hz.get a=s.h.get a;have ha:a<s.lim:=ha;have hm:a∉mb::od:= λhm=>by have:=Mv a hm;omega
            rw[HT,if_neg hm,yI a (.inl (by omega)),hg2,if_neg hm,z7,if_neg (λe=>by have:=(AS.aS gZ).2;omega)]
          rw[AZ]at h;cases hp:T.put (some (.bool false)) ee m.t9 with
          |none=>rw[hp]at h;cases h
          |some aw=>
           rw[hp,hsz,B8]at h;cases h;have mR:=da.eD (u:= .tuple #[.bool false]) pU;have Ci:=mR.put LP h9 (.bool false) hp;refine wpIn_seq ?_;have Ed:((a1.put (some m.d1) (.tuple #[.bool false])).put (some m.t9) (.bool false)).eval (.tmp m.t9)= .bool false:=ct (aT (Nat.lt_of_lt_of_le h9 mR.size));refine wpIn_cond Ed ?_;refine wpIn_exit ?_;refine hQ aj _ _ ⟨Ci.size,Ci.tk,gC.mono ui Ci.env⟩ ?_ Qr Qs;rw[aB,aB];refine wu.re (λd hd=>?_);obtain⟨r,z1,z2,z3,z4,z5⟩:=hd;refine⟨r,z1,z2,z3,λhh=>?_,z5⟩;rcases wS r hh with hh|⟨a,k,x',m1,m2,m3,rfl⟩
           ·exact z4 hh
           ·exact GB (C8 a m1 k m2) (((dn.blk a k x' m2 m3).2).congr (HP a m1 k x' m2 m3).1) z2
         ·
          refine cB hF x5 Aq Hh GZ Hi Hj G0 (vs:= #[.bool true,en.key,en.val]) (b:=true) rfl (Nat.lt_of_lt_of_le Ch da.size) (λty=>by rw[oE da];exact hrun ty) ?_;have EG:Rel P aO sc w2:=G2.of_heap hsame.heap;generalize hw3:({w2 with heap:=w2.heap.setIfInBounds x.b (.mapIter (some y.b) ck (seen.push en.born) ck)}:World)=w3;have iu:Rel P aO sc w3:=by rw[<-hw3];exact EG.wP IK (λi=>by simp[World.cell?,hsame.heap,uu])
          have G8:x.b<w2.heap.size:=by have:=(Array.getElem?_eq_some_iff.1 uu).1;rw[hsame.heap];exact this
          have oG:w3.heap[x.b]? =some (.mapIter (some y.b) ck (seen.push en.born) ck):=by rw[<-hw3];simp[G8]
          have Dg:y.b≠x.b:=Mw mb List.mem_cons_self _ y rk hy;have eQ:∀b,b≠x.b->w3.heap[b]? =w1.heap[b]?:= λb hb=>by rw[<-hw3];simp only;rw[Array.getElem?_setIfInBounds_ne (Ne.symm hb),hsame.heap]
          have ve:w3.heap[y.b]? =some (.map ents ck):=by rw[eQ _ Dg];exact uj
          have hsz3:w3.heap.size=w1.heap.size:=by rw[<-hw3];simp[hsame.heap]
          have ht3:w3.tape=w1.tape∧w3.os=w1.os∧w3.output=w1.output:=by rw[<-hw3];exact⟨hsame.tape,hsame.os,hsame.out⟩
          have P0:s.lim<=ib:=(AS.aS gZ).2;have ij:aN ρ s w aO (sc.wl s.lim) w3:=by
           refine⟨gM.jY,gM.nx,by rw[ht3.1];exact gM.tape,by rw[ht3.2.1];exact gM.os,by rw[ht3.2.2];exact gM.out,by rw[hsz3];exact gM.size,λb hb hn=>?_,gM.ph,λb l hb=>?_,gM.lim,gM.low,λa' k' x' hl hn fZ hro fm=>?_⟩
           ·have iO:b≠x.b:= λe=>hn ⟨ib,_,x,hblk,hx,e.symm⟩;obtain⟨q1,q2⟩:=gM.frame b hb hn;exact⟨by rw[eQ b iO];exact q1,q2⟩
           ·have iO:b≠x.b:= λe=>by rw[e,pV]at hb;cases hb
            rw[eQ b iO];exact gM.lp b l hb
           ·have iO:x'.b≠x.b:= λe=>by
             have cL:a'≠ib:=by omega
             have:=(hR.aX a' ib k' _ x' x cL fZ hblk fm hx e).1;rw[hro]at this;cases this
            rw[eQ _ iO];exact gM.gD a' k' x' hl hn fZ hro fm
          have II:Marks n0 aO sc w3 a1.defers:=by
           refine g7.re (λd hd=>?_);obtain⟨r,q1,q2,q3,q4,q5⟩:=hd;have Mz:r≠x.b:= λe=>by rw[e,uu]at q2;cases q2
           exact⟨r,q1,by rw[eQ r Mz];exact q2,by rw[hsz3];exact q3,q4,q5⟩
          have EH:HI aO sc w3:= λa ha k x' e1 e2=>by rw[eQ _ (Mw a ha k x' e1 e2)];exact JR a ha k x' e1 e2
          have MA:∀l,F.round=some l->∃r,w3.heap[l]? =some (Obj.loop r):=dG hL ij;have Jw:n0.n<=w3.heap.size:=Nat.le_trans fh ij.size;refine wpIn_seq ?_;have mR:=RG.eD (u:= .tuple #[.bool true,en.key,en.val]) pU;have Ed:((a1.put (some m.d1) (.tuple #[.bool true,en.key,en.val])).put (some m.t9) (.bool true)).eval (.tmp m.t9)= .bool true:=ct (aT (Nat.lt_of_lt_of_le h9 mR.size));refine wpIn_cond Ed ?_;refine wpIn_skip ?_;show(Code.block m.b1 (.seq (.region i2 r2 false) m.body)).wpIn F 0 P _ _ w3;obtain⟨pe,x9,hent⟩:=wR en hen;have MD:ag aO pe.1 en.key:=by rw[hent.1];have:=hent.2.2.1;rw[hent.1]at this;exact jL this
          have ju:∀(sA:AS) (xx:cm) (tx:T Value) (sx:AS),bT M ev (pe.1,pe.2.1) ee sA= .code xx tx sx->Rel P aO sA w3->Marks n0 aO sA w3 a1.defers->∀Q':Exit->Act->World->Prop,lu P n0 aa nt aO sA w3 xx tx sx Q'->
            (Code.block m.b1 (.seq (.region i2 r2 false) m.body)).wpIn F 0 P Q' ((a1.put (some m.d1) (.tuple #[.bool true,en.key,en.val])).put (some m.t9) (.bool true)) w3:=by
           intro sA xx tx sx dL JK MB Q' MC;rw[xu]at dL;cases hp:T.put (some (.bool true)) ee m.t9 with
           |none=>rw[hp]at dL;cases dL
           |some aw=>
            rw[hp]at dL;have Ci:=mR.put LP h9 (.bool true) hp;have EJ:((a1.put (some m.d1) (.tuple #[.bool true,en.key,en.val])).put (some m.t9) (.bool true)).eval (.tmp m.it)= .pointer (some ⟨x.b,0,none⟩):=by
             have EL:m.it≠m.d1:= λe=>by rw[e,pU]at C7;cases C7
             rw[cx (by intro e;exact KB (by injection e)),cx (by intro e;exact EL (by injection e))];exact oE da
            exact kZ hev hF KA ym Hg Ms IC LO KD Mu (k:=pe.1) (v:=pe.2.1) dL Ci Jw (by rw[aB,aB];exact MB) MA JK (by rw[EJ];exact run_entry oG ve iQ hen) MD (ag.mono pS hent.2.2.2.1) MC
          obtain⟨A1,_,Oy⟩:=ze KQ;have EN:∀ {w':World} {a':Act},w'.heap[x.b]? =some (.mapIter (some y.b) ck (seen.push en.born) ck)->μ a' w'<μ a1 w1:= λ {w' a'} dg=>by rw[hμ];show(match w'.heap[x.b]? with|some (.mapIter _ _ seen _)=>(ents.toList.filter λ(e:MapEntry)=>!seen.toList.contains e.born).length|_=>0)<_;rw[dg];simp only[Array.toList_push];exact filter_less ⟨en,hen,rfl⟩ hnew
          have Jn:∀jZ∈ents.toList,∀p∈es,bN P ρ kt p jZ->p≠pe->jZ.born∈(seen.push en.born).toList∨p∈q.1∨p∈W:= λjZ h1 p h2 h3 _=>by rw[Array.toList_push];exact(Da jZ h1 p h2 h3).imp (λh=>List.mem_append.2 (.inl h)) id
          have Nr:∀p∈W,p≠pe->∃jZ∈ents.toList,bN P ρ kt p jZ∧jZ.born∉(seen.push en.born).toList:= λp hp cL=>by
           obtain⟨jZ,h1,h2,h3⟩:=Db p hp;refine⟨jZ,h1,h2,λhm=>?_⟩;rw[Array.toList_push]at hm;rcases List.mem_append.1 hm with hm|hm
           ·exact h3 hm
           ·simp only[List.mem_singleton]at hm;have:=lN jZ h1 en hen hm;subst this;exact cL (yH p (Qz p hp) pe x9 (by rw[h2.1,hent.1]))
          by_cases QA:pe∈W
          ·
           obtain⟨l1,Pr,MN⟩:=List.append_of_mem QA;obtain⟨sn,UL,RJ⟩:=Oy l1 pe Pr MN;obtain⟨tx,dL,nc⟩:=qk UL;refine ju sc .normal tx sn dL iu II _ (λdb a' w' iR lP eN aZ=>?_);have EO:=aZ.le iu;have Oz:s.lim<=sc.lim:=by rw[HR];omega
           have LS:x.b<w3.heap.size:=(Array.getElem?_eq_some_iff.1 oG).1;obtain⟨UM,RK⟩:=aZ.frame x.b LS IK;have dg:w'.heap[x.b]? =some (.mapIter (some y.b) ck (seen.push en.born) ck):=by rw[UM];exact oG
           have KR:∀p∈l1++Pr,p≠pe∧p∈W:= λp hp=>by
            refine⟨λe=>?_,by rw[MN];rcases List.mem_append.1 hp with hp|hp<;>simp[hp]⟩;have ew:=Qy;rw[MN,List.map_append,List.map_cons,List.nodup_append]at ew;subst e;rcases List.mem_append.1 hp with hp|hp
            ·exact ew.2.2 p.1 (List.mem_map.2 ⟨p,hp,rfl⟩) p.1 (by simp) rfl
            ·exact(List.nodup_cons.1 ew.2.1).1 (List.mem_map.2 ⟨p,hp,rfl⟩)
           refine⟨⟨db,sn,l1++Pr,seen.push en.born,⟨iR.size,G1.tk,gH (λa x' e=>EO _ _ (pS _ _ e)) da.env (λt v hv=>iR.env t v (dD nc t v hv))⟩,lP,eN,ij.trans (aZ.Jk Oz),aZ.lim.trans HR,λa ha=>?_,Nat.le_trans Np aZ.nx,λa ha k x' e1 e2=>?_,RK,dg,RJ,?_,λp hp=>Qz p (KR p hp).2,λjZ h1 p h2 h3=>?_,λp hp=>Nr p (KR p hp).2 (KR p hp).1⟩,EN (a':=a') dg⟩
           ·rw[aZ.low a (by rw[HR];exact ha)];exact pT a ha
           ·obtain⟨z1,z2⟩:=EH a ha k x' e1 e2;obtain⟨z3,z4⟩:=aZ.frame x'.b (Nat.lt_of_lt_of_le (dn.blk a k x' e1 e2).1 ij.size) z2;exact⟨z3.trans z1,z4⟩
           ·have ew:=Qy;rw[MN]at ew;exact ew.sublist (((List.sublist_cons_self pe Pr).append_left l1).map _)
           ·by_cases Ef:p=pe
            ·left;rw[Ef]at h3;have:jZ=en:=CK jZ h1 en hen (h3.1.symm.trans hent.1);rw[this];simp
            ·rcases Jn jZ h1 p h2 h3 Ef with hc|hc|hc
             ·exact .inl hc
             ·exact .inr (.inl hc)
             ·refine .inr (.inr ?_);rw[MN]at hc;rcases List.mem_append.1 hc with hc|hc
              ·exact List.mem_append.2 (.inl hc)
              ·rcases List.mem_cons.1 hc with hc|hc
               ·exact(Ef hc).elim
               ·exact List.mem_append.2 (.inr hc)
          ·
           have MK:pe∈q.1:=by
            rcases Da en hen pe x9 hent with hc|hc|hc
            ·exact(hnew hc).elim
            ·exact hc
            ·exact(QA hc).elim
           obtain⟨tx,sx,dL,nc⟩:=ql (A1 pe MK);have IJ:Rel P aO ⟨sc.h,sc.nx,sc.nx⟩ w3:=⟨iu.eu,iu.top,iu.blk,Nat.le_refl _,iu.aX,iu.gl⟩
           refine ju _ .normal tx sx dL IJ (II.re (λ_ h=>h)) _ (λdb a' w' iR lP eN aZ=>?_);have hle:=aZ.le IJ;have ky:∀q,q<sc.nx->sx.h.get q=sc.h.get q:= λq hq=>aZ.low q hq;have ML:Rel P aO sc w':=iu.down eN hle ky;have LS:x.b<w3.heap.size:=(Array.getElem?_eq_some_iff.1 oG).1;have zZ:w'.heap[x.b]? =w3.heap[x.b]?:=(aZ.frame x.b LS IK).1;have dg:w'.heap[x.b]? =some (.mapIter (some y.b) ck (seen.push en.born) ck):=by rw[zZ];exact oG
           have MM:aN aO (sc.wl s.lim) w3 aO (sc.wl s.lim) w':=by
            refine⟨λ_ _=>rfl,Nat.le_refl _,aZ.tape,aZ.os,aZ.out,aZ.size,λb hb hn=>⟨(aZ.frame b hb hn).1,hn⟩,λ_ _ _=> .inl rfl,aZ.lp,rfl,λ_ _=>rfl,λq k' x' hl hn fZ hro fm=>?_⟩;have hl:q<s.lim:=hl;have JM:s.lim<=sc.nx:=by have:=hR.lim;omega
            exact aZ.gD q k' x' (Nat.lt_of_lt_of_le hl JM) hn fZ hro fm
           refine⟨⟨aO,sc,W,seen.push en.born,⟨iR.size,G1.tk,gH (λa x' e=>hle _ _ (pS _ _ e)) da.env (λt v hv=>iR.env t v (dD nc t v hv))⟩,(lP.re (λd hd=>?_)),ML,ij.trans MM,HR,pT,Np,λa ha k x' e1 e2=>?_,IK,dg,KQ,Qy,Qz,λjZ h1 p h2 h3=>?_,λp hp=>Nr p hp (λe=>QA (by rw[<-e];exact hp))⟩,EN (a':=a') dg⟩
           ·obtain⟨r,q1,q2,q3,q4,q5⟩:=hd;exact⟨r,q1,q2,q3,λhh=>q4 (hh.up iu hle ky),q5⟩
           ·obtain⟨z1,z2⟩:=EH a ha k x' e1 e2;exact⟨((aZ.frame x'.b (Nat.lt_of_lt_of_le (dn.blk a k x' e1 e2).1 ij.size) z2).1).trans z1,z2⟩
           ·by_cases Ef:p=pe
            ·exact .inr (.inl (by rw[Ef];exact MK))
            ·exact Jn jZ h1 p h2 h3 Ef
      |some found=>
       rw[Ax]at h;obtain⟨UN,_,UO⟩:=hZ Ax;have over:∀(a1:Act) (w2:World) (MO:Value),bt aa nt ρ ee a1->Marks n0 ρ s1 w2 a1.defers->Rel P ρ s1 w2->aN ρ s w ρ s1 w2->found=none->∀QL:Exit->Act->World->Prop,QL (.exit m.b0)=Q (.exit m.b0)->
         (Code.seq (.cond (.tmp m.t9) .skip (.exit m.b0)) (.block m.b1 (.seq (.region i2 r2 false) m.body))).wpIn F 0 P QL ((a1.put (some m.d1) MO).put (some m.t9) (.bool false)) w2:=by
        intro a1 w2 MO da g7 dO fC hf QL UP;subst hf;have h:iy M ee s1= .code e tm' s':=h;rw[AZ]at h;cases hp:T.put (some (.bool false)) ee m.t9 with
        |none=>rw[hp]at h;cases h
        |some aw=>rw[hp]at h;cases h;have Ci:=(da.eD (u:=MO) pU).put LP h9 (.bool false) hp;refine wpIn_seq ?_;have Ed:((a1.put (some m.d1) MO).put (some m.t9) (.bool false)).eval (.tmp m.t9)= .bool false:=ct (aT (Nat.lt_of_lt_of_le h9 (da.eD (u:=MO) pU).size));refine wpIn_cond Ed ?_;refine wpIn_exit ?_;show QL (.exit m.b0) _ _;rw[UP];exact hQ ρ _ _ Ci (by rw[aB,aB];exact g7) dO fC
       rcases pV with ⟨rfl,pV⟩|⟨mb,y,rfl,hy,pV⟩
       ·
        have hes:some []=some es:=hes;cases hes;have hf:found=none:=by have Ax:some none=some found:=Ax;cases Ax;rfl
        let I:Act->World->Prop:= λa1 w1=>bt aa nt ρ ee a1∧Marks n0 ρ s1 w1 a1.defers∧Rel P ρ s1 w1∧aN ρ s w ρ s1 w1∧w1.heap[x.b]? =some (.mapIter none 0 #[] 0)
        refine wpIn_loop I (λ_ _=>0) ⟨G1,hM.step dv,dn,dv,pV⟩ (λa1 w1 hI=>?_);obtain⟨da,g7,G2,gM,uu⟩:=hI;refine wpIn_seq ?_;refine cB hF x5 Aq Hh GZ Hi Hj G0 (vs:= #[.bool false]) (b:=false) rfl (Nat.lt_of_lt_of_le Ch da.size) (λty=>by rw[oE da];exact Gz uu) ?_;exact over a1 w1 _ da g7 G2 gM hf _ rfl
       ·
        have hes:mapOf (s.h.get mb) (λ_ es ck'=>ab (Nat.beq ck ck') (some es) none)=some es:=hes;replace hes:=bk hes;obtain⟨kt,bf,ck',GP,hes⟩:=hes;replace hes:=ae hes;obtain⟨Ar,hes⟩:=hes;replace Ar:=Nat.eq_of_beq_eq_true Ar;subst Ar;cases hes;have hne:mb≠ib:= λe=>by rw[e,hblk]at GP;cases GP
        have rk:s1.h.get mb=some (.map kt es ck):=by rw[(AS.cP gZ).2,if_neg hne];exact GP
        obtain⟨KE,ents,B7,fj,iQ⟩:=hR.blk mb _ y GP hy;have Jo:mb<s1.nx:=by rw[ug];exact Nat.lt_of_not_le λhle=>by rw[hR.eu mb hle]at hy;cases hy
        have wR:∀e∈ents.toList,∃p∈es,bN P ρ kt p e:= λe he=>by obtain⟨l,hp,hf,_⟩:=fj;exact F2.cp hf e (hp.mem_iff.2 he)
        have HJ:∀p∈es,∃e∈ents.toList,bN P ρ kt p e:= λp hp=>by obtain⟨l,Eb,hf,_⟩:=fj;obtain⟨g6,fQ,rfl⟩:=List.append_of_mem hp;obtain⟨m1,b,m2,rfl,_,hr,_⟩:=hf.split;exact⟨b,Eb.mem_iff.1 (by simp),hr⟩
        have yH:∀p∈es,∀q∈es,p.1=q.1->p=q:= λp hp q hq e=>by
         obtain⟨l,Eb,hf,ew⟩:=fj;obtain⟨g6,fQ,rfl⟩:=List.append_of_mem hp;rw[List.map_append,List.map_cons,List.nodup_append]at ew;rcases List.mem_append.1 hq with hq|hq
         ·exact(ew.2.2 q.1 (List.mem_map.2 ⟨q,hq,rfl⟩) p.1 (by simp) e.symm).elim
         ·rcases List.mem_cons.1 hq with rfl|hq
          ·rfl
          ·exact((List.nodup_cons.1 ew.2.1).1 (by rw[e];exact List.mem_map.2 ⟨q,hq,rfl⟩)).elim
        have lN:∀e∈ents.toList,∀e'∈ents.toList,e.born=e'.born->e=e':= λe he e' gq hb=>by
         obtain⟨t1,t2,ht⟩:=List.append_of_mem he;have ew:=iQ.1;rw[ht]at gq ew;rw[List.map_append,List.map_cons,List.nodup_append]at ew;rcases List.mem_append.1 gq with gq|gq
         ·exact(ew.2.2 e'.born (List.mem_map.2 ⟨e',gq,rfl⟩) e.born (by simp) hb.symm).elim
         ·rcases List.mem_cons.1 gq with rfl|gq
          ·rfl
          ·exact((List.nodup_cons.1 ew.2.1).1 (by rw[hb];exact List.mem_map.2 ⟨e',gq,rfl⟩)).elim
        let RL:MapEntry->Prop:= λe=>∃p∈es,bN P ρ kt p e∧CJ M ev ee s1 p
        let I:Act->World->Prop:= λa1 w1=>bt aa nt ρ ee a1∧Marks n0 ρ s1 w1 a1.defers∧Rel P ρ s1 w1∧aN ρ s w ρ s1 w1∧w1.heap[y.b]? =some (.map ents ck)∧
         ∃seen:Array Nat,w1.heap[x.b]? =some (.mapIter (some y.b) ck seen ck)∧∀e∈ents.toList,e.born∈seen.toList->RL e
        let μ:Act->World->Nat:= λ_ w1=>match w1.heap[x.b]? with|some (.mapIter _ _ seen _)=>(ents.toList.filter λ(e:MapEntry)=>!seen.toList.contains e.born).length|_=>0
        refine wpIn_loop I μ ⟨G1,hM.step dv,dn,dv,B7,#[],pV,λe _ h=>by simp at h⟩ (λa1 w1 hI=>?_);obtain⟨da,g7,G2,gM,uj,seen,uu,nb⟩:=hI;have hμ:μ a1 w1=(ents.toList.filter λe=>!seen.toList.contains e.born).length:=by show(match w1.heap[x.b]? with|some (.mapIter _ _ seen _)=>(ents.toList.filter λ(e:MapEntry)=>!seen.toList.contains e.born).length|_=>0)=_;rw[uu]
        refine wpIn_seq ?_;rcases next_some (P:=P) uu uj iQ with ⟨w2,hall,hrun,hsame⟩|⟨en,w2,hen,hnew,hrun,hsame⟩
        ·refine cB hF x5 Aq Hh GZ Hi Hj G0 (vs:= #[.bool false]) (b:=false) rfl (Nat.lt_of_lt_of_le Ch da.size) (λty=>by rw[oE da];exact hrun ty) ?_;have hf:found=none:=by
          cases Ee:found with
          |none=>rfl
          |some o=>
           exfalso;rcases UO o Ee with h|⟨p,hp,cC⟩
           ·cases h
           ·obtain⟨e1,Cd,RM⟩:=HJ p hp;obtain⟨p',oQ,eR,⟨⟨tA,sA,OA⟩,_⟩⟩:=nb e1 Cd (hall e1 Cd);have:p'=p:=yH p' oQ p hp (by rw[eR.1,RM.1]);subst this;obtain⟨ho,xx,t3,s3,Ju,IK⟩:=cC;rw[OA,Ju]at ho;cases ho;exact IK rfl
         exact over a1 w2 _ da (g7.step (.of_heap hsame.heap hsame.tape hsame.os hsame.out)) (G2.of_heap hsame.heap) (gM.trans (.of_heap hsame.heap hsame.tape hsame.os hsame.out)) hf _ rfl
        ·refine cB hF x5 Aq Hh GZ Hi Hj G0 (vs:= #[.bool true,en.key,en.val]) (b:=true) rfl (Nat.lt_of_lt_of_le Ch da.size) (λty=>by rw[oE da];exact hrun ty) ?_;have EG:Rel P ρ s1 w2:=G2.of_heap hsame.heap;have VC:aN ρ s1 w1 ρ s1 w2:= .of_heap hsame.heap hsame.tape hsame.os hsame.out;generalize hw3:({w2 with heap:=w2.heap.setIfInBounds x.b (.mapIter (some y.b) ck (seen.push en.born) ck)}:World)=w3;have iu:Rel P ρ s1 w3:=by rw[<-hw3];exact EG.wP GX (λi=>by simp[World.cell?,hsame.heap,uu])
         have G8:x.b<w2.heap.size:=by have:=(Array.getElem?_eq_some_iff.1 uu).1;rw[hsame.heap];exact this
         have oG:w3.heap[x.b]? =some (.mapIter (some y.b) ck (seen.push en.born) ck):=by rw[<-hw3];simp[G8]
         have Dg:y.b≠x.b:= λe=>GX ⟨mb,_,y,rk,hy,e⟩;have ve:w3.heap[y.b]? =some (.map ents ck):=by rw[<-hw3];simp only;rw[Array.getElem?_setIfInBounds_ne (Ne.symm Dg),hsame.heap];exact uj
         have eQ:∀b,b≠x.b->w3.heap[b]? =w1.heap[b]?:= λb hb=>by rw[<-hw3];simp only;rw[Array.getElem?_setIfInBounds_ne (Ne.symm hb),hsame.heap]
         have hsz3:w3.heap.size=w1.heap.size:=by rw[<-hw3];simp[hsame.heap]
         have ht3:w3.tape=w1.tape∧w3.os=w1.os∧w3.output=w1.output:=by rw[<-hw3];exact⟨hsame.tape,hsame.os,hsame.out⟩
         have P0:s.lim<=ib:=(AS.aS gZ).2;have OB:w.heap[x.b]? =some (.mapIter (some y.b) ck #[] ck):=pV;have ij:aN ρ s w ρ s1 w3:=by
          refine⟨gM.jY,gM.nx,by rw[ht3.1];exact gM.tape,by rw[ht3.2.1];exact gM.os,by rw[ht3.2.2];exact gM.out,by rw[hsz3];exact gM.size,λb hb hn=>?_,gM.ph,λb l hb=>?_,gM.lim,gM.low,λa' k' x' hl hn fZ hro fm=>?_⟩
          ·have iO:b≠x.b:= λe=>hn ⟨ib,_,x,hblk,hx,e.symm⟩;obtain⟨q1,q2⟩:=gM.frame b hb hn;exact⟨by rw[eQ b iO];exact q1,q2⟩
          ·have iO:b≠x.b:= λe=>by rw[e,OB]at hb;cases hb
           rw[eQ b iO];exact gM.lp b l hb
          ·have iO:x'.b≠x.b:= λe=>by
            have cL:a'≠ib:=by omega
            have:=(hR.aX a' ib k' _ x' x cL fZ hblk fm hx e).1;rw[hro]at this;cases this
           rw[eQ _ iO];exact gM.gD a' k' x' hl hn fZ hro fm
         have II:Marks n0 ρ s1 w3 a1.defers:=by
          refine g7.re (λd hd=>?_);obtain⟨r,q1,q2,q3,q4,q5⟩:=hd;have Mz:r≠x.b:= λe=>by rw[e,uu]at q2;cases q2
          exact⟨r,q1,by rw[eQ r Mz];exact q2,by rw[hsz3];exact q3,q4,q5⟩
         have MA:∀l,F.round=some l->∃r,w3.heap[l]? =some (Obj.loop r):=dG hL ij;have Jw:n0.n<=w3.heap.size:=Nat.le_trans fh ij.size;refine wpIn_seq ?_;have mR:=da.eD (u:= .tuple #[.bool true,en.key,en.val]) pU;have Ed:((a1.put (some m.d1) (.tuple #[.bool true,en.key,en.val])).put (some m.t9) (.bool true)).eval (.tmp m.t9)= .bool true:=ct (aT (Nat.lt_of_lt_of_le h9 mR.size));refine wpIn_cond Ed ?_;refine wpIn_skip ?_;show(Code.block m.b1 (.seq (.region i2 r2 false) m.body)).wpIn F 0 P _ _ w3;obtain⟨pe,x9,hent⟩:=wR en hen;have MD:ag ρ pe.1 en.key:=by rw[hent.1];have:=hent.2.2.1;rw[hent.1]at this;exact jL this
         have ju:∀(sA:AS) (xx:cm) (tx:T Value) (sx:AS),bT M ev (pe.1,pe.2.1) ee sA= .code xx tx sx->Rel P ρ sA w3->Marks n0 ρ sA w3 a1.defers->∀Q':Exit->Act->World->Prop,lu P n0 aa nt ρ sA w3 xx tx sx Q'->
           (Code.block m.b1 (.seq (.region i2 r2 false) m.body)).wpIn F 0 P Q' ((a1.put (some m.d1) (.tuple #[.bool true,en.key,en.val])).put (some m.t9) (.bool true)) w3:=by
          intro sA xx tx sx dL JK MB Q' MC;rw[xu]at dL;cases hp:T.put (some (.bool true)) ee m.t9 with
          |none=>rw[hp]at dL;cases dL
          |some aw=>
           rw[hp]at dL;have Ci:=mR.put LP h9 (.bool true) hp;have EJ:((a1.put (some m.d1) (.tuple #[.bool true,en.key,en.val])).put (some m.t9) (.bool true)).eval (.tmp m.it)= .pointer (some ⟨x.b,0,none⟩):=by
            have EL:m.it≠m.d1:= λe=>by rw[e,pU]at C7;cases C7
            rw[cx (by intro e;exact KB (by injection e)),cx (by intro e;exact EL (by injection e))];exact oE da
           exact kZ hev hF KA ym Hg Ms IC LO KD Mu (k:=pe.1) (v:=pe.2.1) dL Ci Jw (by rw[aB,aB];exact MB) MA JK (by rw[EJ];exact run_entry oG ve iQ hen) MD hent.2.2.2.1 MC
         rcases UN pe x9 with cK|⟨o,z6,cC⟩
         ·have RN:=cK;obtain⟨_,tx,sx,dL,nc⟩:=RN;have IJ:Rel P ρ ⟨s1.h,s1.nx,s1.nx⟩ w3:=⟨iu.eu,iu.top,iu.blk,Nat.le_refl _,iu.aX,iu.gl⟩
          refine ju _ .normal tx sx dL IJ (II.re (λ_ h=>h)) _ (λaj a' w' iR lP eN aZ=>?_);have hle:=aZ.le IJ;have ky:∀q,q<s1.nx->sx.h.get q=s1.h.get q:= λq hq=>aZ.low q hq;have ML:Rel P ρ s1 w':=iu.down eN hle ky;have zZ:w'.heap[x.b]? =w3.heap[x.b]?:=(aZ.frame x.b (by rw[hsz3];exact(Array.getElem?_eq_some_iff.1 uu).1) GX).1;have UQ:w'.heap[y.b]? =w3.heap[y.b]?:=aZ.gD mb _ y Jo Jo rk rfl hy;have MM:aN ρ s1 w3 ρ s1 w':=by refine⟨λ_ _=>rfl,Nat.le_refl _,aZ.tape,aZ.os,aZ.out,aZ.size,λb hb hn=>⟨(aZ.frame b hb hn).1,hn⟩,λ_ _ _=> .inl rfl,aZ.lp,rfl,λ_ _=>rfl,λq k' x' hl hn fZ hro fm=>?_⟩;exact aZ.gD q k' x' (Nat.lt_of_lt_of_le hl iu.lim) hn fZ hro fm
          have dg:w'.heap[x.b]? =some (.mapIter (some y.b) ck (seen.push en.born) ck):=by rw[zZ];exact oG
          refine⟨⟨⟨iR.size,G1.tk,gH hle da.env (λt v hv=>iR.env t v (dD nc t v hv))⟩,(lP.re (λd hd=>?_)),ML,ij.trans MM,by rw[UQ];exact ve,_,dg,λe1 Cd yj=>?_⟩,?_⟩
          ·obtain⟨r,q1,q2,q3,q4,q5⟩:=hd;exact⟨r,q1,q2,q3,λhh=>q4 (hh.up iu hle ky),q5⟩
          ·rw[Array.toList_push]at yj;rcases List.mem_append.1 yj with yj|yj
           ·exact nb e1 Cd yj
           ·simp only[List.mem_singleton]at yj;have:=lN e1 Cd en hen yj;subst this;exact⟨pe,x9,hent,cK⟩
          ·rw[hμ];show(match w'.heap[x.b]? with|some (.mapIter _ _ seen _)=>(ents.toList.filter λ(e:MapEntry)=>!seen.toList.contains e.born).length|_=>0)<_;rw[dg];simp only[Array.toList_push];exact filter_less ⟨en,hen,rfl⟩ hnew
         ·obtain⟨ho,xx,t3,s3,rfl,IK⟩:=cC;subst z6;have h:Out.code xx t3 s3= .code e tm' s':=h;cases h;refine ju s1 e tm' s' ho iu II _ (λaj a' w' iR lP eN aZ=>?_);have:=hQ aj a' w' iR lP eN (ij.trans aZ);cases e with
          |normal=>exact(IK rfl).elim
          |exit id=>exact this
          |goto l=>exact this
          |ret=>exact this
   ·cases h
  ·cases h
end Go.Eng
end
noncomputable section
namespace Go.Eng
open Go
variable {s s' s0:AS} {tmps:Array Value} {c:Code} {ev:Ev} {F:Fence} {args ao:List Value} {x:Loc} {f i aa nt:Nat} {P:Program} {ρ cD:Ren} {t0 tm tm':T Value} {v:Value} {w:World}
theorem FB (c:Code):du P aa nt c (λ_ _ _=> .no):= λev hev F hF ρ tm s a w x tm' s' h=>by cases h
theorem DN {o:Option CF} {f:CF} (h:Kd o=some f):o=some f∨f= λ_ _ _=> .no:=by
 cases o with
 |none=>cases h;exact .inr rfl
 |some g=>cases h;exact .inl rfl
theorem GC (hP:Plainly P) (hm:P.follows .mixedOrders=true) {fn:Nat}:∀(n:Nat) (c:Code) (f:CF),fN P fn nt aa n c=some f->du P aa nt c f:=by
 intro n;induction n with
 |zero=>intro c f h;cases h
 |succ n ih=>
  intro c;cases c with
  |skip=>intro f h;cases h;exact Ie
  |region id ops draw=>
   intro f h;have h:Kd (ab draw (Kc (rG P aa nt ops.toList kq) (ni P aa nt ops.toList)) (ob (dC P aa nt ops.toList ops.toList []) BS))=some f:=h;rcases DN h with h|rfl
   ·cases draw with
    |true=>
     have h:Kc (rG P aa nt ops.toList kq) (ni P aa nt ops.toList)=some f:=h;cases e:(rG P aa nt ops.toList kq)with
     |none=>rw[e]at h;exact Gy hm h
     |some g=>rw[e]at h;cases h;exact Im hm e
    |false=>obtain⟨l,hl,h⟩:=U h;rw[Gp]at h;cases h;exact tO hl
   ·exact FB _
  |seq a b=>intro f h;have h:ob (fN P fn nt aa n a) (λa=>ob (fN P fn nt aa n b) λb=>some (Ej a b))=some f:=h;obtain⟨fa,ha,h⟩:=U h;obtain⟨fb,hb,h⟩:=U h;cases h;exact F5 (ih a fa ha) (ih b fb hb)
  |cond c a b=>intro f h;have h:ob (bA aa [] c) (λc=>ob (fN P fn nt aa n a) λa=>ob (fN P fn nt aa n b) λb=>some (yx c a b))=some f:=h;obtain⟨fc,hc,h⟩:=U h;obtain⟨fa,ha,h⟩:=U h;obtain⟨fb,hb,h⟩:=U h;cases h;exact CB hc (ih a fa ha) (ih b fb hb)
  |block id a=>intro f h;have h:ob (fN P fn nt aa n a) (λa=>some (rH id a))=some f:=h;obtain⟨fa,ha,h⟩:=U h;cases h;exact yZ (ih a fa ha)
  |loop a=>
   intro f h;have h:(match kD a with
    |some m=>lB P nt aa (fN P fn nt aa n) (Cr a) m
    |none=>ob (fN P fn nt aa n a) λa=>some (Fh a))=some f:=h
   split at h
   ·rename_i m hs;exact By hs h (λc cf hc=>ih c cf hc)
   ·obtain⟨fa,ha,h⟩:=U h;cases h;exact Ii (ih a fa ha)
  |rangeFunc g ps Lv bd=>intro f h;have h:ob (bA aa [] g) (λf=>ab (tX (λp=>Nat.blt p nt) ps.toList) (some (mr P fn nt aa f ps.toList Lv bd)) none)=some f:=h;obtain⟨fg,hg,h⟩:=U h;obtain⟨uh,h⟩:=ae h;cases h;exact xY hP hg λp hp=>Nat.le_of_ble_eq_true (fE uh p hp)
  |exit id=>intro f h;cases h;exact Ig id
  |scope a=>intro f h;have h:ob (fN P fn nt aa n a) (λa=>some (rI a))=some f:=h;obtain⟨fa,ha,h⟩:=U h;cases h;exact yY (ih a fa ha)
  |label l=>intro f h;cases h;exact Gv l
  |goto l=>intro f h;cases h;exact Ih l
  |ret=>intro f h;cases h;exact Ld
  |refuse w=>intro f h;cases h;exact FB _
theorem dt (hP:Plainly P) (hm:P.follows .mixedOrders=true) {fn:Nat} (c:Code) (f:CF) (h:cG P fn nt aa c=some f):du P aa nt c f:=GC hP hm 1000 c f h
def gx (tmps:Array Value):ResultVar->Sem Value
 | .tmp t=>pure (tmps.getD t undef)
 | .cell a t=>do loadVar t (<-asAddr (tmps.getD a undef))
theorem Bz {r:ResultVar} (hR:Rel P ρ s w) (hE:gC ρ tm tmps) (h:nr P s tm r=some v):∃u,(gx tmps r).run P w= .ok u w∧ag ρ v u:=by
 cases r with
 |tmp t=>have h:tm.get t=some v:=h;obtain⟨u,hu,hv⟩:=hE t v h;refine⟨u,?_,hv⟩;show Sem.run P (pure (tmps.getD t undef)) w=_;rw[Array.getD_eq_getD_getElem?,hu];rfl
 |cell a t=>
  have h:ob (tm.get a) (λa=>uY P t s a)=some v:=h;obtain⟨p,hp,h⟩:=U h;obtain⟨u,hu,hv⟩:=hE a p hp;obtain⟨r,h1,h2⟩:=p0 hR h hv;refine⟨r,?_,h2⟩;unfold uY at h;split at h
  ·cases hv with| @ptr _ x off hx=>?_
   have e1:(Instr.loadAt t (.pointer (some ⟨x.b,x.base+off,none⟩)))=loadVar t ⟨x.b,x.base+off,none⟩:=rfl;show Sem.run P (do loadVar t (<-asAddr (tmps.getD a undef))) w=_;rw[Array.getD_eq_getD_getElem?,hu];rw[e1]at h1;exact h1
  ·unfold yv at h;split at h
   ·rename_i g off _;cases hv with| @mT g off=>?_
    have e1:(Instr.loadAt t (.pointer (some ⟨g,off,none⟩)))=loadVar t ⟨g,off,none⟩:=rfl;show Sem.run P (do loadVar t (<-asAddr (tmps.getD a undef))) w=_;rw[Array.getD_eq_getD_getElem?,hu];rw[e1]at h1;exact h1
   ·cases h
theorem pq {ρ:Ren} {s:AS} {w:World} {tm:T Value} {tmps:Array Value} (hR:Rel P ρ s w) (hE:gC ρ tm tmps):∀(l:List ResultVar) (vs:List Value),cX P s tm l=some vs->∃us,(l.mapM (gx tmps)).run P w= .ok us w∧af ρ vs us
 | [],vs,h=>by have h:some []=some vs:=h;cases h;exact⟨[],rfl,.nil⟩
 |r::l,vs,h=>by have h:ob (nr P s tm r) (λv=>ob (cX P s tm l) λl=>some (v::l))=some vs:=h;obtain⟨v,hv,h⟩:=U h;obtain⟨Jt,yk,h⟩:=U h;cases h;obtain⟨u,h1,h2⟩:=Bz hR hE hv;obtain⟨us,h3,h4⟩:=pq hR hE l Jt yk;refine⟨u::us,?_,.cons h2 h4⟩;rw[List.mapM_cons];simp only[Sem.run_bind,h1,Result.andThen_ok,h3,Sem.run_pure]
theorem tt (fn:Func) (tmps:Array Value):results fn tmps=(do let vs<-fn.results.mapM (gx tmps);pure (if h:vs.size=1 then vs[0]else .tuple vs)):=by unfold results;congr 1
theorem mH {fn:Func} (hR:Rel P ρ s w) (hE:gC ρ tm tmps) (h:eW P fn.results.toList tm s= .val v s'):s'=s∧∃u,(results fn tmps).run P w= .ok u w∧ag ρ v u:=by
 have h:Option.rec (motive:= λ_=>Out) .no (λvs=>match vs with
  | [v]=> .val v s
  |vs=> .val (.tuple ⟨vs⟩) s) (cX P s tm fn.results.toList)= .val v s':=h
 cases hr:cX P s tm fn.results.toList with
 |none=>rw[hr]at h;cases h
 |some vs=>
  rw[hr]at h;obtain⟨us,h1,h2⟩:=pq hR hE _ _ hr;have hrun:(fn.results.mapM (gx tmps)).run P w= .ok us.toArray w:=by
   rw[Array.mapM_eq_mapM_toList];have:(Functor.map List.toArray (fn.results.toList.mapM (gx tmps)))=(do let l<-fn.results.toList.mapM (gx tmps);pure l.toArray):=by rw[map_eq_pure_bind]
   rw[this];simp only[Sem.run_bind,h1,Result.andThen_ok,Sem.run_pure]
  rw[tt];simp only[Sem.run_bind,hrun,Result.andThen_ok,Sem.run_pure];have hl:=h2.length
  match vs,us,h2,h with
  | [v'],[u'],.cons hv .nil,h=>cases h;exact⟨rfl,u',rfl,hv⟩
  | [],[],h2,h=>cases h;exact⟨rfl,.tuple #[],rfl,.tuple .nil⟩
  |v1::v2::vs,u1::u2::us,h2,h=>cases h;refine⟨rfl,.tuple (u1::u2::us).toArray,?_,.tuple h2⟩;simp
theorem run_takeDeferred {r:Nat} (h:w.heap[r]? =some (.deferred (some []))):(Instr.takeDeferred r).run P w= .ok [] {w with heap:=w.heap.setIfInBounds r (.deferred none)}:=by simp only[Instr.takeDeferred,Sem.run_bind,ar h (by simp),Result.andThen_ok,aM h (by simp),Sem.run_pure]
theorem pr {F:Fence} {fn:Func} {tmps:Array Value} {R:Ending->World->Prop} {n0:Nat} {cD ρ:Ren} {s0 s:AS} {w0:World} (fh:n0=w0.heap.size) (QB:List Deferred)
  (hQ:∀w,Rel P ρ s w->aN cD s0 w0 ρ s w->LeavesInM F 0 P fn tmps R QB .returning w):∀(ds:List Deferred) (w:World),(∀d∈ds,∃r,d.target= .collected r∧w.heap[r]? =some (.deferred (some []))∧r<w.heap.size∧¬aQ ρ s r∧n0<=r)->(ds.Pairwise λd d'=>∀r,d.target= .collected r->d'.target≠.collected r)->Rel P ρ s w->aN cD s0 w0 ρ s w->LeavesInM F 0 P fn tmps R (ds++QB) .returning w
 | [],w,_,_,hR,hS=>hQ w hR hS
 |d::ds,w,Dj,tG,hR,hS=>by
  obtain⟨r,h1,h2,h3,h4,h5⟩:=Dj d (by simp);refine⟨by simp,.inl ⟨r,_,h1,run_takeDeferred h2,pr fh QB hQ ds _ (λd' uk=>?_) (List.pairwise_cons.1 tG).2 (hR.wP h4 (λi=>by simp[World.cell?,h2])) ?_⟩⟩
  ·obtain⟨r',e1,e2,e3,e4,e5⟩:=Dj d' (by simp[uk]);have hne:r≠r':= λe=>(List.pairwise_cons.1 tG).1 d' uk r h1 (by rw[e1,e]);exact⟨r',e1,by simp[hne,e2],by simpa using e3,e4,e5⟩
  ·refine⟨hS.jY,hS.nx,hS.tape,hS.os,hS.out,by simpa using hS.size,λb hb hn=>?_,hS.ph,λb l hb=>?_,hS.lim,hS.low,λa k x hl hn hk hro hx=>?_⟩
   ·obtain⟨a1,a2⟩:=hS.frame b hb hn;have hne:r≠b:=by omega
    exact⟨by simp[hne,a1],a2⟩
   ·obtain⟨r',eR⟩:=hS.lp b l hb;have hne:r≠b:= λe=>by rw[e,eR]at h2;cases h2
    exact⟨r',by simp[hne,eR]⟩
   ·have hne:r≠x.b:= λe=>h4 ⟨a,k,x,by rw[hS.low a hl];exact hk,by rw[hS.jY a hn];exact hx,e.symm⟩;rw[<-hS.gD a k x hl hn hk hro hx];simp[hne]
theorem jP {fn:Func} {R:Ending->World->Prop} {w0:World} (hv:∀w,Rel P ρ s w->∃u,(results fn tmps).run P w= .ok u w∧ag ρ v u) (hQ:∀u w,ag ρ v u->Rel P ρ s w->aN cD s0 w0 ρ s w->R (.returned u) w) (ds:List Deferred) (w:World) (hM:Marks ⟨w0.heap.size,[]⟩ ρ s w ds) (hR:Rel P ρ s w) (hS:aN cD s0 w0 ρ s w):LeavesInM F 0 P fn tmps R ds .returning w:=by
 obtain⟨ms,he,Dj,tG⟩:=hM.own;rw[he];exact pr (n0:=w0.heap.size) rfl _ (λw hR hS=>by obtain⟨u,h1,h2⟩:=hv w hR;exact⟨u,h1,hQ u w h2 hR hS⟩) ms w Dj tG hR hS
theorem qo {t t':T Value} (h:nq aa i v t=some t'):∀j,t'.get j=if kept aa i=true∧j=i then some v else t.get j:=by
 have h:ab (kept aa i) (T.put (some v) t i) (some t)=some t':=h;cases hk:kept aa i with
 |true=>rw[hk,bG]at h;intro j;rw[T.aR _ _ _ _ h j];simp
 |false=>rw[hk,bX]at h;cases h;intro j;simp
theorem fY {aa:Nat}:∀(l:List Value) (i:Nat) (t t':T Value),gu aa l i t=some t'->∀j v,t'.get j=some v->(kept aa j=true∧i<=j∧l[j-i]? =some v)∨t.get j=some v
 | [],i,t,t',h,j,v,hv=>by have h:some t=some t':=h;cases h;exact .inr hv
 |a::l,i,t,t',h,j,v,hv=>by
  have h:ob (nq aa i a t) (λt'=>gu aa l (Nat.succ i) t')=some t':=h;obtain⟨t1,h1,h⟩:=U h;rcases fY l _ _ _ h j v hv with ⟨e1,e2,e3⟩|e
  ·refine .inl ⟨e1,by omega,?_⟩;rw[show j-i=(j-(i+1))+1 by omega];simpa using e3
  ·rw[qo h1]at e;split at e
   ·rename_i hc;cases e;obtain⟨hk,rfl⟩:=hc;exact .inl ⟨hk,by omega,by simp⟩
   ·exact .inr e
theorem Gd {fn:Func} (hf:P.funcs[f]? =some fn) (hb:fn.body=some c) (fk:mkT fn.ntmps=some t0) {b:CF} (hc:du P aa fn.ntmps c b) (hev:EvOk P ev) (h:L3 P aa t0 fn.results.toList b ev args s= .val v s') (hR:Rel P ρ s w) (ha:af ρ args ao):
  CallsIn Fence.wide 0 P f ao.toArray w λe w'=>∃u,e= .returned u∧∃aj,ag aj v u∧Rel P aj s' w'∧aN ρ s w aj s' w':=by
 have h:Option.rec (motive:= λ_=>Out) .no (λtm=>oU P fn.results.toList (b ev tm s)) (gu aa args 0 t0)= .val v s':=h;cases hp:gu aa args 0 t0 with
 |none=>rw[hp]at h;cases h
 |some tm=>
  rw[hp]at h;have h:oU P fn.results.toList (b ev tm s)= .val v s':=h;have hlen:=ha.length;have hE:bt aa fn.ntmps ρ tm {tmps:=ao.toArray++Array.replicate (fn.ntmps-ao.toArray.size) undef,defers:= []}:=by
   refine⟨by simp;omega,λt v hv=>?_,λt v hv=>?_⟩
   ·rcases fY _ _ _ _ hp t v hv with ⟨h1,_,_⟩|h1
    ·exact h1
    ·rw[qM _ _ fk]at h1;cases h1
   ·rcases fY _ _ _ _ hp t v hv with ⟨_,_,h1⟩|h1
    ·obtain⟨u,hu,eE⟩:=ha.get h1;refine⟨u,?_,eE⟩;have hlt:t<ao.length:=by
      have:=(List.getElem?_eq_some_iff.1 hu).1;simpa using this
     rw[Array.getElem?_append_left (by simpa using hlt)];simpa using hu
    ·rw[qM _ _ fk]at h1;cases h1
  refine callsIn_of_wp_marks hf hb trivial ?_;cases ho:b ev tm s with
  |no=>rw[ho]at h;cases h
  |val=>rw[ho]at h;cases h
  |code x aw s1=>
   rw[ho]at h;have fin:∀aj a' w',bt aa fn.ntmps aj aw a'->Marks ⟨w.heap.size,[]⟩ aj s1 w' a'.defers->Rel P aj s1 w'->aN ρ s w aj s1 w'->eW P fn.results.toList aw s1= .val v s'->
     LeavesInM Fence.wide 0 P fn a'.tmps (λe w'=>∃u,e= .returned u∧∃aj,ag aj v u∧Rel P aj s' w'∧aN ρ s w aj s' w') a'.defers .returning w':=by
    intro aj a' w' iR lP eN aZ HU;obtain⟨G7,_⟩:=mH eN iR.env HU;rw[G7];exact jP (λw2 dO=>(mH dO iR.env HU).2) (λu w2 hu dO fC=>⟨u,rfl,aj,hu,dO,fC⟩) _ _ lP eN aZ
   refine hc ev hev Fence.wide (.inl rfl) ρ tm s _ w x aw s1 ho hE ⟨w.heap.size,[]⟩ (Nat.le_refl _) .nil (λl hl=>(by cases hl)) hR _ (λaj a' w' iR lP eN aZ=>?_);cases x with
   |normal=>exact fin aj a' w' iR lP eN aZ h
   |ret=>exact fin aj a' w' iR lP eN aZ h
   |exit id=>cases h
   |goto l=>cases h
theorem OC (hP:Plainly P) (hm:P.follows .mixedOrders=true) {fn:Func} (hf:P.funcs[f]? =some fn) (hb:fn.body=some c) (fk:mkT fn.ntmps=some t0) {b:CF} (hc:cG P f fn.ntmps aa c=some b) (hev:EvOk P ev) (h:L3 P aa t0 fn.results.toList b ev args s= .val v s') (hR:Rel P ρ s w) (ha:af ρ args ao):
  CallsIn Fence.wide 0 P f ao.toArray w λe w'=>∃u,e= .returned u∧∃aj,ag aj v u∧Rel P aj s' w'∧aN ρ s w aj s' w':=Gd hf hb fk (dt hP hm c b hc) hev h hR ha
theorem lW {kp:Nat}:∀(ps:List Tmp) (l:List Value) (t t':T Value),jb kp ps l t=some t'->∀ {ρ:Ren} {l':List Value} {tmps:Array Value},af ρ l l'->gC ρ t tmps->(∀p∈ps,p<tmps.size)->(∀j v,t.get j=some v->kept kp j=true)->
  l'.length=ps.length∧gC ρ t' ((ps.toArray.zip l'.toArray).foldl (λtmps (t,a)=>tmps.setIfInBounds t a) tmps)∧(∀j v,t'.get j=some v->kept kp j=true)∧((ps.toArray.zip l'.toArray).foldl (λtmps (t,a)=>tmps.setIfInBounds t a) tmps).size=tmps.size
 | [],l,t,t',h,ρ,l',tmps,hl,hE,_,hk=>by
  cases l with
  |nil=>have h:some t=some t':=h;cases h;cases hl;exact⟨rfl,by simpa using hE,hk,by simp⟩
  |cons=>cases h
 |p::ps,l,t,t',h,ρ,l',tmps,hl,hE,hlt,hk=>by
  cases l with
  |nil=>cases h
  |cons v l=>
   have h:ob (nq kp p v t) (λt'=>jb kp ps l t')=some t':=h;obtain⟨t1,h1,h⟩:=U h;cases hl with| @cons _ u _ l' hv hs=>?_
   have hg:=qo h1;obtain⟨a1,a2,a3,a4⟩:=lW ps l t1 t' h (tmps:=tmps.setIfInBounds p u) hs (λj w hw=>by
    rw[hg]at hw;by_cases e:j=p
    ·subst e;by_cases QC:kept kp j=true
     ·rw[if_pos ⟨QC,rfl⟩]at hw;cases hw;exact⟨u,by simp[hlt j (by simp)],hv⟩
     ·rw[if_neg (λh=>QC h.1)]at hw;exact(QC (hk j w hw)).elim
    ·rw[if_neg (λh=>e h.2)]at hw;obtain⟨u',mO,hr⟩:=hE j w hw;exact⟨u',by rw[Array.getElem?_setIfInBounds_ne (Ne.symm e)];exact mO,hr⟩) (λq hq=>by simpa using hlt q (by simp[hq])) (λj w hw=>by
    rw[hg]at hw;split at hw
    ·rename_i hc;rw[hc.2];exact hc.1
    ·exact hk j w hw)
   refine⟨by simp[a1],?_,a3,?_⟩
   ·rw[List.zip_toArray]at a2⊢;simpa using a2
   ·rw[List.zip_toArray]at a4⊢;simpa using a4
theorem run_getLoop {l:Nat} {r:Loop} (h:w.heap[l]? =some (.loop r)):(Instr.getLoop l).run P w= .ok r w:=by simp only[Instr.getLoop,Sem.run_bind,run_getObj_loop h,Result.andThen_ok,Sem.run_pure]
theorem run_yield {l:Nat} {r:Loop} {args:Array Value} (h:w.heap[l]? =some (.loop r)) (ha:args.size=r.params.size):
  (Instr.yield l args).run P w= .ok (.round l r.fn ((r.params.zip args).foldl (λtmps (t,a)=>tmps.setIfInBounds t a) r.tmps) r.assign r.body) w:=by
 simp only[Instr.yield,Sem.run_bind,run_getLoop h,Result.andThen_ok,ha,ne_eq,not_true_eq_false,if_false,Sem.run_pure]
theorem run_beginRound {l:Nat} {r:Loop} (h:w.heap[l]? =some (.loop r)) (hs:r.state= .ready):(Instr.beginRound l).run P w= .ok () (w.putObj l (.loop {r with state:= .busy})):=by simp only[Instr.beginRound,Sem.run_bind,run_getLoop h,Result.andThen_ok,run_setObj_loop _ h,hs,Sem.run_pure]
theorem run_endRound {l:Nat} {r:Loop} {j:Option Code} (h:w.heap[l]? =some (.loop r)):(Instr.endRound l j).run P w= .ok (.bool j.isNone) (w.putObj l (.loop {r with state:=if j.isNone then .ready else .done,pending:=j})):=by simp only[Instr.endRound,Sem.run_bind,run_getLoop h,Result.andThen_ok,run_setObj_loop _ h,Sem.run_pure]
theorem lX {o:Option CF} {x:cm} (h:eX ev o tm s= .code x tm' s'):∃f,o=some f∧f ev tm s= .code x tm' s':=by
 cases o with
 |none=>cases h
 |some f=>exact⟨f,rfl,h⟩
theorem GD (hP:Plainly P) (hm:P.follows .mixedOrders=true) (hev:EvOk P ev) {l:Nat} (h:oV P ev l args s= .val v s') (hR:Rel P ρ s w) (hx:ρ l=some x) (ha:af ρ args ao):
  aU P (Instr.yield x.b ao.toArray) w λu w'=>∃aj,ag aj v u∧Rel P aj s' w'∧aN ρ s w aj s' w':=by
 obtain⟨st,fU,fn,nt,kp,tm,ps,Lv,bd,hblk,h⟩:=iG h (by simp);have h:st= .ready∧Option.rec (motive:= λ_=>Out) .no (λaw=>beginRound ev l (cG P fn nt kp bd) (eX ev (cG P fn nt kp Lv) aw s)) (jb kp ps args tm)= .val v s':=by cases st<;>first|(cases h;done)|exact⟨rfl,h⟩
 obtain⟨rfl,h⟩:=h;cases iP:jb kp ps args tm with
 |none=>rw[iP]at h;cases h
 |some aw=>
  rw[iP]at h;have h:beginRound ev l (cG P fn nt kp bd) (eX ev (cG P fn nt kp Lv) aw s)= .val v s':=h;obtain⟨hlt,tmps,fn',d,hh,h1,h2,h3,h4⟩:=hR.blk l _ x hblk hx;obtain⟨a1,a2,a3,a4⟩:=lW ps args tm aw iP ha h1 (λp hp=>Nat.lt_of_lt_of_le (h4 p hp) h3) h2;unfold aU;rw[run_yield hh (by simpa using a1)];simp only;cases ho:eX ev (cG P fn nt kp Lv) aw s with
  |no=>rw[ho]at h;cases h
  |val=>rw[ho]at h;cases h
  |code e1 oO s2=>
   rw[ho]at h;have hn:e1= .normal:=by cases e1<;>first|rfl|(cases h;done)
   subst hn;have h:kr (s2.h.get l) (λst fU Mo Mp Mq tm ps assign body=>match st with
    | .ready=>eV s2 l (.loop .busy fU Mo Mp Mq tm ps assign body) λs3=>endRound l (eX ev (cG P fn nt kp bd) oO s3)
    |_=> .no)= .val v s':=h
   obtain⟨S0,FC,Mo,Mp,Mq,RO,Qe,Qf,Qg,OD,h⟩:=iG h (by simp);have h:S0= .ready∧(eV s2 l (.loop .busy FC Mo Mp Mq RO Qe Qf Qg) λs3=>endRound l (eX ev (cG P fn nt kp bd) oO s3))= .val v s':=by cases S0<;>first|(cases h;done)|exact⟨rfl,h⟩
   obtain⟨rfl,h⟩:=h;obtain⟨s3,hs3,h⟩:=kW h (by simp);obtain⟨fa,yo,ho⟩:=lX ho;cases LW:eX ev (cG P fn nt kp bd) oO s3 with
   |no=>rw[LW]at h;cases h
   |val=>rw[LW]at h;cases h
   |code e4 UR s4=>
    rw[LW]at h;obtain⟨fb,JD,LW⟩:=lX LW;have h:kr (s4.h.get l) (λ_ _ fn nt kp tm ps assign body=>match(generalizing:=false) e4 with
     | .normal=>eV s4 l (.loop .ready none fn nt kp tm ps assign body) λs5=> .val (.bool true) s5
     | .ret=>eV s4 l (.loop .done (some .ret) fn nt kp tm ps assign body) λs5=> .val (.bool false) s5
     | .exit id=>eV s4 l (.loop .done (some (.exit id)) fn nt kp tm ps assign body) λs5=> .val (.bool false) s5
     | .goto _=> .no)= .val v s':=h
    obtain⟨V1,Tc,US,UT,UU,UW,UX,UY,UZ,OE,h⟩:=iG h (by simp);have Ns:l<s.nx:=Nat.lt_of_not_le λhle=>by rw[hR.eu l hle]at hx;cases hx
    refine roundIn_of_wpIn trivial ?_;have hL:∀l',(Fence.wide.inRound x.b).round=some l'->∃r,w.heap[l']? =some (Obj.loop r):= λl' G6=>by have:x.b=l':=Option.some.inj G6;rw[<-this];exact⟨_,hh⟩
    refine dt hP hm Lv fa yo ev hev (Fence.wide.inRound x.b) (.inr ⟨_,rfl⟩) ρ aw s {tmps:=(ps.toArray.zip ao.toArray).foldl (λtmps (t,a)=>tmps.setIfInBounds t a) tmps,defers:= []} w .normal oO s2 ho ⟨Nat.le_trans h3 (Nat.le_of_eq a4.symm),a3,a2⟩ ⟨w.heap.size,[]⟩ (Nat.le_refl _) .nil hL hR _ (λdb U0 w2 mR wu dO fC=>?_);have Ps:db l=some x:=by rw[fC.jY l Ns];exact hx
    obtain⟨r2,Hg,U1,_,_,_,_,_,_,_,_,iu,ij⟩:=sg dO Ps OD hs3;refine⟨_,run_beginRound Hg U1,?_⟩;have JA:({r2 with state:=LoopState.busy}:Loop)={r2 with state:=LoopState.busy,pending:=FC}:=by
     have:r2.pending=FC:=by assumption
     rw[<-this]
    rw[JA];have ED:=fC.trans ij;refine dt hP hm bd fb JD ev hev (Fence.wide.inRound x.b) (.inr ⟨_,rfl⟩) db oO s3 U0 _ e4 UR s4 LW mR ⟨w.heap.size,[]⟩ ED.size (wu.step ij) (dG hL ED) iu _ (λMP V2 w4 S3 _ QD MQ=>?_)
    ·have Nt:=ED.trans MQ;have U2:MP l=some x:=by rw[Nt.jY l Ns];exact hx
     have fin:∀(GS:LoopState) (j:Option Code),(eV s4 l (.loop GS j US UT UU UW UX UY UZ) λs5=> .val (.bool j.isNone) s5)= .val v s'->GS=(if j.isNone then .ready else .done)->
       ∃v1 w5,(Instr.endRound x.b j).run P w4= .ok v1 w5∧∃u,Ending.returned v1= .returned u∧∃aj,ag aj v u∧Rel P aj s' w5∧aN ρ s w aj s' w5:=by
      intro GS j C6 eL;obtain⟨s5,U3,C6⟩:=kW C6 (by simp);cases C6;obtain⟨r5,U4,_,_,_,_,_,_,_,_,_,MR,QE⟩:=sg QD U2 OE U3;refine⟨_,_,run_endRound U4,_,rfl,MP,.bool _,?_,?_⟩
      ·rw[<-eL];exact MR
      ·rw[<-eL];exact Nt.trans QE
     cases e4 with
     |normal=>exact fin .ready none h rfl
     |ret=>exact fin .done (some .ret) h rfl
     |exit id=>exact fin .done (some (.exit id)) h rfl
     |goto l=>cases h
end Go.Eng
end
noncomputable section
namespace Go.Eng
open Go
variable {b f:Nat} {P:Program} {ρ:Ren} {u:Value} {w w':World}
def FFOk (P:Program) (f:Nat) (F:FF):Prop:=∀ev,EvOk P ev->∀args s v s',F ev args s= .val v s'->∀ρ w ao,Rel P ρ s w->af ρ args ao->
 aU P (callFunc f ao.toArray) w λu w'=>∃aj,ag aj v u∧Rel P aj s' w'∧aN ρ s w aj s' w'
def ExtFits (P:Program) (f:Nat):Ext->Prop
 | .same=>∃fn,P.funcs[f]? =some fn∧fn.body.isNone=true∧Extern.findNext fn=none∧Extern.find fn=some Extern.AbiNoEscape.same
 | .cmp=>∃fn,P.funcs[f]? =some fn∧fn.body.isNone=true∧Extern.findNext fn=none∧Extern.find fn=some Extern.BytealgCompare.compare
 | .makeNoZero et=>∃fn ps t,P.funcs[f]? =some fn∧fn.body.isNone=true∧Extern.findNext fn=none∧Extern.find fn=some (Extern.BytealgMakeNoZero.makeNoZero ps #[t])∧P.underlying t=some (.slice et)
 | .overlaps et=>∃fn tS tR,P.funcs[f]? =some fn∧fn.body.isNone=true∧Extern.findNext fn=none∧Extern.find fn=some (Extern.SlicesOverlaps.overlaps #[tS,tS] #[tR])∧P.underlying tS=some (.slice et)∧P.underlying et=some (.int .i64)∧∀w,(sizeOf et).run P w= .ok 1 w
 | .indexByteString=>∃fn,P.funcs[f]? =some fn∧fn.body.isNone=true∧Extern.findNext fn=none∧Extern.find fn=some Extern.BytealgIndexByte.indexByte
theorem tu:∀(a b:List UInt8),Lib.compareBytes a b=if Op.bytesLess a b=true then-1 else if(a==b)=true then 0 else 1
 | [],[]=>rfl
 | [],_::_=>rfl
 |_::_,[]=>rfl
 |x::a,y::b=>by
  have ih:=tu a b;show(if x<y then(-1:Int)else if y<x then 1 else Lib.compareBytes a b)=if(decide (x<y)||(x==y&&Op.bytesLess a b))=true then-1 else if(x::a==y::b)=true then 0 else 1
  by_cases h1:x<y
  ·simp[h1]
  ·by_cases h2:y<x
   ·have hne:x≠y:= λe=>by subst e;exact h1 h2
    simp[h1,h2,hne]
   ·have he:x=y:=by
     rw[UInt8.lt_iff_toNat_lt]at h1 h2;exact UInt8.toNat_inj.1 (by omega)
    subst he;rw[if_neg h1,ih];simp[h1]
theorem nv {m:Sem Value} {fn:Func} {e:Array Value->Sem Value} {args:Array Value} (hP:Plainly P) (hf:P.funcs[f]? =some fn) (hb:fn.body.isNone=true) (hn:Extern.findNext fn=none) (he:Extern.find fn=some e) (hm:e args=m) (hr:m.run P w= .ok u w'):(callFunc f args).run P w= .ok (.value u) w':=by rw[run_callFunc_extern hf (hP f fn hf) hb hn he,hm,hr];rfl
theorem qp (c:Nat):∀(l:List UInt8) (i:Nat),nF c l i=match(List.range l.length).find? λk=>(l[k]?.getD 0).toNat==c with|some k=>((i+k:Nat):Int)|none=> -1
 | [],i=>rfl
 |b::l,i=>by
  have ih:=qp c l (i+1);show ab (Nat.beq b.toNat c) (.ofNat i) (nF c l (Nat.succ i))=_;rw[List.length_cons,Lib.find_range_succ];have h0:(((b::l)[0]?.getD 0).toNat==c)=Nat.beq b.toNat c:=by
   rw[Bool.eq_iff_iff];constructor
   ·intro h;rw[Nat.beq_eq];simpa using h
   ·intro h;rw[Nat.beq_eq]at h;simpa using h
  rw[h0];cases hb:Nat.beq b.toNat c with
  |true=>rfl
  |false=>
   rw[bX,ih];have he:(λk=>(((b::l)[k+1]?.getD 0).toNat==c))= λk=>(l[k]?.getD 0).toNat==c:=by funext k;simp
   simp only[Bool.false_eq_true,if_false,he];cases(List.range l.length).find? λk=>(l[k]?.getD 0).toNat==c with
   |none=>rfl
   |some k=>
    show((i+1+k:Nat):Int)=((i+(k+1):Nat):Int)
    congr 1;omega
theorem tv:∀(n t:Nat) (acc:Array Value),(∀v∈acc.toList,cF v=true)->∀v∈(Extern.BytealgMakeNoZero.digits n t acc).toList,cF v=true
 |0,_,_,h=>h
 |n+1,t,acc,h=>by
  rw[Extern.BytealgMakeNoZero.digits];refine tv n _ _ λv hv=>?_;rw[Array.toList_push]at hv;rcases List.mem_append.1 hv with hv|hv
  ·exact h v hv
  ·simp only[List.mem_singleton]at hv;subst hv;rfl
theorem vQ:∀(l:List Value),(∀v∈l,cF v=true)->af ρ (List.replicate l.length (Value.complex .f32 0 0)) l
 | [],_=> .nil
 |v::l,h=> .cons (.junk _ _ _ (h v (by simp)) (λe=>by cases e)) (vQ l λu hu=>h u (by simp[hu]))
theorem find_congr {α:Type} {p q:α->Bool}:∀ {l:List α},(∀x∈l,p x=q x)->l.find? p=l.find? q
 | [],_=>rfl
 |x::l,h=>by rw[List.find?_cons,List.find?_cons,h x (by simp),find_congr λy hy=>h y (by simp[hy])]
theorem qq {α:Type} (x:α):∀n:Nat,(List.replicate n [x]).flatten=List.replicate n x
 |0=>rfl
 |n+1=>by rw[List.replicate_succ,List.flatten_cons,List.replicate_succ,qq x n];rfl
theorem Iq (ps:Array TypeId) (t e:TypeId) (ht:P.underlying t=some (.slice e)) (n:Nat) (hn:n<=281474976710656) (w:World):
  ∃cs:Array Value,(Extern.BytealgMakeNoZero.makeNoZero ps #[t] #[.int .i64 n]).run P w= .ok (.slice (some ⟨w.heap.size,0,none⟩) n cs.size) (w.drew.drew.alloc (.cells cs e))∧n<=cs.size∧∀v∈cs.toList,cF v=true:=by
 obtain⟨q,Nu,Nv,KS,hq⟩:∃(q:Question) (Nu:Sem Value) (Nv:Sem Unit),Extern.BytealgMakeNoZero.makeNoZero ps #[t] #[.int .i64 n]=
   (do
    let .slice elem<-underlying t|Nu
    if(n:Int)<0||(n:Int)>2^48 then Nv
    let cap<-choose (.appendCap (n:Int).toNat 0 elem)
    askRoom cap
    let bytes<-choose q
    let a<-newRow elem (Extern.BytealgMakeNoZero.digits cap bytes #[])
    pure (.slice (some a) (n:Int).toNat cap))∧q.forced=false:=⟨_,_,_,rfl,rfl⟩
 refine⟨Extern.BytealgMakeNoZero.digits (grownCap w n 0 e) (q.cut (w.tape (w.drawn+1) q)) #[],?_,?_,tv _ _ _ (by simp)⟩
 ·rw[KS];have h1:¬(n:Int)<0:=by omega
  have h2:¬(281474976710656:Int)<(n:Int):=by omega
  have h3:∀a b,(Question.appendCap a 0 b).forced=false:= λ_ _=>rfl;simp[run_underlying ht,h1,h2,h3,hq,newRow,Lib.size_digits,grownCap]
 ·rw[Lib.size_digits];simpa using grownCap_ge w n 0 e
theorem DO {o t k:Nat} (hs:w.shape? b=some (t,k)) (hc:w.cell? ⟨b,o,none⟩=some u):k≠0:=by
 unfold World.shape? at hs;unfold World.cell? at hc;cases hh:w.heap[b]? with
 |none=>rw[hh]at hs;cases hs
 |some ob=>rw[hh]at hs hc;cases ob<;>simp at hs hc;obtain⟨rfl,rfl⟩:=hs;intro h0;rw[Array.getElem?_eq_none (by omega)]at hc;cases hc
theorem Lj (hP:Plainly P) {e:Ext} (hf:ExtFits P f e):FFOk P f (λ_ args s=>gm (CY s e args)):=by
 intro ev hev args s v s' h ρ w ao hR ha;have h:gm (CY s e args)= .val v s':=h;have hx:CY s e args=some (v,s'):=by
  cases hx:CY s e args with
  |none=>rw[hx]at h;cases h
  |some p=>rw[hx]at h;cases h;rfl
 clear h;unfold aU;unfold CY at hx;split at hx
 ·rename_i x;cases hx;obtain⟨fn,h1,h2,h3,h4⟩:=hf;obtain⟨x',rfl,hv⟩:=af.wh ha;rw[nv (m:=pure x') (w':=w) (u:=x') hP h1 h2 h3 h4 rfl rfl];exact⟨ρ,hv,hR,.refl _ _ _⟩
 ·rename_i a b;cases hx;obtain⟨fn,h1,h2,h3,h4⟩:=hf;obtain⟨a',b',rfl,MS,MT⟩:=af.two ha;cases MS;cases MT;rw[nv (m:=Extern.BytealgCompare.compare #[.string a,.string b]) (w':=w) hP h1 h2 h3 h4 rfl (Lib.run_compareString ..)];refine⟨ρ,?_,hR,.refl _ _ _⟩;rw[tu,rM,rL,ah,ah];have:(if Op.bytesLess a.data.toList b.data.toList=true then Int.negSucc 0 else if(a.data.toList==b.data.toList)=true then Int.ofNat 0 else Int.ofNat 1)=(if Op.bytesLess a.data.toList b.data.toList=true then(-1:Int)else if(a.data.toList==b.data.toList)=true then 0 else 1):=rfl;rw[this];exact .int _ _
 ·rename_i et n;obtain⟨hn,hx⟩:=ae hx;obtain⟨els,eI,hx⟩:=U hx;have hn:n<=1000000:=Nat.le_of_ble_eq_true hn;have eI:=qR _ _ _ eI;subst eI;obtain⟨fn,ps,t,h1,h2,h3,h4,h5⟩:=hf;obtain⟨x',rfl,hv⟩:=af.wh ha;cases hv;obtain⟨cs,hrun,hle,lT⟩:=Iq ps t et h5 n (by omega) w;have U5:=nv (args:= #[.int .i64 (.ofNat n)]) hP h1 h2 h3 h4 rfl hrun;rw[U5];have GN:cs.toList.length=cs.size:=by simp
  have hcs:cs=(cs.toList.take n++cs.toList.drop n).toArray:=by apply Array.ext';simp
  have OF:(List.replicate n [Value.complex .f32 0 0]).flatten=List.replicate (cs.toList.take n).length (Value.complex .f32 0 0):=by
   have:(cs.toList.take n).length=n:=by rw[List.length_take];omega
   rw[this];exact qq _ n
  obtain⟨aj,hv,eN,aZ⟩:=p6 (w':=w.drew.drew.alloc (.cells cs et)) (cs:=cs.toList.take n) (rest:=cs.toList.drop n) (lo:=0) (hi:=0) (cap:=cs.size) hR hx (by rw[OF];exact vQ _ λv hv=>lT v (List.mem_of_mem_take hv)) hle (by rw[List.length_take,List.length_drop];omega) (λo h1 h2=>by omega) (by rw[<-hcs];rfl) rfl rfl rfl
  exact⟨aj,hv,eN,aZ⟩
 ·rename_i et a oa n ca b o m cb;obtain⟨hne,hx⟩:=bj hx;obtain⟨tG,hx⟩:=ae hx;cases hx;have G9:a≠b:= λe=>by rw[e,Nat.beq_refl]at hne;cases hne
  obtain⟨fn,tS,tR,h1,h2,h3,h4,h5,h6,h7⟩:=hf;obtain⟨a',b',rfl,MS,MT⟩:=af.two ha;have Tr:1<=n∧1<=m:=by
   rw[ah]at hne;split at hne
   ·cases hne
   ·rw[ah]at hne;split at hne
    ·cases hne
    ·rename_i h0;have g0:n≠0:= λe=>h0 (by rw[e];rfl);have g1:m≠0:= λe=>by rw[e]at hne;cases hne
     omega
  unfold FV at tG;split at tG
  ·rename_i cA U6 nA eA c sz nB eB S4 Di;obtain⟨q1,tG⟩:=ai tG;obtain⟨q2,q3⟩:=ai tG;replace q1:=Nat.eq_of_beq_eq_true q1;replace q2:=Nat.eq_of_beq_eq_true q2;subst q1;subst q2;cases MS with
   | @slice _ x _ _ _ RP U7 S5 p1 p2 p3 p4 p5=>
   cases MT with
   | @slice _ y _ _ _ RQ U8 S6 r1 r2 r3 r4 r5=>
   have RR:U7=⟨x.b,x.base+oa,none⟩:=by rcases p4 with e|e;exact e;omega
   have RS:U8=⟨y.b,y.base+o,none⟩:=by rcases r4 with e|e;exact e;omega
   subst RR;subst RS;have S7:aH P ρ x w cA U6 nA false eA:=(hR.blk a _ x S4 S5).2;have QF:aH P ρ y w c 1 nB false eB:=(hR.blk b _ y Di S6).2;have kg:x.b≠y.b:= λe=>by have:=(hR.aX a b _ _ x y G9 S4 Di S5 S6 e).1;cases this
   have Iy:∀o,w.frozen? ⟨x.b,o,none⟩=false:= λo=>by
    cases hf:w.frozen? ⟨x.b,o,none⟩with
    |false=>rfl
    |true=>have:=(S7.free rfl o hf).2;rw[h6]at this;cases this
   have hk:y.lim≠0:=by
    unfold vk at q3;cases hg:c.get o with
    |none=>rw[hg]at q3;cases q3
    |some l=>
     cases l with
     |nil=>rw[hg]at q3;cases q3
     |cons v l=>obtain⟨_,_,hc⟩:=QF.cell o _ hg;obtain⟨u,hu,_⟩:=hc 0 v rfl;exact DO QF.shape hu
   have hrun:=Lib.run_overlaps_apart (P:=P) w tS tR eA h5 1 h7 ⟨x.b,x.base+oa,none⟩ ⟨y.b,y.base+o,none⟩ n RP m RQ kg eA eB x.lim y.lim S7.shape QF.shape hk (Iy _) (Iy _);rw[nv (w':=w) (u:= .bool false) hP h1 h2 h3 h4 rfl hrun];exact⟨ρ,.bool _,hR,.refl _ _ _⟩
  ·cases tG
 ·rename_i a c;obtain⟨n,hn,hx⟩:=U hx;obtain⟨hlt,hx⟩:=ae hx;obtain⟨u,hu,hx⟩:=U hx;cases hx;obtain⟨fn,h1,h2,h3,h4⟩:=hf;obtain⟨a',b',rfl,MS,MT⟩:=af.two ha;cases MS;cases MT;have hlt:n<256:=Nat.le_of_ble_eq_true hlt;have hc:c=(n:Int):=by cases c with|ofNat m=>cases hn;rfl|negSucc m=>cases hn
  subst hc;rw[nv (m:=Extern.BytealgIndexByte.indexByte #[.string a,.int .u8 n]) hP h1 h2 h3 h4 rfl (run_indexByte_string a n w)];refine⟨ρ,?_,hR,.refl _ _ _⟩;have Qd:firstIdx a (n:Int).toNat.toUInt8=nF n a.data.toList 0:=by
   rw[qp];unfold firstIdx;have hsz:a.size=a.data.toList.length:=by rw[Array.length_toList];rfl
   have hp:∀i,i<a.size->(a[i]! ==(n:Int).toNat.toUInt8)=((a.data.toList[i]?.getD 0).toNat==n):= λi hi=>by
    have hg:a[i]! =a.data.toList[i]?.getD 0:=by have h':i<a.data.size:=hi;have e1:a[i]! =a[i]:=getElem!_pos a i hi;rw[e1,Array.getElem?_toList,Array.getElem?_eq_getElem h'];rfl
    rw[hg,Int.toNat_natCast,Bool.eq_iff_iff];simp only[beq_iff_eq];constructor
    ·intro h;rw[h];simp;omega
    ·intro h;apply UInt8.toNat_inj.1;rw[h];simp;omega
   rw[<-hsz];have:(List.range a.size).find? (λi=>a[i]! ==(n:Int).toNat.toUInt8)=(List.range a.size).find? λk=>(a.data.toList[k]?.getD 0).toNat==n:=by exact find_congr λx hx=>hp x (List.mem_range.1 hx)
   rw[this];cases(List.range a.size).find? λk=>(a.data.toList[k]?.getD 0).toNat==n with
   |none=>rfl
   |some k=>simp
  rw[dI]at hu;cases hu;rw[Qd];exact .int _ _
 ·cases hx
end Go.Eng
end
noncomputable section
namespace Go.Eng
open Go
variable {s s':AS} {h:Hp} {del:List Nat} {args ao:List Value} {x:Loc} {j nx:Nat} {P:Program} {ρ aj:Ren} {v:Value} {w w':World}
theorem sy (p:Nat×Blk) (l:BL):ofL (p::l)=pP (some p.2) (ofL l) p.1:=rfl
theorem i9 (x:Option Blk) (h:Hp) (k j:Nat):(pP x h k).get j=if j=k∧k<1048576 then x else h.get j:=by
 unfold pP;by_cases hk:k<1048576
 ·cases e:Hp.put x h k with
  |none=>rw[Hp.FZ x h hk]at e;cases e
  |some h'=>show h'.get j=_;rw[Hp.aR _ _ _ _ e];simp[hk]
 ·rw[Hp.AU x h (by omega)];simp[hk]
theorem iC (j:Nat):(ofL []).get j=none:=Hp.ns j
theorem qW:∀ {l:BL} {j:Nat} {k:Blk},(ofL l).get j=some k->(j,k)∈l
 | [],j,k,h=>by rw[iC]at h;cases h
 |p::l,j,k,h=>by
  rw[sy,i9]at h;split at h
  ·rename_i hj;cases h;rw[hj.1];exact List.mem_cons_self
  ·exact List.mem_cons_of_mem _ (qW h)
theorem sC:∀ {a:BL} {b:Hp},Es a b=true->∀j k,(ofL a).get j=some k->b.get j=some k:=by
 intro a b h j k e;have hm:=qW e;clear e;induction a with
 |nil=>cases hm
 |cons p l ih=>
  have h:ab (Option.rec (motive:= λ_=>Bool) false (λk=>lM p.2 k) (b.get p.1)) (Es l b) false=true:=h;obtain⟨h1,h2⟩:=ai h;rcases List.mem_cons.1 hm with rfl|hm
  ·cases hb:b.get j with
   |none=>have h1:Option.rec (motive:= λ_=>Bool) false (λk1=>lM k k1) (b.get j)=true:=h1;rw[hb]at h1;cases h1
   |some k'=>have h1:Option.rec (motive:= λ_=>Bool) false (λk1=>lM k k1) (b.get j)=true:=h1;rw[hb]at h1;rw[kX h1]
  ·exact ih h2 hm
theorem zi:∀ {a:BL},Hy a=true->∀j k,(ofL a).get j=some k->eo k=false:=by
 intro a h j k e;have hm:=qW e;clear e;induction a with
 |nil=>cases hm
 |cons p l ih=>
  have h:ab (match p.2 with| .cells _ _ _ ro _=>dR ro| .map .. =>true|_=>false) (Hy l) false=true:=h;obtain⟨h1,h2⟩:=ai h;rcases List.mem_cons.1 hm with rfl|hm
  ·cases k with
   |cells c sz n ro et=>cases ro with|false=>rfl|true=>cases h1
   |map=>rfl
   |cQ=>cases h1
   |mapIter=>cases h1
   |loop=>cases h1
   |pmap=>cases h1
  ·exact ih h2 hm
theorem zj:∀ {l:List Nat} {h h':Hp},Ke l h=some h'->∀j k,h'.get j=some k->j∉l∧h.get j=some k
 | [],h,h',e,j,k,hk=>by cases e;exact⟨by simp,hk⟩
 |a::l,h,h',e,j,k,hk=>by
  have e:ob (Ke l h) (λh=>Hp.put none h a)=some h':=e;obtain⟨h1,e1,e2⟩:=U e;rw[Hp.aR _ _ _ _ e2]at hk;by_cases hj:j=a
  ·rw[if_pos hj]at hk;cases hk
  ·rw[if_neg hj]at hk;obtain⟨q1,q2⟩:=zj e1 j k hk;exact⟨by simp[hj,q1],q2⟩
theorem zk:∀(l:List Nat) (h:Hp) (j:Nat),(Hz l h).get j=if j∈l∧j<1048576 then none else h.get j
 | [],h,j=>by simp;rfl
 |a::l,h,j=>by
  have e:Hz (a::l) h=pP none (Hz l h) a:=rfl;rw[e,i9,zk l h j];by_cases hj:j=a
  ·subst hj;by_cases hlt:j<1048576<;>simp[hlt]
  ·simp[hj]
theorem sD:∀(l:BL) (h:Hp) (j:Nat),(Et l h).get j=match(ofL l).get j with|some k=>some k|none=>h.get j
 | [],h,j=>by rw[iC];rfl
 |p::l,h,j=>by
  have e:Et (p::l) h=pP (some p.2) (Et l h) p.1:=rfl;rw[e,i9,sy,i9,sD l h j];by_cases hj:j=p.1∧p.1<1048576
  ·rw[if_pos hj,if_pos hj]
  ·rw[if_neg hj,if_neg hj]
theorem zl (add:BL) (del:List Nat) (h:Hp) (j:Nat):(Ag add del h).get j=match(ofL add).get j with|some k=>some k|none=>if j∈del∧j<1048576 then none else h.get j:=by unfold Ag;rw[sD,zk]
theorem vR (j:Nat):∀del:List Nat,Hp.get (List.rec (motive:= λ_=>Hp) Hp.emp (λa _ ih=>pP (some (.mapIter none 0)) ih a) del) j=if j∈del∧j<1048576 then some (.mapIter none 0)else none
 | []=>by simp;exact Hp.ns j
 |a::l=>by
  show(pP (some (.mapIter none 0)) (List.rec (motive:= λ_=>Hp) Hp.emp (λa _ ih=>pP (some (.mapIter none 0)) ih a) l) a).get j=_;rw[i9,vR j l];by_cases hj:j=a
  ·subst hj;by_cases hlt:j<1048576<;>simp[hlt]
  ·simp[hj]
theorem DP (add:BL) (del:List Nat) (j:Nat):(Fo add del).get j=match(ofL add).get j with|some k=>some k|none=>if j∈del∧j<1048576 then some (.mapIter none 0)else none:=by unfold Fo;rw[sD,vR]
theorem DQ:∀ {l:BL} {sk h:Hp},Fp l sk h=true->∀j k,(ofL l).get j=some k->sk.get j=none->h.get j=some k:=by
 intro l sk h hk j k e hs;have hm:=qW e;clear e;induction l with
 |nil=>cases hm
 |cons p l ih=>
  have hk:Bool.rec (motive:= λ_=>Bool) false (Fp l sk h) (Option.rec (motive:= λ_=>Bool) (Option.rec (motive:= λ_=>Bool) false (λk=>lM p.2 k) (h.get p.1)) (λ_=>true) (sk.get p.1))=true:=hk;have hb:∀ {a b:Bool},Bool.rec (motive:= λ_=>Bool) false a b=true->b=true∧a=true:= λ {a b} h=>by
   cases b with
   |false=>cases h
   |true=>exact⟨rfl,h⟩
  obtain⟨h1,h2⟩:=hb hk;rcases List.mem_cons.1 hm with rfl|hm
  ·have h1:Option.rec (motive:= λ_=>Bool) (Option.rec (motive:= λ_=>Bool) false (λk1=>lM k k1) (h.get j)) (λ_=>true) (sk.get j)=true:=h1;rw[hs]at h1;cases hb:h.get j with
   |none=>rw[hb]at h1;cases h1
   |some k'=>rw[hb]at h1;rw[kX h1]
  ·exact ih h2 hm
theorem zm {hin add:BL} (hh:Kg hin add del h=true):∀j k,(Ag add del (ofL hin)).get j=some k->h.get j=some k:=by
 intro j k e;obtain⟨h1,h2⟩:=ai hh;rw[zl]at e;cases ha:(ofL add).get j with
 |some k'=>rw[ha]at e;cases e;exact sC h1 j k ha
 |none=>
  rw[ha]at e;have e:(if j∈del∧j<1048576 then none else(ofL hin).get j)=some k:=e;split at e
  ·cases e
  ·refine DQ h2 j k e ?_;rw[DP,ha];simp[*]
theorem zn:∀ {l:BL} {o:Option Hp} {h':Hp},Kf l o=some h'->∃h,o=some h∧∀j,h'.get j=match(ofL l).get j with|some k=>some k|none=>h.get j
 | [],o,h',e=>⟨h',e,λj=>by rw[iC]⟩
 |p::l,o,h',e=>by
  have e:ob (Kf l o) (λh=>Hp.put (some p.2) h p.1)=some h':=e;obtain⟨h1,e1,e2⟩:=U e;obtain⟨h,rfl,hg⟩:=zn e1;refine⟨h,rfl,λj=>?_⟩;rw[Hp.aR _ _ _ _ e2,sy,i9];by_cases hj:j=p.1
  ·have hlt:p.1<1048576:=by
    refine Nat.lt_of_not_le λhle=>?_;rw[Hp.AU _ _ hle]at e2;cases e2
   rw[if_pos hj,if_pos ⟨hj,hlt⟩]
  ·rw[if_neg hj,if_neg (λh=>hj h.1)];exact hg j
theorem Rel.less {lm:Nat} (hr:Rel P ρ s w) (hs:∀j k,h.get j=some k->s.h.get j=some k) (hl:lm<=s.nx):Rel P ρ ⟨h,s.nx,lm⟩ w:=
  ⟨hr.eu,λa ha=>(by
    cases e:h.get a with
    |none=>rfl
    |some k=>have:=hs a k e;rw[hr.top a ha]at this;cases this),
   λa k x e e'=>hr.blk a k x (hs a k e) e',hl,λa a' k k' x x' hne e1 e2 r1 r2 hb=>hr.aX a a' k k' x x' hne (hs _ _ e1) (hs _ _ e2) r1 r2 hb,hr.gl.of (Nat.le_refl _) λb _ hn=>⟨rfl,λ⟨j,k,y,e1,e2,e3⟩=>hn ⟨j,k,y,hs _ _ e1,e2,e3⟩⟩⟩
theorem aN.less (hS:aN ρ s w aj s' w') (hs:∀j k,h.get j=some k->s'.h.get j=some k) (h0:s.lim=0):aN ρ s w aj ⟨h,s'.nx,s'.lim⟩ w':=
  ⟨hS.jY,hS.nx,hS.tape,hS.os,hS.out,hS.size,λb hb hn=>⟨(hS.frame b hb hn).1,λ⟨j,k,x,e1,e2,e3⟩=>(hS.frame b hb hn).2 ⟨j,k,x,hs j k e1,e2,e3⟩⟩,
   λa ha hn=>(by
    show h.get a=s.h.get a∨h.get a=none;cases e:h.get a with
    |none=>exact .inr rfl
    |some k=>
      rcases hS.ph a ha hn with h1|h1
      · rw[hs a k e]at h1;exact .inl h1
      · rw[hs a k e]at h1;cases h1),
   hS.lp,hS.lim,λa ha=>(by rw[h0]at ha;omega),λa k x ha=>(by rw[h0]at ha;omega)⟩
theorem aU.mono {m:Sem Next} {w:World} {R R':Value->World->Prop} (h:aU P m w R) (hr:∀u w',R u w'->R' u w'):aU P m w R':=by
 unfold aU at h⊢;split at h
 ·exact hr _ _ h
 ·exact CallsIn.mono h λe w'' ⟨u,he,hR⟩=>⟨u,he,hr _ _ hR⟩
 ·exact RoundIn.mono h λe w'' ⟨u,he,hR⟩=>⟨u,he,hr _ _ hR⟩
 ·exact h.elim
def Entry.ho (e:Entry):Hp:=Ag e.add e.del (ofL e.hin)
theorem A2 {hin add:BL} {h':Hp} (e:yc add del h=some h') (dj:∀j k,(ofL hin).get j=some k->h.get j=some k) {k:Blk} (hk:h'.get j=some k):(Ag add del (ofL hin)).get j=some k∨((Ag add del (ofL hin)).get j=none∧(ofL hin).get j=none∧h.get j=some k):=by
 obtain⟨h1,e1,e2⟩:=zn e;rw[e2]at hk;rw[zl];cases ha:(ofL add).get j with
 |some k'=>rw[ha]at hk;exact .inl hk
 |none=>
  rw[ha]at hk;obtain⟨q1,q2⟩:=zj e1 j k hk;cases hi:(ofL hin).get j with
  |some k2=>left;have:=dj j k2 hi;rw[q2]at this;cases this;simp[q1]
  |none=>right;exact⟨by simp,rfl,q2⟩
theorem pI {hin:Hp} (hR:Rel P ρ s w) (dj:∀j k,hin.get j=some k->s.h.get j=some k) (hro:∀j k,hin.get j=some k->eo k=false) {k:Blk} (hn:hin.get j=none) (hk:s.h.get j=some k) (hx:ρ j=some x):¬aQ ρ ⟨hin,nx,0⟩ x.b:=by
 rintro⟨j2,k2,x2,e1,e2,e3⟩;have hne:j2≠j:= λhe=>by rw[he]at e1;have e1:hin.get j=some k2:=e1;rw[hn]at e1;cases e1
 have:=(hR.aX j2 j k2 k x2 x hne (dj _ _ e1) hk e2 hx e3).1;rw[hro _ _ e1]at this;cases this
theorem CL {Hl Ak:Hp} {wq:Nat} {hz:Hp} (gL:∀ {j k},hz.get j=some k->Ak.get j=some k∨(Ak.get j=none∧Hl.get j=none∧s.h.get j=some k)) (hnx:nx=s.nx) (mY:s.lim=0) (hro:∀j k,(Hl).get j=some k->eo k=false) (dj:∀j k,(Hl).get j=some k->s.h.get j=some k) (hR:Rel P ρ s w) (JV:Rel P ρ ⟨Hl,nx,0⟩ w) (eN:Rel P aj ⟨Ak,wq,0⟩ w') (aZ:aN ρ ⟨Hl,nx,0⟩ w aj ⟨Ak,wq,0⟩ w'):
  Rel P aj ⟨hz,wq,0⟩ w'∧aN ρ s w aj ⟨hz,wq,0⟩ w':=by
 refine⟨?_,?_⟩
 all_goals have hlt:∀ {j k},s.h.get j=some k->j<s.nx:= λ {j k} h=>Nat.lt_of_not_le λhle=>by rw[hR.top j hle]at h;cases h
 all_goals have uq:∀ {j k},s.h.get j=some k->aj j=ρ j:= λ {j k} h=>aZ.jY j (by show j<nx;rw[hnx];exact hlt h)
 all_goals have KT:∀ {j k x},(Hl).get j=none->s.h.get j=some k->ρ j=some x->¬aQ ρ ⟨Hl,nx,0⟩ x.b:= λ {j k x} hn hk hx=>pI hR dj hro hn hk hx
 ·refine⟨eN.eu,λa ha=>?_,λa k x h hx=>?_,Nat.zero_le _,λa a' k k' x x' hne g1 g2 r1 r2 hb=>?_,λg gl vs g1 g2=>?_⟩
  rotate_right
  ·obtain⟨a,b,c⟩:=eN.gl g gl vs g1 g2;obtain⟨_,b0,_⟩:=hR.gl g gl vs g1 g2;refine⟨a,?_,c⟩;rintro⟨j,k,x,h,hx,hb⟩;rcases gL h with h|⟨_,_,h⟩
   ·exact b ⟨j,k,x,h,hx,hb⟩
   ·rw[uq h]at hx;exact b0 ⟨j,k,x,h,hx,hb⟩
  ·cases h:hz.get a with
   |none=>rfl
   |some k=>
    exfalso;have ha:wq<=a:=ha;rcases gL h with h|⟨_,_,h⟩
    ·have:=eN.top a ha;have this:(Ak).get a=none:=this;rw[h]at this;cases this
    ·have h6:=hlt h;have h7:nx<=wq:=aZ.nx;omega
  ·rcases gL h with h|⟨_,hn,h⟩
   ·exact eN.blk a k x h hx
   ·rw[uq h]at hx;obtain⟨b1,b2⟩:=hR.blk a k x h hx;have hle:aG ρ aj:=aZ.le JV;exact⟨Nat.lt_of_lt_of_le b1 aZ.size,(b2.congr (aZ.frame _ b1 (KT hn h hx)).1).mono hle⟩
  ·rcases gL g1 with g1|⟨_,n1,g1⟩
   ·rcases gL g2 with g2|⟨_,n2,g2⟩
    ·exact eN.aX a a' k k' x x' hne g1 g2 r1 r2 hb
    ·rw[uq g2]at r2;have:=(aZ.frame _ (hR.blk a' k' x' g2 r2).1 (KT n2 g2 r2)).2;exact(this ⟨a,k,x,g1,r1,hb⟩).elim
   ·rw[uq g1]at r1;rcases gL g2 with g2|⟨_,n2,g2⟩
    ·have:=(aZ.frame _ (hR.blk a k x g1 r1).1 (KT n1 g1 r1)).2;exact(this ⟨a',k',x',g2,r2,hb.symm⟩).elim
    ·rw[uq g2]at r2;exact hR.aX a a' k k' x x' hne g1 g2 r1 r2 hb
 ·refine⟨λa ha=>aZ.jY a (by show a<nx;rw[hnx];exact ha),by rw[<-hnx];exact aZ.nx,aZ.tape,aZ.os,aZ.out,aZ.size,λb hb hn=>?_,λa ha hn=>?_,aZ.lp,mY.symm,λa ha=>by rw[mY]at ha;omega,λa k x ha=>by rw[mY]at ha;omega⟩
  ·have Ce:¬aQ ρ ⟨Hl,nx,0⟩ b:=by
    rintro⟨j,k,x,e1,e2,e3⟩;exact hn ⟨j,k,x,dj _ _ e1,e2,e3⟩
   obtain⟨f1,f2⟩:=aZ.frame b hb Ce;refine⟨f1,?_⟩;rintro⟨j,k,x,e1,e2,e3⟩;rcases gL e1 with h|⟨_,_,h⟩
   ·exact f2 ⟨j,k,x,h,e2,e3⟩
   ·rw[uq h]at e2;exact hn ⟨j,k,x,h,e2,e3⟩
  ·show hz.get a=s.h.get a∨hz.get a=none;have U9:Ak.get a=Hl.get a∨Ak.get a=none:=aZ.ph a (by show a<nx;rw[hnx];exact ha) hn;cases PM:hz.get a with
   |none=>exact .inr rfl
   |some k=>
    left;rcases gL PM with h|⟨_,_,h⟩
    ·rcases U9 with h'|h'
     ·rw[h]at h';exact(dj a k h'.symm).symm
     ·rw[h]at h';cases h'
    ·exact h.symm
def EntryOk (P:Program) (e:Entry):Prop:=∀ρ w ao,Rel P ρ ⟨ofL e.hin,e.nx,0⟩ w->af ρ e.args ao->
 aU P (callFunc e.f ao.toArray) w λu w'=>∃aj,ag aj e.v u∧Rel P aj ⟨e.ho,e.wq,0⟩ w'∧aN ρ ⟨ofL e.hin,e.nx,0⟩ w aj ⟨e.ho,e.wq,0⟩ w'
theorem DS {e:Entry} (he:EntryOk P e) (hh:nG e args s=true) (ho:rW e s= .val v s') (hR:Rel P ρ s w) (ha:af ρ args ao):
  aU P (callFunc e.f ao.toArray) w λu w'=>∃aj,ag aj v u∧Rel P aj s' w'∧aN ρ s w aj s' w':=by
 obtain⟨h1,hh⟩:=ai hh;obtain⟨h2,hh⟩:=ai hh;obtain⟨h3,hh⟩:=ai hh;obtain⟨h4,h5⟩:=ai hh;have hnx:=Nat.eq_of_beq_eq_true h1;have mY:=Nat.eq_of_beq_eq_true h2;have cW:=wQ h3;have hro:=zi h4;have dj:=sC h5;have ho:Option.rec (motive:= λ_=>Out) .no (λh=> .val e.v ⟨h,e.wq,0⟩) (yc e.add e.del s.h)= .val v s':=ho;cases G3:yc e.add e.del s.h with
 |none=>rw[G3]at ho;cases ho
 |some hz=>
 rw[G3]at ho;cases ho;subst cW;have JV:Rel P ρ ⟨(ofL e.hin),e.nx,0⟩ w:=by have:=hR.less dj (Nat.zero_le s.nx);rw[hnx];exact this
 refine(he ρ w ao JV ha).mono λu w' ⟨aj,hv,eN,aZ⟩=>?_;obtain⟨q1,q2⟩:=CL (A2 G3 dj) hnx mY hro dj hR JV eN aZ;exact⟨aj,hv,q1,q2⟩
theorem sE {f:Nat} {F:FF} (hF:FFOk P f F):∀es:List Entry,(∀e∈es,e.f=f∧EntryOk P e)->FFOk P f (pG es F)
 | [],_=>hF
 |e::es,h=>by
  intro ev hev args s v s' hr ρ w ao hR ha;have hr:ab (nG e args s) (rW e s) (pG es F ev args s)= .val v s':=hr;cases hh:nG e args s with
  |true=>rw[hh]at hr;obtain⟨hf,he⟩:=h e (by simp);rw[<-hf];exact DS he hh hr hR ha
  |false=>rw[hh]at hr;exact sE hF es (λe' gq=>h e' (by simp[gq])) ev hev args s v s' hr ρ w ao hR ha
theorem fL {f:Nat}:∀ {l:List Entry} {e:Entry},e∈jt f l->e∈l∧e.f=f
 | [],e,h=>by cases h
 |x::l,e,h=>by
  have h:e∈ab (Nat.beq x.f f) (x::jt f l) (jt f l):=h;rw[ah]at h;split at h
  ·rename_i hb;rcases List.mem_cons.1 h with rfl|h
   ·exact⟨by simp,Nat.eq_of_beq_eq_true hb⟩
   ·have:=fL h;exact⟨by simp[this.1],this.2⟩
  ·have:=fL h;exact⟨by simp[this.1],this.2⟩
end Go.Eng
end
noncomputable section
namespace Go.Eng
open Go
variable {f:Nat} {P:Program}
structure CfgOk (P:Program) (X:Cfg):Prop where
 plain:Plainly P
 mixed:P.follows .mixedOrders=true
 ext:∀f e,qL f X.ext=some e->ExtFits P f e
 tab:∀e∈X.tab,EntryOk P e
 sum:∀f e,qK f X.sum=some e->FFOk P f (BX e)
theorem xv {X:Cfg} (hX:CfgOk P X) {F:FF} (h:mkFn P X f=some F):FFOk P f F:=by
 unfold mkFn at h;split at h
 ·rename_i e he;cases h;exact hX.sum f e he
 ·split at h
  ·rename_i fn hfn;split at h
   ·rename_i body hb;obtain⟨t0,fk,h⟩:=U h;obtain⟨b,Va,h⟩:=U h;cases h;refine sE ?_ _ λe he=>⟨(fL he).2,hX.tab e (fL he).1⟩
    intro ev hev args s v s' hr ρ w ao hR ha;unfold aU;rw[dk hX.plain hfn hb];exact OC hX.plain hX.mixed hfn hb fk Va hev hr hR ha
   ·rename_i hb;obtain⟨e,he,h⟩:=U h;cases h;exact Lj hX.plain (hX.ext f e he)
  ·cases h
def GWorld (P:Program) (w:World):Prop:=∀g gl vs,P.globals[g]? =some gl->wg P gl.name=some vs->g<w.heap.size∧∀(i:Nat) (v:Value),vs[i]? =some v->w.cell? ⟨g,i,none⟩=some v
end Go.Eng
end
noncomputable section
namespace Go.Eng
open Go
variable {s:AS} {c:Code} {ev:Ev} {h:Hp} {ds:List Deferred} {n0:N0} {f aa nt nx:Nat} {P:Program} {ρ:Ren} {t0 tm:T Value} {w:World}
theorem DT {a b:cm} (h:QG a b=true):a=b:=by
 unfold QG at h;split at h
 ·rfl
 ·rw[Nat.eq_of_beq_eq_true h]
 ·rfl
 ·cases h
def FD (P:Program) (aa nt:Nat) (c:Code) (tm:T Value) (s:AS) (x:cm) (tm':T Value) (s':AS):Prop:=
 ∃m,∀F,fq F->∀ρ a w,bt aa nt ρ tm a->∀n0:N0,n0.n<=w.heap.size->Marks n0 ρ s w a.defers->(∀l,F.round=some l->∃r,w.heap[l]? =some (Obj.loop r))->Rel P ρ s w->
  ∀Q,lu P n0 aa nt ρ s w x tm' s' Q->Code.roundsIn F 0 P c Q m a w
def LEntry.ho (e:LEntry):Hp:=Ag e.add e.del (ofL e.hin)
def gT (P:Program) (aa nt:Nat) (c:Code) (e:LEntry):Prop:=FD P aa nt c e.tm ⟨ofL e.hin,e.nx,0⟩ e.x e.MU ⟨e.ho,e.wq,0⟩
theorem tw:∀ {es:List LEntry} {F:KO} {tm:T Value} {s:AS},Dc es F tm s=F tm s∨∃e∈es,ER e tm s=true∧Dc es F tm s=KU e s
 | [],F,tm,s=> .inl rfl
 |e::es,F,tm,s=>by
  have h:Dc (e::es) F tm s=ab (ER e tm s) (KU e s) (Dc es F tm s):=rfl;rw[h];cases hh:ER e tm s with
  |true=>exact .inr ⟨e,by simp,hh,rfl⟩
  |false=>
   rw[bX];rcases tw (es:=es) (F:=F) (tm:=tm) (s:=s)with h1|⟨e',h1,h2,h3⟩
   ·exact .inl h1
   ·exact .inr ⟨e',by simp[h1],h2,h3⟩
theorem Marks.less {lm:Nat} (hM:Marks n0 ρ s w ds) (hs:∀j k,h.get j=some k->s.h.get j=some k):Marks n0 ρ ⟨h,nx,lm⟩ w ds:=
 hM.re λ_ ⟨r,h1,h2,h3,h4,h5⟩=>⟨r,h1,h2,h3,λ⟨a,k,x,e1,e2,e3⟩=>h4 ⟨a,k,x,hs a k e1,e2,e3⟩,h5⟩
theorem BA {e:LEntry} (he:gT P aa nt c e) {hz:Hp} (G3:yc e.add e.del s.h=some hz) (hh:ER e tm s=true):
  FD P aa nt c tm s e.x e.MU ⟨hz,e.wq,0⟩:=by
 obtain⟨h1,hh⟩:=ai hh;obtain⟨h2,hh⟩:=ai hh;obtain⟨h3,hh⟩:=ai hh;obtain⟨h4,h5⟩:=ai hh;have hnx:=Nat.eq_of_beq_eq_true h1;have mY:=Nat.eq_of_beq_eq_true h2;have Hm:=dD h3;have hro:=zi h4;have dj:=sC h5;obtain⟨m,he⟩:=he;refine⟨m,λF hF ρ a w hE n0 fh hM hL hR Q hQ=>?_⟩;have JV:Rel P ρ ⟨ofL e.hin,e.nx,0⟩ w:=by have:=hR.less dj (Nat.zero_le s.nx);rw[hnx];exact this
 refine he F hF ρ a w ⟨hE.size,λt v h=>hE.tk t v (Hm t v h),λt v h=>hE.env t v (Hm t v h)⟩ n0 fh (hM.less dj) hL JV Q (λaj a' w' iR lP eN aZ=>?_);obtain⟨dO,fC⟩:=CL (A2 G3 dj) hnx mY hro dj hR JV eN aZ;refine hQ aj a' w' iR (lP.re λd ⟨r,g1,g2,g3,g4,g5⟩=>⟨r,g1,g2,g3,?_,g5⟩) dO fC;rintro⟨j,k,x,q1,q2,q3⟩;rcases A2 G3 dj q1 with q1|⟨q0,Vb,q1⟩
 ·exact g4 ⟨j,k,x,q1,q2,q3⟩
 ·have hlt:j<s.nx:=Nat.lt_of_not_le λhle=>by rw[hR.top j hle]at q1;cases q1
  have hr:aj j=ρ j:=fC.jY j hlt;rw[hr]at q2;obtain⟨b1,b2⟩:=hR.blk j k x q1 q2;have Ce:¬aQ ρ ⟨ofL e.hin,e.nx,0⟩ x.b:=pI hR dj hro Vb q1 q2;have hf:=(aZ.frame x.b b1 Ce).1;subst q3;rw[hf]at g2;exact po b2 g2
theorem sF {aa nt:Nat} {c:Code} {f:CF} (hf:du P aa nt c f) {es:List LEntry} (hes:∀e∈es,gT P aa nt c e) {ev:Ev} (hev:EvOk P ev):
  ∀(j:Nat) (tm:T Value) (s:AS) (x:cm) (tm':T Value) (s':AS),vg es (f ev) j tm s= .code x tm' s'->FD P aa nt c tm s x tm' s'
 |0,tm,s,x,tm',s',h=>by cases h
 |j+1,tm,s,x,tm',s',h=>by
  have h:Dc es (λtm s=>gN (vg es (f ev) j) (f ev tm s)) tm s= .code x tm' s':=h;rcases tw (es:=es) (F:= λtm s=>gN (vg es (f ev) j) (f ev tm s)) (tm:=tm) (s:=s)with h1|⟨e,he,hh,h1⟩
  ·rw[h1]at h;have h:gN (vg es (f ev) j) (f ev tm s)= .code x tm' s':=h;cases ho:f ev tm s with
   |no=>rw[ho]at h;cases h
   |val=>rw[ho]at h;cases h
   |code e1 aw s1=>
    rw[ho]at h;cases e1 with
    |normal=>have h:vg es (f ev) j aw s1= .code x tm' s':=h;obtain⟨m,ih⟩:=sF hf hes hev j aw s1 x tm' s' h;refine⟨m+1,λF hF ρ a w hE n0 fh hM hL hR Q hQ=>?_⟩;rw[roundsIn_succ];refine hf ev hev F hF ρ tm s a w .normal aw s1 ho hE n0 fh hM hL hR _ (λaO a1 w1 da g7 dn dv=>?_);exact ih F hF aO a1 w1 da n0 (Nat.le_trans fh dv.size) g7 (dG hL dv) dn Q (λdb a2 w2 mR wu dO fC=>hQ db a2 w2 mR wu dO (dv.trans fC))
    |exit id=>cases h;exact⟨1,λF hF ρ a w hE n0 fh hM hL hR Q hQ=>hf ev hev F hF ρ tm s a w (.exit id) _ _ ho hE n0 fh hM hL hR _ (λaO a1 w1 da g7 dn dv=>hQ aO a1 w1 da g7 dn dv)⟩
    |goto l=>cases h;exact⟨1,λF hF ρ a w hE n0 fh hM hL hR Q hQ=>hf ev hev F hF ρ tm s a w (.goto l) _ _ ho hE n0 fh hM hL hR _ (λaO a1 w1 da g7 dn dv=>hQ aO a1 w1 da g7 dn dv)⟩
    |ret=>cases h;exact⟨1,λF hF ρ a w hE n0 fh hM hL hR Q hQ=>hf ev hev F hF ρ tm s a w .ret _ _ ho hE n0 fh hM hL hR _ (λaO a1 w1 da g7 dn dv=>hQ aO a1 w1 da g7 dn dv)⟩
  ·rw[h1]at h;have h:Option.rec (motive:= λ_=>Out) .no (λh=> .code e.x e.MU ⟨h,e.wq,0⟩) (yc e.add e.del s.h)= .code x tm' s':=h;cases G3:yc e.add e.del s.h with
   |none=>rw[G3]at h;cases h
   |some hz=>rw[G3]at h;cases h;exact BA (hes e he) G3 hh
theorem DU {f:CF} (hf:du P aa nt c f) {es:List LEntry} (hes:∀e∈es,gT P aa nt c e):du P aa nt (.loop c) (fLoopT es f):= λev hev F hF ρ tm s a w x tm' s' h hE n0 fh hM hL hR Q hQ=>by obtain⟨m,hm⟩:=sF hf hes hev 1000000 tm s x tm' s' h;exact wpIn_loop_rounds m (hm F hF ρ a w hE n0 fh hM hL hR Q hQ)
theorem DV {f:CF} (hf:du P aa nt c f) {es:List LEntry} (hes:∀e∈es,gT P aa nt c e) (hev:EvOk P ev) {e:LEntry} (h:lOutIs e (fLoopT es f ev e.tm ⟨ofL e.hin,e.nx,0⟩)=true):gT P aa nt c e:=by
 cases ho:fLoopT es f ev e.tm ⟨ofL e.hin,e.nx,0⟩with
 |no=>rw[ho]at h;cases h
 |val=>rw[ho]at h;cases h
 |code x tm s=>rw[ho]at h;obtain⟨h1,h⟩:=ai h;obtain⟨h2,h⟩:=ai h;obtain⟨h3,h⟩:=ai h;obtain⟨h4,h5⟩:=ai h;have hx:=DT h1;have Hm:=dD h2;have hnx:=Nat.eq_of_beq_eq_true h3;have mY:=Nat.eq_of_beq_eq_true h4;have dj:=zm h5;subst hx;obtain⟨sh,Vc,RT⟩:=s;cases hnx;cases mY;obtain⟨m,hm⟩:=sF hf hes hev 1000000 _ _ _ _ _ ho;refine⟨m,λF hF ρ a w hE n0 fh hM hL hR Q hQ=>hm F hF ρ a w hE n0 fh (hM.re λd ⟨r,g1,g2,g3,g4,g5⟩=>⟨r,g1,g2,g3,λhh=>g4 hh,g5⟩) hL hR Q (λaj a' w' iR lP eN aZ=>?_)⟩;refine hQ aj a' w' ⟨iR.size,λt v h=>iR.tk t v (Hm t v h),λt v h=>iR.env t v (Hm t v h)⟩ (lP.less dj) (eN.less dj (Nat.zero_le _)) (aZ.less dj rfl)
theorem gy (hP:Plainly P) (hm:P.follows .mixedOrders=true) {aa nt fn:Nat} {lt:Nat->List LEntry}:∀(n:Nat) (c:Code) (p:Nat) (f:CF),(∀q∈bY c p,∀e∈lt q.1,gT P aa nt q.2 e)->rn P fn nt aa lt n c p=some f->du P aa nt c f
 |0,c,p,f,_,h=>by cases h
 |n+1,c,p,f,hl,h=>by
  cases c with
  |seq a b=>have h:ob (rn P fn nt aa lt n a (2*p+1)) (λa=>ob (rn P fn nt aa lt n b (2*p+2)) λb=>some (Ej a b))=some f:=h;obtain⟨fa,ha,h⟩:=U h;obtain⟨fb,hb,h⟩:=U h;cases h;exact F5 (gy hP hm n a _ fa (λq hq=>hl q (by simp[bY,hq])) ha) (gy hP hm n b _ fb (λq hq=>hl q (by simp[bY,hq])) hb)
  |block id a=>have h:ob (rn P fn nt aa lt n a (2*p+1)) (λa=>some (rH id a))=some f:=h;obtain⟨fa,ha,h⟩:=U h;cases h;exact yZ (gy hP hm n a _ fa (λq hq=>hl q (by simp[bY,hq])) ha)
  |scope a=>have h:ob (rn P fn nt aa lt n a (2*p+1)) (λa=>some (rI a))=some f:=h;obtain⟨fa,ha,h⟩:=U h;cases h;exact yY (gy hP hm n a _ fa (λq hq=>hl q (by simp[bY,hq])) ha)
  |cond x a b=>have h:ob (bA aa [] x) (λx=>ob (rn P fn nt aa lt n a (2*p+1)) λa=>ob (rn P fn nt aa lt n b (2*p+2)) λb=>some (yx x a b))=some f:=h;obtain⟨fx,hx,h⟩:=U h;obtain⟨fa,ha,h⟩:=U h;obtain⟨fb,hb,h⟩:=U h;cases h;exact CB hx (gy hP hm n a _ fa (λq hq=>hl q (by simp[bY,hq])) ha) (gy hP hm n b _ fb (λq hq=>hl q (by simp[bY,hq])) hb)
  |loop a=>
   have h:(match lt p with
    | []=>cG P fn nt aa (.loop a)
    |e::es=>ob (rn P fn nt aa lt n a (2*p+1)) λa=>some (fLoopT (e::es) a))=some f:=h
   cases hp:lt p with
   |nil=>rw[hp]at h;exact dt hP hm _ f h
   |cons e es=>rw[hp]at h;obtain⟨fa,ha,h⟩:=U h;cases h;exact DU (gy hP hm n a _ fa (λq hq=>hl q (by simp[bY,hq])) ha) (λe' gq=>hl (p,a) (by simp[bY]) e' (by rw[hp];exact gq))
  |skip=>exact dt hP hm _ f h
  |region=>exact dt hP hm _ f h
  |rangeFunc=>exact dt hP hm _ f h
  |exit=>exact dt hP hm _ f h
  |label=>exact dt hP hm _ f h
  |goto=>exact dt hP hm _ f h
  |ret=>exact dt hP hm _ f h
  |refuse=>exact dt hP hm _ f h
theorem Lk (hP:Plainly P) {fn:Func} (hf:P.funcs[f]? =some fn) (hb:fn.body=some c) (fk:mkT fn.ntmps=some t0) {b:CF} (hc:du P aa fn.ntmps c b):FFOk P f (L3 P aa t0 fn.results.toList b):=by intro ev hev args s v s' hr ρ w ao hR ha;unfold aU;rw[dk hP hf hb];exact Gd hf hb fk hc hev hr hR ha
theorem vS {p:Nat}:∀ {l:List (Nat×Code)},wT p l=true->∀q∈l,q.1≠p
 | [],_,q,hq=>by cases hq
 |r::l,h,q,hq=>by
  have h:ab (Nat.beq r.1 p) false (wT p l)=true:=h;cases hr:Nat.beq r.1 p with
  |true=>rw[hr]at h;cases h
  |false=>
   rw[hr]at h;rcases List.mem_cons.1 hq with rfl|hq
   ·exact Nat.ne_of_beq_eq_false hr
   ·exact vS h q hq
theorem zo {p:Nat}:∀ {l:List (Nat×Code)},FE p l=true->∀q∈l,q.1=p->q.2=xw p l
 | [],_,q,hq,_=>by cases hq
 |r::l,h,q,hq,he=>by
  have h:ab (Nat.beq r.1 p) (wT p l) (FE p l)=true:=h;show q.2=ab (Nat.beq r.1 p) r.2 (xw p l);cases hr:Nat.beq r.1 p with
  |true=>
   rw[hr]at h;rcases List.mem_cons.1 hq with rfl|hq
   ·rfl
   ·exact(vS h q hq he).elim
  |false=>
   rw[hr]at h;rcases List.mem_cons.1 hq with rfl|hq
   ·rw[he,Nat.beq_refl]at hr;cases hr
   ·exact zo h q hq he
abbrev LAt (P:Program) (X:Cfg) (f p:Nat) (e:LEntry):Prop:=gT P (fw X f) (Dd P f) (wU P f p) e
theorem GF (hP:Plainly P) (hm:P.follows .mixedOrders=true) (X:Cfg) (f p:Nat):du P (fw X f) (Dd P f) (wU P f p) (loopF P X f p):=by
 unfold loopF;cases h:rn P f (Dd P f) (fw X f) (λ_=> []) 500 (wU P f p) (2*p+1)with
 |none=>exact FB _
 |some F=>exact gy hP hm 500 _ _ F (λq _ e he=>by cases he) h
theorem lat_ok {X:Cfg} (hX:CfgOk P X) {p:Nat} {es:List LEntry} (hes:∀e∈es,LAt P X f p e) (hev:EvOk P ev) {e:LEntry} (h:lOutIs e (fLoopT es (loopF P X f p) ev e.tm ⟨ofL e.hin,e.nx,0⟩)=true):LAt P X f p e:=DV (GF hX.plain hX.mixed X f p) hes hev h
theorem fnL_okX {X:Cfg} (hX:CfgOk P X) {p:Nat} {es:List LEntry} (h1:FE p (bY (rO P f) 0)=true) (hb:(P.funcs[f]?.bind (·.body)).isSome=true) (hes:∀e∈es,LAt P X f p e):FFOk P f (fnL P X f p es):=by
 have dH:FFOk P f (λ_ _ _=> .no):= λev hev args s v s' h=>by cases h
 unfold fnL;split
 ·rename_i fn hf;split
  ·rename_i t0 b fk kg;cases hc:fn.body with
   |none=>rw[hf]at hb;simp[hc]at hb
   |some c=>
    have e1:rO P f=c:=by unfold rO;rw[hf];simp[hc]
    have e2:Dd P f=fn.ntmps:=by unfold Dd;rw[hf]
    refine Lk hX.plain hf hc fk (gy hX.plain hX.mixed 500 c 0 b (λq hq e he=>?_) (by rw[<-e1];exact kg));by_cases QH:q.1=p
    ·have Mi:Nat.beq q.1 p=true:=by rw[QH];exact Nat.beq_refl p
     rw[Mi,bG]at he;rw[<-e1]at hq;have:=zo h1 q hq QH;rw[this,<-e2];exact hes e he
    ·have Mi:Nat.beq q.1 p=false:=by cases h0:Nat.beq q.1 p with|false=>rfl|true=>exact(QH (Nat.eq_of_beq_eq_true h0)).elim
     rw[Mi,bX]at he;cases he
  ·exact dH
 ·exact dH
end Go.Eng
end
