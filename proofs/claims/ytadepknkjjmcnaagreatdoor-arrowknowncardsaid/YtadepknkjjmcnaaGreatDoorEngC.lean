import Derived.Test.YtadepknkjjmcnaaGreatDoorEngB
import Derived.RangeFuncIn
import Derived.RangeFuncLeaves
import Derived.RangeFuncRecord
set_option linter.unusedVariables false
set_option linter.unusedSimpArgs false
/- An evaluator of the code of the model, proved: what it answers, the program does, whatever the world. Part of the proof of ArrowKnown. -/
noncomputable section
namespace Go.Eng
open Go
variable {s:AS} {al:Al} {fs:List cI} {xs:List Operand} {lo:Lo} {aa:Nat} {o:Oper} {y:Operand} {rf:Operand->Value} {P:Program} {ρ:Ren} {name:String} {tm:T Value} {u v v':Value} {r:Value×AS} {w w':World}
def gh (ρ:Ren) (aa:Nat) (al:Al) (lo:Lo) (tm:T Value) (rf:Operand->Value) (ops:Array Operand):Prop:=∀x f v,x∈ops->bA aa al x=some f->f lo tm=some v->ag ρ v (rf x)
theorem gh.list {ops:Array Operand} (h:gh ρ aa al lo tm rf ops):∀ {xs:List Operand} {fs:List cI} {l:List Value},(∀x∈xs,x∈ops)->iT aa al xs=some fs->pK fs lo tm=some l->af ρ l (xs.map rf):=by
 intro xs;induction xs with
 |nil=>intro fs l _ hm hv;cases hm;cases hv;exact .nil
 |cons x xs ih=>intro fs l hin hm hv;have Aa:ob (bA aa al x) (λx=>ob (iT aa al xs) λr=>some (x::r))=some fs:=hm;obtain⟨f,hf,Aa⟩:=U Aa;obtain⟨r,hr,Aa⟩:=U Aa;cases Aa;have eE:Option.rec (motive:= λ_=>Option (List Value)) none (λv=>Option.rec (motive:= λ_=>Option (List Value)) none (λr=>some (v::r)) (pK r lo tm)) (f lo tm)=some l:=hv;obtain⟨v,h1,eE⟩:=ay eE;obtain⟨l',h2,eE⟩:=ay eE;cases eE;exact .cons (h _ _ _ (hin _ (by simp)) hf h1) (ih (λy hy=>hin y (by simp[hy])) hr h2)
def Md (P:Program) (aa:Nat) (al:Al) (o:Oper) (f:VF):Prop:=
 (∀lo tm s s',f lo tm s=f lo tm s')∧∀ρ lo tm s v w rf,f lo tm s=some v->gh ρ aa al lo tm rf o.op.operands->∃u,(execOp rf o).run P w= .ok (.value u) w∧ag ρ v u
def O4 (P:Program) (aa:Nat) (al:Al) (o:Oper) (f:VF):Prop:=
 ∀ρ lo tm s v w rf,f lo tm s=some v->Rel P ρ s w->gh ρ aa al lo tm rf o.op.operands->∃u,(execOp rf o).run P w= .ok (.value u) w∧ag ρ v u
def TI (P:Program) (aa:Nat) (al:Al) (o:Oper) (f:SF):Prop:=
 ∀lo tm s r,f lo tm s=some r->∃k,s.new k=some r.2∧∀ρ w rf,ρ s.nx=none->gh ρ aa al lo tm rf o.op.operands->∃m:Sem Value,execOp rf o=(do pure (.value (<-m)))∧Made P ρ w s.nx m r.1 k
def jC (ρ:Ren) (v:Value) (nx:Next):Prop:=(∃u,nx= .value u∧ag ρ v u)∨(nx= .skip∧v= .tuple #[])
def Me (P:Program) (aa:Nat) (al:Al) (o:Oper) (f:SF):Prop:=
 ∀ρ lo tm s r w rf,f lo tm s=some r->Rel P ρ s w->gh ρ aa al lo tm rf o.op.operands->∃aj nx w',(execOp rf o).run P w= .ok nx w'∧jC aj r.1 nx∧Rel P aj r.2 w'∧aN ρ s w aj r.2 w'
def bD (f:Value) (args:List Value):Sem Next:=do let d<-Deferred.ofValue f args.toArray;invoke d.target d.args
def Ko (P:Program) (aa:Nat) (al:Al) (o:Oper):Rd->Prop
 | .p f=>Md P aa al o f
 | .r f=>O4 P aa al o f
 | .a f=>TI P aa al o f
 | .w f=>Me P aa al o f
 | .c f Lv=>∃c,o.op= .call c∧iT aa al c.args.toList=some Lv∧∀ρ lo tm fv rf,f lo tm=some fv->gh ρ aa al lo tm rf o.op.operands->∃f',ag ρ fv f'∧∀w,(execOp rf o).run P w=(bD f' (c.args.toList.map rf)).run P w
section
theorem aI {m:Sem Value} (h:m.run P w= .ok u w'):((do pure (Next.value (<-m)):Sem Next)).run P w= .ok (.value u) w':=by simp only[Sem.run_bind,h,Result.andThen_ok,Sem.run_pure]
theorem yW {m:Sem Unit} (h:m.run P w= .ok () w'):((do m;pure Next.skip:Sem Next)).run P w= .ok .skip w':=by simp only[Sem.run_bind,h,Result.andThen_ok,Sem.run_pure]
theorem na {x:Operand} {f:cI} {k:Value->Option Value} (hm:bA aa al x=some f) (h:∀ρ v v' u w rf,k v=some u->ag ρ v v'->rf x=v'->∃u',(execOp rf o).run P w= .ok (.value u') w∧ag ρ u u') (hin:x∈o.op.operands:=by simp[*,Op.operands,Call.operands]):Md P aa al o (v1 f k):=by refine⟨λ_ _ _ _=>rfl,λρ lo tm s v w rf hv hR=>?_⟩;obtain⟨a,ha,hv⟩:=U hv;exact h ρ a _ v w rf hv (hR x f a hin hm ha) rfl
theorem Fx {x:Operand} {f g:cI} {k:Value->Value->Option Value} (hm:bA aa al x=some f) (Ha:bA aa al y=some g) (h:∀ρ a b u w rf,k a b=some u->ag ρ a (rf x)->ag ρ b (rf y)->∃u',(execOp rf o).run P w= .ok (.value u') w∧ag ρ u u') (hin:x∈o.op.operands:=by simp[*,Op.operands,Call.operands]) (Ai:y∈o.op.operands:=by simp[*,Op.operands,Call.operands]):Md P aa al o (v2 f g k):=by refine⟨λ_ _ _ _=>rfl,λρ lo tm s v w rf hv hR=>?_⟩;obtain⟨a,ha,hv⟩:=U hv;obtain⟨b,hb,hv⟩:=U hv;exact h ρ a b v w rf hv (hR x f a hin hm ha) (hR y g b Ai Ha hb)
theorem vd {k:List Value->Option Value} (hm:iT aa al xs=some fs) (h:∀ρ l u w rf,k l=some u->af ρ l (xs.map rf)->∃u',(execOp rf o).run P w= .ok (.value u') w∧ag ρ u u') (hin:∀x∈xs,x∈o.op.operands:=by simp[*,Op.operands,Call.operands]<;>grind):Md P aa al o (vl fs k):=by refine⟨λ_ _ _ _=>rfl,λρ lo tm s v w rf hv hR=>?_⟩;obtain⟨l,hl,hv⟩:=U hv;exact h ρ l v w rf hv (hR.list hin hm hl)
theorem B3 {x:Operand} {f:cI} {k:AS->Value->Option Value} (hm:bA aa al x=some f) (h:∀ρ s v u w rf,k s v=some u->Rel P ρ s w->ag ρ v (rf x)->∃u',(execOp rf o).run P w= .ok (.value u') w∧ag ρ u u') (hin:x∈o.op.operands:=by simp[*,Op.operands,Call.operands]):O4 P aa al o (r1 f k):=by intro ρ lo tm s v w rf hv hr hR;obtain⟨a,ha,hv⟩:=U hv;exact h ρ s a v w rf hv hr (hR x f a hin hm ha)
theorem Ob {x:Operand} {f g:cI} {k:AS->Value->Value->Option Value} (hm:bA aa al x=some f) (Ha:bA aa al y=some g) (h:∀ρ s a b u w rf,k s a b=some u->Rel P ρ s w->ag ρ a (rf x)->ag ρ b (rf y)->∃u',(execOp rf o).run P w= .ok (.value u') w∧ag ρ u u') (hin:x∈o.op.operands:=by simp[*,Op.operands,Call.operands]) (Ai:y∈o.op.operands:=by simp[*,Op.operands,Call.operands]):O4 P aa al o (r2 f g k):=by intro ρ lo tm s v w rf hv hr hR;obtain⟨a,ha,hv⟩:=U hv;obtain⟨b,hb,hv⟩:=U hv;exact h ρ s a b v w rf hv hr (hR x f a hin hm ha) (hR y g b Ai Ha hb)
theorem Oc {k:AS->List Value->Option Value} (hm:iT aa al xs=some fs) (h:∀ρ s l u w rf,k s l=some u->Rel P ρ s w->af ρ l (xs.map rf)->∃u',(execOp rf o).run P w= .ok (.value u') w∧ag ρ u u') (hin:∀x∈xs,x∈o.op.operands:=by simp[*,Op.operands,Call.operands]<;>grind):O4 P aa al o (rl fs k):=by intro ρ lo tm s v w rf hv hr hR;obtain⟨l,hl,hv⟩:=U hv;exact h ρ s l v w rf hv hr (hR.list hin hm hl)
theorem dF {m:Sem Value} (he:execOp rf o=(do pure (.value (<-m)))) (h:jS P ρ s w m r):
  ∃aj nx w',(execOp rf o).run P w= .ok nx w'∧jC aj r.1 nx∧Rel P aj r.2 w'∧aN ρ s w aj r.2 w':=by
 obtain⟨aj,u,w',h1,h2,h3,h4⟩:=h;exact⟨aj,_,w',by rw[he];exact aI h1,.inl ⟨u,rfl,h2⟩,h3,h4⟩
theorem iF {m:Sem Unit} (he:execOp rf o=(do m;pure .skip)) (h:wN P ρ s w m r):
  ∃aj nx w',(execOp rf o).run P w= .ok nx w'∧jC aj r.1 nx∧Rel P aj r.2 w'∧aN ρ s w aj r.2 w':=by
 obtain⟨h0,aj,w',h1,h3,h4⟩:=h;exact⟨aj,_,w',by rw[he];exact yW h1,.inr ⟨rfl,h0⟩,h3,h4⟩
theorem I8 {x:Operand} {f:cI} {k:AS->Value->Option (Value×AS)} (hm:bA aa al x=some f) (h:∀ρ s a r w rf,k s a=some r->Rel P ρ s w->ag ρ a (rf x)->∃aj nx w',(execOp rf o).run P w= .ok nx w'∧jC aj r.1 nx∧Rel P aj r.2 w'∧aN ρ s w aj r.2 w') (hin:x∈o.op.operands:=by simp[*,Op.operands,Call.operands]):Me P aa al o (s1 f k):=by intro ρ lo tm s r w rf hv hr hR;obtain⟨a,ha,hv⟩:=U hv;exact h ρ s a r w rf hv hr (hR x f a hin hm ha)
theorem I9 {x:Operand} {f g:cI} {k:AS->Value->Value->Option (Value×AS)} (hm:bA aa al x=some f) (Ha:bA aa al y=some g) (h:∀ρ s a b r w rf,k s a b=some r->Rel P ρ s w->ag ρ a (rf x)->ag ρ b (rf y)->∃aj nx w',(execOp rf o).run P w= .ok nx w'∧jC aj r.1 nx∧Rel P aj r.2 w'∧aN ρ s w aj r.2 w') (hin:x∈o.op.operands:=by simp[*,Op.operands,Call.operands]) (Ai:y∈o.op.operands:=by simp[*,Op.operands,Call.operands]):Me P aa al o (s2 f g k):=by intro ρ lo tm s r w rf hv hr hR;obtain⟨a,ha,hv⟩:=U hv;obtain⟨b,hb,hv⟩:=U hv;exact h ρ s a b r w rf hv hr (hR x f a hin hm ha) (hR y g b Ai Ha hb)
theorem Fy {x z:Operand} {f g e:cI} {k:AS->Value->Value->Value->Option (Value×AS)} (hm:bA aa al x=some f) (Ha:bA aa al y=some g) (TJ:bA aa al z=some e) (h:∀ρ s a b c r w rf,k s a b c=some r->Rel P ρ s w->ag ρ a (rf x)->ag ρ b (rf y)->ag ρ c (rf z)->∃aj nx w',(execOp rf o).run P w= .ok nx w'∧jC aj r.1 nx∧Rel P aj r.2 w'∧aN ρ s w aj r.2 w') (hin:x∈o.op.operands:=by simp[*,Op.operands,Call.operands]) (Ai:y∈o.op.operands:=by simp[*,Op.operands,Call.operands]) (Q3:z∈o.op.operands:=by simp[*,Op.operands,Call.operands]):Me P aa al o (s3 f g e k):=by intro ρ lo tm s r w rf hv hr hR;obtain⟨a,ha,hv⟩:=U hv;obtain⟨b,hb,hv⟩:=U hv;obtain⟨c,hc,hv⟩:=U hv;exact h ρ s a b c r w rf hv hr (hR x f a hin hm ha) (hR y g b Ai Ha hb) (hR z e c Q3 TJ hc)
theorem yE {k:AS->List Value->Option (Value×AS)} (hm:iT aa al xs=some fs) (h:∀ρ s l r w rf,k s l=some r->Rel P ρ s w->af ρ l (xs.map rf)->∃aj nx w',(execOp rf o).run P w= .ok nx w'∧jC aj r.1 nx∧Rel P aj r.2 w'∧aN ρ s w aj r.2 w') (hin:∀x∈xs,x∈o.op.operands:=by simp[*,Op.operands,Call.operands]<;>grind):Me P aa al o (sl fs k):=by intro ρ lo tm s r w rf hv hr hR;obtain⟨l,hl,hv⟩:=U hv;exact h ρ s l r w rf hv hr (hR.list hin hm hl)
theorem ea {x:Operand} {k:cI->Rd} {r:Rd} (h:c1 aa al x k=some r):∃f,bA aa al x=some f∧r=k f:=by obtain⟨f,hf,h⟩:=U h;cases h;exact⟨f,hf,rfl⟩
theorem jD {x:Operand} {k:cI->cI->Rd} {r:Rd} (h:c2 aa al x y k=some r):∃f g,bA aa al x=some f∧bA aa al y=some g∧r=k f g:=by obtain⟨f,hf,h⟩:=U h;obtain⟨g,hg,h⟩:=U h;cases h;exact⟨f,g,hf,hg,rfl⟩
theorem qS {x z:Operand} {k:cI->cI->cI->Rd} {r:Rd} (h:c3 aa al x y z k=some r):∃f g e,bA aa al x=some f∧bA aa al y=some g∧bA aa al z=some e∧r=k f g e:=by obtain⟨f,hf,h⟩:=U h;obtain⟨g,hg,h⟩:=U h;obtain⟨e,he,h⟩:=U h;cases h;exact⟨f,g,e,hf,hg,he,rfl⟩
theorem qT {k:List cI->Rd} {r:Rd} (h:cl aa al xs k=some r):∃fs,iT aa al xs=some fs∧r=k fs:=by obtain⟨f,hf,h⟩:=U h;cases h;exact⟨f,hf,rfl⟩
theorem zN {x:Operand} (ho:o.op= .nilCheck x) (w:World) (h:E5 v=some u) (hv:ag ρ v v') (hx:rf x=v'):∃u',(execOp rf o).run P w= .ok (.value u') w∧ag ρ u u':=by unfold E5 at h;split at h<;>first|(cases h;done)|(cases h;refine⟨v',?_,hv⟩;cases hv<;>(unfold execOp;rw[ho];simp only[hx,Sem.run_pure]))
theorem xk {ops:Array Operand} (hR:gh ρ aa al lo tm rf ops) {x:Option Operand} {f:Option cI} {v:Option Value} (hm:ru aa al x=some f) (hv:Hr f lo tm=some v) (hin:∀y,x=some y->y∈ops):gK ρ v (x.map rf):=by
 cases x with
 |none=>cases hm;cases hv;exact .none
 |some x=>obtain⟨g,hg,hm⟩:=U hm;cases hm;obtain⟨a,ha,hv⟩:=U hv;cases hv;exact .some (hR x g a (hin x rfl) hg ha)
end
theorem Gu (ps:List (Nat×Operand)) (rf:Operand->Value):tU (ps.map (·.1)) ((ps.map (·.2)).map rf)=ps.map λp=>(p.1,rf p.2):=by
 induction ps with
 |nil=>rfl
 |cons p ps ih=>exact congrArg (_:: ·) ih
theorem yX (ps:Array (Nat×Operand)) (rf:Operand->Value):(ps.map λ(i,x)=>(i,rf x))=(tU (ps.toList.map (·.1)) ((ps.toList.map (·.2)).map rf)).toArray:=by rw[Gu];apply Array.ext';simp
section
theorem qF {c:Call} {b:Builtin} {t:TypeId} (hc:c.callee= .builtin b):resolve rf c t=pure {target:= .builtin b c.argTypes t (c.args.map fun| .const _=>true|_=>false),args:=c.args.map rf}:=by unfold resolve;rw[hc];rfl
theorem xR {c:Call} {b:Builtin} (ho:o.op= .call c) (hc:c.callee= .builtin b):
  execOp rf o=builtin b c.argTypes o.type (c.args.map fun| .const _=>true|_=>false) (c.args.map rf):=by
 unfold execOp;rw[ho];simp only[qF hc,pure_bind,invoke]
theorem eb (xs:Array Operand) (rf:Operand->Value):xs.map rf=(xs.toList.map rf).toArray:=by apply Array.ext';simp
theorem xS {sh:Bool} {c:Call} {b:Builtin} {r:Rd} (ho:o.op= .call c) (hc:c.callee= .builtin b) (hm:iT aa al c.args.toList=some fs) (h:ly P sh b c.argTypes fs=some r):Ko P aa al o r:=by
 have he:= λrf:Operand->Value=>xR (rf:=rf) ho hc;unfold ly at h;split at h
 ·rw[ah]at h;split at h
  ·cases h;rename_i uj;refine Oc hm (λρ s l u w rf hv hr hl=>?_);obtain⟨u',h1,h2⟩:=Bi (ty:=o.type) hr uj hv hl;exact⟨u',by rw[he,eb];exact aI h1,h2⟩
  ·cases h;refine vd hm (λρ l u w rf hv hl=>?_);obtain⟨h1,h2⟩:=Ba (ty:=o.type) w hv hl;exact⟨u,by rw[he,eb];exact aI h1,h2⟩
 ·cases h;refine vd hm (λρ l u w rf hv hl=>?_);obtain⟨u',h1,h2⟩:=Bb (ty:=o.type) w hv hl;exact⟨u',by rw[he,eb];exact aI h1,h2⟩
 ·cases h;refine yE hm (λρ s l r w rf hv hr hl=>dF (m:=Builtin.append_ c.argTypes o.type (c.args.map rf)) (by rw[he];rfl) ?_);rw[eb];exact uD hr hv hl
 ·cases h;refine yE hm (λρ s l r w rf hv hr hl=>dF (m:=Builtin.copy_ c.argTypes o.type (c.args.map rf)) (by rw[he];rfl) ?_);rw[eb];exact zE hr hv hl
 ·cases h;refine yE hm (λρ s l r w rf hv hr hl=>dF (m:=Builtin.delete_ c.argTypes o.type (c.args.map rf)) (by rw[he];rfl) ?_);rw[eb];exact uI hr hv hl
 ·cases h;refine yE hm (λρ s l r w rf hv hr hl=>dF (m:=Builtin.clear_ c.argTypes o.type (c.args.map rf)) (by rw[he];rfl) ?_);rw[eb];exact xL hr hv hl
 ·cases h;refine vd hm (λρ l u w rf hv hl=>?_);obtain⟨u',h1,h2⟩:=Dy (ts:=c.argTypes) (ty:=o.type) w hv hl;exact⟨u',by rw[he,eb];exact aI h1,h2⟩
 ·cases h;refine vd hm (λρ l u w rf hv hl=>?_);obtain⟨u',h1,h2⟩:=Dz (ts:=c.argTypes) (ty:=o.type) w hv hl;exact⟨u',by rw[he,eb];exact aI h1,h2⟩
 ·rw[ah]at h;split at h
  ·rename_i Kp;cases h;have hb:b.ctorIdx=20:=Nat.eq_of_beq_eq_true Kp;refine vd hm (λρ l u w rf hv hl=>?_);obtain⟨u',h1,h2⟩:=zH (ts:=c.argTypes) (ty:=o.type) w hv hl;refine⟨u',?_,h2⟩;rw[he,eb];cases b<;>first|(exact aI h1)|(simp[Builtin.ctorIdx]at hb)
  ·replace h:=ae h;obtain⟨Kp,h⟩:=h;cases h;have hb:b.ctorIdx=21:=Nat.eq_of_beq_eq_true Kp;refine yE hm (λρ s l r w rf hv hr hl=>dF (m:=Builtin.unsafeString_ c.argTypes o.type (c.args.map rf)) ?_ ?_)
   ·rw[he];cases b<;>first|rfl|(simp[Builtin.ctorIdx]at hb)
   ·rw[eb];exact Bh hr hv hl
theorem DJ {src dst:TypeId} {x:Operand} {f:cI} {r:Rd} (ho:o.op= .convert src dst x) (hm:bA aa al x=some f) (h:AN P src dst f=some r):Ko P aa al o r:=by
 have he:∀rf,execOp rf o=(do pure (.value (<-convert src dst (rf x)))):= λrf=>by unfold execOp;rw[ho]
 unfold AN at h;rw[ah]at h;split at h
 ·rename_i hd;have hd:=qb hd;split at h
  ·rename_i e hs;cases h;refine B3 hm (λρ s v u w rf hv hr hx=>?_);obtain⟨u',w',h1,rfl,h2⟩:=qc hr (.inl ⟨rfl,hs,hd⟩) hv hx;exact⟨u',by rw[he];exact aI h1,h2⟩
  ·cases h
 ·rw[ah]at h;split at h
  ·rename_i hs;have hs:=qb hs;split at h
   ·rename_i e hd;cases h;refine B3 hm (λρ s v u w rf hv hr hx=>?_);obtain⟨u',w',h1,rfl,h2⟩:=qc hr (.inr ⟨rfl,hs,hd⟩) hv hx;exact⟨u',by rw[he];exact aI h1,h2⟩
   ·cases h
  ·split at h
   ·rename_i e hs hd;split at h
    ·rename_i hu;cases h;refine B3 hm (λρ s v u w rf hv hr hx=>?_);obtain⟨u',h1,h2⟩:=zG hr hs hu hd hv hx;exact⟨u',by rw[he];exact aI h1,h2⟩
    ·cases h
   ·rename_i e hs hd;split at h
    ·rename_i hu;replace h:=ae h;obtain⟨_,h⟩:=h;cases h;intro lo tm s r hv;obtain⟨a,ha,hv⟩:=U hv;obtain⟨k,hk,m9⟩:=Bf (P:=P) hs hd hu hv;exact⟨k,hk,λρ w rf ow hR=>⟨_,he rf,m9 ow (hR x f a (by rw[ho];simp[Op.operands]) hm ha)⟩⟩
    ·cases h
   ·rename_i ds d _ _ hs hd;cases h;refine na hm (λρ v v' u w rf hv hx x7=>?_);obtain⟨u',h1,h2⟩:=zF (P:=P) w hs hd hv hx;exact⟨u',by rw[he,x7];exact aI h1,h2⟩
   ·cases h
theorem Lc {x:Operand} {lo hi mx:Option Operand} {t:TypeId} {f:cI} {l h m:Option cI} (ho:o.op= .slice t x lo hi mx) (hx:bA aa al x=some f) (hl:ru aa al lo=some l) (hh:ru aa al hi=some h) (hm:ru aa al mx=some m):
  Md P aa al o (FQ P t f l h m):=by
 have he:∀rf,execOp rf o=(do pure (.value (<-Instr.sliceAt t (rf x) (lo.map rf) (hi.map rf) (mx.map rf)))):= λrf=>by unfold execOp;rw[ho]
 refine⟨λ_ _ _ _=>rfl,λρ ga tm s v w rf hv hR=>?_⟩;obtain⟨a,ha,hv⟩:=U hv;obtain⟨b,hb,hv⟩:=U hv;obtain⟨c,hc,hv⟩:=U hv;obtain⟨d,hd,hv⟩:=U hv;obtain⟨u,h1,h2⟩:=xH w hv (hR x f a (by rw[ho];simp[Op.operands]) hx ha) (xk hR hl hb (λy e=>by rw[ho,e];simp[Op.operands])) (xk hR hh hc (λy e=>by rw[ho,e];simp[Op.operands])) (xk hR hm hd (λy e=>by rw[ho,e];simp[Op.operands]));exact⟨u,by rw[he];exact aI h1,h2⟩
theorem vD {t:TypeId} {fv:Value} (h:wF P name t v=some fv) (w:World):∃f,fv= .func (.func f) #[v] #[]∧(method (P.types.size+Made.depth) t v' name).run P w= .ok (f,v') w:=by
 unfold wF at h;split at h
 ·rename_i i hi;have Su:(typeInfo t).run P w= .ok i w:=by simp[typeInfo,hi]
  split at h
  ·rename_i m hm;split at h
   ·rename_i f p Ja Jb;obtain⟨n,Sv⟩:∃n,P.types.size+Made.depth=n+1:=⟨_,rfl⟩
    split at h
    ·rename_i e hu;cases h;refine⟨f,rfl,?_⟩;rw[Sv];unfold method;simp only[Sem.run_bind,Su,Result.andThen_ok,hm,Ja,follow,Sem.run_pure,Jb,receiverAt,run_underlying hu,Place.get]
    ·cases h
    ·rename_i d hne hu;cases h;refine⟨f,rfl,?_⟩;rw[Sv];unfold method;simp only[Sem.run_bind,Su,Result.andThen_ok,hm,Ja,follow,Sem.run_pure,Jb,receiverAt,run_underlying hu,Place.get]
    ·cases h
   ·cases h
  ·cases h
 ·cases h
theorem Bl {c:Call} {g:Operand} {iv fv:Value} (ho:o.op= .call c) (hc:c.callee= .invoke g name) (hg:ag ρ iv (rf g)) (h:FR P name iv=some fv):∃f',ag ρ fv f'∧∀w,(execOp rf o).run P w=(bD f' (c.args.toList.map rf)).run P w:=by
 cases iv with
 |iface t v=>
  have h:wF P name t v=some fv:=h;generalize hrg:rf g=u at hg;cases hg with| @iface _ _ v' hv=>?_
  obtain⟨f,rfl,_⟩:=vD (v':=v') h default;refine⟨.func (.func f) #[v'] #[],.func f (.cons hv .nil) .nil,λw=>?_⟩;obtain⟨f2,he,hm⟩:=vD (v':=v') h w;have TK:f=f2:=by injection he with h1;injection h1
  subst TK;unfold execOp bD;rw[ho];have e1:(#[Value.iface t v']++c.args.map rf)[0]? =some (.iface t v'):=by rw[Array.getElem?_append_left (by simp)];rfl
  have e2:(#[Value.iface t v']++c.args.map rf).extract 1 (#[Value.iface t v']++c.args.map rf).size=c.args.map rf:=by apply Array.ext';simp[List.take_of_length_le]
  have e3: #[v']++(c.args.toList.map rf).toArray++ #[]= #[v']++c.args.map rf:=by apply Array.ext';simp
  simp only[resolve,hc,hrg,Deferred.ofValue,pure_bind,invoke,e1,e2,e3,callMethod,Sem.run_bind,run_program,Result.andThen_ok,hm]
 |_=>cases h
theorem qU {r:Rd} (h:tV P aa al o.op=some r):Ko P aa al o r:=by
 cases ho:o.op<;>rw[ho]at h<;>(try (cases h;done))
 case move x=>obtain⟨f,hf,rfl⟩:=ea h;exact na hf (λρ v v' u w rf hv hx x7=>⟨v',by unfold execOp;rw[ho];simp only[x7,Sem.run_pure],by cases hv;exact hx⟩)
 case assign x=>obtain⟨f,hf,rfl⟩:=ea h;exact na hf (λρ v v' u w rf hv hx x7=>⟨v',by unfold execOp;rw[ho];simp only[x7,Sem.run_pure],by cases hv;exact hx⟩)
 case pick c a b=>
  obtain⟨f,g,e,hf,hg,he,rfl⟩:=qS h;refine⟨λ_ _ _ _=>rfl,λρ lo tm s v w rf hv hR=>?_⟩;obtain⟨x,hx,hv⟩:=U hv;have hc:=hR c f x (by rw[ho];simp[Op.operands]) hf hx;unfold IV at hv;split at hv
  ·rename_i y;generalize Sw:rf c=cv at hc;cases hc;rw[ah]at hv;cases y with
   |true=>refine⟨rf a,?_,hR a g v (by rw[ho];simp[Op.operands]) hg hv⟩;unfold execOp;rw[ho];simp only[Sw,asBool,Sem.run_bind,Sem.run_pure,Result.andThen_ok,if_true]
   |false=>refine⟨rf b,?_,hR b e v (by rw[ho];simp[Op.operands]) he hv⟩;unfold execOp;rw[ho];simp only[Sw,asBool,Sem.run_bind,Sem.run_pure,Result.andThen_ok,Bool.false_eq_true,if_false]
  ·cases hv
 case alloc t=>cases h;intro lo tm s r hv;obtain⟨k,hk,hm⟩:=zB (P:=P) hv;exact⟨k,hk,λρ w rf ow hR=>⟨_,by unfold execOp;rw[ho],hm ow⟩⟩
 case box t x=>obtain⟨f,hf,rfl⟩:=ea h;intro lo tm s r hv;obtain⟨a,ha,hv⟩:=U hv;obtain⟨k,hk,hm⟩:=DC (P:=P) hv;exact⟨k,hk,λρ w rf ow hR=>⟨_,by unfold execOp;rw[ho],hm ow (hR x f a (by rw[ho];simp[Op.operands]) hf ha)⟩⟩
 case build t ps=>obtain⟨fs,hf,rfl⟩:=qT h;refine vd hf (λρ l u w rf hv hl=>?_);obtain⟨u',h1,h2⟩:=xK w hv hl;rw[<-yX]at h1;exact⟨u',by unfold execOp;rw[ho];exact aI h1,h2⟩
 case buildSlice t n ps=>obtain⟨fs,hf,rfl⟩:=qT h;intro lo tm s r hv;obtain⟨l,hl,hv⟩:=U hv;obtain⟨k,hk,hm⟩:=py (P:=P) hv;refine⟨k,hk,λρ w rf ow hR=>⟨Instr.buildSlice t n (ps.map λ(i,x)=>(i,rf x)),by unfold execOp;rw[ho],?_⟩⟩;rw[yX];exact hm ow (hR.list (by rw[ho];simp[Op.operands]) hf hl)
 case load t a=>obtain⟨f,hf,rfl⟩:=ea h;refine B3 hf (λρ s v u w rf hv hr hx=>?_);rw[Gk]at hv;obtain⟨u',h1,h2⟩:=p0 hr hv hx;exact⟨u',by unfold execOp;rw[ho];exact aI h1,h2⟩
 case store t a x=>obtain⟨f,g,hf,hg,rfl⟩:=jD h;exact I9 hf hg (λρ s a' x' r w rf hv hr ha hx=>iF (m:=Instr.storeAt t (rf a) (rf x)) (by unfold execOp;rw[ho]) (xJ hr (by rw[Dq]at hv;exact hv) ha hx))
 case nilCheck x=>obtain⟨f,hf,rfl⟩:=ea h;exact na hf (λρ v v' u w rf hv hx x7=>zN ho w hv hx x7)
 case binOp op t x y c=>
  obtain⟨f,g,hf,hg,rfl⟩:=jD h;refine Fx hf hg (λρ a b u w rf hv ha hb=>?_);rw[Gm]at hv;obtain⟨h1,h2⟩:=A8 (P:=P) (ox:=x) (oy:=y) w (λhc=>by
   rw[ah]at hc;split at hc
   ·exact .inl ‹_›
   ·exact .inr hc) hv ha hb
  exact⟨u,by unfold execOp;rw[ho];exact aI h1,h2⟩
 case unOp op t x=>obtain⟨f,hf,rfl⟩:=ea h;refine na hf (λρ v v' u w rf hv hx x7=>?_);obtain⟨h1,h2⟩:=Dx (P:=P) w hv hx;exact⟨u,by unfold execOp;rw[ho,];simp only[x7];exact aI h1,h2⟩
 case convert a b x=>obtain⟨f,hf,h⟩:=U h;exact DJ ho hf h
 case makeInterface t x=>
  change (match P.underlying t with|some (.interface _)=>none|some _=>c1 aa al x λx=>Rd.p (v1 x λv=>some (.iface t v))|none=>none)=some r at h;split at h
  ·cases h
  ·rename_i d hne hu;obtain⟨f,hf,rfl⟩:=ea h;refine na hf (λρ v v' u w rf hv hx x7=>?_);cases hv;refine⟨.iface t v',?_,.iface t hx⟩;unfold execOp;rw[ho];simp only[x7];refine aI ?_;simp only[Instr.makeInterface,Sem.run_bind,run_underlying hu,Result.andThen_ok];cases d<;>first|rfl|exact(hne _ rfl).elim
  ·cases h
 case makeFunc fn a b=>
  obtain⟨fa,yo,h⟩:=U h;obtain⟨fb,JD,h⟩:=U h;cases h;refine⟨λ_ _ _ _=>rfl,λρ lo tm s v w rf hv hR=>?_⟩;obtain⟨la,OU,hv⟩:=U hv;replace hv:=U hv;obtain⟨lb,O5,hv⟩:=hv;have hfn:∃fi,fn= .func fi∧v= .func (.func fi) ⟨la⟩ ⟨lb⟩:=by cases fn<;>first|(cases hv;done)|(cases hv;exact⟨_,rfl,rfl⟩)
  obtain⟨fi,rfl,rfl⟩:=hfn;refine⟨.func (.func fi) (a.map rf) (b.map rf),?_,?_⟩
  ·unfold execOp;rw[ho];rfl
  ·have h1:=hR.list (by rw[ho];simp[Op.operands];grind) yo OU;have h2:=hR.list (by rw[ho];simp[Op.operands];grind) JD O5;rw[<-Array.toList_map]at h1 h2;exact .func _ h1 h2
 case makeMap t r'=>
  cases r' with
  |some x=>cases h
  |none=>obtain⟨ke,iq,h⟩:=U h;cases h;intro lo tm s r hv;have hv:aq s.nx (λa=>ob (s.new (Blk.map ke.fst [] 0)) λs'=>some (Value.map (some a),s'))=some r:=hv;rw[ak]at hv;obtain⟨s',fR,hv⟩:=U hv;cases hv;exact⟨_,fR,λρ w rf ow hR=>⟨_,by unfold execOp;rw[ho];rfl,uJ⟩⟩
 case makeSlice t l c=>obtain⟨f,g,hf,hg,rfl⟩:=jD h;intro lo tm s r hv;obtain⟨a,ha,hv⟩:=U hv;obtain⟨b,hb,hv⟩:=U hv;obtain⟨k,hk,hm⟩:=qB (P:=P) hv;exact⟨k,hk,λρ w rf ow hR=>⟨_,by unfold execOp;rw[ho],hm ow (hR l f a (by rw[ho];simp[Op.operands]) hf ha) (hR c g b (by rw[ho];simp[Op.operands]) hg hb)⟩⟩
 case slice t x lo hi mx=>obtain⟨f,hf,h⟩:=U h;obtain⟨a,ha,h⟩:=U h;obtain⟨b,hb,h⟩:=U h;obtain⟨c,hc,h⟩:=U h;cases h;exact Lc ho hf ha hb hc
 case fieldAddr t x fl=>obtain⟨f,hf,rfl⟩:=ea h;refine na hf (λρ v v' u w rf hv hx x7=>?_);rw[ux]at hv;obtain⟨u',h1,h2⟩:=pv (P:=P) w hv hx;exact⟨u',by unfold execOp;rw[ho];simp only[x7];exact aI h1,h2⟩
 case field t x fl=>obtain⟨f,hf,rfl⟩:=ea h;refine na hf (λρ v v' u w rf hv hx x7=>?_);obtain⟨u',h1,h2⟩:=xF (P:=P) w hv hx;exact⟨u',by unfold execOp;rw[ho];simp only[x7];exact aI h1,h2⟩
 case indexAddr t x i=>obtain⟨f,g,hf,hg,rfl⟩:=jD h;refine Fx hf hg (λρ a b u w rf hv ha hb=>?_);rw[uy]at hv;obtain⟨u',h1,h2⟩:=pw (P:=P) w hv ha hb;exact⟨u',by unfold execOp;rw[ho];exact aI h1,h2⟩
 case index t x i=>obtain⟨f,g,hf,hg,rfl⟩:=jD h;refine Fx hf hg (λρ a b u w rf hv ha hb=>?_);obtain⟨u',h1,h2⟩:=xG (P:=P) w hv ha hb;exact⟨u',by unfold execOp;rw[ho];exact aI h1,h2⟩
 case lookup t x i ok=>obtain⟨f,g,hf,hg,rfl⟩:=jD h;refine Ob hf hg (λρ s a b u w rf hv hr ha hb=>?_);obtain⟨u',h1,h2⟩:=uH hr hv hb ha;exact⟨u',by unfold execOp;rw[ho];exact aI h1,h2⟩
 case mapUpdate t m i x=>obtain⟨f,g,e,hf,hg,he,rfl⟩:=qS h;exact Fy hf hg he (λρ s a b c r w rf hv hr ha hb hc=>iF (m:=Instr.mapUpdate t (rf m) (rf i) (rf x)) (by unfold execOp;rw[ho]) (jl hr hv ha hb hc))
 case insert t m i x=>obtain⟨f,g,e,hf,hg,he,rfl⟩:=qS h;exact Fy hf hg he (λρ s a b c r w rf hv hr ha hb hc=>iF (m:=Instr.mapUpdate t (rf m) (rf i) (rf x)) (by unfold execOp;rw[ho]) (jl hr hv ha hb hc))
 case mapEntry t m i=>obtain⟨f,g,hf,hg,rfl⟩:=jD h;exact I9 hf hg (λρ s a b r w rf hv hr ha hb=>dF (m:=Instr.mapEntry t (rf m) (rf i)) (by unfold execOp;rw[ho]) (qE hr hv ha hb))
 case entryStore t m st x=>obtain⟨f,g,e,hf,hg,he,rfl⟩:=qS h;exact Fy hf hg he (λρ s a b c r w rf hv hr ha hb hc=>iF (m:=Instr.entryStore t (rf m) (rf st) (rf x)) (by unfold execOp;rw[ho]) (ov hr hv ha hb hc))
 case range t x=>obtain⟨f,hf,rfl⟩:=ea h;exact I8 hf (λρ s a r w rf hv hr ha=>dF (m:=Instr.range t (rf x)) (by unfold execOp;rw[ho]) (xO hr hv ha))
 case next x b=>
  cases b with
  |false=>cases h
  |true=>obtain⟨f,hf,rfl⟩:=ea h;exact I8 hf (λρ s a r w rf hv hr ha=>dF (m:=Instr.next (rf x) true o.type) (by unfold execOp;rw[ho]) (zK hr hv ha))
 case extract x i=>obtain⟨f,hf,rfl⟩:=ea h;refine na hf (λρ v v' u w rf hv hx x7=>?_);obtain⟨u',h1,h2⟩:=tH (P:=P) w hv hx;exact⟨u',by unfold execOp;rw[ho];simp only[x7];exact aI h1,h2⟩
 case call c=>
  change (match c.callee with
   | .value f=>ob (bA aa al f) λf=>cl aa al c.args.toList λLv=>Rd.c f Lv
   | .builtin b=>ob (iT aa al c.args.toList) λLv=>ly P (vj aa c.args.toList) b c.argTypes Lv
   | .invoke r name=>ob (bA aa al r) λr=>cl aa al c.args.toList λLv=>Rd.c (Co P name r) Lv)=some r at h
  split at h
  ·rename_i g hc;obtain⟨f,hf,h⟩:=U h;obtain⟨Lv,has,rfl⟩:=qT h;refine⟨c,ho,has,λρ lo tm fv rf hv dP=>⟨rf g,dP _ _ _ (by simp[ho,Op.operands,Call.operands,hc]) hf hv,λw=>?_⟩⟩;have:execOp rf o=bD (rf g) (c.args.toList.map rf):=by
    unfold execOp;rw[ho];simp only[resolve,hc,bD];rw[eb]
   rw[this]
  ·rename_i b hc;obtain⟨Lv,has,h⟩:=U h;exact xS ho hc has h
  ·rename_i g name hc;obtain⟨f,hf,h⟩:=U h;obtain⟨Lv,has,rfl⟩:=qT h;refine⟨c,ho,has,λρ lo tm fv rf hv dP=>?_⟩;obtain⟨iv,Dh,hv⟩:=U hv;have hg:=dP _ _ _ (by simp[ho,Op.operands,Call.operands,hc]) hf Dh;exact Bl ho hc hg hv
end
end Go.Eng
end
noncomputable section
namespace Go.Eng
open Go
variable {s s':AS} {a:Act} {al:Al} {lo:Lo} {d aa nt:Nat} {y:Operand} {P:Program} {ρ aj:Ren} {tm tm':T Value} {u v v':Value}
structure bt (aa nt:Nat) (ρ:Ren) (tm:T Value) (a:Act):Prop where
 size:nt<=a.tmps.size
 tk:∀t v,tm.get t=some v->kept aa t=true
 env:gC ρ tm a.tmps
structure Inv (aa nt:Nat) (al:Al) (ρ:Ren) (lo:Lo) (tm:T Value) (a:Act):Prop extends bt aa nt ρ tm a where
 lo:∀t v,(∀p∈al,p.1≠t)->kept aa t=false->Lo.get t lo=some v->∃u,a.tmps[t]? =some u∧ag ρ v u
 al:∀p∈al,kept aa p.1=false∧p.1<nt∧((∃g:Nat,p.2= .const (.complex .f32 g 0))∨(a.tmps[p.1]? =some (a.eval p.2)∧((∃c,p.2= .const c)∨∃x,p.2= .tmp x∧∀q∈al,q.1≠x)))
theorem bt.mono {aa nt:Nat} {ρ aj:Ren} {tm:T Value} {a:Act} (h:bt aa nt ρ tm a) (hle:aG ρ aj):bt aa nt aj tm a:=⟨h.size,h.tk,h.env.mono hle⟩
theorem Inv.mono {aa nt:Nat} {al:Al} {ρ aj:Ren} {lo:Lo} {tm:T Value} {a:Act} (h:Inv aa nt al ρ lo tm a) (hle:aG ρ aj):Inv aa nt al aj lo tm a:=
 {h.tobt.mono hle with lo:= λt v h1 h2 h3=>let⟨u,hu,hr⟩:=h.lo t v h1 h2 h3;⟨u,hu,hr.mono hle⟩,al:=h.al}
theorem sW (t:Nat) (p:Nat×Operand) (al:Al):uZ t (p::al)=ab (Nat.beq p.1 t) (some p.2) (uZ t al):=rfl
theorem sX {t:Nat}:∀ {al:Al},uZ t al=some y->(t,y)∈al:=by
 intro al;induction al with
 |nil=>intro h;cases h
 |cons p al ih=>
  intro h;rw[sW,ah]at h;split at h
  ·rename_i hb;cases h;have:=Nat.eq_of_beq_eq_true hb;subst this;simp
  ·exact List.mem_cons_of_mem _ (ih h)
theorem sY {t:Nat}:∀ {al:Al},uZ t al=none->∀p∈al,p.1≠t:=by
 intro al;induction al with
 |nil=>intro _ p hp;cases hp
 |cons p al ih=>
  intro h q hq;rw[sW,ah]at h;split at h
  ·cases h
  ·rename_i hb;rcases List.mem_cons.1 hq with rfl|hq
   ·intro e;exact hb (by rw[e];exact Nat.beq_refl _)
   ·exact ih h q hq
theorem xl (t t':Nat) (v:Value) (r:Lo):Lo.get t (.cons t' v r)=ab (Nat.beq t t') (some v) (Lo.get t r):=rfl
theorem ct {t:Nat} (h:a.tmps[t]? =some u):a.eval (.tmp t)=u:=by show a.tmps.getD t undef=u;rw[Array.getD_eq_getD_getElem?,h];rfl
theorem lh (h:cT v=some v'):ag ρ v' v:=by
 unfold cT at h;split at h<;>cases h
 ·exact .bool _
 ·exact .int _ _
 ·exact .string _
 ·exact .fz
 ·exact .bc
 ·exact .iL
 ·exact .nilFunc
 ·exact .nilIface
theorem o8 (hI:Inv aa nt al ρ lo tm a) {f:cI} (hm:BN aa y=some f) (hv:f lo tm=some v) (hy:∀x,y= .tmp x->∀q∈al,q.1≠x):ag ρ v (a.eval y):=by
 unfold BN at hm;split at hm
 ·rename_i t;replace hm:=vp (aa:=aa) hm;rw[ah]at hm;split at hm
  ·cases hm;obtain⟨u,hu,hr⟩:=hI.env t v hv;rw[ct hu];exact hr
  ·rename_i hk;cases hm;obtain⟨u,hu,hr⟩:=hI.lo t v (hy t rfl) (by simpa using hk) hv;rw[ct hu];exact hr
 ·split at hm
  ·rename_i hc;cases hm;cases hv;exact lh hc
  ·cases hm;cases hv
 ·cases hm;cases hv;exact .mT _ 0
 ·cases hm;cases hv;exact .func _ .nil .nil
theorem Inv.ops {aa nt:Nat} {al:Al} {ρ:Ren} {lo:Lo} {tm:T Value} {a:Act} (hI:Inv aa nt al ρ lo tm a) {ops:Array Operand}:gh ρ aa al lo tm a.eval ops:=by
 intro x f v _ hm hv;unfold bA ef at hm;split at hm
 ·rename_i t;split at hm
  ·rename_i y hy;obtain⟨h1,h2,h3⟩:=hI.al _ (sX hy);rcases h3 with ⟨g,hg⟩|⟨h3,h4⟩
   ·simp only at hg;subst hg;cases hm;cases hv
   ·simp only at h3 h4;rw[ct h3];refine o8 hI hm hv (λx hx=>?_);rcases h4 with ⟨c,hc⟩|⟨x',fm,h5⟩
    ·rw[hc]at hx;cases hx
    ·rw[fm]at hx;cases hx;exact h5
  ·rename_i hy;exact o8 hI hm hv (λx hx=>by cases hx;exact sY hy)
 ·rename_i hne;exact o8 hI hm hv (λx hx=>(hne x hx).elim)
theorem sZ:∀ {al:Al} {p:Nat×Operand},p∈cO d al->p.1≠d∧((∃y,(p.1,y)∈al∧p.2= .const (.complex .f32 0 0))∨(p∈al∧p.2≠.tmp d)):=by
 intro al;induction al with
 |nil=>intro p h;cases h
 |cons q al ih=>
  intro p h;have h':p∈ab (Nat.beq q.1 d) (cO d al) (ab (m7 d q.2) ((q.1,.const (.complex .f32 0 0))::cO d al) (q::cO d al)):=h;have up:p∈cO d al->p.1≠d∧((∃y,(p.1,y)∈q::al∧p.2= .const (.complex .f32 0 0))∨(p∈q::al∧p.2≠.tmp d)):= λh=>by
   obtain⟨h1,h2⟩:=ih h;refine⟨h1,?_⟩;rcases h2 with ⟨y,h2,h3⟩|⟨h2,h3⟩
   ·exact .inl ⟨y,List.mem_cons_of_mem _ h2,h3⟩
   ·exact .inr ⟨List.mem_cons_of_mem _ h2,h3⟩
  rw[ah]at h';split at h'
  ·exact up h'
  ·rename_i hq;have IC:q.1≠d:= λe=>hq (by rw[e];exact Nat.beq_refl _);rw[ah]at h';split at h'
   ·rcases List.mem_cons.1 h' with rfl|h'
    ·exact⟨IC,.inl ⟨q.2,by simp,rfl⟩⟩
    ·exact up h'
   ·rename_i hs;rcases List.mem_cons.1 h' with rfl|h'
    ·refine⟨IC,.inr ⟨by simp,λe=>hs (by rw[e];exact Nat.beq_refl d)⟩⟩
    ·exact up h'
theorem kV {t:Nat}:∀ {al:Al},(∀p∈cO d al,p.1≠t)->t≠d->∀p∈al,p.1≠t:=by
 intro al;induction al with
 |nil=>intro _ _ p hp;cases hp
 |cons q al ih=>
  intro h hd p hp;have h':∀p∈ab (Nat.beq q.1 d) (cO d al) (ab (m7 d q.2) ((q.1,.const (.complex .f32 0 0))::cO d al) (q::cO d al)),p.1≠t:=h;rw[ah]at h';split at h'
  ·rename_i hq;have hq:=Nat.eq_of_beq_eq_true hq;rcases List.mem_cons.1 hp with rfl|hp
   ·rw[hq];exact hd.symm
   ·exact ih h' hd p hp
  ·rw[ah]at h';split at h'
   ·rcases List.mem_cons.1 hp with rfl|hp
    ·exact h' (p.1,.const (.complex .f32 0 0)) (List.mem_cons_self ..)
    ·exact ih (λp hp=>h' p (List.mem_cons_of_mem _ hp)) hd p hp
   ·rcases List.mem_cons.1 hp with rfl|hp
    ·exact h' _ (List.mem_cons_self ..)
    ·exact ih (λp hp=>h' p (List.mem_cons_of_mem _ hp)) hd p hp
theorem bl {t:Nat} (h:t≠d):(a.put (some d) u).tmps[t]? =a.tmps[t]?:=by simp[Act.put,Ne.symm h]
theorem aT (h:d<a.tmps.size):(a.put (some d) u).tmps[d]? =some u:=by simp[Act.put,h]
theorem cx (h:y≠.tmp d):(a.put (some d) u).eval y=a.eval y:=by
 cases y with
 |tmp t=>have:t≠d:= λe=>h (by rw[e]);simp[Act.eval,Act.put,Ne.symm this]
 |const v=>rfl
 |global g=>rfl
 |func f=>rfl
theorem Inv.F1 (hI:Inv aa nt al ρ lo tm a):
  ∀p∈cO d al,kept aa p.1=false∧p.1<nt∧((∃g:Nat,p.2= .const (.complex .f32 g 0))∨((a.put (some d) u).tmps[p.1]? =some ((a.put (some d) u).eval p.2)∧((∃c,p.2= .const c)∨∃x,p.2= .tmp x∧x≠d∧∀q∈al,q.1≠x))):=by
 intro p hp;obtain⟨h1,h2⟩:=sZ hp;rcases h2 with ⟨y,h2,h3⟩|⟨h2,h3⟩
 ·obtain⟨q1,q2,_⟩:=hI.al _ h2;exact⟨q1,q2,.inl ⟨0,h3⟩⟩
 ·obtain⟨q1,q2,q3⟩:=hI.al _ h2;refine⟨q1,q2,?_⟩;rcases q3 with q3|⟨q3,q4⟩
  ·exact .inl q3
  ·refine .inr ⟨by rw[bl h1,cx h3];exact q3,?_⟩;rcases q4 with q4|⟨x,q4,q5⟩
   ·exact .inl q4
   ·exact .inr ⟨x,q4,λe=>h3 (by rw[q4,e]),q5⟩
theorem nK {x:Nat} (h:∀q∈al,q.1≠x):∀q∈cO d al,q.1≠x:=by
 intro q hq;rcases(sZ hq).2 with ⟨y,h2,_⟩|⟨h2,_⟩
 ·exact h (q.1,y) h2
 ·exact h q h2
def Jc (dst:Option Tmp) (al:Al):Al:=match dst with|some d=>cO d al|none=>al
theorem CA (hI:Inv aa nt al ρ lo tm a) (hle:aG ρ aj) {dst:Option Tmp} {d:DI} (hd:lL aa nt dst=some d) (hv:ag aj v u) {k:K} {x:cm} (h:ei d v k lo tm s= .code x tm' s'):
  ∃br aw,k br aw s= .code x tm' s'∧Inv aa nt (Jc dst al) aj br aw (a.put dst u):=by
 unfold lL at hd;split at hd
 ·cases hd;exact⟨lo,tm,h,hI.mono hle⟩
 ·rename_i t;obtain⟨hlt,hd⟩:=ae hd;have hlt:t<nt:=Nat.le_of_ble_eq_true hlt;have hsz:t<a.tmps.size:=Nat.lt_of_lt_of_le hlt hI.size;have JE:=hI.mono hle;have B4:nt<=(a.put (some t) u).tmps.size:=by simp[Act.put];exact hI.size
  have ra:∀p∈cO t al,kept aa p.1=false∧p.1<nt∧((∃g:Nat,p.2= .const (.complex .f32 g 0))∨((a.put (some t) u).tmps[p.1]? =some ((a.put (some t) u).eval p.2)∧((∃c,p.2= .const c)∨∃x,p.2= .tmp x∧∀q∈cO t al,q.1≠x))):= λp hp=>by
   obtain⟨h1,h2,h3⟩:=JE.F1 (u:=u) p hp;refine⟨h1,h2,?_⟩;rcases h3 with h3|⟨h3,h4⟩
   ·exact .inl h3
   ·refine .inr ⟨h3,?_⟩;rcases h4 with h4|⟨x,h4,_,h5⟩
    ·exact .inl h4
    ·exact .inr ⟨x,h4,nK h5⟩
  rw[ah]at hd;split at hd
  ·rename_i hk;cases hd;have h':Option.rec (motive:= λ_=>Out) .no (λtm'=>k lo tm' s) (T.put (some v) tm t)= .code x tm' s':=h;cases hp:T.put (some v) tm t with
   |none=>rw[hp]at h';cases h'
   |some aw=>
    rw[hp]at h';have hg:=T.aR _ _ _ _ hp;refine⟨lo,aw,h',⟨⟨B4,λt' w hw=>?_,λt' w hw=>?_⟩,λt' w h1 h2 h3=>?_,ra⟩⟩
    ·rw[hg]at hw;by_cases e:t'=t
     ·rw[e];exact hk
     ·rw[if_neg e]at hw;exact hI.tk t' w hw
    ·rw[hg]at hw;by_cases e:t'=t
     ·rw[if_pos e]at hw;cases hw;rw[e];exact⟨u,aT hsz,hv⟩
     ·rw[if_neg e]at hw;obtain⟨u',mO,hr⟩:=JE.env t' w hw;exact⟨u',by rw[bl e];exact mO,hr⟩
    ·have e:t'≠t:= λe=>by rw[e,hk]at h2;cases h2
     obtain⟨u',mO,hr⟩:=JE.lo t' w (kV h1 e) h2 h3;exact⟨u',by rw[bl e];exact mO,hr⟩
  ·rename_i hk;cases hd;have h':k (.cons t v lo) tm s= .code x tm' s':=h;refine⟨.cons t v lo,tm,h',⟨⟨B4,hI.tk,λt' w hw=>?_⟩,λt' w h1 h2 h3=>?_,ra⟩⟩
   ·have e:t'≠t:= λe=>by have:=hI.tk t' w hw;rw[e]at this;exact hk this
    obtain⟨u',mO,hr⟩:=JE.env t' w hw;exact⟨u',by rw[bl e];exact mO,hr⟩
   ·rw[xl,ah]at h3;split at h3
    ·rename_i e;have e:=Nat.eq_of_beq_eq_true e;cases h3;subst e;exact⟨u,aT hsz,hv⟩
    ·rename_i e;have e:t'≠t:= λe'=>e (by rw[e'];exact Nat.beq_refl _);obtain⟨u',mO,hr⟩:=JE.lo t' w (kV h1 e) h2 h3;exact⟨u',by rw[bl e];exact mO,hr⟩
end Go.Eng
end
noncomputable section
namespace Go.Eng
open Go
variable {s s':AS} {a:Act} {N:Act->World->Prop} {al:Al} {tmps:Array Value} {Lv bd:Code} {ev:Ev} {Q:Exit->Act->World->Prop} {F:Fence} {lo:Lo} {d aa nt:Nat} {o:Oper} {y:Operand} {P:Program} {ρ:Ren} {tm tm':T Value} {w:World}
theorem zO (h:m7 d y=false):y≠.tmp d:= λe=>by rw[e]at h;have:Nat.beq d d=false:=h;rw[show Nat.beq d d=true from Nat.beq_refl d]at this;cases this
theorem Inv.alias (hI:Inv aa nt al ρ lo tm a) {x:Operand} (hx:(∃t,x= .tmp t)∨∃c,x= .const c) (hk:kept aa d=false) (hlt:d<nt) (hn:m7 d (ef al x)=false):Inv aa nt ((d,ef al x)::cO d al) ρ lo tm (a.put (some d) (a.eval x)):=by
 have hsz:d<a.tmps.size:=Nat.lt_of_lt_of_le hlt hI.size;have hne:=zO hn;have B4:nt<=(a.put (some d) (a.eval x)).tmps.size:=by simp[Act.put];exact hI.size
 refine⟨⟨B4,hI.tk,λt' w hw=>?_⟩,λt' w h1 h2 h3=>?_,λp hp=>?_⟩
 ·have e:t'≠d:= λe=>by have:=hI.tk t' w hw;rw[e,hk]at this;cases this
  obtain⟨u',mO,hr⟩:=hI.env t' w hw;exact⟨u',by rw[bl e];exact mO,hr⟩
 ·have e:t'≠d:= λe=>h1 (d,ef al x) (List.mem_cons_self ..) e.symm;obtain⟨u',mO,hr⟩:=hI.lo t' w (kV (λp hp=>h1 p (List.mem_cons_of_mem _ hp)) e) h2 h3;exact⟨u',by rw[bl e];exact mO,hr⟩
 ·have keys:∀ {x'},x'≠d->(∀q∈al,q.1≠x')->∀q∈(d,ef al x)::cO d al,q.1≠x':= λ {x'} h1 h2 q hq=>by
   rcases List.mem_cons.1 hq with rfl|hq
   ·exact h1.symm
   ·exact nK h2 q hq
  rcases List.mem_cons.1 hp with rfl|hp
  ·refine⟨hk,hlt,?_⟩;rcases hx with ⟨t,rfl⟩|⟨c,rfl⟩
   ·unfold ef at hne⊢;simp only at hne⊢;cases hg:uZ t al with
    |none=>
     rw[hg]at hne;simp only at hne⊢;have O6:t≠d:= λe=>hne (by rw[e]);refine .inr ⟨by rw[aT hsz,cx hne],.inr ⟨t,rfl,?_⟩⟩;intro q hq;rcases List.mem_cons.1 hq with rfl|hq
     ·exact O6.symm
     ·exact nK (sY hg) q hq
    |some y=>
     rw[hg]at hne;simp only at hne⊢;obtain⟨_,_,h3⟩:=hI.al _ (sX hg);rcases h3 with ⟨g,h3⟩|⟨h3,h4⟩
     ·exact .inl ⟨g,h3⟩
     ·simp only at h3 h4;refine .inr ⟨by rw[aT hsz,cx hne,ct h3],?_⟩;rcases h4 with h4|⟨x',h4,h5⟩
      ·exact .inl h4
      ·refine .inr ⟨x',h4,?_⟩;have Ea:x'≠d:= λe=>hne (by rw[h4,e]);intro q hq;rcases List.mem_cons.1 hq with rfl|hq
       ·exact Ea.symm
       ·exact nK h5 q hq
   ·exact .inr ⟨by rw[aT hsz];rfl,.inl ⟨c,rfl⟩⟩
  ·obtain⟨h1,h2,h3⟩:=hI.F1 (u:=a.eval x) p hp;refine⟨h1,h2,?_⟩;rcases h3 with h3|⟨h3,h4⟩
   ·exact .inl h3
   ·refine .inr ⟨h3,?_⟩;rcases h4 with h4|⟨x',h4,h5,h6⟩
    ·exact .inl h4
    ·exact .inr ⟨x',h4,keys h5 h6⟩
def aU (P:Program) (m:Sem Next) (w:World) (R:Value->World->Prop):Prop:=
 match m.run P w with
 | .ok (.value u) w'=>R u w'
 | .ok (.enter f args) w'=>CallsIn Fence.wide 0 P f args w' λe w''=>∃u,e= .returned u∧R u w''
 | .ok (.round l f tmps assign body) w'=>RoundIn Fence.wide 0 P l f tmps assign body w' λe w''=>∃u,e= .returned u∧R u w''
 |_=>False
def EvOk (P:Program) (ev:Ev):Prop:=∀f args s v s',ev f args s= .val v s'->∀ρ w f' ao,Rel P ρ s w->ag ρ f f'->af ρ args ao->
 aU P (bD f' ao) w λu w'=>∃aj,ag aj v u∧Rel P aj s' w'∧aN ρ s w aj s' w'
def fq (F:Fence):Prop:=F=Fence.wide∨∃l,F=Fence.wide.inRound l
theorem CallsIn.B5 (hF:fq F) {f:FuncId} {args:Array Value} {R:Ending->World->Prop} (h:CallsIn Fence.wide 0 P f args w R):CallsIn F 0 P f args w R:=by
 rcases hF with rfl|⟨l,rfl⟩
 ·exact h
 ·exact h
theorem RoundIn.B5 (hF:fq F) {l:Nat} {f:FuncId} {R:Ending->World->Prop} (h:RoundIn Fence.wide 0 P l f tmps Lv bd w R):RoundIn F 0 P l f tmps Lv bd w R:=by
 rcases hF with rfl|⟨l,rfl⟩
 ·exact h
 ·exact h
theorem fq.fn {F:Fence} (hF:fq F) (f:FuncId):F.fn f:=by rcases hF with rfl|⟨l,rfl⟩<;>trivial
theorem fq.depth {F:Fence} (hF:fq F):F.depth=none:=by rcases hF with rfl|⟨l,rfl⟩<;>rfl
section
def Nb (P:Program) (aa nt:Nat) (al:Al) (ρ:Ren) (s:AS) (w:World) (a:Act) (k:K) (out:Out) (N:Act->World->Prop):Prop:=
 ∀aj br aw s1 a1 w1,k br aw s1=out->Inv aa nt al aj br aw a1->a1.defers=a.defers->Rel P aj s1 w1->aN ρ s w aj s1 w1->N a1 w1
theorem aB (a:Act) (dst:Option Tmp) (v:Value):(a.put dst v).defers=a.defers:=by cases dst<;>rfl
theorem mz (o:Oper) (al:Al):ix o al=Jc o.dst al:=rfl
theorem AW (hF:fq F) (hev:EvOk P ev) {r:Rd} (hr:tV P aa al o.op=some r) {d:DI} {k:K} {x:cm} (h:dw ev (oC r d) k lo tm s= .code x tm' s') (dP:gh ρ aa al lo tm a.eval o.op.operands) (hR:Rel P ρ s w) (fin:∀ {aj:Ren} {v u:Value} {s1:AS} {w1:World},ei d v k lo tm s1= .code x tm' s'->ag aj v u->Rel P aj s1 w1->aN ρ s w aj s1 w1->N (a.put o.dst u) w1):o.wpIn F 0 P a w N Q:=by
 have dL:=qU hr;have JF:∀c,o.op≠.defer c:= λc e=>by rw[e]at hr;cases hr
 refine⟨λf _=>hF.fn f,?_⟩;rw[Oper.semAt_eq _ _ _ JF];cases r with
 |p f=>
  have h':Option.rec (motive:= λ_=>Out) .no (λv=>ei d v k lo tm s) (f lo tm s)= .code x tm' s':=h;cases hv:f lo tm s with
  |none=>rw[hv]at h';cases h'
  |some v=>rw[hv]at h';obtain⟨u,hu,Mf⟩:=dL.2 ρ lo tm s v w a.eval hv dP;rw[hu];exact fin h' Mf hR (.refl _ _ _)
 |r f=>
  have h':Option.rec (motive:= λ_=>Out) .no (λv=>ei d v k lo tm s) (f lo tm s)= .code x tm' s':=h;cases hv:f lo tm s with
  |none=>rw[hv]at h';cases h'
  |some v=>rw[hv]at h';obtain⟨u,hu,Mf⟩:=dL ρ lo tm s v w a.eval hv hR dP;rw[hu];exact fin h' Mf hR (.refl _ _ _)
 |a f=>
  have h':Option.rec (motive:= λ_=>Out) .no (λp=>ei d p.1 k lo tm p.2) (f lo tm s)= .code x tm' s':=h;cases hv:f lo tm s with
  |none=>rw[hv]at h';cases h'
  |some r=>rw[hv]at h';obtain⟨b,hb,hm⟩:=dL lo tm s r hv;obtain⟨m,he,m9⟩:=hm ρ w a.eval (hR.eu _ (Nat.le_refl _)) dP;obtain⟨aj,u,w',h1,h2,h3,h4⟩:=m9.N8 hR hb;rw[he,aI h1];exact fin h' h2 h3 h4
 |w f=>
  have h':Option.rec (motive:= λ_=>Out) .no (λp=>ei d p.1 k lo tm p.2) (f lo tm s)= .code x tm' s':=h;cases hv:f lo tm s with
  |none=>rw[hv]at h';cases h'
  |some r=>
   rw[hv]at h';obtain⟨aj,nx,w',h1,h2,h3,h4⟩:=dL ρ lo tm s r w a.eval hv hR dP;rw[h1];rcases h2 with ⟨u,rfl,hu⟩|⟨rfl,he⟩
   ·exact fin h' hu h3 h4
   ·exact fin h' (by rw[he];exact .tuple .nil) h3 h4
 |c f Lv=>
  obtain⟨c,ho,has,GN⟩:=dL;have h':Option.rec (motive:= λ_=>Out) .no (λl=>Option.rec (motive:= λ_=>Out) .no (λf=>oS d k lo tm (ev f l s)) (f lo tm)) (pK Lv lo tm)= .code x tm' s':=h;cases hl:pK Lv lo tm with
  |none=>rw[hl]at h';cases h'
  |some l=>
   cases hv:f lo tm with
   |none=>rw[hl,hv]at h';cases h'
   |some fv=>
    rw[hl,hv]at h';have h':oS d k lo tm (ev fv l s)= .code x tm' s':=h';cases he:ev fv l s with
    |no=>rw[he]at h';cases h'
    |code=>rw[he]at h';cases h'
    |val v s1=>
     rw[he]at h';have h':ei d v k lo tm s1= .code x tm' s':=h';obtain⟨g,hg,hex⟩:=GN ρ lo tm fv a.eval hv dP;have ep:=hev _ _ _ _ _ he ρ w _ _ hR hg (dP.list (by simp[ho,Op.operands,Call.operands]<;>grind) has hl);rw[hex w];unfold aU at ep;generalize (bD g (c.args.toList.map a.eval)).run P w=res at ep;cases res with
     |halt=>exact ep.elim
     |ok nx w1=>
      cases nx with
      |value u=>obtain⟨aj,h1,h2,h3⟩:=ep;exact fin h' h1 h2 h3
      |enter f args=>refine⟨λhd=>(by rw[hF.depth]at hd;cases hd),CallsIn.mono (CallsIn.B5 hF ep) ?_⟩;rintro e w2 ⟨u,rfl,aj,h1,h2,h3⟩;exact fin h' h1 h2 h3
      |round l f tmps Lv bd=>refine⟨λhd=>(by rw[hF.depth]at hd;cases hd),RoundIn.mono (RoundIn.B5 hF ep) ?_⟩;rintro e w2 ⟨u,rfl,aj,h1,h2,h3⟩;exact fin h' h1 h2 h3
      |_=>exact ep.elim
theorem Jd (hF:fq F) (hev:EvOk P ev) {r:Rd} (hr:tV P aa al o.op=some r) {d:DI} (hd:lL aa nt o.dst=some d) {k:K} {x:cm} (h:dw ev (oC r d) k lo tm s= .code x tm' s') (hI:Inv aa nt al ρ lo tm a) (hR:Rel P ρ s w) (hN:Nb P aa nt (ix o al) ρ s w a k (.code x tm' s') N):o.wpIn F 0 P a w N Q:=
 AW hF hev hr h hI.ops hR λhp hv h1 h2=>by obtain⟨br,aw,hk,Cg⟩:=CA hI (h2.le hR) hd hv hp;exact hN _ br aw _ _ _ hk (by rw[mz];exact Cg) (aB _ _ _) h1 h2
end
end Go.Eng
end
noncomputable section
namespace Go.Eng
open Go
variable {s s':AS} {a:Act} {al:Al} {tmps:Array Value} {ev:Ev} {Q:Exit->Act->World->Prop} {F:Fence} {lo:Lo} {d i j aa nt:Nat} {o:Oper} {P:Program} {ρ:Ren} {tm tm':T Value} {w:World}
section
theorem xT {ops:Array Oper} {b:Bool} (hj:ops[j]? =some o) (hd:o.dst=some d) (ht:tmps.getD d undef= .bool b):yielded ops tmps j=some b:=by
 unfold yielded;rw[hj,Option.bind_some,hd,Option.bind_some];rw[Array.getD_eq_getD_getElem?]at ht;cases hq:tmps[d]? with
 |none=>rw[hq]at ht;cases ht
 |some v=>rw[hq]at ht;simp only[Option.getD_some]at ht;rw[ht]
theorem uK {ops:Array Oper} {c:Array Value} (hj:ops[j]? =some o) (hd:o.dst=some d) (ht:tmps.getD d undef= .tuple c):yielded ops tmps j=none:=by
 unfold yielded;rw[hj,Option.bind_some,hd,Option.bind_some];rw[Array.getD_eq_getD_getElem?]at ht;cases hq:tmps[d]? with
 |none=>rfl
 |some v=>rw[hq]at ht;simp only[Option.getD_some]at ht;rw[ht]
theorem sb {all:Array Oper} (dP:∀d g v,(∃o',all[j]? =some o'∧o'.dst=some d)->bA aa al (.tmp d)=some g->g lo tm=some v->ag ρ v (a.eval (.tmp d))) {want y:Bool} {g:cI} (hg:o.guard=some (j,want)) (hm:iW aa al all.toList j=some g) (hy:ej want (g lo tm)=some y):Region.wanted o (yielded all a.tmps)=y:=by
 unfold iW at hm;split at hm
 ·rename_i o' gz;split at hm
  ·rename_i d hd;have hj:all[j]? =some o':=by simpa using gz
   unfold Region.wanted;rw[hg];simp only;unfold ej at hy;split at hy
   ·rename_i b Di;cases hy;have hv:=dP _ _ _ ⟨o',hj,hd⟩ hm Di;have ht:a.tmps.getD d undef= .bool b:=by
     have:a.eval (.tmp d)=a.tmps.getD d undef:=rfl;rw[<-this];generalize a.eval (.tmp d)=u at hv;cases hv;rfl
    rw[xT hj hd ht];cases b<;>cases want<;>rfl
   ·rename_i c Di;cases hy;have hv:=dP _ _ _ ⟨o',hj,hd⟩ hm Di;have ht:∃c',a.tmps.getD d undef= .tuple c':=by
     have:a.eval (.tmp d)=a.tmps.getD d undef:=rfl;rw[<-this];generalize a.eval (.tmp d)=u at hv;cases hv;exact⟨_,rfl⟩
    obtain⟨c',ht⟩:=ht;rw[uK hj hd ht];cases want<;>rfl
   ·cases hy
  ·cases hm
 ·cases hm
theorem Je (hF:fq F) (hev:EvOk P ev) {all:Array Oper} (hi:all[i]? =some o) {c:CI} (hc:yb P aa nt al all.toList o=some c) {k:K} {x:cm} (h:dw ev c k lo tm s= .code x tm' s') (hI:Inv aa nt al ρ lo tm a) (hR:Rel P ρ s w) {rest:List Nat} (hN:Nb P aa nt (ix o al) ρ s w a k (.code x tm' s') (wpOpsIn F 0 P all Q rest)):wpOpsIn F 0 P all Q (i::rest) a w:=by
 obtain⟨r,hr,hc⟩:=U hc;obtain⟨d,hd,hc⟩:=U hc;simp only[wpOpsIn,hi];unfold de at hc;split at hc
 ·rename_i hg;cases hc;have hw:Region.wanted o (yielded all a.tmps)=true:=by unfold Region.wanted;rw[hg]
  rw[if_pos hw];exact Jd hF hev hr hd h hI hR hN
 ·rename_i j want hg;obtain⟨g,As,hc⟩:=U hc;cases hc;have h':D3 (ej want (g lo tm)) (dw ev (oC r d) k lo tm s) (ei d (.tuple #[]) k lo tm s)= .code x tm' s':=h;cases hy:ej want (g lo tm)with
  |none=>rw[hy]at h';cases h'
  |some y=>
   rw[hy]at h';have hw:=sb (λd g v _ hm hv=>hI.ops (ops:= #[.tmp d]) _ _ _ (by simp) hm hv) hg As hy;cases y with
   |true=>rw[if_pos hw];exact Jd hF hev hr hd h' hI hR hN
   |false=>rw[if_neg (by rw[hw];simp)];refine⟨λf _=>hF.fn f,?_⟩;obtain⟨br,aw,hk,Cg⟩:=CA (u:=undef) hI (aG.refl ρ) hd (.tuple .nil) h';exact hN ρ br aw s _ w hk (by rw[mz];exact Cg) (aB _ _ _) hR (.refl _ _ _)
theorem zP {x:Operand} (h:wG o=some (d,x)):o.guard=none∧o.dst=some d∧o.op= .move x∧((∃t,x= .tmp t)∨∃c,x= .const c):=by
 unfold wG at h;split at h
 ·cases h;exact⟨‹_›,‹_›,‹_›,.inl ⟨_,rfl⟩⟩
 ·cases h;exact⟨‹_›,‹_›,‹_›,.inr ⟨_,rfl⟩⟩
 ·cases h
theorem o9 (hF:fq F) (hev:EvOk P ev) {all:Array Oper} {x:cm}:∀(rest:List Oper) (i:Nat),all.toList.drop i=rest->∀(al:Al) (cs:List CI),dC P aa nt all.toList rest al=some cs->
  ∀(ρ:Ren) (lo:Lo) (tm:T Value) (s:AS) (a:Act) (w:World),js ev cs lS lo tm s= .code x tm' s'->Inv aa nt al ρ lo tm a->Rel P ρ s w->
  (∀aj a' w',x= .normal->bt aa nt aj tm' a'->a'.defers=a.defers->Rel P aj s' w'->aN ρ s w aj s' w'->Q .normal a' w')->wpOpsIn F 0 P all Q (List.range' i rest.length) a w:=by
 intro rest;induction rest with
 |nil=>intro i _ al cs hc ρ lo tm s a w h hI hR hQ;cases hc;cases h;exact hQ ρ a w rfl hI.tobt rfl hR (.refl _ _ _)
 |cons o rest ih=>
  intro i Jf al cs hc ρ lo tm s a w h hI hR hQ;have hi:all[i]? =some o:=by
   have:all.toList[i]? =some o:=by have:=congrArg (·[0]?) Jf;simpa using this
   simpa using this
  have F3:all.toList.drop (i+1)=rest:=by rw[<-List.drop_drop,Jf];rfl
  have step:∀ {c r},yb P aa nt al all.toList o=some c->dC P aa nt all.toList rest (ix o al)=some r->cs=c::r->wpOpsIn F 0 P all Q (List.range' i (o::rest).length) a w:=by intro c r h1 h2 e;subst e;have h':dw ev c (js ev r lS) lo tm s= .code x tm' s':=h;show wpOpsIn F 0 P all Q (i::List.range' (i+1) rest.length) a w;refine Je hF hev hi h1 h' hI hR (λaO br aw s1 a1 w1 hk Cg Ch dn dv=>?_);refine ih (i+1) F3 _ _ h2 aO br aw s1 a1 w1 hk Cg dn (λaj a' w' hx hE hd eN aZ=>hQ aj a' w' hx hE (hd.trans Ch) eN (dv.trans aZ))
  have qZ:(match wG o with
   |some (d,x)=>ab (ab (kept aa d) true (ab (Nat.ble nt d) true (ab (m7 d (ef al x)) true (writes (ef al x) rest)))) (ob (yb P aa nt al all.toList o) λc=>ob (dC P aa nt all.toList rest (ix o al)) λr=>some (c::r)) (dC P aa nt all.toList rest ((d,ef al x)::cO d al))
   |none=>ob (yb P aa nt al all.toList o) λc=>ob (dC P aa nt all.toList rest (ix o al)) λr=>some (c::r))=some cs:=hc
  split at qZ
  ·rename_i d y ID;rw[ah]at qZ;split at qZ
   ·obtain⟨c,h1,qZ⟩:=U qZ;obtain⟨r,h2,qZ⟩:=U qZ;cases qZ;exact step h1 h2 rfl
   ·rename_i pH;rw[ah]at pH;split at pH
    ·exact(pH rfl).elim
    ·rename_i hk;rw[ah]at pH;split at pH
     ·exact(pH rfl).elim
     ·rename_i hlt;have hk:kept aa d=false:=by simpa using hk
      have hlt:d<nt:=Nat.lt_of_not_le λh=>hlt (Nat.ble_eq_true_of_le h);have GU:m7 d (ef al y)=false:=by
       cases ht:m7 d (ef al y)with
       |false=>rfl
       |true=>rw[ht]at pH;exact(pH rfl).elim
      obtain⟨hg,hd,Sx,IE⟩:=zP ID;show wpOpsIn F 0 P all Q (i::List.range' (i+1) rest.length) a w;simp only[wpOpsIn,hi];have hw:Region.wanted o (yielded all a.tmps)=true:=by unfold Region.wanted;rw[hg]
      rw[if_pos hw];refine⟨λf _=>hF.fn f,?_⟩;rw[Oper.semAt_eq _ _ _ (λc e=>by rw[Sx]at e;cases e)];have he:(execOp a.eval o).run P w= .ok (.value (a.eval y)) w:=by unfold execOp;rw[Sx];rfl
      rw[he];show wpOpsIn F 0 P all Q (List.range' (i+1) rest.length) (a.put o.dst (a.eval y)) w;rw[hd];have JE:=hI.alias IE hk hlt GU;exact ih (i+1) F3 _ _ qZ ρ lo tm s _ w h JE hR (λaj a' w' hx hE uk eN aZ=>hQ aj a' w' hx hE (uk.trans (aB _ _ _)) eN aZ)
  ·obtain⟨c,h1,qZ⟩:=U qZ;obtain⟨r,h2,qZ⟩:=U qZ;cases qZ;exact step h1 h2 rfl
end
end Go.Eng
end
noncomputable section
namespace Go.Eng
open Go
variable {s s':AS} {a:Act} {c:Code} {Q:Exit->Act->World->Prop} {F:Fence} {ds:List Deferred} {i id aa n nt:Nat} {P:Program} {ρ aj:Ren} {tm:T Value} {w w':World}
def F4:cm->Exit
 | .normal=> .normal
 | .exit id=> .exit id
 | .goto l=> .goto l
 | .ret=> .ret
structure N0 where
 n:Nat
 base:List Deferred
structure Marks (n0:N0) (ρ:Ren) (s:AS) (w:World) (ds:List Deferred):Prop where
 own:∃ms,ds=ms++n0.base∧(∀d∈ms,∃r,d.target= .collected r∧w.heap[r]? =some (.deferred (some []))∧r<w.heap.size∧¬aQ ρ s r∧n0.n<=r)∧ms.Pairwise λd d'=>∀r,d.target= .collected r->d'.target≠.collected r
theorem Marks.step {n0:N0} (h:Marks n0 ρ s w ds) (hS:aN ρ s w aj s' w'):Marks n0 aj s' w' ds:=by obtain⟨ms,he,Dj,tG⟩:=h.own;refine⟨ms,he,λd hd=>?_,tG⟩;obtain⟨r,h1,h2,h3,h4,h5⟩:=Dj d hd;obtain⟨e,n⟩:=hS.frame r h3 h4;exact⟨r,h1,by rw[e];exact h2,Nat.lt_of_lt_of_le h3 hS.size,n,h5⟩
theorem Marks.re {n0:N0} (h:Marks n0 ρ s w ds) (f:∀d:Deferred,(∃r,d.target= .collected r∧w.heap[r]? =some (.deferred (some []))∧r<w.heap.size∧¬aQ ρ s r∧n0.n<=r)->∃r,d.target= .collected r∧w'.heap[r]? =some (.deferred (some []))∧r<w'.heap.size∧¬aQ aj s' r∧n0.n<=r):Marks n0 aj s' w' ds:=by obtain⟨ms,he,Dj,tG⟩:=h.own;exact⟨ms,he,λd hd=>f d (Dj d hd),tG⟩
theorem Marks.nil {n:Nat} {ρ:Ren} {s:AS} {w:World}:Marks ⟨n,[]⟩ ρ s w []:=⟨[],rfl,λd hd=>(by cases hd),.nil⟩
theorem Marks.at {n0:N0}:Marks n0 ρ s w n0.base:=⟨[],rfl,λd hd=>(by cases hd),.nil⟩
def lu (P:Program) (n0:N0) (aa nt:Nat) (ρ:Ren) (s:AS) (w:World) (x:cm) (tm':T Value) (s':AS) (Q:Exit->Act->World->Prop):Prop:=
 ∀aj a' w',bt aa nt aj tm' a'->Marks n0 aj s' w' a'.defers->Rel P aj s' w'->aN ρ s w aj s' w'->Q (F4 x) a' w'
def du (P:Program) (aa nt:Nat) (c:Code) (cf:CF):Prop:=∀ev,EvOk P ev->∀F,fq F->∀ρ tm s a w x tm' s',cf ev tm s= .code x tm' s'->bt aa nt ρ tm a->∀n0:N0,n0.n<=w.heap.size->Marks n0 ρ s w a.defers->(∀l,F.round=some l->∃r,w.heap[l]? =some (Obj.loop r))->Rel P ρ s w->
 ∀Q,lu P n0 aa nt ρ s w x tm' s' Q->c.wpIn F 0 P Q a w
section
theorem dG (h:∀l,F.round=some l->∃r,w.heap[l]? =some (Obj.loop r)) (hS:aN ρ s w aj s' w'):∀l,F.round=some l->∃r,w'.heap[l]? =some (Obj.loop r):= λl hl=>let⟨r,hr⟩:=h l hl;hS.lp l r hr
theorem bt.inv (h:bt aa nt ρ tm a):Inv aa nt [] ρ .nil tm a:=⟨h,λt v _ _ h=>(by cases h),λp hp=>(by cases hp)⟩
theorem Ie:du P aa nt .skip (tZ .normal):= λev hev F hF ρ tm s a w x tm' s' h hE n0 fh hM hL hR Q hQ=>by cases h;exact wpIn_skip (hQ ρ a w hE hM hR (.refl _ _ _))
theorem Gv (l:Nat):du P aa nt (.label l) (tZ .normal):= λev hev F hF ρ tm s a w x tm' s' h hE n0 fh hM hL hR Q hQ=>by cases h;exact wpIn_label (hQ ρ a w hE hM hR (.refl _ _ _))
theorem Ig (id:Nat):du P aa nt (.exit id) (tZ (.exit id)):= λev hev F hF ρ tm s a w x tm' s' h hE n0 fh hM hL hR Q hQ=>by cases h;exact wpIn_exit (hQ ρ a w hE hM hR (.refl _ _ _))
theorem Ih (l:Nat):du P aa nt (.goto l) (tZ (.goto l)):= λev hev F hF ρ tm s a w x tm' s' h hE n0 fh hM hL hR Q hQ=>by cases h;exact wpIn_goto (hQ ρ a w hE hM hR (.refl _ _ _))
theorem Ld:du P aa nt .ret (tZ .ret):= λev hev F hF ρ tm s a w x tm' s' h hE n0 fh hM hL hR Q hQ=>by cases h;exact wpIn_ret (hQ ρ a w hE hM hR (.refl _ _ _))
theorem F5 {x y:Code} {f g:CF} (hf:du P aa nt x f) (hg:du P aa nt y g):du P aa nt (.seq x y) (Ej f g):= λev hev F hF ρ tm s a w e tm' s' h hE n0 fh hM hL hR Q hQ=>by
 have h:gN (g ev) (f ev tm s)= .code e tm' s':=h;refine wpIn_seq ?_;cases ho:f ev tm s with
 |no=>rw[ho]at h;cases h
 |val=>rw[ho]at h;cases h
 |code e1 aw s1=>
  rw[ho]at h;refine hf ev hev F hF ρ tm s a w e1 aw s1 ho hE n0 fh hM hL hR _ (λaO a1 w1 da g7 dn dv=>?_);cases e1 with
  |normal=>exact hg ev hev F hF aO aw s1 a1 w1 e tm' s' h da n0 (Nat.le_trans fh dv.size) g7 (dG hL dv) dn Q (λdb a2 w2 h1 h2 h3 h4=>hQ db a2 w2 h1 h2 h3 (dv.trans h4))
  |exit id=>cases h;exact hQ aO a1 w1 da g7 dn dv
  |goto l=>cases h;exact hQ aO a1 w1 da g7 dn dv
  |ret=>cases h;exact hQ aO a1 w1 da g7 dn dv
theorem CB {c:Operand} {x y:Code} {co:cI} {f g:CF} (hc:bA aa [] c=some co) (hf:du P aa nt x f) (hg:du P aa nt y g):du P aa nt (.cond c x y) (yx co f g):= λev hev F hF ρ tm s a w e tm' s' h hE n0 fh hM hL hR Q hQ=>by
 have h:Ff (co .nil tm) (f ev tm s) (g ev tm s)= .code e tm' s':=h;rw[Gn]at h;unfold Cq at h;split at h
 ·rename_i b hb;have hv:=hE.inv.ops (ops:= #[c]) _ _ _ (by simp) hc hb;have he:a.eval c= .bool b:=by
   generalize a.eval c=u at hv;cases hv;rfl
  refine wpIn_cond he ?_;rw[ah]at h;cases b with
  |true=>exact hf ev hev F hF ρ tm s a w e tm' s' h hE n0 fh hM hL hR Q hQ
  |false=>exact hg ev hev F hF ρ tm s a w e tm' s' h hE n0 fh hM hL hR Q hQ
 ·cases h
theorem eH {b:Frame} {k:List Item} {cs:List Frame}:_root_.Go.step P (lone (b.atR a (.code (.scope c)::k)) cs w)= .next (lone (b.atR a (.code c:: .inScope c::k)) cs w):=
 step_lone_go (by simp[stepG,stepG.exec,Frame.atR])
theorem uL {b:Frame} {k:List Item} {cs:List Frame}:_root_.Go.step P (lone (b.atR a (.inScope c::k)) cs w)= .next (lone (b.atR a k) cs w):=
 step_lone_go (by simp[stepG,stepG.exec,Frame.atR])
theorem Bn {Q':Exit->Act->World->Prop} (h:c.wpIn F n P Q' a w) (hQ:∀e a w,Q' e a w->(∀l,e≠.goto l)∧Q e a w):(Code.scope c).wpIn F n P Q a w:=by
 intro b k cs hro hb hr;have h0:(lone (b.atR a (.code (.scope c)::k)) cs w).fenced P F:=fenced_calm hb hr rfl;obtain⟨e,C1,C2,hq,yf⟩:=h b (.inScope c::k) cs hro hb hr;obtain⟨hg,hq⟩:=hQ e C1 C2 hq;cases e with
 |normal=>exact⟨.normal,C1,C2,hq,.head h0 eH (StepsIn.trans yf (.one (fenced_calm hb hr rfl) uL))⟩
 |exit PZ=>
  have hx:exitTo PZ (.inScope c::k)=exitTo PZ k:=by simp[exitTo]
  exact⟨.exit PZ,C1,C2,hq,λk' hk=> .head h0 eH (yf.1 k' (by rw[hx];exact hk)),
   λeR hk=>let⟨k₁,h1,h2⟩:=yf.2 eR (by rw[hx];exact hk);⟨k₁,h1,.head h0 eH h2⟩⟩
 |goto l=>exact(hg l rfl).elim
 |ret=>exact⟨_,C1,C2,hq,.of_steps (.one h0 eH) yf⟩
 |panic ch=>exact⟨_,C1,C2,hq,.of_steps (.one h0 eH) yf⟩
 |outgrown=>exact⟨_,C1,C2,hq,.of_steps (.one h0 eH) yf⟩
theorem yY {x:Code} {f:CF} (hf:du P aa nt x f):du P aa nt (.scope x) (rI f):= λev hev F hF ρ tm s a w e tm' s' h hE n0 fh hM hL hR Q hQ=>by
 have h:yO (f ev tm s)= .code e tm' s':=h;cases ho:f ev tm s with
 |no=>rw[ho]at h;cases h
 |val=>rw[ho]at h;cases h
 |code e1 aw s1=>
  rw[ho]at h;refine Bn (Q':= λe a w=>(∀l,e≠.goto l)∧Q e a w) (hf ev hev F hF ρ tm s a w e1 aw s1 ho hE n0 fh hM hL hR _ (λaO a1 w1 da g7 dn dv=>?_)) (λ_ _ _ h=>h);cases e1 with
  |normal=>cases h;exact⟨λl e=>(by cases e),hQ aO a1 w1 da g7 dn dv⟩
  |exit i=>cases h;exact⟨λl e=>(by cases e),hQ aO a1 w1 da g7 dn dv⟩
  |goto l=>cases h
  |ret=>cases h;exact⟨λl e=>(by cases e),hQ aO a1 w1 da g7 dn dv⟩
theorem yZ {x:Code} {f:CF} (hf:du P aa nt x f):du P aa nt (.block id x) (rH id f):= λev hev F hF ρ tm s a w e tm' s' h hE n0 fh hM hL hR Q hQ=>by
 have h:iY id (f ev tm s)= .code e tm' s':=h;refine wpIn_block ?_;cases ho:f ev tm s with
 |no=>rw[ho]at h;cases h
 |val=>rw[ho]at h;cases h
 |code e1 aw s1=>
  rw[ho]at h;refine hf ev hev F hF ρ tm s a w e1 aw s1 ho hE n0 fh hM hL hR _ (λaO a1 w1 da g7 dn dv=>?_);cases e1 with
  |normal=>cases h;exact hQ aO a1 w1 da g7 dn dv
  |exit i=>
   have h:ab (Nat.beq i id) (.code .normal aw s1) (.code (.exit i) aw s1)=Out.code e tm' s':=h;rw[ah]at h;show(if i=id then Q .normal a1 w1 else Q (.exit i) a1 w1);split at h
   ·rename_i hi;cases h;rw[if_pos (Nat.eq_of_beq_eq_true hi)];exact hQ aO a1 w1 da g7 dn dv
   ·rename_i hi;cases h;rw[if_neg (λe=>hi (by rw[e];exact Nat.beq_refl _))];exact hQ aO a1 w1 da g7 dn dv
  |goto l=>cases h;exact hQ aO a1 w1 da g7 dn dv
  |ret=>cases h;exact hQ aO a1 w1 da g7 dn dv
theorem tO {ops:Array Oper} {l:List CI} (hl:dC P aa nt ops.toList ops.toList []=some l):du P aa nt (.region id ops false) (xf l):= λev hev F hF ρ tm s a w e tm' s' h hE n0 fh hM hL hR Q hQ=>by
 refine wpIn_region ?_;have:=o9 (Q:=Q) hF hev (all:=ops) (x:=e) (tm':=tm') (s':=s') ops.toList 0 (by simp) [] l hl ρ .nil tm s a w h hE.inv hR (λaj a' w' hx iR hd eN aZ=>by subst hx;exact hQ aj a' w' iR (by rw[hd];exact hM.step aZ) eN aZ)
 rw[List.range_eq_range'];simpa using this
theorem exists_least {p:Nat->Prop} (h:∃j,p j):∃j,p j∧∀i,p i->j<=i:=by
 obtain⟨n,hn⟩:=h;induction n using Nat.strongRecOn with
 |_ n ih=>
  by_cases h:∃i,i<n∧p i
  ·obtain⟨i,hi,hp⟩:=h;exact ih i hi hp
  ·exact⟨n,hn,λi hp=>Nat.le_of_not_lt λhi=>h ⟨i,hi,hp⟩⟩
open Classical in
noncomputable def least (p:Nat->Prop):Nat:=if h:∃j,p j then Classical.choose (exists_least h)else 0
theorem Bp {p:Nat->Prop} (h:∃j,p j):p (least p):=by unfold least;rw[dif_pos h];exact(Classical.choose_spec (exists_least h)).1
theorem least_le {p:Nat->Prop} (hi:p i):least p<=i:=by
 have h:∃j,p j:=⟨i,hi⟩
 unfold least;rw[dif_pos h];exact(Classical.choose_spec (exists_least h)).2 i hi
theorem Ii {f:CF} (hf:du P aa nt c f):du P aa nt (.loop c) (Fh f):= λev hev F hF ρ tm s a w e tm' s' h hE n0 fh hM hL hR Q hQ=>by
 let Ij:Act->World->Nat->Prop:= λa1 w1 j=>∃aO aw s1,Fg (f ev) j aw s1= .code e tm' s'∧bt aa nt aO aw a1∧Marks n0 aO s1 w1 a1.defers∧Rel P aO s1 w1∧aN ρ s w aO s1 w1
 refine wpIn_loop (λa1 w1=>∃j,Ij a1 w1 j) (λa1 w1=>least (Ij a1 w1)) ⟨1000000,ρ,tm,s,h,hE,hM,hR,.refl _ _ _⟩ (λa1 w1 hI=>?_);have iP:=Bp hI;generalize hj:least (Ij a1 w1)=j at iP;obtain⟨aO,aw,s1,hl,da,g7,dn,dv⟩:=iP;cases j with
 |zero=>cases hl
 |succ j=>
  have hl:gN (Fg (f ev) j) (f ev aw s1)= .code e tm' s':=hl;cases ho:f ev aw s1 with
  |no=>rw[ho]at hl;cases hl
  |val=>rw[ho]at hl;cases hl
  |code e2 oO s2=>
   rw[ho]at hl;refine hf ev hev F hF aO aw s1 a1 w1 e2 oO s2 ho da n0 (Nat.le_trans fh dv.size) g7 (dG hL dv) dn _ (λdb a2 w2 mR wu dO fC=>?_);cases e2 with
   |normal=>
    have Sy:Ij a2 w2 j:=⟨db,oO,s2,hl,mR,wu,dO,dv.trans fC⟩
    refine⟨⟨j,Sy⟩,?_⟩;show least (Ij a2 w2)<j+1;exact Nat.lt_succ_of_le (least_le Sy)
   |exit id=>cases hl;exact hQ db a2 w2 mR wu dO (dv.trans fC)
   |goto l=>cases hl;exact hQ db a2 w2 mR wu dO (dv.trans fC)
   |ret=>cases hl;exact hQ db a2 w2 mR wu dO (dv.trans fC)
end
end Go.Eng
end
noncomputable section
namespace Go.Eng
open Go
variable {I:aE->Prop} {i aa:Nat} {o:Oper} {P:Program}
theorem kF (m i:Nat):av m i=m.testBit i:=by
 unfold av Nat.testBit;show Nat.beq (m>>>i&&&1) 1=(1&&&(m>>>i) !=0)
 rw[Nat.and_comm (m>>>i) 1,Nat.one_and_eq_mod_two];have:m>>>i%2<2:=Nat.mod_lt _ (by omega);generalize m>>>i%2=r at*
 match r,this with
 |0,_=>rfl
 |1,_=>rfl
theorem Ik (j:Nat):Nat.shiftLeft 1 j=2^j:=by show 1<<<j=2^j;rw[Nat.shiftLeft_eq,Nat.one_mul]
theorem jJ (ms:List Nat) (j:Nat):∀es:List Edge,av (iI ms es) j=true↔ ∃e∈es,Region.binds .any e=true∧(e.on=j∨av (ms.getD e.on 0) j=true)
 | []=>by show av 0 j=true↔_;rw[kF];simp
 |e::es=>by
  have ih:=jJ ms j es;show av (ab (Region.binds .any e) (Nat.lor (Nat.lor (Nat.shiftLeft 1 e.on) (ms.getD e.on 0)) (iI ms es)) (iI ms es)) j=true↔_;cases hb:Region.binds .any e with
  |false=>rw[bX,ih];simp[hb]
  |true=>
   rw[bG,Ik];show av ((2^e.on|||ms.getD e.on 0)|||iI ms es) j=true↔_;rw[kF,Nat.testBit_or,Nat.testBit_or,Nat.testBit_two_pow,<-kF,<-kF];simp only[Bool.or_eq_true,ih,decide_eq_true_eq,List.mem_cons];constructor
   ·rintro((h|h)|⟨e',h1,h2,h3⟩)
    ·exact⟨e,.inl rfl,hb,.inl h⟩
    ·exact⟨e,.inl rfl,hb,.inr h⟩
    ·exact⟨e',.inr h1,h2,h3⟩
   ·rintro⟨e',rfl|h1,h2,h3⟩
    ·exact .inl h3
    ·exact .inr ⟨e',h1,h2,h3⟩
theorem s6:∀(l:List Oper) (Au ms:List Nat),rv l Au=some ms->∃r,ms=Au++r∧r.length=l.length∧∀i o,l[i]? =some o->ms[Au.length+i]? =some (iI (ms.take (Au.length+i)) o.after.toList)
 | [],Au,ms,h=>by have h:some Au=some ms:=h;cases h;exact⟨[],by simp,rfl,λi o h=>by simp at h⟩
 |o::l,Au,ms,h=>by
  have h:aq (iI Au o.after.toList) (λm=>ob (tT Au [m]) (rv l))=some ms:=h;rw[ak,qN]at h;have h:rv l (Au++ [iI Au o.after.toList])=some ms:=h;obtain⟨r,h1,h2,h3⟩:=s6 l _ _ h;refine⟨iI Au o.after.toList::r,by simp[h1],by simp[h2],λi o' hi=>?_⟩;cases i with
  |zero=>cases hi;rw[h1];simp
  |succ i=>have:=h3 i o' (by simpa using hi);simp only[List.length_append,List.length_cons,List.length_nil,Nat.zero_add]at this;rw[show Au.length+(i+1)=Au.length+1+i by omega];exact this
theorem vE {aa:Nat}:∀(l:List Oper) (i:Nat) (ms:List Nat) (r:List aE),CS P aa l i ms=some r->∃k,r.length=l.length∧l.length+k=ms.length∧
  ∀j x,r[j]? =some x->x.i=i+j∧l[j]? =some x.o∧ms[j]? =some x.m∧x.m<2^(i+j)∧tV P aa [] x.o.op=some x.r
 | [],i,ms,r,h=>by have h:some []=some r:=h;cases h;exact⟨ms.length,rfl,by simp,λj x h=>by simp at h⟩
 |o::l,i,[],r,h=>by cases h
 |o::l,i,m::ms,r,h=>by
  have h:ab (Nat.blt m (Nat.pow 2 i)) (ob (tV P aa [] o.op) λr=>aq i λi=>ob (CS P aa l (Nat.succ i) ms) λl=>some (⟨i,m,o,r⟩::l)) none=some r:=h;obtain⟨hm,h⟩:=ae h;obtain⟨rd,dL,h⟩:=U h;rw[ak]at h;obtain⟨r',eR,h⟩:=U h;cases h;obtain⟨k,h1,h2,h3⟩:=vE l (i+1) ms r' eR;have hm:m<2^i:=by have:=Nat.le_of_ble_eq_true hm;exact this
  refine⟨k,by simp[h1],by simp;omega,λj x hj=>?_⟩;cases j with
  |zero=>cases hj;exact⟨rfl,rfl,rfl,hm,dL⟩
  |succ j=>obtain⟨a1,a2,a3,a4,a5⟩:=h3 j x (by simpa using hj);exact⟨by omega,by simpa using a2,by simpa using a3,by rw[show i+(j+1)=i+1+j by omega];exact a4,a5⟩
structure dQ (P:Program) (aa:Nat) (all:Array Oper) (l:List aE) (I:aE->Prop):Prop where
 at_:∀(i:Nat) (x:aE),l[i]? =some x->x.i=i
 len:l.length=all.size
 op:∀x∈l,all[x.i]? =some x.o
 rd:∀x∈l,¬I x->tV P aa [] x.o.op=some x.r
 ins:∀x∈l,I x->∃f,x.r= .p f
 below:∀x∈l,∀j,av x.m j=true->j<x.i
 trans:∀x∈l,∀y∈l,av x.m y.i=true->∀j,av y.m j=true->av x.m j=true
 dir:∀x∈l,∀e∈x.o.after.toList,Region.binds .any e=true->av x.m e.on=true
 back:∀x∈l,∀j,av x.m j=true->∃e∈x.o.after.toList,Region.binds .any e=true∧(e.on=j∨∃y∈l,y.i=e.on∧av y.m j=true)
theorem dQ.mem {all:Array Oper} {l:List aE} (h:dQ P aa all l I) {x:aE} (hx:x∈l):l[x.i]? =some x:=by obtain⟨i,hi,rfl⟩:=List.getElem_of_mem hx;have:=h.at_ i l[i] (by simp[hi]);rw[this];simp[hi]
theorem dQ.inj {aa:Nat} {I:aE->Prop} {all:Array Oper} {l:List aE} (h:dQ P aa all l I) {x y:aE} (hx:x∈l) (hy:y∈l) (e:x.i=y.i):x=y:=by have h1:=h.mem hx;have h2:=h.mem hy;rw[e,h2]at h1;exact(Option.some.inj h1).symm
theorem dQ.Q4 {all:Array Oper} {l:List aE} (h:dQ P aa all l I) (ho:all[i]? =some o):∃x∈l,x.i=i∧x.o=o:=by
 have hi:i<l.length:=by rw[h.len];exact(Array.getElem?_eq_some_iff.1 ho).1
 have hx:=h.at_ i l[i] (by simp[hi]);have:=h.op l[i] (by simp);rw[hx,ho]at this;exact⟨l[i],by simp,hx,(Option.some.inj this).symm⟩
theorem CC {all:Array Oper} {ms:List Nat} {l:List aE} (GV:rv all.toList []=some ms) (hl:CS P aa all.toList 0 ms=some l):dQ P aa all l (λ_=>False):=by
 obtain⟨r,h1,h2,h3⟩:=s6 _ _ _ GV;obtain⟨k,d1,d2,d3⟩:=vE _ _ _ _ hl;simp only[List.length_nil,Nat.zero_add]at h3 d3;have key:∀x∈l,l[x.i]? =some x:= λx hx=>by obtain⟨i,hi,rfl⟩:=List.getElem_of_mem hx;have:=(d3 i l[i] (by simp[hi])).1;rw[this];simp[hi]
 have mk:∀x∈l,x.m=iI (ms.take x.i) x.o.after.toList:= λx hx=>by obtain⟨_,a2,a3,_,_⟩:=d3 x.i x (key x hx);have:=h3 x.i x.o a2;rw[a3]at this;exact Option.some.inj this
 have below:∀x∈l,∀j,av x.m j=true->j<x.i:= λx hx j hj=>by obtain⟨_,_,_,a4,_⟩:=d3 x.i x (key x hx);rw[kF]at hj;have:=Nat.ge_two_pow_of_testBit hj;exact(Nat.pow_lt_pow_iff_right (by omega)).1 (Nat.lt_of_le_of_lt this a4)
 have dir:∀x∈l,∀e∈x.o.after.toList,Region.binds .any e=true->av x.m e.on=true:= λx hx e he hb=>by rw[mk x hx,jJ];exact⟨e,he,hb,.inl rfl⟩
 have sub:∀x∈l,∀i,i<x.i->∃y∈l,y.i=i∧(ms.take x.i).getD i 0=y.m:= λx hx i hi=>by
  have P0:x.i<l.length:=(List.getElem?_eq_some_iff.1 (key x hx)).1;have mP:i<l.length:=by omega
  obtain⟨b1,_,b3,_,_⟩:=d3 i l[i] (by simp[mP]);refine⟨l[i],by simp,b1,?_⟩;rw[List.getD_eq_getElem?_getD,List.getElem?_take,if_pos hi,b3];rfl
 have back:∀x∈l,∀j,av x.m j=true->∃e∈x.o.after.toList,Region.binds .any e=true∧(e.on=j∨∃y∈l,y.i=e.on∧av y.m j=true):= λx hx j hj=>by have Ma:=hj;rw[mk x hx,jJ]at hj;obtain⟨e,he,hb,h⟩:=hj;refine⟨e,he,hb,h.imp id λh=>?_⟩;obtain⟨y,hy,LI,GW⟩:=sub x hx e.on (below x hx _ (dir x hx e he hb));rw[GW]at h;exact⟨y,hy,LI,h⟩
 have Q5:∀x∈l,∀y∈l,x.i=y.i->x=y:= λx hx y hy e=>by have h1:=key x hx;have h2:=key y hy;rw[e,h2]at h1;exact(Option.some.inj h1).symm
 have fwd:∀x∈l,∀e∈x.o.after.toList,Region.binds .any e=true->∀y∈l,y.i=e.on->∀j,av y.m j=true->av x.m j=true:= λx hx e he hb y hy LI j hj=>by obtain⟨z,hz,O7,P1⟩:=sub x hx e.on (below x hx _ (dir x hx e he hb));have:z=y:=Q5 z hz y hy (O7.trans LI.symm);subst this;rw[mk x hx,jJ];exact⟨e,he,hb,.inr (by rw[P1];exact hj)⟩
 refine⟨λi x h=>((d3 i x h).1),by rw[d1];simp,λx hx=>?_,λx hx _=>((d3 x.i x (key x hx)).2.2.2.2),λ_ _ h=>h.elim,below,?_,dir,back⟩
 ·have:=(d3 x.i x (key x hx)).2.1;simpa using this
 ·intro x hx;generalize hn:x.i=n;induction n using Nat.strongRecOn generalizing x with
  |_ n ih=>
   intro y hy IE j hj;obtain⟨e,he,hb,h|⟨z,hz,O7,TL⟩⟩:=back x hx _ IE
   ·exact fwd x hx e he hb y hy h.symm j hj
   ·have hlt:z.i<n:=by rw[O7,<-hn];exact below x hx _ (dir x hx e he hb)
    exact fwd x hx e he hb z hz O7 j (ih z.i hlt z hz rfl y hy TL j hj)
end Go.Eng
end
noncomputable section
namespace Go.Eng
open Go
variable {I:aE->Prop} {d aa:Nat} {P:Program}
variable {all:Array Oper} {l:List aE}
theorem xm:∀l:List aE,aF l=l.filter λx=>lI x.r
 | []=>rfl
 |x::l=>by show ab (lI x.r) (x::aF l) (aF l)=_;rw[xm l,List.filter_cons];cases lI x.r<;>rfl
theorem Bq (m:Nat) (x:aE) (ws:List aE):level m (x::ws)=if av m x.i=true then level m ws+1 else level m ws:=by show ab (av m x.i) (Nat.succ (level m ws)) (level m ws)=_;cases av m x.i<;>rfl
theorem xU (i:Nat) (x:aE) (ws:List aE):dq i (x::ws)=if av x.m i=true then dq i ws else dq i ws+1:=by show ab (av x.m i) (dq i ws) (Nat.succ (dq i ws))=_;cases av x.m i<;>rfl
def cnt (p:Nat->Bool) (ws:List aE):Nat:=(ws.filter λx=>p x.i).length
theorem fT (p:Nat->Bool) (x:aE) (ws:List aE):cnt p (x::ws)=if p x.i=true then cnt p ws+1 else cnt p ws:=by unfold cnt;rw[List.filter_cons];split<;>simp_all
theorem fD (m:Nat):∀ws:List aE,level m ws=cnt (av m) ws
 | []=>rfl
 |x::ws=>by rw[Bq,fT,fD m ws]
theorem wO {p q:Nat->Bool}:∀ {ws:List aE},(∀x∈ws,p x.i=true->q x.i=true)->cnt p ws<=cnt q ws
 | [],_=>Nat.le_refl _
 |x::ws,h=>by
  rw[fT,fT];have ih:=wO (p:=p) (q:=q) (ws:=ws) λy hy=>h y (by simp[hy]);split
  ·rw[if_pos (h x (by simp) ‹_›)];omega
  ·split<;>omega
theorem F6 {p q:Nat->Bool}:∀ {ws:List aE},(∀x∈ws,p x.i=true->q x.i=true)->∀y∈ws,p y.i=false->q y.i=true->cnt p ws<cnt q ws
 | [],_,y,hy,_,_=>by simp at hy
 |x::ws,h,y,hy,h1,h2=>by
  rw[fT,fT];have ih:=wO (p:=p) (q:=q) (ws:=ws) λy hy=>h y (by simp[hy]);rcases List.mem_cons.1 hy with rfl|hy
  ·rw[h1,h2];simp;omega
  ·have:=F6 (p:=p) (q:=q) (ws:=ws) (λy hy=>h y (by simp[hy])) y hy h1 h2;split
   ·rw[if_pos (h x (by simp) ‹_›)];omega
   ·split<;>omega
theorem y3 {p:Nat->Bool} {i:Nat}:∀ {ws:List aE},(∀x∈ws,p x.i=true->av x.m i=false)->cnt p ws<=dq i ws
 | [],_=>Nat.le_refl _
 |x::ws,h=>by
  rw[fT,xU];have ih:=y3 (p:=p) (i:=i) (ws:=ws) λy hy=>h y (by simp[hy]);split
  ·rw[if_neg (by rw[h x (by simp) ‹_›];simp)];omega
  ·split<;>omega
theorem xn {p:Nat->Bool}:∀ {ws:List aE},(∀x∈ws,p x.i=true)->cnt p ws=ws.length
 | [],_=>rfl
 |x::ws,h=>by rw[fT,if_pos (h x (by simp)),xn λy hy=>h y (by simp[hy])];rfl
theorem sd {p:Nat->Bool}:∀ {ws:List aE},(∀x∈ws,p x.i=false)->cnt p ws=0
 | [],_=>rfl
 |x::ws,h=>by rw[fT,if_neg (by rw[h x (by simp)];simp),sd λy hy=>h y (by simp[hy])]
theorem s7 (p:Nat->Bool) (a b:List aE):cnt p (a++b)=cnt p a+cnt p b:=by unfold cnt;rw[List.filter_append,List.length_append]
structure wv (all:Array Oper) (l:List aE):Prop where
 chain:∀x∈aF l,∀y∈aF l,x.i<y.i->av y.m x.i=true
 sorted:(aF l).Pairwise λx y=>x.i<y.i
 Q6:∀x∈l,∀y∈l,∀d,y.o.dst=some d->x.o.dst=some d->x=y
 Q7:∀x∈l,∀y∈l,∀d,y.o.dst=some d->d∈eU all.toList x.o->BP x y=true
theorem fE {α:Type} {f:α->Bool}:∀ {l:List α},tX f l=true->∀x∈l,f x=true
 | [],_,x,hx=>by simp at hx
 |a::l,h,x,hx=>by
  have h:ab (f a) (tX f l) false=true:=h;cases hf:f a with
  |false=>rw[hf]at h;cases h
  |true=>
   rw[hf]at h;rcases List.mem_cons.1 hx with rfl|hx
   ·exact hf
   ·exact fE h x hx
theorem kx {x:aE}:x∈aF l↔x∈l∧lI x.r=true:=by rw[xm,List.mem_filter]
theorem vF (hD:dQ P aa all l I):∀(ws:List aE) (p:Option Nat),(∀x∈ws,x∈l)->jx ws p=true->(∀q∈p,∃y∈l,y.i=q)->ws.Pairwise (λx y=>x.i<y.i)->
  (∀q∈p,∀y∈ws,av y.m q=true)∧ws.Pairwise λx y=>av y.m x.i=true
 | [],p,_,_,_,_=>⟨λq _ y hy=>by simp at hy,.nil⟩
 |x::ws,p,hin,h,hp,hs=>by
  have hx:=hin x (by simp);rw[List.pairwise_cons]at hs;have h1:jx ws (some x.i)=true∧∀q∈p,av x.m q=true:=by
   cases p with
   |none=>exact⟨h,λq hq=>by cases hq⟩
   |some q=>
    have h:ab (av x.m q) (jx ws (some x.i)) false=true:=h;cases hb:av x.m q with
    |false=>rw[hb]at h;cases h
    |true=>rw[hb]at h;exact⟨h,λq' Ab=>by cases Ab;exact hb⟩
  obtain⟨i1,i2⟩:=vF hD ws (some x.i) (λy hy=>hin y (by simp[hy])) h1.1 (λq hq=>by cases hq;exact⟨x,hx,rfl⟩) hs.2;refine⟨λq hq y hy=>?_,List.pairwise_cons.2 ⟨λy hy=>i1 x.i rfl y hy,i2⟩⟩;rcases List.mem_cons.1 hy with rfl|hy
  ·exact h1.2 q hq
  ·exact hD.trans y (hin y (by simp[hy])) x hx (i1 x.i rfl y hy) q (h1.2 q hq)
theorem vG (hD:dQ P aa all l I):l.Pairwise λx y=>x.i<y.i:=by rw[List.pairwise_iff_getElem];intro i j hi hj TM;rw[hD.at_ i _ (by simp[hi]),hD.at_ j _ (by simp[hj])];exact TM
theorem jK {α:Type}:∀(d i:Nat),T.get (emptyT (α:=α) d) i=none
 |0,i=>T.get_e i
 |d+1,i=>by
  have e:emptyT (α:=α) (d+1)= .n none (emptyT d) (emptyT d):=rfl;rw[e];rcases bb i with rfl|⟨m,rfl⟩|⟨m,rfl⟩
  ·rw[T.dM]
  ·rw[T.bO];exact jK d m
  ·rw[T.bh];exact jK d m
theorem pb:∀ {l:List aE} {t:T aE},Ei l=some t->(∀d y,T.get t d=some y->y∈l∧y.o.dst=some d)∧(∀y∈l,∀d,y.o.dst=some d->T.get t d=some y)
 | [],t,h=>by have h:some (emptyT 12)=some t:=h;cases h;exact⟨λd y h=>(by rw[jK]at h;cases h),λy hy=>(by cases hy)⟩
 |x::l,t,h=>by
  have h:(match x.o.dst with
   |none=>Ei l
   |some d=>ob (Ei l) λt=>Option.rec (motive:= λ_=>Option (T aE)) (T.put (some x) t d) (λ_=>none) (T.get t d))=some t:=h
  split at h
  ·rename_i hd;obtain⟨i1,i2⟩:=pb h;refine⟨λd y hy=>⟨List.mem_cons_of_mem _ (i1 d y hy).1,(i1 d y hy).2⟩,λy hy d g8=>?_⟩;rcases List.mem_cons.1 hy with rfl|hy
   ·rw[hd]at g8;cases g8
   ·exact i2 y hy d g8
  ·rename_i d hd;obtain⟨t0,h0,h⟩:=U h;obtain⟨i1,i2⟩:=pb h0;cases hg:T.get t0 d with
   |some y=>rw[hg]at h;cases h
   |none=>
    rw[hg]at h;have h:T.put (some x) t0 d=some t:=h;have bC:=T.aR _ _ _ _ h;refine⟨λe y hy=>?_,λy hy e Mg=>?_⟩
    ·rw[bC]at hy;by_cases he:e=d
     ·rw[if_pos he]at hy;cases hy;exact⟨List.mem_cons_self ..,by rw[he];exact hd⟩
     ·rw[if_neg he]at hy;exact⟨List.mem_cons_of_mem _ (i1 e y hy).1,(i1 e y hy).2⟩
    ·rw[bC];rcases List.mem_cons.1 hy with rfl|hy
     ·rw[hd]at Mg;cases Mg;rw[if_pos rfl]
     ·have:=i2 y hy e Mg;by_cases he:e=d
      ·rw[he,hg]at this;cases this
      ·rw[if_neg he];exact this
theorem s8 {l:List aE} (h:lq all.toList l=true):(∀x∈l,∀y∈l,∀d,y.o.dst=some d->x.o.dst=some d->x=y)∧(∀x∈l,∀y∈l,∀d,y.o.dst=some d->d∈eU all.toList x.o->BP x y=true):=by
 unfold lq at h;cases ht:Ei l with
 |none=>rw[ht]at h;cases h
 |some t=>
  rw[ht]at h;obtain⟨i1,i2⟩:=pb ht;refine⟨λx hx y hy d h1 h2=>?_,λx hx y hy d h1 h2=>?_⟩
  ·have e1:=i2 x hx d h2;have e2:=i2 y hy d h1;rw[e1]at e2;cases e2;rfl
  ·have:=fE (fE h x hx) d h2;rw[i2 y hy d h1]at this;exact this
theorem F7 (hD:dQ P aa all l I) (h1:jx (aF l) none=true) (h2:lq all.toList l=true):wv all l:=by
 have hs:(aF l).Pairwise λx y=>x.i<y.i:=by rw[xm];exact(vG hD).filter _
 obtain⟨_,hc⟩:=vF hD (aF l) none (λx hx=>(kx.1 hx).1) h1 (λq hq=>by cases hq) hs;refine⟨λx hx y hy IE=>?_,hs,(s8 h2).1,(s8 h2).2⟩;obtain⟨i,hi,rfl⟩:=List.getElem_of_mem hx;obtain⟨j,hj,rfl⟩:=List.getElem_of_mem hy;rcases Nat.lt_trichotomy i j with h|h|h
 ·exact List.pairwise_iff_getElem.1 hc i j hi hj h
 ·subst h;omega
 ·have:=List.pairwise_iff_getElem.1 hs j i hj hi h;omega
theorem wv.dst (hW:wv all l) {x y:aE} (hx:x∈l) (hy:y∈l) (hne:x.i≠y.i) {d:Nat} (h:y.o.dst=some d):x.o.dst≠some d:= λe=>hne (by rw[hW.Q6 x hx y hy d h e])
theorem wv.use (hW:wv all l) {x y:aE} (hx:x∈l) (hy:y∈l) (h:y.o.dst=some d) (hu:d∈eU all.toList x.o):x.i≠y.i∧(y.i<x.i->av x.m y.i=true)∧(x.i<y.i->av y.m x.i=true):=by
 have hp:=hW.Q7 x hx y hy d h hu;unfold BP at hp;by_cases hi:x.i=y.i
 ·rw[ah,if_pos (by rw[hi];exact Nat.beq_refl _)]at hp;cases hp
 ·rw[ah,if_neg (λe=>hi (Nat.eq_of_beq_eq_true e))]at hp;rw[ah]at hp;split at hp
  ·rename_i hlt;have hlt:y.i<x.i:=Nat.le_of_ble_eq_true hlt;exact⟨hi,λ_=>hp,λh=>by omega⟩
  ·rename_i hlt;have hlt:¬y.i<x.i:= λh=>hlt (Nat.ble_eq_true_of_le h);exact⟨hi,λh=>(hlt h).elim,λ_=>hp⟩
end Go.Eng
end
noncomputable section
namespace Go.Eng
open Go
variable {S1 s s' s0:AS} {a:Act} {I X:aE->Prop} {dB:List ig} {lo br:Lo} {j aa n nt:Nat} {o:Oper} {P:Program} {ρ aj cD:Ren} {tm tm' aw:T Value} {u v:Value} {w:World}
def au (aa:Nat) (lo:Lo) (tm:T Value) (t:Nat):Option Value:=ab (kept aa t) (tm.get t) (Lo.get t lo)
theorem gS {t:Nat} {f:cI} (h:bA aa [] (.tmp t)=some f) (lo:Lo) (tm:T Value):f lo tm=au aa lo tm t:=by
 have h:=vp (aa:=aa) h;unfold au;rw[ah]at h⊢;split at h<;>cases h
 ·rw[if_pos ‹_›];rfl
 ·rw[if_neg ‹_›];rfl
theorem y4 {dst:Option Tmp} {d:DI} (hd:lL aa nt dst=some d) {k:K} {x:cm} (Dk:∀t v,tm.get t=some v->kept aa t=true) (h:ei d v k lo tm s= .code x tm' s'):
  ∃br aw,k br aw s= .code x tm' s'∧(∀t,au aa br aw t=if dst=some t then some v else au aa lo tm t)∧(∀t v,aw.get t=some v->kept aa t=true)∧∀d',dst=some d'->d'<nt:=by
 cases dst with
 |none=>cases hd;exact⟨lo,tm,h,λt=>by simp,Dk,λ_ e=>by cases e⟩
 |some t0=>
  obtain⟨hlt,hd⟩:=ae hd;have hlt:t0<nt:=Nat.le_of_ble_eq_true hlt;rw[ah]at hd;split at hd
  ·rename_i hk;cases hd;have h':Option.rec (motive:= λ_=>Out) .no (λtm'=>k lo tm' s) (T.put (some v) tm t0)= .code x tm' s':=h;cases hp:T.put (some v) tm t0 with
   |none=>rw[hp]at h';cases h'
   |some aw=>
    rw[hp]at h';have hg:=T.aR _ _ _ _ hp;refine⟨lo,aw,h',λt=>?_,λt w hw=>?_,λ_ e=>by cases e;exact hlt⟩
    ·unfold au;rw[hg];by_cases e:t=t0
     ·subst e;simp[hk,bG]
     ·rw[if_neg e,if_neg (λe'=>e (Option.some.inj e').symm)]
    ·rw[hg]at hw;by_cases e:t=t0
     ·rw[e];exact hk
     ·rw[if_neg e]at hw;exact Dk t w hw
  ·rename_i hk;cases hd;refine⟨.cons t0 v lo,tm,h,λt=>?_,Dk,λ_ e=>by cases e;exact hlt⟩;unfold au;rw[xl];by_cases e:t=t0
   ·subst e;rw[Nat.beq_refl,bG,if_pos rfl];have:kept aa t=false:=by simpa using hk
    rw[this,bX]
   ·rw[if_neg (λe'=>e (Option.some.inj e').symm)];have:Nat.beq t t0=false:=by
     cases hb:Nat.beq t t0 with
     |true=>exact(e (Nat.eq_of_beq_eq_true hb)).elim
     |false=>rfl
    rw[this,bX]
def oz (l:List aE) (x:aE):Nat:=level x.m (aF l)
def Dl (l:List aE) (y x:aE):Prop:=oz l y<oz l x∨(oz l y=oz l x∧lI y.r=false∧(lI x.r=true∨y.i<x.i))
def Xs (l:List aE) (n m:Nat) (y:aE):Prop:=oz l y<n∨(oz l y=n∧lI y.r=false∧y.i<m)
theorem Br {l:List aE} {x:aE}:¬Dl l x x:=by
 rintro(h|⟨_,h1,h2|h2⟩)
 ·omega
 ·rw[h1]at h2;cases h2
 ·omega
theorem y5 {l:List aE} {x y:aE} (h:Dl l x y):¬Dl l y x:=by
 intro h';rcases h with h|⟨h,h1,h2⟩<;>rcases h' with h'|⟨h',h3,h4⟩
 ·omega
 ·omega
 ·omega
 ·rcases h2 with h2|h2
  ·rw[h3]at h2;cases h2
  ·rcases h4 with h4|h4
   ·rw[h1]at h4;cases h4
   ·omega
section
variable {all:Array Oper} {l:List aE}
theorem kG (hD:dQ P aa all l I) {x y:aE} (hx:x∈l) (hy:y∈l) (h:av x.m y.i=true):Dl l y x:=by
 have hlt:=hD.below x hx _ h;have sub:∀z∈aF l,av y.m z.i=true->av x.m z.i=true:= λz _ hz=>hD.trans x hx y hy h _ hz;cases hw:lI y.r with
 |true=>
  left;unfold oz;rw[fD,fD];refine F6 sub y (kx.2 ⟨hy,hw⟩) ?_ h;cases hb:av y.m y.i with
  |false=>rfl
  |true=>have:=hD.below y hy _ hb;omega
 |false=>
  have hle:oz l y<=oz l x:=by unfold oz;rw[fD,fD];exact wO sub
  rcases Nat.lt_or_eq_of_le hle with h|h
  ·exact .inl h
  ·exact .inr ⟨h,hw,.inr hlt⟩
def jm (P:Program) (l:List aE) (ρ:Ren) (B:Nat->Nat->Prop) (cs:List ig) (S:AS) (x:aE) (lo:Lo) (tm:T Value) (v:Value):Prop:=
 match x.r with
 | .p f=>∃s,f lo tm s=some v
 | .r f=>(dq x.i (aF l),λs'=>tW v (f lo tm s'))∈cs
 | .a f=>∃s1 JG,f lo tm s1=some (v,JG)∧B x.i s1.nx∧s1.nx<S.nx∧ρ s1.nx=none∧(S.h.get s1.nx=JG.h.get s1.nx∨S.h.get s1.nx=none)
 |_=>False
def wx (P:Program) (aa:Nat) (all:Array Oper) (l:List aE) (ρ:Ren) (B:Nat->Nat->Prop) (cs:List ig) (S:AS) (x:aE) (lo:Lo) (tm:T Value) (v:Value):Prop:=
 match x.o.guard with
 |none=>jm P l ρ B cs S x lo tm v
 |some (j,want)=>∃g y,iW aa [] all.toList j=some g∧ej want (g lo tm)=some y∧(y=true->jm P l ρ B cs S x lo tm v)∧(y=false->v= .tuple #[])
theorem jm.mono {B B':Nat->Nat->Prop} {cs:List ig} {S S':AS} {x:aE} (h:jm P l ρ B cs S x lo tm v) (hB:∀b,B x.i b->B' x.i b) (hcs:∀c∈cs,c∈dB) (hS:∀b,B x.i b->b<S.nx->ρ b=none->b<S'.nx∧aj b=none∧(S'.h.get b=S.h.get b∨S'.h.get b=none)):jm P l aj B' dB S' x lo tm v:=by
 unfold jm at h⊢;split at h
 ·exact h
 ·exact hcs _ h
 ·obtain⟨s1,JG,h1,h2,h3,h4,h5⟩:=h;obtain⟨a1,a2,a3⟩:=hS _ h2 h3 h4;refine⟨s1,JG,h1,hB _ h2,a1,a2,?_⟩;rcases a3 with a3|a3
  ·rw[a3];exact h5
  ·exact .inr a3
 ·exact h
theorem wx.mono {ρ aj:Ren} {B B':Nat->Nat->Prop} {cs dB:List ig} {S S':AS} {x:aE} {lo:Lo} {tm:T Value} {v:Value} (h:wx P aa all l ρ B cs S x lo tm v) (hB:∀b,B x.i b->B' x.i b) (hcs:∀c∈cs,c∈dB)
  (hS:∀b,B x.i b->b<S.nx->ρ b=none->b<S'.nx∧aj b=none∧(S'.h.get b=S.h.get b∨S'.h.get b=none)):wx P aa all l aj B' dB S' x lo tm v:=by
 unfold wx at h⊢;split at h
 ·exact jm.mono h hB hcs hS
 ·obtain⟨g,y,h1,h2,h3,h4⟩:=h;exact⟨g,y,h1,h2,λe=>jm.mono (h3 e) hB hcs hS,h4⟩
structure St (P:Program) (aa nt:Nat) (all:Array Oper) (l:List aE) (E0:Nat->Option Value) (cD:Ren) (s0:AS) (w0:World) (a0:Act) (X:aE->Prop) (D:Nat->Prop) (B:Nat->Nat->Prop) (ρ:Ren) (cs:List ig) (lo:Lo) (tm:T Value) (S:AS) (a:Act) (w:World):Prop where
 tk:∀t v,tm.get t=some v->kept aa t=true
 wi:∀t,(∀y∈l,X y->y.o.dst≠some t)->au aa lo tm t=E0 t
 Hc:∀x∈l,X x->lI x.r=false->¬D x.i->∃ga tm' v,wx P aa all l ρ B cs S x ga tm' v∧(∀d,x.o.dst=some d->d<nt∧au aa lo tm d=some v)∧
  (∀t,(∀y∈l,y.o.dst=some t->Dl l y x->au aa ga tm' t=au aa lo tm t)∧((∀y∈l,y.o.dst=some t->¬Dl l y x)->au aa ga tm' t=E0 t))
 bB:∀i b,B i b->b<S.nx∧s0.nx<=b
 bI:∀i j b,B i b->B j b->i=j
 dX:∀y∈l,D y.i->X y
 md:∀y∈l,D y.i->∀d,y.o.dst=some d->∃v u,au aa lo tm d=some v∧a.tmps[d]? =some u∧ag ρ v u
 m0:∀t,(∀y∈l,D y.i->y.o.dst≠some t)->a.tmps[t]? =a0.tmps[t]?
 e0:∀t v,E0 t=some v->∃u,a0.tmps[t]? =some u∧ag ρ v u
 rel:Rel P ρ S w
 yq:aN cD s0 w0 ρ S w
 df:a.defers=a0.defers
 sz:nt<=a.tmps.size
variable {E0:Nat->Option Value} {w0:World} {a0:Act} {D:Nat->Prop} {B:Nat->Nat->Prop} {cs:List ig} {S:AS}
theorem St.grow {x:aE} (hD:dQ P aa all l I) (hW:wv all l) (h:St P aa nt all l E0 cD s0 w0 a0 (Xs l n x.i) D B ρ cs lo tm S a w) (hx:x∈l) (ir:lI x.r=false) (hn:oz l x=n) {dU:List ig} {B1:Nat->Nat->Prop} (ic:∀t,au aa br aw t=if x.o.dst=some t then some v else au aa lo tm t) (Dk:∀t v,aw.get t=some v->kept aa t=true) (GU:∀d,x.o.dst=some d->d<nt) (dT:wx P aa all l ρ B1 dU S1 x lo tm v) (hcs:∀c∈cs,c∈dU) (TN:∀i b,B i b->B1 i b) (TO:∀i b,B1 i b->b<S1.nx∧s0.nx<=b) (TP:∀i j b,B1 i b->B1 j b->i=j) (hnx:S.nx<=S1.nx) (hh:∀b,b<S.nx->S1.h.get b=S.h.get b) (hrel:Rel P ρ S1 w) (oD:aN cD s0 w0 ρ S1 w):St P aa nt all l E0 cD s0 w0 a0 (Xs l n (x.i+1)) D B1 ρ dU br aw S1 a w:=by
 have hX:∀y,Xs l n x.i y->Xs l n (x.i+1) y:= λy hy=>hy.imp id λ⟨h1,h2,h3⟩=>⟨h1,h2,by omega⟩
 have LJ:Xs l n (x.i+1) x:= .inr ⟨hn,ir,by omega⟩;have O8:¬Xs l n x.i x:=by rintro(h|⟨_,_,h⟩)<;>omega
 have lK:¬D x.i:= λhd=>O8 (h.dX x hx hd);have Js:∀y,Xs l n x.i y->Dl l y x:= λy hy=>by
  rcases hy with hy|⟨h1,h2,h3⟩
  ·left;omega
  ·right;exact⟨by omega,h2,.inr h3⟩
 have other:∀y∈l,y≠x->∀d,y.o.dst=some d->x.o.dst≠some d:= λy hy hne d hd=>hW.dst hx hy (λe=>hne (hD.inj hy hx e.symm)) hd;have iB:∀y∈l,y≠x->∀d,y.o.dst=some d->au aa br aw d=au aa lo tm d:= λy hy hne d hd=>by rw[ic,if_neg (other y hy hne d hd)]
 refine⟨Dk,λt ht=>?_,λy hy Ac Av iS=>?_,TO,TP,λy hy hd=>hX y (h.dX y hy hd),λy hy hd d Nc=>?_,h.m0,h.e0,hrel,oD,h.df,h.sz⟩
 ·rw[ic,if_neg (ht x hx LJ)];exact h.wi t λy hy Ac=>ht y hy (hX y Ac)
 ·by_cases e:y=x
  ·subst e;refine⟨lo,tm,v,dT,λd hd=>⟨GU d hd,by rw[ic,if_pos hd]⟩,λt=>⟨λz hz He hb=>?_,λhb=>?_⟩⟩
   ·exact(iB z hz (λe=>by subst e;exact Br hb) t He).symm
   ·exact h.wi t λz hz TQ He=>hb z hz He (Js z TQ)
  ·have EC:Xs l n x.i y:=by
    rcases Ac with h|⟨h1,h2,h3⟩
    ·exact .inl h
    ·refine .inr ⟨h1,h2,?_⟩;have:y.i≠x.i:= λe'=>e (hD.inj hy hx e');omega
   obtain⟨ga,tm',v',r1,r2,r3⟩:=h.Hc y hy EC Av iS;refine⟨ga,tm',v',r1.mono (TN y.i) hcs (λb hb hlt hr=>⟨by omega,hr,.inl (hh b hlt)⟩),λd hd=>⟨(r2 d hd).1,by rw[iB y hy e d hd];exact(r2 d hd).2⟩,λt=>⟨λz hz He hb=>?_,(r3 t).2⟩⟩;rw[(r3 t).1 z hz He hb];refine(iB z hz (λe'=>?_) t He).symm;subst e';exact y5 (Js y EC) hb
 ·rw[iB y hy (λe=>by subst e;exact lK hd) d Nc];exact h.md y hy hd d Nc
theorem St.use {X:aE->Prop} (hD:dQ P aa all l I) (hW:wv all l) (h:St P aa nt all l E0 cD s0 w0 a0 X D B ρ cs lo tm S a w) (eP:∀y∈l,D y.i->∀j,av y.m j=true->D j) {x:aE} (hx:x∈l) (lK:¬D x.i) (gp:∀j,av x.m j=true->D j)
  {ga:Lo} {tm':T Value} (ht:∀t,(∀y∈l,y.o.dst=some t->Dl l y x->au aa ga tm' t=au aa lo tm t)∧((∀y∈l,y.o.dst=some t->¬Dl l y x)->au aa ga tm' t=E0 t))
  {t:Nat} (hu:t∈eU all.toList x.o) {v:Value} (hv:au aa ga tm' t=some v):ag ρ v (a.eval (.tmp t)):=by
 have base:(∀y∈l,y.o.dst=some t->¬Dl l y x)->(∀y∈l,D y.i->y.o.dst≠some t)->ag ρ v (a.eval (.tmp t)):= λh1 h2=>by rw[(ht t).2 h1]at hv;obtain⟨u,mO,hr⟩:=h.e0 t v hv;rw[<-h.m0 t h2]at mO;rw[ct mO];exact hr
 by_cases hex:∃y∈l,y.o.dst=some t
 ·obtain⟨y,hy,g8⟩:=hex;obtain⟨hne,h1,h2⟩:=hW.use hx hy g8 hu;have uniq:∀z∈l,z.o.dst=some t->z=y:= λz hz yr=>by
   by_cases e:z.i=y.i
   ·exact hD.inj hz hy e
   ·exact(hW.dst hz hy e g8 yr).elim
  rcases Nat.lt_or_gt_of_ne hne with hlt|hlt
  ·have hb:=h2 hlt;have iS:¬D y.i:= λhd=>lK (eP y hy hd _ hb);refine base (λz hz yr=>?_) (λz hz Sz yr=>?_)
   ·rw[uniq z hz yr];exact y5 (kG hD hy hx hb)
   ·rw[uniq z hz yr]at Sz;exact iS Sz
  ·have hb:=h1 hlt;have iS:=gp _ hb;rw[(ht t).1 y hy g8 (kG hD hx hy hb)]at hv;obtain⟨v',u,e1,e2,e3⟩:=h.md y hy iS t g8;rw[hv]at e1;cases e1;rw[ct e2];exact e3
 ·exact base (λz hz yr=>(hex ⟨z,hz,yr⟩).elim) (λz hz _ yr=>hex ⟨z,hz,yr⟩)
theorem CD {t:Nat} (h:Operand.tmp t∈o.op.operands):t∈eU all.toList o:=by unfold eU;rw[ku,List.mem_append];exact .inl (List.mem_filterMap.2 ⟨.tmp t,by simpa using h,rfl⟩)
theorem s9 {o':Oper} {t:Nat} {want:Bool} (hg:o.guard=some (j,want)) (hj:all[j]? =some o') (hd:o'.dst=some t):t∈eU all.toList o:=by
 unfold eU;rw[ku,List.mem_append];right;rw[hg];have:all.toList[j]? =some o':=by simpa using hj
 simp[this,hd]
theorem lF {ga:Lo} (h:∀t∈eU all.toList o,∀v,au aa ga tm' t=some v->ag ρ v (a.eval (.tmp t))):gh ρ aa [] ga tm' a.eval o.op.operands:=by
 intro x f v hx hm hv;cases x with
 |tmp t=>rw[gS hm]at hv;exact h t (CD hx) v hv
 |const c=>
  have Aa:(match cT c with|some v=>some (LZ v)|none=>some (λ_ _=>none))=some f:=hm;split at Aa
  ·rename_i hc;cases Aa;cases hv;exact lh hc
  ·cases Aa;cases hv
 |global g=>cases hm;cases hv;exact .mT g 0
 |func g=>cases hm;cases hv;exact .func g .nil .nil
theorem St.real (hD:dQ P aa all l I) (hW:wv all l) (h:St P aa nt all l E0 cD s0 w0 a0 X D B ρ cs lo tm S a w) {x:aE} (hx:x∈l) (hX:X x) (hd:∀d,x.o.dst=some d->d<nt∧au aa lo tm d=some v) {w1:World} (hv:ag aj v u) (hle:aG ρ aj) (hrel:Rel P aj S w1) (oD:aN cD s0 w0 aj S w1) (hB:∀j b,B j b->j≠x.i->ρ b=none->aj b=none):
  St P aa nt all l E0 cD s0 w0 a0 X (λi=>D i∨i=x.i) B aj cs lo tm S (a.put x.o.dst u) w1:=by
 refine⟨h.tk,h.wi,λy hy Ac Av iS=>?_,h.bB,h.bI,λy hy uk=>?_,λy hy iS d g8=>?_,λt ht=>?_,λt v ht=>?_,hrel,oD,by rw[aB];exact h.df,?_⟩
 ·obtain⟨ga,tm',v',r1,r2,r3⟩:=h.Hc y hy Ac Av (λe=>iS (.inl e));exact⟨ga,tm',v',r1.mono (λ_ h=>h) (λ_ h=>h) (λb hb hlt hr=>⟨hlt,hB y.i b hb (λe=>iS (.inr e)) hr,.inl rfl⟩),r2,r3⟩
 ·rcases uk with uk|uk
  ·exact h.dX y hy uk
  ·rw[hD.inj hy hx uk];exact hX
 ·by_cases e:y=x
  ·subst e;obtain⟨h1,h2⟩:=hd d g8;refine⟨v,u,h2,?_,hv⟩;rw[g8];exact aT (Nat.lt_of_lt_of_le h1 h.sz)
  ·have Kq:D y.i:=iS.resolve_right λe'=>e (hD.inj hy hx e');obtain⟨v',u',e1,e2,e3⟩:=h.md y hy Kq d g8;refine⟨v',u',e1,?_,e3.mono hle⟩;cases Ea:x.o.dst with
   |none=>exact e2
   |some dx=>
    have hne:d≠dx:= λe'=>by subst e';exact hW.dst hx hy (λe'=>e (hD.inj hy hx e'.symm)) g8 Ea
    rw[bl hne];exact e2
 ·have fm:=ht x hx (.inr rfl);have:=h.m0 t λy hy iS=>ht y hy (.inl iS);rw[<-this];cases Ea:x.o.dst with
  |none=>rfl
  |some dx=>exact bl λe=>fm (by rw[Ea,e])
 ·obtain⟨u',h1,h2⟩:=h.e0 t v ht;exact⟨u',h1,h2.mono hle⟩
 ·cases Ea:x.o.dst with
  |none=>exact h.sz
  |some dx=>simpa[Act.put]using h.sz
theorem St.wrote (hD:dQ P aa all l I) (hW:wv all l) (h:St P aa nt all l E0 cD s0 w0 a0 (Xs l n l.length) D B ρ cs lo tm S a w) {x:aE} (hx:x∈l) (ir:lI x.r=true) (hn:oz l x=n) (rA:∀y∈l,lI y.r=true->oz l y=n->y=x) {w1:World} (ic:∀t,au aa br aw t=if x.o.dst=some t then some v else au aa lo tm t) (Dk:∀t v,aw.get t=some v->kept aa t=true) (GU:∀d,x.o.dst=some d->d<nt) (hv:ag aj v u) (hrel:Rel P aj S1 w1) (oD:aN ρ S w aj S1 w1):
  St P aa nt all l E0 cD s0 w0 a0 (Xs l (n+1) 0) (λi=>D i∨i=x.i) B aj cs br aw S1 (a.put x.o.dst u) w1:=by
 have hle:=oD.le h.rel;have hX:∀y∈l,Xs l (n+1) 0 y->Xs l n l.length y∨y=x:= λy hy Ac=>by
  rcases Ac with Ac|⟨_,_,h3⟩
  ·rcases Nat.lt_or_eq_of_le (Nat.le_of_lt_succ Ac)with h'|h'
   ·exact .inl (.inl h')
   ·cases hw:lI y.r with
    |true=>exact .inr (rA y hy hw h')
    |false=>exact .inl (.inr ⟨h',hw,(List.getElem?_eq_some_iff.1 (hD.mem hy)).1⟩)
  ·omega
 have SA:∀y,Xs l n l.length y->Xs l (n+1) 0 y:= λy hy=> .inl (by rcases hy with h'|⟨h',_,_⟩<;>omega);have LJ:Xs l (n+1) 0 x:= .inl (by omega);have O8:¬Xs l n l.length x:=by
  rintro(h'|⟨_,h',_⟩)
  ·omega
  ·rw[ir]at h';cases h'
 have other:∀y∈l,y≠x->∀d,y.o.dst=some d->x.o.dst≠some d:= λy hy hne d hd=>hW.dst hx hy (λe=>hne (hD.inj hy hx e.symm)) hd;have iB:∀y∈l,y≠x->∀d,y.o.dst=some d->au aa br aw d=au aa lo tm d:= λy hy hne d hd=>by rw[ic,if_neg (other y hy hne d hd)]
 refine⟨Dk,λt ht=>?_,λy hy Ac Av iS=>?_,λi b hb=>⟨Nat.lt_of_lt_of_le (h.bB i b hb).1 oD.nx,(h.bB i b hb).2⟩,h.bI,λy hy uk=>?_,λy hy iS d g8=>?_,λt ht=>?_,λt v ht=>?_,hrel,h.yq.trans oD,by rw[aB];exact h.df,?_⟩
 ·rw[ic,if_neg (ht x hx LJ)];exact h.wi t λy hy Ac=>ht y hy (SA y Ac)
 ·have Dg:y≠x:= λe=>by rw[e,ir]at Av;cases Av
  have EC:=(hX y hy Ac).resolve_right Dg;obtain⟨ga,tm',v',r1,r2,r3⟩:=h.Hc y hy EC Av (λe=>iS (.inl e));refine⟨ga,tm',v',r1.mono (λ_ h=>h) (λ_ h=>h) (λb hb hlt hr=>⟨Nat.lt_of_lt_of_le hlt oD.nx,by rw[oD.jY b hlt];exact hr,oD.ph b hlt hr⟩),λd hd=>⟨(r2 d hd).1,by rw[iB y hy Dg d hd];exact(r2 d hd).2⟩,λt=>⟨λz hz He hb=>?_,(r3 t).2⟩⟩;rw[(r3 t).1 z hz He hb];refine(iB z hz (λe'=>?_) t He).symm;subst e';rcases hb with hb|⟨_,hb,_⟩
  ·rcases EC with h'|⟨h',_,_⟩<;>omega
  ·rw[ir]at hb;cases hb
 ·rcases uk with uk|uk
  ·exact SA y (h.dX y hy uk)
  ·rw[hD.inj hy hx uk];exact LJ
 ·by_cases e:y=x
  ·subst e;refine⟨v,u,by rw[ic,if_pos g8],?_,hv⟩;rw[g8];exact aT (Nat.lt_of_lt_of_le (GU d g8) h.sz)
  ·have Kq:D y.i:=iS.resolve_right λe'=>e (hD.inj hy hx e');obtain⟨v',u',e1,e2,e3⟩:=h.md y hy Kq d g8;refine⟨v',u',by rw[iB y hy e d g8];exact e1,?_,e3.mono hle⟩;cases Ea:x.o.dst with
   |none=>exact e2
   |some dx=>
    have hne:d≠dx:= λe'=>by subst e';exact other y hy e d g8 Ea
    rw[bl hne];exact e2
 ·have fm:=ht x hx (.inr rfl);have:=h.m0 t λy hy iS=>ht y hy (.inl iS);rw[<-this];cases Ea:x.o.dst with
  |none=>rfl
  |some dx=>exact bl λe=>fm (by rw[Ea,e])
 ·obtain⟨u',h1,h2⟩:=h.e0 t v ht;exact⟨u',h1,h2.mono hle⟩
 ·cases Ea:x.o.dst with
  |none=>exact h.sz
  |some dx=>simpa[Act.put]using h.sz
end
end Go.Eng
end
noncomputable section
namespace Go.Eng
open Go
variable {S1 s s' s0:AS} {a:Act} {I X:aE->Prop} {ev:Ev} {last:List DR} {Aw:List iU} {lo br:Lo} {x:Loc} {b aa n nt:Nat} {o:Oper} {P:Program} {ρ cD:Ren} {tm tm' aw:T Value} {w w':World} {out:cm×T Value×AS}
theorem Rel.xo {k:Blk} (h:Rel P ρ s w) (hs:s.new k=some s'):Rel P ρ s' w:=by
 obtain⟨hnx,hg⟩:=AS.eg hs;have dH:ρ s.nx=none:=h.eu _ (Nat.le_refl _);have Ao:∀ {a k x},s'.h.get a=some k->ρ a=some x->s.h.get a=some k:= λ {a k x} e e'=>by
  rw[hg]at e;by_cases ha:a=s.nx
  ·rw[ha,dH]at e';cases e'
  ·rw[if_neg ha]at e;exact e
 exact⟨λa ha=>h.eu a (by omega),λa ha=>by rw[hg,if_neg (by omega)];exact h.top a (by omega),λa k x e e'=>h.blk a k x (Ao e e') e',by rw[AS.iz hs];have:=h.lim;omega,
  λa a' k k' x x' hne e1 e2 r1 r2 hb=>h.aX a a' k k' x x' hne (Ao e1 r1) (Ao e2 r2) r1 r2 hb,h.gl.of (Nat.le_refl _) λb _ hn=>⟨rfl,λ⟨j,k,y,e1,e2,e3⟩=>hn ⟨j,k,y,Ao e1 e2,e2,e3⟩⟩⟩
theorem aN.xo {w0:World} {k:Blk} (hS:aN cD s0 w0 ρ s w) (h:Rel P ρ s w) (hs:s.new k=some s'):aN cD s0 w0 ρ s' w:=by
 obtain⟨hnx,hg⟩:=AS.eg hs;have dH:ρ s.nx=none:=h.eu _ (Nat.le_refl _);refine⟨hS.jY,by have:=hS.nx;omega,hS.tape,hS.os,hS.out,hS.size,λb hb hn=>?_,λa ha hn=>?_,hS.lp,(AS.iz hs).trans hS.lim,λa ha=>by rw[AS.xj hs h.lim a (by rw[hS.lim];exact ha),hS.low a ha],hS.gD⟩
 ·obtain⟨h1,h2⟩:=hS.frame b hb hn;refine⟨h1,?_⟩;rintro⟨a,k',x,e,e',rfl⟩;rw[hg]at e;by_cases ha:a=s.nx
  ·rw[ha,dH]at e';cases e'
  ·rw[if_neg ha]at e;exact h2 ⟨a,k',x,e,e',rfl⟩
 ·rw[hg,if_neg (by have:=hS.nx;omega)];exact hS.ph a ha hn
theorem Rel.realize {k:Blk} (hr:Rel P ρ s w) (hb:b<s.nx) (dH:ρ b=none) (hk:s.h.get b=some k) (hx:x.b=w.heap.size) (hsz:w'.heap.size=w.heap.size+1) (hold:∀b,b<w.heap.size->w'.heap[b]? =w.heap[b]?) (Mh:cj P (ρ.put b x) x w' k):Rel P (ρ.put b x) s w':=by
 have hle:aG ρ (ρ.put b x):=iM dH x;have bC:∀a,a≠b->(ρ.put b x) a=ρ a:= λa ha=>by unfold Ren.put;rw[if_neg ha]
 have fp:(ρ.put b x) b=some x:=by unfold Ren.put;rw[if_pos rfl]
 refine⟨λa ha=>by rw[bC a (by omega)];exact hr.eu a ha,hr.top,λa k' y e e'=>?_,hr.lim,λa a' k1 k2 x1 x2 hne e1 e2 r1 r2 kg=>?_,hr.gl.of (by omega) λc hc hn=>⟨hold c hc,λ⟨j,k',y,e1,e2,e3⟩=>?_⟩⟩
 rotate_right
 ·by_cases ha:j=b
  ·rw[ha,fp]at e2;cases e2;omega
  ·rw[bC j ha]at e2;exact hn ⟨j,k',y,e1,e2,e3⟩
 ·by_cases ha:a=b
  ·subst ha;rw[fp]at e';cases e';rw[hk]at e;cases e;exact⟨by omega,Mh⟩
  ·rw[bC a ha]at e';obtain⟨h1,h2⟩:=hr.blk a k' y e e';exact⟨by omega,(h2.congr (hold _ h1)).mono hle⟩
 ·by_cases ha:a=b
  ·rw[ha,fp]at r1;cases r1;have cZ:a'≠b:= λe=>hne (ha.trans e.symm);rw[bC a' cZ]at r2;have:=(hr.blk a' k2 x2 e2 r2).1;omega
  ·rw[bC a ha]at r1;by_cases cZ:a'=b
   ·rw[cZ,fp]at r2;cases r2;have:=(hr.blk a k1 x1 e1 r1).1;omega
   ·rw[bC a' cZ]at r2;exact hr.aX a a' k1 k2 x1 x2 hne e1 e2 r1 r2 kg
theorem Rel.y6 (hr:Rel P ρ s w) (hb:b<s.nx) (dH:ρ b=none) (hk:s.h.get b=none) (hsz:w'.heap.size=w.heap.size+1) (hold:∀b,b<w.heap.size->w'.heap[b]? =w.heap[b]?):Rel P (ρ.put b x) s w':=by
 have hle:aG ρ (ρ.put b x):=iM dH x;have bC:∀a,a≠b->(ρ.put b x) a=ρ a:= λa ha=>by unfold Ren.put;rw[if_neg ha]
 have hne:∀ {a k},s.h.get a=some k->a≠b:= λ {a k} e h=>by rw[h,hk]at e;cases e
 refine⟨λa ha=>by rw[bC a (by omega)];exact hr.eu a ha,hr.top,λa k' y e e'=>?_,hr.lim,λa a' k1 k2 x1 x2 cL e1 e2 r1 r2 kg=>?_,hr.gl.of (by omega) λc hc hn=>⟨hold c hc,λ⟨j,k',y,e1,e2,e3⟩=>hn ⟨j,k',y,e1,by rw[bC j (hne e1)]at e2;exact e2,e3⟩⟩⟩
 ·rw[bC a (hne e)]at e';obtain⟨h1,h2⟩:=hr.blk a k' y e e';exact⟨by omega,(h2.congr (hold _ h1)).mono hle⟩
 ·rw[bC a (hne e1)]at r1;rw[bC a' (hne e2)]at r2;exact hr.aX a a' k1 k2 x1 x2 cL e1 e2 r1 r2 kg
theorem aN.realize {w0:World} (hr:Rel P ρ s w) (hS:aN cD s0 w0 ρ s w) (O9:s0.nx<=b) (hx:x.b=w.heap.size) (hsz:w'.heap.size=w.heap.size+1) (hold:∀b,b<w.heap.size->w'.heap[b]? =w.heap[b]?) (ht:w'.tape=w.tape) (ho:w'.os=w.os) (hu:w'.output=w.output):aN cD s0 w0 (ρ.put b x) s w':=by
 have bC:∀a,a≠b->(ρ.put b x) a=ρ a:= λa ha=>by unfold Ren.put;rw[if_neg ha]
 have fp:(ρ.put b x) b=some x:=by unfold Ren.put;rw[if_pos rfl]
 refine⟨λa ha=>by rw[bC a (by omega)];exact hS.jY a ha,hS.nx,by rw[ht,hS.tape],by rw[ho,hS.os],by rw[hu,hS.out],by have:=hS.size;omega,λc hc hn=>?_,hS.ph,λc r hc=>?_,hS.lim,hS.low,λa k y hl hn hk hro hy=>by have h1:=hS.gD a k y hl hn hk hro hy;rw[<-h1];exact hold _ (hr.blk a k y (by rw[hS.low a hl];exact hk) (by rw[hS.jY a hn];exact hy)).1⟩
 ·obtain⟨h1,h2⟩:=hS.frame c hc hn;have JH:c<w.heap.size:=Nat.lt_of_lt_of_le hc hS.size;refine⟨by rw[hold c JH];exact h1,?_⟩;rintro⟨a,k',y,e,e',rfl⟩;by_cases ha:a=b
  ·rw[ha,fp]at e';cases e';omega
  ·rw[bC a ha]at e';exact h2 ⟨a,k',y,e,e',rfl⟩
 ·obtain⟨r',eR⟩:=hS.lp c r hc;exact⟨r',by rw[hold c (Array.getElem?_eq_some_iff.1 eR).1];exact eR⟩
section
variable {all:Array Oper} {l:List aE} {E0:Nat->Option Value} {w0:World} {a0:Act} {D:Nat->Prop} {B:Nat->Nat->Prop} {cs:List ig} {S:AS}
variable {x':cm}
theorem lj {d:DI} {c c':CI} {al:List Oper} (h:de aa [] al o d c=some c'):(o.guard=none∧c'=c)∨∃j want g,o.guard=some (j,want)∧iW aa [] al j=some g∧c'= .gd g want d c:=by
 unfold de at h;split at h
 ·rename_i hg;cases h;exact .inl ⟨hg,rfl⟩
 ·rename_i j want hg;obtain⟨g,Pa,h⟩:=U h;cases h;exact .inr ⟨j,want,g,hg,Pa,rfl⟩
theorem sf {o:Option Bool} {p q:Out} {x:cm} (h:D3 o p q= .code x tm' s'):∃y,o=some y∧(if y=true then p else q)= .code x tm' s':=by
 cases o with
 |none=>cases h
 |some y=>exact⟨y,rfl,by cases y<;>exact h⟩
theorem vH {x:aE} (dL:(∃f,x.r= .p f)∨tV P aa [] x.o.op=some x.r) (ir:lI x.r=false) (Pb:∀f,x.r≠.r f) {d:DI} {k:K} (h:dw ev (oC x.r d) k lo tm S= .code x' tm' s'):
  ∃v S1,ei d v k lo tm S1= .code x' tm' s'∧(∀(B1:Nat->Nat->Prop) cs,(∀Pc,S.new Pc=some S1->B1 x.i S.nx)->ρ S.nx=none->jm P l ρ B1 cs S1 x lo tm v)∧(S1=S∨∃k,S.new k=some S1):=by
 cases hr:x.r with
 |p f=>
  rw[hr]at h;have h':Option.rec (motive:= λ_=>Out) .no (λv=>ei d v k lo tm S) (f lo tm S)= .code x' tm' s':=h;cases hv:f lo tm S with
  |none=>rw[hv]at h';cases h'
  |some v=>rw[hv]at h';exact⟨v,S,h',λB1 cs _ _=>by unfold jm;rw[hr];exact⟨S,hv⟩,.inl rfl⟩
 |r f=>exact(Pb f hr).elim
 |a f=>
  have cK:=qU (dL.resolve_left λ⟨f',e⟩=>by rw[hr]at e;cases e);rw[hr]at h cK;have h':Option.rec (motive:= λ_=>Out) .no (λp=>ei d p.1 k lo tm p.2) (f lo tm S)= .code x' tm' s':=h;cases hv:f lo tm S with
  |none=>rw[hv]at h';cases h'
  |some r=>rw[hv]at h';obtain⟨b,hb,_⟩:=cK lo tm S r hv;obtain⟨v,S1⟩:=r;refine⟨v,S1,h',λB1 cs hB dH=>?_,.inr ⟨b,hb⟩⟩;unfold jm;rw[hr];have:=AS.eg hb;exact⟨S,S1,hv,hB b hb,by rw[this.1];exact Nat.lt_succ_self _,dH,.inl rfl⟩
 |w f=>rw[hr]at ir;cases ir
 |c f Lv=>rw[hr]at ir;cases ir
theorem dQ.look (hD:dQ P aa all l I) (x:aE) (hx:x∈l):(∃f,x.r= .p f)∨tV P aa [] x.o.op=some x.r:=by
 by_cases h:I x
 ·exact .inl (hD.ins x hx h)
 ·exact .inr (hD.rd x hx h)
structure Grow (l:List aE) (aa:Nat) (ρ:Ren) (X:aE->Prop) (lo:Lo) (tm:T Value) (S:AS) (br:Lo) (aw:T Value) (S1:AS):Prop where
 env:∀t,(∀y∈l,¬X y->y.o.dst≠some t)->au aa br aw t=au aa lo tm t
 nx:S.nx<=S1.nx
 old:∀b,b<S.nx->S1.h.get b=S.h.get b
 new:∀b,S.nx<=b->ρ b=none
theorem Grow.refl (h:Rel P ρ S w):Grow l aa ρ X lo tm S lo tm S:=⟨λ_ _=>rfl,Nat.le_refl _,λ_ _=>rfl,λb hb=>h.eu b hb⟩
theorem Grow.trans {X1:aE->Prop} {LK:Lo} {oO:T Value} {S2:AS} (h:Grow l aa ρ X lo tm S br aw S1) (h1:Grow l aa ρ X1 br aw S1 LK oO S2) (hX:∀y,X y->X1 y):Grow l aa ρ X lo tm S LK oO S2:=
 ⟨λt ht=>by rw[h1.env t λy hy hn=>ht y hy λhx=>hn (hX y hx),h.env t ht],Nat.le_trans h.nx h1.nx,λb hb=>by rw[h1.old b (Nat.lt_of_lt_of_le hb h.nx),h.old b hb],h.new⟩
theorem Il {x:aE} (hD:dQ P aa all l I) (hW:wv all l) (h:St P aa nt all l E0 cD s0 w0 a0 (Xs l n x.i) D B ρ cs lo tm S a w) (hx:x∈l) (ir:lI x.r=false) (hn:oz l x=n) {dr:DR} (mc:J5 aa nt all.toList (aF l) x=some dr) {k:KC} (hk:BO ev dr k cs lo tm S= .code x' tm' s'):∃B1 dU br aw S1,St P aa nt all l E0 cD s0 w0 a0 (Xs l n (x.i+1)) D B1 ρ dU br aw S1 a w∧Grow l aa ρ (Xs l n x.i) lo tm S br aw S1∧k dU br aw S1= .code x' tm' s':=by
 obtain⟨d,hd,mc⟩:=U mc;have fin:∀ {v:Value} {dU:List ig} {S1:AS},ei d v (k dU) lo tm S1= .code x' tm' s'->(∀c∈cs,c∈dU)->(S1=S∨∃kb,S.new kb=some S1)->
   (∀(B1:Nat->Nat->Prop),(∀Pc,S.new Pc=some S1->B1 x.i S.nx)->ρ S.nx=none->wx P aa all l ρ B1 dU S1 x lo tm v)->
   ∃B1 dU br aw S1,St P aa nt all l E0 cD s0 w0 a0 (Xs l n (x.i+1)) D B1 ρ dU br aw S1 a w∧Grow l aa ρ (Xs l n x.i) lo tm S br aw S1∧k dU br aw S1= .code x' tm' s':=by
  intro v dU S1 hp hcs hS dT;obtain⟨br,aw,lf,ic,Dk,GU⟩:=y4 hd h.tk hp;have dH:ρ S.nx=none:=h.rel.eu _ (Nat.le_refl _);have O8:¬Xs l n x.i x:=by rintro(h|⟨_,_,h⟩)<;>omega
  have Nd:∀t,(∀y∈l,¬Xs l n x.i y->y.o.dst≠some t)->au aa br aw t=au aa lo tm t:= λt ht=>by rw[ic,if_neg (ht x hx O8)]
  rcases hS with rfl|⟨kb,P2⟩
  ·refine⟨B,dU,br,aw,_,h.grow hD hW hx ir hn ic Dk GU (dT B (λPc e=>?_) dH) hcs (λ_ _ h=>h) h.bB h.bI (Nat.le_refl _) (λ_ _=>rfl) h.rel h.yq,⟨Nd,Nat.le_refl _,λ_ _=>rfl,λb hb=>h.rel.eu b hb⟩,lf⟩;have:=(AS.eg e).1;omega
  ·obtain⟨e1,e2⟩:=AS.eg P2;refine⟨λi b=>B i b∨(i=x.i∧b=S.nx),dU,br,aw,S1,h.grow hD hW hx ir hn ic Dk GU (dT _ (λ_ _=> .inr ⟨rfl,rfl⟩) dH) hcs (λ_ _ h=> .inl h) (λi b hb=>?_) (λi j b hi hj=>?_) (by omega) (λb hb=>by rw[e2,if_neg (by omega)])
    (h.rel.xo P2) (h.yq.xo h.rel P2),⟨Nd,by omega,λb hb=>by rw[e2,if_neg (by omega)],λb hb=>h.rel.eu b hb⟩,lf⟩
   ·rcases hb with hb|⟨_,rfl⟩
    ·have:=h.bB i b hb;exact⟨by omega,this.2⟩
    ·exact⟨by omega,h.yq.nx⟩
   ·rcases hi with hi|⟨hi,hb⟩<;>rcases hj with hj|⟨hj,cz⟩
    ·exact h.bI i j b hi hj
    ·have:=(h.bB i b hi).1;omega
    ·have:=(h.bB j b hj).1;omega
    ·omega
 have rd:∀ {f:VF} {hi:Nat},x.r= .r f->hi=dq x.i (aF l)->rdStep f d hi k cs lo tm S= .code x' tm' s'->(∀v (B1:Nat->Nat->Prop) dU,jm P l ρ B1 dU S x lo tm v->wx P aa all l ρ B1 dU S x lo tm v)->
   ∃B1 dU br aw S1,St P aa nt all l E0 cD s0 w0 a0 (Xs l n (x.i+1)) D B1 ρ dU br aw S1 a w∧Grow l aa ρ (Xs l n x.i) lo tm S br aw S1∧k dU br aw S1= .code x' tm' s':=by
  intro f hi hr JI lJ P3;have eL:Option.rec (motive:= λ_=>Out) .no (λv=>ei d v (k ((hi,λs'=>tW v (f lo tm s'))::cs)) lo tm S) (f lo tm S)= .code x' tm' s':=lJ;cases hv:f lo tm S with
  |none=>rw[hv]at eL;cases eL
  |some v=>rw[hv]at eL;refine fin (v:=v) eL (λc hc=>by simp[hc]) (.inl rfl) (λB1 _ _=>P3 v B1 _ ?_);unfold jm;rw[hr,JI];simp
 have plain:(∀f,x.r≠.r f)->ob (de aa [] all.toList x.o d (oC x.r d)) (λc=>some (DR.pa c))=some dr->∃B1 dU br aw S1,St P aa nt all l E0 cD s0 w0 a0 (Xs l n (x.i+1)) D B1 ρ dU br aw S1 a w∧Grow l aa ρ (Xs l n x.i) lo tm S br aw S1∧k dU br aw S1= .code x' tm' s':=by
  intro Pb mc;obtain⟨c,hc,mc⟩:=U mc;cases mc;have hk:dw ev c (k cs) lo tm S= .code x' tm' s':=hk;rcases lj hc with ⟨hg,rfl⟩|⟨j,want,g,hg,As,rfl⟩
  ·obtain⟨v,S1,hp,dT,hS⟩:=vH (l:=l) (ρ:=ρ) (hD.look x hx) ir Pb hk;exact fin hp (λ_ h=>h) hS (λB1 hB dH=>by unfold wx;rw[hg];exact dT B1 cs hB dH)
  ·have fZ:D3 (ej want (g lo tm)) (dw ev (oC x.r d) (k cs) lo tm S) (ei d (.tuple #[]) (k cs) lo tm S)= .code x' tm' s':=hk;obtain⟨y,hy,fZ⟩:=sf fZ;cases y with
   |true=>obtain⟨v,S1,hp,dT,hS⟩:=vH (l:=l) (ρ:=ρ) (hD.look x hx) ir Pb fZ;exact fin hp (λ_ h=>h) hS (λB1 hB dH=>by unfold wx;rw[hg];exact⟨g,true,As,hy,λ_=>dT B1 cs hB dH,λe=>by cases e⟩)
   |false=>exact fin (S1:=S) fZ (λ_ h=>h) (.inl rfl) (λB1 hB dH=>by unfold wx;rw[hg];exact⟨g,false,As,hy,λe=>(by cases e),λ_=>rfl⟩)
 cases hr:x.r with
 |r f=>
  rw[hr]at mc;simp only at mc;split at mc
  ·rename_i hg;rw[ak]at mc;cases mc;exact rd hr rfl hk (λv B1 dU h0=>by unfold wx;rw[hg];exact h0)
  ·rename_i j want hg;obtain⟨g,As,mc⟩:=U mc;rw[ak]at mc;cases mc;have fZ:D3 (ej want (g lo tm)) (rdStep f d (dq x.i (aF l)) k cs lo tm S) (ei d (.tuple #[]) (k cs) lo tm S)= .code x' tm' s':=hk;obtain⟨y,hy,fZ⟩:=sf fZ;cases y with
   |true=>exact rd hr rfl fZ (λv B1 dU h0=>by unfold wx;rw[hg];exact⟨g,true,As,hy,λ_=>h0,λe=>by cases e⟩)
   |false=>exact fin (S1:=S) fZ (λ_ h=>h) (.inl rfl) (λB1 hB dH=>by unfold wx;rw[hg];exact⟨g,false,As,hy,λe=>(by cases e),λ_=>rfl⟩)
 |p f=>exact plain (by rw[hr];intro f e;cases e) (by rw[hr]at mc⊢;exact mc)
 |a f=>exact plain (by rw[hr];intro f e;cases e) (by rw[hr]at mc⊢;exact mc)
 |w f=>rw[hr]at ir;cases ir
 |c f Lv=>rw[hr]at ir;cases ir
theorem St.F8 {X':aE->Prop} (h:St P aa nt all l E0 cD s0 w0 a0 X D B ρ cs lo tm S a w) (hX:∀y∈l,X y↔X' y):St P aa nt all l E0 cD s0 w0 a0 X' D B ρ cs lo tm S a w:=
 ⟨h.tk,λt ht=>h.wi t λy hy Ac=>ht y hy ((hX y hy).1 Ac),λx hx LJ=>h.Hc x hx ((hX x hx).2 LJ),h.bB,h.bI,λy hy hd=>(hX y hy).1 (h.dX y hy hd),h.md,h.m0,h.e0,h.rel,h.yq,h.df,h.sz⟩
theorem jE {n:Nat} (hD:dQ P aa all l I) (hW:wv all l) {k:KC}:∀(l2:List aE) (m:Nat),l.drop m=l2->∀(dl:List DR),cr aa nt all.toList (aF l) n l2=some dl->∀B cs lo tm S,St P aa nt all l E0 cD s0 w0 a0 (Xs l n m) D B ρ cs lo tm S a w->
  bM ev dl k cs lo tm S= .code x' tm' s'->∃B1 dU br aw S1,St P aa nt all l E0 cD s0 w0 a0 (Xs l n l.length) D B1 ρ dU br aw S1 a w∧Grow l aa ρ (Xs l n m) lo tm S br aw S1∧k dU br aw S1= .code x' tm' s'
 | [],m,hm,dl,P5,B,cs,lo,tm,S,h,hk=>by
  cases P5;have hlen:l.length<=m:=by have:=congrArg List.length hm;simp at this;omega
  refine⟨B,cs,lo,tm,S,h.F8 (λy hy=>?_),.refl h.rel,hk⟩;have:=(List.getElem?_eq_some_iff.1 (hD.mem hy)).1;unfold Xs;constructor
  ·rintro(h|⟨h1,h2,_⟩)
   ·exact .inl h
   ·exact .inr ⟨h1,h2,this⟩
  ·rintro(h|⟨h1,h2,_⟩)
   ·exact .inl h
   ·exact .inr ⟨h1,h2,by omega⟩
 |x::l2,m,hm,dl,P5,B,cs,lo,tm,S,h,hk=>by
  have SB:l[m]? =some x:=by have:=congrArg (·[0]?) hm;simpa using this
  have hx:x∈l:=List.mem_of_getElem? SB;have hi:x.i=m:=hD.at_ m x SB;have Aa:l.drop (m+1)=l2:=by rw[<-List.drop_drop,hm];rfl
  have P6:∀y,Xs l n m y->Xs l n (m+1) y:= λy hy=>hy.imp id λ⟨h1,h2,h3⟩=>⟨h1,h2,by omega⟩
  have skip:¬(oz l x=n∧lI x.r=false)->St P aa nt all l E0 cD s0 w0 a0 (Xs l n (m+1)) D B ρ cs lo tm S a w:= λdH=>h.F8 λy hy=>by
   unfold Xs;constructor
   ·rintro(h|⟨h1,h2,h3⟩)
    ·exact .inl h
    ·exact .inr ⟨h1,h2,by omega⟩
   ·rintro(h|⟨h1,h2,h3⟩)
    ·exact .inl h
    ·refine .inr ⟨h1,h2,?_⟩;have:y.i≠m:= λe=>by
      have:=hD.inj hy hx (by omega);subst this;exact dH ⟨h1,h2⟩
     omega
  have rj:ab (lI x.r) (cr aa nt all.toList (aF l) n l2) (ab (Nat.beq (level x.m (aF l)) n) (ob (J5 aa nt all.toList (aF l) x) λd=>ob (cr aa nt all.toList (aF l) n l2) λr=>some (d::r)) (cr aa nt all.toList (aF l) n l2))=some dl:=P5;cases hw:lI x.r with
  |true=>rw[hw,bG]at rj;obtain⟨B1,dU,br,aw,S1,h1,g1,lf⟩:=jE hD hW l2 (m+1) Aa dl rj B cs lo tm S (skip (λe=>by rw[hw]at e;cases e.2)) hk;exact⟨B1,dU,br,aw,S1,h1,(Grow.refl h.rel).trans g1 P6,lf⟩
  |false=>
   rw[hw,bX]at rj;cases hb:Nat.beq (level x.m (aF l)) n with
   |false=>
    rw[hb,bX]at rj;have:=jE hD hW l2 (m+1) Aa dl rj B cs lo tm S (skip (λe=>?_)) hk
    ·obtain⟨B1,dU,br,aw,S1,h1,g1,lf⟩:=this;exact⟨B1,dU,br,aw,S1,h1,(Grow.refl h.rel).trans g1 P6,lf⟩
    have:level x.m (aF l)=n:=e.1;rw[this,Nat.beq_refl]at hb;cases hb
   |true=>rw[hb,bG]at rj;obtain⟨dr,mc,rj⟩:=U rj;obtain⟨r,hr,rj⟩:=U rj;cases rj;have fZ:BO ev dr (bM ev r k) cs lo tm S= .code x' tm' s':=hk;rw[<-hi]at h;obtain⟨B1,dU,br,aw,S1,h1,g1,lf⟩:=Il hD hW h hx hw (Nat.eq_of_beq_eq_true hb) mc fZ;rw[hi]at h1 g1;obtain⟨B2,P7,LK,oO,S2,h2,g2,zY⟩:=jE hD hW l2 (m+1) Aa r hr B1 dU br aw S1 h1 lf;exact⟨B2,P7,LK,oO,S2,h2,g1.trans g2 P6,zY⟩
def Kr (P:Program) (aa nt:Nat) (all:Array Oper) (l:List aE) (ev:Ev) (last:List DR) (kf:K) (todo:List aE) (c:Nat) (cs:List ig) (lo:Lo) (tm:T Value) (S:AS) (out:Out):Prop:=
 match todo with
 | []=>kf lo tm S=out
 |x::rest=>∃d cw Aw,lL aa nt x.o.dst=some d∧de aa [] all.toList x.o d (oC x.r d)=some cw∧ko aa nt all.toList (aF l) l rest (c+1)=some Aw∧dw ev cw (bR ev Aw last kf (c+1) cs) lo tm S=out
theorem lG {c:Nat} {k:KC} (h:dW c k cs lo tm S= .code out.1 out.2.1 out.2.2):bq c S cs=true∧k cs lo tm S= .code out.1 out.2.1 out.2.2:=by
 have h:ab (bq c S cs) (k cs lo tm S) .no= .code out.1 out.2.1 out.2.2:=h;cases hc:bq c S cs with
 |false=>rw[hc]at h;cases h
 |true=>rw[hc]at h;exact⟨rfl,h⟩
theorem vI {c:Nat} {kf:K} (hD:dQ P aa all l I) (hW:wv all l) {todo:List aE} (lJ:ko aa nt all.toList (aF l) l todo c=some Aw) (gj:cr aa nt all.toList (aF l) (aF l).length l=some last) (hc:c+todo.length=(aF l).length) (h:St P aa nt all l E0 cD s0 w0 a0 (Xs l c 0) D B ρ cs lo tm S a w) (hk:bR ev Aw last kf c cs lo tm S= .code x' tm' s'):
  ∃B1 dU br aw S1,St P aa nt all l E0 cD s0 w0 a0 (Xs l c l.length) D B1 ρ dU br aw S1 a w∧Grow l aa ρ (Xs l c 0) lo tm S br aw S1∧bq c S1 dU=true∧Kr P aa nt all l ev last kf todo c dU br aw S1 (.code x' tm' s'):=by
 cases todo with
 |nil=>
  cases lJ;have hc:c=(aF l).length:=by simpa using hc
  have fZ:bM ev last (dW c λ_=>kf) cs lo tm S= .code x' tm' s':=hk;rw[<-hc]at gj;obtain⟨B1,dU,br,aw,S1,h1,g1,lf⟩:=jE hD hW l 0 (by simp) last gj B cs lo tm S h fZ;obtain⟨e1,e2⟩:=lG (out:=(x',tm',s')) lf;exact⟨B1,dU,br,aw,S1,h1,g1,e1,e2⟩
 |cons x rest=>have eL:ob (cr aa nt all.toList (aF l) c l) (λpre=>ob (lL aa nt x.o.dst) λd=>ob (de aa [] all.toList x.o d (oC x.r d)) λcw=>aq (Nat.succ c) λn=>ob (ko aa nt all.toList (aF l) l rest n) λr=>some (⟨pre,cw⟩::r))=some Aw:=lJ;obtain⟨pre,gp,eL⟩:=U eL;obtain⟨d,hd,eL⟩:=U eL;obtain⟨cw,JH,eL⟩:=U eL;rw[ak]at eL;obtain⟨r,hr,eL⟩:=U eL;cases eL;have fZ:bM ev pre (dW c λcs=>dw ev cw (bR ev r last kf (c+1) cs)) cs lo tm S= .code x' tm' s':=hk;obtain⟨B1,dU,br,aw,S1,h1,g1,lf⟩:=jE hD hW l 0 (by simp) pre gp B cs lo tm S h fZ;obtain⟨e1,e2⟩:=lG (out:=(x',tm',s')) lf;exact⟨B1,dU,br,aw,S1,h1,g1,e1,d,cw,r,hd,JH,hr,e2⟩
end
end Go.Eng
end
noncomputable section
namespace Go.Eng
open Go
variable {P:Program} {v:Value}
theorem ai {a b:Bool} (h:ab a b false=true):a=true∧b=true:=by
 cases a with
 |true=>exact⟨rfl,h⟩
 |false=>cases h
theorem uM {a b:Addr} (h:xd a b=true):a=b:=by
 unfold xd at h;split at h
 ·rename_i h1 h2;rw[ah]at h;split at h
  ·rename_i hb;obtain⟨b1,o1,s1⟩:=a;obtain⟨b2,o2,s2⟩:=b;simp only at h1 h2 hb h;subst h1;subst h2;rw[Nat.eq_of_beq_eq_true hb,Nat.eq_of_beq_eq_true h]
  ·cases h
 ·cases h
theorem lk {a b:Option Addr} (h:iX a b=true):a=b:=by
 unfold iX at h;split at h
 ·rfl
 ·rw[uM h]
 ·cases h
theorem tP {a b:Option Nat} (h:nE a b=true):a=b:=by
 unfold nE at h;split at h
 ·rfl
 ·rw[Nat.eq_of_beq_eq_true h]
 ·cases h
theorem xV {a b:Fn} (h:wH a b=true):a=b:=by
 unfold wH at h;split at h
 ·rw[Nat.eq_of_beq_eq_true h]
 ·rw[Nat.eq_of_beq_eq_true h]
 ·cases h
theorem fK {f:Value->Value->Bool} (hf:∀x y,f x y=true->x=y):∀a b:List Value,jT f a b=true->a=b
 | [],[],_=>rfl
 | [],_::_,h=>by cases h
 |_::_,[],h=>by cases h
 |x::a,y::b,h=>by
  have h:ab (f x y) (jT f a b) false=true:=h;cases hx:f x y with
  |false=>rw[hx]at h;cases h
  |true=>rw[hx]at h;rw[hf x y hx,fK hf a b h]
theorem qV {a b:Array Value} (h:a.toList=b.toList):a=b:=Array.ext' h
theorem bH:∀(n:Nat) (v u:Value),jX n v u=true->v=u
 |0,_,_,h=>by cases h
 |n+1,v,u,h=>by
  have ih:=bH n;have h:(match(generalizing:=false) v,u with
   | .bool a,.bool b=>ab a b (dR b)
   | .int k a,.int k' b=>ab (tF k k') (zX a b) false
   | .string a,.string b=>DZ a.data.toList b.data.toList
   | .pointer a,.pointer b=>iX a b
   | .slice a n c,.slice b m d=>ab (iX a b) (ab (Nat.beq n m) (Nat.beq c d) false) false
   | .map a,.map b=>nE a b
   | .func f a b,.func g c d=>ab (wH f g) (ab (jT (jX n) a.toList c.toList) (jT (jX n) b.toList d.toList) false) false
   | .nilFunc,.nilFunc=>true
   | .nilIface,.nilIface=>true
   | .iface t a,.iface u b=>ab (Nat.beq t u) (jX n a b) false
   | .agg a,.agg b=>jT (jX n) a.toList b.toList
   | .tuple a,.tuple b=>jT (jX n) a.toList b.toList
   |_,_=>false)=true:=h
  rename_i hold;clear hold;split at h
  ·rename_i a b;cases a<;>cases b<;>first|rfl|(exact(Bool.noConfusion h))
  ·obtain⟨h1,h2⟩:=ai h;rw[oL]at h2;rw[jA.1 h1,of_decide_eq_true h2]
  ·rename_i a b;rw[rL]at h;obtain⟨a⟩:=a;obtain⟨b⟩:=b;have:a=b:=Array.ext' (eq_of_beq h);rw[this]
  ·rw[lk h]
  ·obtain⟨h1,h⟩:=ai h;obtain⟨h2,h3⟩:=ai h;rw[lk h1,Nat.eq_of_beq_eq_true h2,Nat.eq_of_beq_eq_true h3]
  ·rw[tP h]
  ·obtain⟨h1,h⟩:=ai h;obtain⟨h2,h3⟩:=ai h;rw[xV h1,qV (fK ih _ _ h2),qV (fK ih _ _ h3)]
  ·rfl
  ·rfl
  ·obtain⟨h1,h2⟩:=ai h;rw[Nat.eq_of_beq_eq_true h1,ih _ _ h2]
  ·rw[qV (fK ih _ _ h)]
  ·rw[qV (fK ih _ _ h)]
  ·cases h
theorem ta {o:Option Value} (h:tW v o=true):o=some v:=by
 cases o with
 |none=>cases h
 |some u=>rw[bH 12 v u h]
theorem qh {n:Nat} {s:AS}:∀ {l:List ig},bq n s l=true->∀c∈l,n<=c.1->c.2 s=true
 | [],_,c,hc,_=>by simp at hc
 |c0::l,h,c,hc,hn=>by
  have h:ab (Nat.ble n c0.1) (ab (c0.2 s) (bq n s l) false) (bq n s l)=true:=h;rw[ah]at h;rcases List.mem_cons.1 hc with rfl|hc
  ·rw[if_pos (Nat.ble_eq_true_of_le hn)]at h;exact(ai h).1
  ·refine qh ?_ c hc hn;split at h
   ·exact(ai h).2
   ·exact h
end Go.Eng
end
noncomputable section
namespace Go.Eng
open Go
variable {J:(Nat->Prop)->Ren->AS->Lo->T Value->World->Prop} {s' s0:AS} {a:Act} {N:Act->World->Prop} {listed:Array Bool} {I X:aE->Prop} {ev:Ev} {Q:Exit->Act->World->Prop} {F:Fence} {last:List DR} {lo:Lo} {i id aa nt:Nat} {P:Program} {ρ cD:Ren} {tm tm':T Value} {v:Value} {w:World}
section
variable {all:Array Oper} {l:List aE} {E0:Nat->Option Value} {w0:World} {a0:Act} {D:Nat->Prop} {B:Nat->Nat->Prop} {cs:List ig} {S:AS}
variable {x':cm} {c:Nat}
structure Quiet (ρ:Ren) (w:World) (aj:Ren) (w':World):Prop where
 old:∀b,b<w.heap.size->w'.heap[b]? =w.heap[b]?
 size:w.heap.size<=w'.heap.size
 new:∀a y,ρ a=none->aj a=some y->w.heap.size<=y.b
theorem Quiet.refl (ρ:Ren) (w:World):Quiet ρ w ρ w:=⟨λ_ _=>rfl,Nat.le_refl _,λa y e e'=>by rw[e]at e';cases e'⟩
theorem DK (hD:dQ P aa all l I) (h:St P aa nt all l E0 cD s0 w0 a0 X D B ρ cs lo tm S a w) (pR:bq c S cs=true) {x:aE} (hx:x∈l) (hI:¬I x) (JI:c<=dq x.i (aF l)) {ga:Lo} (hr:jm P l ρ B cs S x ga tm' v) (dP:gh ρ aa [] ga tm' a.eval x.o.op.operands):
  ∃u aj w',(execOp a.eval x.o).run P w= .ok (.value u) w'∧ag aj v u∧aG ρ aj∧Rel P aj S w'∧aN cD s0 w0 aj S w'∧(∀j b,B j b->j≠x.i->ρ b=none->aj b=none)∧Quiet ρ w aj w':=by
 have cK:=qU (hD.rd x hx hI);unfold jm at hr;split at hr
 ·rename_i f hf;rw[hf]at cK;obtain⟨s,hv⟩:=hr;obtain⟨u,h1,h2⟩:=cK.2 ρ ga tm' s v w a.eval hv dP;exact⟨u,ρ,w,h1,h2,.refl _,h.rel,h.yq,λ_ _ _ _ e=>e,.refl _ _⟩
 ·rename_i f hf;rw[hf]at cK;have hv:=ta (qh pR _ hr JI);obtain⟨u,h1,h2⟩:=cK ρ ga tm' S v w a.eval hv h.rel dP;exact⟨u,ρ,w,h1,h2,.refl _,h.rel,h.yq,λ_ _ _ _ e=>e,.refl _ _⟩
 ·rename_i f hf;rw[hf]at cK;obtain⟨s1,JG,hv,hB,hlt,dH,hg⟩:=hr;obtain⟨k,hk,hm⟩:=cK ga tm' s1 _ hv;obtain⟨m,he,x0,u,w',e1,e2,e3,e4,e5,e6,e7,e8,e9⟩:=hm ρ w a.eval dH dP;have hrel:Rel P (ρ.put s1.nx x0) S w':=by
   rcases hg with hg|hg
   ·have gn:S.h.get s1.nx=some k:=by rw[hg,(AS.eg hk).2,if_pos rfl]
    exact h.rel.realize hlt dH gn e2 e3 e4 e9
   ·exact h.rel.y6 hlt dH hg e3 e4
  refine⟨u,ρ.put s1.nx x0,w',by rw[he];exact aI e1,e8,iM dH x0,hrel,h.yq.realize h.rel (h.bB _ _ hB).2 e2 e3 e4 e5 e6 e7,λj b hb hj hn=>?_,e4,by omega,λa y h0 h1=>?_⟩
  rotate_left
  ·unfold Ren.put at h1;split at h1
   ·cases h1;omega
   ·rw[h0]at h1;cases h1
  unfold Ren.put;rw[if_neg (λe=>?_)]
  ·exact hn
  ·subst e;exact hj (h.bI _ _ _ hb hB)
 ·exact hr.elim
theorem Gw (hF:fq F) (hD:dQ P aa all l I) (hW:wv all l) (h:St P aa nt all l E0 cD s0 w0 a0 (Xs l c l.length) D B ρ cs lo tm S a w) (pR:bq c S cs=true) (eP:∀y∈l,D y.i->∀j,av y.m j=true->D j) {x:aE} (hx:x∈l) (hI:¬I x) (ir:lI x.r=false) (x8:Xs l c l.length x) (lK:¬D x.i) (gp:∀j,av x.m j=true->D j) (JI:c<=dq x.i (aF l)) (hN:∀aj a' w',St P aa nt all l E0 cD s0 w0 a0 (Xs l c l.length) (λi=>D i∨i=x.i) B aj cs lo tm S a' w'->aG ρ aj->Quiet ρ w aj w'->N a' w'):wpOpIn F 0 P all Q x.i N a w:=by
 obtain⟨ga,tm',v,dT,hd,ht⟩:=h.Hc x hx x8 ir lK;have um:∀t∈eU all.toList x.o,∀v,au aa ga tm' t=some v->ag ρ v (a.eval (.tmp t)):= λt hu v hv=>h.use hD hW eP hx lK gp ht hu hv;have dP:=lF um;have JF:∀c,x.o.op≠.defer c:= λc e=>by have:=hD.rd x hx hI;rw[e]at this;cases this
 unfold wpOpIn;rw[hD.op x hx];simp only;have C3:jm P l ρ B cs S x ga tm' v->x.o.wpIn F 0 P a w N Q:= λhr=>by obtain⟨u,aj,w',h1,h2,h3,h4,h5,h6,h7⟩:=DK hD h pR hx hI JI hr dP;refine⟨λf _=>hF.fn f,?_⟩;rw[Oper.semAt_eq _ _ _ JF,h1];exact hN _ _ _ (h.real hD hW hx x8 hd h2 h3 h4 h5 h6) h3 h7
 unfold wx at dT;split at dT
 ·rename_i hg;have hw:Region.wanted x.o (yielded all a.tmps)=true:=by unfold Region.wanted;rw[hg]
  rw[if_pos hw];exact C3 dT
 ·rename_i j want hg;obtain⟨g,y,As,hy,h1,h2⟩:=dT;have hw:=sb (ρ:=ρ) (al:= []) (λd g v ⟨o',gz,uk⟩ hm hv=>by
   rw[gS hm]at hv;exact um d (s9 hg gz uk) v hv) hg As hy
  cases y with
  |true=>rw[if_pos hw];exact C3 (h1 rfl)
  |false=>rw[if_neg (by rw[hw];simp)];refine⟨λf _=>hF.fn f,hN _ _ _ (h.real hD hW hx x8 hd (by rw[h2 rfl];exact .tuple .nil) (.refl _) h.rel h.yq (λ_ _ _ _ e=>e)) (.refl _) (.refl _ _)⟩
theorem pc:i∈Region.ready .any all listed↔i<all.size∧listed.getD i true=false∧∃o,all[i]? =some o∧∀e∈o.after.toList,Region.binds .any e=true->listed.getD e.on false=true:=by
 unfold Region.ready;rw[List.mem_filter,List.mem_range,Bool.and_eq_true];refine and_congr Iff.rfl (and_congr (by simp) ?_);cases ho:all[i]? with
 |none=>simp
 |some o=>
  simp only[Option.map_some,Option.getD_some,Array.all_eq_true'];constructor
  ·intro h;refine⟨o,rfl,λe he hb=>?_⟩;have:=h e (by simpa using he);simpa[hb]using this
  ·rintro⟨o',gz,h⟩ e he;cases gz;cases hb:Region.binds .any e with
   |false=>simp
   |true=>simpa using h e (by simpa using he) hb
theorem oj {listed:Array Bool} {i:Nat}:∀(r:List Nat),r.Nodup->i∈r->i<listed.size->listed.getD i true=false->
  (r.filter λj=>!(listed.setIfInBounds i true).getD j true).length+1=(r.filter λj=>!listed.getD j true).length
 | [],_,hi,_,_=>by simp at hi
 |j::r,hn,hi,hlt,hf=>by
  rw[List.nodup_cons]at hn;have other:∀k,k≠i->(listed.setIfInBounds i true).getD k true=listed.getD k true:= λk hk=>by rw[Array.getD_eq_getD_getElem?,Array.getD_eq_getD_getElem?,Array.getElem?_setIfInBounds_ne (Ne.symm hk)]
  by_cases e:j=i
  ·subst e;have h1:(listed.setIfInBounds j true).getD j true=true:=by
    rw[Array.getD_eq_getD_getElem?,Array.getElem?_setIfInBounds_self_of_lt hlt];rfl
   rw[List.filter_cons,List.filter_cons,h1,hf];simp only[Bool.not_true,Bool.false_eq_true,if_false,Bool.not_false,if_true,List.length_cons];congr 2;refine List.filter_congr λk hk=>?_;rw[other k (λe=>by subst e;exact hn.1 hk)]
  ·have ue:i∈r:=(List.mem_cons.1 hi).resolve_left (Ne.symm e);have ih:=oj r hn.2 ue hlt hf;rw[List.filter_cons,List.filter_cons,other j e];split
   ·simp only[List.length_cons];omega
   ·exact ih
theorem St.Jg (h:St P aa nt all l E0 cD s0 w0 a0 X D B ρ cs lo tm S a w) (hall:∀y∈l,D y.i):bt aa nt ρ tm a:=by
 refine⟨h.sz,h.tk,λt v hv=>?_⟩;have hg:au aa lo tm t=some v:=by unfold au;rw[h.tk t v hv];exact hv
 by_cases hex:∃y∈l,y.o.dst=some t
 ·obtain⟨y,hy,g8⟩:=hex;obtain⟨v',u,e1,e2,e3⟩:=h.md y hy (hall y hy) t g8;rw[hg]at e1;cases e1;exact⟨u,e2,e3⟩
 ·rw[h.wi t λy hy _ g8=>hex ⟨y,hy,g8⟩]at hg;obtain⟨u,e1,e2⟩:=h.e0 t v hg;exact⟨u,by rw[h.m0 t λy hy _ g8=>hex ⟨y,hy,g8⟩];exact e1,e2⟩
theorem y7 {kf:K} {Sp:aE->Prop} (hF:fq F) (hev:EvOk P ev) (hD:dQ P aa all l I) (hW:wv all l) (gj:cr aa nt all.toList (aF l) (aF l).length l=some last) (hQ:∀D B ρ cs lo tm S a w,(∀y∈l,D y.i)->St P aa nt all l E0 cD s0 w0 a0 (Xs l (aF l).length l.length) D B ρ cs lo tm S a w->J D ρ S lo tm w->kf lo tm S= .code x' tm' s'->Q .normal a w) (SC:∀x∈l,I x->Sp x) (TR:∀x∈l,Sp x->lI x.r=false) (TS:∀(D:Nat->Prop) (c:Nat) ρ S lo tm w br aw S1,1<=c->(∀y∈l,D y.i->Xs l c 0 y)->J D ρ S lo tm w->Grow l aa ρ (Xs l c 0) lo tm S br aw S1->J D ρ S1 br aw w) (TT:∀(D:Nat->Prop) ρ S lo tm w x aj w',x∈l->¬Sp x->J D ρ S lo tm w->aG ρ aj->Quiet ρ w aj w'->J (λi=>D i∨i=x.i) aj S lo tm w') (hJs:∀(c:Nat) (D:Nat->Prop) B ρ cs lo tm S a w x (N:Act->World->Prop),x∈l->Sp x->¬D x.i->(∀j,av x.m j=true->D j)->(∀y∈l,D y.i->∀j,av y.m j=true->D j)->Xs l c l.length x->St P aa nt all l E0 cD s0 w0 a0 (Xs l c l.length) D B ρ cs lo tm S a w->J D ρ S lo tm w->
   (∀aj a' w',St P aa nt all l E0 cD s0 w0 a0 (Xs l c l.length) (λi=>D i∨i=x.i) B aj cs lo tm S a' w'->J (λi=>D i∨i=x.i) aj S lo tm w'->N a' w')->wpOpIn F 0 P all Q x.i N a w) (TU:∀(c:Nat) (D:Nat->Prop) B ρ cs S lo tm a w x aj S1 br aw w1 v,x∈l->lI x.r=true->¬D x.i->St P aa nt all l E0 cD s0 w0 a0 (Xs l c l.length) D B ρ cs lo tm S a w->(∀t,x.o.dst=some t->¬ ∃y∈l,y≠x∧y.o.dst=some t)->oz l x=c->J D ρ S lo tm w->Rel P aj S1 w1->aN ρ S w aj S1 w1->(∀t,au aa br aw t=if x.o.dst=some t then some v else au aa lo tm t)->J (λi=>D i∨i=x.i) aj S1 br aw w1):
  ∀(fuel:Nat) (listed:Array Bool) (D:Nat->Prop) (B:Nat->Nat->Prop) (ρ:Ren) (cs:List ig) (lo:Lo) (tm:T Value) (S:AS) (a:Act) (w:World) (done todo:List aE),
   listed.size=all.size->(∀i,D i↔listed.getD i false=true)->(∀y∈l,D y.i->∀j,av y.m j=true->D j)->((List.range all.size).filter (λi=>!listed.getD i true)).length<=fuel->
   aF l=done++todo->(∀y∈done,D y.i)->(∀y∈todo,¬D y.i)->St P aa nt all l E0 cD s0 w0 a0 (Xs l done.length l.length) D B ρ cs lo tm S a w->J D ρ S lo tm w->bq done.length S cs=true->
   Kr P aa nt all l ev last kf todo done.length cs lo tm S (.code x' tm' s')->wpAnyIn F 0 P .any all Q fuel listed a w:=by
 intro fuel;induction fuel with
 |zero=>
  intro listed D B ρ cs lo tm S a w done todo hsz Dm eP Od dN nb rB h hJ pR lO;have hall:∀i,i<all.size->listed.getD i true=true:= λi hi=>by
   cases hb:listed.getD i true with
   |true=>rfl
   |false=>have hm:i∈(List.range all.size).filter (λi=>!listed.getD i true):=List.mem_filter.2 ⟨List.mem_range.2 hi,by rw[hb];rfl⟩;have:=List.length_pos_of_mem hm;omega
  have hr:Region.ready .any all listed= []:=by rw[List.eq_nil_iff_forall_not_mem];intro i hi;obtain⟨h1,h2,_⟩:=pc.1 hi;rw[hall i h1]at h2;cases h2
  refine⟨hr,?_⟩;have rC:∀y∈l,D y.i:= λy hy=>by
   have hlt:y.i<all.size:=by rw[<-hD.len];exact(List.getElem?_eq_some_iff.1 (hD.mem hy)).1
   have:=hall y.i hlt;rw[Dm,Array.getD_eq_getD_getElem?];rw[Array.getD_eq_getD_getElem?]at this;rw[Array.getElem?_eq_getElem (by omega)]at this⊢;exact this
  have L9:todo= []:=by
   cases todo with
   |nil=>rfl
   |cons z rest=>exact(rB z (by simp) (rC z ((kx (l:=l)).1 (by rw[dN];simp)).1)).elim
  subst L9;have hlen:done.length=(aF l).length:=by rw[dN];simp
  rw[hlen]at h;exact hQ D B ρ cs lo tm S a w rC h hJ lO
 |succ fuel ih=>
  intro listed D B ρ cs lo tm S a w done todo hsz Dm eP Od dN nb rB h hJ pR lO;refine⟨λhr=>?_,λi hi=>?_⟩
  ·
   have rC:∀n,∀y∈l,y.i=n->D y.i:=by
    intro n;induction n using Nat.strongRecOn with
    |_ n TV=>
     intro y hy VJ;by_cases hb:D y.i
     ·exact hb
     exfalso;have hlt:y.i<all.size:=by rw[<-hD.len];exact(List.getElem?_eq_some_iff.1 (hD.mem hy)).1
     have eJ:y.i∈Region.ready .any all listed:=pc.2 ⟨hlt,by
       have:¬listed.getD y.i false=true:= λe=>hb ((Dm _).2 e);rw[Array.getD_eq_getD_getElem?,Array.getElem?_eq_getElem (by omega)]at this⊢;simpa using this,y.o,hD.op y hy,λe he Mi=>by
       have HC:=hD.below y hy _ (hD.dir y hy e he Mi);have D7:e.on<l.length:=by have:=(List.getElem?_eq_some_iff.1 (hD.mem hy)).1;omega
       have hz:=hD.at_ e.on l[e.on] (by simp[D7]);have:=TV e.on (by omega) l[e.on] (by simp) hz;rw[hz]at this;exact(Dm _).1 this⟩
     rw[hr]at eJ;cases eJ
   have rC:∀y∈l,D y.i:= λy hy=>rC y.i y hy rfl;have L9:todo= []:=by
    cases todo with
    |nil=>rfl
    |cons z rest=>exact(rB z (by simp) (rC z ((kx (l:=l)).1 (by rw[dN];simp)).1)).elim
   subst L9;have hlen:done.length=(aF l).length:=by rw[dN];simp
   rw[hlen]at h;exact hQ D B ρ cs lo tm S a w rC h hJ lO
  ·obtain⟨hlt,IB,o,ho,F9⟩:=pc.1 hi;obtain⟨x,hx,rfl,rfl⟩:=hD.Q4 ho;have Ks:x.i<listed.size:=by omega
   have lK:¬D x.i:= λe=>by have:=(Dm _).1 e;rw[Array.getD_eq_getD_getElem?,Array.getElem?_eq_getElem Ks]at this IB;simp only[Option.getD_some]at this IB;rw[IB]at this;cases this
   have gp:∀j,av x.m j=true->D j:= λj hj=>by
    obtain⟨e,he,hb,h1|⟨y,hy,Mg,TW⟩⟩:=hD.back x hx j hj
    ·rw[<-h1];exact(Dm _).2 (F9 e he hb)
    ·exact eP y hy (by rw[Mg];exact(Dm _).2 (F9 e he hb)) j TW
   have Ah:(listed.setIfInBounds x.i true).size=all.size:=by simpa using hsz
   have Kt:∀i,(D i∨i=x.i)↔(listed.setIfInBounds x.i true).getD i false=true:= λi=>by
    rw[Array.getD_eq_getD_getElem?];by_cases e:i=x.i
    ·subst e;rw[Array.getElem?_setIfInBounds_self_of_lt Ks];simp
    ·rw[Array.getElem?_setIfInBounds_ne (Ne.symm e),<-Array.getD_eq_getD_getElem?,<-Dm];simp[e]
   have AX:∀y∈l,(D y.i∨y.i=x.i)->∀j,av y.m j=true->(D j∨j=x.i):= λy hy iS j hj=>by
    rcases iS with iS|iS
    ·exact .inl (eP y hy iS j hj)
    ·rw[hD.inj hy hx iS]at hj;exact .inl (gp j hj)
   have AY:((List.range all.size).filter (λi=>!(listed.setIfInBounds x.i true).getD i true)).length<=fuel:=by have:=oj (listed:=listed) (i:=x.i) (List.range all.size) List.nodup_range (List.mem_range.2 hlt) Ks IB;omega
   have Jh:cnt (λi=>listed.getD i false) (aF l)=done.length:=by
    rw[dN,s7,xn (λy hy=>(Dm _).1 (nb y hy)),sd (λy hy=>by
     cases hb:listed.getD y.i false with
     |false=>rfl
     |true=>exact(rB y hy ((Dm _).2 hb)).elim),Nat.add_zero]
   have Nf:oz l x<=done.length:=by unfold oz;rw[fD,<-Jh];exact wO λy _ hb=>(Dm _).1 (gp _ hb)
   cases ir:lI x.r with
   |false=>
    have x8:Xs l done.length l.length x:=by
     rcases Nat.lt_or_eq_of_le Nf with h'|h'
     ·exact .inl h'
     ·exact .inr ⟨h',ir,(List.getElem?_eq_some_iff.1 (hD.mem hx)).1⟩
    have JI:done.length<=dq x.i (aF l):=by
     rw[<-Jh];refine y3 λy hy iS=>?_;cases hb:av y.m x.i with
     |false=>rfl
     |true=>exact(lK (eP y (kx.1 hy).1 ((Dm _).2 iS) _ hb)).elim
    have O6:∀y∈todo,¬(D y.i∨y.i=x.i):= λy hy iS=>by
     rcases iS with iS|iS
     ·exact rB y hy iS
     ·have Av:=(kx (l:=l)).1 (show y∈aF l by rw[dN];simp[hy]);rw[hD.inj Av.1 hx iS,ir]at Av;cases Av.2
    by_cases iP:Sp x
    ·exact hJs done.length D B ρ cs lo tm S a w x _ hx iP lK gp eP x8 h hJ λaj a' w' h' hJ'=>ih _ _ B aj cs lo tm S a' w' done todo Ah Kt AX AY dN (λy hy=> .inl (nb y hy)) O6 h' hJ' pR lO
    ·exact Gw hF hD hW h pR eP hx (λhi=>iP (SC x hx hi)) ir x8 lK gp JI λaj a' w' h' hle hq=>ih _ _ B aj cs lo tm S a' w' done todo Ah Kt AX AY dN (λy hy=> .inl (nb y hy)) O6 h' (TT D ρ S lo tm w x aj w' hx iP hJ hle hq) pR lO
   |true=>
    have JJ:¬I x:= λhi=>by have:=TR x hx (SC x hx hi);rw[ir]at this;cases this
    have Ku:x∈aF l:=kx.2 ⟨hx,ir⟩;have Ga:x∈todo:=by rw[dN,List.mem_append]at Ku;exact Ku.resolve_left λe=>lK (nb x e)
    have CE:=hW.sorted;rw[dN,List.pairwise_append]at CE;obtain⟨gZ,hs2,hs3⟩:=CE;cases todo with
    |nil=>cases Ga
    |cons z rest=>
     have HD:z∈aF l:=by rw[dN];simp
     have TX:z=x:=by
      rcases List.mem_cons.1 Ga with e|e
      ·exact e.symm
      ·rw[List.pairwise_cons]at hs2;have hlt:=hs2.1 x e;exact(rB z (by simp) (gp _ (hW.chain z HD x Ku hlt))).elim
     subst TX;have hn:oz l z=done.length:=by
      unfold oz;rw[fD,dN,s7,xn (λy hy=>hW.chain y (by rw[dN];simp[hy]) z HD (hs3 y hy z (by simp))),sd (λy hy=>?_),Nat.add_zero];cases hb:av z.m y.i with
      |false=>rfl
      |true=>
       have h1:=hD.below z hx _ hb;rw[List.pairwise_cons]at hs2;rcases List.mem_cons.1 hy with rfl|hy
       ·omega
       ·have:=hs2.1 y hy;omega
     have rA:∀y∈l,lI y.r=true->oz l y=done.length->y=z:= λy hy Av VK=>by
      have Ng:=kx.2 ⟨hy,Av⟩;rcases Nat.lt_trichotomy y.i z.i with e|e|e
      ·rcases kG hD hx hy (hW.chain y Ng z HD e)with h'|⟨_,h',_⟩
       ·omega
       ·rw[Av]at h';cases h'
      ·exact hD.inj hy hx e
      ·rcases kG hD hy hx (hW.chain z HD y Ng e)with h'|⟨_,h',_⟩
       ·omega
       ·rw[ir]at h';cases h'
     obtain⟨d,cw,Aw,hd,JH,Q8,hrun⟩:=lO;have ht:∀t,(∀y∈l,y.o.dst=some t->Dl l y z->au aa lo tm t=au aa lo tm t)∧((∀y∈l,y.o.dst=some t->¬Dl l y z)->au aa lo tm t=E0 t):= λt=>
      ⟨λ_ _ _ _=>rfl,λhb=>h.wi t λy hy TY g8=>hb y hy g8 (by
       rcases TY with h'|⟨h1,h2,_⟩
       ·left;omega
       ·right;exact⟨by omega,h2,.inl ir⟩)⟩
     have um:∀t∈eU all.toList z.o,∀v,au aa lo tm t=some v->ag ρ v (a.eval (.tmp t)):= λt hu v hv=>h.use hD hW eP hx lK gp ht hu hv;have dP:=lF um;have next:∀ {aj:Ren} {v u:Value} {s1:AS} {w1:World},ei d v (bR ev Aw last kf (done.length+1) cs) lo tm s1= .code x' tm' s'->ag aj v u->Rel P aj s1 w1->aN ρ S w aj s1 w1->
       wpAnyIn F 0 P .any all Q fuel (listed.setIfInBounds z.i true) (a.put z.o.dst u) w1:=by
      intro aj v u s1 w1 hp hv dn dv;obtain⟨br,aw,lf,ic,Dk,GU⟩:=y4 hd h.tk hp;have h1:=h.wrote hD hW hx ir hn rA ic Dk GU hv dn dv;have hlen:done.length+1+rest.length=(aF l).length:=by rw[dN];simp;omega
      obtain⟨B2,P7,LK,oO,S2,h2,g2,Oe,Le⟩:=vI hD hW Q8 gj hlen h1 lf;have TZ:=TU done.length D B ρ cs S lo tm a w z aj s1 br aw w1 v hx ir lK h (λt ht ⟨y,hy,hne,T0⟩=>hW.dst hx hy (λe=>hne (hD.inj hy hx e.symm)) T0 ht) hn hJ dn dv ic;have hJ2:=TS _ _ _ _ _ _ _ _ _ _ (Nat.le_add_left _ _) h1.dX TZ g2;refine ih _ _ B2 aj P7 LK oO S2 _ w1 (done++ [z]) rest Ah Kt AX AY (by rw[dN];simp) (λy hy=>?_) (λy hy iS=>?_) (by simpa using h2) hJ2 (by simpa using Oe) (by simpa using Le)
      ·rcases List.mem_append.1 hy with hy|hy
       ·exact .inl (nb y hy)
       ·simp only[List.mem_singleton]at hy;rw[hy];exact .inr rfl
      ·rcases iS with iS|iS
       ·exact rB y (by simp[hy]) iS
       ·rw[List.pairwise_cons]at hs2;have:=hs2.1 y hy;omega
     unfold wpOpIn;rw[hD.op z hx];simp only;rcases lj JH with ⟨hg,rfl⟩|⟨j,want,g,hg,As,rfl⟩
     ·have hw:Region.wanted z.o (yielded all a.tmps)=true:=by unfold Region.wanted;rw[hg]
      rw[if_pos hw];exact AW hF hev (hD.rd z hx JJ) hrun dP h.rel next
     ·have B6:D3 (ej want (g lo tm)) (dw ev (oC z.r d) (bR ev Aw last kf (done.length+1) cs) lo tm S) (ei d (.tuple #[]) (bR ev Aw last kf (done.length+1) cs) lo tm S)= .code x' tm' s':=hrun;obtain⟨y,hy,B6⟩:=sf B6;have hw:=sb (ρ:=ρ) (al:= []) (λd g v ⟨o',gz,uk⟩ hm hv=>by
       rw[gS hm]at hv;exact um d (s9 hg gz uk) v hv) hg As hy
      cases y with
      |true=>rw[if_pos hw];exact AW hF hev (hD.rd z hx JJ) B6 dP h.rel next
      |false=>rw[if_neg (by rw[hw];simp)];exact⟨λf _=>hF.fn f,next B6 (.tuple .nil) h.rel (.refl _ _ _)⟩
end
theorem Im {ops:Array Oper} {f:CF} (hm:P.follows .mixedOrders=true) (h:rG P aa nt ops.toList kq=some f):du P aa nt (.region id ops true) f:=by
 have h:(ob (rv ops.toList []) λms=>ob (CS P aa ops.toList 0 ms) λl=>
  ab (jx (aF l) none) (ab (lq ops.toList l)
   (ob (ko aa nt ops.toList (aF l) l (aF l) 0) λst=>ob (cr aa nt ops.toList (aF l) (len (aF l)) l) λlast=>kq st last) none) none)=some f:=h
 obtain⟨ms,GV,h⟩:=U h;obtain⟨l,hl,h⟩:=U h;obtain⟨Hf,h⟩:=ae h;obtain⟨P8,h⟩:=ae h;obtain⟨st,lJ,h⟩:=U h;obtain⟨last,gj,h⟩:=U h;obtain rfl:=Dr h;have hD:=CC GV hl;have hW:=F7 hD Hf P8;rw[aV]at gj;intro ev hev F hF ρ tm s a w x tm' s' hr hE n0 fh hM hL hR Q hQ;have hr:bR ev st last lS 0 [] .nil tm s= .code x tm' s':=hr;refine wpIn_region_any hm ?_;have eN:Rel P ρ s {w with drawn:=w.drawn+1}:=hR.of_heap rfl;have h0:St P aa nt ops l (au aa .nil tm) ρ s w a (Xs l 0 0) (λ_=>False) (λ_ _=>False) ρ [] .nil tm s a {w with drawn:=w.drawn+1}:=by
  refine⟨hE.tk,λt _=>rfl,λy _ hX _ _=>?_,λ_ _ h=>h.elim,λ_ _ _ h=>h.elim,λ_ _ h=>h.elim,λ_ _ h=>h.elim,λ_ _=>rfl,λt v hv=>?_,eN,.of_heap rfl rfl rfl rfl,rfl,hE.size⟩
  ·rcases hX with h|⟨_,_,h⟩<;>omega
  ·unfold au at hv;rw[ah]at hv;split at hv
   ·exact hE.env t v hv
   ·cases hv
 obtain⟨B1,dU,br,aw,S1,h1,_,pR,lO⟩:=vI hD hW lJ gj (by simp) h0 hr;refine y7 (J:= λ_ _ _ _ _ _=>True) (Sp:= λ_=>False) hF hev hD hW gj (λD B ρ cs lo tm S a w hall h _ hk=>?_) (λ_ _ h=>h) (λ_ _ h=>h.elim) (by intros;trivial) (by intros;trivial) (λ_ _ _ _ _ _ _ _ _ _ _ _ _ h=>h.elim) (by intros;trivial)
  ops.size (Array.replicate ops.size false) _ B1 ρ dU br aw S1 a _ [] (aF l) (by simp) (λi=>?_) (λ_ _ h=>h.elim) ?_ rfl (λ_ h=>by cases h) (λ_ _ h=>h) h1 trivial pR lO
 ·cases hk;exact hQ ρ a w (h.Jg hall) (by rw[h.df];exact hM.step h.yq) h.rel h.yq
 ·rw[Array.getD_eq_getD_getElem?,Array.getElem?_replicate];constructor
  ·exactλh=>h.elim
  ·intro h;split at h<;>cases h
 ·exact Nat.le_trans (List.length_filter_le _ _) (by simp)
end Go.Eng
end
noncomputable section
namespace Go.Eng
open Go
variable {S1 s s' s0:AS} {a:Act} {N:Act->World->Prop} {ents:Array MapEntry} {I X:aE->Prop} {ev:Ev} {Q:Exit->Act->World->Prop} {F:Fence} {es bf:List (Value×Value×Nat)} {last:List DR} {Aw:List iU} {lo br:Lo} {x:Loc} {b ck id aa mb nt:Nat} {o':Obj} {o:Oper} {P:Program} {ρ aj cD:Ren} {tm tm' aw:T Value} {k v v' x':Value} {r:Value×AS} {w w':World}
theorem Rel.other (hr:Rel P ρ s w) (hn:¬aQ ρ s b) (dH:∀i,w.cell? ⟨b,i,none⟩=none):Rel P ρ s {w with heap:=w.heap.setIfInBounds b o'}:=
 ⟨hr.eu,hr.top,λa k x e e'=>by
  obtain⟨h1,h2⟩:=hr.blk a k x e e';have hne:b≠x.b:= λhe=>hn ⟨a,k,x,e,e',he.symm⟩;exact⟨by simpa using h1,h2.congr (by simp[hne])⟩,hr.lim,hr.aX,λg gl vs g1 g2=>by
  obtain⟨a,b',c⟩:=hr.gl g gl vs g1 g2;have hne:=hr.gl.ne dH g1 g2;exact⟨by simpa using a,b',λi v hv=>by rw[eG (w:=w) (by simp[hne])];exact c i v hv⟩⟩
theorem aN.other {w0:World} (hS:aN cD s0 w0 ρ s w) (Mj:Rel P cD s0 w0) (hb:w0.heap.size<=b):aN cD s0 w0 ρ s {w with heap:=w.heap.setIfInBounds b o'}:=by
 have hk:∀c,c<w0.heap.size->({w with heap:=w.heap.setIfInBounds b o'}:World).heap[c]? =w.heap[c]?:= λc hc=>by
  have:b≠c:=by omega
  simp[this]
 refine⟨hS.jY,hS.nx,hS.tape,hS.os,hS.out,by simpa using hS.size,λc hc hn=>⟨by rw[hk c hc];exact(hS.frame c hc hn).1,(hS.frame c hc hn).2⟩,hS.ph,λc r hc=>?_,hS.lim,hS.low,λa k x ha hn e hro e'=>?_⟩
 ·obtain⟨r',h1⟩:=hS.lp c r hc;exact⟨r',by rw[hk c (Array.getElem?_eq_some_iff.1 hc).1];exact h1⟩
 ·rw[hk _ (Mj.blk a k x e e').1];exact hS.gD a k x ha hn e hro e'
theorem F2.Ji {α β:Type} {R:α->β->Prop}:∀ {l l':List α} {m:List β},l.Perm l'->F2 R l m->∃m',m.Perm m'∧F2 R l' m':=by
 intro l l' m hp;induction hp generalizing m with
 |nil=>intro h;exact⟨m,.refl _,h⟩
 |cons x _ ih=>
  intro h;cases h with
  |cons h hs=>obtain⟨m',h1,h2⟩:=ih hs;exact⟨_::m',h1.cons _,.cons h h2⟩
 |swap x y l=>
  intro h;cases h with
  |cons h hs=>cases hs with|cons h' hs=>exact⟨_,.swap _ _ _,.cons h' (.cons h hs)⟩
 |trans _ _ Mk Ml=>intro h;obtain⟨m1,h1,h2⟩:=Mk h;obtain⟨m2,h3,h4⟩:=Ml h2;exact⟨m2,h1.trans h3,h4⟩
theorem F2.length {α β:Type} {R:α->β->Prop}:∀ {l:List α} {m:List β},F2 R l m->l.length=m.length
 |_,_,.nil=>rfl
 |_,_,.cons _ hs=>by simp[F2.length hs]
theorem F2.imp {α β:Type} {R R':α->β->Prop}:∀ {l:List α} {m:List β},F2 R l m->(∀a∈l,∀b∈m,R a b->R' a b)->F2 R' l m
 |_,_,.nil,_=> .nil
 |_,_,.cons h hs,hi=> .cons (hi _ (by simp) _ (by simp) h) (F2.imp hs λa ha b hb=>hi a (by simp[ha]) b (by simp[hb]))
theorem Bs {t kt e:TypeId} (iq:P.underlying t=some (.map kt e)) (hh:w.heap[mb]? =some (.map ents ck)) (fj:aW P ρ kt es ents) (eM:aC P kt k=true) (dH:∀p∈es,p.1≠k):(Instr.mapUpdate t (.map (some mb)) k x').run P w= .ok () {w with heap:=w.heap.setIfInBounds mb (.map (ents.push {key:=k,val:=x',born:=ck}) (ck+1))}:=by have jo:=cu (P:=P) eM w fj.fits;rw[fj.oM dH]at jo;simp only[Instr.mapUpdate,Sem.run_bind,run_underlying iq,Result.andThen_ok,Sem.run_pure,ar hh (by simp),aA eM,jo,aM hh (by simp)]
theorem Bt {kt:TypeId} {x:Value} (fj:aW P ρ kt es ents) (eM:aC P kt k=true) (dH:∀p∈es,p.1≠k) (hx:ag ρ x x'):
  aW P ρ kt (es++ [(k,x,0)]) (ents.push {key:=k,val:=x',born:=ck}):=by
 obtain⟨l,hp,hf,hn⟩:=fj;refine⟨l++ [{key:=k,val:=x',born:=ck}],by rw[Array.toList_push];exact hp.append_right _,F2.append (.cons ⟨rfl,eM,dh eM,hx,.inl rfl⟩ .nil) hf,?_⟩;rw[List.map_append,List.nodup_append];refine⟨hn,by simp,λa ha b hb=>?_⟩;obtain⟨p,oQ,rfl⟩:=List.mem_map.1 ha;simp only[List.map_cons,List.map_nil,List.mem_singleton]at hb;subst hb;exact dH p oQ
theorem aW.Of {kt:TypeId} (h:aW P ρ kt es ents) (hp:es.Perm bf):aW P ρ kt bf ents:=by obtain⟨l,h1,h2,h3⟩:=h;obtain⟨l',h4,h5⟩:=h2.Ji hp;exact⟨l',h4.symm.trans h1,h5,(hp.map _).nodup_iff.1 h3⟩
theorem aW.zero {kt:TypeId} (h:aW P ρ kt es ents) (hz:F2 (λp q=>p.1=q.1∧p.2.1=q.2.1∧q.2.2=0) es bf):aW P ρ kt bf ents:=by
 obtain⟨l,h1,h2,h3⟩:=h;have key:∀ {es bf:List (Value×Value×Nat)} {l:List MapEntry},F2 (λp q=>p.1=q.1∧p.2.1=q.2.1∧q.2.2=0) es bf->F2 (bN P ρ kt) es l->F2 (bN P ρ kt) bf l∧bf.map (·.1)=es.map (·.1):=by
  intro es bf l hz;induction hz generalizing l with
  |nil=>intro h;cases h;exact⟨.nil,rfl⟩
  |cons hh _ ih=>
   intro h;cases h with
   |cons a b=>obtain⟨i1,i2⟩:=ih b;obtain⟨e1,e2,e3⟩:=hh;obtain⟨a1,a2,a3,a4,_⟩:=a;exact⟨.cons ⟨by rw[<-e1];exact a1,by rw[<-e1];exact a2,by rw[<-e1];exact a3,by rw[<-e2];exact a4,.inl e3⟩ i1,by simp[i2,e1]⟩
 obtain⟨k1,k2⟩:=key hz h2;exact⟨l,h1,k1,by rw[k2];exact h3⟩
theorem CG {v:Operand} {f:cI} (h:bA aa [] v=some f) (he:∀t,v= .tmp t->au aa br aw t=au aa lo tm t):f br aw=f lo tm:=by
 cases v with
 |tmp t=>rw[gS h,gS h,he t rfl]
 |const c=>have h:(match cT c with|some v=>some (LZ v)|none=>some (λ_ _=>none))=some f:=h;split at h<;>(cases h;rfl)
 |global g=>cases h;rfl
 |func g=>cases h;rfl
theorem mC {q:wb} (h:dy aa o=some q):∃c v,o.guard=none∧o.dst=none∧o.op= .insert q.t (.tmp q.m) (.const c) v∧cT c=some q.k∧bA aa [] v=some q.v:=by
 unfold dy at h;split at h
 ·rename_i t m k v h1 h2 h3;obtain⟨k',hk,h⟩:=U h;obtain⟨v',hv,h⟩:=U h;cases h;exact⟨k,v,h1,h2,h3,hk,hv⟩
 ·cases h
theorem uN (h:cT v=some v'):v'=v:=by unfold cT at h;split at h<;>first|(cases h;rfl)|cases h
structure C4 (P:Program) (aa:Nat) (l:List aE) (x0:aE) (t mt:Nat) (kt:TypeId):Prop where
 mem:x0∈l
 guard:x0.o.guard=none
 dst:x0.o.dst=some mt
 op:x0.o.op= .makeMap t none
 oz:oz l x0=0
 key:∃e,P.underlying t=some (.map kt e)
 look:∀x∈l,ba x.o=true->∃q,dy aa x.o=some q∧q.t=t∧q.m=mt∧aC P kt q.k=true∧av x.m x0.i=true∧(∀T m k s,x.o.op= .insert T m k (.tmp s)->∀y∈l,y.o.dst=some s->av x.m y.i=true)∧x.r= .p (λlo tm _=>ob (q.v lo tm) λ_=>some (.tuple #[]))
 apart:∀x∈l,∀y∈l,ba x.o=true->ba y.o=true->x≠y->∀q q',dy aa x.o=some q->dy aa y.o=some q'->q.k≠q'.k
def HE (aa:Nat) (l:List aE) (D:Nat->Prop) (lo:Lo) (tm:T Value) (x:aE) (e:Value×Value×Nat):Prop:=
 ∃q,dy aa x.o=some q∧e.1=q.k∧q.v lo tm=some e.2.1∧∀T m k s,x.o.op= .insert T m k (.tmp s)->∀y∈l,y.o.dst=some s->D y.i
theorem HE.env {l:List aE} {D D':Nat->Prop} {x:aE} {e:Value×Value×Nat} (h:HE aa l D lo tm x e) (hD:∀i,D i->D' i) (he:∀t,(∀y∈l,y.o.dst=some t->D y.i)->au aa br aw t=au aa lo tm t):HE aa l D' br aw x e:=by obtain⟨q,h1,h2,h3,h4⟩:=h;refine⟨q,h1,h2,?_,λT m k s e y hy hd=>hD _ (h4 T m k s e y hy hd)⟩;obtain⟨c,v,_,_,ho,_,hv⟩:=mC h1;rw[<-h3];exact CG hv λt et=>he t (h4 _ _ _ t (by rw[ho,et]))
theorem tb {b:Blk} (h:(aq s.nx λa=>ob (s.new b) λs'=>some (.map (some a),s'))=some r):(ob (s.new b) λs'=>some (.map (some s.nx),s'))=some r:=by rw[ak]at h;exact h
def MJ (P:Program) (aa:Nat) (l:List aE) (x0:aE) (mt:Nat) (kt:TypeId) (s0:AS) (w0:World) (bm:Nat) (D:Nat->Prop) (ρ:Ren) (S:AS) (lo:Lo) (tm:T Value) (w:World):Prop:=
 au aa lo tm mt=some (.map (some bm))∧S.h.get bm=none∧bm<S.nx∧s0.nx<=bm∧
 (D x0.i->∃loc L es,ρ bm=some loc∧loc.b<w.heap.size∧w0.heap.size<=loc.b∧¬aQ ρ S loc.b∧cj P ρ loc w (.map kt es es.length)∧List.Nodup L∧(∀x,x∈L↔x∈l∧ba x.o=true∧D x.i)∧F2 (HE aa l D lo tm) L es)
section
variable {all:Array Oper} {l:List aE} {E0:Nat->Option Value} {w0:World} {a0:Act} {D:Nat->Prop} {B:Nat->Nat->Prop} {cs:List ig} {S:AS}
variable {x0:aE} {t mt bm:Nat} {kt:TypeId}
theorem mE (hD:dQ P aa all l I) (hM:C4 P aa l x0 t mt kt) (hI:¬I x0) (h:St P aa nt all l E0 cD s0 w0 a0 X D B ρ cs lo tm S a w) (hX:X x0) (hJ:au aa lo tm mt=some (.map (some bm))) (hn:¬D x0.i):ρ bm=none∧B x0.i bm:=by
 have dL:=hD.rd x0 hM.mem hI;rw[hM.op]at dL;obtain⟨ke,iq,dL⟩:=U dL;have hw:lI x0.r=false:=by rw[<-Option.some.inj dL];rfl
 obtain⟨ga,tm',v,dT,hd,_⟩:=h.Hc x0 hM.mem hX hw hn;unfold wx at dT;rw[hM.guard]at dT;unfold jm at dT;rw[<-Option.some.inj dL]at dT;obtain⟨s1,JG,h1,h2,h3,h4,h5⟩:=dT;obtain⟨s2,hs2,h1⟩:=U (tb h1);have:=(hd mt hM.dst).2;rw[hJ]at this;cases h1;cases this;exact⟨h4,h2⟩
theorem MJ.grow {c:Nat} (hD:dQ P aa all l I) (hW:wv all l) (hM:C4 P aa l x0 t mt kt) (hc:1<=c) (hX:∀y∈l,D y.i->Xs l c 0 y) (hJ:MJ P aa l x0 mt kt s0 w0 bm D ρ S lo tm w) (g:Grow l aa ρ (Xs l c 0) lo tm S br aw S1):
  MJ P aa l x0 mt kt s0 w0 bm D ρ S1 br aw w:=by
 obtain⟨j1,j2,j3,j4,j5⟩:=hJ;have LL:Xs l c 0 x0:= .inl (by rw[hM.oz];omega);refine⟨?_,by rw[g.old bm j3];exact j2,Nat.lt_of_lt_of_le j3 g.nx,j4,λhd=>?_⟩
 ·rw[g.env mt λy hy hn g8=>?_]
  ·exact j1
  ·have:y=x0:=by
    by_cases e:y.i=x0.i
    ·exact hD.inj hy hM.mem e
    ·exact(hW.dst hy hM.mem e hM.dst g8).elim
   rw[this]at hn;exact hn LL
 ·obtain⟨loc,L,es,k1,k2,k3,k4,k5,k6,k7,k8⟩:=j5 hd;refine⟨loc,L,es,k1,k2,k3,λ⟨b,k,x,e1,e2,e3⟩=>?_,k5,k6,k7,k8.mono λx e P9=>P9.env (λ_ h=>h) λs hs=>g.env s λy hy hn g8=>hn (hX y hy (hs y hy g8))⟩;by_cases hb:b<S.nx
  ·rw[g.old b hb]at e1;exact k4 ⟨b,k,x,e1,e2,e3⟩
  ·rw[g.new b (by omega)]at e2;cases e2
theorem MJ.quiet {x:aE} (hx:x∈l) (hne:x.i≠x0.i) (Aj:ba x.o=false) (hD:dQ P aa all l I) (hJ:MJ P aa l x0 mt kt s0 w0 bm D ρ S lo tm w) (hle:aG ρ aj) (hq:Quiet ρ w aj w'):
  MJ P aa l x0 mt kt s0 w0 bm (λi=>D i∨i=x.i) aj S lo tm w':=by
 obtain⟨j1,j2,j3,j4,j5⟩:=hJ;refine⟨j1,j2,j3,j4,λhd=>?_⟩;obtain⟨loc,L,es,k1,k2,k3,k4,k5,k6,k7,k8⟩:=j5 (hd.resolve_right λe=>hne e.symm);refine⟨loc,L,es,hle _ _ k1,Nat.lt_of_lt_of_le k2 hq.size,k3,λ⟨b,k,y,e1,e2,e3⟩=>?_,(k5.congr (hq.old _ k2)).mono hle,k6,λz=>?_,k8.mono λz e Mm=>Mm.env (λ_ h=> .inl h) λ_ _=>rfl⟩
 ·cases h:ρ b with
  |none=>have:=hq.new b y h e2;omega
  |some y'=>have:=hle b y' h;rw[e2]at this;cases this;exact k4 ⟨b,k,_,e1,h,e3⟩
 ·rw[k7];constructor
  ·rintro⟨h1,h2,h3⟩;exact⟨h1,h2,.inl h3⟩
  ·rintro⟨h1,h2,h3|h3⟩
   ·exact⟨h1,h2,h3⟩
   ·rw[hD.inj h1 hx h3,Aj]at h2;cases h2
theorem MJ.wrote {c:Nat} {x:aE} {w1:World} (hD:dQ P aa all l I) (hM:C4 P aa l x0 t mt kt) (hI:¬I x0) (hx:x∈l) (ir:lI x.r=true) (Aj:ba x.o=false) (lK:¬D x.i) (h:St P aa nt all l E0 cD s0 w0 a0 (Xs l c l.length) D B ρ cs lo tm S a w) (rA:∀t,x.o.dst=some t->¬ ∃y∈l,y≠x∧y.o.dst=some t) (hJ:MJ P aa l x0 mt kt s0 w0 bm D ρ S lo tm w) (hS:aN ρ S w aj S1 w1) (ic:∀t,au aa br aw t=if x.o.dst=some t then some v else au aa lo tm t):MJ P aa l x0 mt kt s0 w0 bm (λi=>D i∨i=x.i) aj S1 br aw w1:=by
 have IF:lI x0.r=false:=by have dL:=hD.rd x0 hM.mem hI;rw[hM.op]at dL;obtain⟨ke,iq,dL⟩:=U dL;rw[<-Option.some.inj dL];rfl
 have LL:x0≠x:= λe=>by rw[e,ir]at IF;cases IF
 have Mn:Xs l c l.length x0:=by
  rcases Nat.eq_zero_or_pos c with h0|h0
  ·exact .inr ⟨by rw[hM.oz,h0],IF,(List.getElem?_eq_some_iff.1 (hD.mem hM.mem)).1⟩
  ·exact .inl (by rw[hM.oz];exact h0)
 have hle:=hS.le h.rel;have hJ':=hJ;obtain⟨j1,j2,j3,j4,j5⟩:=hJ;have Fw:S1.h.get bm=none:=by
  by_cases hd:D x0.i
  ·obtain⟨loc,L,es,k1,k2,k3,k4,_⟩:=j5 hd;cases e:S1.h.get bm with
   |none=>rfl
   |some k=>exact((hS.frame loc.b k2 k4).2 ⟨bm,k,loc,e,hle _ _ k1,rfl⟩).elim
  ·have dH:=(mE hD hM hI h Mn hJ'.1 hd).1;rcases hS.ph bm j3 dH with e|e
   ·rw[e];exact j2
   ·exact e
 refine⟨?_,Fw,Nat.lt_of_lt_of_le j3 hS.nx,j4,λhd=>?_⟩
 ·rw[ic,if_neg (λe=>rA mt e ⟨x0,hM.mem,LL,hM.dst⟩)];exact j1
 ·have hd:D x0.i:=hd.resolve_right λe=>LL (hD.inj hM.mem hx e);obtain⟨loc,L,es,k1,k2,k3,k4,k5,k6,k7,k8⟩:=j5 hd;obtain⟨f1,f2⟩:=hS.frame loc.b k2 k4;refine⟨loc,L,es,hle _ _ k1,Nat.lt_of_lt_of_le k2 hS.size,k3,f2,(k5.congr f1).mono hle,k6,λz=>?_,k8.mono λz e Mm=>Mm.env (λ_ h=> .inl h) λs hs=>?_⟩
  ·rw[k7];constructor
   ·rintro⟨h1,h2,h3⟩;exact⟨h1,h2,.inl h3⟩
   ·rintro⟨h1,h2,h3|h3⟩
    ·exact⟨h1,h2,h3⟩
    ·rw[hD.inj h1 hx h3,Aj]at h2;cases h2
  ·rw[ic];by_cases e:x.o.dst=some s
   ·exact(lK (hs x hx e)).elim
   ·rw[if_neg e]
variable {c:Nat}
theorem MJ.made (hF:fq F) (hD:dQ P aa all l I) (hW:wv all l) (hM:C4 P aa l x0 t mt kt) (hI:¬I x0) (lK:¬D x0.i) (gp:∀j,av x0.m j=true->D j) (eP:∀y∈l,D y.i->∀j,av y.m j=true->D j) (Og:∀y∈l,ba y.o=true->D y.i->D x0.i) (x8:Xs l c l.length x0) (h:St P aa nt all l E0 cD s0 w0 a0 (Xs l c l.length) D B ρ cs lo tm S a w) (hJ:MJ P aa l x0 mt kt s0 w0 bm D ρ S lo tm w) (hN:∀aj a' w',St P aa nt all l E0 cD s0 w0 a0 (Xs l c l.length) (λi=>D i∨i=x0.i) B aj cs lo tm S a' w'->MJ P aa l x0 mt kt s0 w0 bm (λi=>D i∨i=x0.i) aj S lo tm w'->N a' w'):wpOpIn F 0 P all Q x0.i N a w:=by
 have hx:=hM.mem;have dL:=hD.rd x0 hx hI;have cK:=qU dL;rw[hM.op]at dL;obtain⟨ke,iq,dL⟩:=U dL;have hr:=(Option.some.inj dL).symm;have ma:ke.1=kt:=by
  obtain⟨e,he⟩:=hM.key;have:=fJ iq;rw[he]at this;injection this with this
  injection this with h1 _
  exact h1.symm
 have ir:lI x0.r=false:=by rw[hr];rfl
 obtain⟨ga,tm',v,dT,hd,ht⟩:=h.Hc x0 hx x8 ir lK;have um:∀t∈eU all.toList x0.o,∀v,au aa ga tm' t=some v->ag ρ v (a.eval (.tmp t)):= λt hu v hv=>h.use hD hW eP hx lK gp ht hu hv;have dP:=lF um;have JF:∀c,x0.o.op≠.defer c:= λc e=>by rw[hM.op]at e;cases e
 obtain⟨dH,hB⟩:=mE hD hM hI h x8 hJ.1 lK;obtain⟨j1,j2,j3,j4,_⟩:=hJ;unfold wx at dT;rw[hM.guard]at dT;unfold jm at dT;rw[hr]at dT cK;obtain⟨s1,JG,hv,h2,h3,h4,h5⟩:=dT;obtain⟨k,hk,hm⟩:=cK ga tm' s1 _ hv;obtain⟨s2,hs2,eE⟩:=U (tb hv);have Pd:s1.nx=bm:=by have:=(hd mt hM.dst).2;rw[j1]at this;cases eE;cases this;rfl
 have fZ:k= .map kt [] 0:=by cases eE;have e1:=(AS.eg hk).2 s1.nx;have e2:=(AS.eg hs2).2 s1.nx;rw[if_pos rfl]at e1 e2;rw[e1]at e2;rw[<-ma];exact Option.some.inj e2
 subst fZ;obtain⟨m,he,x,u,w',e1,e2,e3,e4,e5,e6,e7,e8,e9⟩:=hm ρ w a.eval h4 dP;rw[Pd]at e8 e9;unfold wpOpIn;rw[hD.op x0 hx];simp only;have hw:Region.wanted x0.o (yielded all a.tmps)=true:=by unfold Region.wanted;rw[hM.guard]
 rw[if_pos hw];refine⟨λf _=>hF.fn f,?_⟩;rw[Oper.semAt_eq _ _ _ JF,he,aI e1];have fp:(ρ.put bm x) bm=some x:=by unfold Ren.put;rw[if_pos rfl]
 refine hN _ _ _ (h.real hD hW hx x8 hd e8 (iM dH x) (h.rel.y6 j3 dH j2 e3 e4) (h.yq.realize h.rel j4 e2 e3 e4 e5 e6 e7) λj b hb hj hn=>?_)
  ⟨j1,j2,j3,j4,λ_=>⟨x,[],[],fp,by omega,by rw[e2];exact h.yq.size,λ⟨b,k,y,f1,f2,f3⟩=>?_,e9,by simp,λz=>?_,.nil⟩⟩
 ·unfold Ren.put;rw[if_neg (λe=>by subst e;exact hj (h.bI _ _ _ hb hB))];exact hn
 ·unfold Ren.put at f2;split at f2
  ·rename_i e;subst e;rw[j2]at f1;cases f1
  ·have:=(h.rel.blk b k y f1 f2).1;omega
 ·simp only[List.not_mem_nil,false_iff];rintro⟨g1,g2,g3|g3⟩
  ·exact lK (Og z g1 g2 g3)
  ·rw[hD.inj g1 hx g3,show ba x0.o=false by unfold ba;rw[hM.op]]at g2;cases g2
theorem MJ.put (hF:fq F) (hD:dQ P aa all l I) (hW:wv all l) (hM:C4 P aa l x0 t mt kt) (Mj:Rel P cD s0 w0) {x:aE} (hx:x∈l) (Aj:ba x.o=true) (lK:¬D x.i) (gp:∀j,av x.m j=true->D j) (eP:∀y∈l,D y.i->∀j,av y.m j=true->D j) (x8:Xs l c l.length x) (h:St P aa nt all l E0 cD s0 w0 a0 (Xs l c l.length) D B ρ cs lo tm S a w) (hJ:MJ P aa l x0 mt kt s0 w0 bm D ρ S lo tm w) (hN:∀aj a' w',St P aa nt all l E0 cD s0 w0 a0 (Xs l c l.length) (λi=>D i∨i=x.i) B aj cs lo tm S a' w'->MJ P aa l x0 mt kt s0 w0 bm (λi=>D i∨i=x.i) aj S lo tm w'->N a' w'):wpOpIn F 0 P all Q x.i N a w:=by
 obtain⟨q,hq,rfl,rfl,eM,Nh,SD,hr⟩:=hM.look x hx Aj;obtain⟨kc,vo,og,od,oo,T1,SE⟩:=mC hq;have T2:=uN T1;have ir:lI x.r=false:=by rw[hr];rfl
 obtain⟨ga,tm',v,dT,hd,ht⟩:=h.Hc x hx x8 ir lK;have um:∀t∈eU all.toList x.o,∀v,au aa ga tm' t=some v->ag ρ v (a.eval (.tmp t)):= λt hu v hv=>h.use hD hW eP hx lK gp ht hu hv;have dP:=lF um;have JF:∀c,x.o.op≠.defer c:= λc e=>by rw[oo]at e;cases e
 unfold wx at dT;rw[og]at dT;unfold jm at dT;rw[hr]at dT;obtain⟨s1,hv⟩:=dT;obtain⟨vv,SG,_⟩:=U hv;have ic:∀s,(∀y∈l,y.o.dst=some s->av x.m y.i=true)->au aa lo tm s=au aa ga tm' s:= λs hs=>by
  by_cases hex:∃y∈l,y.o.dst=some s
  ·obtain⟨y,hy,g8⟩:=hex;exact((ht s).1 y hy g8 (kG hD hx hy (hs y hy g8))).symm
  ·rw[(ht s).2 λy hy g8=>(hex ⟨y,hy,g8⟩).elim,h.wi s λy hy _ g8=>hex ⟨y,hy,g8⟩]
 have Q9:q.v lo tm=some vv:=by rw[<-SG];exact CG SE λs e=>ic s (SD _ _ _ s (by rw[oo,e]))
 have PT:ag ρ vv (a.eval vo):=dP vo q.v vv (by rw[oo];simp[Op.operands]) SE SG;obtain⟨j1,j2,j3,j4,j5⟩:=hJ;obtain⟨loc,L,es,k1,k2,k3,k4,k5,k6,k7,k8⟩:=j5 (gp _ Nh);have ID:ag ρ (.map (some bm)) (a.eval (.tmp q.m)):=um q.m (CD (by rw[oo];simp[Op.operands])) _ (by
  rw[<-ic q.m λy hy g8=>?_]
  ·exact j1
  ·have:y=x0:=by
    by_cases e:y.i=x0.i
    ·exact hD.inj hy hM.mem e
    ·exact(hW.dst hy hM.mem e hM.dst g8).elim
   rw[this];exact Nh)
 have T3:a.eval (.tmp q.m)= .map (some loc.b):=by generalize a.eval (.tmp q.m)=u at ID;cases ID with|map hy=>rw[k1]at hy;cases hy;rfl
 obtain⟨e,iq⟩:=hM.key;obtain⟨ents,hh,fj,iQ⟩:=k5;have dH:∀p∈es,p.1≠q.k:= λp hp=>by obtain⟨z,hz,qz,T4,T5,_⟩:=F2.cp k8 p hp;obtain⟨z1,z2,z3⟩:=(k7 z).1 hz;rw[T5];exact hM.apart z z1 x hx z2 Aj (λe=>lK (by rw[<-e];exact z3)) qz q T4 hq
 have hrun:=Bs (w:=w) (x':=a.eval vo) iq hh fj eM dH;unfold wpOpIn;rw[hD.op x hx];simp only;have hw:Region.wanted x.o (yielded all a.tmps)=true:=by unfold Region.wanted;rw[og]
 rw[if_pos hw];refine⟨λf _=>hF.fn f,?_⟩;have Oh:(execOp a.eval x.o).run P w= .ok .skip {w with heap:=w.heap.setIfInBounds loc.b (.map (ents.push {key:=q.k,val:=a.eval vo,born:=es.length}) (es.length+1))}:=by unfold execOp;rw[oo];have hk:a.eval (.const kc)=q.k:=T2.symm;show(do Instr.mapUpdate q.t (a.eval (.tmp q.m)) (a.eval (.const kc)) (a.eval vo);pure Next.skip:Sem Next).run P w=_;rw[T3,hk];exact yW hrun
 rw[Oper.semAt_eq _ _ _ JF,Oh];refine hN _ _ _ (h.real hD hW hx x8 (λd e=>by rw[od]at e;cases e) (.tuple .nil:ag ρ (.tuple #[]) (.tuple #[])) (.refl _) (h.rel.other k4 (λi=>by simp[World.cell?,hh])) (h.yq.other Mj k3) λ_ _ _ _ e=>e)
  ⟨j1,j2,j3,j4,λ_=>⟨loc,L++ [x],es++ [(q.k,vv,0)],k1,by simpa using k2,k3,k4,⟨ents.push {key:=q.k,val:=a.eval vo,born:=es.length},by simp[k2],Bt fj eM dH PT,by rw[List.length_append];exact iQ.push rfl⟩,?_,λz=>?_,F2.append (.cons ⟨q,hq,rfl,Q9,λT m k s e y hy g8=> .inl (gp _ (SD T m k s e y hy g8))⟩ .nil) (k8.mono λz e Mm=>Mm.env (λ_ h=> .inl h) λ_ _=>rfl)⟩⟩
 ·rw[List.nodup_append];refine⟨k6,by simp,λz hz y hy=>?_⟩;simp only[List.mem_singleton]at hy;subst hy;intro e;subst e;exact lK ((k7 z).1 hz).2.2
 ·simp only[List.mem_append,List.mem_singleton,k7];constructor
  ·rintro(⟨h1,h2,h3⟩|rfl)
   ·exact⟨h1,h2,.inl h3⟩
   ·exact⟨hx,Aj,.inr rfl⟩
  ·rintro⟨h1,h2,h3|h3⟩
   ·exact .inl ⟨h1,h2,h3⟩
   ·exact .inr (hD.inj h1 hx h3)
end
theorem CH (f:aE->aE):∀l,rb f l=l.map f
 | []=>rfl
 |x::l=>by show f x::rb f l=_;rw[CH f l];rfl
theorem di (aa:Nat) (x:aE):(az aa x).i=x.i∧(az aa x).m=x.m∧(az aa x).o=x.o:=by unfold az;split<;>exact⟨rfl,rfl,rfl⟩
theorem pf {q:wb} (h:dy aa o=some q):ba o=true:=by obtain⟨c,v,_,_,ho,_⟩:=mC h;unfold ba;rw[ho]
theorem Gx {all:Array Oper} {l0:List aE} (h:dQ P aa all l0 (λ_=>False)) (hg:∀x∈l0,ba x.o=true->∃q,dy aa x.o=some q):dQ P aa all (l0.map (az aa)) (λx=>ba x.o=true):=by
 have eJ:∀x∈l0.map (az aa),∃y∈l0,x=az aa y∧x.i=y.i∧x.m=y.m∧x.o=y.o:= λx hx=>by obtain⟨y,hy,rfl⟩:=List.mem_map.1 hx;obtain⟨f1,f2,f3⟩:=di aa y;exact⟨y,hy,rfl,f1,f2,f3⟩
 have P3:∀y∈l0,az aa y∈l0.map (az aa):= λy hy=>List.mem_map.2 ⟨y,hy,rfl⟩;refine⟨λi x hx=>?_,by simpa using h.len,λx hx=>?_,λx hx hi=>?_,λx hx hi=>?_,λx hx j hj=>?_,λx hx y hy hb j hj=>?_,λx hx e he hb=>?_,λx hx j hj=>?_⟩
 ·rw[List.getElem?_map]at hx;cases e:l0[i]? with
  |none=>rw[e]at hx;cases hx
  |some y=>rw[e]at hx;cases hx;rw[(di aa y).1];exact h.at_ i y e
 ·obtain⟨y,hy,_,f1,f2,f3⟩:=eJ x hx;rw[f1,f3];exact h.op y hy
 ·obtain⟨y,hy,e,f1,f2,f3⟩:=eJ x hx;rw[f3]at hi⊢;have:az aa y=y:=by
   unfold az;split
   ·rename_i q hq;exact(hi (pf hq)).elim
   ·rfl
  rw[e,this];exact h.rd y hy (λh=>h)
 ·obtain⟨y,hy,e,f1,f2,f3⟩:=eJ x hx;rw[f3]at hi;obtain⟨q,hq⟩:=hg y hy hi;rw[e];unfold az;rw[hq];exact⟨_,rfl⟩
 ·obtain⟨y,hy,e,f1,f2,f3⟩:=eJ x hx;rw[f1];rw[f2]at hj;exact h.below y hy j hj
 ·obtain⟨x',fm,e,f1,f2,f3⟩:=eJ x hx;obtain⟨y',T6,e',g1,g2,g3⟩:=eJ y hy;rw[f2,g1]at hb;rw[g2]at hj;rw[f2];exact h.trans x' fm y' T6 hb j hj
 ·obtain⟨y,hy,_,f1,f2,f3⟩:=eJ x hx;rw[f3]at he;rw[f2];exact h.dir y hy e he hb
 ·obtain⟨y,hy,_,f1,f2,f3⟩:=eJ x hx;rw[f2]at hj;rw[f3];obtain⟨e,he,hb,T7⟩:=h.back y hy j hj;refine⟨e,he,hb,T7.imp id λ⟨z,hz,h1,h2⟩=>⟨az aa z,P3 z hz,by rw[(di aa z).1];exact h1,by rw[(di aa z).2.1];exact h2⟩⟩
theorem qi:∀ {l:List aE} {x:aE} {t m:Nat},AO l=some (x,t,m)->x∈l∧yw x.o=some (t,m)
 | [],x,t,m,h=>by cases h
 |y::l,x,t,m,h=>by
  have h:(match yw y.o with|some q=>some (y,q.1,q.2)|none=>AO l)=some (x,t,m):=h;split at h
  ·rename_i q hq;cases h;exact⟨by simp,hq⟩
  ·have:=qi h;exact⟨by simp[this.1],this.2⟩
theorem Bu {t m:Nat} (h:yw o=some (t,m)):o.guard=none∧o.dst=some m∧o.op= .makeMap t none:=by
 unfold yw at h;split at h
 ·rename_i h1 h2 h3;cases h;exact⟨h1,h2,h3⟩
 ·cases h
theorem hU {aa:Nat}:∀ {l:List aE},oT (bg aa l)=true->l.Pairwise λx y=>∀q q',dy aa x.o=some q->dy aa y.o=some q'->q.k≠q'.k
 | [],_=> .nil
 |x::l,h=>by
  have hl:bg aa (x::l)=match dy aa x.o with|some q=>q::bg aa l|none=>bg aa l:=rfl
  rw[hl]at h;have eJ:∀y∈l,∀q,dy aa y.o=some q->q∈bg aa l:=by
   clear h hl;induction l with
   |nil=>intro y hy;cases hy
   |cons z l ih=>
    intro y hy q hq;have hl:bg aa (z::l)=match dy aa z.o with|some q=>q::bg aa l|none=>bg aa l:=rfl
    rw[hl];rcases List.mem_cons.1 hy with rfl|hy
    ·rw[hq];simp
    ·have:=ih y hy q hq;split<;>simp[this]
  cases e:dy aa x.o with
  |none=>rw[e]at h;exact .cons (λy hy q q' h1=>by rw[e]at h1;cases h1) (hU h)
  |some q=>
   rw[e]at h;have h:ab (tX (λy=>Fe (uS 8 q.k y.k)) (bg aa l)) (oT (bg aa l)) false=true:=h;obtain⟨h1,h2⟩:=ai h;refine .cons (λy hy q1 q2 e1 e2=>?_) (hU h2);rw[e]at e1;cases e1;have:=fE h1 q2 (eJ y hy q2 e2);unfold Fe at this;split at this
   ·rename_i hp;intro he;have:=(jB 8 q.k q2.k false hp).2 he;cases this
   ·cases this
theorem pg {aa:Nat} {lo:Lo} {tm:T Value}:∀ {l:List aE} {es:List (Value×Value×Nat)},(∀x∈l,ba x.o=true->∃q,dy aa x.o=some q)->BQ (bg aa l) lo tm=some es->
  F2 (λx e=>∃q,dy aa x.o=some q∧e.1=q.k∧q.v lo tm=some e.2.1∧e.2.2=0) ((l.map (az aa)).filter λx=>ba x.o) es∧(bg aa l).length=es.length
 | [],es,_,h=>by cases h;exact⟨.nil,rfl⟩
 |x::l,es,hg,h=>by
  have hl:bg aa (x::l)=match dy aa x.o with|some q=>q::bg aa l|none=>bg aa l:=rfl
  rw[hl]at h⊢;have Pa:∀x∈l,ba x.o=true->∃q,dy aa x.o=some q:= λy hy=>hg y (by simp[hy]);have ho:=(di aa x).2.2;cases e:dy aa x.o with
  |none=>
   rw[e]at h;have hn:ba (az aa x).o=false:=by
    rw[ho];cases hi:ba x.o with
    |false=>rfl
    |true=>obtain⟨q,hq⟩:=hg x (by simp) hi;rw[e]at hq;cases hq
   obtain⟨i1,i2⟩:=pg Pa h;rw[List.map_cons,List.filter_cons,hn];exact⟨i1,i2⟩
  |some q=>
   rw[e]at h;have h:ob (q.v lo tm) (λv=>ob (BQ (bg aa l) lo tm) λr=>some ((q.k,v,0)::r))=some es:=h;replace h:=U h;obtain⟨v,hv,h⟩:=h;replace h:=U h;obtain⟨r,hr,h⟩:=h;cases h;have hn:ba (az aa x).o=true:=by rw[ho];exact pf e
   obtain⟨i1,i2⟩:=pg Pa hr;rw[List.map_cons,List.filter_cons,hn];exact⟨.cons ⟨q,by rw[ho];exact e,rfl,hv,rfl⟩ i1,by simp[i2]⟩
theorem F2.both {α β γ:Type} {R1:α->β->Prop} {R2:α->γ->Prop} {T:β->γ->Prop} (hT:∀x p q,R1 x p->R2 x q->T p q):∀ {l:List α} {m:List β} {n:List γ},F2 R1 l m->F2 R2 l n->F2 T m n
 |_,_,_,.nil,h=>by cases h;exact .nil
 |_,_,_,.cons a b,h=>by cases h with|cons c d=>exact .cons (hT _ _ _ a c) (F2.both hT b d)
theorem Rel.Oi (hr:Rel P ρ s w) (hs:∀j k,s'.h.get j=some k->s.h.get j=some k) (hn:s'.nx=s.nx) (hl:s'.lim=s.lim):Rel P ρ s' w:=
  ⟨λa ha=>hr.eu a (by rw[<-hn];exact ha),λa ha=>(by
    cases e:s'.h.get a with
    |none=>rfl
    |some k=>have:=hs a k e;rw[hr.top a (by rw[<-hn];exact ha)]at this;cases this),
   λa k x e e'=>hr.blk a k x (hs a k e) e',by rw[hn,hl];exact hr.lim,λa a' k k' x x' hne e1 e2 r1 r2 hb=>hr.aX a a' k k' x x' hne (hs _ _ e1) (hs _ _ e2) r1 r2 hb,hr.gl.of (Nat.le_refl _) λb _ hn=>⟨rfl,λ⟨j,k,y,e1,e2,e3⟩=>hn ⟨j,k,y,hs _ _ e1,e2,e3⟩⟩⟩
theorem Rel.Lf {k:Blk} (hr:Rel P ρ s w) (hs:s.set b (some k)=some s') (dH:s.h.get b=none) (hx:ρ b=some x) (hlt:x.b<w.heap.size) (GX:¬aQ ρ s x.b) (hb:cj P ρ x w k) (iQ:b<s.nx) (Ra:∀i,w.cell? ⟨x.b,i,none⟩=none):Rel P ρ s' w:=by
 obtain⟨hnx,hg⟩:=AS.cP hs;refine⟨λa ha=>hr.eu a (by omega),λa ha=>by rw[hg,if_neg (by omega)];exact hr.top a (by omega),λa k' y e e'=>?_,by rw[hnx,(AS.aS hs).1];exact hr.lim,λa a' k1 k2 x1 x2 hne e1 e2 r1 r2 kg=>?_,λg gl vs g1 g2=>?_⟩
 rotate_right
 ·obtain⟨a,b',c⟩:=hr.gl g gl vs g1 g2;refine⟨a,λ⟨j,k',y,e1,e2,e3⟩=>?_,c⟩;rw[hg]at e1;by_cases hj:j=b
  ·rw[hj,hx]at e2;cases e2;exact hr.gl.ne Ra g1 g2 e3
  ·rw[if_neg hj]at e1;exact b' ⟨j,k',y,e1,e2,e3⟩
 ·rw[hg]at e;by_cases ha:a=b
  ·subst ha;rw[if_pos rfl]at e;cases e;rw[hx]at e';cases e';exact⟨hlt,hb⟩
  ·rw[if_neg ha]at e;exact hr.blk a k' y e e'
 ·rw[hg]at e1 e2;by_cases ha:a=b
  ·subst ha;rw[hx]at r1;cases r1;rw[if_neg (Ne.symm hne)]at e2;exact(GX ⟨a',k2,x2,e2,r2,kg.symm⟩).elim
  ·rw[if_neg ha]at e1;by_cases cZ:a'=b
   ·subst cZ;rw[hx]at r2;cases r2;exact(GX ⟨a,k1,x1,e1,r1,kg⟩).elim
   ·rw[if_neg cZ]at e2;exact hr.aX a a' k1 k2 x1 x2 hne e1 e2 r1 r2 kg
theorem aN.Gb {w0:World} {k:Option Blk} (hS:aN cD s0 w0 ρ s w) (hs:s.set b k=some s') (hb:s0.nx<=b) (mY:s0.lim<=s0.nx) (hH:∀c,c<w0.heap.size->aQ ρ s' c->aQ ρ s c):aN cD s0 w0 ρ s' w:=by
 obtain⟨hnx,hg⟩:=AS.cP hs;refine⟨hS.jY,by rw[hnx];exact hS.nx,hS.tape,hS.os,hS.out,hS.size,λc hc hn=>⟨(hS.frame c hc hn).1,λh=>(hS.frame c hc hn).2 (hH c hc h)⟩,λa ha hn=>?_,hS.lp,by rw[(AS.aS hs).1];exact hS.lim,λa ha=>?_,hS.gD⟩
 ·rw[hg,if_neg (by omega)];exact hS.ph a ha hn
 ·rw[hg,if_neg (by omega)];exact hS.low a ha
section
variable {all:Array Oper} {l:List aE} {E0:Nat->Option Value} {w0:World} {a0:Act} {D:Nat->Prop} {B:Nat->Nat->Prop} {cs:List ig} {S:AS}
variable {x':cm}
theorem St.forget {S2:AS} {bm:Nat} (h:St P aa nt all l E0 cD s0 w0 a0 X D B ρ cs lo tm S a w) (hs:S.set bm none=some S2) (hb:s0.nx<=bm) (mY:s0.lim<=s0.nx):St P aa nt all l E0 cD s0 w0 a0 X D B ρ cs lo tm S2 a w:=by
 obtain⟨hnx,hg⟩:=AS.cP hs;have dj:∀j k,S2.h.get j=some k->S.h.get j=some k:= λj k e=>by
  rw[hg]at e;split at e
  ·cases e
  ·exact e
 refine⟨h.tk,h.wi,λx hx hX hw hd=>?_,λi b cz=>by rw[hnx];exact h.bB i b cz,h.bI,h.dX,h.md,h.m0,h.e0,h.rel.Oi dj hnx (AS.aS hs).1,h.yq.Gb hs hb mY λc _ ⟨j,k,y,e1,e2,e3⟩=>⟨j,k,y,dj j k e1,e2,e3⟩,h.df,h.sz⟩;obtain⟨ga,tm',v,r1,r2,r3⟩:=h.Hc x hx hX hw hd;refine⟨ga,tm',v,r1.mono (λ_ h=>h) (λ_ h=>h) (λb cz hlt dH=>⟨by rw[hnx];exact hlt,dH,?_⟩),r2,r3⟩;rw[hg];split
 ·exact .inr rfl
 ·exact .inl rfl
theorem Bv {kf:K} {m:cI} {Iv:Nat} (hD:dQ P aa all l I) (hW:wv all l) (lJ:ko aa nt all.toList (aF l) l (aF l) 0=some Aw) (gj:cr aa nt all.toList (aF l) (aF l).length l=some last) (h:St P aa nt all l E0 cD s0 w0 a0 (Xs l 0 0) D B ρ cs lo tm S a w) (hk:mq ev Aw last kf (jy m Iv) cs lo tm S= .code x' tm' s'):
  ∃B1 dU br aw S1 S2 bm,St P aa nt all l E0 cD s0 w0 a0 (Xs l 0 l.length) D B1 ρ dU br aw S1 a w∧m br aw=some (.map (some bm))∧Iv<=bm∧S1.set bm none=some S2∧bq 0 S2 dU=true∧Kr P aa nt all l ev last kf (aF l) 0 dU br aw S2 (.code x' tm' s'):=by
 have forget:∀ {kc:KC} {dU:List ig} {br:Lo} {aw:T Value} {S1:AS},jy m Iv kc dU br aw S1= .code x' tm' s'->∃bm S2,m br aw=some (.map (some bm))∧Iv<=bm∧S1.set bm none=some S2∧kc dU br aw S2= .code x' tm' s':=by
  intro kc dU br aw S1 hf;unfold jy at hf;split at hf
  ·rename_i b hb;rw[ah]at hf;split at hf
   ·rename_i hle;cases e:S1.set b none with
    |none=>rw[e]at hf;cases hf
    |some S2=>rw[e]at hf;exact⟨b,S2,hb,Nat.le_of_ble_eq_true hle,e,hf⟩
   ·cases hf
  ·cases hf
 cases hw:aF l with
 |nil=>
  rw[hw]at lJ;cases lJ;have fZ:bM ev last (jy m Iv (dW 0 λ_=>kf)) cs lo tm S= .code x' tm' s':=hk;have Lg:cr aa nt all.toList (aF l) 0 l=some last:=by rw[hw]at gj⊢;exact gj
  obtain⟨B1,dU,br,aw,S1,h1,_,lf⟩:=jE hD hW l 0 (by simp) last Lg B cs lo tm S h fZ;obtain⟨bm,S2,f1,f2,f3,f4⟩:=forget lf;obtain⟨e1,e2⟩:=lG (out:=(x',tm',s')) f4;exact⟨B1,dU,br,aw,S1,S2,bm,h1,f1,f2,f3,e1,e2⟩
 |cons x rest=>
  rw[hw]at lJ;have eL:ob (cr aa nt all.toList (aF l) 0 l) (λpre=>ob (lL aa nt x.o.dst) λd=>ob (de aa [] all.toList x.o d (oC x.r d)) λcw=>aq (Nat.succ 0) λn=>ob (ko aa nt all.toList (aF l) l rest n) λr=>some (⟨pre,cw⟩::r))=some Aw:=by rw[hw];exact lJ
  obtain⟨pre,gp,eL⟩:=U eL;obtain⟨d,hd,eL⟩:=U eL;obtain⟨cw,JH,eL⟩:=U eL;rw[ak]at eL;obtain⟨r,hr,eL⟩:=U eL;cases eL;have fZ:bM ev pre (jy m Iv (dW 0 λcs=>dw ev cw (bR ev r last kf 1 cs))) cs lo tm S= .code x' tm' s':=hk;obtain⟨B1,dU,br,aw,S1,h1,_,lf⟩:=jE hD hW l 0 (by simp) pre gp B cs lo tm S h fZ;obtain⟨bm,S2,f1,f2,f3,f4⟩:=forget lf;obtain⟨e1,e2⟩:=lG (out:=(x',tm',s')) f4;exact⟨B1,dU,br,aw,S1,S2,bm,h1,f1,f2,f3,e1,d,cw,r,hd,JH,hr,e2⟩
end
theorem Gy {ops:Array Oper} {f:CF} (hm:P.follows .mixedOrders=true) (h:ni P aa nt ops.toList=some f):du P aa nt (.region id ops true) f:=by
 unfold ni at h;obtain⟨ms,GV,h⟩:=U h;obtain⟨l0,hl0,h⟩:=U h;obtain⟨⟨x0,t,mt⟩,x6,h⟩:=U h;obtain⟨ke,iq,h⟩:=U h;obtain⟨yF,h⟩:=ae h;obtain⟨tG,h⟩:=ae h;obtain⟨Pe,h⟩:=ae h;simp only[CH]at Pe h;obtain⟨Hf,h⟩:=ae h;obtain⟨P8,h⟩:=ae h;obtain⟨st,lJ,h⟩:=U h;obtain⟨last,gj,h⟩:=U h;obtain⟨m,Qa,h⟩:=U h;cases h;simp only at yF Pe Qa iq;have T8:=CC GV hl0;have yF:=fE yF;have z7:∀x∈l0,ba x.o=true->∃q,dy aa x.o=some q:= λx hx hi=>by
  have:=yF x hx;unfold xe at this;split at this
  ·rename_i q hq;exact⟨q,hq⟩
  ·rw[hi]at this;cases this
 have hD:=Gx T8 z7;have hW:=F7 hD Hf P8;obtain⟨LL,uo⟩:=qi x6;obtain⟨og,od,oo⟩:=Bu uo;have Kv:ba x0.o=false:=by unfold ba;rw[oo]
 have Rb:az aa x0=x0:=by
  unfold az;split
  ·rename_i q hq;rw[pf hq]at Kv;cases Kv
  ·rfl
 have C5:x0∈l0.map (az aa):=List.mem_map.2 ⟨x0,LL,Rb⟩;have ft:∀x∈l0.map (az aa),∃y∈l0,x=az aa y∧x.i=y.i∧x.m=y.m∧x.o=y.o:= λx hx=>by obtain⟨y,hy,rfl⟩:=List.mem_map.1 hx;obtain⟨f1,f2,f3⟩:=di aa y;exact⟨y,hy,rfl,f1,f2,f3⟩
 have hkey:=fJ iq;have IG:C4 P aa (l0.map (az aa)) x0 t mt ke.1:=by
  refine⟨C5,og,od,oo,Nat.eq_of_beq_eq_true Pe,⟨_,hkey⟩,λx hx hi=>?_,λx hx y hy Qb LI hne q q' hq Ab=>?_⟩
  ·obtain⟨y,hy,e,f1,f2,f3⟩:=ft x hx;rw[f3]at hi;obtain⟨q,hq⟩:=z7 y hy hi;have hg:=yF y hy;unfold xe at hg;rw[hq]at hg;obtain⟨g1,hg⟩:=ai hg;obtain⟨g2,hg⟩:=ai hg;obtain⟨g3,hg⟩:=ai hg;obtain⟨g4,g5⟩:=ai hg;refine⟨q,by rw[f3];exact hq,Nat.eq_of_beq_eq_true g1,Nat.eq_of_beq_eq_true g2,g3,by rw[f2];exact g4,λT m k s ho z hz yr=>?_,?_⟩
   ·rw[f3]at ho;unfold Cp at g5;rw[ho]at g5;obtain⟨z',PQ,_,z1,z2,z3⟩:=ft z hz;have:=fE g5 z' PQ;rw[z3]at yr;rw[yr]at this;simp only[Nat.beq_refl,bG]at this;rw[f2,z1];exact this
   ·rw[e];unfold az;rw[hq]
  ·obtain⟨x1,T9,e1,f1,f2,f3⟩:=ft x hx;obtain⟨y1,Ua,e2,g1,g2,g3⟩:=ft y hy;rw[f3]at hq;rw[g3]at Ab;have hp:=List.pairwise_iff_getElem.1 (hU tG);obtain⟨i,hi,rfl⟩:=List.getElem_of_mem T9;obtain⟨j,hj,rfl⟩:=List.getElem_of_mem Ua;rcases Nat.lt_trichotomy i j with hlt|heq|hlt
   ·exact hp i j hi hj hlt q q' hq Ab
   ·subst heq;exact(hne (e1.trans e2.symm)).elim
   ·exact(hp j i hj hi hlt q' q Ab hq).symm
 have JJ:¬(ba x0.o=true):=by rw[Kv];simp
 have IF:lI x0.r=false:=by have dL:=hD.rd x0 C5 JJ;rw[oo]at dL;obtain⟨VM,_,dL⟩:=U dL;rw[<-Option.some.inj dL];rfl
 rw[aV]at gj;intro ev hev F hF ρ tm s a w x tm' s' hr hE n0 fh hM hL hR Q hQ;have hr:mq ev st last (J6 m ke.1 (bg aa l0)) (jy m s.nx) [] .nil tm s= .code x tm' s':=hr;refine wpIn_region_any hm ?_;have eN:Rel P ρ s {w with drawn:=w.drawn+1}:=hR.of_heap rfl;have h0:St P aa nt ops (l0.map (az aa)) (au aa .nil tm) ρ s w a (Xs (l0.map (az aa)) 0 0) (λ_=>False) (λ_ _=>False) ρ [] .nil tm s a {w with drawn:=w.drawn+1}:=by
  refine⟨hE.tk,λt _=>rfl,λy _ hX _ _=>?_,λ_ _ h=>h.elim,λ_ _ _ h=>h.elim,λ_ _ h=>h.elim,λ_ _ h=>h.elim,λ_ _=>rfl,λt v hv=>?_,eN,.of_heap rfl rfl rfl rfl,rfl,hE.size⟩
  ·rcases hX with h|⟨_,_,h⟩<;>omega
  ·unfold au at hv;rw[ah]at hv;split at hv
   ·exact hE.env t v hv
   ·cases hv
 obtain⟨B1,dU,br,aw,S1,S2,bm,h1,ID,Pd,C6,pR,lO⟩:=Bv hD hW lJ gj h0 hr;have Rc:Xs (l0.map (az aa)) 0 (l0.map (az aa)).length x0:= .inr ⟨Nat.eq_of_beq_eq_true Pe,IF,(List.getElem?_eq_some_iff.1 (hD.mem C5)).1⟩;rw[gS Qa]at ID;obtain⟨_,hBm⟩:=mE hD IG JJ h1 Rc ID (λh=>h);have Re:=(h1.bB _ _ hBm).1;have h2:=h1.forget C6 Pd hR.lim;obtain⟨q1,q2⟩:=AS.cP C6;have Ub:MJ P aa (l0.map (az aa)) x0 mt ke.1 s w bm (λ_=>False) ρ S2 br aw {w with drawn:=w.drawn+1}:=⟨ID,by rw[q2,if_pos rfl],by rw[q1];exact Re,Pd,λh=>h.elim⟩
 refine y7 (J:=MJ P aa (l0.map (az aa)) x0 mt ke.1 s w bm) (Sp:= λx=>ba x.o=true∨x.i=x0.i) hF hev hD hW gj (λD B ρ cs lo tm S a' w' hall h hJ hk=>?_) (λ_ _ h=> .inl h) (λx hx iP=>?_)
  (λD c ρ S lo tm w br aw S1 hc hX hJ g=>hJ.grow hD hW IG hc hX g)
  (λD ρ S lo tm w x aj w' hx iP hJ hle hq=>hJ.quiet hx (λe=>iP (.inr e)) (by cases e:ba x.o with|false=>rfl|true=>exact(iP (.inl e)).elim) hD hle hq)
  (λc D B ρ cs lo tm S a w x N hx iP lK gp eP x8 h hJ hN=>?_)
  (λc D B ρ cs S lo tm a w x aj S1 br aw w1 v hx ir lK h rA Nf hJ dn dv ic=>hJ.wrote hD IG JJ hx ir (by
   cases e:ba x.o with
   |false=>rfl
   |true=>obtain⟨q,_,_,_,_,_,_,hr⟩:=IG.look x hx e;rw[hr]at ir;cases ir) lK h rA dv ic)
  ops.size (Array.replicate ops.size false) _ B1 ρ dU br aw S2 a _ [] (aF (l0.map (az aa))) (by simp) (λi=>?_) (λ_ _ h=>h.elim) ?_ rfl (λ_ h=>by cases h) (λ_ _ h=>h) h2 Ub pR lO
 ·
  obtain⟨j1,j2,j3,j4,j5⟩:=hJ;obtain⟨loc,L,es,k1,k2,k3,k4,k5,k6,k7,k8⟩:=j5 (hall x0 C5);unfold J6 at hk;rw[gS Qa,j1]at hk;simp only at hk;cases hes:BQ (bg aa l0) lo tm with
  |none=>rw[hes]at hk;cases hk
  |some Qc=>
   rw[hes]at hk;simp only at hk;cases hs:S.set bm (some (.map ke.1 Qc (len (bg aa l0))))with
   |none=>rw[hs]at hk;cases hk
   |some s1=>
    rw[hs]at hk;cases hk;obtain⟨i1,i2⟩:=pg z7 hes;have ew:((l0.map (az aa)).filter λx=>ba x.o).Nodup:=by have hs:(l0.map (az aa)).Nodup:=(vG hD).imp (λ {x y:aE} (h:x.i<y.i)=>(λe=>by subst e;omega:x≠y));exact hs.filter _
    have Eb:L.Perm ((l0.map (az aa)).filter λx=>ba x.o):=(List.perm_ext_iff_of_nodup k6 ew).2 λz=>by rw[k7,List.mem_filter];exact⟨λ⟨z1,z2,_⟩=>⟨z1,z2⟩,λ⟨z1,z2⟩=>⟨z1,z2,hall z z1⟩⟩
    obtain⟨bf,p1,p2⟩:=k8.Ji Eb;obtain⟨ents,hh,fj,iQ⟩:=k5;have hz:F2 (λp q=>p.1=q.1∧p.2.1=q.2.1∧q.2.2=0) bf Qc:=F2.both (λx p q ⟨q1,a1,a2,a3,_⟩ ⟨q2,b1,b2,b3,b4⟩=>by rw[a1]at b1;cases b1;rw[a3]at b3;exact⟨a2.trans b2.symm,Option.some.inj b3,b4⟩) p2 i1
    have hlen:len (bg aa l0)=es.length:=by rw[aV,i2,<-hz.length,p1.length_eq]
    have Mh:cj P ρ loc w' (.map ke.1 Qc (len (bg aa l0))):=by rw[hlen];exact⟨ents,hh,(fj.Of p1).zero hz,iQ⟩
    have hrel:=h.rel.Lf hs j2 k1 k2 k4 Mh j3 (λi=>by simp[World.cell?,hh]);have oD:=h.yq.Gb hs j4 hR.lim λc hc ⟨j,k,y,e1,e2,e3⟩=>by
     rw[(AS.cP hs).2]at e1;split at e1
     ·rename_i e;subst e;rw[k1]at e2;cases e2;have:w.heap.size<=loc.b:=k3;have hc:c<w.heap.size:=hc;omega
     ·exact⟨j,k,y,e1,e2,e3⟩
    exact hQ ρ a' w' (h.Jg hall) (by rw[h.df];exact hM.step oD) hrel oD
 ·rcases iP with hi|hi
  ·obtain⟨q,_,_,_,_,_,_,hr⟩:=IG.look x hx hi;rw[hr];rfl
  ·rw[hD.inj hx C5 hi];exact IF
 ·by_cases hi:ba x.o=true
  ·exact hJ.put hF hD hW IG hR hx hi lK gp eP x8 h hN
  ·have P9:x=x0:=hD.inj hx C5 (iP.resolve_left hi);rw[P9]at lK gp x8 hN⊢;exact hJ.made hF hD hW IG JJ lK gp eP (λy hy LI iS=>by obtain⟨q,_,_,_,_,hb,_⟩:=IG.look y hy LI;exact eP y hy iS _ hb) x8 h hN
 ·rw[Array.getD_eq_getD_getElem?,Array.getElem?_replicate];constructor
  ·exactλh=>h.elim
  ·intro h;split at h<;>cases h
 ·exact Nat.le_trans (List.length_filter_le _ _) (by simp)
end Go.Eng
end
noncomputable section
namespace Go.Eng
open Go
variable {s s':AS} {a:Act} {ps:Array Tmp} {Lv bd c:Code} {F:Fence} {x:Loc} {n0:N0} {b f i aa nt:Nat} {P:Program} {ρ:Ren} {tm:T Value} {v:Value} {w w':World}
def Plainly (P:Program):Prop:=∀(f:Nat) (fn:Func),P.funcs[f]? =some fn->(fn.name== "runtime.NumGoroutine")=false
theorem Rel.extend {o:Obj} (h:Rel P ρ s w) (hh:w'.heap=w.heap.push o):Rel P ρ s w':=
 ⟨h.eu,h.top,λa k x e e'=>let⟨h1,h2⟩:=h.blk a k x e e';⟨by rw[hh,Array.size_push];omega,h2.congr (by rw[hh,Array.getElem?_push,if_neg (Nat.ne_of_lt h1)])⟩,h.lim,h.aX,h.gl.of (by rw[hh,Array.size_push];omega) λb hb hn=>⟨by rw[hh,Array.getElem?_push,if_neg (Nat.ne_of_lt hb)],hn⟩⟩
theorem aN.extend {o:Obj} (hr:Rel P ρ s w) (hh:w'.heap=w.heap.push o) (ht:w'.tape=w.tape) (ho:w'.os=w.os) (hu:w'.output=w.output):aN ρ s w ρ s w':=
 ⟨λ_ _=>rfl,Nat.le_refl _,ht,ho,hu,by rw[hh,Array.size_push];omega,λb hb h=>⟨by rw[hh,Array.getElem?_push,if_neg (Nat.ne_of_lt hb)],h⟩,λ_ _ _=> .inl rfl,
  λb r h=>⟨r,by rw[hh,Array.getElem?_push,if_neg (Nat.ne_of_lt (Array.getElem?_eq_some_iff.1 h).1)];exact h⟩,rfl,λ_ _=>rfl,λa k x _ _ hk _ hx=>by rw[hh,Array.getElem?_push,if_neg (Nat.ne_of_lt (hr.blk a k x hk hx).1)]⟩
theorem Io (h:Rel P ρ s w) (hb:aQ ρ s b):b<w.heap.size:=by obtain⟨a,k,x,e,e',rfl⟩:=hb;exact(h.blk a k x e e').1
def yG (fn:FuncId) (tmps:Array Value) (ps:List Tmp) (Lv bd:Code) (r:Nat):Loop:={state:= .ready,pending:=none,fn,tmps,params:=ps.toArray,assign:=Lv,body:=bd,defers:=r}
theorem y8 {s1:AS} {w1:World} {fn:Nat} {ps:List Tmp} {fn' r:Nat} (hR:Rel P ρ s w) (hE:bt aa nt ρ tm a) (uh:∀p∈ps,p<nt) (hs:s.new (.loop .ready none fn nt aa tm ps Lv bd)=some s1) (hh:w1.heap=w.heap.push (.loop (yG fn' a.tmps ps Lv bd r))) (ht:w1.tape=w.tape) (ho:w1.os=w.os) (hu:w1.output=w.output):Rel P (ρ.put s.nx ⟨w.heap.size,0,0,[]⟩) s1 w1∧aN ρ s w (ρ.put s.nx ⟨w.heap.size,0,0,[]⟩) s1 w1:=by refine Rel.alloc hR hs rfl (by rw[hh,Array.size_push]) (λb hb=>by rw[hh,Array.getElem?_push,if_neg (Nat.ne_of_lt hb)]) ht ho hu ⟨a.tmps,fn',r,?_,hE.env.mono (iM (hR.eu _ (Nat.le_refl _)) _),hE.tk,hE.size,uh⟩;show w1.heap[w.heap.size]? =_;rw[hh,Array.getElem?_push,if_pos rfl];rfl
theorem xW {s1:AS} {fn:Nat} {fn':FuncId} (hR:Rel P ρ s w) (hE:bt aa nt ρ tm a) (fh:n0.n<=w.heap.size) (hM:Marks n0 ρ s w a.defers) (hL:∀l,F.round=some l->∃r,w.heap[l]? =some (Obj.loop r)) (uh:∀p∈ps.toList,p<nt) (hs:s.new (.loop .ready none fn nt aa tm ps.toList Lv bd)=some s1):
  ∃l mark w1 aO,(Instr.enterLoop fn' a.tmps ps Lv bd F.round).run P w= .ok (l,mark) w1∧aO s.nx=some ⟨l,0,0,[]⟩∧Rel P aO s1 w1∧aN ρ s w aO s1 w1∧Marks n0 aO s1 w1 (mark++a.defers):=by
 cases hro:F.round with
 |some l0=>
  obtain⟨r0,Ap⟩:=hL l0 hro;have hrun:(Instr.enterLoop fn' a.tmps ps Lv bd (some l0)).run P w= .ok (w.heap.size,[]) (w.alloc (.loop (yG fn' a.tmps ps.toList Lv bd r0.defers))):=by simp only[Instr.enterLoop,Instr.getLoop,Sem.run_bind,run_getObj_loop Ap,Result.andThen_ok,Sem.run_pure,run_newObj_alloc];rfl
  obtain⟨h1,h2⟩:=y8 (w1:=w.alloc (.loop (yG fn' a.tmps ps.toList Lv bd r0.defers))) hR hE uh hs rfl rfl rfl rfl;exact⟨_,_,_,_,hrun,bE _ _ _,h1,h2,by simpa using hM.step h2⟩
 |none=>
  let wA:=w.alloc (.deferred (some []))
  have hA:wA.heap=w.heap.push (.deferred (some [])):=rfl;have JK:Rel P ρ s wA:=hR.extend hA;have SH:aN ρ s w ρ s wA:= .extend hR hA rfl rfl rfl;have hrun:(Instr.enterLoop fn' a.tmps ps Lv bd none).run P w= .ok (wA.heap.size,[{target:= .collected w.heap.size,args:= #[]}]) (wA.alloc (.loop (yG fn' a.tmps ps.toList Lv bd w.heap.size))):=by simp only[Instr.enterLoop,Sem.run_bind,Result.andThen_ok,Sem.run_pure,run_newObj_alloc];rfl
  obtain⟨h1,h2⟩:=y8 (w1:=wA.alloc (.loop (yG fn' a.tmps ps.toList Lv bd w.heap.size))) JK hE uh hs rfl rfl rfl rfl;have g7:Marks n0 ρ s wA ([{target:= .collected w.heap.size,args:= #[]}]++a.defers):=by
   obtain⟨ms,he,Dj,tG⟩:=(hM.step SH).own;obtain⟨Uc,gq,Rf,_⟩:=hM.own;have Pf:ms=Uc:=List.append_cancel_right (he.symm.trans gq);subst Pf;refine⟨{target:= .collected w.heap.size,args:= #[]}::ms,by rw[he];rfl,λd hd=>?_,?_⟩
   ·rcases List.mem_cons.1 hd with rfl|hd
    ·exact⟨w.heap.size,rfl,by rw[hA,Array.getElem?_push,if_pos rfl],by rw[hA,Array.size_push];omega,λhh=>Nat.lt_irrefl _ (Io hR hh),fh⟩
    ·exact Dj d hd
   ·refine List.pairwise_cons.2 ⟨λd hd r hr eR=>?_,tG⟩;obtain⟨r1,e1,_,e3,_⟩:=Rf d hd;cases hr;rw[e1]at eR;injection eR with eR
    omega
  exact⟨_,_,_,_,hrun,bE _ _ _,h1,SH.trans h2,g7.step h2⟩
theorem xX (h:lr P v=true):∃f a b fn c,v= .func (.func f) a b∧P.funcs[f]? =some fn∧fn.body=some c:=by
 unfold lr at h;split at h
 ·rename_i f a b;split at h
  ·rename_i fn hf;split at h
   ·rename_i c hc;exact⟨f,a,b,fn,c,rfl,hf,hc⟩
   ·cases h
  ·cases h
 ·cases h
theorem dk (hP:Plainly P) {fn:Func} (hf:P.funcs[f]? =some fn) (hb:fn.body=some c) (args:Array Value) (w:World):(callFunc f args).run P w= .ok (.enter f args) w:=by unfold callFunc;have Ud:Sem.run P program w= .ok P w:=rfl;simp only[Sem.run_bind,Ud,Result.andThen_ok,hf,hP f fn hf,Bool.false_eq_true,if_false,hb,Option.isNone_some,Sem.run_pure]
theorem iG {b:Option Blk} {k:LoopState->Option Code->Nat->Nat->Nat->T Value->List Tmp->Code->Code->Out} {o:Out} (h:kr b k=o) (ho:o≠.no):∃st fU fn nt kp tm ps Lv bd,b=some (.loop st fU fn nt kp tm ps Lv bd)∧k st fU fn nt kp tm ps Lv bd=o:=by
 cases b with
 |none=>exact(ho h.symm).elim
 |some b=>cases b<;>first|exact(ho h.symm).elim|exact⟨_,_,_,_,_,_,_,_,_,rfl,h⟩
theorem kW {b:Blk} {k:AS->Out} {o:Out} (h:eV s i b k=o) (ho:o≠.no):∃s',s.set i (some b)=some s'∧k s'=o:=by
 have h:Option.rec (motive:= λ_=>Out) .no k (s.set i (some b))=o:=h;cases hs:s.set i (some b)with
 |none=>rw[hs]at h;exact(ho h.symm).elim
 |some s'=>rw[hs]at h;exact⟨s',rfl,h⟩
theorem sg {l:Nat} {st GS:LoopState} {fU Fz:Option Code} {fn kp:Nat} {ps:List Tmp} (hR:Rel P ρ s w) (hx:ρ l=some x) (hk:s.h.get l=some (.loop st fU fn nt kp tm ps Lv bd)) (hs:s.set l (some (.loop GS Fz fn nt kp tm ps Lv bd))=some s'):
  ∃r:Loop,w.heap[x.b]? =some (.loop r)∧r.state=st∧r.pending=fU∧r.params=ps.toArray∧r.assign=Lv∧r.body=bd∧gC ρ tm r.tmps∧(∀t v,tm.get t=some v->kept kp t=true)∧nt<=r.tmps.size∧(∀p∈ps,p<nt)∧
   Rel P ρ s' (w.putObj x.b (.loop {r with state:=GS,pending:=Fz}))∧aN ρ s w ρ s' (w.putObj x.b (.loop {r with state:=GS,pending:=Fz})):=by
 obtain⟨hlt,tmps,fn',d,hh,h1,h2,h3,h4⟩:=hR.blk l _ x hk hx;refine⟨_,hh,rfl,rfl,rfl,rfl,rfl,h1,h2,h3,h4,?_⟩;exact Rel.setObj hR hs hk rfl hx (λw' oP=>⟨tmps,fn',d,oP,h1,h2,h3,h4⟩) (λ_=>rfl)
theorem run_endLoop {l:Nat} {r:Loop} (h:w.heap[l]? =some (.loop r)) (hb:r.state≠.busy):(Instr.endLoop l).run P w= .ok r.pending (w.putObj l (.loop {r with state:= .exhausted})):=by
 have:(r.state== .busy)=false:=by cases hs:r.state<;>first|rfl|exact(hb hs).elim
 simp only[Instr.endLoop,Instr.getLoop,Sem.run_bind,run_getObj_loop h,Result.andThen_ok,Sem.run_pure,this,Bool.false_eq_true,if_false,run_setObj_loop _ h]
theorem xY {fn:Nat} (hP:Plainly P) {g:Operand} {fo:cI} (hg:bA aa [] g=some fo) (uh:∀p∈ps.toList,p<nt):
  du P aa nt (.rangeFunc g ps Lv bd) (mr P fn nt aa fo ps.toList Lv bd):= λev hev F hF ρ tm s a w e tm' s' h hE n0 fh hM hL hR Q hQ=>by
 have h:Option.rec (motive:= λ_=>Out) .no (λfv=>ab (lr P fv) (Option.rec (motive:= λ_=>Out) .no
  (λs1=>lA s.nx tm (ev fv [.func (.yield s.nx) #[] #[]] s1)) (s.new (.loop .ready none fn nt aa tm ps.toList Lv bd))) .no) (fo .nil tm)= .code e tm' s':=h
 cases hv:fo .nil tm with
 |none=>rw[hv]at h;cases h
 |some fv=>
  rw[hv]at h;have h:ab (lr P fv) (Option.rec (motive:= λ_=>Out) .no
   (λs1=>lA s.nx tm (ev fv [.func (.yield s.nx) #[] #[]] s1)) (s.new (.loop .ready none fn nt aa tm ps.toList Lv bd))) .no= .code e tm' s':=h
  cases hb:lr P fv with
  |false=>rw[hb]at h;cases h
  |true=>
   rw[hb,bG]at h;obtain⟨fi,fa,fb,VN,c,rfl,Qd,Oj⟩:=xX hb;cases hs:s.new (.loop .ready none fn nt aa tm ps.toList Lv bd)with
   |none=>rw[hs]at h;cases h
   |some s1=>
    rw[hs]at h;have h:lA s.nx tm (ev (.func (.func fi) fa fb) [.func (.yield s.nx) #[] #[]] s1)= .code e tm' s':=h;cases ho:ev (.func (.func fi) fa fb) [.func (.yield s.nx) #[] #[]] s1 with
    |no=>rw[ho]at h;cases h
    |code=>rw[ho]at h;cases h
    |val v s2=>
     rw[ho]at h;have SI:=hE.inv.ops (ops:= #[g]) _ _ _ (by simp) hg hv;generalize x3:a.eval g=gv at SI;cases SI with| @func _ _ _ Pg LM yo JD=>?_
     refine wpIn_rangeFunc (λfn' _=>?_);obtain⟨l,mark,w1,aO,hent,hl,dn,dv,g7⟩:=xW (F:=F) (fn':=fn') hR hE fh hM hL uh hs;have pS:=dv.le hR;have ep:=hev _ _ _ _ _ ho aO w1 (.func (.func fi) Pg LM) [.func (.yield l) #[] #[]] dn (.func fi (yo.mono pS) (JD.mono pS)) (.cons (.yield (x:=⟨l,0,0,[]⟩) hl .nil .nil) .nil);have hrun:∀args,(invoke (.fn (.func fi) LM) args).run P w1= .ok (.enter fi (args++LM)) w1:= λargs=>dk hP Qd Oj _ w1;have Ue:(bD (.func (.func fi) Pg LM) [.func (.yield l) #[] #[]]).run P w1= .ok (.enter fi (Pg++ #[.func (.yield l) #[] #[]]++LM)) w1:=by unfold bD;simp only[Deferred.ofValue,pure_bind,hrun]
     unfold aU at ep;rw[Ue]at ep;refine⟨l,mark,w1,{target:= .fn (.func fi) LM,args:=Pg++ #[.func (.yield l) #[] #[]]},w1,fi,_,w1,hent,?_,λf' _=>hF.fn f',hrun _,λhd=>(by rw[hF.depth]at hd;cases hd),CallsIn.mono (CallsIn.B5 hF ep) ?_⟩
     ·unfold resolve;have hm:Array.map a.eval #[Operand.const (.func (.yield l) #[] #[])]= #[.func (.yield l) #[] #[]]:=by simp[Act.eval]
      simp only[x3,Deferred.ofValue,hm,Sem.run_pure]
     rintro e3 w3 ⟨u,rfl,db,h1,dO,fC⟩;have Ni:=dv.trans fC;have h:kr (s2.h.get s.nx) (λst fU fn' PC PD tm' Cc PE PF=>
      match st with
      | .busy=> .no
      |_=>eV s2 s.nx (.loop .exhausted fU fn' PC PD tm' Cc PE PF) λs3=>match fU with
       |none=> .code .normal tm s3
       |some c=>nk c tm s3)= .code e tm' s':=h
     obtain⟨st,fU,Mo,Mp,Mq,oO,Qe,Qf,Qg,hblk,h⟩:=iG h (by simp);have ym:db s.nx=some ⟨l,0,0,[]⟩:=by rw[fC.jY _ (by have:=(AS.eg hs).1;omega)];exact hl
     have h:st≠.busy∧(eV s2 s.nx (.loop .exhausted fU Mo Mp Mq oO Qe Qf Qg) λs3=>match(generalizing:=false) fU with
       |none=> .code .normal tm s3
       |some c=>nk c tm s3)= .code e tm' s':=by
      cases st<;>first|(cases h;done)|exact⟨by simp,h⟩
     obtain⟨yl,h⟩:=h;obtain⟨s3,hs3,h⟩:=kW h (by simp);obtain⟨r,hr,Uf,Jj,_,_,_,_,_,_,_,iu,ij⟩:=sg dO ym hblk hs3;refine⟨r.pending,_,run_endLoop hr (by rw[Uf];exact yl),?_⟩;have JA:({r with state:=LoopState.exhausted}:Loop)={r with state:=LoopState.exhausted,pending:=fU}:=by rw[<-Jj]
     rw[JA];have ED:=Ni.trans ij;have fin:∀x,Out.code x tm s3= .code e tm' s'->Q (F4 x) {a with defers:=mark++a.defers} (w3.putObj l (.loop {r with state:= .exhausted,pending:=fU})):= λx hx=>by cases hx;exact hQ db _ _ ⟨hE.size,hE.tk,hE.env.mono (Ni.le hR)⟩ ((g7.step fC).step ij) iu ED
     rw[Jj];cases fU with
     |none=>exact fin .normal h
     |some c2=>
      have h:nk c2 tm s3= .code e tm' s':=h;unfold nk at h;split at h
      ·exact wpIn_ret (fin .ret h)
      ·exact wpIn_exit (fin (.exit _) h)
      ·cases h
end Go.Eng
end
noncomputable section
namespace Go.Eng
open Go
variable {s:AS} {es:List (Value×Value×Nat)} {x:Loc} {b:Nat} {P:Program} {ρ aj:Ren} {tm:T Value} {w:World}
mutual
theorem jL {ρ:Ren}:∀ {v:Value},Plain v->ag ρ v v
 |_,.bool b=> .bool b
 |_,.int k n=> .int k n
 |_,.string s=> .string s
 |_,.agg a h=> .agg (qj a.toList h)
theorem qj {ρ:Ren}:∀(l:List Value),(∀v∈l,Plain v)->af ρ l l
 | [],_=> .nil
 |v::l,h=> .cons (jL (h v (by simp))) (qj l λu hu=>h u (by simp[hu]))
end
mutual
theorem je {ρ aj:Ren} (hr:aG ρ aj):∀ {v u0 u:Value},ag ρ v u0->ag aj v u->ag ρ v u
 |_,_,_,.bool b,h=>by cases h;exact .bool b
 |_,_,_,.int k n,h=>by cases h;exact .int k n
 |_,_,_,.string s,h=>by cases h;exact .string s
 |_,_,_,.junk m n v _ _,h=>by cases h with|junk _ _ _ h h'=>exact .junk m n _ h h'
 |_,_,_,.mT g off,h=>by cases h;exact .mT g off
 |_,_,_,.fz,h=>by cases h;exact .fz
 |_,_,_,.ptr off hx,h=>by
  cases h with
  |ptr _ fm=>rw[hr _ _ hx]at fm;cases fm;exact .ptr off hx
 |_,_,_,.bc,h=>by cases h;exact .bc
 |_,_,_,.slice off n c cap ad hx _ _ _ _ _,h=>by
  cases h with
  |slice _ _ _ Rg Ug fm h1 h2 h3 h4 h5=>rw[hr _ _ hx]at fm;cases fm;exact .slice off n c Rg Ug hx h1 h2 h3 h4 h5
 |_,_,_,.iL,h=>by cases h;exact .iL
 |_,_,_,.map hx,h=>by
  cases h with
  |map fm=>rw[hr _ _ hx]at fm;cases fm;exact .map hx
 |_,_,_,.func f ha hb,h=>by
  cases h with
  |func _ cZ cz=>exact .func f (ez hr ha cZ) (ez hr hb cz)
 |_,_,_,.yield hx ha hb,h=>by
  cases h with
  |yield fm cZ cz=>rw[hr _ _ hx]at fm;cases fm;exact .yield hx (ez hr ha cZ) (ez hr hb cz)
 |_,_,_,.nilFunc,h=>by cases h;exact .nilFunc
 |_,_,_,.nilIface,h=>by cases h;exact .nilIface
 |_,_,_,.iface t hv,h=>by
  cases h with
  |iface _ eE=>exact .iface t (je hr hv eE)
 |_,_,_,.agg ha,h=>by
  cases h with
  |agg cZ=>exact .agg (ez hr ha cZ)
 |_,_,_,.tuple ha,h=>by
  cases h with
  |tuple cZ=>exact .tuple (ez hr ha cZ)
theorem ez {ρ aj:Ren} (hr:aG ρ aj):∀ {l m0 m:List Value},af ρ l m0->af aj l m->af ρ l m
 |_,_,_,.nil,h=>by cases h;exact .nil
 |_,_,_,.cons hv hs,h=>by
  cases h with
  |cons eE fR=>exact .cons (je hr hv eE) (ez hr hs fR)
end
theorem gH (hr:aG ρ aj) {t0 t1:Array Value} (h0:gC ρ tm t0) (h:gC aj tm t1):gC ρ tm t1:= λt v e=>by obtain⟨u0,_,Qh⟩:=h0 t v e;obtain⟨u,hu,hv⟩:=h t v e;exact⟨u,hu,je hr Qh hv⟩
theorem xp {ρ aj:Ren} (hr:aG ρ aj) {kt:TypeId}:∀ {es:List (Value×Value×Nat)} {l0 l:List MapEntry},F2 (bN P ρ kt) es l0->F2 (bN P aj kt) es l->F2 (bN P ρ kt) es l
 |_,_,_,.nil,.nil=> .nil
 |_,_,_,.cons h' fR,.cons h hs=> .cons ⟨h.1,h.2.1,h.2.2.1,je hr h'.2.2.2.1 h.2.2.2.1,h.2.2.2.2⟩ (xp hr fR hs)
theorem zQ (hr:aG ρ aj) {kt:TypeId} {e0 e1:Array MapEntry} (h0:aW P ρ kt es e0) (h:aW P aj kt es e1):aW P ρ kt es e1:=by obtain⟨l0,_,JL,_⟩:=h0;obtain⟨l,hp,hf,hn⟩:=h;exact⟨l,hp,xp hr JL hf,hn⟩
theorem pj (hr:aG ρ aj) {w0:World}:∀ {k:Blk},cj P ρ x w0 k->cj P aj x w k->cj P ρ x w k
 | .cells ..,h0,h=>⟨λi l e=>by obtain⟨a,b,c⟩:=h.cell i l e;obtain⟨_,_,c0⟩:=h0.cell i l e;refine⟨a,b,λj v hv=>?_⟩;obtain⟨u,hu,eE⟩:=c j v hv;obtain⟨_,_,Qh⟩:=c0 j v hv;exact⟨u,hu,je hr Qh eE⟩,h.all,h.free,h.shape,h.mult⟩
 | .map ..,⟨_,_,LF,_⟩,⟨e,h,hm,hb⟩=>⟨e,h,zQ hr LF hm,hb⟩
 | .pmap ..,⟨_,_,⟨_,_,JL,_⟩,_⟩,⟨e,h,⟨l,hp,hf,hk,hn⟩,hb⟩=>⟨e,h,⟨l,hp,xp hr JL hf,hk,hn⟩,hb⟩
 | .cQ ..,_,h=>h
 | .mapIter ..,⟨_,h0⟩,⟨hb,h⟩=>⟨hb,by
   rcases h with ⟨rfl,h⟩|⟨a,y,rfl,hy,h⟩
   ·exact .inl ⟨rfl,h⟩
   ·rcases h0 with ⟨h0,_⟩|⟨a0,y0,Uh,SJ,_⟩
    ·cases h0
    ·cases Uh;have:=hr _ _ SJ;rw[hy]at this;cases this;exact .inr ⟨a,y,rfl,SJ,h⟩⟩
 | .loop ..,⟨_,_,_,_,Ui,_⟩,⟨t,f,r,h,he,hn⟩=>⟨t,f,r,h,gH hr Ui he,hn⟩
theorem Rel.down {se:AS} {w0:World} (h0:Rel P ρ s w0) (h:Rel P aj se w) (hle:aG ρ aj) (hsame:∀a,a<s.nx->se.h.get a=s.h.get a):Rel P ρ s w:=by
 have hlt:∀ {a x},ρ a=some x->a<s.nx:= λ {a x} e=>Nat.lt_of_not_le λhle=>by rw[h0.eu a hle]at e;cases e
 refine⟨h0.eu,h0.top,λa k x e e'=>?_,h0.lim,λa a' k k' x x' hne e1 e2 r1 r2 hb=>h0.aX a a' k k' x x' hne e1 e2 r1 r2 hb,λg gl vs g1 g2=>(let⟨_,b,_⟩:=h0.gl g gl vs g1 g2;let⟨a',_,c'⟩:=h.gl g gl vs g1 g2;⟨a',b,c'⟩)⟩;obtain⟨h1,h2⟩:=h.blk a k x (by rw[hsame a (hlt e')];exact e) (hle _ _ e');exact⟨h1,pj hle (h0.blk a k x e e').2 h2⟩
theorem aQ.up {se:AS} {w0:World} (h0:Rel P ρ s w0) (hle:aG ρ aj) (hsame:∀a,a<s.nx->se.h.get a=s.h.get a) (h:aQ ρ s b):aQ aj se b:=by
 obtain⟨a,k,x,e,e',hb⟩:=h;have:a<s.nx:=Nat.lt_of_not_le λhle=>by rw[h0.eu a hle]at e';cases e'
 exact⟨a,k,x,by rw[hsame a this];exact e,hle _ _ e',hb⟩
theorem Rel.wP {r:Nat} {o:Obj} (h:Rel P ρ s w) (hn:¬aQ ρ s r) (dH:∀i,w.cell? ⟨r,i,none⟩=none):Rel P ρ s {w with heap:=w.heap.setIfInBounds r o}:=
 ⟨h.eu,h.top,λa k x e e'=>by
  obtain⟨h1,h2⟩:=h.blk a k x e e';have hne:r≠x.b:= λe2=>hn ⟨a,k,x,e,e',e2.symm⟩;exact⟨by simpa using h1,h2.congr (by simp[hne])⟩,h.lim,h.aX,λg gl vs g1 g2=>by
  obtain⟨a,b,c⟩:=h.gl g gl vs g1 g2;refine⟨by simpa using a,b,λi v hv=>?_⟩;have hc:=c i v hv;have hne:r≠g:= λe=>by rw[<-e,dH i]at hc;cases hc
  rw[eG (w:=w) (by simp[hne])];exact hc⟩
theorem dD:∀ {a b:T Value},pN a b=true->∀t v,a.get t=some v->b.get t=some v
 | .e,_,_,t,v,hv=>by rw[T.get_e]at hv;cases hv
 | .n v0 l r,.e,h,t,v,hv=>by
  cases v0 with
  |some v0=>cases h
  |none=>
   have h:ab (pN l .e) (pN r .e) false=true:=h;obtain⟨h1,h2⟩:=ai h;rcases bb t with rfl|⟨m,rfl⟩|⟨m,rfl⟩
   ·rw[T.dM]at hv;cases hv
   ·rw[T.bO]at hv;have:=dD h1 m v hv;rw[T.get_e]at this;cases this
   ·rw[T.bh]at hv;have:=dD h2 m v hv;rw[T.get_e]at this;cases this
 | .n v0 l r,.n v1 l' r',h,t,v,hv=>by
  have h:ab (match(generalizing:=false) v0 with|none=>true|some v=>tW v v1) (ab (pN l l') (pN r r') false) false=true:=h;obtain⟨h0,h⟩:=ai h;obtain⟨h1,h2⟩:=ai h;rcases bb t with rfl|⟨m,rfl⟩|⟨m,rfl⟩
  ·rw[T.dM]at hv⊢;subst hv;exact ta h0
  ·rw[T.bO]at hv⊢;exact dD h1 m v hv
  ·rw[T.bh]at hv⊢;exact dD h2 m v hv
theorem vJ:∀ {ws:List Nat} {tm ee:T Value},yy ws tm=some ee->∀t v,ee.get t=some v->tm.get t=some v
 | [],tm,ee,h,t,v,hv=>by have h:some tm=some ee:=h;cases h;exact hv
 |w::ws,tm,ee,h,t,v,hv=>by
  have h:ob (T.put none tm w) (yy ws)=some ee:=h;obtain⟨t1,h1,h⟩:=U h;have:=vJ h t v hv;rw[T.aR _ _ _ _ h1]at this;split at this
  ·cases this
  ·exact this
def CJ (m:cy) (ev:Ev) (tm:T Value) (s:AS) (p:Value×Value×Nat):Prop:=
 (∃tm' s',bT m ev (p.1,p.2.1) tm s= .code .normal tm' s')∧∃tm' s',bT m ev (p.1,p.2.1) tm ⟨s.h,s.nx,s.nx⟩= .code .normal tm' s'∧pN tm tm'=true
def si (m:cy) (ev:Ev) (tm:T Value) (s:AS) (p:Value×Value×Nat) (o:Out):Prop:=
 bT m ev (p.1,p.2.1) tm s=o∧∃x tm' s',o= .code x tm' s'∧x≠.normal
theorem hZ {m:cy} {ev:Ev} {tm:T Value} {s:AS}:∀ {es:List (Value×Value×Nat)} {f0 f:Option Out},dK m ev tm s es f0=some f->
  (∀p∈es,CJ m ev tm s p∨∃o,f=some o∧si m ev tm s p o)∧(∀o,f0=some o->f=some o)∧(∀o,f=some o->f0=some o∨∃p∈es,si m ev tm s p o)
 | [],f0,f,h=>by have h:some f0=some f:=h;cases h;exact⟨λp hp=>(by cases hp),λo h=>h,λo h=> .inl h⟩
 |p::es,f0,f,h=>by
  have h:(match(generalizing:=false) bT m ev (p.1,p.2.1) tm s with
   | .code .normal _ _=>ab (kC tm (bT m ev (p.1,p.2.1) tm ⟨s.h,s.nx,s.nx⟩)) (dK m ev tm s es f0) none
   | .code x aw s1=>match(generalizing:=false) f0 with|none=>dK m ev tm s es (some (.code x aw s1))|some _=>none
   |_=>none)=some f:=h
  split at h
  ·rename_i aw s1 heq;obtain⟨h1,h⟩:=ae h;obtain⟨i1,i2,i3⟩:=hZ h;refine⟨λq hq=>?_,i2,λo ho=>(i3 o ho).imp id λ⟨q,hq,hr⟩=>⟨q,by simp[hq],hr⟩⟩;rcases List.mem_cons.1 hq with rfl|hq
   ·left;refine⟨⟨aw,s1,heq⟩,?_⟩;unfold kC at h1;split at h1
    ·exact⟨_,_,‹_›,h1⟩
    ·cases h1
   ·exact i1 q hq
  ·rename_i x aw s1 hne heq;have hx:x≠.normal:= λe=>hne e;split at h
   ·obtain⟨i1,i2,i3⟩:=hZ h;have cC:si m ev tm s p (.code x aw s1):=⟨heq,x,aw,s1,rfl,hx⟩
    refine⟨λq hq=>?_,λo ho=>(by cases ho),λo ho=>?_⟩
    ·rcases List.mem_cons.1 hq with rfl|hq
     ·exact .inr ⟨_,i2 _ rfl,cC⟩
     ·exact i1 q hq
    ·right;rcases i3 o ho with h|⟨q,hq,hr⟩
     ·cases h;exact⟨p,by simp,cC⟩
     ·exact⟨q,by simp[hq],hr⟩
   ·cases h
  ·cases h
end Go.Eng
end
noncomputable section
namespace Go.Eng
open Go
variable {ents:Array MapEntry} {seen:Array Nat} {e:MapEntry} {ck:Nat} {P:Program} {w:World}
structure nL (w w':World):Prop where
 heap:w'.heap=w.heap
 tape:w'.tape=w.tape
 os:w'.os=w.os
 out:w'.output=w.output
theorem zR (k:Nat) (w:World):∃n w',(choose (.mapNext k)).run P w= .ok n w'∧nL w w'∧(0<k->n<k):=by
 rw[run_choose_drew];by_cases h:(Question.mapNext k).forced=true
 ·rw[if_pos h];exact⟨0,w,rfl,⟨rfl,rfl,rfl,rfl⟩,id⟩
 ·rw[if_neg h];exact⟨_,w.drew,rfl,⟨rfl,rfl,rfl,rfl⟩,λh=>Nat.mod_lt _ h⟩
theorem Gz {x:Nat} {ty:TypeId} (h:w.heap[x]? =some (.mapIter none 0 #[] 0)):(Instr.next (.pointer (some ⟨x,0,none⟩)) false ty).run P w= .ok (.tuple #[.bool false]) w:=by simp only[Instr.next,Sem.run_bind,ar h (by simp),Result.andThen_ok,Sem.run_pure]
theorem next_some {x m:Nat} (hi:w.heap[x]? =some (.mapIter (some m) ck seen ck)) (hm:w.heap[m]? =some (.map ents ck)) (hb:Borns ck ents):
  (∃w',(∀e∈ents.toList,e.born∈seen.toList)∧(∀ty,(Instr.next (.pointer (some ⟨x,0,none⟩)) false ty).run P w= .ok (.tuple #[.bool false]) w')∧nL w w')∨
  ∃e w1,e∈ents.toList∧e.born∉seen.toList∧(∀ty,(Instr.next (.pointer (some ⟨x,0,none⟩)) false ty).run P w= .ok (.tuple #[.bool true,e.key,e.val]) {w1 with heap:=w1.heap.setIfInBounds x (.mapIter (some m) ck (seen.push e.born) ck)})∧nL w w1:=by
 have hold:((ents.filter λe=>!seen.contains e.born).filter λe=>decide (e.born<ck))=(ents.filter λe=>!seen.contains e.born):=by rw[Array.filter_eq_self];intro e he;have:=hb.2 e (by simpa using(Array.mem_filter.1 he).1);simpa using this
 have hnew:((ents.filter λe=>!seen.contains e.born).filter λe=>decide (e.born≥ck))= #[]:=by rw[Array.filter_eq_empty_iff];intro e he;have:=hb.2 e (by simpa using(Array.mem_filter.1 he).1);simp;omega
 have Rh:(!seen.isEmpty&&!ents.isEmpty&&ents.all λe=>decide (e.born≥ck))=false:=by
  cases yg:ents.isEmpty with
  |true=>simp
  |false=>
   have hne:0<ents.size:=by refine Nat.pos_of_ne_zero λh0=>?_;rw[Array.isEmpty,h0]at yg;exact absurd yg (by simp)
   have h0:=hb.2 ents[0] (by simp);have:(ents.all λe=>decide (e.born≥ck))=false:=by rw[Array.all_eq_false];exact⟨0,hne,by simp;omega⟩
   rw[this];simp
 generalize FA:(ents.filter λe=>!seen.contains e.born)=left at hold hnew;have eJ:∀e∈left.toList,e∈ents.toList∧e.born∉seen.toList:= λe he=>by rw[<-FA]at he;simpa using he
 have C3:∃bad:Sem Value,∀(HF:Array (Option MapEntry)),HF=(if left.isEmpty then #[none]else #[])++(left++ #[]).map some->∀n w',(choose (.mapNext HF.size)).run P w= .ok n w'->nL w w'->
   ∀ty,(Instr.next (.pointer (some ⟨x,0,none⟩)) false ty).run P w=Sem.run P (match HF[n]? with
    |some (some e)=>do
     setObj x (.mapIter (some m) ck (seen.push e.born) ck)
     pure (.tuple #[.bool true,e.key,e.val])
    |some none=>pure (.tuple #[.bool false])
    |none=>bad) w':=by
  apply Exists.intro;intro HF hc n w' Hf hs ty;simp only[Instr.next,Sem.run_bind,ar hi (by simp),ar hm (by simp),Result.andThen_ok,Sem.run_pure,Rh,Bool.false_eq_true,if_false,FA,hold,hnew];rw[<-hc,Hf];rfl
 obtain⟨bad,C3⟩:=C3;obtain⟨n,w',Hf,hs,hn⟩:=zR (P:=P) ((if left.isEmpty then #[none]else #[])++(left++ #[]).map some:Array (Option MapEntry)).size w;have hrun:=C3 _ rfl n w' Hf hs;by_cases yg:left.isEmpty=true
 ·have hl:left= #[]:=by simpa[Array.isEmpty]using yg
  left;refine⟨w',λe he=>?_,?_,hs⟩
  ·have hne:e∉left.toList:=by rw[hl];simp
   rw[<-FA]at hne;have gq:e∈ents:=by simpa using he
   simp only[Array.mem_toList_iff,Array.mem_filter,not_and]at hne;have:=hne gq;simpa using this
  ·intro ty;rw[hrun,if_pos yg];subst hl;have:n=0:=by have:=hn (by simp);simpa using this
   subst this;simp[Sem.run_pure]
 ·right;rw[if_neg yg]at hn;simp only[if_neg yg,Array.append_empty,Array.empty_append]at hrun;simp only[Array.append_empty,Array.empty_append,Array.size_map]at hn;have Kw:0<left.size:=by
   refine Nat.pos_of_ne_zero λh0=>yg ?_;rw[Array.isEmpty,h0];rfl
  have hlt:=hn Kw;have gn:(left.map some)[n]? =some (some left[n]):=by simp[hlt]
  obtain⟨h1,h2⟩:=eJ left[n] (by simp);refine⟨left[n],w',h1,h2,?_,hs⟩;intro ty;rw[hrun,gn];have ue:w'.heap[x]? =some (.mapIter (some m) ck seen ck):=by rw[hs.heap];exact hi
  simp only[Sem.run_bind,aM ue (by simp),Result.andThen_ok,Sem.run_pure]
theorem find_born (hb:Borns ck ents) (he:e∈ents.toList):ents.find? (λx=>x.born==e.born)=some e:=by
 obtain⟨t1,t2,ht⟩:=List.append_of_mem he;have hen:ents=(t1++e::t2).toArray:=by rw[<-ht]
 have ew:=hb.1;rw[ht,List.map_append,List.map_cons,List.nodup_append]at ew;rw[hen,List.find?_toArray,List.find?_append];have:t1.find? (λx=>x.born==e.born)=none:=by rw[List.find?_eq_none];intro x hx;have:=ew.2.2 x.born (List.mem_map.2 ⟨x,hx,rfl⟩) e.born (by simp);simpa using this
 rw[this];simp
theorem run_entry {x m:Nat} (hi:w.heap[x]? =some (.mapIter (some m) ck (seen.push e.born) ck)) (hm:w.heap[m]? =some (.map ents ck)) (hb:Borns ck ents) (he:e∈ents.toList):
  (Instr.entry (.pointer (some ⟨x,0,none⟩))).run P w= .ok (.tuple #[e.key,e.val]) w:=by
 have PX:(seen.push e.born).back? =some e.born:=by simp
 simp only[Instr.entry,Sem.run_bind,ar hi (by simp),ar hm (by simp),Result.andThen_ok,Sem.run_pure,PX,bne_self_eq_false,Bool.false_eq_true,if_false,find_born hb he]
end Go.Eng
end
noncomputable section
namespace Go.Eng
open Go
variable {P:Program}
theorem jf {R1 R2:Value->Value->Prop} {r:Value->Option Value} (hr:∀v v' u,r v=some v'->R1 v u->R2 v' u):∀ {l l' m:List Value},bS r l=some l'->F2 R1 l m->F2 R2 l' m
 | [],l',m,h,hm=>by cases h;cases hm;exact .nil
 |v::l,l',m,h,hm=>by have h:ob (r v) (λv'=>ob (bS r l) λl'=>some (v'::l'))=some l':=h;replace h:=U h;obtain⟨v1,h1,h⟩:=h;replace h:=U h;obtain⟨l1,h2,h⟩:=h;cases h;cases hm with|cons a b=>exact .cons (hr _ _ _ h1 a) (jf hr h2 b)
theorem kH {ρ:Ren}:∀ {l m:List Value},af ρ l m->F2 (ag ρ) l m
 |_,_,.nil=> .nil
 |_,_,.cons h hs=> .cons h (kH hs)
theorem kI {ρ:Ren}:∀ {l m:List Value},F2 (ag ρ) l m->af ρ l m
 |_,_,.nil=> .nil
 |_,_,.cons h hs=> .cons h (kI hs)
theorem cJ {aO db:Ren} {φ:Nat->Option Nat} (h:∀a b x,φ a=some b->aO a=some x->db b=some x):∀(n:Nat) (v v' u:Value),aD φ n v=some v'->ag aO v u->ag db v' u
 |0,v,v',u,hv,_=>by cases hv
 |n+1,v,v',u,hv,hr=>by
  have lZ:∀ {l l' m:List Value},bS (aD φ n) l=some l'->af aO l m->af db l' m:= λh1 h2=>kI (jf (λv v' u=>cJ h n v v' u) h1 (kH h2));cases hr with
  |bool b=>cases b<;>(cases hv;exact .bool _)
  |int k m=>have hv:ia k m=some v':=hv;rw[dI]at hv;cases hv;exact .int k m
  |string s=>cases hv;exact .string s
  |junk a b w hw oP=>cases hv;exact .junk a b _ hw oP
  |mT g off=>cases hv;exact .mT g off
  |fz=>cases hv;exact .fz
  | @ptr a x off hx=>have hv:(ob (φ a) λb'=>aq off λo'=>some (.pointer (some ⟨b',o',none⟩)))=some v':=hv;obtain⟨b',h1,hv⟩:=U hv;rw[ak]at hv;cases hv;exact .ptr off (h _ _ _ h1 hx)
  |bc=>cases hv;exact .bc
  | @slice a x off m c cap ad hx g1 g2 g3 g4 g5=>have hv:(ob (φ a) λb'=>aq off λo'=>aq m λm'=>aq c λc'=>some (.slice (some ⟨b',o',none⟩) m' c'))=some v':=hv;obtain⟨b',h1,hv⟩:=U hv;simp only[ak]at hv;cases hv;exact .slice off m c cap ad (h _ _ _ h1 hx) g1 g2 g3 g4 g5
  |iL=>cases hv;exact .iL
  | @map a x hx=>have hv:(ob (φ a) λb'=>some (.map (some b')))=some v':=hv;obtain⟨b',h1,hv⟩:=U hv;cases hv;exact .map (h _ _ _ h1 hx)
  | @func f a b a' b' ha hb=>have hv:(ob (bS (aD φ n) a.toList) λa'=>ob (bS (aD φ n) b.toList) λb'=>some (.func (.func f) ⟨a'⟩ ⟨b'⟩))=some v':=hv;obtain⟨a1,h1,hv⟩:=U hv;obtain⟨b1,h2,hv⟩:=U hv;cases hv;exact .func f (lZ h1 ha) (lZ h2 hb)
  |yield=>cases hv
  |nilFunc=>cases hv;exact .nilFunc
  |nilIface=>cases hv;exact .nilIface
  | @iface t x x' hx=>have hv:(ob (aD φ n x) λx'=>some (.iface t x'))=some v':=hv;obtain⟨x1,h1,hv⟩:=U hv;cases hv;exact .iface t (cJ h n _ _ _ h1 hx)
  | @agg a b ha=>have hv:(ob (bS (aD φ n) a.toList) λa'=>some (.agg ⟨a'⟩))=some v':=hv;obtain⟨a1,h1,hv⟩:=U hv;cases hv;exact .agg (lZ h1 ha)
  | @tuple a b ha=>have hv:(ob (bS (aD φ n) a.toList) λa'=>some (.tuple ⟨a'⟩))=some v':=hv;obtain⟨a1,h1,hv⟩:=U hv;cases hv;exact .tuple (lZ h1 ha)
theorem sj {r:Value->Option Value}:∀ {l l':List Value},bS r l=some l'->l'.length=l.length∧∀(j:Nat) (v':Value),l'[j]? =some v'->∃v,l[j]? =some v∧r v=some v'
 | [],l',h=>by cases h;exact⟨rfl,λj v' hj=>by simp at hj⟩
 |v::l,l',h=>by
  have h:ob (r v) (λv'=>ob (bS r l) λl'=>some (v'::l'))=some l':=h;replace h:=U h;obtain⟨v1,h1,h⟩:=h;replace h:=U h;obtain⟨l1,h2,h⟩:=h;cases h;obtain⟨i1,i2⟩:=sj h2;refine⟨by simp[i1],λj v' hj=>?_⟩;cases j with
  |zero=>simp at hj;subst hj;exact⟨v,rfl,h1⟩
  |succ j=>simp at hj⊢;exact i2 j v' hj
theorem aY:∀ {l:List Nat},bp l=true->l.Nodup
 | [],_=>List.nodup_nil
 |x::t,h=>by
  have h:ab (List.rec (motive:= λ_=>Bool) false (λy _ i=>ab (Nat.beq x y) true i) t) false (bp t)=true:=h;have hm:∀t:List Nat,(List.rec (motive:= λ_=>Bool) false (λy _ i=>ab (Nat.beq x y) true i) t:Bool)=false->x∉t:=by
   intro t;induction t with
   |nil=>simp
   |cons y t ih=>
    intro h;have h:ab (Nat.beq x y) true (List.rec (motive:= λ_=>Bool) false (λy _ i=>ab (Nat.beq x y) true i) t)=false:=h;rw[ah]at h;split at h
    ·cases h
    ·rename_i hb;intro hx;rcases List.mem_cons.1 hx with rfl|hx
     ·exact hb (Nat.beq_refl x)
     ·exact ih h hx
  cases e:(List.rec (motive:= λ_=>Bool) false (λy _ i=>ab (Nat.beq x y) true i) t:Bool)with
  |true=>rw[e]at h;cases h
  |false=>rw[e]at h;exact List.nodup_cons.2 ⟨hm t e,aY h⟩
theorem jg {n:Nat}:∀ {l:List Nat},pE n l=true->∀x∈l,x<n
 | [],_,x,hx=>by cases hx
 |y::t,h,x,hx=>by
  have h:ab (Nat.blt y n) (pE n t) false=true:=h;obtain⟨h0,h⟩:=ai h;rcases List.mem_cons.1 hx with rfl|hx
  ·have:=Nat.le_of_ble_eq_true h0;omega
  ·exact jg h x hx
theorem fF {n:Nat}:∀ {l:List Nat},km n l=true->∀x∈l,n<=x
 | [],_,x,hx=>by cases hx
 |y::t,h,x,hx=>by
  have h:ab (Nat.ble n y) (km n t) false=true:=h;obtain⟨h0,h⟩:=ai h;rcases List.mem_cons.1 hx with rfl|hx
  ·exact Nat.le_of_ble_eq_true h0
  ·exact fF h x hx
theorem wQ {a b:List Value} (h:jT (jX 12) a b=true):a=b:=fK (bH 12) a b h
theorem pk:∀ {a b:T (List Value)},OR a b=true->a=b
 | .e,.e,_=>rfl
 | .e,.n _ _ _,h=>by cases h
 | .n _ _ _,.e,h=>by cases h
 | .n v l r,.n v' l' r',h=>by
  have h:ab (Option.rec (motive:= λ_=>Bool) (Option.rec (motive:= λ_=>Bool) true (λ_=>false) v') (λx=>Option.rec (motive:= λ_=>Bool) false (λy=>jT (jX 12) x y) v') v) (ab (OR l l') (OR r r') false) false=true:=h;obtain⟨h0,h⟩:=ai h;obtain⟨h1,h2⟩:=ai h;rw[pk h1,pk h2];cases v with
  |none=>cases v' with|none=>rfl|some _=>cases h0
  |some x=>cases v' with|none=>cases h0|some y=>rw[wQ h0]
theorem mF:∀ {a b:List (Value×Value×Nat)},Ht a b=true->a=b
 | [],[],_=>rfl
 | [],_::_,h=>by cases h
 |_::_,[],h=>by cases h
 |(k,v,n)::a,(k',v',n')::b,h=>by have h:ab (jX 12 k k') (ab (jX 12 v v') (ab (Nat.beq n n') (Ht a b) false) false) false=true:=h;obtain⟨h0,h⟩:=ai h;obtain⟨h1,h⟩:=ai h;obtain⟨h2,h⟩:=ai h;rw[bH 12 _ _ h0,bH 12 _ _ h1,Nat.eq_of_beq_eq_true h2,mF h]
theorem kX {a b:Blk} (h:lM a b=true):a=b:=by
 unfold lM at h;split at h
 ·rename_i c sz n ro et c' jn n' Am uT;obtain⟨h0,h⟩:=ai h;obtain⟨h1,h⟩:=ai h;obtain⟨h2,h⟩:=ai h;obtain⟨h3,h⟩:=ai h;have hro:ro=Am:=by cases ro<;>cases Am<;>first|rfl|exact(Bool.noConfusion h3)
  rw[Nat.eq_of_beq_eq_true h0,Nat.eq_of_beq_eq_true h1,Nat.eq_of_beq_eq_true h2,hro,pk h]
 ·obtain⟨h0,h⟩:=ai h;obtain⟨h1,h⟩:=ai h;rw[Nat.eq_of_beq_eq_true h0,Nat.eq_of_beq_eq_true h1,mF h]
 ·cases h
end Go.Eng
end
noncomputable section
namespace Go.Eng
open Go
variable {s s':AS} {k':Blk} {ev:Ev} {h:Hp} {ch:List Nat} {x:Loc} {m:cy} {b mb n nx:Nat} {φ:Nat->Option Nat} {P:Program} {ρ aj cD aO db:Ren} {tm:T Value} {w w':World}
theorem y9 {N:Nat} {π:dz} {a:Nat} (h:An N π a=some b):(a<N∧b=a)∨(N<=a∧(a,b)∈π):=by
 unfold An at h;rw[ah]at h;split at h
 ·rename_i hb;rw[ak]at h;cases h;exact .inl ⟨Nat.le_of_ble_eq_true hb,rfl⟩
 ·rename_i hb;refine .inr ⟨Nat.le_of_not_lt λhlt=>hb (Nat.ble_eq_true_of_le hlt),?_⟩;clear hb;induction π with
  |nil=>cases h
  |cons p t ih=>
   have h:ab (Nat.beq p.1 a) (some p.2) (List.rec (motive:= λ_=>Option Nat) none (λp _ ih=>ab (Nat.beq p.1 a) (some p.2) ih) t)=some b:=h;rw[ah]at h;split at h
   ·rename_i he;cases h;rw[<-Nat.eq_of_beq_eq_true he];exact List.mem_cons_self
   ·exact List.mem_cons_of_mem _ (ih h)
theorem tc:∀ {l:dz},(CU l).Nodup->∀ {a b b'},(a,b)∈l->(a,b')∈l->b=b'
 | [],_,a,b,b',h,_=>by cases h
 |p::t,hn,a,b,b',h1,h2=>by
  have hn:(p.1::CU t).Nodup:=hn;have hm:∀ {l:dz} {q:Nat×Nat},q∈l->q.1∈CU l:= λ {l q} hq=>by
   induction l with
   |nil=>cases hq
   |cons x l ih=>
    rcases List.mem_cons.1 hq with rfl|hq
    ·exact List.mem_cons_self
    ·exact List.mem_cons_of_mem _ (ih hq)
  obtain⟨h3,h4⟩:=List.nodup_cons.1 hn;rcases List.mem_cons.1 h1 with e1|e1<;>rcases List.mem_cons.1 h2 with e2|e2
  ·rw[<-e1]at e2;cases e2;rfl
  ·rw[<-e1]at h3;exact(h3 (hm (q:=(a,b')) e2)).elim
  ·rw[<-e2]at h3;exact(h3 (hm (q:=(a,b)) e1)).elim
  ·exact tc h4 e1 e2
theorem za:∀ {l:dz} {q:Nat×Nat},q∈l->q.1∈CU l
 |x::l,q,hq=>by
  rcases List.mem_cons.1 hq with rfl|hq
  ·exact List.mem_cons_self
  ·exact List.mem_cons_of_mem _ (za hq)
theorem kJ:∀ {l:dz} {q:Nat×Nat},q∈l->q.2∈CV l
 |x::l,q,hq=>by
  rcases List.mem_cons.1 hq with rfl|hq
  ·exact List.mem_cons_self
  ·exact List.mem_cons_of_mem _ (kJ hq)
theorem td:∀ {l:dz},(CV l).Nodup->∀ {p q},p∈l->q∈l->p.2=q.2->p=q
 |p::t,hn,x,y,h1,h2,he=>by
  have hn:(p.2::CV t).Nodup:=hn;obtain⟨h3,h4⟩:=List.nodup_cons.1 hn;rcases List.mem_cons.1 h1 with rfl|e1<;>rcases List.mem_cons.1 h2 with rfl|e2
  ·rfl
  ·exact(h3 (by rw[he];exact kJ e2)).elim
  ·exact(h3 (by rw[<-he];exact kJ e1)).elim
  ·exact td h4 e1 e2 he
theorem pn {x:Option Blk} {y:Blk} (h:ri φ x (some y)=true):∃x',x=some x'∧Hu φ x' y=true:=by
 cases x with
 |none=>cases h
 |some x'=>exact⟨x',rfl,h⟩
theorem so {φ:Nat->Option Nat} {f g:Hp}:∀ {n L:Nat},J9 φ f g n L=true->∀a,L<=a->a<L+n->ri φ (f.get a) (g.get a)=true
 |0,L,_,a,h1,h2=>by omega
 |n+1,L,h,a,h1,h2=>by
  have h:ab (ri φ (f.get L) (g.get L)) (J9 φ f g n (Nat.succ L)) false=true:=h;obtain⟨h3,h4⟩:=ai h;by_cases e:a=L
  ·rw[e];exact h3
  ·exact so h4 a (by omega) (by omega)
theorem zb {φ:Nat->Option Nat} {f g:Hp}:∀ {l:dz},Ka φ f g l=true->∀p∈l,ri φ (f.get p.1) (g.get p.2)=true
 |q::l,h,p,hp=>by
  have h:ab (ri φ (f.get q.1) (g.get q.2)) (Ka φ f g l) false=true:=h;obtain⟨h3,h4⟩:=ai h;rcases List.mem_cons.1 hp with rfl|hp
  ·exact h3
  ·exact zb h4 p hp
theorem nu {φ:Nat->Option Nat}:∀ {c' c:T (List Value)},Lx φ c' c=true->∀i l',c'.get i=some l'->∃l,c.get i=some l∧bS (aD φ 12) l=some l'
 | .e,_,_,i,l',h=>by rw[T.get_e]at h;cases h
 | .n v' l1 r1,.e,hs,i,l',h=>by
  have hs:ab (Option.rec (motive:= λ_=>Bool) true (λ_=>false) v') (ab (Lx φ l1 .e) (Lx φ r1 .e) false) false=true:=hs;obtain⟨h0,hs⟩:=ai hs;obtain⟨h1,h2⟩:=ai hs;rcases bb i with rfl|⟨m,rfl⟩|⟨m,rfl⟩
  ·rw[T.dM]at h;subst h;cases h0
  ·rw[T.bO]at h;obtain⟨l,e,_⟩:=nu h1 m l' h;rw[T.get_e]at e;cases e
  ·rw[T.bh]at h;obtain⟨l,e,_⟩:=nu h2 m l' h;rw[T.get_e]at e;cases e
 | .n v' l1 r1,.n v l2 r2,hs,i,l',h=>by
  have hs:ab (Se φ v v') (ab (Lx φ l1 l2) (Lx φ r1 r2) false) false=true:=hs;obtain⟨h0,hs⟩:=ai hs;obtain⟨h1,h2⟩:=ai hs;rcases bb i with rfl|⟨m,rfl⟩|⟨m,rfl⟩
  ·rw[T.dM]at h⊢;subst h;cases v with
   |none=>cases h0
   |some x=>
    have h0:Option.rec (motive:= λ_=>Bool) false (λx'=>jT (jX 12) x' l') (bS (aD φ 12) x)=true:=h0;cases hx:bS (aD φ 12) x with
    |none=>rw[hx]at h0;cases h0
    |some x'=>rw[hx]at h0;exact⟨x,rfl,by rw[hx,wQ h0]⟩
  ·rw[T.bO]at h⊢;exact nu h1 m l' h
  ·rw[T.bh]at h⊢;exact nu h2 m l' h
theorem tf {k:Value}:∀ {es rest:List an} {q:an},yA k es=some (q,rest)->∃e1 e2,es=e1++q::e2∧rest=e1++e2∧q.1=k
 | [],rest,q,h=>by cases h
 |e::t,rest,q,h=>by
  have h:ab (jX 12 e.1 k) (some (e,t)) (ob (yA k t) λq=>some (q.1,e::q.2))=some (q,rest):=h;rw[ah]at h;split at h
  ·rename_i hk;cases h;exact⟨[],t,rfl,rfl,bH 12 _ _ hk⟩
  ·replace h:=U h;obtain⟨p,hp,h⟩:=h;cases h;obtain⟨e1,e2,h1,h2,h3⟩:=tf (q:=p.1) (rest:=p.2) hp;exact⟨e::e1,e2,by rw[h1];rfl,by rw[h2];rfl,h3⟩
theorem zc {α:Type} {R1 R2:an->α->Prop} {φ:Nat->Option Nat} (hR:∀p q e,p.1=q.1->J8 φ p q=true->R1 p e->R2 q e):∀ {bf es:List an} {l:List α},Fi φ bf es=true->F2 R1 es l->∃l',l'.Perm l∧F2 R2 bf l'∧(bf.map (·.1)).Perm (es.map (·.1))
 | [],[],l,_,hf=>by cases hf;exact⟨[],.refl _,.nil,.refl _⟩
 | [],_::_,l,h,_=>by cases h
 |e::bf,es,l,h,hf=>by
  have h:Option.rec (motive:= λ_=>Bool) false (λq:an×List an=>ab (J8 φ q.1 e) (Fi φ bf q.2) false) (yA e.1 es)=true:=h;cases ht:yA e.1 es with
  |none=>rw[ht]at h;cases h
  |some q=>
   rw[ht]at h;obtain⟨h1,h2⟩:=ai h;obtain⟨e1,e2,rfl,hr,hk⟩:=tf (q:=q.1) (rest:=q.2) ht;obtain⟨m1,b,m2,rfl,f1,hb,f2⟩:=hf.split;have Uj:F2 R1 q.2 (m1++m2):=by rw[hr];exact F2.append f2 f1
   obtain⟨l',p1,p2,p3⟩:=zc hR h2 Uj;refine⟨b::l',(p1.cons b).trans List.perm_middle.symm,.cons (hR _ _ _ hk h1 hb) p2,?_⟩;rw[hr]at p3;simp only[List.map_cons,List.map_append]at p3⊢;rw[<-hk];exact(p3.cons _).trans List.perm_middle.symm
theorem xq (h:∀a b x,φ a=some b->aO a=some x->db b=some x) {k:Blk} (hc:Hu φ k k'=true) (hb:cj P aO x w k):cj P db x w k'∧eo k=eo k':=by
 unfold Hu at hc;split at hc
 ·rename_i c sz n ro et c' jn n' Am uT;replace hc:=ai hc;obtain⟨h0,hc⟩:=hc;replace hc:=ai hc;obtain⟨h1,hc⟩:=hc;replace hc:=ai hc;obtain⟨h2,hc⟩:=hc;replace hc:=ai hc;obtain⟨h3,hc⟩:=hc;have hro:ro=Am:=by cases ro<;>cases Am<;>first|rfl|exact(Bool.noConfusion h3)
  replace h0:=Nat.eq_of_beq_eq_true h0;replace h1:=Nat.eq_of_beq_eq_true h1;replace h2:=Nat.eq_of_beq_eq_true h2;subst h0 h1 h2 hro;refine⟨⟨λi l' hl=>?_,hb.all,hb.free,hb.shape,hb.mult⟩,rfl⟩;obtain⟨l,hg,G6⟩:=nu hc i l' hl;obtain⟨b1,b2,b3⟩:=hb.cell i l hg;obtain⟨g1,g2⟩:=sj G6;refine⟨b1,by rw[g1,b2],λj v' hv=>?_⟩;obtain⟨v,Mr,Ec⟩:=g2 j v' hv;obtain⟨u,hu,hr⟩:=b3 j v Mr;exact⟨u,hu,cJ h 12 v v' u Ec hr⟩
 ·rename_i kt es ck ud bf ck';replace hc:=ai hc;obtain⟨h0,hc⟩:=hc;replace hc:=ai hc;obtain⟨h1,hc⟩:=hc;replace h0:=Nat.eq_of_beq_eq_true h0;replace h1:=Nat.eq_of_beq_eq_true h1;subst h0 h1;obtain⟨ents,e1,⟨l,p1,p2,p3⟩,e3⟩:=hb;obtain⟨l',q1,q2,q3⟩:=zc (R2:= λp e=>p.1=e.key∧aC P kt p.1=true∧Plain p.1∧ag db p.2.1 e.val∧(p.2.2=0∨p.2.2=e.born+1)) (λp q e hk Mb hR=>by
   obtain⟨r1,r2,r3,r4,r5⟩:=hR;obtain⟨c1,c2⟩:=ai Mb;rw[<-hk];refine⟨r1,r2,r3,?_,?_⟩
   ·cases hv:aD φ 12 p.2.1 with
    |none=>rw[hv]at c1;cases c1
    |some v'=>rw[hv]at c1;have c1:jX 12 v' q.2.1=true:=c1;rw[<-bH 12 _ _ c1];exact cJ h 12 _ _ _ hv r4
   ·rw[ah]at c2;split at c2
    ·rename_i hz;exact .inl (Nat.eq_of_beq_eq_true hz)
    ·rw[<-Nat.eq_of_beq_eq_true c2];exact r5) hc p2
  exact⟨⟨ents,e1,⟨l',q1.trans p1,q2,q3.nodup_iff.2 p3⟩,e3⟩,rfl⟩
 ·cases hc
theorem GA {x y:Option Blk} (h:Fj x y=true):x=y:=by
 cases x with
 |none=>cases y with|none=>rfl|some _=>cases h
 |some x=>cases y with|none=>cases h|some y=>rw[kX h]
theorem sq {h g:Hp}:∀ {n L:Nat} {ch:List Nat},Af h g n L=some ch->∀a,L<=a->a<L+n->a∈ch∨h.get a=g.get a
 |0,L,ch,_,a,h1,h2=>by omega
 |n+1,L,ch,hc,a,h1,h2=>by
  have hc:ob (Af h g n (Nat.succ L)) (λl=>ab (Fj (h.get L) (g.get L)) (some l) (aq L λa=>some (a::l)))=some ch:=hc;obtain⟨l,hl,hc⟩:=U hc;rw[ah]at hc;have ih:= λhne:a≠L=>sq hl a (by omega) (by omega);split at hc
  ·rename_i hs;cases hc;by_cases e:a=L
   ·rw[e];exact .inr (GA hs)
   ·exact ih e
  ·rw[ak]at hc;cases hc;by_cases e:a=L
   ·rw[e];exact .inl List.mem_cons_self
   ·exact(ih e).imp (List.mem_cons_of_mem _) id
theorem su {f h:Hp}:∀ {l:List Nat},BU f h l=true->∀a∈l,f.get a≠h.get a
 |b::l,hc,a,ha=>by
  have hc:ab (Nat.beq (Js (f.get b)) (Js (h.get b))) false (BU f h l)=true:=hc;rw[ah]at hc;split at hc
  ·cases hc
  ·rename_i hne;rcases List.mem_cons.1 ha with rfl|ha
   ·intro e;exact hne (by rw[e];exact Nat.beq_refl _)
   ·exact su hc a ha
theorem zd {h0 f:Hp}:∀ {n a:Nat} {h h':Hp},Hv h0 f n a h=some h'->∀j,(j<a∨a+n<=j)->h'.get j=h.get j
 |0,a,h,h',e,j,_=>by cases e;rfl
 |n+1,a,h,h',e,j,hj=>by
  have e:ob (I2 (h0.get a) (f.get a)) (λb=>ob (Option.rec (motive:= λ_=>Option (Hp)) (Hp.put none h a) (λk=>Hp.put (some k) h a) b) λh'=>Hv h0 f n (Nat.succ a) h')=some h':=e;obtain⟨b,_,e⟩:=U e;obtain⟨h1,e1,e⟩:=U e;have hp:∃z,Hp.put z h a=some h1:=by
   cases b with
   |none=>exact⟨_,e1⟩
   |some k=>exact⟨_,e1⟩
  obtain⟨z,hp⟩:=hp;rw[zd e j (by omega),Hp.aR _ _ _ _ hp,if_neg (by omega)]
theorem nN:∀ {l:List Nat} {s s':AS},ry l s=some s'->s'.nx=s.nx∧s'.lim=s.lim∧(∀a∈l,s.lim<=a)∧∀j,s'.h.get j=if j∈l then none else s.h.get j
 | [],s,s',h=>by cases h;exact⟨rfl,rfl,λa ha=>(by cases ha),λj=>by simp⟩
 |a::l,s,s',h=>by
  have h:ob (s.set a none) (ry l)=some s':=h;obtain⟨s1,h1,h⟩:=U h;obtain⟨i1,i2,i3,i4⟩:=nN h;obtain⟨j1,j2⟩:=AS.cP h1;obtain⟨k1,k2⟩:=AS.aS h1;refine⟨i1.trans j1,i2.trans k1,λb hb=>?_,λj=>?_⟩
  ·rcases List.mem_cons.1 hb with rfl|hb
   ·exact k2
   ·have:=i3 b hb;rw[k1]at this;exact this
  ·rw[i4,j2];by_cases e1:j∈l
   ·rw[if_pos e1,if_pos (List.mem_cons_of_mem _ e1)]
   ·rw[if_neg e1];by_cases e2:j=a
    ·rw[if_pos e2,if_pos (by rw[e2];exact List.mem_cons_self)]
    ·rw[if_neg e2,if_neg (λh=>(List.mem_cons.1 h).elim e2 e1)]
theorem jh {h0:Hp}:∀ {l:List Nat} {h h':Hp},m8 h0 l h=some h'->∀j,h'.get j=if j∈l then h0.get j else h.get j
 | [],h,h',e,j=>by cases e;simp
 |a::l,h,h',e,j=>by
  have e:ob (Option.rec (motive:= λ_=>Option (Hp)) (Hp.put none h a) (λk=>Hp.put (some k) h a) (h0.get a)) (m8 h0 l)=some h':=e;obtain⟨h1,e1,e⟩:=U e;have e1:Hp.put (h0.get a) h a=some h1:=by
   cases hg:h0.get a with
   |none=>rw[hg]at e1;exact e1
   |some k=>rw[hg]at e1;exact e1
  rw[jh e j,Hp.aR _ _ _ _ e1];by_cases m1:j∈l
  ·rw[if_pos m1,if_pos (List.mem_cons_of_mem _ m1)]
  ·rw[if_neg m1];by_cases m2:j=a
   ·rw[if_pos m2,if_pos (by rw[m2];exact List.mem_cons_self),m2]
   ·rw[if_neg m2,if_neg (λh=>(List.mem_cons.1 h).elim m2 m1)]
theorem i6 {h:Hp}:∀ {n L:Nat} {od:List Nat},CW h n L=some od->∀a∈od,Kb (h.get a)=true∧L<=a∧a<L+n
 |0,L,od,e,a,ha=>by cases e;cases ha
 |n+1,L,od,e,a,ha=>by
  have e:ob (CW h n (Nat.succ L)) (λl=>ab (Kb (h.get L)) (aq L λa=>some (a::l)) (some l))=some od:=e;obtain⟨l,hl,e⟩:=U e;rw[ah]at e;split at e
  ·rename_i ho;rw[ak]at e;cases e;rcases List.mem_cons.1 ha with rfl|ha
   ·exact⟨ho,Nat.le_refl _,by omega⟩
   ·obtain⟨a1,a2,a3⟩:=i6 hl a ha;exact⟨a1,by omega,by omega⟩
  ·cases e;obtain⟨a1,a2,a3⟩:=i6 hl a ha;exact⟨a1,by omega,by omega⟩
theorem mG {f:an->Bool}:∀ {es:List an} {q:List an×List an},oI f es=some q->q.1.Sublist es∧q.2.Sublist es∧∀e∈es,e∈q.1∨e∈q.2
 | [],q,h=>by cases h;exact⟨.slnil,.slnil,λe he=>by cases he⟩
 |e::es,q,h=>by
  have h:ob (oI f es) (λq=>ab (f e) (some (e::q.1,q.2)) (some (q.1,e::q.2)))=some q:=h;obtain⟨p,hp,h⟩:=U h;obtain⟨h1,h2,h3⟩:=mG hp;rw[ah]at h;split at h
  ·cases h;exact⟨h1.cons_cons e,h2.cons e,λx hx=>by
    rcases List.mem_cons.1 hx with rfl|hx
    ·exact .inl List.mem_cons_self
    ·exact(h3 x hx).imp (List.mem_cons_of_mem _) id⟩
  ·cases h;exact⟨h1.cons e,h2.cons_cons e,λx hx=>by
    rcases List.mem_cons.1 hx with rfl|hx
    ·exact .inr List.mem_cons_self
    ·exact(h3 x hx).imp id (List.mem_cons_of_mem _)⟩
theorem i7 {α:Type} {f:α->Bool}:∀ {l:List α},pO f l=true->∀x∈l,f x=true
 |y::l,h,x,hx=>by
  have h:ab (f y) (pO f l) false=true:=h;obtain⟨h1,h2⟩:=ai h;rcases List.mem_cons.1 hx with rfl|hx
  ·exact h1
  ·exact i7 h2 x hx
theorem vK {e:an}:∀ {l:List (an×List an)} {q},q∈l->(q.1,e::q.2)∈I1 e l
 |p::l,q,h=>by
  rcases List.mem_cons.1 h with rfl|h
  ·exact List.mem_cons_self
  ·exact List.mem_cons_of_mem _ (vK h)
theorem vL {e:an} {l2:List an}:∀ {l1:List an},(e,l1++l2)∈Fk (l1++e::l2)
 | []=>List.mem_cons_self
 |x::l1=>List.mem_cons_of_mem _ (vK (e:=x) (q:=(e,l1++l2)) vL)
theorem qk {e:an} (h:iJ m ev tm e s=some s'):∃tm',bT m ev (e.1,e.2.1) tm s= .code .normal tm' s'∧pN tm tm'=true:=by
 unfold iJ at h;split at h
 ·rename_i tm' s1 heq;obtain⟨h1,h2⟩:=ae h;cases h2;exact⟨tm',heq,h1⟩
 ·cases h
theorem ql {e:an} (h:fy m ev tm s e=true):∃tm' s',bT m ev (e.1,e.2.1) tm ⟨s.h,s.nx,s.nx⟩= .code .normal tm' s'∧pN tm tm'=true:=by
 unfold fy kC at h;split at h
 ·exact⟨_,_,‹_›,h⟩
 ·cases h
theorem ze {N:List an} {leaf:AS->Bool} {W:List an} (h:Ly m ev tm N leaf W.length W s=true):(∀p∈N,fy m ev tm s p=true)∧(W= []->leaf s=true)∧
  ∀l1 e l2,W=l1++e::l2->∃s',iJ m ev tm e s=some s'∧Ly m ev tm N leaf (l1++l2).length (l1++l2) s'=true:=by
 cases W with
 |nil=>have h:ab (pO (fy m ev tm s) N) (leaf s) false=true:=h;obtain⟨h1,h2⟩:=ai h;exact⟨λp hp=>i7 h1 p hp,λ_=>h2,λl1 e l2 he=>by cases l1<;>cases he⟩
 |cons x W=>
  have h:ab (pO (fy m ev tm s) N) (pO (λq=>Option.rec (motive:= λ_=>Bool) false (λs'=>Ly m ev tm N leaf W.length q.2 s') (iJ m ev tm q.1 s)) (Fk (x::W))) false=true:=h;obtain⟨h1,h2⟩:=ai h;refine⟨λp hp=>i7 h1 p hp,λe=>(by cases e),λl1 e l2 he=>?_⟩;have hm:=i7 h2 (e,l1++l2) (by rw[he];exact vL);have hl:W.length=(l1++l2).length:=by have:=congrArg List.length he;simp at this⊢;omega
  rw[<-hl];cases hr:iJ m ev tm e s with
  |none=>rw[hr]at hm;cases hm
  |some s'=>rw[hr]at hm;exact⟨s',rfl,hm⟩
theorem DL {N L wt:Nat} {g:Hp} (e:Ek N L n wt h g ch s=true):∃π,u6 N L n wt h s.h g ch π=true:=by
 unfold Ek at e;cases hp:(ob (IZ (BT N 12) s.h g n L []) λl=>I0 (BT N 12) s.h g 1000 0 l)with
 |none=>rw[hp]at e;cases e
 |some π=>rw[hp]at e;exact⟨π,e⟩
theorem zS {N L wt:Nat} {f g:Hp} {π:dz} (cK:u6 N L n wt h f g ch π=true):(∀a∈ch,f.get a≠h.get a)∧∀a,L<=a->a<L+n->f.get a=none->g.get a=none:=by
 unfold u6 at cK;obtain⟨_,cK⟩:=ai cK;obtain⟨_,cK⟩:=ai cK;obtain⟨_,cK⟩:=ai cK;obtain⟨_,cK⟩:=ai cK;obtain⟨_,cK⟩:=ai cK;obtain⟨d6,cK⟩:=ai cK;obtain⟨d7,_⟩:=ai cK;refine⟨su d6,λa h1 h2 he=>?_⟩;have:=so d7 a h1 h2;rw[he]at this;cases hg:g.get a with
 |none=>rfl
 |some k=>rw[hg]at this;cases this
theorem qm {m:cy} {ev:Ev} {tm:T Value} {s1 s2:AS} {mb:Nat} {es:List an}:∀ {ks:List Nat},oJ m ev tm s1 mb es ks=some s2->∃L,u7 m ev tm s1 mb es L=some s2
 | [],h=>by cases h
 |k::ks,h=>by
  have h:Lz (aq (Nat.max s1.lim (Nat.sub s1.nx k)) λL=>u7 m ev tm s1 mb es L) (oJ m ev tm s1 mb es ks)=some s2:=h;rw[ak]at h;cases hl:u7 m ev tm s1 mb es (Nat.max s1.lim (Nat.sub s1.nx k))with
  |none=>rw[hl]at h;exact qm h
  |some s3=>rw[hl]at h;cases h;exact⟨_,hl⟩
theorem tg {α:Type}:∀l:List α,len l=l.length
 | []=>rfl
 |_::l=>congrArg Nat.succ (tg l)
theorem Bw {s1 sz:AS} {L:Nat} {es:List an} (h:u7 m ev tm s1 mb es L=some sz):∃(od:List Nat) (s2 f1:AS) (q:List an×List an) (g hz:Hp) (ch:List Nat),s1.lim<=L∧L<=s1.nx∧
  CW s1.h (s1.nx-L) L=some od∧ry (mb::od) s1=some s2∧oI (fy m ev tm ⟨s2.h,s2.nx,L⟩) es=some q∧Hv s2.h f1.h (f1.nx-L) L s2.h=some g∧Af s2.h g (s1.nx-L) L=some ch∧s1.nx<=f1.nx∧
  Ly m ev tm q.1 (Ek s1.nx L (s1.nx-L) f1.nx s2.h g ch) q.2.length q.2 ⟨s2.h,s2.nx,L⟩=true∧m8 s1.h (mb::od) g=some hz∧sz=⟨hz,f1.nx,s1.lim⟩:=by
 unfold u7 at h;obtain⟨h0,h⟩:=ae h;obtain⟨h1,h2⟩:=ai h0;rw[ak]at h;obtain⟨od,e1,h⟩:=U h;obtain⟨s2,e2,h⟩:=U h;obtain⟨q,e3,h⟩:=U h;obtain⟨f1,e4,h⟩:=U h;obtain⟨g,e5,h⟩:=U h;obtain⟨ch,e6,h⟩:=U h;obtain⟨e7,h⟩:=ae h;obtain⟨e8,h⟩:=ae h;obtain⟨hz,e9,h⟩:=U h;simp only[ak]at h;cases h;rw[tg]at e8;exact⟨od,s2,f1,q,g,hz,ch,Nat.le_of_ble_eq_true h1,Nat.le_of_ble_eq_true h2,e1,e2,e3,e5,e6,Nat.le_of_ble_eq_true e7,e8,e9,rfl⟩
theorem Rel.Kx (h:Rel P ρ s w) (hg:∀j k,s'.h.get j=some k->s.h.get j=some k) (hn:s'.nx=s.nx) (hl:s'.lim<=s'.nx):Rel P ρ s' w:=by
 refine⟨λa ha=>h.eu a (by rw[<-hn];exact ha),λa ha=>?_,λa k x e1 e2=>h.blk a k x (hg a k e1) e2,hl,λa a' k k' x x' hne e1 e2=>h.aX a a' k k' x x' hne (hg a k e1) (hg a' k' e2),λg gl vs g1 g2=>?_⟩
 ·cases e:s'.h.get a with
  |none=>rfl
  |some k=>have:=hg a k e;rw[h.top a (by rw[<-hn];exact ha)]at this;cases this
 ·obtain⟨a,b,c⟩:=h.gl g gl vs g1 g2;exact⟨a,λ⟨a',k,x,e1,e2,e3⟩=>b ⟨a',k,x,hg a' k e1,e2,e3⟩,c⟩
theorem xt {R:an->MapEntry->Prop} (hR:∀p e,R p e->p.1=e.key):∀ {es:List an} {l:List MapEntry},F2 R es l->l.map (·.key)=es.map (·.1)
 |_,_,.nil=>rfl
 |_,_,.cons h hs=>by simp only[List.map_cons];rw[hR _ _ h,xt hR hs]
theorem GB {d:Option (List Deferred)}:∀ {k:Blk},(eo k=false∧∀c sz n ro et,k≠.cells c sz n ro et)->cj P ρ x w k->w.heap[x.b]?≠some (.deferred d)
 | .cells ..,hk,_=>(hk.2 _ _ _ _ _ rfl).elim
 | .map ..,_,⟨_,h,_⟩=>by rw[h];simp
 | .pmap ..,_,⟨_,h,_⟩=>by rw[h];simp
 | .cQ ..,_,⟨_,h⟩=>by rw[h];simp
 | .mapIter ..,_,⟨_,h⟩=>by rcases h with ⟨_,h⟩|⟨_,_,_,_,h⟩<;>(rw[h];simp)
 | .loop ..,_,⟨_,_,_,h,_⟩=>by rw[h];simp
theorem Ip {sc:AS} (hR:Rel P ρ sc w) {N L wt l:Nat} {g:Hp} {π:dz} (cK:u6 N L n wt h sc.h g ch π=true) (hn:L+n=N) (VO:N<=wt) (hl:l<=wt) (Ri:∀a,wt<=a->g.get a=none) (hle:aG cD ρ) (Ol:∀a,N<=a->cD a=none) (pT:∀a,a<L->sc.h.get a=g.get a) (Om:∀a k x,a<L->g.get a=some k->cD a=some x->cj P cD x w k) (uq:∀a,a<N->ρ a=cD a):
  ∃aj,(∀a,a<N->aj a=cD a)∧Rel P aj ⟨g,wt,l⟩ w∧∀b,aQ aj ⟨g,wt,l⟩ b->aQ ρ sc b:=by
 unfold u6 at cK;obtain⟨d1,cK⟩:=ai cK;obtain⟨d2,cK⟩:=ai cK;obtain⟨d3,cK⟩:=ai cK;obtain⟨d4,cK⟩:=ai cK;obtain⟨d5,cK⟩:=ai cK;obtain⟨d6,cK⟩:=ai cK;obtain⟨d7,d8⟩:=ai cK;replace d1:=aY d1;replace d2:=aY d2;have d3:= λ {q:Nat×Nat} (hq:q∈π)=>fF d3 _ (za hq);have d4:= λ {q:Nat×Nat} (hq:q∈π)=>fF d4 _ (kJ hq);have d5:= λ {q:Nat×Nat} (hq:q∈π)=>jg d5 _ (kJ hq)
 let aj:Ren:= λb=>if b<N then cD b else match π.find? (λp=>p.2==b)with|some p=>ρ p.1|none=>none
 have hlt:∀a,a<N->aj a=cD a:= λa ha=>by show(if a<N then _ else _)=_;rw[if_pos ha]
 have x3:∀ {a b},(a,b)∈π->aj b=ρ a:= λ {a b} hm=>by
  show(if b<N then _ else _)=_;have:N<=b:=d4 hm;rw[if_neg (by omega)];cases hf:π.find? (λp=>p.2==b)with
  |none=>rw[List.find?_eq_none]at hf;exact absurd (beq_self_eq_true b) (hf (a,b) hm)
  |some p=>
   have h1:=List.mem_of_find?_eq_some hf;have h2:p.2=b:=by simpa using List.find?_some hf
   have:=td d2 h1 hm h2;subst this;rfl
 have hinv:∀ {b x},aj b=some x->(b<N∧ρ b=some x)∨(N<=b∧∃a,(a,b)∈π∧ρ a=some x):= λ {b x} e=>by
  by_cases hb:b<N
  ·left;refine⟨hb,?_⟩;rw[hlt b hb]at e;rw[uq b hb];exact e
  ·right;refine⟨by omega,?_⟩;have e:(if b<N then cD b else match π.find? (λp=>p.2==b)with|some p=>ρ p.1|none=>none)=some x:=e;rw[if_neg hb]at e;cases hf:π.find? (λp=>p.2==b)with
   |none=>rw[hf]at e;cases e
   |some p=>
    rw[hf]at e;have h1:=List.mem_of_find?_eq_some hf;have h2:p.2=b:=by simpa using List.find?_some hf
    exact⟨p.1,by rw[<-h2];exact h1,e⟩
 have GY:∀a b x,An N π a=some b->ρ a=some x->aj b=some x:= λa b x e e'=>by
  rcases y9 e with ⟨h1,rfl⟩|⟨h1,h2⟩
  ·rw[hlt _ h1,<-uq _ h1];exact e'
  ·rw[x3 h2];exact e'
 have ui:aG cD aj:= λa x e=>by
  have:a<N:=Nat.lt_of_not_le λhle=>by rw[Ol a hle]at e;cases e
  rw[hlt a this];exact e
 have HG:∀ {b k x},g.get b=some k->aj b=some x->∃a kf,sc.h.get a=some kf∧ρ a=some x∧eo kf=eo k∧cj P aj x w k∧((b<N∧a=b)∨(N<=b∧(a,b)∈π)):= λ {b k x} hg hx=>by
  rcases hinv hx with ⟨hb,fm⟩|⟨hb,a,hm,fm⟩
  ·by_cases SK:b<L
   ·refine⟨b,k,by rw[pT b SK];exact hg,fm,rfl,?_,.inl ⟨hb,rfl⟩⟩;exact(Om b k x SK hg (by rw[<-uq b hb];exact fm)).mono ui
   ·have hc:=so d7 b (by omega) (by omega);rw[hg]at hc;obtain⟨kf,eM,hc⟩:=pn hc;obtain⟨c1,c2⟩:=xq GY hc (hR.blk b kf x eM fm).2;exact⟨b,kf,eM,fm,c2,c1,.inl ⟨hb,rfl⟩⟩
  ·have hc:=zb d8 (a,b) hm;simp only at hc;rw[hg]at hc;obtain⟨kf,eM,hc⟩:=pn hc;obtain⟨c1,c2⟩:=xq GY hc (hR.blk a kf x eM fm).2;exact⟨a,kf,eM,fm,c2,c1,.inr ⟨hb,hm⟩⟩
 have pI:∀b,aQ aj ⟨g,wt,l⟩ b->aQ ρ sc b:= λb hb=>by obtain⟨a,k,x,e1,e2,e3⟩:=hb;obtain⟨a',kf,c1,c2,_⟩:=HG e1 e2;exact⟨a',kf,x,c1,c2,e3⟩
 refine⟨aj,hlt,⟨λa ha=>?_,λa ha=>Ri a ha,λa k x e1 e2=>?_,hl,λa a' k k' x x' hne e1 e2 r1 r2 hb=>?_,λgg gl vs g1 g2=>?_⟩,pI⟩
 ·have ha:wt<=a:=ha;cases e:aj a with
  |none=>rfl
  |some x=>
   rcases hinv e with ⟨h1,_⟩|⟨_,a',hm,_⟩
   ·omega
   ·have:a<wt:=d5 hm;omega
 ·obtain⟨a',kf,c1,c2,c3,c4,c5⟩:=HG e1 e2;exact⟨(hR.blk a' kf x c1 c2).1,c4⟩
 ·obtain⟨b,kf,c1,c2,c3,c4,c5⟩:=HG e1 r1;obtain⟨b',Uk,Ul,Um,Un,VP,Uo⟩:=HG e2 r2;have cL:b≠b':=by
   rintro rfl;rcases c5 with ⟨h1,h2⟩|⟨h1,h2⟩<;>rcases Uo with ⟨h3,h4⟩|⟨h3,h4⟩
   ·exact hne (h2.symm.trans h4)
   ·have:N<=b:=d3 h4;omega
   ·have:N<=b:=d3 h2;omega
   ·exact hne (tc d1 h2 h4)
  obtain⟨q1,q2⟩:=hR.aX b b' kf Uk x x' cL c1 Ul c2 Um hb;exact⟨by rw[<-c3];exact q1,by rw[<-Un];exact q2⟩
 ·obtain⟨q1,q2,q3⟩:=hR.gl gg gl vs g1 g2;exact⟨q1,λhh=>q2 (pI _ hh),q3⟩
theorem sv {g:Hp} {l:Nat} (hR:Rel P aj ⟨g,nx,l⟩ w) {H:List Nat} {h1:Hp} (hg:∀j,h.get j=if j∈H then h1.get j else g.get j) (hH:∀a∈H,∀k x,h1.get a=some k->aj a=some x->x.b<w.heap.size∧cj P aj x w k∧¬aQ aj ⟨g,nx,l⟩ x.b∧∀gg gl vs,P.globals[gg]? =some gl->wg P gl.name=some vs->x.b≠gg) (hlt:∀a∈H,a<nx) (Up:∀a∈H,∀a'∈H,∀k k' x x',a≠a'->h1.get a=some k->h1.get a'=some k'->aj a=some x->aj a'=some x'->x.b=x'.b->eo k=true∧eo k'=true):Rel P aj ⟨h,nx,l⟩ w:=by
 have gL:∀ {a k},h.get a=some k->(a∈H∧h1.get a=some k)∨(a∉H∧g.get a=some k):= λ {a k} e=>by
  rw[hg]at e;split at e
  ·exact .inl ⟨by assumption,e⟩
  ·exact .inr ⟨by assumption,e⟩
 refine⟨hR.eu,λa ha=>?_,λa k x e1 e2=>?_,hR.lim,λa a' k k' x x' hne e1 e2 r1 r2 hb=>?_,λgg gl vs g1 g2=>?_⟩
 ·show h.get a=none;have ha:nx<=a:=ha;rw[hg,if_neg (λhm=>by have:=hlt a hm;omega)];exact hR.top a ha
 ·rcases gL e1 with ⟨m,e⟩|⟨m,e⟩
  ·obtain⟨c1,c2,_⟩:=hH a m k x e e2;exact⟨c1,c2⟩
  ·exact hR.blk a k x e e2
 ·rcases gL e1 with ⟨m,e⟩|⟨m,e⟩<;>rcases gL e2 with ⟨m',e'⟩|⟨m',e'⟩
  ·exact Up a m a' m' k k' x x' hne e e' r1 r2 hb
  ·exact((hH a m k x e r1).2.2.1 ⟨a',k',x',e',r2,hb.symm⟩).elim
  ·exact((hH a' m' k' x' e' r2).2.2.1 ⟨a,k,x,e,r1,hb⟩).elim
  ·exact hR.aX a a' k k' x x' hne e e' r1 r2 hb
 ·obtain⟨q1,q2,q3⟩:=hR.gl gg gl vs g1 g2;refine⟨q1,?_,q3⟩;rintro⟨a,k,x,e1,e2,e3⟩;rcases gL e1 with ⟨m,e⟩|⟨m,e⟩
  ·exact(hH a m k x e e2).2.2.2 gg gl vs g1 g2 e3
  ·exact q2 ⟨a,k,x,e,e2,e3⟩
def AS.wl (s:AS) (l:Nat):AS:=⟨s.h,s.nx,l⟩
theorem aN.Jk {l:Nat} (h:aN ρ s w aj s' w') (hl:l<=s.lim):aN ρ (s.wl l) w aj (s'.wl l) w':=
 ⟨h.jY,h.nx,h.tape,h.os,h.out,h.size,h.frame,h.ph,h.lp,rfl,λa ha=>h.low a (Nat.lt_of_lt_of_le ha hl),λa k x ha=>h.gD a k x (Nat.lt_of_lt_of_le ha hl)⟩
theorem Rel.Jk {l:Nat} (h:Rel P ρ s w) (hl:l<=s.nx):Rel P ρ (s.wl l) w:=⟨h.eu,h.top,h.blk,hl,h.aX,h.gl⟩
end Go.Eng
end
noncomputable section
namespace Go.Eng
open Go
variable {s:AS} {ev:Ev} {me:List an} {x:Loc} {m:cy} {ck kt mb n:Nat} {P:Program} {ρ aj:Ren} {tm:T Value} {k v:Value} {w:World}
def ur (ρ aj:Ren):Prop:=∀a x,ρ a=some x->∃x',aj a=some x'∧x'.b=x.b∧x'.base=x.base∧x'.lim=x.lim
mutual
theorem ag.oA {ρ aj:Ren} (hr:ur ρ aj):∀ {v u:Value},ag ρ v u->ag aj v u
 |_,_,.bool b=> .bool b
 |_,_,.int k n=> .int k n
 |_,_,.string s=> .string s
 |_,_,.junk m n v h h'=> .junk m n v h h'
 |_,_,.mT g off=> .mT g off
 |_,_,.fz=> .fz
 |_,_,.ptr (x:=x) off h=>by obtain⟨x',h1,h2,h3,h4⟩:=hr _ _ h;rw[<-h2,<-h3];exact .ptr off h1
 |_,_,.bc=> .bc
 |_,_,.slice (x:=x) off n c cap ad h q1 q2 q3 q4 q5=>by obtain⟨x',h1,h2,h3,h4⟩:=hr _ _ h;exact .slice off n c cap ad h1 q1 q2 q3 (by rw[h2,h3];exact q4) (by rw[h3,h4];exact q5)
 |_,_,.iL=> .iL
 |_,_,.map (x:=x) h=>by obtain⟨x',h1,h2,_⟩:=hr _ _ h;rw[<-h2];exact .map h1
 |_,_,.func f ha hb=> .func f (af.oA hr ha) (af.oA hr hb)
 |_,_,.yield (x:=x) h ha hb=>by obtain⟨x',h1,h2,_⟩:=hr _ _ h;rw[<-h2];exact .yield h1 (af.oA hr ha) (af.oA hr hb)
 |_,_,.nilFunc=> .nilFunc
 |_,_,.nilIface=> .nilIface
 |_,_,.iface t h=> .iface t (ag.oA hr h)
 |_,_,.agg h=> .agg (af.oA hr h)
 |_,_,.tuple h=> .tuple (af.oA hr h)
theorem af.oA {ρ aj:Ren} (hr:ur ρ aj):∀ {l m:List Value},af ρ l m->af aj l m
 |_,_,.nil=> .nil
 |_,_,.cons h hs=> .cons (ag.oA hr h) (af.oA hr hs)
end
theorem gC.oA {ρ aj:Ren} (hr:ur ρ aj) {tm:T Value} {tmps:Array Value} (h:gC ρ tm tmps):gC aj tm tmps:=
 λt v e=>let⟨u,hu,hv⟩:=h t v e;⟨u,hu,hv.oA hr⟩
theorem cj.oA {ρ aj:Ren} (hr:ur ρ aj) {x:Loc} {w:World}:∀ {k:Blk},cj P ρ x w k->cj P aj x w k
 | .cells ..,h=>⟨λi l e=>let⟨a,b,c⟩:=h.cell i l e;⟨a,b,λj v hv=>let⟨u,hu,eR⟩:=c j v hv;⟨u,hu,eR.oA hr⟩⟩,h.all,h.free,h.shape,h.mult⟩
 | .map ..,⟨e,h,⟨l,hp,hf,hn⟩,hb⟩=>⟨e,h,⟨l,hp,hf.mono λ_ _ ⟨a,b,c,d,e⟩=>⟨a,b,c,d.oA hr,e⟩,hn⟩,hb⟩
 | .pmap ..,⟨e,h,⟨l,hp,hf,hk,hn⟩,hb⟩=>⟨e,h,⟨l,hp,hf.mono λ_ _ ⟨a,b,c,d,e⟩=>⟨a,b,c,d.oA hr,e⟩,hk,hn⟩,hb⟩
 | .cQ ..,h=>h
 | .mapIter ..,⟨h0,h⟩=>⟨h0,h.imp id λ⟨a,y,h1,h2,h3⟩=>by obtain⟨y',g1,g2,_⟩:=hr _ _ h2;exact⟨a,y',h1,g1,by rw[g2];exact h3⟩⟩
 | .loop ..,⟨t,f,r,h,he,hn⟩=>⟨t,f,r,h,he.oA hr,hn⟩
theorem Rel.th {m:Nat} (h:Rel P ρ s w) (hm:s.h.get m=none) (hs:ur ρ aj) (hne:∀a,a≠m->aj a=ρ a) (VQ:m<s.nx):Rel P aj s w:=by
 have Ao:∀ {a k},s.h.get a=some k->aj a=ρ a:= λ {a k} e=>hne a (λe'=>by rw[e',hm]at e;cases e);refine⟨λa ha=>?_,h.top,λa k x e1 e2=>?_,h.lim,λa a' k k' x x' hn e1 e2 r1 r2 hb=>?_,λg gl vs g1 g2=>?_⟩
 ·rw[hne a (by omega)];exact h.eu a ha
 ·rw[Ao e1]at e2;obtain⟨h1,h2⟩:=h.blk a k x e1 e2;exact⟨h1,h2.oA hs⟩
 ·rw[Ao e1]at r1;rw[Ao e2]at r2;exact h.aX a a' k k' x x' hn e1 e2 r1 r2 hb
 ·obtain⟨q1,q2,q3⟩:=h.gl g gl vs g1 g2;refine⟨q1,?_,q3⟩;rintro⟨a,k,x,e1,e2,e3⟩;rw[Ao e1]at e2;exact q2 ⟨a,k,x,e1,e2,e3⟩
theorem Rel.On {se:AS} {w0:World} (h0:Rel P ρ s w0) (h:Rel P aj se w) (hle:aG ρ aj) (dj:∀a k,s.h.get a=some k->se.h.get a=some k):Rel P ρ s w:=by refine⟨h0.eu,h0.top,λa k x e e'=>?_,h0.lim,h0.aX,λg gl vs g1 g2=>(let⟨_,b,_⟩:=h0.gl g gl vs g1 g2;let⟨a',_,c'⟩:=h.gl g gl vs g1 g2;⟨a',b,c'⟩)⟩;obtain⟨h1,h2⟩:=h.blk a k x (dj a k e) (hle _ _ e');exact⟨h1,pj hle (h0.blk a k x e e').2 h2⟩
theorem zf {a:Nat}:∀ {l:List Nat},El a l=true↔a∈l
 | []=>⟨λh=>(by cases h),λh=>(by cases h)⟩
 |x::l=>by
  show ab (Nat.beq x a) true (El a l)=true↔_;rw[ah,List.mem_cons];split
  ·rename_i h;exact⟨λ_=> .inl (Nat.eq_of_beq_eq_true h).symm,λ_=>rfl⟩
  ·rename_i h;rw[zf];exact⟨.inr,λhh=>hh.elim (λe=>(h (by rw[e];exact Nat.beq_refl _)).elim) id⟩
theorem nO {m:List Nat}:∀ {l:List Nat},Em l m=true->∀a∈l,a∈m
 |x::l,h,a,ha=>by
  have h:ab (El x m) (Em l m) false=true:=h;obtain⟨h1,h2⟩:=ai h;rcases List.mem_cons.1 ha with rfl|ha
  ·exact zf.1 h1
  ·exact nO h2 a ha
theorem jM {α:Type} (l m:List α):app l m=l++m:=by
 induction l with
 |nil=>rfl
 |cons a l ih=>show a::app l m=_;rw[ih];rfl
theorem bJ:∀ {l:List WD} {a:Nat},a∈cg l↔ ∃d∈l,a∈d.own
 | [],a=>⟨λh=>(by cases h),λ⟨d,h,_⟩=>(by cases h)⟩
 |d::l,a=>by
  show a∈app d.own (cg l)↔_;rw[jM,List.mem_append,bJ];constructor
  ·rintro(h|⟨e,h1,h2⟩)
   ·exact⟨d,List.mem_cons_self,h⟩
   ·exact⟨e,List.mem_cons_of_mem _ h1,h2⟩
  ·rintro⟨e,h1,h2⟩;rcases List.mem_cons.1 h1 with rfl|h1
   ·exact .inl h2
   ·exact .inr ⟨e,h1,h2⟩
theorem vM:∀ {l:List WD},(cg l).Nodup->∀ {d e:WD} {a:Nat},d∈l->e∈l->a∈d.own->a∈e.own->d=e
 | [],_,_,_,_,h1,_,_,_=>(by cases h1)
 |x::l,hn,d,e,a,h1,h2,h3,h4=>by
  have hn:(app x.own (cg l)).Nodup:=hn;rw[jM,List.nodup_append]at hn;rcases List.mem_cons.1 h1 with rfl|g1<;>rcases List.mem_cons.1 h2 with rfl|g2
  ·rfl
  ·exact(hn.2.2 a h3 a (bJ.2 ⟨e,g2,h4⟩) rfl).elim
  ·exact(hn.2.2 a h4 a (bJ.2 ⟨d,g1,h3⟩) rfl).elim
  ·exact vM hn.2.1 g1 g2 h3 h4
theorem sw:∀ {l:List WD} {d:WD},d∈l->d.i∈Eo l
 | [],_,h=>(by cases h)
 |x::l,d,h=>by
  rcases List.mem_cons.1 h with rfl|h
  ·exact List.mem_cons_self
  ·exact List.mem_cons_of_mem _ (sw h)
theorem vN:∀ {l:List WD},(Eo l).Nodup->∀ {d e:WD},d∈l->e∈l->d.i=e.i->d=e
 | [],_,_,_,h1,_,_=>(by cases h1)
 |x::l,hn,d,e,h1,h2,h3=>by
  have hn:(x.i::Eo l).Nodup:=hn;obtain⟨q1,q2⟩:=List.nodup_cons.1 hn;rcases List.mem_cons.1 h1 with rfl|g1<;>rcases List.mem_cons.1 h2 with rfl|g2
  ·rfl
  ·exact(q1 (by rw[h3];exact sw g2)).elim
  ·exact(q1 (by rw[<-h3];exact sw g1)).elim
  ·exact vN q2 g1 g2 h3
theorem ti:∀ {l:List WD} {i:Nat} {q:an},findD l i=some q->∃d∈l,d.i=i∧q=(d.k,d.v',d.n)
 | [],_,_,h=>(by cases h)
 |d::l,i,q,h=>by
  have h:ab (Nat.beq d.i i) (some (d.k,d.v',d.n)) (findD l i)=some q:=h;rw[ah]at h;split at h
  ·rename_i hi;cases h;exact⟨d,List.mem_cons_self,Nat.eq_of_beq_eq_true hi,rfl⟩
  ·obtain⟨e,h1,h2⟩:=ti h;exact⟨e,List.mem_cons_of_mem _ h1,h2⟩
theorem tj:∀ {l:List WD} {i:Nat},findD l i=none->∀d∈l,d.i≠i
 | [],_,_,_,hd=>(by cases hd)
 |e::l,i,h,d,hd=>by
  have h:ab (Nat.beq e.i i) (some (e.k,e.v',e.n)) (findD l i)=none:=h;rw[ah]at h;split at h
  ·cases h
  ·rename_i hi;rcases List.mem_cons.1 hd with rfl|hd
   ·exactλhe=>hi (by rw[he];exact Nat.beq_refl _)
   ·exact tj h d hd
theorem zg {l:List WD}:∀ {es r:List an} {i:Nat},Ep l es i=some r->r.length=es.length∧∀j,(findD l (i+j)=none->r[j]? =es[j]?)∧∀q,findD l (i+j)=some q->j<es.length->r[j]? =some q
 | [],r,i,h=>by cases h;exact⟨rfl,λj=>⟨λ_=>rfl,λq _ hj=>by simp at hj⟩⟩
 |p::es,r,i,h=>by
  have h:ob (Ep l es (Nat.succ i)) (λr=>Option.rec (motive:= λ_=>Option (List an)) (some (p::r)) (λq=>some (q::r)) (findD l i))=some r:=h;obtain⟨r1,h1,h⟩:=U h;obtain⟨g1,g2⟩:=zg h1;have hr:∃z,r=z::r1∧(findD l i=none->z=p)∧∀q,findD l i=some q->z=q:=by
   cases hf:findD l i with
   |none=>rw[hf]at h;cases h;exact⟨p,rfl,λ_=>rfl,λq hq=>by cases hq⟩
   |some q=>rw[hf]at h;cases h;exact⟨q,rfl,λhq=>(by cases hq),λq' hq=>by cases hq;rfl⟩
  obtain⟨z,rfl,z1,z2⟩:=hr;refine⟨by simp[g1],λj=>?_⟩;cases j with
  |zero=>exact⟨λhf=>by simp[z1 hf],λq hf _=>by simp[z2 q hf]⟩
  |succ j=>obtain⟨e1,e2⟩:=g2 j;rw[show i+(j+1)=i.succ+j by omega];exact⟨λhf=>by simpa using e1 hf,λq hf hj=>by simpa using e2 q hf (by simpa using hj)⟩
structure LN (me:List an) (D:List WD) (es:List an):Prop where
 len:es.length=me.length
 done:∀d∈D,es[d.i]? =some (d.k,d.v',d.n)
 rest:∀i,(∀d∈D,d.i≠i)->es[i]? =me[i]?
theorem LN.step {es:List an} {D:List WD} {d:WD} (h:LN me D es) (hd:∀e∈D,e.i≠d.i) (hlt:d.i<me.length):LN me (d::D) (es.set d.i (d.k,d.v',d.n)):=by
 refine⟨by simp[h.len],λe he=>?_,λi hi=>?_⟩
 ·rcases List.mem_cons.1 he with rfl|he
  ·rw[List.getElem?_set,if_pos rfl,if_pos (by rw[h.len];exact hlt)]
  ·rw[List.getElem?_set_ne (λe'=>hd e he e'.symm)];exact h.done e he
 ·rw[List.getElem?_set_ne (hi d List.mem_cons_self)];exact h.rest i λe he=>hi e (List.mem_cons_of_mem _ he)
theorem LN.all {es r:List an} {D l:List WD} (h:LN me D es) (h1:∀d∈D,d∈l) (h2:∀d∈l,d∈D) (hf:Ep l me 0=some r):es=r:=by
 obtain⟨g1,g2⟩:=zg hf;refine List.ext_getElem? λi=>?_;obtain⟨e1,e2⟩:=g2 i;rw[Nat.zero_add]at e1 e2;cases hq:findD l i with
 |none=>rw[e1 hq];exact h.rest i λd hd=>tj hq d (h1 d hd)
 |some q=>
  obtain⟨d,hd,rfl,rfl⟩:=ti hq;have SL:=h.done d (h2 d hd);have hlt:d.i<me.length:=by have:=(List.getElem?_eq_some_iff.1 SL).1;rw[h.len]at this;exact this
  rw[SL,e2 _ hq hlt]
theorem zh:∀ {l:List WD} {h h':Hp},Hx l h=some h'->(cg l).Nodup->(∀d∈l,∀a∈d.own,h'.get a=d.R.h.get a)∧∀a,a∉cg l->h'.get a=h.get a
 | [],h,h',e,_=>by cases e;exact⟨λd hd=>(by cases hd),λ_ _=>rfl⟩
 |d::l,h,h',e,hn=>by
  have e:ob (m8 d.R.h d.own h) (Hx l)=some h':=e;obtain⟨h1,e1,e⟩:=U e;have JM:(app d.own (cg l)).Nodup:=hn;rw[jM,List.nodup_append]at JM;obtain⟨g1,g2⟩:=zh e JM.2.1;have hs:=jh e1;refine⟨λx hx a ha=>?_,λa ha=>?_⟩
  ·rcases List.mem_cons.1 hx with rfl|hx
   ·rw[g2 a (λhm=>JM.2.2 a ha a hm rfl),hs,if_pos ha]
   ·exact g1 x hx a ha
  ·have ha:a∉app d.own (cg l):=ha;rw[jM,List.mem_append]at ha;rw[g2 a (λhm=>ha (.inr hm)),hs,if_neg (λhm=>ha (.inl hm))]
theorem ji:∀ {l:List WD} {p:an},p∈rz l↔ ∃d∈l,d.e=p
 | [],p=>⟨λh=>(by cases h),λ⟨d,h,_⟩=>(by cases h)⟩
 |d::l,p=>by
  show p∈d.e::rz l↔_;rw[List.mem_cons,ji];constructor
  ·rintro(rfl|⟨e,h1,h2⟩)
   ·exact⟨d,List.mem_cons_self,rfl⟩
   ·exact⟨e,List.mem_cons_of_mem _ h1,h2⟩
  ·rintro⟨e,h1,h2⟩;rcases List.mem_cons.1 h1 with rfl|h1
   ·exact .inl h2.symm
   ·exact .inr ⟨e,h1,h2⟩
theorem tn:∀ {l:List WD},((rz l).map (·.1)).Nodup->∀ {d e:WD},d∈l->e∈l->d.e=e.e->d=e
 | [],_,_,_,h1,_,_=>(by cases h1)
 |x::l,hn,d,e,h1,h2,h3=>by
  have hn:(x.e.1::(rz l).map (·.1)).Nodup:=hn;obtain⟨q1,q2⟩:=List.nodup_cons.1 hn;rcases List.mem_cons.1 h1 with rfl|g1<;>rcases List.mem_cons.1 h2 with rfl|g2
  ·rfl
  ·exact(q1 (by rw[h3];exact List.mem_map.2 ⟨e.e,ji.2 ⟨e,g2,rfl⟩,rfl⟩)).elim
  ·exact(q1 (by rw[<-h3];exact List.mem_map.2 ⟨d.e,ji.2 ⟨d,g1,rfl⟩,rfl⟩)).elim
  ·exact tn q2 g1 g2 h3
structure Ky (m:cy) (ev:Ev) (tm:T Value) (N n L:Nat) (h2:Hp) (sB:AS) (mm kt ck:Nat) (me:List an) (d:WD):Prop where
 run:iJ m ev tm d.e d.S=some d.R
 nx:d.S.nx=sB.nx
 lim:d.S.lim=sB.lim
 get:∀j,j≠mm->d.S.h.get j=if j∈d.own then h2.get j else sB.h.get j
 SM:me[d.i]? =some (d.k,d.v,d.n)
 Uq:d.S.h.get mm=some (.pmap kt [(d.k,d.v,d.n)] ck)
 now:d.R.h.get mm=some (.pmap kt [(d.k,d.v',d.n)] ck)
 plain:aD (An N []) 12 d.v'=some d.v'
 own:∀a∈d.own,iK (h2.get a)=true∧iK (d.R.h.get a)=true∧ri (An N []) (d.R.h.get a) (d.R.h.get a)=true
 ne:∀a∈mm::d.own,d.R.h.get a≠d.S.h.get a
 same:∀a,L<=a->a<L+n->a∈mm::d.own∨d.S.h.get a=d.R.h.get a
theorem Nj:∀(i:Nat) (es:List an),(Nat.rec (motive:= λ_=>List an->Option an) (λl=>List.rec (motive:= λ_=>Option an) none (λx _ _=>some x) l) (λ_ ih l=>List.rec (motive:= λ_=>Option an) none (λ_ t _=>ih t) l) i es:Option an)=es[i]?
 |0,[]=>rfl
 |0,_::_=>rfl
 |i+1,[]=>rfl
 |i+1,_::t=>by have:=Nj i t;simpa using this
theorem vO {b:Option Blk} (h:Hw kt ck k v n b=true):b=some (.pmap kt [(k,v,n)] ck):=by
 unfold Hw at h;split at h
 ·obtain⟨h1,h⟩:=ai h;obtain⟨h2,h⟩:=ai h;obtain⟨h3,h⟩:=ai h;obtain⟨h4,h5⟩:=ai h;rw[Nat.eq_of_beq_eq_true h1,Nat.eq_of_beq_eq_true h2,bH 12 _ _ h3,bH 12 _ _ h4,Nat.eq_of_beq_eq_true h5]
 ·cases h
theorem vP {N:Nat} {h2 g:Hp}:∀ {l:List Nat},Fm N h2 g l=true->∀a∈l,iK (h2.get a)=true∧iK (g.get a)=true∧ri (An N []) (g.get a) (g.get a)=true
 |x::l,h,a,ha=>by
  have h:ab (ab (iK (h2.get x)) (ab (iK (g.get x)) (ri (An N []) (g.get x) (g.get x)) false) false) (Fm N h2 g l) false=true:=h;obtain⟨h1,h3⟩:=ai h;rcases List.mem_cons.1 ha with rfl|ha
  ·obtain⟨q1,q2⟩:=ai h1;obtain⟨q3,q4⟩:=ai q2;exact⟨q1,q3,q4⟩
  ·exact vP h3 a ha
theorem DM {N L:Nat} {h2:Hp} {sB:AS} {mm:Nat} {p:an×List Nat×AS} {d:WD} (h:En m ev tm h2 sB mm kt ck me p=some d) (cK:CX m ev tm N n L h2 sB mm kt ck me d=true):Ky m ev tm N n L h2 sB mm kt ck me d:=by
 unfold En at h;obtain⟨q,e1,h⟩:=U h;obtain⟨hh,e2,h⟩:=U h;obtain⟨hp,e3,h⟩:=U h;obtain⟨R,e4,h⟩:=U h;obtain⟨v',e5,h⟩:=U h;unfold CX at cK;obtain⟨o1,cK⟩:=ai cK;obtain⟨o2,cK⟩:=ai cK;obtain⟨o3,cK⟩:=ai cK;obtain⟨o4,cK⟩:=ai cK;obtain⟨o5,cK⟩:=ai cK;obtain⟨o6,o7⟩:=ai cK;have gn:= λj=>Hp.aR _ _ _ _ e3 j;have mQ:=jh e2;have gO:aD (An N []) 12 d.v'=some d.v':=by
  cases hv:aD (An N []) 12 d.v' with
  |none=>rw[hv]at o4;cases o4
  |some u=>rw[hv]at o4;have o4:jX 12 u d.v'=true:=o4;rw[bH 12 _ _ o4]
 have hent:me[d.i]? =some (d.k,d.v,d.n):=by
  unfold I3 at o1;rw[Nj]at o1;cases hm:me[d.i]? with
  |none=>rw[hm]at o1;cases o1
  |some p=>rw[hm]at o1;obtain⟨a1,a2⟩:=ai (show ab (jX 12 p.1 d.k) (ab (jX 12 p.2.1 d.v) (Nat.beq p.2.2 d.n) false) false=true from o1);obtain⟨a3,a4⟩:=ai a2;rw[<-bH 12 _ _ a1,<-bH 12 _ _ a3,<-Nat.eq_of_beq_eq_true a4]
 have hsame:∀a,L<=a->a<L+n->a∈mm::d.own∨d.S.h.get a=d.R.h.get a:=by
  cases hc:Af d.S.h d.R.h n L with
  |none=>rw[hc]at o7;cases o7
  |some ch=>rw[hc]at o7;intro a h1 h3;exact(sq hc a h1 h3).imp (λhm=>nO o7 a hm) id
 have hown:=vP o5;have hne:=su o6;have Rj:=vO o2;have Rk:=vO o3;cases h;refine⟨e4,rfl,rfl,λj hj=>?_,hent,Rj,Rk,gO,hown,hne,hsame⟩;show hp.get j=_;rw[gn,if_neg hj,mQ]
theorem tq {m:cy} {ev:Ev} {tm:T Value} {N n L:Nat} {h2:Hp} {sB:AS} {mm kt ck:Nat} {me:List an}:∀ {l:List (an×List Nat×AS)} {ws:List WD},BV m ev tm h2 sB mm kt ck me l=some ws->pO (CX m ev tm N n L h2 sB mm kt ck me) ws=true->∀d∈ws,Ky m ev tm N n L h2 sB mm kt ck me d
 | [],ws,h,_,d,hd=>by cases h;cases hd
 |p::l,ws,h,cK,d,hd=>by
  have h:ob (En m ev tm h2 sB mm kt ck me p) (λd=>ob (BV m ev tm h2 sB mm kt ck me l) λr=>some (d::r))=some ws:=h;obtain⟨d0,e1,h⟩:=U h;obtain⟨r,e2,h⟩:=U h;cases h;rcases List.mem_cons.1 hd with rfl|hd
  ·exact DM e1 (i7 cK _ List.mem_cons_self)
  ·have cK:ab (CX m ev tm N n L h2 sB mm kt ck me d0) (pO (CX m ev tm N n L h2 sB mm kt ck me) r) false=true:=cK;exact tq e2 (ai cK).2 d hd
theorem qn {m:cy} {ev:Ev} {tm:T Value} {s1 s2:AS} {mb:Nat} {es:List an}:∀ {ks:List Nat},oK m ev tm s1 mb es ks=some s2->∃L,va m ev tm s1 mb es L=some s2
 | [],h=>by cases h
 |k::ks,h=>by
  have h:Lz (aq (Nat.max s1.lim (Nat.sub s1.nx k)) λL=>va m ev tm s1 mb es L) (oK m ev tm s1 mb es ks)=some s2:=h;rw[ak]at h;cases hl:va m ev tm s1 mb es (Nat.max s1.lim (Nat.sub s1.nx k))with
  |none=>rw[hl]at h;exact qn h
  |some s3=>rw[hl]at h;cases h;exact⟨_,hl⟩
theorem Bx {s1 sz:AS} {L:Nat} {es:List an} (h:va m ev tm s1 mb es L=some sz):
  ∃(od:List Nat) (s2 sB:AS) (q:List an×List an) (mm kt ck:Nat) (me Iw:List an) (JN:List Nat) (ws:List WD) (h1 h3 hz:Hp),s1.lim<=L∧L<=s1.nx∧CW s1.h (s1.nx-L) L=some od∧ry (mb::od) s1=some s2∧oI (fy m ev tm ⟨s2.h,s2.nx,L⟩) es=some q∧
   s2.h.get mm=some (.map kt me ck)∧sB.nx=s2.nx∧sB.lim=L∧(∀j,sB.h.get j=if j∈mm::JN then none else s2.h.get j)∧(∀a∈JN,a∈cg ws)∧(∀a∈cg ws,a∈JN)∧(∀d∈ws,Ky m ev tm s1.nx (s1.nx-L) L s2.h sB mm kt ck me d)∧
   Ep ws me 0=some Iw∧(Eo ws).Nodup∧(mm::cg ws).Nodup∧rz ws=q.2∧(∀a∈mm::cg ws,L<=a∧a<s1.nx)∧(∀p∈q.1,fy m ev tm sB p=true)∧
   Hx ws s2.h=some h1∧Hp.put (some (.map kt Iw ck)) h1 mm=some h3∧m8 s1.h (mb::od) h3=some hz∧sz=⟨hz,s1.nx,s1.lim⟩∧ws≠ []:=by
 unfold va at h;obtain⟨h0,h⟩:=ae h;obtain⟨g1,g2⟩:=ai h0;rw[ak]at h;obtain⟨od,e1,h⟩:=U h;obtain⟨s2,e2,h⟩:=U h;obtain⟨q,e3,h⟩:=U h;obtain⟨fs,e4,h⟩:=U h;obtain⟨mm,e5,h⟩:=U h;obtain⟨kt,me,ck,e6,h⟩:=bk h;obtain⟨G4,e7,h⟩:=U h;obtain⟨ws,e8,h⟩:=U h;obtain⟨Iw,e9,h⟩:=U h;obtain⟨c0,h⟩:=ae h;obtain⟨c1,c0⟩:=ai c0;obtain⟨c2,c0⟩:=ai c0;obtain⟨c3,c0⟩:=ai c0;obtain⟨c4,c0⟩:=ai c0;obtain⟨c5,c6⟩:=ai c0;obtain⟨c7,h⟩:=ae h;obtain⟨c8,h⟩:=ae h;obtain⟨h1,Ur,h⟩:=U h;obtain⟨h3,Us,h⟩:=U h;obtain⟨hz,Ut,h⟩:=U h;simp only[ak]at h;cases h;have hne:ws≠ []:=by
  rintro rfl;cases fs with
  |nil=>cases e5
  |cons p fs=>have e8:ob (En m ev tm s2.h ⟨G4.h,G4.nx,L⟩ mm kt ck me p) (λd=>ob (BV m ev tm s2.h ⟨G4.h,G4.nx,L⟩ mm kt ck me fs) λr=>some (d::r))=some []:=e8;obtain⟨_,_,e8⟩:=U e8;obtain⟨_,_,e8⟩:=U e8;cases e8
 obtain⟨i1,i2,i3,i4⟩:=nN e7;exact⟨od,s2,⟨G4.h,G4.nx,L⟩,q,mm,kt,ck,me,Iw,wI mm fs,ws,h1,h3,hz,Nat.le_of_ble_eq_true g1,Nat.le_of_ble_eq_true g2,e1,e2,e3,e6,i1,rfl,i4,nO (ai c4).1,nO (ai c4).2,tq e8 c7,e9,aY c1,aY c2,mF c3,λa ha=>⟨fF c5 a ha,jg c6 a ha⟩,λp hp=>i7 c8 p hp,Ur,Us,Ut,rfl,hne⟩
theorem kY {b:Option Blk} (h:iK b=true):∃k,b=some k∧eo k=false∧((∃c sz n et,k= .cells c sz n false et)∨∃kt es ck,k= .map kt es ck):=by
 unfold iK at h;split at h
 ·exact⟨_,rfl,rfl,.inl ⟨_,_,_,_,rfl⟩⟩
 ·exact⟨_,rfl,rfl,.inr ⟨_,_,_,rfl⟩⟩
 ·cases h
theorem po {d:Option (List Deferred)}:∀ {k:Blk},cj P ρ x w k->w.heap[x.b]?≠some (.deferred d)
 | .cells ..,h=> λe=>by have:=h.shape;unfold World.shape? at this;rw[e]at this;cases this
 | .map ..,⟨_,h,_⟩=>by rw[h];simp
 | .pmap ..,⟨_,h,_⟩=>by rw[h];simp
 | .cQ ..,⟨_,h⟩=>by rw[h];simp
 | .mapIter ..,⟨_,h⟩=>by rcases h with ⟨_,h⟩|⟨_,_,_,_,h⟩<;>(rw[h];simp)
 | .loop ..,⟨_,_,_,h,_⟩=>by rw[h];simp
end Go.Eng
end
