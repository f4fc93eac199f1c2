import Derived.Test.YtaadbnppakcjnaaGreatDoorEngC
import Derived.Shelf.SlIterI.Nil
import Derived.Shelf.SlLaysX
import Derived.WalkKit
import Derived.Laws.IdiomRangeMap
import Derived.FnData
import Derived.OpenShut
import Derived.ChangeArms
import Derived.MakeChecks
import Derived.LaidSub
set_option linter.unusedVariables false
set_option linter.unusedSimpArgs false
/- An evaluator of the code of the model, proved: what it answers, the program does, whatever the world. Part of the proof of SolveKnown. -/
namespace Go.Proofs
open Go.RowKit Go.Maps Go.Sort Go.Shelf
variable {P : Program} {ρ : Ren}
set_option maxRecDepth 100000 in
set_option maxHeartbeats 1000000 in
theorem EngKeys.at_in (L : SlLaysZI.n10 P ρ) {H : Type} (F : Fence) (n : Nat) (h10 : F.fn (ρ.f 10)) (hro : F.round = none) (hn : 1 ≤ n) (l Bm Bo b nn : Nat) (D0 : DataW H) {R : Value → Option (DataW H × List MemPlace)} (J : List Int → World → Prop)
    (hY : ∀ pre x W, J pre W → pre.length < Maps.size D0 → YieldAt F (n - 1) P l #[encZ x] W fun e W' => e = .returned (.bool true) ∧ J (pre ++ [x]) W' ∧ KeepsWalks W W')
    (W : World) (hJ : AbidesFrom W.heap.size J) (hm : W.cell? ⟨Bm, Bo, none⟩ = some (.map (some b))) (hown : W.ownsMap P (ρ.t 26) R b nn D0) (h0 : J [] W) :
    CallsIn F n P (ρ.f 10) #[.func (.yield l) #[] #[], .pointer (some ⟨Bm, Bo, none⟩)] W fun e W' => (∃ v, e = .returned v) ∧ ∃ ss : List Int, ss.Perm (intKeys D0) ∧ J ss W' := by
  have mixed := L.mixed; have t0 := L.t0; have a0 := L.a0; have z0 := L.z0; have v0 := L.v0; have t4 := L.t4; have a4 := L.a4; have z4 := L.z4; have v4 := L.v4; have t23 := L.t23; have a23 := L.a23; have z23 := L.z23; have v23 := L.v23; have t26 := L.t26; have a26 := L.a26; have z26 := L.z26; have v26 := L.v26; have t33 := L.t33; have a33 := L.a33; have z33 := L.z33; have v33 := L.v33
  have u0 := run_underlying L.t0; have u4 := run_underlying L.t4; have u23 := run_underlying L.t23; have u26 := run_underlying L.t26; have u33 := run_underlying L.t33
  obtain ⟨_, _, FG⟩ := L.f10
  refine callsIn_of_wp FG rfl h10 ?_ hro
  simp only [SlBodyZ.n10_ntmps ρ, List.size_toArray, List.length_cons, List.length_nil, Nat.reduceAdd, Nat.reduceSub, Array.replicate_succ, Array.replicate_zero, List.push_toArray, List.append_toArray, List.nil_append, List.cons_append]
  gi_wp2_with (first
    | (gi_at_range; refine wpListIn_range_own _ rfl _ (ρ.t 23) rfl (ρ.t 26) (ρ.t 3) (int_keyed L.t26) L.t23 _ b nn _ rfl hown ?_; intro w0 hrg0 hg0 hs0)
    | gi_in)
  go_frame
  gi_loopw [3] (fun _ wr => ∃ (left : Lit → Bool) (cnt : Nat) (ss : List Int), wr.ranges P (ρ.t 26) R b W.heap.size nn D0 left cnt ∧ ss.length + cnt ≤ Maps.size D0 ∧ CollectedI D0 left ss ∧ J ss wr)
    (fun _ wr => wr.rangeLeft b W.heap.size)
  case atStart =>
    exact ⟨_, _, [], hrg0, by simp, CollectedI.start D0, hJ [] W w0 none h0 hg0 (fun r e => by cases e)⟩
  case round =>
    obtain ⟨left, cnt, ss, hrg, hcs, hC, hJs⟩ := hrel
    gi_wp2_with (first
      | (gi_at_next; refine wpListIn_next_ranges _ rfl _ rfl (ρ.t 26) (int_keyed L.t26) R encZ id (fun key kl hk => by obtain ⟨x, hx, _⟩ := Maps.keyOf_i64 L.t26 hk; exact ⟨x, hx⟩) (fun v _ _ => ⟨v, rfl⟩) b W.heap.size nn _ _ _ rfl hrg ?_ ?_)
      | gi_in)
    ·
      intro hc0 hl0
      gi_wp2
      go_end0
      exact ⟨⟨_, rfl⟩, ss, hC.perm hown (int_keyed L.t26) L.t26 hl0, hJs⟩
    ·
      intro x c kl yd yp w2 cnt2 hkey hlk hv hat hrg2 hlt hg2 hs2 hen
      obtain ⟨x', ex, rfl, _⟩ := Maps.keyOf_i64 L.t26 hkey
      obtain rfl : x = x' := encZ_inj ex
      have hJ2 : J ss w2 := hJ ss wr w2 (some W.heap.size) hJs hg2 (fun r e => by cases e; exact ⟨Nat.le_refl _, hrg.iter_walk⟩)
      obtain ⟨fn, tmps, assign, body, hy, hR⟩ := hY ss x w2 hJ2 (by omega)
      clear hs2
      gi_wp2
      refine hR.mono ?_
      rintro e W3 ⟨rfl, hJ3, hk3⟩
      gi_wp2
      have hrg3 := hrg2.of_walks hk3
      go_roundw
      case rel => exact ⟨_, cnt2, ss ++ [x], hrg3, by simp; omega, hC.step hlk hat, hJ3⟩
      case measure => rw [hrg3.left_eq, hrg.left_eq]; exact hlt
theorem EngKeys.at_gives (L : SlLaysZI.n10 P ρ) {H : Type} (F : Fence) (n : Nat) (h10 : F.fn (ρ.f 10)) (hro : F.round = none) (hn : 1 ≤ n) (Bm Bo b nn : Nat) (D0 : DataW H) {R : Value → Option (DataW H × List MemPlace)} (w : World) (hBm : Bm < w.heap.size)
    (hm : w.cell? ⟨Bm, Bo, none⟩ = some (.map (some b))) (hown : w.ownsMap P (ρ.t 26) R b nn D0) :
    SeqGives F n P (ρ.f 10) #[.pointer (some ⟨Bm, Bo, none⟩)] encZ (fun ss => ss.Perm (intKeys D0)) (Maps.size D0) w := fun l J W hW hJ hY h0 => by
  have hown' : W.ownsMap P (ρ.t 26) R b nn D0 := by
    have hbl := hown.lt
    obtain ⟨es, clock, hb, Ft, hs, hD⟩ := hown
    exact ⟨es, clock, (hW.block b hbl).trans hb, Ft, hs, hD⟩
  exact EngKeys.at_in { L with } F n h10 hro hn l Bm Bo b nn D0 J hY W hJ ((hW.cell (p := ⟨Bm, Bo, none⟩) hBm).trans hm) hown' h0
set_option maxRecDepth 100000 in
set_option maxHeartbeats 1000000 in
theorem EngKeys.nil_in (L : SlLaysZI.n10 P ρ) (F : Fence) (n : Nat) (h10 : F.fn (ρ.f 10)) (hro : F.round = none) (l Bm Bo : Nat) (J : List Int → World → Prop) (W : World) (hJ : AbidesFrom W.heap.size J)
    (hm : W.cell? ⟨Bm, Bo, none⟩ = some (.map none)) (h0 : J [] W) :
    CallsIn F n P (ρ.f 10) #[.func (.yield l) #[] #[], .pointer (some ⟨Bm, Bo, none⟩)] W fun e W' => (∃ v, e = .returned v) ∧ ∃ ss : List Int, ss = [] ∧ J ss W' := by
  have mixed := L.mixed; have t0 := L.t0; have a0 := L.a0; have z0 := L.z0; have v0 := L.v0; have t4 := L.t4; have a4 := L.a4; have z4 := L.z4; have v4 := L.v4; have t23 := L.t23; have a23 := L.a23; have z23 := L.z23; have v23 := L.v23; have t26 := L.t26; have a26 := L.a26; have z26 := L.z26; have v26 := L.v26; have t33 := L.t33; have a33 := L.a33; have z33 := L.z33; have v33 := L.v33
  have u0 := run_underlying L.t0; have u4 := run_underlying L.t4; have u23 := run_underlying L.t23; have u26 := run_underlying L.t26; have u33 := run_underlying L.t33
  obtain ⟨_, _, FG⟩ := L.f10
  refine callsIn_of_wp FG rfl h10 ?_ hro
  simp only [SlBodyZ.n10_ntmps ρ, List.size_toArray, List.length_cons, List.length_nil, Nat.reduceAdd, Nat.reduceSub, Array.replicate_succ, Array.replicate_zero, List.push_toArray, List.append_toArray, List.nil_append, List.cons_append]
  have hrg := run_range_nilMap (P := P) W (ρ.t 23) (ρ.t 26) (ρ.t 3) L.t23
  have hnx : ∀ ty, (Instr.next (.pointer (some ⟨W.heap.size, 0, none⟩)) false ty).run P (W.alloc (.mapIter none 0 #[] 0)) = _ := fun ty => run_next_nilMap _ ty 0 0 #[]
  gi_wp2
  refine wpIn_loop_rounds 1 ?_
  rw [roundsIn_succ]
  gi_wp2
  go_end0
  exact ⟨⟨_, rfl⟩, [], rfl, hJ [] W _ none h0 (World.grownBy_alloc W _ none) (fun r e => by cases e)⟩
theorem EngKeys.nil_gives (L : SlLaysZI.n10 P ρ) (F : Fence) (n : Nat) (h10 : F.fn (ρ.f 10)) (hro : F.round = none) (Bm Bo : Nat) (w : World) (hBm : Bm < w.heap.size) (hm : w.cell? ⟨Bm, Bo, none⟩ = some (.map none)) :
    SeqGives F n P (ρ.f 10) #[.pointer (some ⟨Bm, Bo, none⟩)] encZ (fun ss : List Int => ss = []) 0 w := fun l J W hW hJ _ h0 =>
  EngKeys.nil_in { L with } F n h10 hro l Bm Bo J W hJ ((hW.cell (p := ⟨Bm, Bo, none⟩) hBm).trans hm) h0
end Go.Proofs
namespace Go.Eng
open Go
variable {P:Program} {ρ:Ren}
theorem Rel.Gv {s s':AS} {w w':World} {k:Blk} {x:Loc} (hr:Rel P ρ s w) (hs:s.new k=some s')
  (hx:w.heap.size<=x.b) (hsz:x.b<w'.heap.size) (Gb:w.heap.size<=w'.heap.size) (hold:∀b,b<w.heap.size->w'.heap[b]? =w.heap[b]?)
  (ht:w'.tape=w.tape) (ho:w'.os=w.os) (hu:w'.output=w.output)
  (hb:bX P (ρ.put s.nx x) x w' k):Rel P (ρ.put s.nx x) s' w'∧aR ρ s w (ρ.put s.nx x) s' w':=by
 obtain⟨hnx,hg⟩:=AS.dO hs;have hle:aK ρ (ρ.put s.nx x):= λa y e=>by
  unfold Ren.put;by_cases ha:a=s.nx
  ·rw[ha,hr.dM _ (Nat.le_refl _)]at e;cases e
  ·rw[if_neg ha];exact e
 have bA:∀a,a≠s.nx->(ρ.put s.nx x) a=ρ a:= λa ha=>by unfold Ren.put;rw[if_neg ha]
 have eK:(ρ.put s.nx x) s.nx=some x:=by unfold Ren.put;rw[if_pos rfl]
 refine(λ(hS:aR ρ s w (ρ.put s.nx x) s' w')=>⟨⟨λa ha=>?_,λa ha=>?_,λa k' y e e'=>?_,by rw[AS.gZ hs];have:=hr.ao;omega,λa a' k1 k2 x1 x2 hne e1 e2 r1 r2 jE=>?_,hr.gl.of hS.size hS.frame⟩,hS⟩) ⟨λa ha=>?_,by omega,ht,ho,hu,Gb,λb cr hn=>?_,λa ha hn=>?_,λb r cr=>⟨r,by rw[hold b (Array.getElem?_eq_some_iff.1 cr).1];exact cr⟩,AS.gZ hs,AS.vO hs hr.ao,λa k' y _ _ fE _ hy=>hold _ (hr.blk a k' y fE hy).1⟩
 ·rw[bA a (by omega)]
 ·refine⟨hold b cr,?_⟩;rintro⟨a,k',y,e,e',rfl⟩;rw[hg]at e;by_cases ha:a=s.nx
  ·rw[ha,eK]at e';cases e';omega
  ·rw[if_neg ha]at e;rw[bA a ha]at e';exact hn ⟨a,k',y,e,e',rfl⟩
 ·exact .inl (by rw[hg,if_neg (by omega)])
 ·rw[bA a (by omega)];exact hr.dM a (by omega)
 ·rw[hg,if_neg (by omega)];exact hr.top a (by omega)
 ·rw[hg]at e;by_cases ha:a=s.nx
  ·rw[if_pos ha]at e;cases e;rw[ha,eK]at e';cases e';exact⟨hsz,hb⟩
  ·rw[if_neg ha]at e;rw[bA a ha]at e';obtain⟨h1,h2⟩:=hr.blk a k' y e e';exact⟨by omega,(h2.congr (hold _ h1)).mono hle⟩
 ·rw[hg]at e1 e2;by_cases ha:a=s.nx
  ·rw[ha,eK]at r1;cases r1;have dp:a'≠s.nx:= λe=>hne (ha.trans e.symm);rw[if_neg dp]at e2;rw[bA a' dp]at r2;have:=(hr.blk a' k2 x2 e2 r2).1;omega
  ·rw[if_neg ha]at e1;rw[bA a ha]at r1;by_cases dp:a'=s.nx
   ·rw[dp,eK]at r2;cases r2;have:=(hr.blk a k1 x1 e1 r1).1;omega
   ·rw[if_neg dp]at e2;rw[bA a' dp]at r2;exact hr.aX a a' k1 k2 x1 x2 hne e1 e2 r1 r2 jE
theorem Rel.grow {s:AS} {w w':World} (hr:Rel P ρ s w) (Gb:w.heap.size<=w'.heap.size) (hold:∀b,b<w.heap.size->w'.heap[b]? =w.heap[b]?)
    (ht:w'.tape=w.tape) (ho:w'.os=w.os) (hu:w'.output=w.output):Rel P ρ s w'∧aR ρ s w ρ s w':=
  ⟨⟨hr.dM,hr.top,λa k x e e'=>(by obtain⟨h1,h2⟩:=hr.blk a k x e e';exact⟨by omega,h2.congr (hold _ h1)⟩),hr.ao,hr.aX,hr.gl.of Gb λb hb hn=>⟨hold b hb,hn⟩⟩,
   ⟨λ_ _=>rfl,Nat.le_refl _,ht,ho,hu,Gb,λb hb hn=>⟨hold b hb,hn⟩,λ_ _ _=> .inl rfl,λb r hb=>⟨r,by rw[hold b (Array.getElem?_eq_some_iff.1 hb).1];exact hb⟩,rfl,λ_ _=>rfl,
    λa k x _ _ hk _ hx=>hold _ (hr.blk a k x hk hx).1⟩⟩
theorem oB (x:Int):∀l:List Int,(CM x l).Perm (x::l)
 | []=> .refl _
 |y::l=>by
  show(ab (u3 y x) (y::CM x l) (x::y::l)).Perm _;rw[ai];split
  ·exact((oB x l).cons y).trans (List.Perm.swap x y l)
  ·exact .refl _
theorem lP:∀l:List Int,(oL l).Perm l
 | []=> .refl _
 |x::l=>(oB x (oL l)).trans ((lP l).cons x)
theorem pC (x:Int):∀l:List Int,l.Pairwise (λa b=>a<=b)->(CM x l).Pairwise (λa b=>a<=b)
 | [],_=>by show List.Pairwise _ [x];simp
 |y::l,h=>by
  show(ab (u3 y x) (y::CM x l) (x::y::l)).Pairwise _;rw[ai,lA];obtain⟨h1,h2⟩:=List.pairwise_cons.1 h;split
  ·rename_i hlt;have hlt:y<x:=by simpa using hlt
   refine List.pairwise_cons.2 ⟨λb hb=>?_,pC x l h2⟩;rcases List.mem_cons.1 ((oB x l).mem_iff.1 hb)with rfl|hb
   ·omega
   ·exact h1 b hb
  ·rename_i hlt;have hlt:¬y<x:=by simpa using hlt
   refine List.pairwise_cons.2 ⟨λb hb=>?_,h⟩;rcases List.mem_cons.1 hb with rfl|hb
   ·omega
   ·have:=h1 b hb;omega
theorem nu:∀l:List Int,(oL l).Pairwise (λa b=>a<=b)
 | []=> .nil
 |x::l=>pC x _ (nu l)
theorem yz {l ss:List Int} (h:ss.Perm l):ss.mergeSort (λx y=>decide (x<=y))=oL l:=by have h1:=mergeSort_of_perm_i (h.trans (lP l).symm);rw[show(λx y:Int=>decide (x<=y))=leI from rfl,h1];refine List.mergeSort_of_pairwise ?_;exact(nu l).imp λ {a b} Fs=>by simpa[leI]using Fs
theorem Jj {n:Int} (h:Ju n=true):(Lit.int .i64 n).wf=true:=by
 have e1:IntKind.i64.min= -9223372036854775808:=by decide
 have e2:IntKind.i64.max=9223372036854775807:=by decide
 show(decide (IntKind.i64.min<=n)&&decide (n<=IntKind.i64.max))=true;rw[e1,e2,Bool.and_eq_true,decide_eq_true_eq,decide_eq_true_eq];cases n with
 |ofNat m=>have h:Nat.blt m 9223372036854775808=true:=h;have:=Nat.le_of_ble_eq_true h;simp only[Int.ofNat_eq_natCast];omega
 |negSucc m=>have h:Nat.blt m 9223372036854775808=true:=h;have:=Nat.le_of_ble_eq_true h;rw[Int.negSucc_eq];omega
theorem lQ:∀ {es:List (Value×Value×Nat)} {l:List Int},Ar es=some l->es.map (·.1)=l.map encZ∧∀n∈l,Ju n=true
 | [],l,h=>by cases h;exact⟨rfl,λn hn=>by cases hn⟩
 |(k,v,b)::es,l,h=>by
  have h:(match(generalizing:=false) k with| .int k n=>ab (ab (sd k .i64) (Ju n) false) (ob (Ar es) λl=>some (n::l)) none|_=>none)=some l:=h;split at h
  ·rename_i k n;obtain⟨h1,h⟩:=ae h;obtain⟨h2,h3⟩:=ah h1;obtain⟨l',Fo,h⟩:=U h;cases h;have:=jd.1 h2;subst this;obtain⟨i1,i2⟩:=lQ Fo;refine⟨by simp[i1],λm hm=>?_⟩;rcases List.mem_cons.1 hm with rfl|hm
   ·exact h3
   ·exact i2 m hm
  ·cases h
theorem uF:∀l:List Int,qw l=l.map λn=> [.int .i64 n]
 | []=>rfl
 |n::l=>by show [.int .i64 n]::qw l=_;rw[uF l];rfl
theorem yA (l:List Int):(qw l).flatten=l.map encZ:=by
 rw[uF];induction l with
 |nil=>rfl
 |cons n l ih=>simp[ih]
structure SortFits (P:Program) (f g et kt:Nat):Prop where
 enter:∀args w,(callFunc f args).run P w= .ok (.enter f args) w
 key:P.underlying kt=some (.int .i64)
 sorted:∀(lb:Array Value) (S:List Int->Prop) (N:Nat) (w:World),N<=maxLen->N*8<=140737488355328->SeqGives Fence.wide 2 P g lb encZ S N w->
  CallsIn Fence.wide 5 P f #[.func (.func g) #[] lb] w λe w'=>∃(v:Value) (ss:List Int),e= .returned v∧S ss∧
   w'.ownsRow w.heap.size et 1 v ss.length ((ss.mergeSort (λx y=>decide (x<=y))).map encZ)∧(v= .slice none 0 0↔ss= [])∧RowKit.Below w.heap.size w w'
 keys:∀(Bm Bo b nn:Nat) (D0:DataW Nat) (R:Value->Option (DataW Nat×List MemPlace)) (w:World),Bm<w.heap.size->w.cell? ⟨Bm,Bo,none⟩=some (.map (some b))->w.ownsMap P kt R b nn D0->
  SeqGives Fence.wide 2 P g #[.pointer (some ⟨Bm,Bo,none⟩)] encZ (λss=>ss.Perm (intKeys D0)) (Maps.size D0) w
 none:∀(Bm Bo:Nat) (w:World),Bm<w.heap.size->w.cell? ⟨Bm,Bo,none⟩=some (.map none)->SeqGives Fence.wide 2 P g #[.pointer (some ⟨Bm,Bo,none⟩)] encZ (λss:List Int=>ss= []) 0 w
open Go.WideElems (Fit rd rg)in
theorem rX {kt:TypeId} {es:List (Value×Value×Nat)} {ents:Array MapEntry} {ck b:Nat} {w:World} {l:List Int} (hm:aW P ρ kt es ents) (hb:Borns ck ents) (hh:w.heap[b]? =some (.map ents ck)) (hl:Ar es=some l) (hn:es.length<=1000000) (hk:P.underlying kt=some (.int .i64)):
  ∃D0:DataW Nat,w.ownsMap P kt (λ_=>some (.nil,[])) b ents.size D0∧(intKeys D0).Perm l∧Maps.size D0=l.length:=by
 obtain⟨k1,k2⟩:=lQ hl
 have eI:=hm
 obtain⟨l0,hp,hf,dR⟩:=hm
 have hlen:ents.toList.length=l.length:=by
  rw[<-hp.length_eq]
  have e1:=congrArg List.length (mV hf)
  have e2:=congrArg List.length k1
  simp only[List.length_map]at e1 e2
  omega
 have hes:es.length=l.length:=by have:=congrArg List.length k1;simpa using this
 have hkey:∀x∈ents.toList,∃n,x.key=encZ n∧Ju n=true:= λx hx=>by
  obtain⟨p,nT,h1,_⟩:=F2.bZ hf x (hp.mem_iff.2 hx)
  have:p.1∈es.map (·.1):=List.mem_map.2 ⟨p,nT,rfl⟩
  rw[k1]at this
  obtain⟨n,HQ,he⟩:=List.mem_map.1 this
  exact⟨n,by rw[<-h1,<-he],k2 n HQ⟩
 have dt:∀x∈ents.toList,∀n,x.key=encZ n->Ju n=true->rd P kt (λ_=>some (DataW.nil (H:=Nat),[])) x=some (.int .i64 n,.nil):= λx hx n e ho=>by
  have hw:=Jj ho
  unfold rd
  rw[e]
  simp[Go.keyOf,hk,mapKey,hw]
 refine⟨_,⟨ents,ck,hh,⟨?_,⟨hb.2,hb.1,eI.nodup⟩,λx hx=>?_⟩,Nat.le_refl _,rfl⟩,?_,?_⟩
 ·have:ents.size=l.length:=by simpa using hlen
  unfold maxLen
  omega
 ·obtain⟨n,e,ho⟩:=hkey x hx
  exact⟨_,dt x hx n e ho⟩
 ·show(((ents.toList.map (rg P kt _)).foldr DataW.insert []).map λp=>intOf p.1).Perm l
  refine((Go.WideShapes.sorted_perm _).map _).trans ?_
  rw[List.map_map]
  have e1:ents.toList.map ((λp:Lit×DataW Nat=>intOf p.1)∘rg P kt (λ_=>some (DataW.nil,[])))=(ents.toList.map (·.key)).map RowKit.intOf:=by
   rw[List.map_map]
   refine List.map_congr_left λx hx=>?_
   obtain⟨n,e,ho⟩:=hkey x hx
   simp only[Function.comp,rg,dt x hx n e ho,e]
   rfl
  rw[e1]
  have h2:=((hp.map (·.key)).map RowKit.intOf).symm
  rw[mV hf,k1]at h2
  have e3:(l.map encZ).map RowKit.intOf=l:=by
   rw[List.map_map]
   exact(List.map_congr_left (λn _=>rfl)).trans (List.map_id l)
  rw[e3]at h2
  exact h2
 ·show((ents.toList.map (rg P kt _)).foldr DataW.insert []).length=_
  rw[(Go.WideShapes.sorted_perm _).length_eq,List.length_map,hlen]
theorem rY:∀l:List Int,af ρ (l.map encZ) (l.map encZ)
 | []=> .nil
 |n::l=> .cons (.int .i64 n) (rY l)
theorem Px {b b':Array Value} {p o:Nat} (hb:b.toList= [.pointer (some ⟨p,o,none⟩)]) (h:af ρ b.toList b'.toList):∃x,ρ p=some x∧b'= #[.pointer (some ⟨x.b,x.base+o,none⟩)]:=by
 rw[hb]at h;generalize hm:b'.toList=m at h;cases h with|cons hv hs=>?_
 cases hs;cases hv with| @ptr _ x _ hx=>?_
 exact⟨x,hx,Array.ext' hm⟩
theorem Mg {b b':Array Value} (hb:b.toList= []) (h:af ρ b.toList b'.toList):b'= #[]:=by rw[hb]at h;generalize hm:b'.toList=m at h;cases h;exact Array.ext' hm
theorem Jk {w:World} {gb:Nat} {cur:Array Value} {et:TypeId} (BM:w.heap[gb]? =some (.cells cur et (0,0))) {sz n:Nat} {els:List (List Value)} {cs:List Value} {t:T (List Value)} (ht:uL els 0 .e=some t) (hl:∀l∈els,l.length=sz) (hn:els.length=n)
  (hc:af ρ els.flatten cs) (Py:cur.toList.take cs.length=cs):bX P ρ ⟨gb,0,cur.size,[]⟩ w (.cells t sz n false et):=by
 have hlt:=(Array.getElem?_eq_some_iff.1 BM).1;have hsz:(w.heap.extract 0 gb).size=gb:=by simp;omega
 have hall:cs++cur.toList.drop cs.length=cur.toList:=by have:=List.take_append_drop cs.length cur.toList;rw[Py]at this;exact this
 have hlen:cs.length+(cur.toList.drop cs.length).length=cur.size:=by have:=congrArg List.length hall;simpa using this
 have:=mU (P:=P) (ρ:=ρ) (w:={w with heap:=w.heap.extract 0 gb}) (w':={w with heap:=(w.heap.extract 0 gb).push (.cells (cs++cur.toList.drop cs.length).toArray et (0,0))}) (rest:=cur.toList.drop cs.length) (lo:=0) (hi:=0) ht hl hn hc (λo h1 h2=>by omega) rfl;rw[hlen]at this;have e:(⟨({w with heap:=w.heap.extract 0 gb}:World).heap.size,0,cur.size,[]⟩:Loc)=⟨gb,0,cur.size,[]⟩:=by show(⟨(w.heap.extract 0 gb).size,0,cur.size,[]⟩:Loc)=_;rw[hsz]
 rw[e]at this;refine this.congr ?_;show w.heap[gb]? =((w.heap.extract 0 gb).push (.cells (cs++cur.toList.drop cs.length).toArray et (0,0)))[gb]?;rw[Array.getElem?_push,if_pos hsz.symm,BM,hall]
theorem sorted_ok {f g et kt:Nat} (hF:SortFits P f g et kt):FFOk P f (λ_ args s=>gN (uP s (.sorted g et kt) args)):=by
 intro ev hev args s v s' h ρ w aq hR ha;have h:gN (gS s (.sorted g et kt) args)= .val v s':=h;cases hs:gS s (.sorted g et kt) args with
 |none=>rw[hs]at h;cases h
 |some r=>
 rw[hs]at h;cases h;have DP:∀(lb:Array Value) (S:List Int->Prop) (N:Nat),N<=1000000->aq= [.func (.func g) #[] lb]->SeqGives Fence.wide 2 P g lb encZ S N w->
   (∀(u:Value) (ss:List Int) (w':World),S ss->w'.ownsRow w.heap.size et 1 u ss.length ((ss.mergeSort (λx y=>decide (x<=y))).map encZ)->(u= .slice none 0 0↔ss= [])->RowKit.Below w.heap.size w w'->
    ∃aj,ag aj r.1 u∧Rel P aj r.2 w'∧aR ρ s w aj r.2 w')->
   bb P (callFunc f aq.toArray) w λu w'=>∃aj,ag aj r.1 u∧Rel P aj r.2 w'∧aR ρ s w aj r.2 w':=by
  intro lb S N hN he hseq Bt;subst he;unfold bb;rw[hF.enter];have hc:=hF.sorted lb S N w (by unfold maxLen;omega) (by omega) hseq;refine CallsIn.mono (callsIn_wide.2 (callsIn_wide.1 hc)) ?_;rintro e w' ⟨u,ss,rfl,hS,jz,Gc,hb⟩;exact⟨u,rfl,Bt u ss w' hS jz Gc hb⟩
 have Bd:∀(S:List Int->Prop),(∀ss,S ss->ss= [])->r=(.slice none 0 0,s)->∀(u:Value) (ss:List Int) (w':World),S ss->w'.ownsRow w.heap.size et 1 u ss.length ((ss.mergeSort (λx y=>decide (x<=y))).map encZ)->(u= .slice none 0 0↔ss= [])->RowKit.Below w.heap.size w w'->
    ∃aj,ag aj r.1 u∧Rel P aj r.2 w'∧aR ρ s w aj r.2 w':=by
  intro S FD hr u ss w' hS jz Gc hb;obtain rfl:=Gc.2 (FD ss hS);subst hr;obtain⟨g1,g2⟩:=hR.grow hb.size hb.block hb.tape hb.os hb.output;exact⟨ρ,.ba,g1,g2⟩
 unfold gS at hs;split at hs
 ·rename_i he;cases he
 ·rename_i he;cases he
 ·rename_i g0 Tv QE f0 a b heq;cases heq;replace hs:=ae hs;obtain⟨hg,hs⟩:=hs;have hg:=Nat.eq_of_beq_eq_true hg;subst hg;cases ha with|cons hv wY=>?_
  cases wY;cases hv with| @func _ _ _ fa fb h1 h2=>?_
  split at hs
  ·rename_i p hat JV;have xc:=Mg hat h1;obtain⟨x,hx,HF⟩:=Px JV h2;subst xc;subst HF;replace hs:=U hs;obtain⟨l,hl,hs⟩:=hs;obtain⟨_,m,QF,hcell⟩:=kd hR hx hl;split at hs
   ·cases hs;cases QF with|cons hv wY=>?_
    cases wY;cases hv;have hc:=hcell 0 _ rfl;have hlt:x.b<w.heap.size:=World.block_lt_of_cell? w _ hc;exact DP _ _ 0 (by omega) rfl (hF.none x.b (x.base+0) w hlt hc) (Bd _ (λss h=>h) rfl)
   ·rename_i rm;cases QF with|cons hv wY=>?_
    cases wY;cases hv with| @map _ y hy=>?_
    have hc:=hcell 0 _ rfl;have hlt:x.b<w.heap.size:=World.block_lt_of_cell? w _ hc;replace hs:=bj hs;obtain⟨sK,es,ck,hb,hs⟩:=hs;replace hs:=ae hs;obtain⟨lx,hs⟩:=hs;have lx:=Nat.eq_of_beq_eq_true lx;subst lx;obtain⟨IG,ents,hh,eI,iw⟩:=hR.blk _ _ y hb hy;unfold sortedA at hs;split at hs
    ·cases hs;obtain⟨D0,hown,xy,hsz⟩:=rX (l:= []) eI iw hh rfl (by simp) hF.key;refine DP _ _ _ (by rw[hsz];simp) rfl (hF.keys x.b (x.base+0) y.b _ D0 _ w hlt hc hown) (Bd _ (λss h=>(h.trans xy).eq_nil) rfl)
    ·rename_i e0 M3;replace hs:=ae hs;obtain⟨hn,hs⟩:=hs;replace hs:=U hs;obtain⟨l,hl,hs⟩:=hs;rw[aZ]at hn hs;have hn:=Nat.le_of_ble_eq_true hn;obtain⟨D0,hown,xy,hsz⟩:=rX eI iw hh hl hn hF.key;have AH:(e0::M3).length=l.length:=by have:=congrArg List.length (lQ hl).1;simpa using this
     refine DP _ _ _ (by rw[hsz,<-AH];exact hn) rfl (hF.keys x.b (x.base+0) y.b _ D0 _ w hlt hc hown) ?_;intro u ss w' hS jz Gc cr;have wP:=hS.trans xy;rw[yz wP]at jz;have Mv:ss.length=(e0::M3).length:=by rw[wP.length_eq,AH]
     rcases jz.2 with ⟨_,hz⟩|⟨gb,cap,cur,rfl,xp,BM,r1,r2,r3,r4⟩
     ·rw[Mv]at hz;simp at hz
     ·obtain⟨g1,g2,g3,t,s2,MA,hnew,CT⟩:=ru hs;have hcs:af (ρ.put s.nx ⟨gb,0,cur.size,[]⟩) (qw (oL l)).flatten ((oL l).map encZ):=by
       rw[yA];exact rY _
      have hlen:((oL l).map encZ).length=ss.length*1:=by rw[List.length_map,(lP l).length_eq,<-wP.length_eq,Nat.mul_one]
      have J8:=Jk (P:=P) BM MA g3 g2 hcs (by rw[hlen];exact r4);obtain⟨q1,q2⟩:=Rel.Gv hR hnew (x:=⟨gb,0,cur.size,[]⟩) xp (Array.getElem?_eq_some_iff.1 BM).1 cr.size cr.block cr.tape cr.os cr.output J8;subst CT;refine⟨_,?_,q1,q2⟩;have DQ:codeLB (e0::M3).length 1/512=(e0::M3).length:=cI (by omega);rw[<-Mv]at DQ⊢;exact .slice 0 _ _ cap _ (bC _ _ _) (by rw[DQ];exact Nat.le_refl _) (by rw[DQ];exact r1) (λh=>by rw[gB]at h;cases h) (.inl rfl) (λ_=>by rw[iM (by omega)];show 0+0+cap*1<=cur.size;omega)
   ·cases hs
  ·cases hs
 ·rename_i he;cases he
 ·rename_i he;cases he
 ·rename_i hne;cases hs
end Go.Eng
namespace Go.Proofs
open Go.Shelf Go.RowKit
variable {P : Program} {ρ : Ren}
structure EngCopy.Inv (bd bs : Nat) (entsS : Array MapEntry) (cs : Nat) (w wr : World) (vis : List MapEntry) (ents : Array MapEntry) (ck : Nat) : Prop where
  dst : wr.heap[bd]? = some (.map ents ck)
  src : wr.heap[bs]? = some (.map entsS cs)
  iter : wr.heap[w.heap.size]? = some (.mapIter (some bs) cs (vis.map (·.born)).toArray cs)
  mem : ∀ e ∈ vis, e ∈ entsS.toList
  nodup : (vis.map (·.born)).Nodup
  size : wr.heap.size = w.heap.size + 1
  rest : ∀ b, b < w.heap.size → b ≠ bd → wr.heap[b]? = w.heap[b]?
  tape : wr.tape = w.tape
  os : wr.os = w.os
  out : wr.output = w.output
set_option maxHeartbeats 4000000 in
set_option maxRecDepth 100000 in
theorem EngCopy.walk (L : SlLaysX.n5 P ρ) (J : List MapEntry → Array MapEntry → Nat → Prop) (bd bs : Nat) (entsD entsS : Array MapEntry) (cd cs : Nat) (w : World) (hd : w.heap[bd]? = some (.map entsD cd)) (hs : w.heap[bs]? = some (.map entsS cs)) (hne : bd ≠ bs) (hbs : Go.Eng.Borns cs entsS)
    (h0 : J [] entsD cd) (hstep : ∀ vis e ents ck w', J vis ents ck → e ∈ entsS.toList → (∀ x ∈ vis, x ∈ entsS.toList ∧ x.born ≠ e.born) → w'.heap[bd]? = some (.map ents ck) →
      ∃ ents' ck', (Instr.mapUpdate (ρ.t 23) (.map (some bd)) e.key e.val).run P w' = .ok () { w' with heap := w'.heap.setIfInBounds bd (.map ents' ck') } ∧ J (vis ++ [e]) ents' ck') :
    Calls P (ρ.f 5) #[.map (some bd), .map (some bs)] w fun e w' => e = .returned (.tuple #[]) ∧ ∃ vis ents ck, J vis ents ck ∧ (∀ e ∈ entsS.toList, e.born ∈ vis.map (·.born)) ∧ EngCopy.Inv bd bs entsS cs w w' vis ents ck := by
  have mixed := L.mixed; have t0 := L.t0; have a0 := L.a0; have z0 := L.z0; have v0 := L.v0; have t4 := L.t4; have a4 := L.a4; have z4 := L.z4; have v4 := L.v4; have t23 := L.t23; have a23 := L.a23; have z23 := L.z23; have v23 := L.v23; have t24 := L.t24; have a24 := L.a24; have z24 := L.z24; have v24 := L.v24; have a26 := L.a26; have z26 := L.z26; have a27 := L.a27; have z27 := L.z27
  have hbd : bd < w.heap.size := (Array.getElem?_eq_some_iff.1 hd).1
  have hbl : bs < w.heap.size := (Array.getElem?_eq_some_iff.1 hs).1
  have hrg := run_range_map (P := P) w (ρ.t 24) _ _ bs entsS cs L.t24 hs
  obtain ⟨_, _, FG⟩ := L.f5
  have Hd : Hid (w.heap[bd]? = some (.map entsD cd)) := hd
  have Hs : Hid (w.heap[bs]? = some (.map entsS cs)) := hs
  have Hb : Hid (Go.Eng.Borns cs entsS) := hbs
  have HS : Hid _ := hstep
  have H0 : Hid _ := h0
  clear hd hs hbs hstep h0
  go_enter FG, SlBodyX.n5_ntmps ρ
  go_wp2
  go_loopw [8] (fun _ wr => ∃ vis ents ck, J vis ents ck ∧ EngCopy.Inv bd bs entsS cs w wr vis ents ck)
    (fun _ wr => match wr.heap[w.heap.size]? with | some (.mapIter _ _ seen _) => (entsS.toList.filter fun (e : MapEntry) => !seen.toList.contains e.born).length | _ => 0)
  case atStart =>
    exact ⟨[], entsD, cd, H0.out, ⟨(Below.heap_alloc w _ bd hbd).trans Hd.out, (Below.heap_alloc w _ bs hbl).trans Hs.out, heap_alloc_new w _, fun e he => (by cases he), .nil, by simp, fun b hb _ => Below.heap_alloc w _ b hb, rfl, rfl, rfl⟩⟩
  case round =>
    obtain ⟨vis, ents, ck, hJ, hI⟩ := hrel
    rcases Go.Eng.next_some (P := P) hI.iter hI.src Hb.out with ⟨w2, hall, hrun, hsame⟩ | ⟨en, w2, hen, hnew, hrun, hsame⟩
    · have hI2 : Hid (EngCopy.Inv bd bs entsS cs w w2 vis ents ck) := ⟨by rw [hsame.heap]; exact hI.dst, by rw [hsame.heap]; exact hI.src, by rw [hsame.heap]; exact hI.iter, hI.mem, hI.nodup, by rw [hsame.heap]; exact hI.size, fun b hb hn => by rw [hsame.heap]; exact hI.rest b hb hn, hsame.tape.trans hI.tape, hsame.os.trans hI.os, hsame.out.trans hI.out⟩
      have hall2 : Hid _ := hall
      have hJ2 : Hid _ := hJ
      clear hsame hall hI hJ
      go_wp2
      go_end0
      exact ⟨rfl, vis, ents, ck, hJ2.out, by simpa using hall2.out, hI2.out⟩
    · generalize hw3 : ({ w2 with heap := w2.heap.setIfInBounds w.heap.size (.mapIter (some bs) cs ((vis.map (·.born)).toArray.push en.born) cs) } : World) = w3 at hrun
      have hlt : w.heap.size < w2.heap.size := by rw [hsame.heap, hI.size]; omega
      have hw3h : ∀ b, b ≠ w.heap.size → w3.heap[b]? = wr.heap[b]? := fun b hb => by
        rw [← hw3]
        simp only
        rw [Array.getElem?_setIfInBounds_ne (Ne.symm hb), hsame.heap]
      have hit3 : w3.heap[w.heap.size]? = some (.mapIter (some bs) cs ((vis.map (·.born)).toArray.push en.born) cs) := by
        rw [← hw3]; simp [hlt]
      have hsz3 : w3.heap.size = w.heap.size + 1 := by rw [← hw3]; simp [hsame.heap, hI.size]
      have ht3 : w3.tape = w.tape ∧ w3.os = w.os ∧ w3.output = w.output := by
        rw [← hw3]; exact ⟨hsame.tape.trans hI.tape, hsame.os.trans hI.os, hsame.out.trans hI.out⟩
      have hd3 : w3.heap[bd]? = some (.map ents ck) := (hw3h bd (by omega)).trans hI.dst
      have hs3 : w3.heap[bs]? = some (.map entsS cs) := (hw3h bs (by omega)).trans hI.src
      have hent := Go.Eng.run_entry (P := P) hit3 hs3 Hb.out hen
      have hnot : en.born ∉ vis.map (·.born) := by simpa using hnew
      obtain ⟨ents', ck', hmu, hJ'⟩ := HS.out vis en ents ck w3 hJ hen (fun x hx => ⟨hI.mem x hx, fun e => hnot (by rw [← e]; exact List.mem_map.2 ⟨x, hx, rfl⟩)⟩) hd3
      generalize hw4 : ({ w3 with heap := w3.heap.setIfInBounds bd (.map ents' ck') } : World) = w4 at hmu
      have hw4h : ∀ b, b ≠ bd → w4.heap[b]? = w3.heap[b]? := fun b hb => by
        rw [← hw4]
        simp only
        rw [Array.getElem?_setIfInBounds_ne (Ne.symm hb)]
      have hI4 : Hid (EngCopy.Inv bd bs entsS cs w w4 (vis ++ [en]) ents' ck') := by
        refine ⟨?_, (hw4h bs (Ne.symm hne)).trans hs3, ?_, fun e he => ?_, ?_, ?_, fun b hb hn => ?_, ?_, ?_, ?_⟩
        · have hb3 : bd < w3.heap.size := by omega
          rw [← hw4]; simp [hb3]
        · rw [hw4h _ (by omega), hit3]; simp
        · rcases List.mem_append.1 he with he | he
          · exact hI.mem e he
          · simp at he; subst he; exact hen
        · rw [List.map_append, List.nodup_append]
          refine ⟨hI.nodup, by simp, fun a ha b hb => ?_⟩
          simp at hb
          subst hb
          exact fun e => hnot (e ▸ ha)
        · rw [← hw4]; simp [hsz3]
        · rw [hw4h b hn, hw3h b (by omega)]; exact hI.rest b hb hn
        · rw [← hw4]; exact ht3.1
        · rw [← hw4]; exact ht3.2.1
        · rw [← hw4]; exact ht3.2.2
      have hJ4 : Hid _ := hJ'
      have hμ : Hid ((entsS.toList.filter fun (e : MapEntry) => !(vis.map (·.born) ++ [en.born]).contains e.born).length < (entsS.toList.filter fun (e : MapEntry) => !(vis.map (·.born)).contains e.born).length) := Go.Eng.filter_less ⟨en, hen, rfl⟩ hnot
      have hIt : Hid (wr.heap[w.heap.size]? = some (.mapIter (some bs) cs (vis.map (·.born)).toArray cs)) := hI.iter
      clear hw3 hlt hw3h hit3 hsz3 ht3 hd3 hs3 hnot hJ' hw4 hw4h hsame hnew hen hJ hI
      go_wp2
      go_roundw
      case rel => exact ⟨_, _, _, hJ4.out, hI4.out⟩
      case measure =>
        rw [hI4.out.iter, hIt.out]
        simpa using hμ.out
end Go.Proofs
namespace Go.Eng
open Go
variable {P:Program} {ρ:Ren}
abbrev jA:=Value×Value×Nat
noncomputable def one (p q:jA):jA:= @ite _ (q.1=p.1) (Classical.propDecidable _) (p.1,p.2.1,q.2.2) q
theorem one_pos {p q:jA} (h:q.1=p.1):one p q=(p.1,p.2.1,q.2.2):=if_pos h
theorem dK {p q:jA} (h:¬q.1=p.1):one p q=q:=if_neg h
theorem mK (p q:jA):(one p q).1=q.1:=by
 by_cases h:q.1=p.1
 ·rw[one_pos h,h]
 ·rw[dK h]
noncomputable def gR (a:List jA) (p:jA):List jA:=
 @ite _ (∃q∈a,q.1=p.1) (Classical.propDecidable _) (a.map (one p)) (a++ [(p.1,p.2.1,0)])
theorem cF {a:List jA} {p:jA} (h:∃q∈a,q.1=p.1):gR a p=a.map (one p):=by unfold gR;rw[if_pos h]
theorem cG {a:List jA} {p:jA} (h:¬ ∃q∈a,q.1=p.1):gR a p=a++ [(p.1,p.2.1,0)]:=by unfold gR;rw[if_neg h]
theorem kH {a:List jA} {p:jA} {k:Value} (hk:k≠p.1):(∃q∈gR a p,q.1=k)↔ ∃q∈a,q.1=k:=by
 by_cases h:∃q∈a,q.1=p.1
 ·rw[cF h];constructor
  ·rintro⟨q,hq,e⟩;obtain⟨q',yL,rfl⟩:=List.mem_map.1 hq;rw[mK]at e;exact⟨q',yL,e⟩
  ·rintro⟨q,hq,e⟩;exact⟨_,List.mem_map.2 ⟨q,hq,rfl⟩,by rw[mK];exact e⟩
 ·rw[cG h];constructor
  ·rintro⟨q,hq,e⟩;rcases List.mem_append.1 hq with hq|hq
   ·exact⟨q,hq,e⟩
   ·simp at hq;subst hq;exact(hk e.symm).elim
  ·rintro⟨q,hq,e⟩;exact⟨q,by simp[hq],e⟩
theorem ER {p q:jA} (h:p.1≠q.1) (a:List jA):(gR (gR a p) q).Perm (gR (gR a q) p):=by
 by_cases hp:∃x∈a,x.1=p.1
 ·have nT:=(kH (a:=a) (p:=q) h).2 hp;by_cases hq:∃x∈a,x.1=q.1
  ·have yL:=(kH (a:=a) (p:=p) (Ne.symm h)).2 hq;rw[cF yL,cF nT,cF hp,cF hq,List.map_map,List.map_map];refine List.Perm.of_eq (List.map_congr_left λx _=>?_);simp only[Function.comp];by_cases h1:x.1=p.1
   ·have h2:¬x.1=q.1:= λe=>h (h1.symm.trans e);rw[dK h2,dK (λe=>h2 ((mK p x).symm.trans e))]
   ·by_cases h2:x.1=q.1
    ·rw[dK h1,dK (λe=>h1 ((mK q x).symm.trans e))]
    ·rw[dK h1,dK h2,dK h1]
  ·have yL:¬ ∃x∈gR a p,x.1=q.1:= λe=>hq ((kH (Ne.symm h)).1 e);rw[cG yL,cF nT,cF hp,cG hq,List.map_append];refine List.Perm.of_eq ?_;simp only[List.map_cons,List.map_nil];rw[dK (p:=p) (q:=(q.1,q.2.1,0)) (Ne.symm h)]
 ·have nT:¬ ∃x∈gR a q,x.1=p.1:= λe=>hp ((kH h).1 e);by_cases hq:∃x∈a,x.1=q.1
  ·have yL:=(kH (a:=a) (p:=p) (Ne.symm h)).2 hq;rw[cF yL,cG nT,cG hp,cF hq,List.map_append];refine List.Perm.of_eq ?_;simp only[List.map_cons,List.map_nil];rw[dK (p:=q) (q:=(p.1,p.2.1,0)) h]
  ·have yL:¬ ∃x∈gR a p,x.1=q.1:= λe=>hq ((kH (Ne.symm h)).1 e);rw[cG yL,cG nT,cG hp,cG hq,List.append_assoc,List.append_assoc];exact(List.Perm.swap _ _ []).append_left a
theorem m8 {a b:List jA} (h:a.Perm b) (p:jA):(gR a p).Perm (gR b p):=by
 by_cases hp:∃x∈a,x.1=p.1
 ·have nT:∃x∈b,x.1=p.1:=let⟨x,hx,e⟩:=hp;⟨x,h.mem_iff.1 hx,e⟩;rw[cF hp,cF nT];exact h.map _
 ·have nT:¬ ∃x∈b,x.1=p.1:= λ⟨x,hx,e⟩=>hp ⟨x,h.mem_iff.2 hx,e⟩;rw[cG hp,cG nT];exact h.append_right _
theorem sw {vs Hw:List jA} (h:vs.Perm Hw):vs.Pairwise (λp q=>p.1≠q.1)->∀a b:List jA,a.Perm b->(vs.foldl gR a).Perm (Hw.foldl gR b):=by
 induction h with
 |nil=>exactλ_ a b h=>h
 |cons x _ ih=>exactλhp a b h=>ih (List.pairwise_cons.1 hp).2 _ _ (m8 h x)
 |swap x y l=>
  intro hp a b h;have GJ:y.1≠x.1:=(List.pairwise_cons.1 hp).1 x (by simp);show(l.foldl gR (gR (gR a y) x)).Perm (l.foldl gR (gR (gR b x) y));have base:∀(l:List jA) (a b:List jA),a.Perm b->(l.foldl gR a).Perm (l.foldl gR b):=by
   intro l;induction l with
   |nil=>exactλa b h=>h
   |cons x l ih=>exactλa b h=>ih _ _ (m8 h x)
  exact base l _ _ ((ER GJ a).trans (m8 (m8 h x) y))
 |trans h1 _ Kb Kc=>intro hp a b h;exact(Kb hp a b h).trans (Kc ((h1.pairwise_iff (λ {_ _} hne=>Ne.symm hne)).1 hp) b b (.refl _))
theorem ES {k v:Value} {b:Nat} {es bc:List jA} (hn:(es.map (·.1)).Nodup) (h:uM k v 0 es=some bc):bc=gR es (k,v,b):=by
 rcases uf h with ⟨gk,v0,b0,fk,rfl,rfl⟩|⟨dg,rfl⟩
 ·rw[cF (p:=(k,v,b)) ⟨(k,v0,b0),by simp,rfl⟩];rw[List.map_append,List.map_cons,List.nodup_append]at hn;have e1:∀q∈gk,q.1≠k:= λq hq e=>hn.2.2 q.1 (List.mem_map.2 ⟨q,hq,rfl⟩) k (by simp) e;have e2:∀q∈fk,q.1≠k:= λq hq e=>(List.nodup_cons.1 hn.2.1).1 (by rw[<-e];exact List.mem_map.2 ⟨q,hq,rfl⟩);rw[List.map_append,List.map_cons];have m1:∀(l:List jA),(∀q∈l,q.1≠k)->l.map (one (k,v,b))=l:= λl hl=>
   (List.map_congr_left λq hq=>dK (p:=(k,v,b)) (hl q hq)).trans (List.map_id l)
  rw[m1 gk e1,m1 fk e2,one_pos (p:=(k,v,b)) (q:=(k,v0,b0)) rfl]
 ·rw[cG (λ⟨q,hq,e⟩=>dg q hq e)]
theorem ET {a:List jA} {p:jA} (hn:(a.map (·.1)).Nodup):((gR a p).map (·.1)).Nodup:=by
 by_cases h:∃q∈a,q.1=p.1
 ·rw[cF h,List.map_map];rw[show((λq:jA=>q.1)∘one p)= λq=>q.1 from funext λq=>mK p q];exact hn
 ·rw[cG h,List.map_append,List.nodup_append];refine⟨hn,by simp,λx hx y hy e=>h ?_⟩;simp at hy;obtain⟨q,hq,rfl⟩:=List.mem_map.1 hx;exact⟨q,hq,e.trans hy⟩
theorem rZ:∀ {es d d':List jA},(d.map (·.1)).Nodup->zk es d=some d'->d'=es.foldl gR d
 | [],d,d',_,h=>by have h:some d=some d':=h;cases h;rfl
 |(k,v,b)::es,d,d',hn,h=>by have h:ob (uM k v 0 d) (zk es)=some d':=h;obtain⟨d1,h1,h⟩:=U h;have e:=ES (b:=b) hn h1;subst e;show d'=es.foldl gR (gR d (k,v,b));exact rZ (ET hn) h
theorem Gw (a:List jA) (p:jA):a.length<=(gR a p).length:=by
 by_cases h:∃q∈a,q.1=p.1
 ·rw[cF h];simp
 ·rw[cG h];simp
theorem lu:∀(vs a:List jA),a.length<=(vs.foldl gR a).length
 | [],_=>Nat.le_refl _
 |p::vs,a=>Nat.le_trans (Gw a p) (lu vs _)
theorem F2.perm {α β:Type} {R:α->β->Prop} {l l':List α} (h:l.Perm l'):∀ {m:List β},F2 R l m->∃m',m.Perm m'∧F2 R l' m':=by
 induction h with
 |nil=>exactλh=>⟨_,.refl _,h⟩
 |cons x _ ih=>
  intro m h;cases h with|cons h hs=>
  obtain⟨m',h1,h2⟩:=ih hs;exact⟨_,h1.cons _,.cons h h2⟩
 |swap x y l=>
  intro m h;cases h with|cons h hs=>
  cases hs with|cons h' hs=>
  exact⟨_,List.Perm.swap _ _ _,.cons h' (.cons h hs)⟩
 |trans _ _ Kb Kc=>intro m h;obtain⟨m1,p1,f1⟩:=Kb h;obtain⟨m2,p2,f2⟩:=Kc f1;exact⟨m2,p1.trans p2,f2⟩
theorem aW.perm {kt:TypeId} {es bc:List jA} {ents:Array MapEntry} (h:aW P ρ kt es ents) (hp:es.Perm bc):aW P ρ kt bc ents:=by obtain⟨l,h1,h2,h3⟩:=h;obtain⟨l',p,f⟩:=F2.perm hp h2;exact⟨l',p.symm.trans h1,f,((hp.map _).nodup_iff).1 h3⟩
theorem oG {mt kt e:TypeId} {w:World} {b:Nat} (gU:P.underlying mt=some (.map kt e)) {es:List jA} {ents:Array MapEntry} {ck:Nat} (eI:aW P ρ kt es ents) (iw:Borns ck ents) (hh:w.heap[b]? =some (.map ents ck)) {k x x':Value} {n:Nat} (ee:aG P kt k=true) (hx:ag ρ x x'):
  ∃ents' ck',(Instr.mapUpdate mt (.map (some b)) k x').run P w= .ok () {w with heap:=w.heap.setIfInBounds b (.map ents' ck')}∧aW P ρ kt (gR es (k,x,n)) ents'∧Borns ck' ents'∧ck'+es.length=ck+(gR es (k,x,n)).length:=by
 have wP:=cR ee;have iY:=cp (P:=P) ee w eI.fits;by_cases hp:∃q∈es,q.1=k
 ·obtain⟨q,hq,he⟩:=hp;obtain⟨gk,fk,hes⟩:=List.append_of_mem hq;obtain⟨k0,v0,b0⟩:=q;have he:k0=k:=he;subst he;subst hes;have dR:=eI.choose_spec.2.2;rw[List.map_append,List.map_cons,List.nodup_append]at dR;have e1:∀q∈gk,q.1≠k0:= λq hq e=>dR.2.2 q.1 (List.mem_map.2 ⟨q,hq,rfl⟩) k0 (by simp) e;have e2:∀q∈fk,q.1≠k0:= λq hq e=>(List.nodup_cons.1 dR.2.1).1 (by rw[<-e];exact List.mem_map.2 ⟨q,hq,rfl⟩);have m1:∀(l:List jA),(∀q∈l,q.1≠k0)->l.map (one (k0,x,n))=l:= λl hl=>
   (List.map_congr_left λq hq=>dK (p:=(k0,x,n)) (hl q hq)).trans (List.map_id l)
  have IX:gR (gk++(k0,v0,b0)::fk) (k0,x,n)=gk++(k0,x,b0)::fk:=by rw[cF (p:=(k0,x,n)) ⟨(k0,v0,b0),hq,rfl⟩,List.map_append,List.map_cons,m1 gk e1,m1 fk e2,one_pos (p:=(k0,x,n)) (q:=(k0,v0,b0)) rfl]
  rw[IX];obtain⟨l1,e0,l2,t1,t2,h1,h2,h3,hp,ht,iu⟩:=eI.fR;have HE:(ents[t1.length]?).map (·.key)=some k0:=by
   have:ents[t1.length]? =(t1++e0::t2)[t1.length]?:=by rw[<-ht];simp
   rw[this];simp;exact h2.1.symm
  have fX:=oi ht (λe=> {e with key:=k0,val:=x'});refine⟨ents.modify t1.length λe=> {e with key:=k0,val:=x'},ck,?_,⟨l1++ {e0 with key:=k0,val:=x'}::l2,?_,F2.append (.cons ⟨rfl,h2.2.1,h2.2.2.1,hx,h2.2.2.2.2⟩ h3) h1,?_⟩,iw.of (e1:={e0 with key:=k0,val:=x'}) ht (by rw[fX]) rfl,by simp⟩
  ·rw[iu]at iY;simp only[Instr.mapUpdate,Sem.run_bind,run_underlying gU,Result.andThen_ok,Sem.run_pure,au hh (by simp),aD ee,iY,HE,Option.getD_some,fV ee,aQ hh (by simp)]
  ·rw[fX];exact(List.perm_middle.trans (hp.cons _)).trans List.perm_middle.symm
  ·have:=eI.choose_spec.2.2;simpa using this
 ·have dg:∀p∈es,p.1≠k:= λq hq e=>hp ⟨q,hq,e⟩;have IX:gR es (k,x,n)=es++ [(k,x,0)]:=cG (p:=(k,x,n)) hp;rw[IX];have iu:=eI.nR dg;obtain⟨l,Cx,hf,hn⟩:=eI;refine⟨ents.push {key:=k,val:=x',born:=ck},ck+1,?_,⟨l++ [{key:=k,val:=x',born:=ck}],?_,F2.append (.cons ⟨rfl,ee,wP,hx,.inl rfl⟩ .nil) hf,?_⟩,iw.push rfl,by simp;omega⟩
  ·rw[iu]at iY;simp only[Instr.mapUpdate,Sem.run_bind,run_underlying gU,Result.andThen_ok,Sem.run_pure,au hh (by simp),aD ee,iY,aQ hh (by simp)]
  ·rw[Array.toList_push];exact Cx.append_right _
  ·rw[List.map_append,List.nodup_append];refine⟨hn,by simp,λa ha b hb=>?_⟩;obtain⟨p,nT,rfl⟩:=List.mem_map.1 ha;simp only[List.map_cons,List.map_nil,List.mem_singleton]at hb;subst hb;exact dg p nT
structure CopyFits (P:Program) (f kt:Nat):Prop where
 enter:∀args w,(callFunc f args).run P w= .ok (.enter f args) w
 nil:∀(pd:Option Nat) (w:World),Calls P f #[.map pd,.map none] w λe w'=>e= .returned (.tuple #[])∧w'=w.alloc (.mapIter none 0 #[] 0)
 walk:∃mt et,P.underlying mt=some (.map kt et)∧∀(J:List MapEntry->Array MapEntry->Nat->Prop) (bd bs:Nat) (entsD entsS:Array MapEntry) (cd cs:Nat) (w:World),w.heap[bd]? =some (.map entsD cd)->w.heap[bs]? =some (.map entsS cs)->bd≠bs->Borns cs entsS->
  J [] entsD cd->(∀vis e ents ck w',J vis ents ck->e∈entsS.toList->(∀x∈vis,x∈entsS.toList∧x.born≠e.born)->w'.heap[bd]? =some (.map ents ck)->
   ∃ents' ck',(Instr.mapUpdate mt (.map (some bd)) e.key e.val).run P w'= .ok () {w' with heap:=w'.heap.setIfInBounds bd (.map ents' ck')}∧J (vis++ [e]) ents' ck')->
  Calls P f #[.map (some bd),.map (some bs)] w λe w'=>e= .returned (.tuple #[])∧∃vis ents ck,J vis ents ck∧(∀e∈entsS.toList,e.born∈vis.map (·.born))∧Proofs.EngCopy.Inv bd bs entsS cs w w' vis ents ck
theorem F2.snoc {α β:Type} {R:α->β->Prop} {l:List α} {m:List β} {a:α} {b:β} (h:F2 R l m) (h1:R a b):F2 R (l++ [a]) (m++ [b]):=F2.append (.cons h1 .nil) h
theorem F2.mem_left {α β:Type} {R:α->β->Prop}:∀ {l:List α} {m:List β},F2 R l m->∀a∈l,∃b∈m,R a b
 |_,_,.nil,_,ha=>by cases ha
 |_,_,.cons h hs,a,ha=>by
  rcases List.mem_cons.1 ha with rfl|ha
  ·exact⟨_,by simp,h⟩
  ·obtain⟨b,hb,hr⟩:=F2.mem_left hs a ha;exact⟨b,by simp[hb],hr⟩
theorem uG {α β:Type} {f:α->β} {l:List α} (h:(l.map f).Nodup):l.Nodup:=by rw[List.nodup_iff_pairwise_ne]at h⊢;rw[List.pairwise_map]at h;exact h.imp λhne e=>hne (by rw[e])
theorem copy_ok {f kt:Nat} (hF:CopyFits P f kt):FFOk P f (λ_ args s=>gN (uP s (.copy kt) args)):=by
 intro ev hev args s v s' h ρ w aq hR ha;have h:gN (gS s (.copy kt) args)= .val v s':=h;cases hs:gS s (.copy kt) args with
 |none=>rw[hs]at h;cases h
 |some r=>
 rw[hs]at h;cases h;unfold bb;rw[hF.enter];show CallsIn Fence.wide 0 P f aq.toArray w _;unfold gS at hs;split at hs
 ·rename_i QE d heq;cases hs;cases heq;cases ha with|cons Ki ha=>?_
  cases ha with|cons Fy ha=>?_
  cases ha;cases Ki;cases Fy;refine CallsIn.mono (callsIn_wide.2 (hF.nil _ w)) ?_;rintro e w' ⟨rfl,rfl⟩;obtain⟨g1,g2⟩:=hR.grow (w':=w.alloc (.mapIter none 0 #[] 0)) (by simp) (λb hb=>RowKit.Below.heap_alloc w _ b hb) rfl rfl rfl;exact⟨_,rfl,ρ,.tuple .nil,g1,g2⟩
 ·rename_i QE d rr heq;cases heq;replace hs:=bh hs;obtain⟨ly,hs⟩:=hs;replace hs:=bj hs;obtain⟨Tw,es,SR,hbs,hs⟩:=hs;replace hs:=ae hs;obtain⟨nD,hs⟩:=hs;replace hs:=bj hs;obtain⟨Tx,bc,ck,hbd,hs⟩:=hs;replace hs:=ae hs;obtain⟨yD,hs⟩:=hs;replace hs:=U hs;obtain⟨fk,Pz,hs⟩:=hs;rw[ak]at hs;replace hs:=U hs;obtain⟨s1,gE,hs⟩:=hs;cases hs;have nD:=(Nat.eq_of_beq_eq_true nD).symm;have yD:=(Nat.eq_of_beq_eq_true yD).symm;subst nD;subst yD;cases ha with|cons Ki ha=>?_
  cases ha with|cons Fy ha=>?_
  cases ha;cases Ki with| @map _ x hx=>?_
  cases Fy with| @map _ y hy=>?_
  have hne:d≠rr:= λe=>by rw[e]at ly;rw[Nat.beq_refl]at ly;cases ly
  obtain⟨OY,entsD,QG,Fk,PA⟩:=hR.blk _ _ x hbd hx;obtain⟨IG,entsS,SS,Fb,Lh⟩:=hR.blk _ _ y hbs hy;have GJ:x.b≠y.b:= λe=>by have:=(hR.aX d rr _ _ x y hne hbd hbs hx hy e).1;cases this
  obtain⟨mt,et,SU,Mh⟩:=hF.walk;have PB:=Fb.nodup;have Gd:(es.map (·.1)).Nodup:=Fb.choose_spec.2.2;have PC:(bc.map (·.1)).Nodup:=Fk.choose_spec.2.2;have Li:∀p∈es,∀q∈es,p.1=q.1->p=q:= λp hp q hq e=>by
   obtain⟨a1,a2,rfl⟩:=List.append_of_mem hp;rw[List.map_append,List.map_cons,List.nodup_append]at Gd;rcases List.mem_append.1 hq with hq|hq
   ·exact(Gd.2.2 q.1 (List.mem_map.2 ⟨q,hq,rfl⟩) p.1 (by simp) e.symm).elim
   ·rcases List.mem_cons.1 hq with rfl|hq
    ·rfl
    ·exact((List.nodup_cons.1 Gd.2.1).1 (by rw[e];exact List.mem_map.2 ⟨q,hq,rfl⟩)).elim
  have hc:=Mh (λvis ents GP=>∃vs:List jA,F2 (bJ P ρ kt) vs vis∧(∀p∈vs,p∈es)∧(vs.map (·.1)).Nodup∧aW P ρ kt (vs.foldl gR bc) ents∧Borns GP ents∧GP+bc.length=ck+(vs.foldl gR bc).length)
   x.b y.b entsD entsS ck SR w QG SS GJ Lh ⟨[],.nil,λp hp=>(by cases hp),.nil,Fk,PA,rfl⟩ (by
    rintro vis e ents GP w' ⟨vs,v1,v2,v3,v4,v5,v6⟩ he Lj SV;obtain⟨l0,M4,HP,_⟩:=Fb;obtain⟨p,hp,wS⟩:=F2.bZ HP e (M4.mem_iff.2 he);obtain⟨ents',ck',q1,q2,q3,q4⟩:=oG (P:=P) (n:=p.2.2) SU v4 v5 SV wS.2.1 wS.2.2.2.1;rw[<-wS.1];refine⟨ents',ck',q1,vs++ [p],v1.snoc wS,λq hq=>?_,?_,?_,q3,?_⟩
    ·rcases List.mem_append.1 hq with hq|hq
     ·exact v2 q hq
     ·simp at hq;subst hq;exact hp
    ·rw[List.map_append,List.nodup_append];refine⟨v3,by simp,λa ha b hb Fs=>?_⟩;simp at hb;subst hb;obtain⟨q,hq,rfl⟩:=List.mem_map.1 ha;have:=Li q (v2 q hq) p hp Fs;subst this;obtain⟨e1,AG,Oj⟩:=F2.mem_left v1 q hq;have JO:=PB;have JN:e1=e:=by
      have hk:e1.key=e.key:=by rw[<-Oj.1,wS.1]
      obtain⟨a1,a2,ha⟩:=List.append_of_mem he;have Lk:=(Lj e1 AG).1;rw[ha]at JO Lk;rw[List.map_append,List.map_cons,List.nodup_append]at JO;rcases List.mem_append.1 Lk with h|h
      ·exact(JO.2.2 e1.key (List.mem_map.2 ⟨e1,h,rfl⟩) e.key (by simp) hk).elim
      ·rcases List.mem_cons.1 h with h|h
       ·exact h
       ·exact((List.nodup_cons.1 JO.2.1).1 (by rw[<-hk];exact List.mem_map.2 ⟨e1,h,rfl⟩)).elim
     exact(Lj e1 AG).2 (by rw[JN])
    ·rw[List.foldl_append];exact q2
    ·rw[List.foldl_append];show ck'+bc.length=ck+(gR (vs.foldl gR bc) p).length;have Ty:ck'+(vs.foldl gR bc).length=GP+(gR (vs.foldl gR bc) p).length:=q4;omega)
  refine CallsIn.mono (callsIn_wide.2 hc) ?_;rintro e w' ⟨rfl,vis,ents,GP,⟨vs,v1,v2,v3,v4,v5,v6⟩,hall,hI⟩;have xy:vs.Perm es:=by
   refine(List.perm_ext_iff_of_nodup (uG v3) (uG Gd)).2 λp=>⟨v2 p,λhp=>?_⟩
   obtain⟨l0,M4,HP,_⟩:=Fb;obtain⟨e1,AG,wS⟩:=F2.mem_left HP p hp;obtain⟨e2,Ms,Fm⟩:=List.mem_map.1 (hall e1 (M4.mem_iff.1 AG));have:e2=e1:=by
    have Ll:=hI.mem e2 Ms;obtain⟨a1,a2,ha⟩:=List.append_of_mem (M4.mem_iff.1 AG);have wZ:=Lh.1;rw[ha]at wZ Ll;rw[List.map_append,List.map_cons,List.nodup_append]at wZ;rcases List.mem_append.1 Ll with h|h
    ·exact(wZ.2.2 e2.born (List.mem_map.2 ⟨e2,h,rfl⟩) e1.born (by simp) Fm).elim
    ·rcases List.mem_cons.1 h with h|h
     ·exact h
     ·exact((List.nodup_cons.1 wZ.2.1).1 (by rw[<-Fm];exact List.mem_map.2 ⟨e2,h,rfl⟩)).elim
   subst this;obtain⟨q,hq,Oj⟩:=F2.bZ v1 e2 Ms;have:=Li q (v2 q hq) p hp (by rw[Oj.1,wS.1]);rw[<-this];exact hq
  have Kx:vs.Pairwise (λp q=>p.1≠q.1):=by have:=v3;rw[List.nodup_iff_pairwise_ne,List.pairwise_map]at this;exact this
  have hes:=rZ PC Pz;have hP:=sw xy Kx bc bc (.refl _);rw[<-hes]at hP;have IC:=v4.perm hP;have hlen:=hP.length_eq;have hle:=lu vs bc;have yX:ck+((len fk).sub (len bc))=GP:=by rw[aZ,aZ];show ck+(fk.length-bc.length)=GP;omega
  have Fq:x.b<w'.heap.size:=by rw[hI.size];omega
  generalize Jz:({w' with heap:=w'.heap.setIfInBounds x.b (.map entsD ck)}:World)=w1;have Mi:∀b,b<w.heap.size->w1.heap[b]? =w.heap[b]?:= λb hb=>by
   rw[<-Jz];by_cases ir:b=x.b
   ·subst ir;simp[Fq,QG]
   ·simp only;rw[Array.getElem?_setIfInBounds_ne (Ne.symm ir)];exact hI.rest b hb ir
  have CU:w1.heap.size=w'.heap.size:=by rw[<-Jz];simp
  have sL:w1.tape=w.tape∧w1.os=w.os∧w1.output=w.output:=by rw[<-Jz];exact⟨hI.tape,hI.os,hI.out⟩
  obtain⟨g1,g2⟩:=hR.grow (w':=w1) (by rw[CU,hI.size];omega) Mi sL.1 sL.2.1 sL.2.2;have hw:=Rel.write (P:=P) (w':=w') g1 gE hbd rfl hx CU.symm (λb hb=>by
   rw[<-Jz];simp only;rw[Array.getElem?_setIfInBounds_ne (Ne.symm hb)]) (by rw[sL.1];exact hI.tape) (by rw[sL.2.1];exact hI.os) (by rw[sL.2.2];exact hI.out) ⟨ents,by show w'.heap[x.b]? =some (.map ents (ck+((len fk).sub (len bc))));rw[yX];exact hI.dst,IC,by rw[show Nat.add ck ((len fk).sub (len bc))=GP from yX];exact v5⟩
  exact⟨_,rfl,ρ,.tuple .nil,hw.1,g2.trans hw.2⟩
 ·rename_i he;cases he
 ·rename_i he;cases he
 ·rename_i he;cases he
 ·cases hs
end Go.Eng
namespace Go.Eng
open Go
variable {P:Program}
theorem pD {f:Nat} {e:Ext}:∀ {l:List (Nat×Ext)},pU f l=some e->(f,e)∈l
 | [],h=>by cases h
 |p::l,h=>by
  have h:ab (Nat.beq f p.1) (some p.2) (pU f l)=some e:=h;rw[ai]at h;split at h
  ·rename_i hb;cases h;rw[Nat.eq_of_beq_eq_true hb];exact List.mem_cons_self ..
  ·exact List.mem_cons_of_mem _ (pD h)
theorem pE {f:Nat} {e:Sum}:∀ {l:List (Nat×Sum)},pT f l=some e->(f,e)∈l
 | [],h=>by cases h
 |p::l,h=>by
  have h:ab (Nat.beq f p.1) (some p.2) (pT f l)=some e:=h;rw[ai]at h;split at h
  ·rename_i hb;cases h;rw[Nat.eq_of_beq_eq_true hb];exact List.mem_cons_self ..
  ·exact List.mem_cons_of_mem _ (pE h)
theorem alt_ok {f:Nat} {a b:Sum} (ha:FFOk P f (λ_ args s=>gN (gS s a args))) (hb:FFOk P f (λ_ args s=>gN (uP s b args))):FFOk P f (λ_ args s=>gN (uP s (.alt a b) args)):=by
 intro ev hev args s v s' h ρ w aq hR hl;have h:gN (PV (gS s a args) (uP s b args))= .val v s':=h;cases e:gS s a args with
 |none=>rw[e]at h;exact hb ev hev args s v s' h ρ w aq hR hl
 |some p=>rw[e]at h;exact ha ev hev args s v s' (by show gN (gS s a args)=_;rw[e];exact h) ρ w aq hR hl
noncomputable def zw (n:String) (l:List Func):Bool:=List.rec (motive:= λ_=>Bool) true (λf _ ih=>Bool.rec (motive:= λ_=>Bool) ih false (decide (f.name=n))) l
theorem sa {n:String}:∀ {l:List Func},zw n l=true->∀f∈l,f.name≠n
 | [],_,f,hf=>by cases hf
 |g::l,h,f,hf=>by
  have h:Bool.rec (motive:= λ_=>Bool) (zw n l) false (decide (g.name=n))=true:=h;by_cases hg:g.name=n
  ·rw[decide_eq_true hg]at h;cases h
  ·rw[decide_eq_false hg]at h;rcases List.mem_cons.1 hf with rfl|hf
   ·exact hg
   ·exact sa h f hf
theorem plainly_of (h:zw "runtime.NumGoroutine" P.funcs.toList=true):Plainly P:= λf fn hf=>by
 have:fn∈P.funcs.toList:=by have:=Array.mem_of_getElem? hf;simpa using this
 have:=sa h fn this;simpa using this
theorem cfg_ok {X:Cfg} (h1:Plainly P) (h2:P.follows .mixedOrders=true) (h3:∀p∈X.ext,ExtFits P p.1 p.2) (h4:∀p∈X.sum,FFOk P p.1 (As p.2)) (h5:∀e∈X.tab,EntryOk P e):CfgOk P X:=
 ⟨h1,h2,λf e h=>h3 (f,e) (pD h),h5,λf e h=>h4 (f,e) (pE h)⟩
noncomputable def PD (v:Value) (o:Out):Bool:=Out.rec (motive:= λ_=>Bool) false (λ_ _ _=>false) (λu _=>ku 12 v u) o
noncomputable def Mj (x:Option Blk) (fuel:Nat):Nat->T Blk->T Blk:=
 Nat.rec (motive:= λ_=>Nat->T Blk->T Blk) (λ_ t=>t) (λ_ ih k t=>
  T.rec (motive:= λ_=>T Blk)
   (Nat.rec (motive:= λ_=>T Blk) (.n x .e .e) (λm _=>ab (Nat.beq (Nat.mod m 2) 0) (.n none (ih (Nat.div m 2) .e) .e) (.n none .e (ih (Nat.div m 2) .e))) k)
   (λv l r _ _=>Nat.rec (motive:= λ_=>T Blk) (.n x l r) (λm _=>ab (Nat.beq (Nat.mod m 2) 0) (.n v (ih (Nat.div m 2) l) r) (.n v l (ih (Nat.div m 2) r))) k) t) fuel
noncomputable def mkHO (l:List (Nat×Option Blk)):T Blk:=List.rec (motive:= λ_=>T Blk) .e (λp _ ih=>Mj p.2 64 p.1 ih) l
noncomputable def bK (r:List Value) (sz et:Nat):Blk:= .cells (.n (some r) .e .e) sz 1 false et
noncomputable def PE (l:List (List Value)):List (List Value)->List (List Value):=List.rec (motive:= λ_=>List (List Value)->List (List Value)) (λa=>a) (λx _ ih a=>ih (x::a)) l
noncomputable def Hq (l:List (List Value)):T (List Value):=Option.rec (motive:= λ_=>T (List Value)) .e (λt=>t) (uL l 0 .e)
noncomputable def bQ (l:List (List Value)) (sz n et:Nat):Blk:= .cells (Hq (PE l [])) sz n false et
noncomputable def zz (k:Nat):Value:= .int .i64 (ab (Nat.beq (Nat.mod k 2) 0) (.ofNat (Nat.div k 2)) (.negSucc (Nat.div k 2)))
noncomputable def Mk (l:List Nat):List (List Value):=List.rec (motive:= λ_=>List (List Value)) [] (λk _ ih=> [zz k]::ih) l
noncomputable def bI (l:List Nat) (n et:Nat):Blk:= .cells (Hq (Mk l)) 1 n false et
noncomputable def bytesN (l:Nat):Nat->List UInt8->List UInt8:=
 Nat.rec (motive:= λ_=>Nat->List UInt8->List UInt8) (λ_ a=>a) (λ_ ih n a=>Nat.rec (motive:= λ_=>List UInt8) (ih 0 (UInt8.ofNat (Nat.mod n 256)::a)) (λm _=>ih (Nat.succ m) (UInt8.ofNat (Nat.mod n 256)::a)) (Nat.div n 256)) l
end Go.Eng
namespace Go.Eng
open Go
noncomputable def mh (r:Value->Option Value) (t:T (List Value)):Option (T (List Value)):=
 T.rec (motive:= λ_=>Option (T (List Value))) (some .e) (λv _ _ iq lv=>ob iq λl=>ob lv λr'=>Option.rec (motive:= λ_=>Option (T (List Value))) (some (.n none l r')) (λc=>ob (bW r c) λc'=>some (.n (some c') l r')) v) t
noncomputable def sW (r:Value->Option Value) (b:Blk):Option Blk:=
 match b with
 | .cells c sz n false et=>ob (mh r c) λc'=>ar sz λiX=>ar n λn'=>ar et λtz=>some (.cells c' iX n' false tz)
 |_=>none
noncomputable def PF (b:Nat) (l:List Nat):Option (List Nat):=
 List.rec (motive:= λ_=>Option (List Nat)) (ar b λb=>some [b]) (λx t ih=>ab (Nat.beq x b) (some (x::t)) (ob ih λr=>some (x::r))) l
noncomputable def IY (k b:Nat) (l:List Nat):Option (List Nat):=ab (Nat.blt b k) (some l) (PF b l)
noncomputable def uV (f:Value->List Nat->Option (List Nat)) (vs:List Value):List Nat->Option (List Nat):=
 List.rec (motive:= λ_=>List Nat->Option (List Nat)) (λl=>some l) (λv _ ih l=>ob (f v l) ih) vs
noncomputable def sX (k n:Nat):Value->List Nat->Option (List Nat):=
 Nat.rec (motive:= λ_=>Value->List Nat->Option (List Nat)) (λ_ _=>none) (λ_ ih v l=>match v with
  | .pointer (some a)=>IY k a.block l
  | .slice (some a) _ _=>IY k a.block l
  | .map (some b)=>IY k b l
  | .func _ a b=>ob (uV ih a.toList l) λl=>uV ih b.toList l
  | .iface _ x=>ih x l
  | .agg a=>uV ih a.toList l
  | .tuple a=>uV ih a.toList l
  |_=>some l) n
noncomputable def Lm (k n:Nat) (t:T (List Value)):List Nat->Option (List Nat):=
 T.rec (motive:= λ_=>List Nat->Option (List Nat)) (λl=>some l) (λv _ _ iq lv l=>ob (Option.rec (motive:= λ_=>Option (List Nat)) (some l) (λc=>uV (sX k n) c l) v) λl=>ob (iq l) lv) t
noncomputable def PG (k n:Nat) (b:Blk) (l:List Nat):Option (List Nat):=match b with| .cells c _ _ false _=>Lm k n c l|_=>none
noncomputable def C7 (i:Nat):List Nat->Option Nat:=
 Nat.rec (motive:= λ_=>List Nat->Option Nat) (λl=>List.rec (motive:= λ_=>Option Nat) none (λx _ _=>some x) l)
  (λ_ ih l=>List.rec (motive:= λ_=>Option Nat) none (λ_ t _=>ih t) l) i
noncomputable def vB (h:T Blk) (k n:Nat) (fuel:Nat):Nat->List Nat->Option (List Nat):=
 Nat.rec (motive:= λ_=>Nat->List Nat->Option (List Nat)) (λ_ _=>none) (λ_ ih i l=>
  Option.rec (motive:= λ_=>Option (List Nat)) (some l)
   (λb=>ob (Option.rec (motive:= λ_=>Option (List Nat)) (some l) (λx=>PG k n x l) (h.get b)) λl=>ih (Nat.succ i) l) (C7 i l)) fuel
noncomputable def gQ (l:List Nat) (a:Nat):Nat->Option Nat:=
 List.rec (motive:= λ_=>Nat->Option Nat) (λ_=>none) (λx _ ih i=>ab (Nat.beq x a) (ar i λi=>some i) (ih (Nat.succ i))) l
noncomputable def dQ (l m:List Nat) (k nx:Nat) (j:Nat):Option Nat:=ab (Nat.blt j k) (ob (C7 j l) λa=>ar a λa=>some a) (gQ m j nx)
noncomputable def uW (r:Value->Option Value) (h:T Blk) (l:List Nat):Nat->T Blk->Option (T Blk):=
 List.rec (motive:= λ_=>Nat->T Blk->Option (T Blk)) (λ_ t=>some t) (λa _ ih i t=>Option.rec (motive:= λ_=>Option (T Blk)) (ob (T.put none t i) λt'=>ih (Nat.succ i) t') (λb=>ob (sW r b) λb'=>ob (T.put (some b') t i) λt'=>ih (Nat.succ i) t') (h.get a)) l
noncomputable def wa (s:AS) (l:List Nat) (k:Nat) (o:Out):Out:=
 Out.rec (motive:= λ_=>Out) .no (λ_ _ _=> .no) (λv s'=>
  gN (ob (ob (sX k 12 v []) λm=>vB s'.h k 12 200 0 m) λm=>ab (ab (bE m) (ml k m) false)
   (ob (aV (dQ l m k s.nx) 12 v) λv'=>ob (uW (aV (dQ l m k s.nx) 12) s'.h m s.nx s.h) λh=>ar (Nat.add s.nx (len m)) λnx=>ar s.ao λlm=>some (v',⟨h,nx,lm⟩)) none)) o
noncomputable def mM (B:Ev) (f:Nat) (args:List Value) (s:AS):Out:=
 Option.rec (motive:= λ_=>Out) .no (λl=>
  ab (ab (bE l) (oK s.nx l) false)
   (Option.rec (motive:= λ_=>Out) .no (λaq=>
    Option.rec (motive:= λ_=>Out) .no (λh=>jF (len l) λk=>wa s l k (B (.func (.func f) #[] #[]) aq ⟨h,k,k⟩))
     (uW (aV (λa=>gQ l a 0) 12) s.h l 0 (kZ 20))) (bW (aV (λa=>gQ l a 0) 12) args)) .no)
  (ob (uV (sX 0 12) args []) λl=>vB s.h 0 12 200 0 l)
noncomputable def AD (a b:Out):Out:=Out.rec (motive:= λ_=>Out) b (λ_ _ _=>b) (λv s=> .val v s) a
noncomputable def AE (B:Ev) (f:Nat) (F:FF):FF:= λev args s=>AD (mM B f args s) (F ev args s)
noncomputable def ji (f:Nat) (l:List (Nat×Ev)):Option Ev:=List.rec (motive:= λ_=>Option Ev) none (λp _ ih=>ab (Nat.beq f p.1) (some p.2) ih) l
noncomputable def Hr (P:Program) (X:Cfg) (L:List (Nat×Ev)) (f:Nat):Option FF:=
 ob (mkFn P X f) λF=>Option.rec (motive:= λ_=>Option FF) (some F) (λB=>some (AE B f F)) (ji f L)
noncomputable def lstB (l:List Nat) (B:Ev) (r:List (Nat×Ev)):List (Nat×Ev):=List.rec (motive:= λ_=>List (Nat×Ev)) r (λf _ ih=>(f,B)::ih) l
noncomputable def sY (r:Value->Option Value) (es:List an):Option (List an):=
 List.rec (motive:= λ_=>Option (List an)) (some []) (λe _ ih=>ob (r e.2.1) λv=>ob ih λl=>some ((e.1,v,e.2.2)::l)) es
noncomputable def eo (r:Value->Option Value) (b:Blk):Option Blk:=
 match b with
 | .cells c sz n false et=>ob (mh r c) λc'=>ar sz λiX=>ar n λn'=>ar et λtz=>some (.cells c' iX n' false tz)
 | .map kt es ck=>ob (sY r es) λbc=>ar kt λsK=>ar ck λck'=>some (.map sK bc ck')
 |_=>none
noncomputable def PH (k n:Nat) (es:List an):List Nat->Option (List Nat):=
 List.rec (motive:= λ_=>List Nat->Option (List Nat)) (λl=>some l) (λe _ ih l=>ob (sX k n e.2.1 l) ih) es
noncomputable def Ht (k n:Nat) (b:Blk) (l:List Nat):Option (List Nat):=match b with| .cells c _ _ false _=>Lm k n c l| .map _ es _=>PH k n es l|_=>none
noncomputable def vC (h:T Blk) (k n:Nat) (fuel:Nat):Nat->List Nat->Option (List Nat):=
 Nat.rec (motive:= λ_=>Nat->List Nat->Option (List Nat)) (λ_ _=>none) (λ_ ih i l=>
  Option.rec (motive:= λ_=>Option (List Nat)) (some l)
   (λb=>ob (Option.rec (motive:= λ_=>Option (List Nat)) (some l) (λx=>Ht k n x l) (h.get b)) λl=>ih (Nat.succ i) l) (C7 i l)) fuel
noncomputable def Ln (h:T Blk) (k n:Nat) (j:Nat):List Nat->Option (List Nat):=
 Nat.rec (motive:= λ_=>List Nat->Option (List Nat)) (λl=>some l) (λj ih l=>ob (Option.rec (motive:= λ_=>Option (List Nat)) (some l) (λx=>Ht k n x l) (h.get j)) ih) j
noncomputable def uX (r:Value->Option Value) (h:T Blk) (l:List Nat):Nat->T Blk->Option (T Blk):=
 List.rec (motive:= λ_=>Nat->T Blk->Option (T Blk)) (λ_ t=>some t) (λa _ ih i t=>Option.rec (motive:= λ_=>Option (T Blk)) (ob (T.put none t i) λt'=>ih (Nat.succ i) t') (λb=>ob (eo r b) λb'=>ob (T.put (some b') t i) λt'=>ih (Nat.succ i) t') (h.get a)) l
noncomputable def tU (r:Value->Option Value) (h:T Blk) (l:List Nat):Nat->T Blk->Option (T Blk):=
 List.rec (motive:= λ_=>Nat->T Blk->Option (T Blk)) (λ_ t=>some t) (λa _ ih i t=>Option.rec (motive:= λ_=>Option (T Blk)) (ob (T.put none t a) λt'=>ih (Nat.succ i) t') (λb=>ob (eo r b) λb'=>ob (T.put (some b') t a) λt'=>ih (Nat.succ i) t') (h.get i)) l
noncomputable def y5 (n:Nat) (l:List Nat):List Nat:=List.rec (motive:= λ_=>List Nat) [] (λx _ ih=>ab (Nat.blt x n) (x::ih) ih) l
noncomputable def AJ (n:Nat) (l:List Nat):List Nat:=List.rec (motive:= λ_=>List Nat) [] (λx _ ih=>ab (Nat.blt x n) ih (x::ih)) l
noncomputable def qZ (s:AS) (_ l2 l:List Nat) (k1 k:Nat) (o:Out):Out:=
 Out.rec (motive:= λ_=>Out) .no (λ_ _ _=> .no) (λv s'=>
  gN (ob (ob (sX k 12 v []) λm=>ob (Ln s'.h k 12 k m) λm=>vC s'.h k 12 400 0 m) λm=>ab (ab (bE m) (ml k m) false)
   (ob (aV (dQ l m k s.nx) 12 v) λv'=>ob (tU (aV (dQ l m k s.nx) 12) s'.h l2 k1 s.h) λh0=>ob (uX (aV (dQ l m k s.nx) 12) s'.h m s.nx h0) λh=>ar (Nat.add s.nx (len m)) λnx=>ar s.ao λlm=>some (v',⟨h,nx,lm⟩)) none)) o
noncomputable def jV (B:Ev) (f:Nat) (args:List Value) (s:AS):Out:=
 Option.rec (motive:= λ_=>Out) .no (λl0=>(λl1 l2=>(λl=>
  ab (ab (bE l) (oK s.nx l) false)
   (Option.rec (motive:= λ_=>Out) .no (λaq=>
    Option.rec (motive:= λ_=>Out) .no (λh=>jF (len l) λk=>jF (len l1) λk1=>qZ s l1 l2 l k1 k (B (.func (.func f) #[] #[]) aq ⟨h,k,k1⟩))
     (uX (aV (λa=>gQ l a 0) 12) s.h l 0 (kZ 20))) (bW (aV (λa=>gQ l a 0) 12) args)) .no) (app l1 l2)) (y5 s.ao l0) (AJ s.ao l0))
  (ob (uV (sX 0 12) args []) λl=>vC s.h 0 12 400 0 l)
noncomputable def isoWFF (B:Ev) (f:Nat) (F:FF):FF:= λev args s=>AD (jV B f args s) (F ev args s)
end Go.Eng
namespace Go.Eng
open Go
variable {P:Program}
theorem q6 {r q:Value->Option Value} (hr:∀v v',r v=some v'->q v'=some v):∀ {l l':List Value},bW r l=some l'->bW q l'=some l
 | [],l',h=>by cases h;rfl
 |v::l,l',h=>by have h:ob (r v) (λv'=>ob (bW r l) λl'=>some (v'::l'))=some l':=h;replace h:=U h;obtain⟨v1,h1,h⟩:=h;replace h:=U h;obtain⟨l1,h2,h⟩:=h;cases h;show ob (q v1) (λv'=>ob (bW q l1) λl'=>some (v'::l'))=_;rw[hr _ _ h1,q6 hr h2];rfl
theorem m9 {φ ψ:Nat->Option Nat} (h:∀a b,φ a=some b->ψ b=some a):∀(n:Nat) (v v':Value),aV φ n v=some v'->aV ψ n v'=some v
 |0,v,v',hv=>by cases hv
 |n+1,v,v',hv=>by
  have iq:∀ {l l':List Value},bW (aV φ n) l=some l'->bW (aV ψ n) l'=some l:= λh1=>q6 (λv v'=>m9 h n v v') h1;cases v with
  |bool b=>cases b<;>(cases hv;rfl)
  |int k m=>have hv:gM k m=some v':=hv;rw[di]at hv;cases hv;exact di k m
  |float=>cases hv
  |complex k a b=>cases hv;rfl
  |string s=>cases hv;rfl
  |pointer p=>
   cases p with
   |none=>cases hv;rfl
   |some p=>
    obtain⟨b,o,sp⟩:=p;cases sp with
    |some _=>cases hv
    |none=>have hv:(ob (φ b) λb'=>ar o λo'=>some (.pointer (some ⟨b',o',none⟩)))=some v':=hv;obtain⟨b',h1,hv⟩:=U hv;rw[ak]at hv;cases hv;show(ob (ψ b') λb'=>ar o λo'=>some (Value.pointer (some ⟨b',o',none⟩)))=_;rw[h _ _ h1];show(ar o λo'=>some (Value.pointer (some ⟨b,o',none⟩)))=_;rw[ak]
  |slice p m c=>
   cases p with
   |none=>
    cases m with
    |succ m=>cases hv
    |zero=>
     cases c with
     |succ c=>cases hv
     |zero=>cases hv;rfl
   |some p=>
    obtain⟨b,o,sp⟩:=p;cases sp with
    |some _=>cases hv
    |none=>have hv:(ob (φ b) λb'=>ar o λo'=>ar m λm'=>ar c λc'=>some (.slice (some ⟨b',o',none⟩) m' c'))=some v':=hv;obtain⟨b',h1,hv⟩:=U hv;simp only[ak]at hv;cases hv;show(ob (ψ b') λb'=>ar o λo'=>ar m λm'=>ar c λc'=>some (Value.slice (some ⟨b',o',none⟩) m' c'))=_;rw[h _ _ h1];show(ar o λo'=>ar m λm'=>ar c λc'=>some (Value.slice (some ⟨b,o',none⟩) m' c'))=_;simp only[ak]
  |map p=>
   cases p with
   |none=>cases hv;rfl
   |some b=>have hv:(ob (φ b) λb'=>some (.map (some b')))=some v':=hv;obtain⟨b',h1,hv⟩:=U hv;cases hv;show(ob (ψ b') λb'=>some (Value.map (some b')))=_;rw[h _ _ h1];rfl
  |chan=>cases hv
  |func f a b=>
   cases f with
   |func f=>have hv:(ob (bW (aV φ n) a.toList) λa'=>ob (bW (aV φ n) b.toList) λb'=>some (.func (.func f) ⟨a'⟩ ⟨b'⟩))=some v':=hv;obtain⟨a1,h1,hv⟩:=U hv;obtain⟨b1,h2,hv⟩:=U hv;cases hv;show(ob (bW (aV ψ n) a1) λa'=>ob (bW (aV ψ n) b1) λb'=>some (Value.func (.func f) ⟨a'⟩ ⟨b'⟩))=_;rw[iq h1,iq h2];rfl
   |_=>cases hv
  |nilFunc=>cases hv;rfl
  |nilIface=>cases hv;rfl
  |iface t x=>have hv:(ob (aV φ n x) λx'=>some (.iface t x'))=some v':=hv;obtain⟨x1,h1,hv⟩:=U hv;cases hv;show(ob (aV ψ n x1) λx'=>some (Value.iface t x'))=_;rw[m9 h n _ _ h1];rfl
  |agg a=>have hv:(ob (bW (aV φ n) a.toList) λa'=>some (.agg ⟨a'⟩))=some v':=hv;obtain⟨a1,h1,hv⟩:=U hv;cases hv;show(ob (bW (aV ψ n) a1) λa'=>some (Value.agg ⟨a'⟩))=_;rw[iq h1];rfl
  |tuple a=>have hv:(ob (bW (aV φ n) a.toList) λa'=>some (.tuple ⟨a'⟩))=some v':=hv;obtain⟨a1,h1,hv⟩:=U hv;cases hv;show(ob (bW (aV ψ n) a1) λa'=>some (Value.tuple ⟨a'⟩))=_;rw[iq h1];rfl
theorem jW {r:Value->Option Value}:∀ {t t':T (List Value)},mh r t=some t'->∀i,(t.get i=none∧t'.get i=none)∨∃l l',t.get i=some l∧t'.get i=some l'∧bW r l=some l'
 | .e,t',h,i=>by have h:some T.e=some t':=h;cases h;exact .inl ⟨T.get_e i,T.get_e i⟩
 | .n v l r0,t',h,i=>by
  have h:(ob (mh r l) λl=>ob (mh r r0) λr'=>Option.rec (motive:= λ_=>Option (T (List Value))) (some (.n none l r')) (λc=>ob (bW r c) λc'=>some (.n (some c') l r')) v)=some t':=h;replace h:=U h;obtain⟨l1,h1,h⟩:=h;replace h:=U h;obtain⟨r1,h2,h⟩:=h;cases v with
  |none=>
   have h:some (T.n none l1 r1)=some t':=h;cases h;rcases aA i with rfl|⟨m,rfl⟩|⟨m,rfl⟩
   ·exact .inl ⟨T.bp ..,T.bp ..⟩
   ·rw[T.aH,T.aH];exact jW h1 m
   ·rw[T.ay,T.ay];exact jW h2 m
  |some c=>
   have h:(ob (bW r c) λc'=>some (T.n (some c') l1 r1))=some t':=h;replace h:=U h;obtain⟨c1,h3,h⟩:=h;cases h;rcases aA i with rfl|⟨m,rfl⟩|⟨m,rfl⟩
   ·exact .inr ⟨c,c1,T.bp ..,T.bp ..,h3⟩
   ·rw[T.aH,T.aH];exact jW h1 m
   ·rw[T.ay,T.ay];exact jW h2 m
theorem q7 {bf du:Ren} {φ:Nat->Option Nat} {n:Nat} (h:∀a b x,φ a=some b->bf a=some x->du b=some x) {k k':Blk} {x:Loc} {w:World} (hk:sW (aV φ n) k=some k') (hb:bX P bf x w k):bX P du x w k':=by
 unfold sW at hk;split at hk
 ·rename_i c sz m et;replace hk:=U hk;obtain⟨c',hc,hk⟩:=hk;simp only[ak]at hk;cases hk;refine⟨λi l' e=>?_,hb.all,hb.free,hb.shape,hb.mult⟩;rcases jW hc i with ⟨_,e2⟩|⟨l,l1,e1,e2,hl⟩
  ·rw[e2]at e;cases e
  ·rw[e2]at e;cases e;obtain⟨q1,q2,q3⟩:=hb.cell i l e1;obtain⟨r1,r2⟩:=qQ hl;refine⟨q1,by rw[r1];exact q2,λj v' hj=>?_⟩;obtain⟨v,hv,hr⟩:=r2 j v' hj;obtain⟨u,hu,J5⟩:=q3 j v hv;exact⟨u,hu,cZ h n _ _ _ hr J5⟩
 ·cases hk
theorem p8:∀(i:Nat) (l:List Nat),C7 i l=l[i]?
 |0,[]=>rfl
 |0,_::_=>rfl
 |i+1,[]=>rfl
 |i+1,_::t=>by show C7 i t=_;rw[p8 i t];simp
theorem iS:∀ {l:List Nat} {a i j:Nat},gQ l a i=some j->∃q,j=i+q∧l[q]? =some a
 | [],a,i,j,h=>by cases h
 |x::t,a,i,j,h=>by
  have h:ab (Nat.beq x a) (ar i λi=>some i) (gQ t a (Nat.succ i))=some j:=h;rw[ai]at h;split at h
  ·rename_i hb;rw[ak]at h;cases h;exact⟨0,rfl,by simp[Nat.eq_of_beq_eq_true hb]⟩
  ·obtain⟨q,h1,h2⟩:=iS h;exact⟨q+1,by omega,by simpa using h2⟩
theorem q8 {r:Value->Option Value} {h:T Blk}:∀ {l:List Nat} {i:Nat} {t t':T Blk},uW r h l i t=some t'->∀j,
  (j<i->t'.get j=t.get j)∧(i+l.length<=j->t'.get j=t.get j)∧
  (∀q a,l[q]? =some a->(h.get a=none∧t'.get (i+q)=none)∨∃b b',h.get a=some b∧sW r b=some b'∧t'.get (i+q)=some b')
 | [],i,t,t',e,j=>by cases e;exact⟨λ_=>rfl,λ_=>rfl,λq a ha=>by simp at ha⟩
 |a::l,i,t,t',e,j=>by
  have bA:∃(x:Option Blk) (t1:T Blk),T.put x t i=some t1∧uW r h l (Nat.succ i) t1=some t'∧((h.get a=none∧x=none)∨∃b b',h.get a=some b∧sW r b=some b'∧x=some b'):=by
   have e:Option.rec (motive:= λ_=>Option (T Blk)) (ob (T.put none t i) λt'=>uW r h l (Nat.succ i) t') (λb=>ob (sW r b) λb'=>ob (T.put (some b') t i) λt'=>uW r h l (Nat.succ i) t') (h.get a)=some t':=e;cases hg:h.get a with
   |none=>rw[hg]at e;replace e:=U e;obtain⟨t1,e1,e2⟩:=e;exact⟨none,t1,e1,e2,.inl ⟨rfl,rfl⟩⟩
   |some b=>rw[hg]at e;replace e:=U e;obtain⟨b',e0,e⟩:=e;replace e:=U e;obtain⟨t1,e1,e2⟩:=e;exact⟨some b',t1,e1,e2,.inr ⟨b,b',rfl,e0,rfl⟩⟩
  obtain⟨x,t1,e1,e2,hx⟩:=bA;have hg:=T.bu x t i t1 e1;have ih:= λj=>q8 e2 j;refine⟨λhj=>?_,λhj=>?_,λq a' hq=>?_⟩
  ·rw[(ih j).1 (by omega),hg,if_neg (by omega)]
  ·rw[(ih j).2.1 (by simp at hj;omega),hg,if_neg (by simp at hj;omega)]
  ·cases q with
   |zero=>
    simp at hq;subst hq;have:t'.get i=x:=by rw[(ih i).1 (by omega),hg,if_pos rfl]
    rcases hx with ⟨h1,h2⟩|⟨b,b',h1,h2,h3⟩
    ·exact .inl ⟨h1,by show t'.get (i+0)=none;rw[Nat.add_zero,this,h2]⟩
    ·exact .inr ⟨b,b',h1,h2,by show t'.get (i+0)=_;rw[Nat.add_zero,this,h3]⟩
   |succ q=>simp at hq;have:=(ih 0).2.2 q a' hq;rw[show i.succ+q=i+(q+1) by omega]at this;exact this
theorem mN {r:Value->Option Value} {k k':Blk} (h:sW r k=some k'):dZ k=false∧dZ k'=false:=by
 unfold sW at h;split at h
 ·replace h:=U h;obtain⟨c',hc,h⟩:=h;simp only[ak]at h;cases h;exact⟨rfl,rfl⟩
 ·cases h
theorem q9 {o:Option (Value×AS)} {v:Value} {s:AS} (h:gN o= .val v s):o=some (v,s):=by
 cases o with
 |none=>cases h
 |some p=>obtain⟨a,b⟩:=p;cases h;rfl
theorem jX:∀ {l:List Nat},l.Nodup->∀ {i j a:Nat},l[i]? =some a->l[j]? =some a->i=j
 | [],_,i,j,a,h,_=>by simp at h
 |x::t,hn,0,0,a,_,_=>rfl
 |x::t,hn,0,j+1,a,h1,h2=>by simp at h1 h2;subst h1;exact absurd (List.mem_of_getElem? h2) (List.nodup_cons.1 hn).1
 |x::t,hn,i+1,0,a,h1,h2=>by simp at h1 h2;subst h2;exact absurd (List.mem_of_getElem? h1) (List.nodup_cons.1 hn).1
 |x::t,hn,i+1,j+1,a,h1,h2=>by simp at h1 h2;rw[jX (List.nodup_cons.1 hn).2 h1 h2]
theorem Jl {B:Ev} (hB:EvOk P B) {f:Nat} {args aq:List Value} {s s':AS} {v:Value} (h:mM B f args s= .val v s') {ρ:Ren} {w:World} (hR:Rel P ρ s w) (ha:af ρ args aq):
  bb P (callFunc f aq.toArray) w λu w'=>∃aj,ag aj v u∧Rel P aj s' w'∧aR ρ s w aj s' w':=by
 unfold mM at h;cases hl:(ob (uV (sX 0 12) args []) λl=>vB s.h 0 12 200 0 l)with
 |none=>rw[hl]at h;cases h
 |some l=>
 rw[hl]at h;have h:ab (ab (bE l) (oK s.nx l) false) (Option.rec (motive:= λ_=>Out) .no (λaq=>
    Option.rec (motive:= λ_=>Out) .no (λh=>jF (len l) λk=>wa s l k (B (.func (.func f) #[] #[]) aq ⟨h,k,k⟩))
     (uW (aV (λa=>gQ l a 0) 12) s.h l 0 (kZ 20))) (bW (aV (λa=>gQ l a 0) 12) args)) .no= .val v s':=h
 rw[ai]at h;split at h
 case isFalse=>cases h
 rename_i hc;obtain⟨dR,hlt⟩:=ah hc;replace dR:=bo dR;replace hlt:=iO hlt;cases eh:bW (aV (λa=>gQ l a 0) 12) args with
 |none=>rw[eh]at h;cases h
 |some a1=>
 rw[eh]at h;cases qg:uW (aV (λa=>gQ l a 0) 12) s.h l 0 (kZ 20)with
 |none=>rw[qg]at h;cases h
 |some hin=>
 rw[qg]at h;have h:jF (len l) (λk=>wa s l k (B (.func (.func f) #[] #[]) a1 ⟨hin,k,k⟩))= .val v s':=h;have hfn:∀(n:Nat) (k:Nat->Out),jF n k=k n:= λn k=>by cases n<;>rfl
 rw[hfn,aZ]at h;cases ho:B (.func (.func f) #[] #[]) a1 ⟨hin,l.length,l.length⟩with
 |no=>rw[ho]at h;cases h
 |code=>rw[ho]at h;cases h
 |val v1 s1=>
 rw[ho]at h;have h:gN (ob (ob (sX l.length 12 v1 []) λm=>vB s1.h l.length 12 200 0 m) λm=>ab (ab (bE m) (ml l.length m) false)
   (ob (aV (dQ l m l.length s.nx) 12 v1) λv'=>ob (uW (aV (dQ l m l.length s.nx) 12) s1.h m s.nx s.h) λh=>ar (Nat.add s.nx (len m)) λnx=>ar s.ao λlm=>some (v',⟨h,nx,lm⟩)) none)= .val v s':=h
 replace h:=q9 h;obtain⟨m,hm,h⟩:=U h;rw[ai]at h;split at h
 case isFalse=>cases h
 rename_i J0;obtain⟨Fk,uY⟩:=ah J0;replace Fk:=bo Fk;replace uY:=ga uY;obtain⟨v2,Fy,h⟩:=U h;obtain⟨aP,DS,h⟩:=U h;rw[ak,ak,aZ]at h;cases h;have g8:= λj=>q8 qg j;have Ff:∀a j,gQ l a 0=some j->l[j]? =some a:= λa j e=>by obtain⟨q,h1,h2⟩:=iS e;rw[h1,Nat.zero_add];exact h2
 have uZ:∃bf:Ren,bf= λj=>match l[j]? with|some a=>ρ a|none=>none:=⟨_,rfl⟩
 obtain⟨bf,uZ⟩:=uZ;have ep:∀j a,l[j]? =some a->bf j=ρ a:= λj a e=>by rw[uZ];show(match l[j]? with|some a=>ρ a|none=>none)=_;rw[e]
 have DT:∀j,l.length<=j->bf j=none:= λj e=>by rw[uZ];show(match l[j]? with|some a=>ρ a|none=>none)=_;rw[List.getElem?_eq_none e]
 have C8:∀a b x,gQ l a 0=some b->ρ a=some x->bf b=some x:= λa b x e1 e2=>by rw[ep b a (Ff a b e1),e2]
 have bR:∀j k',hin.get j=some k'->j<l.length∧∃a k,l[j]? =some a∧s.h.get a=some k∧sW (aV (λa=>gQ l a 0) 12) k=some k':= λj k' e=>by
  by_cases hj:j<l.length
  ·refine⟨hj,l[j],?_⟩;rcases(g8 0).2.2 j l[j] (by simp[hj])with ⟨_,e2⟩|⟨k,k1,e1,e2,e3⟩
   ·rw[Nat.zero_add,e]at e2;cases e2
   ·rw[Nat.zero_add,e]at e3;cases e3;exact⟨k,by simp[hj],e1,e2⟩
  ·rw[(g8 j).2.1 (by omega),iR]at e;cases e
 have de:Rel P bf ⟨hin,l.length,l.length⟩ w:=by
  refine⟨λa ha=>DT a ha,λa ha=>?_,λa k x e e'=>?_,Nat.le_refl _,λa a' k k' x x' hne e1 e2 r1 r2 hb=>?_,λg gl vs g1 g2=>?_⟩
  rotate_right
  ·obtain⟨c1,c2,c3⟩:=hR.gl g gl vs g1 g2;refine⟨c1,?_,c3⟩;rintro⟨j,k,x,e,e',hb⟩;obtain⟨_,b,k0,q1,q2,_⟩:=bR j k e;rw[ep j b q1]at e';exact c2 ⟨b,k0,x,q2,e',hb⟩
  ·cases e:hin.get a with
   |none=>rfl
   |some k=>have:=(bR a k e).1;have ha:l.length<=a:=ha;omega
  ·obtain⟨hj,b,k0,q1,q2,q3⟩:=bR a k e;rw[ep a b q1]at e';obtain⟨b1,b2⟩:=hR.blk b k0 x q2 e';exact⟨b1,q7 C8 q3 b2⟩
  ·obtain⟨_,b,k0,q1,q2,q3⟩:=bR a k e1;obtain⟨_,b',FE,AK,KL,M5⟩:=bR a' k' e2;rw[ep a b q1]at r1;rw[ep a' b' AK]at r2;have cK:b≠b':= λhe=>by
    subst he;exact hne (jX dR q1 AK)
   have:=(hR.aX b b' k0 FE x x' cK q2 KL r1 r2 hb).1;rw[(mN q3).1]at this;cases this
 have Ok:af bf a1 aq:=mZ (kS (λv v' u=>cZ C8 12 v v' u) eh (mY ha));have hrun:=hB _ _ _ _ _ ho bf w (.func (.func f) #[] #[]) aq de (.func f .nil .nil) Ok;have gi:bL (.func (.func f) #[] #[]) aq=callFunc f aq.toArray:=by unfold bL;simp only[Deferred.ofValue,pure_bind,invoke];congr 1;apply Array.ext';simp
 rw[gi]at hrun;refine hrun.mono λu w' ⟨du,hv,eS,hS⟩=>?_;have dq:s1.ao=l.length:=hS.ao;have sT:∀j,j<l.length->s1.h.get j=hin.get j:= λj hj=>hS.low j hj;have tV:∀j,j<l.length->du j=bf j:= λj hj=>hS.jj j hj;have DU:∀b,b<w.heap.size->w'.heap[b]? =w.heap[b]?:= λb hb=>by
  by_cases hh:aI bf ⟨hin,l.length,l.length⟩ b
  ·obtain⟨j,k,x,e1,e2,e3⟩:=hh;obtain⟨hj,a,k0,q1,q2,q3⟩:=bR j k e1;rw[<-e3];exact hS.fW j k x hj hj e1 (mN q3).2 e2
  ·exact(hS.frame b hb hh).1
 have hnew:∀j k x,l.length<=j->s1.h.get j=some k->dZ k=false->du j=some x->x.b<w.heap.size->False:= λj k x hj e1 Ol e2 hb=>by
  by_cases hh:aI bf ⟨hin,l.length,l.length⟩ x.b
  ·obtain⟨j0,k0,x0,f1,f2,f3⟩:=hh;obtain⟨QH,a,kk,q1,q2,q3⟩:=bR j0 k0 f1;have:=eS.aX j j0 k k0 x x0 (by omega) e1 (by rw[sT j0 QH];exact f1) e2 (by rw[tV j0 QH];exact f2) f3.symm;rw[Ol]at this;cases this.1
  ·exact(hS.frame x.b hb hh).2 ⟨j,k,x,e1,e2,rfl⟩
 have qi:∃qb:Ren,qb= λa=>if a<s.nx then ρ a else match m[a-s.nx]? with|some j=>du j|none=>none:=⟨_,rfl⟩
 obtain⟨qb,qi⟩:=qi;have eM:∀a,a<s.nx->qb a=ρ a:= λa ha=>by rw[qi];simp[ha]
 have lg:∀q j,m[q]? =some j->qb (s.nx+q)=du j:= λq j e=>by
  rw[qi];have e1:¬(s.nx+q<s.nx):=by omega
  have e2:s.nx+q-s.nx=q:=by omega
  simp only[e1,if_false,e2,e]
 have DV:∀a,s.nx+m.length<=a->qb a=none:= λa ha=>by
  rw[qi];have e1:¬(a<s.nx):=by omega
  have e2:m[a-s.nx]? =none:=List.getElem?_eq_none (by omega);simp only[e1,if_false,e2]
 have hle:aK ρ qb:= λa x e=>by
  by_cases ha:a<s.nx
  ·rw[eM a ha,e]
  ·rw[hR.dM a (by omega)]at e;cases e
 have gj:∀j a x,dQ l m l.length s.nx j=some a->du j=some x->qb a=some x:= λj a x e e2=>by
  unfold dQ at e;rw[ai]at e;split at e
  ·rename_i hj;have hj:j<l.length:=by have:=Nat.le_of_ble_eq_true hj;omega
   obtain⟨a',e0,e⟩:=U e;rw[ak]at e;cases e;rw[p8]at e0;rw[tV j hj,ep j a e0]at e2;exact hle a x e2
  ·obtain⟨q,h1,h2⟩:=iS e;rw[h1,lg q j h2,e2]
 have dE:= λj=>q8 DS j;have fA:∀a,a<s.nx->aP.get a=s.h.get a:= λa ha=>(dE a).1 ha;have eF:∀a k,s.nx<=a->aP.get a=some k->∃q j k0,a=s.nx+q∧m[q]? =some j∧s1.h.get j=some k0∧sW (aV (dQ l m l.length s.nx) 12) k0=some k:= λa k ha e=>by
  by_cases hq:a-s.nx<m.length
  ·refine⟨a-s.nx,m[a-s.nx],?_⟩;rcases(dE 0).2.2 (a-s.nx) m[a-s.nx] (by simp[hq])with ⟨_,e2⟩|⟨k0,k1,e1,e2,e3⟩
   ·rw[show s.nx+(a-s.nx)=a by omega,e]at e2;cases e2
   ·rw[show s.nx+(a-s.nx)=a by omega,e]at e3;cases e3;exact⟨k0,by omega,by simp[hq],e1,e2⟩
  ·rw[(dE a).2.1 (by omega),hR.top a ha]at e;cases e
 refine⟨qb,cZ gj 12 _ _ _ Fy hv,?_,?_⟩
 ·refine⟨λa ha=>DV a ha,λa ha=>?_,λa k x e e'=>?_,Nat.le_trans hR.ao (Nat.le_add_right _ _),λa a' k k' x x' hne e1 e2 r1 r2 hb=>?_,λg gl vs g1 g2=>?_⟩
  rotate_right
  ·obtain⟨c1,c2,c3⟩:=eS.gl g gl vs g1 g2;refine⟨c1,?_,c3⟩;rintro⟨a,k,x,e,e',hb⟩;have e:aP.get a=some k:=e;by_cases ha:a<s.nx
   ·rw[fA a ha]at e;rw[eM a ha]at e';exact(hR.gl g gl vs g1 g2).2.1 ⟨a,k,x,e,e',hb⟩
   ·obtain⟨q,j,k0,rfl,f1,f2,_⟩:=eF a k (by omega) e;rw[lg q j f1]at e';exact c2 ⟨j,k0,x,f2,e',hb⟩
  ·have ha:s.nx+m.length<=a:=ha;show aP.get a=none;rw[(dE a).2.1 ha,hR.top a (by omega)]
  ·by_cases ha:a<s.nx
   ·have e:aP.get a=some k:=e;rw[fA a ha]at e;rw[eM a ha]at e';obtain⟨b1,b2⟩:=hR.blk a k x e e';exact⟨Nat.lt_of_lt_of_le b1 hS.size,(b2.congr (DU _ b1)).mono hle⟩
   ·obtain⟨q,j,k0,rfl,f1,f2,f3⟩:=eF a k (by omega) e;rw[lg q j f1]at e';obtain⟨b1,b2⟩:=eS.blk j k0 x f2 e';exact⟨b1,q7 gj f3 b2⟩
  ·have key:∀a a' k k' x x',a<s.nx->s.nx<=a'->aP.get a=some k->aP.get a'=some k'->qb a=some x->qb a'=some x'->x.b=x'.b->False:= λa a' k k' x x' ha dp e1 e2 r1 r2 hb=>by
    obtain⟨q,j,k0,rfl,f1,f2,f3⟩:=eF a' k' dp e2;rw[fA a ha]at e1;rw[eM a ha]at r1;rw[lg q j f1]at r2;have:=(hR.blk a k x e1 r1).1;exact hnew j k0 x' (uY j (List.mem_of_getElem? f1)) f2 (mN f3).1 r2 (by rw[<-hb];exact this)
   by_cases ha:a<s.nx
   ·by_cases dp:a'<s.nx
    ·have e1:aP.get a=some k:=e1;have e2:aP.get a'=some k':=e2;rw[fA a ha]at e1;rw[fA a' dp]at e2;rw[eM a ha]at r1;rw[eM a' dp]at r2;exact hR.aX a a' k k' x x' hne e1 e2 r1 r2 hb
    ·exact(key a a' k k' x x' ha (by omega) e1 e2 r1 r2 hb).elim
   ·by_cases dp:a'<s.nx
    ·exact(key a' a k' k x' x dp (by omega) e2 e1 r2 r1 hb.symm).elim
    ·obtain⟨q,j,k0,rfl,f1,f2,f3⟩:=eF a k (by omega) e1;obtain⟨q',j',FE,rfl,QI,SW,Tz⟩:=eF a' k' (by omega) e2;rw[lg q j f1]at r1;rw[lg q' j' QI]at r2;have cK:j≠j':= λhe=>by
      subst he;exact hne (by rw[jX Fk f1 QI])
     have:=(eS.aX j j' k0 FE x x' cK f2 SW r1 r2 hb).1;rw[(mN f3).1]at this;cases this
 ·refine⟨λa ha=>eM a ha,Nat.le_add_right _ _,hS.tape,hS.os,hS.out,hS.size,λb hb hn=>⟨DU b hb,?_⟩,λa ha hn=> .inl (fA a ha),hS.lp,rfl,λa ha=>fA a (Nat.lt_of_lt_of_le ha hR.ao),λa k x ha dp e Ol e'=>DU _ (hR.blk a k x e e').1⟩;rintro⟨a,k,x,e1,e2,e3⟩;by_cases ha:a<s.nx
  ·have e1:aP.get a=some k:=e1;rw[fA a ha]at e1;rw[eM a ha]at e2;exact hn ⟨a,k,x,e1,e2,e3⟩
  ·obtain⟨q,j,k0,rfl,f1,f2,f3⟩:=eF a k (by omega) e1;rw[lg q j f1]at e2;exact hnew j k0 x (uY j (List.mem_of_getElem? f1)) f2 (mN f3).1 e2 (by rw[e3];exact hb)
theorem x5 {B:Ev} (hB:EvOk P B) {f:Nat} {F:FF} (hF:FFOk P f F):FFOk P f (AE B f F):=by
 intro ev hev args s v s' hr ρ w aq hR ha;have hr:AD (mM B f args s) (F ev args s)= .val v s':=hr;cases hi:mM B f args s with
 |no=>rw[hi]at hr;exact hF ev hev args s v s' hr ρ w aq hR ha
 |code=>rw[hi]at hr;exact hF ev hev args s v s' hr ρ w aq hR ha
 |val v1 s1=>rw[hi]at hr;cases hr;exact Jl hB hi hR ha
theorem kr {f:Nat} {e:Ev}:∀ {l:List (Nat×Ev)},ji f l=some e->∃p∈l,p.2=e
 | [],h=>by cases h
 |p::l,h=>by
  have h:ab (Nat.beq f p.1) (some p.2) (ji f l)=some e:=h;rw[ai]at h;split at h
  ·cases h;exact⟨p,by simp,rfl⟩
  ·obtain⟨q,h1,h2⟩:=kr h;exact⟨q,by simp[h1],h2⟩
theorem EU {X:Cfg} (hX:CfgOk P X) {L:List (Nat×Ev)} (hL:∀p∈L,EvOk P p.2) {f:Nat} {F:FF} (h:Hr P X L f=some F):FFOk P f F:=by
 obtain⟨F0,h0,h⟩:=U h;cases hb:ji f L with
 |none=>rw[hb]at h;cases h;exact vY hX h0
 |some B=>rw[hb]at h;cases h;obtain⟨p,hp,rfl⟩:=kr hb;exact x5 (hL p hp) (vY hX h0)
end Go.Eng
namespace Go.Eng
open Go
variable {P:Program}
theorem entryI_ok {ev:Ev} (hev:EvOk P ev) {e:Entry} (h:outIs e (ev (.func (.func e.f) #[] #[]) e.args ⟨roomH e.hin,e.nx,0⟩)=true):EntryOk P e:=by
 intro ρ w aq hR ha;cases ho:ev (.func (.func e.f) #[] #[]) e.args ⟨roomH e.hin,e.nx,0⟩with
 |no=>rw[ho]at h;cases h
 |code=>rw[ho]at h;cases h
 |val v s=>
  rw[ho]at h;obtain⟨h1,h⟩:=ah h;obtain⟨h2,h⟩:=ah h;obtain⟨h3,h4⟩:=ah h;have hv:=bG 12 _ _ h1;have hnx:=Nat.eq_of_beq_eq_true h2;have kB:=Nat.eq_of_beq_eq_true h3;have dh:=fz h4;subst hv;obtain⟨sh,SQ,Pw⟩:=s;cases hnx;cases kB;have:=hev _ _ _ _ _ ho ρ w (.func (.func e.f) #[] #[]) aq hR.room (.func e.f .nil .nil) ha;have hc:bL (.func (.func e.f) #[] #[]) aq=callFunc e.f aq.toArray:=by unfold bL;simp only[Deferred.ofValue,pure_bind,invoke];congr 1;apply Array.ext';simp
  rw[hc]at this;refine this.mono λu w' ⟨aj,hv,eT,aS⟩=>⟨aj,hv,eT.less dh (Nat.zero_le _),(aS.less dh rfl).room⟩
theorem Ck {ev:Ev} (hev:EvOk P ev) (hX:Plainly P) {f:Nat} {fn:Func} {c:Code} {v:Value} {s':AS} (hf:P.funcs[f]? =some fn) (hb:fn.body=some c) (h:ev (.func (.func f) #[] #[]) [] ⟨roomH .e,0,0⟩= .val v s') (w:World) (hG:GWorld P w):
  Calls P f #[] w λe w'=>∃u aj,e= .returned u∧ag aj v u∧(∀b,b<w.heap.size->w'.heap[b]? =w.heap[b]?)∧w.heap.size<=w'.heap.size∧w'.tape=w.tape∧w'.os=w.os∧w'.output=w.output:=by
 have hR:Rel P (λ_=>none) ⟨roomH .e,0,0⟩ w:=Rel.room ⟨λ_ _=>rfl,λa _=>T.get_e a,λa k x e=>(by rw[T.get_e]at e;cases e),Nat.le_refl _,λa a' k k' x x' _ e=>(by rw[T.get_e]at e;cases e),
  λg gl vs g1 g2=>⟨(hG g gl vs g1 g2).1,λ⟨a,k,x,e,_⟩=>(by rw[T.get_e]at e;cases e),(hG g gl vs g1 g2).2⟩⟩
 have:=hev _ _ _ _ _ h _ w (.func (.func f) #[] #[]) [] hR (.func f .nil .nil) .nil;unfold bb at this;have hc:(bL (.func (.func f) #[] #[]) []).run P w= .ok (.enter f #[]) w:=by unfold bL;simp only[Deferred.ofValue,pure_bind,invoke];exact ft hX hf hb _ w
 rw[hc]at this;refine callsIn_wide.1 (CallsIn.mono this ?_);rintro e w' ⟨u,rfl,aj,hv,eT,aS⟩;refine⟨u,aj,rfl,hv,λb hb=>(aS.frame b hb ?_).1,aS.size,aS.tape,aS.os,aS.out⟩;rintro⟨a,k,x,e,_⟩;have e:(roomH .e).get a=some k:=e;rw[dn,T.get_e]at e;cases e
theorem callsI_true {ev:Ev} (hev:EvOk P ev) (hX:Plainly P) {f:Nat} {fn:Func} {c:Code} (hf:P.funcs[f]? =some fn) (hb:fn.body=some c) (h:PD (.bool true) (ev (.func (.func f) #[] #[]) [] ⟨roomH .e,0,0⟩)=true) (w:World) (hG:GWorld P w):
  Calls P f #[] w λe w'=>e= .returned (.bool true)∧(∀b,b<w.heap.size->w'.heap[b]? =w.heap[b]?)∧w.heap.size<=w'.heap.size∧w'.tape=w.tape∧w'.os=w.os∧w'.output=w.output:=by
 cases ho:ev (.func (.func f) #[] #[]) [] ⟨roomH .e,0,0⟩with
 |no=>rw[ho]at h;cases h
 |code=>rw[ho]at h;cases h
 |val v s=>rw[ho]at h;have hv:=bG 12 _ _ h;subst hv;refine(Ck hev hX hf hb ho w hG).mono ?_;rintro e w' ⟨u,aj,he,hv,rest⟩;cases hv;exact⟨he,rest⟩
theorem lstB_ok {B:Ev} (hB:EvOk P B) {r:List (Nat×Ev)} (hr:∀p∈r,EvOk P p.2):∀l:List Nat,∀p∈lstB l B r,EvOk P p.2
 | [],p,hp=>hr p hp
 |f::l,p,hp=>by
  have hp:p∈(f,B)::lstB l B r:=hp;rcases List.mem_cons.1 hp with rfl|hp
  ·exact hB
  ·exact lstB_ok hB hr l p hp
end Go.Eng
namespace Go.Eng
open Go
variable {P:Program}
theorem wb {n:Nat}:∀ {l:List Nat},∀a∈y5 n l,a<n
 | [],a,h=>by cases h
 |x::l,a,h=>by
  have h:a∈ab (Nat.blt x n) (x::y5 n l) (y5 n l):=h;rw[ai]at h;split at h
  ·rename_i hb;rcases List.mem_cons.1 h with rfl|h
   ·exact Nat.lt_of_succ_le (Nat.le_of_ble_eq_true hb)
   ·exact wb a h
  ·exact wb a h
theorem wc {n:Nat}:∀ {l:List Nat},∀a∈AJ n l,n<=a
 | [],a,h=>by cases h
 |x::l,a,h=>by
  have h:a∈ab (Nat.blt x n) (AJ n l) (x::AJ n l):=h;rw[ai]at h;split at h
  ·exact wc a h
  ·rename_i hb;rcases List.mem_cons.1 h with rfl|h
   ·refine Nat.le_of_not_lt λhl=>hb ?_;exact Nat.ble_eq_true_of_le hl
   ·exact wc a h
theorem ra {r q:Value->Option Value} (hr:∀v v',r v=some v'->q v'=some v):∀ {t t':T (List Value)},mh r t=some t'->mh q t'=some t
 | .e,t',h=>by have h:some T.e=some t':=h;cases h;rfl
 | .n v l r0,t',h=>by
  have h:(ob (mh r l) λl=>ob (mh r r0) λr'=>Option.rec (motive:= λ_=>Option (T (List Value))) (some (.n none l r')) (λc=>ob (bW r c) λc'=>some (.n (some c') l r')) v)=some t':=h;replace h:=U h;obtain⟨l1,h1,h⟩:=h;replace h:=U h;obtain⟨r1,h2,h⟩:=h;have i1:=ra hr h1;have i2:=ra hr h2;cases v with
  |none=>have h:some (T.n none l1 r1)=some t':=h;cases h;show(ob (mh q l1) λl=>ob (mh q r1) λr'=>some (T.n none l r'))=_;rw[i1,i2];rfl
  |some c=>have h:(ob (bW r c) λc'=>some (T.n (some c') l1 r1))=some t':=h;replace h:=U h;obtain⟨c1,h3,h⟩:=h;cases h;show(ob (mh q l1) λl=>ob (mh q r1) λr'=>ob (bW q c1) λc'=>some (T.n (some c') l r'))=_;rw[i1,i2,q6 hr h3];rfl
theorem x6 {r q:Value->Option Value} (hr:∀v v',r v=some v'->q v'=some v):∀ {es bc:List an},sY r es=some bc->sY q bc=some es
 | [],bc,h=>by cases h;rfl
 |e::es,bc,h=>by have h:(ob (r e.2.1) λv=>ob (sY r es) λl=>some ((e.1,v,e.2.2)::l))=some bc:=h;replace h:=U h;obtain⟨v,h1,h⟩:=h;replace h:=U h;obtain⟨l,h2,h⟩:=h;cases h;show(ob (q v) λv=>ob (sY q l) λl=>some ((e.1,v,e.2.2)::l))=_;rw[hr _ _ h1,x6 hr h2];rfl
theorem uH {r q:Value->Option Value} (hr:∀v v',r v=some v'->q v'=some v) {k k':Blk} (h:eo r k=some k'):eo q k'=some k:=by
 unfold eo at h;split at h
 ·replace h:=U h;obtain⟨c',hc,h⟩:=h;simp only[ak]at h;cases h;show(ob (mh q c') λc'=>_)=_;rw[ra hr hc,show∀(k:T (List Value)->Option Blk) x,ob (some x) k=k x fromλ_ _=>rfl,ak,ak,ak]
 ·replace h:=U h;obtain⟨c',hc,h⟩:=h;simp only[ak]at h;cases h;show(ob (sY q c') λc'=>_)=_;rw[x6 hr hc,show∀(k:List an->Option Blk) x,ob (some x) k=k x fromλ_ _=>rfl,ak,ak]
 ·cases h
theorem na {r:Value->Option Value} {k k':Blk} (h:eo r k=some k'):dZ k=false∧dZ k'=false:=by
 unfold eo at h;split at h
 ·replace h:=U h;obtain⟨c',hc,h⟩:=h;simp only[ak]at h;cases h;exact⟨rfl,rfl⟩
 ·replace h:=U h;obtain⟨c',hc,h⟩:=h;simp only[ak]at h;cases h;exact⟨rfl,rfl⟩
 ·cases h
theorem Be {bf du:Ren} {φ:Nat->Option Nat} {n:Nat} (h:∀a b x,φ a=some b->bf a=some x->du b=some x) {P:Program} {kt:TypeId}:∀ {es bc:List an} {l:List MapEntry},sY (aV φ n) es=some bc->
  F2 (λp e=>p.1=e.key∧aG P kt p.1=true∧Plain p.1∧ag bf p.2.1 e.val∧(p.2.2=0∨p.2.2=e.born+1)) es l->F2 (λp e=>p.1=e.key∧aG P kt p.1=true∧Plain p.1∧ag du p.2.1 e.val∧(p.2.2=0∨p.2.2=e.born+1)) bc l
 | [],bc,l,h0,hf=>by cases h0;cases hf;exact .nil
 |e::es,bc,l,h0,hf=>by
  have h0:(ob (aV φ n e.2.1) λv=>ob (sY (aV φ n) es) λl=>some ((e.1,v,e.2.2)::l))=some bc:=h0;replace h0:=U h0;obtain⟨v,h1,h0⟩:=h0;replace h0:=U h0;obtain⟨gk,h2,h0⟩:=h0;cases h0;cases hf with
  |cons hp ht=>obtain⟨a,b,c,d,f⟩:=hp;exact .cons ⟨a,b,c,cZ h n _ _ _ h1 d,f⟩ (Be h h2 ht)
theorem uI {r:Value->Option Value}:∀ {es bc:List an},sY r es=some bc->bc.map (·.1)=es.map (·.1)
 | [],bc,h0=>by cases h0;rfl
 |e::es,bc,h0=>by have h0:(ob (r e.2.1) λv=>ob (sY r es) λl=>some ((e.1,v,e.2.2)::l))=some bc:=h0;replace h0:=U h0;obtain⟨v,h1,h0⟩:=h0;replace h0:=U h0;obtain⟨gk,h2,h0⟩:=h0;cases h0;rw[List.map_cons,List.map_cons,uI h2]
theorem uJ {bf du:Ren} {φ:Nat->Option Nat} {n:Nat} (h:∀a b x,φ a=some b->bf a=some x->du b=some x) {k k':Blk} {x:Loc} {w:World} (hk:eo (aV φ n) k=some k') (hb:bX P bf x w k):bX P du x w k':=by
 unfold eo at hk;split at hk
 ·rename_i c sz m et;exact q7 (k:= .cells c sz m false et) h hk hb
 ·rename_i kt es ck;replace hk:=U hk;obtain⟨bc,he,hk⟩:=hk;simp only[ak]at hk;cases hk;obtain⟨ents,h1,⟨l,hp,hf,hn⟩,h3⟩:=hb;exact⟨ents,h1,⟨l,hp,Be h he hf,by rw[uI he];exact hn⟩,h3⟩
 ·cases hk
theorem rb {r:Value->Option Value} {h:T Blk}:∀ {l:List Nat} {i:Nat} {t t':T Blk},uX r h l i t=some t'->∀j,
  (j<i->t'.get j=t.get j)∧(i+l.length<=j->t'.get j=t.get j)∧
  (∀q a,l[q]? =some a->(h.get a=none∧t'.get (i+q)=none)∨∃b b',h.get a=some b∧eo r b=some b'∧t'.get (i+q)=some b')
 | [],i,t,t',e,j=>by cases e;exact⟨λ_=>rfl,λ_=>rfl,λq a ha=>by simp at ha⟩
 |a::l,i,t,t',e,j=>by
  have bA:∃(x:Option Blk) (t1:T Blk),T.put x t i=some t1∧uX r h l (Nat.succ i) t1=some t'∧((h.get a=none∧x=none)∨∃b b',h.get a=some b∧eo r b=some b'∧x=some b'):=by
   have e:Option.rec (motive:= λ_=>Option (T Blk)) (ob (T.put none t i) λt'=>uX r h l (Nat.succ i) t') (λb=>ob (eo r b) λb'=>ob (T.put (some b') t i) λt'=>uX r h l (Nat.succ i) t') (h.get a)=some t':=e;cases hg:h.get a with
   |none=>rw[hg]at e;replace e:=U e;obtain⟨t1,e1,e2⟩:=e;exact⟨none,t1,e1,e2,.inl ⟨rfl,rfl⟩⟩
   |some b=>rw[hg]at e;replace e:=U e;obtain⟨b',e0,e⟩:=e;replace e:=U e;obtain⟨t1,e1,e2⟩:=e;exact⟨some b',t1,e1,e2,.inr ⟨b,b',rfl,e0,rfl⟩⟩
  obtain⟨x,t1,e1,e2,hx⟩:=bA;have hg:=T.bu x t i t1 e1;have ih:= λj=>rb e2 j;refine⟨λhj=>?_,λhj=>?_,λq a' hq=>?_⟩
  ·rw[(ih j).1 (by omega),hg,if_neg (by omega)]
  ·rw[(ih j).2.1 (by simp at hj;omega),hg,if_neg (by simp at hj;omega)]
  ·cases q with
   |zero=>
    simp at hq;subst hq;have:t'.get i=x:=by rw[(ih i).1 (by omega),hg,if_pos rfl]
    rcases hx with ⟨h1,h2⟩|⟨b,b',h1,h2,h3⟩
    ·exact .inl ⟨h1,by show t'.get (i+0)=none;rw[Nat.add_zero,this,h2]⟩
    ·exact .inr ⟨b,b',h1,h2,by show t'.get (i+0)=_;rw[Nat.add_zero,this,h3]⟩
   |succ q=>simp at hq;have:=(ih 0).2.2 q a' hq;rw[show i.succ+q=i+(q+1) by omega]at this;exact this
theorem uK {r:Value->Option Value} {h:T Blk}:∀ {l:List Nat} {i:Nat} {t t':T Blk},l.Nodup->tU r h l i t=some t'->
  (∀a,a∉l->t'.get a=t.get a)∧(∀q a,l[q]? =some a->(h.get (i+q)=none∧t'.get a=none)∨∃b b',h.get (i+q)=some b∧eo r b=some b'∧t'.get a=some b')
 | [],i,t,t',_,e=>by cases e;exact⟨λ_ _=>rfl,λq a ha=>by simp at ha⟩
 |a::l,i,t,t',hn,e=>by
  have bA:∃(x:Option Blk) (t1:T Blk),T.put x t a=some t1∧tU r h l (Nat.succ i) t1=some t'∧((h.get i=none∧x=none)∨∃b b',h.get i=some b∧eo r b=some b'∧x=some b'):=by
   have e:Option.rec (motive:= λ_=>Option (T Blk)) (ob (T.put none t a) λt'=>tU r h l (Nat.succ i) t') (λb=>ob (eo r b) λb'=>ob (T.put (some b') t a) λt'=>tU r h l (Nat.succ i) t') (h.get i)=some t':=e;cases hg:h.get i with
   |none=>rw[hg]at e;replace e:=U e;obtain⟨t1,e1,e2⟩:=e;exact⟨none,t1,e1,e2,.inl ⟨rfl,rfl⟩⟩
   |some b=>rw[hg]at e;replace e:=U e;obtain⟨b',e0,e⟩:=e;replace e:=U e;obtain⟨t1,e1,e2⟩:=e;exact⟨some b',t1,e1,e2,.inr ⟨b,b',rfl,e0,rfl⟩⟩
  obtain⟨x,t1,e1,e2,hx⟩:=bA;have hg:=T.bu x t a t1 e1;obtain⟨SX,GG⟩:=List.nodup_cons.1 hn;have ih:=uK GG e2;refine⟨λb hb=>?_,λq b hq=>?_⟩
  ·rw[ih.1 b (λhm=>hb (by simp[hm])),hg,if_neg (λhe=>hb (by simp[he]))]
  ·cases q with
   |zero=>
    simp at hq;subst hq;have:t'.get a=x:=by rw[ih.1 a SX,hg,if_pos rfl]
    rcases hx with ⟨h1,h2⟩|⟨b,b',h1,h2,h3⟩
    ·exact .inl ⟨h1,by rw[this,h2]⟩
    ·exact .inr ⟨b,b',h1,h2,by rw[this,h3]⟩
   |succ q=>simp at hq;have:=ih.2 q b hq;rw[show i.succ+q=i+(q+1) by omega]at this;exact this
theorem Gx {B:Ev} (hB:EvOk P B) {f:Nat} {args aq:List Value} {s s':AS} {v:Value} (h:jV B f args s= .val v s') {ρ:Ren} {w:World} (hR:Rel P ρ s w) (ha:af ρ args aq):
  bb P (callFunc f aq.toArray) w λu w'=>∃aj,ag aj v u∧Rel P aj s' w'∧aR ρ s w aj s' w':=by
 unfold jV at h;cases hl:(ob (uV (sX 0 12) args []) λl=>vC s.h 0 12 400 0 l)with
 |none=>rw[hl]at h;cases h
 |some l0=>
 rw[hl]at h;obtain⟨l1,GD⟩:∃l1,l1=y5 s.ao l0:=⟨_,rfl⟩
 obtain⟨l2,xa⟩:∃l2,l2=AJ s.ao l0:=⟨_,rfl⟩
 obtain⟨l,AH⟩:∃l,l=l1++l2:=⟨_,rfl⟩
 have h:ab (ab (bE (app (y5 s.ao l0) (AJ s.ao l0))) (oK s.nx (app (y5 s.ao l0) (AJ s.ao l0))) false) (Option.rec (motive:= λ_=>Out) .no (λaq=>
    Option.rec (motive:= λ_=>Out) .no (λh=>jF (len (app (y5 s.ao l0) (AJ s.ao l0))) λk=>jF (len (y5 s.ao l0)) λk1=>qZ s (y5 s.ao l0) (AJ s.ao l0) (app (y5 s.ao l0) (AJ s.ao l0)) k1 k (B (.func (.func f) #[] #[]) aq ⟨h,k,k1⟩))
     (uX (aV (λa=>gQ (app (y5 s.ao l0) (AJ s.ao l0)) a 0) 12) s.h (app (y5 s.ao l0) (AJ s.ao l0)) 0 (kZ 20))) (bW (aV (λa=>gQ (app (y5 s.ao l0) (AJ s.ao l0)) a 0) 12) args)) .no= .val v s':=h
 rw[nP,<-GD,<-xa,<-AH]at h;have PI:∀a∈l1,a<s.ao:= λa ha=>wb a (GD▸ha);have IZ:∀a∈l2,s.ao<=a:= λa ha=>wc a (xa▸ha);have nD:l1.length<=l.length:=by rw[AH,List.length_append];omega
 have Mr:∀j,j<l1.length->l[j]? =l1[j]?:= λj hj=>by rw[AH,List.getElem?_append_left hj]
 have MD:∀j,l1.length<=j->l[j]? =l2[j-l1.length]?:= λj hj=>by rw[AH,List.getElem?_append_right hj]
 clear GD xa;rw[ai]at h;split at h
 case isFalse=>cases h
 rename_i hc;obtain⟨dR,hlt⟩:=ah hc;replace dR:=bo dR;replace hlt:=iO hlt;have PY:l2.Nodup:=(List.nodup_append.1 (AH▸dR)).2.1;cases eh:bW (aV (λa=>gQ l a 0) 12) args with
 |none=>rw[eh]at h;cases h
 |some a1=>
 rw[eh]at h;cases qg:uX (aV (λa=>gQ l a 0) 12) s.h l 0 (kZ 20)with
 |none=>rw[qg]at h;cases h
 |some hin=>
 rw[qg]at h;have h:jF (len l) (λk=>jF (len l1) λk1=>qZ s l1 l2 l k1 k (B (.func (.func f) #[] #[]) a1 ⟨hin,k,k1⟩))= .val v s':=h;have hfn:∀(n:Nat) (k:Nat->Out),jF n k=k n:= λn k=>by cases n<;>rfl
 rw[hfn,hfn,aZ,aZ]at h;cases ho:B (.func (.func f) #[] #[]) a1 ⟨hin,l.length,l1.length⟩with
 |no=>rw[ho]at h;cases h
 |code=>rw[ho]at h;cases h
 |val v1 s1=>
 rw[ho]at h;have h:gN (ob (ob (sX l.length 12 v1 []) λm=>ob (Ln s1.h l.length 12 l.length m) λm=>vC s1.h l.length 12 400 0 m) λm=>ab (ab (bE m) (ml l.length m) false)
   (ob (aV (dQ l m l.length s.nx) 12 v1) λv'=>ob (tU (aV (dQ l m l.length s.nx) 12) s1.h l2 l1.length s.h) λh0=>ob (uX (aV (dQ l m l.length s.nx) 12) s1.h m s.nx h0) λh=>ar (Nat.add s.nx (len m)) λnx=>ar s.ao λlm=>some (v',⟨h,nx,lm⟩)) none)= .val v s':=h
 replace h:=q9 h;obtain⟨m,hm,h⟩:=U h;rw[ai]at h;split at h
 case isFalse=>cases h
 rename_i J0;obtain⟨Fk,uY⟩:=ah J0;replace Fk:=bo Fk;replace uY:=ga uY;obtain⟨v2,Fy,h⟩:=U h;obtain⟨h0,Jm,h⟩:=U h;obtain⟨aP,DS,h⟩:=U h;rw[ak,ak,aZ]at h;cases h;have g8:= λj=>rb qg j;have Ff:∀a j,gQ l a 0=some j->l[j]? =some a:= λa j e=>by obtain⟨q,h1,h2⟩:=iS e;rw[h1,Nat.zero_add];exact h2
 have uZ:∃bf:Ren,bf= λj=>match l[j]? with|some a=>ρ a|none=>none:=⟨_,rfl⟩
 obtain⟨bf,uZ⟩:=uZ;have ep:∀j a,l[j]? =some a->bf j=ρ a:= λj a e=>by rw[uZ];show(match l[j]? with|some a=>ρ a|none=>none)=_;rw[e]
 have DT:∀j,l.length<=j->bf j=none:= λj e=>by rw[uZ];show(match l[j]? with|some a=>ρ a|none=>none)=_;rw[List.getElem?_eq_none e]
 have C8:∀a b x,gQ l a 0=some b->ρ a=some x->bf b=some x:= λa b x e1 e2=>by rw[ep b a (Ff a b e1),e2]
 have bR:∀j k',hin.get j=some k'->j<l.length∧∃a k,l[j]? =some a∧s.h.get a=some k∧eo (aV (λa=>gQ l a 0) 12) k=some k':= λj k' e=>by
  by_cases hj:j<l.length
  ·refine⟨hj,l[j],?_⟩;rcases(g8 0).2.2 j l[j] (by simp[hj])with ⟨_,e2⟩|⟨k,k1,e1,e2,e3⟩
   ·rw[Nat.zero_add,e]at e2;cases e2
   ·rw[Nat.zero_add,e]at e3;cases e3;exact⟨k,by simp[hj],e1,e2⟩
  ·rw[(g8 j).2.1 (by omega),iR]at e;cases e
 have de:Rel P bf ⟨hin,l.length,l1.length⟩ w:=by
  refine⟨λa ha=>DT a ha,λa ha=>?_,λa k x e e'=>?_,nD,λa a' k k' x x' hne e1 e2 r1 r2 hb=>?_,λg gl vs g1 g2=>?_⟩
  rotate_right
  ·obtain⟨c1,c2,c3⟩:=hR.gl g gl vs g1 g2;refine⟨c1,?_,c3⟩;rintro⟨j,k,x,e,e',hb⟩;obtain⟨_,b,k0,q1,q2,_⟩:=bR j k e;rw[ep j b q1]at e';exact c2 ⟨b,k0,x,q2,e',hb⟩
  ·cases e:hin.get a with
   |none=>rfl
   |some k=>have:=(bR a k e).1;have ha:l.length<=a:=ha;omega
  ·obtain⟨hj,b,k0,q1,q2,q3⟩:=bR a k e;rw[ep a b q1]at e';obtain⟨b1,b2⟩:=hR.blk b k0 x q2 e';exact⟨b1,uJ C8 q3 b2⟩
  ·obtain⟨_,b,k0,q1,q2,q3⟩:=bR a k e1;obtain⟨_,b',FE,AK,KL,M5⟩:=bR a' k' e2;rw[ep a b q1]at r1;rw[ep a' b' AK]at r2;have cK:b≠b':= λhe=>by
    subst he;exact hne (jX dR q1 AK)
   have:=(hR.aX b b' k0 FE x x' cK q2 KL r1 r2 hb).1;rw[(na q3).1]at this;cases this
 have Ok:af bf a1 aq:=mZ (kS (λv v' u=>cZ C8 12 v v' u) eh (mY ha));have hrun:=hB _ _ _ _ _ ho bf w (.func (.func f) #[] #[]) aq de (.func f .nil .nil) Ok;have gi:bL (.func (.func f) #[] #[]) aq=callFunc f aq.toArray:=by unfold bL;simp only[Deferred.ofValue,pure_bind,invoke];congr 1;apply Array.ext';simp
 rw[gi]at hrun;refine hrun.mono λu w' ⟨du,hv,eS,hS⟩=>?_;have sT:∀j,j<l1.length->s1.h.get j=hin.get j:= λj hj=>hS.low j hj;have tV:∀j,j<l.length->du j=bf j:= λj hj=>hS.jj j hj;have Ge:∀a k x,a∉l->s.h.get a=some k->ρ a=some x->¬aI bf ⟨hin,l.length,l1.length⟩ x.b:= λa k x qa e e'=>by rintro⟨j,k2,x2,e1,e2,e3⟩;obtain⟨hj,b,k0,q1,q2,q3⟩:=bR j k2 e1;rw[ep j b q1]at e2;have hne:a≠b:= λhe=>qa (he▸List.mem_of_getElem? q1);have:=(hR.aX a b k k0 x x2 hne e q2 e' e2 e3.symm).2;rw[(na q3).1]at this;cases this
 have Jn:∀b,aI bf ⟨hin,l.length,l1.length⟩ b->aI ρ s b:= λb ⟨j,k,x,e1,e2,e3⟩=>by obtain⟨hj,a,k0,q1,q2,q3⟩:=bR j k e1;rw[ep j a q1]at e2;exact⟨a,k0,x,q2,e2,e3⟩
 have qi:∃qb:Ren,qb= λa=>if a<s.nx then ρ a else match m[a-s.nx]? with|some j=>du j|none=>none:=⟨_,rfl⟩
 obtain⟨qb,qi⟩:=qi;have eM:∀a,a<s.nx->qb a=ρ a:= λa ha=>by rw[qi];simp[ha]
 have lg:∀q j,m[q]? =some j->qb (s.nx+q)=du j:= λq j e=>by
  rw[qi];have e1:¬(s.nx+q<s.nx):=by omega
  have e2:s.nx+q-s.nx=q:=by omega
  simp only[e1,if_false,e2,e]
 have DV:∀a,s.nx+m.length<=a->qb a=none:= λa ha=>by
  rw[qi];have e1:¬(a<s.nx):=by omega
  have e2:m[a-s.nx]? =none:=List.getElem?_eq_none (by omega);simp only[e1,if_false,e2]
 have hle:aK ρ qb:= λa x e=>by
  by_cases ha:a<s.nx
  ·rw[eM a ha,e]
  ·rw[hR.dM a (by omega)]at e;cases e
 have gj:∀j a x,dQ l m l.length s.nx j=some a->du j=some x->qb a=some x:= λj a x e e2=>by
  unfold dQ at e;rw[ai]at e;split at e
  ·rename_i hj;have hj:j<l.length:=by have:=Nat.le_of_ble_eq_true hj;omega
   obtain⟨a',e0,e⟩:=U e;rw[ak]at e;cases e;rw[p8]at e0;rw[tV j hj,ep j a e0]at e2;exact hle a x e2
  ·obtain⟨q,h1,h2⟩:=iS e;rw[h1,lg q j h2,e2]
 have hinv:∀a b,gQ l a 0=some b->dQ l m l.length s.nx b=some a:= λa b e=>by have e1:=Ff a b e;have hb:b<l.length:=(List.getElem?_eq_some_iff.1 e1).1;unfold dQ;rw[ai,if_pos (show Nat.blt b l.length=true from Nat.ble_eq_true_of_le hb),p8,e1];show(ar a λa=>some a)=_;rw[ak]
 have DW:∀a,a∈l->∃j,j<l.length∧l[j]? =some a:= λa ha=>by obtain⟨j,hj,e⟩:=List.mem_iff_getElem.1 ha;exact⟨j,hj,by rw[List.getElem?_eq_getElem hj,e]⟩
 have MH:=uK PY Jm;have dE:= λj=>rb DS j;have nb:∀a,a<s.nx->a∉l2->aP.get a=s.h.get a:= λa ha hn=>by rw[(dE a).1 ha,MH.1 a hn]
 have PJ:∀a,a∈l1->a∉l2:= λa h1 h2=>by have:=PI a h1;have:=IZ a h2;omega
 have eb:∀a,a∈l↔a∈l1∨a∈l2:= λa=>by rw[AH,List.mem_append]
 have sb:∀a j,l[j]? =some a->(s1.h.get j=none∧aP.get a=none)∨(aP.get a=s.h.get a∧j<l1.length)∨∃k0 k,s1.h.get j=some k0∧eo (aV (dQ l m l.length s.nx) 12) k0=some k∧aP.get a=some k:= λa j e=>by
  have I0:=hlt a (List.mem_of_getElem? e);by_cases hj:j<l1.length
  ·refine .inr (.inl ⟨nb a I0 (PJ a (List.mem_of_getElem? ((Mr j hj)▸e))),hj⟩)
  ·have hj:l1.length<=j:=by omega
   have e2:l2[j-l1.length]? =some a:=(MD j hj)▸e;rcases MH.2 _ a e2 with ⟨h1,h2⟩|⟨k0,k,h1,h2,h3⟩
   ·rw[show l1.length+(j-l1.length)=j by omega]at h1;exact .inl ⟨h1,by rw[(dE a).1 I0,h2]⟩
   ·rw[show l1.length+(j-l1.length)=j by omega]at h1;exact .inr (.inr ⟨k0,k,h1,h2,by rw[(dE a).1 I0,h3]⟩)
 have eF:∀a k,s.nx<=a->aP.get a=some k->∃q j k0,a=s.nx+q∧m[q]? =some j∧s1.h.get j=some k0∧eo (aV (dQ l m l.length s.nx) 12) k0=some k:= λa k ha e=>by
  by_cases hq:a-s.nx<m.length
  ·refine⟨a-s.nx,m[a-s.nx],?_⟩;rcases(dE 0).2.2 (a-s.nx) m[a-s.nx] (by simp[hq])with ⟨_,e2⟩|⟨k0,k1,e1,e2,e3⟩
   ·rw[show s.nx+(a-s.nx)=a by omega,e]at e2;cases e2
   ·rw[show s.nx+(a-s.nx)=a by omega,e]at e3;cases e3;exact⟨k0,by omega,by simp[hq],e1,e2⟩
  ·rw[(dE a).2.1 (by omega),MH.1 a (λFu=>by have:=hlt a ((eb a).2 (.inr Fu));omega),hR.top a ha]at e;cases e
 have C9:∀a k,aP.get a=some k->(a<s.nx∧a∉l∧s.h.get a=some k)∨∃j k0,qb a=du j∧s1.h.get j=some k0∧eo (aV (dQ l m l.length s.nx) 12) k0=some k∧((j<l.length∧l[j]? =some a)∨∃q,a=s.nx+q∧m[q]? =some j):= λa k e=>by
  by_cases ha:a<s.nx
  ·by_cases qa:a∈l
   ·obtain⟨j,hj,y6⟩:=DW a qa;refine .inr ?_;rcases sb a j y6 with ⟨_,h2⟩|⟨h2,JX⟩|⟨k0,k',h1,h2,h3⟩
    ·rw[e]at h2;cases h2
    ·rw[h2]at e;rcases(g8 0).2.2 j a y6 with ⟨e1,_⟩|⟨b,b',e1,e2,e3⟩
     ·rw[e]at e1;cases e1
     ·rw[e]at e1;cases e1;rw[Nat.zero_add]at e3;exact⟨j,b',by rw[eM a ha,tV j hj,ep j a y6],by rw[sT j JX,e3],uH (λv v' hv=>m9 hinv 12 v v' hv) e2,.inl ⟨hj,y6⟩⟩
    ·rw[e]at h3;cases h3;exact⟨j,k0,by rw[eM a ha,tV j hj,ep j a y6],h1,h2,.inl ⟨hj,y6⟩⟩
   ·exact .inl ⟨ha,qa,by rw[<-nb a ha (λh2=>qa ((eb a).2 (.inr h2)))];exact e⟩
  ·obtain⟨q,j,k0,e0,f1,f2,f3⟩:=eF a k (by omega) e;exact .inr ⟨j,k0,by rw[e0,lg q j f1],f2,f3,.inr ⟨q,e0,f1⟩⟩
 have PK:∀a a' j,a≠a'->((j<l.length∧l[j]? =some a)∨∃q,a=s.nx+q∧m[q]? =some j)->∀j',((j'<l.length∧l[j']? =some a')∨∃q,a'=s.nx+q∧m[q]? =some j')->j≠j':= λa a' j hne c1 j' c2 he=>by
  subst he;rcases c1 with ⟨g1,g2⟩|⟨q,g1,g2⟩
  ·rcases c2 with ⟨M6,HZ⟩|⟨q',M6,HZ⟩
   ·rw[g2]at HZ;cases HZ;exact hne rfl
   ·have:=uY j (List.mem_of_getElem? HZ);omega
  ·rcases c2 with ⟨M6,HZ⟩|⟨q',M6,HZ⟩
   ·have:=uY j (List.mem_of_getElem? g2);omega
   ·have:=jX Fk g2 HZ;exact hne (by rw[g1,M6,this])
 have Em:∀b,aI qb ⟨aP,s.nx+m.length,s.ao⟩ b->aI ρ s b∧b<w.heap.size∧¬aI bf ⟨hin,l.length,l1.length⟩ b∨aI du s1 b:= λb ⟨a,k,x,e,e',hb⟩=>by
  have e:aP.get a=some k:=e;rcases C9 a k e with ⟨ha,qa,e1⟩|⟨j,k0,hr,e1,_,_⟩
  ·rw[eM a ha]at e';subst hb;exact .inl ⟨⟨a,k,x,e1,e',rfl⟩,(hR.blk a k x e1 e').1,Ge a k x qa e1 e'⟩
  ·rw[hr]at e';exact .inr ⟨j,k0,x,e1,e',hb⟩
 refine⟨qb,cZ gj 12 _ _ _ Fy hv,?_,?_⟩
 ·refine⟨λa ha=>DV a ha,λa ha=>?_,λa k x e e'=>?_,Nat.le_trans hR.ao (Nat.le_add_right _ _),λa a' k k' x x' hne e1 e2 r1 r2 hb=>?_,λg gl vs g1 g2=>?_⟩
  rotate_right
  ·obtain⟨c1,c2,c3⟩:=eS.gl g gl vs g1 g2;refine⟨c1,λhh=>?_,c3⟩;rcases Em g hh with ⟨hh,_⟩|hh
   ·exact(hR.gl g gl vs g1 g2).2.1 hh
   ·exact c2 hh
  ·have ha:s.nx+m.length<=a:=ha;show aP.get a=none;cases e:aP.get a with
   |none=>rfl
   |some k=>obtain⟨q,j,k0,e0,f1,_⟩:=eF a k (by omega) e;have:=(List.getElem?_eq_some_iff.1 f1).1;omega
  ·rcases C9 a k e with ⟨ha,qa,e1⟩|⟨j,k0,hr,e1,e2,_⟩
   ·rw[eM a ha]at e';obtain⟨b1,b2⟩:=hR.blk a k x e1 e';exact⟨Nat.lt_of_lt_of_le b1 hS.size,(b2.congr (hS.frame _ b1 (Ge a k x qa e1 e')).1).mono hle⟩
   ·rw[hr]at e';obtain⟨b1,b2⟩:=eS.blk j k0 x e1 e';exact⟨b1,uJ gj e2 b2⟩
  ·have key:∀a k x x',a<s.nx->a∉l->s.h.get a=some k->qb a=some x->∀j k0,s1.h.get j=some k0->du j=some x'->x.b=x'.b->False:= λa k x x' ha qa e1 r1 j k0 f1 f2 hb=>by
    rw[eM a ha]at r1;have wX:=(hR.blk a k x e1 r1).1;exact(hS.frame x.b wX (Ge a k x qa e1 r1)).2 ⟨j,k0,x',f1,f2,hb.symm⟩
   rcases C9 a k e1 with ⟨ha,qa,q1⟩|⟨j,k0,hr,q1,q2,q3⟩
   ·rcases C9 a' k' e2 with ⟨dp,Lp,AK⟩|⟨j',FE,er,AK,KL,M5⟩
    ·rw[eM a ha]at r1;rw[eM a' dp]at r2;exact hR.aX a a' k k' x x' hne q1 AK r1 r2 hb
    ·rw[er]at r2;exact(key a k x x' ha qa q1 r1 j' FE AK r2 hb).elim
   ·rcases C9 a' k' e2 with ⟨dp,Lp,AK⟩|⟨j',FE,er,AK,KL,M5⟩
    ·rw[hr]at r1;exact(key a' k' x' x dp Lp AK r2 j k0 q1 r1 hb.symm).elim
    ·rw[hr]at r1;rw[er]at r2;have:=(eS.aX j j' k0 FE x x' (PK a a' j hne q3 j' M5) q1 AK r1 r2 hb).1;rw[(na q2).1]at this;cases this
 ·refine⟨λa ha=>eM a ha,Nat.le_add_right _ _,hS.tape,hS.os,hS.out,hS.size,λb hb hn=>?_,λa ha hn=>?_,hS.lp,rfl,λa ha=>?_,λa k x ha dp e Ol e'=>?_⟩
  ·obtain⟨f1,f2⟩:=hS.frame b hb (λhh=>hn (Jn b hh));refine⟨f1,λhh=>?_⟩;rcases Em b hh with ⟨hh,_⟩|hh
   ·exact hn hh
   ·exact f2 hh
  ·show aP.get a=s.h.get a∨aP.get a=none;by_cases qa:a∈l
   ·obtain⟨j,hj,y6⟩:=DW a qa;rcases sb a j y6 with ⟨_,h2⟩|⟨h2,_⟩|⟨k0,k',h1,h2,h3⟩
    ·exact .inr h2
    ·exact .inl h2
    ·have hp:=hS.ph j hj (by rw[ep j a y6];exact hn);rcases hp with hp|hp
     ·have hp:s1.h.get j=hin.get j:=hp;rw[h1]at hp;rcases(g8 0).2.2 j a y6 with ⟨_,e2⟩|⟨b,b',e1,e2,e3⟩
      ·rw[Nat.zero_add,<-hp]at e2;cases e2
      ·rw[Nat.zero_add,<-hp]at e3;cases e3;have:=uH (λv v' hv=>m9 hinv 12 v v' hv) e2;rw[this]at h2;cases h2;exact .inl (by rw[h3,e1])
     ·rw[h1]at hp;cases hp
   ·exact .inl (nb a ha (λh2=>qa ((eb a).2 (.inr h2))))
  ·exact nb a (Nat.lt_of_lt_of_le ha hR.ao) (λh2=>by have:=IZ a h2;omega)
  ·by_cases qa:a∈l
   ·obtain⟨j,hj,y6⟩:=DW a qa;have JX:j<l1.length:=by
     refine Nat.lt_of_not_le λoS=>?_;have e2:l2[j-l1.length]? =some a:=(MD j oS)▸y6;have:=IZ a (List.mem_of_getElem? e2);omega
    rcases(g8 0).2.2 j a y6 with ⟨e1,_⟩|⟨b,b',e1,e2,e3⟩
    ·rw[e]at e1;cases e1
    ·rw[Nat.zero_add]at e3;exact hS.fW j b' x JX hj e3 (na e2).2 (by rw[ep j a y6];exact e')
   ·exact(hS.frame _ (hR.blk a k x e e').1 (Ge a k x qa e e')).1
theorem isoWFF_ok {B:Ev} (hB:EvOk P B) {f:Nat} {F:FF} (hF:FFOk P f F):FFOk P f (isoWFF B f F):=by
 intro ev hev args s v s' hr ρ w aq hR ha;have hr:AD (jV B f args s) (F ev args s)= .val v s':=hr;cases hi:jV B f args s with
 |no=>rw[hi]at hr;exact hF ev hev args s v s' hr ρ w aq hR ha
 |code=>rw[hi]at hr;exact hF ev hev args s v s' hr ρ w aq hR ha
 |val v1 s1=>rw[hi]at hr;cases hr;exact Gx hB hi hR ha
end Go.Eng
namespace Go.Eng
open Go
variable {P:Program}
def I1 (P:Program) (w:World):Prop:=∀g gl,P.globals[g]? =some gl->gl.name= "errors.errorType"->g<w.heap.size∧w.cell? ⟨g,0,none⟩=some (DB P)
structure PM (P:Program) (f te tp:Nat):Prop where
 enter:∀args w,(callFunc f args).run P w= .ok (.enter f args) w
 nil:∀(t:Value) (w:World),Calls P f #[.nilIface,t] w λe w'=>e= .returned (.bool false)∧w'=w
 HB:∀(e t:Addr) (old:Value) (w:World),I1 P w->w.cell? t=some old->w.frozen? t=false->
  Calls P f #[.iface te (.pointer (some e)),.iface tp (.pointer (some t))] w λev w'=>ev= .returned (.bool true)∧
   ∃w1:World,w.heap.size<=w1.heap.size∧(∀b,b<w.heap.size->w1.heap[b]? =w.heap[b]?)∧w1.tape=w.tape∧w1.os=w.os∧w1.output=w.output∧w'=w1.setCell t (.pointer (some e))
theorem Ab {ρ:Ren} {s s':AS} {w:World} {a off:Nat} {x:Loc} {v:Value} (hr:Rel P ρ s w) (hx:ρ a=some x) (h:hU s a off [v]=some s'):
  x.b<w.heap.size∧(∃old,w.cell? ⟨x.b,x.base+off,none⟩=some old)∧w.frozen? ⟨x.b,x.base+off,none⟩=false:=by
 unfold hU at h;obtain⟨lk,h⟩:=ae h;obtain⟨c,sz,n,ro,et,hb,h⟩:=bN h;obtain⟨hro,h⟩:=bh h;subst hro;obtain⟨e,he,h⟩:=aB h;obtain⟨e',fP,h⟩:=aB h;obtain⟨c',p9,h⟩:=aB h;obtain⟨hlt,hC⟩:=hr.blk a _ x hb hx;have hC:aL P ρ x w c sz n false et:=hC;obtain⟨hi,hlen,hcell⟩:=hC.cell _ _ he;obtain⟨Cs,hle⟩:=vN _ _ _ _ fP;have e0:Nat.mod off sz=off%sz:=rfl;have e1:Nat.div off sz=off/sz:=rfl;rw[e0]at Cs hle;rw[e1]at he hcell p9 hi;have Mp:off/sz*sz+off%sz=off:=by rw[Nat.mul_comm];exact Nat.div_add_mod off sz
 have hle:off%sz+1<=e.length:=hle;obtain⟨u,hu,_⟩:=hcell (off%sz) _ (List.getElem?_eq_getElem (by omega));have e2:x.base+(off/sz*sz+off%sz)=x.base+off:=by omega
 rw[e2]at hu;refine⟨hlt,⟨u,hu⟩,?_⟩;cases hf:w.frozen? ⟨x.b,x.base+off,none⟩with
 |false=>rfl
 |true=>have:=(hC.free rfl _ hf).1;rw[hu]at this;cases this
end Go.Eng
namespace Go.Eng
open Go
variable {P:Program}
theorem wL {n:String} {g g':Nat} {gl:Global} (h:P.globalNamed n=some g) (hg:P.globals[g']? =some gl) (hn:gl.name=n):g'=g:=by
 unfold Program.globalNamed at h;split at h
 ·rename_i a ha;cases h;have hm:g'∈(List.range P.globals.size).filter λg=>(P.globals[g]?).any (·.name==n):=by
   rw[List.mem_filter];refine⟨List.mem_range.2 (Array.getElem?_eq_some_iff.1 hg).1,?_⟩;rw[hg];simp[hn]
  rw[ha]at hm;simpa using hm
 ·cases h
theorem nv {w:World}:∀ {l:List (String×DataW Unit)} {ps:List MemPlace} {n:String} {d:DataW Unit},DataW.LaidVars P w l ps->(n,d)∈l->
  ∃g t cs fuel p,P.globalNamed n=some g∧(P.globals[g]?).map (·.type)=some t∧w.var? P n=some cs∧DataW.trod (λ_=>()) P w 0 (λ_=>true) false fuel t cs.toList=some (d,p)
 | [],_,_,_,_,h=>by cases h
 |(n',d')::l,ps,n,d,h,hm=>by
  obtain⟨g,t,cs,fuel,p,q,h1,h2,h3,h4,h5,_⟩:=h;rcases List.mem_cons.1 hm with e|hm
  ·cases e;exact⟨g,t,cs,fuel,p,h1,h2,h3,h4⟩
  ·exact nv h5 hm
theorem EV {w:World} {n:String} {g:Nat} {cs:Array Value} (h1:P.globalNamed n=some g) (h3:w.var? P n=some cs):g<w.heap.size:=by
 unfold World.var? at h3;rw[h1]at h3;simp only[Option.bind_some]at h3;split at h3
 ·rename_i hh;exact(Array.getElem?_eq_some_iff.1 hh).1
 ·cases h3
def vD:DataW Unit:= .agg ((List.range 20).map λi=> .lit (.int .u64 (10^i:Nat)))
theorem tv {w:World} {l:List (String×DataW Unit)} (hl:laidMetH P l w) {t e:TypeId}
  (hm:("internal/strconv.uint64pow10",vD)∈l) (ht:∀g,P.globalNamed "internal/strconv.uint64pow10"=some g->(P.globals[g]?).map (·.type)=some t)
  (hu:P.underlying t=some (.array 20 e)) (he:P.underlying e=some (.int .u64)) (hc:P.cellsOf e=1) {g:Nat} {gl:Global} (hg:P.globals[g]? =some gl) (hb:gl.name= "internal/strconv.uint64pow10"):
  g<w.heap.size∧∀(i:Nat) (v:Value),((List.range 20).map λi=>Value.int .u64 (10^i:Nat))[i]? =some v->w.cell? ⟨g,i,none⟩=some v:=by
 obtain⟨⟨ps,hl,_,_⟩,_⟩:=laidMetH_iff.1 hl;have yK:("internal/strconv.uint64pow10",vD)∈l.filter λx=>x.2.handleName?.isNone:=List.mem_filter.2 ⟨hm,rfl⟩;obtain⟨g1,t1,cs,fuel,p,h1,h2,h3,h4⟩:=nv hl yK;have SY:=wL h1 hg hb;subst SY;have:=ht _ h1;rw[h2]at this;injection this with this
 subst this;obtain⟨xs,m,rfl,hx,hlen,hn,Cs⟩:=DataW.trod_array hu h4;have hcell:=World.var?_cell h1 h3;refine⟨EV h1 h3,λi v BL=>?_⟩;rw[List.getElem?_map]at BL;have hi:i<20:=by
  rcases Nat.lt_or_ge i 20 with h|h
  ·exact h
  ·rw[List.getElem?_eq_none (by simpa using h)]at BL;cases BL
 rw[List.getElem?_range hi]at BL;injection BL with BL
 subst BL;have pG:=Cs i hi;rw[hc,Nat.mul_one]at pG;have NL:xs[i]? =some xs[i]:=by rw[List.getElem?_eq_getElem (by omega)]
 rw[NL]at pG;obtain⟨k,e1,e2,_⟩:=DataW.trod_int he pG;have hd:xs.map (·.1)=(List.range 20).map λi=>(.lit (.int .u64 (10^i:Nat)):DataW Unit):=by
  have:=congrArg Prod.fst hx;simp only[vD]at this;injection this with this
  exact this.symm
 have Ky:(xs.map (·.1))[i]? =((List.range 20).map λi=>(.lit (.int .u64 (10^i:Nat)):DataW Unit))[i]?:=by rw[hd]
 rw[List.getElem?_map,List.getElem?_map,NL,List.getElem?_range hi,e2]at Ky;simp only[Option.map_some,Option.some.injEq,DataW.lit.injEq,Lit.int.injEq,true_and]at Ky;rw[hcell];have MB:cs.toList[i]? =some (.int .u64 k):=by
  have:((cs.toList.drop i).take 1)[0]? =some (.int .u64 k):=by rw[e1];rfl
  rw[List.getElem?_take]at this;simpa using this
 rw[Array.getElem?_toList]at MB;rw[MB,Ky]
theorem errT_none {w:World} (h:(P.globals.toList.all λg=>!(g.name== "errors.errorType"))=true):I1 P w:= λg gl hg hn=>by have:=List.all_eq_true.1 h gl (by simpa using Array.mem_of_getElem? hg);rw[hn]at this;simp at this
theorem gworld_of {w:World} {t e:TypeId} {l:List (String×DataW Unit)} (hl:laidMetH P l w)
  (hm:("internal/strconv.uint64pow10",vD)∈l) (ht:∀g,P.globalNamed "internal/strconv.uint64pow10"=some g->(P.globals[g]?).map (·.type)=some t)
  (hu:P.underlying t=some (.array 20 e)) (he:P.underlying e=some (.int .u64)) (hc:P.cellsOf e=1) (hE:I1 P w):GWorld P w:=by
 intro g gl vs hg hv;unfold uR at hv;split at hv
 ·rename_i Hw eu;cases hv;unfold gW at eu;cases hb:(gl.name== "internal/strconv.uint64pow10")with
  |false=>rw[hb]at eu;cases eu
  |true=>
   rw[hb]at eu;have eu:some ((List.range 20).map λi=>Value.int .u64 (10^i:Nat))=some vs:=eu;injection eu with eu
   subst eu;exact tv hl hm ht hu he hc hg (by simpa using hb)
 ·cases hb:(gl.name== "errors.errorType")with
  |false=>rw[hb]at hv;cases hv
  |true=>
   rw[hb]at hv;have hv:some [DB P]=some vs:=hv;injection hv with hv
   subst hv;obtain⟨a,c⟩:=hE g gl hg (by simpa using hb);refine⟨a,λi v BL=>?_⟩;cases i with
   |zero=>cases BL;exact c
   |succ i=>simp at BL
end Go.Eng
namespace Go.Eng
open Go
variable {P:Program}
structure PreE (P:Program) (X:Cfg)where
 f:Nat
 o:Option FF
 h:mkFn P X f=o
noncomputable def preT {X:Cfg} (l:List (PreE P X)):Option (T (Option FF)):=
 List.rec (motive:= λ_=>Option (T (Option FF))) (some (jG 11)) (λp _ ih=>ob ih λt=>T.put (some p.o) t p.f) l
structure S9 (P:Program) (X:Cfg)where
 t:T (Option FF)
 h:∀f o,T.get t f=some o->mkFn P X f=o
theorem preT_ok {X:Cfg}:∀ {l:List (PreE P X)} {t:T (Option FF)},preT l=some t->∀f o,T.get t f=some o->mkFn P X f=o
 | [],t,h,f,o,hg=>by have h:some (jG 11)=some t:=h;cases h;rw[jo]at hg;cases hg
 |p::l,t,h,f,o,hg=>by
  have h:ob (preT l) (λt=>T.put (some p.o) t p.f)=some t:=h;obtain⟨t0,h0,h⟩:=U h;rw[T.bu _ _ _ _ h]at hg;by_cases hf:f=p.f
  ·rw[if_pos hf]at hg;cases hg;rw[hf];exact p.h
  ·rw[if_neg hf]at hg;exact preT_ok h0 f o hg
noncomputable def xz (P:Program) (X:Cfg) (pre:T (Option FF)) (L:List (Nat×Ev)) (f:Nat):Option FF:=
 Option.rec (motive:= λ_=>Option FF) (Hr P X L f)
  (λo=>Option.rec (motive:= λ_=>Option FF) none (λF=>Option.rec (motive:= λ_=>Option FF) (some (oM (i6 f X.tab) F)) (λB=>some (AE B f (oM (i6 f X.tab) F))) (ji f L)) o) (T.get pre f)
noncomputable def Gy (P:Program) (X:Cfg) (pre:T (Option FF)) (L:List (Nat×Ev)) (ev:Ev) (f:Nat) (args:List Value) (s:AS):Out:=
 Option.rec (motive:= λ_=>Out) .no (λF=>F ev args s) (xz P X pre L f)
noncomputable def DX (P:Program) (X:Cfg) (pre:T (Option FF)) (L:List (Nat×Ev)) (ev:Ev) (f:Value) (args:List Value) (s:AS):Out:=
 match f with
 | .func (.func f) first cap=>Gy P X pre L ev f (app first.toList (app args cap.toList)) s
 | .func (.yield l) first _=>nZ P ev l (app first.toList args) s
 |_=> .no
noncomputable def evalQ (P:Program) (X:Cfg) (pre:T (Option FF)) (L:List (Nat×Ev)) (n:Nat):Ev:=
 Nat.rec (motive:= λ_=>Ev) (λ_ _ _=> .no) (λ_ ih=>DX P X pre L ih) n
theorem Cl {X:Cfg} (hX:CfgOk P X) {pre:T (Option FF)} (hp:∀f F,T.get pre f=some (some F)->FFOk P f F) {L:List (Nat×Ev)} (hL:∀p∈L,EvOk P p.2) {f:Nat} {F:FF} (h:xz P X pre L f=some F):FFOk P f F:=by
 unfold xz at h;cases hg:T.get pre f with
 |none=>rw[hg]at h;exact EU hX hL h
 |some o=>
  rw[hg]at h;cases o with
  |none=>cases h
  |some F0=>
   have hF:FFOk P f (oM (i6 f X.tab) F0):=qX (hp f _ hg) _ λe he=>⟨(fh he).2,hX.tab e (fh he).1⟩
   have h:Option.rec (motive:= λ_=>Option FF) (some (oM (i6 f X.tab) F0)) (λB=>some (AE B f (oM (i6 f X.tab) F0))) (ji f L)=some F:=h;cases hb:ji f L with
   |none=>rw[hb]at h;cases h;exact hF
   |some B=>rw[hb]at h;cases h;obtain⟨p,nT,rfl⟩:=kr hb;exact x5 (hL p nT) hF
theorem Cm {X:Cfg} (hX:CfgOk P X) {pre:T (Option FF)} (hp:∀f F,T.get pre f=some (some F)->FFOk P f F) {L:List (Nat×Ev)} (hL:∀p∈L,EvOk P p.2) {ev:Ev} (hev:EvOk P ev):EvOk P (DX P X pre L ev):=by
 intro f args s v s' h ρ w f' aq hR hf ha;unfold DX at h;split at h
 ·rename_i fi first cap
  cases hf with| @func _ _ _ fa fb h1 h2=>?_
  have h:Option.rec (motive:= λ_=>Out) .no (λF=>F ev (app first.toList (app args cap.toList)) s) (xz P X pre L fi)= .val v s':=h;cases hF:xz P X pre L fi with
  |none=>rw[hF]at h;cases h
  |some F=>
   rw[hF]at h;have dp:af ρ (app first.toList (app args cap.toList)) (fa.toList++(aq++fb.toList)):=by rw[nP,nP];exact h1.append (ha.append h2)
   have:=Cl hX hp hL hF ev hev _ s v s' h ρ w _ hR dp;have he:bL (.func (.func fi) fa fb) aq=callFunc fi (fa.toList++(aq++fb.toList)).toArray:=by unfold bL;simp only[Deferred.ofValue,pure_bind,invoke];congr 1;apply Array.ext';simp
   rw[he];exact this
 ·rename_i l first cap
  cases hf with| @yield _ x _ _ fa fb hx h1 h2=>?_
  have dp:af ρ (app first.toList args) (fa.toList++aq):=by rw[nP];exact h1.append ha
  have:=EO hX.plain hX.mixed hev h hR hx dp;have he:bL (.func (.yield x.b) fa fb) aq=Instr.yield x.b (fa.toList++aq).toArray:=by unfold bL;simp only[Deferred.ofValue,pure_bind,invoke];congr 1;apply Array.ext';simp
  rw[he];exact this
 ·cases h
theorem evalQ_okF {X:Cfg} (hX:CfgOk P X) {pre:T (Option FF)} (hp:∀f F,T.get pre f=some (some F)->FFOk P f F) {L:List (Nat×Ev)} (hL:∀p∈L,EvOk P p.2):∀n,EvOk P (evalQ P X pre L n)
 |0=> λf args s v s' h=>by cases h
 |n+1=>Cm hX hp hL (evalQ_okF hX hp hL n)
theorem preF {X0:Cfg} (Ke:CfgOk P X0) {pre:T (Option FF)} (hp:∀f o,T.get pre f=some o->mkFn P X0 f=o):∀f F,T.get pre f=some (some F)->FFOk P f F:= λ_ _ h=>vY Ke (hp _ _ h)
theorem evalQ_ok {X X0:Cfg} (hX:CfgOk P X) (Ke:CfgOk P X0) {pre:T (Option FF)} (hp:∀f o,T.get pre f=some o->mkFn P X0 f=o) {L:List (Nat×Ev)} (hL:∀p∈L,EvOk P p.2) (n:Nat):EvOk P (evalQ P X pre L n):=evalQ_okF hX (preF Ke hp) hL n
noncomputable def preWith (f:Nat) (F:FF) (pre:T (Option FF)):T (Option FF):=Option.rec (motive:= λ_=>T (Option FF)) .e (λt=>t) (T.put (some (some F)) pre f)
theorem preWith_ok {f:Nat} {F:FF} (hF:FFOk P f F) {pre:T (Option FF)} (hp:∀g G,T.get pre g=some (some G)->FFOk P g G):∀g G,T.get (preWith f F pre) g=some (some G)->FFOk P g G:=by
 intro g G h;unfold preWith at h;cases ht:T.put (some (some F)) pre f with
 |none=>rw[ht]at h;rw[T.get_e]at h;cases h
 |some t=>
  rw[ht]at h;have h:T.get t g=some (some G):=h;rw[T.bu _ _ _ _ ht]at h;by_cases hg:g=f
  ·rw[if_pos hg]at h;cases h;rw[hg];exact hF
  ·rw[if_neg hg]at h;exact hp g G h
end Go.Eng
namespace Go.Eng
open Go
variable {P:Program}
structure GuardFits (P:Program) (f fill sH sm t:Nat):Prop where
 enter:∀args w,(callFunc f args).run P w= .ok (.enter f args) w
 Jo:∀args w,(callFunc fill args).run P w= .ok (.enter fill args) w
 Jp:∀args w,(callFunc sH args).run P w= .ok (.enter sH args) w
 run:∀(l x:Value) (w:World) (R:Value->World->Prop),
  Calls P fill #[l,.func (.func sm) #[] #[],x] (w.alloc (.cells #[.pointer none] t)) (λe w1=>∃u8,e= .returned u8∧Calls P sH #[u8] w1 (λe2 w2=>∃p old,e2= .returned (.pointer p)∧w2.cell? ⟨w.heap.size,0,none⟩=some old∧w2.frozen? ⟨w.heap.size,0,none⟩=false∧R (.pointer p) (w2.setCell ⟨w.heap.size,0,none⟩ (.pointer p))))->
  Calls P f #[l,x] w λe w'=>∃u,e= .returned u∧R u w'
theorem yB (f:Nat) (args:List Value):bL (.func (.func f) #[] #[]) args=callFunc f args.toArray:=by unfold bL;simp only[Deferred.ofValue,pure_bind,invoke];congr 1;apply Array.ext';simp
theorem nw {f:Nat} {args:List Value} {w:World} {R:Value->World->Prop} (he:∀args w,(callFunc f args).run P w= .ok (.enter f args) w) (h:bb P (bL (.func (.func f) #[] #[]) args) w R):
  Calls P f args.toArray w λe w'=>∃u,e= .returned u∧R u w':=by
 rw[yB]at h;unfold bb at h;rw[he]at h;exact callsIn_wide.1 h
theorem guard_ok {f fill sH sm t:Nat} (hF:GuardFits P f fill sH sm t):FFOk P f (As (.guard fill sH sm t)):=by
 intro ev hev args s v s' h ρ w aq hR ha;have h:AV fill sH sm t ev args s= .val v s':=h
 match args,ha,h with
 | [],_,h=>cases h
 | [_],_,h=>cases h
 |_::_::_::_,_,h=>cases h
 | [l,x],.cons (u:=l') hl (.cons (u:=x') hx .nil),h=>
  have h:Option.rec (motive:= λ_=>Out) .no (λs0=>D9 ev fill sH sm s.nx l x s0) (s.new (.cells (.n (some [.pointer none]) .e .e) 1 1 false t))= .val v s':=h;cases hs0:s.new (.cells (.n (some [.pointer none]) .e .e) 1 1 false t)with
  |none=>rw[hs0]at h;cases h
  |some s0=>
   rw[hs0]at h;replace h:Out.rec (motive:= λ_=>Out) .no (λ_ _ _=> .no) (λv s1=>D8 ev sH s.nx v s1) (ev (.func (.func fill) #[] #[]) [l,.func (.func sm) #[] #[],x] s0)= .val v s':=h;cases h8:ev (.func (.func fill) #[] #[]) [l,.func (.func sm) #[] #[],x] s0 with
   |no=>rw[h8]at h;cases h
   |code=>rw[h8]at h;cases h
   |val v8 s1=>
    rw[h8]at h;replace h:Out.rec (motive:= λ_=>Out) .no (λ_ _ _=> .no) (λv9 s2=>vp s.nx v9 s2) (ev (.func (.func sH) #[] #[]) [v8] s1)= .val v s':=h;cases h9:ev (.func (.func sH) #[] #[]) [v8] s1 with
    |no=>rw[h9]at h;cases h
    |code=>rw[h9]at h;cases h
    |val v9 s2=>
     rw[h9]at h;replace h:vp s.nx v9 s2= .val v s':=h;unfold vp at h;split at h
     ·rename_i q;replace h:=q9 h;obtain⟨s3,kU,h⟩:=U h;cases h;have PL:=(AS.dO hs0).1;have hB:bX P (ρ.put s.nx ⟨w.heap.size,0,1,[]⟩) ⟨w.heap.size,0,1,[]⟩ (w.alloc (.cells #[.pointer none] t)) (.cells (.n (some [.pointer none]) .e .e) 1 1 false t):=
       mU (els:= [[.pointer none]]) (cs:= [.pointer none]) (rest:= []) (lo:=0) (hi:=0) (by rfl) (by simp) rfl (.cons .eO .nil) (λo h1 h2=>by omega) rfl
      obtain⟨Ka,FD⟩:=hR.alloc (w':=w.alloc (.cells #[.pointer none] t)) hs0 rfl (by simp) (λb hb=>RowKit.Below.heap_alloc w _ b hb) rfl rfl rfl hB;have Lq:=FD.le hR;unfold bb;rw[hF.enter];refine CallsIn.mono (callsIn_wide.2 (hF.run l' x' w (λu w'=>∃aj,ag aj (.pointer q) u∧Rel P aj s' w'∧aR ρ s w aj s' w') ?_)) (λe w' h=>h);have c8:=nw hF.Jo (hev _ _ _ _ _ h8 _ _ (.func (.func fill) #[] #[]) [l',.func (.func sm) #[] #[],x'] Ka (.func fill .nil .nil) (.cons (hl.mono Lq) (.cons (.func sm .nil .nil) (.cons (hx.mono Lq) .nil))));refine c8.mono ?_;rintro e w1 ⟨u8,rfl,bf,SZ,de,dq⟩;refine⟨u8,rfl,?_⟩;have c9:=nw hF.Jp (hev _ _ _ _ _ h9 _ _ (.func (.func sH) #[] #[]) [u8] de (.func sH .nil .nil) (.cons SZ .nil));refine c9.mono ?_;rintro e w2 ⟨u9,rfl,du,Om,eS,fI⟩;have M0:du s.nx=some ⟨w.heap.size,0,1,[]⟩:=by
       have e0:(ρ.put s.nx ⟨w.heap.size,0,1,[]⟩) s.nx=some ⟨w.heap.size,0,1,[]⟩:=by unfold Ren.put;rw[if_pos rfl]
       have e1:=dq.jj s.nx (by rw[PL];omega);have e2:=fI.jj s.nx (by have:=dq.nx;omega);rw[e2,e1,e0]
      obtain⟨_,⟨old,ho⟩,GC⟩:=Ab eS M0 kU;have hp:∃p,u9= .pointer p:=by cases Om<;>exact⟨_,rfl⟩
      obtain⟨p,rfl⟩:=hp;refine⟨p,old,rfl,ho,GC,?_⟩;obtain⟨w3,_,hw3,g3,g4⟩:=js eS M0 kU (.cons Om .nil);have hw3:w3=w2.setCell ⟨w.heap.size,0,none⟩ (.pointer p):=hw3;subst hw3;exact⟨du,Om,g3,FD.trans (dq.trans (fI.trans g4))⟩
     ·cases h
end Go.Eng
