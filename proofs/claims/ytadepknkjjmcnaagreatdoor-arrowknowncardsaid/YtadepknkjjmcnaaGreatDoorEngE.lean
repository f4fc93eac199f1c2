import Derived.Test.YtadepknkjjmcnaaGreatDoorEngD
import Derived.Shelf.SlIterI.Nil
import Derived.Shelf.SlLaysX
import Derived.WalkKit
import Derived.Laws.IdiomRangeMap
import Derived.FnData
import Derived.OpenShut
import Derived.ChangeArms
import Derived.MakeChecks
import Derived.LaidSub
set_option linter.unusedVariables false
set_option linter.unusedSimpArgs false
/- An evaluator of the code of the model, proved: what it answers, the program does, whatever the world. Part of the proof of ArrowKnown. -/
noncomputable section
namespace Go.Proofs
open Go.RowKit Go.Maps Go.Sort Go.Shelf
variable {P : Program} {ρ : Ren}
set_option maxRecDepth 100000 in
set_option maxHeartbeats 1000000 in
theorem EngKeys.at_in (L : SlLaysZI.n10 P ρ) {H : Type} (F : Fence) (n : Nat) (h10 : F.fn (ρ.f 10)) (hro : F.round = none) (hn : 1 ≤ n) (l Bm Bo b nn : Nat) (D0 : DataW H) {R : Value → Option (DataW H × List MemPlace)} (J : List Int → World → Prop)
    (hY : ∀ pre x W, J pre W → pre.length < Maps.size D0 → YieldAt F (n - 1) P l #[encZ x] W fun e W' => e = .returned (.bool true) ∧ J (pre ++ [x]) W' ∧ KeepsWalks W W')
    (W : World) (hJ : AbidesFrom W.heap.size J) (hm : W.cell? ⟨Bm, Bo, none⟩ = some (.map (some b))) (hown : W.ownsMap P (ρ.t 26) R b nn D0) (h0 : J [] W) :
    CallsIn F n P (ρ.f 10) #[.func (.yield l) #[] #[], .pointer (some ⟨Bm, Bo, none⟩)] W fun e W' => (∃ v, e = .returned v) ∧ ∃ ss : List Int, ss.Perm (intKeys D0) ∧ J ss W' := by
  have mixed := L.mixed; have t0 := L.t0; have a0 := L.a0; have z0 := L.z0; have v0 := L.v0; have t4 := L.t4; have a4 := L.a4; have z4 := L.z4; have v4 := L.v4; have t23 := L.t23; have a23 := L.a23; have z23 := L.z23; have v23 := L.v23; have t26 := L.t26; have a26 := L.a26; have z26 := L.z26; have v26 := L.v26; have t33 := L.t33; have a33 := L.a33; have z33 := L.z33; have v33 := L.v33
  have u0 := run_underlying L.t0; have u4 := run_underlying L.t4; have u23 := run_underlying L.t23; have u26 := run_underlying L.t26; have u33 := run_underlying L.t33
  obtain ⟨_, _, FG⟩ := L.f10
  refine callsIn_of_wp FG rfl h10 ?_ hro
  simp only [SlBodyZ.n10_ntmps ρ, List.size_toArray, List.length_cons, List.length_nil, Nat.reduceAdd, Nat.reduceSub, Array.replicate_succ, Array.replicate_zero, List.push_toArray, List.append_toArray, List.nil_append, List.cons_append]
  gi_wp2_with (first
    | (gi_at_range; refine wpListIn_range_own _ rfl _ (ρ.t 23) rfl (ρ.t 26) (ρ.t 3) (int_keyed L.t26) L.t23 _ b nn _ rfl hown ?_; intro w0 hrg0 hg0 hs0)
    | gi_in)
  go_frame
  gi_loopw [3] (fun _ wr => ∃ (left : Lit → Bool) (cnt : Nat) (ss : List Int), wr.ranges P (ρ.t 26) R b W.heap.size nn D0 left cnt ∧ ss.length + cnt ≤ Maps.size D0 ∧ CollectedI D0 left ss ∧ J ss wr)
    (fun _ wr => wr.rangeLeft b W.heap.size)
  case atStart =>
    exact ⟨_, _, [], hrg0, by simp, CollectedI.start D0, hJ [] W w0 none h0 hg0 (fun r e => by cases e)⟩
  case round =>
    obtain ⟨left, cnt, ss, hrg, hcs, hC, hJs⟩ := hrel
    gi_wp2_with (first
      | (gi_at_next; refine wpListIn_next_ranges _ rfl _ rfl (ρ.t 26) (int_keyed L.t26) R encZ id (fun key kl hk => by obtain ⟨x, hx, _⟩ := Maps.keyOf_i64 L.t26 hk; exact ⟨x, hx⟩) (fun v _ _ => ⟨v, rfl⟩) b W.heap.size nn _ _ _ rfl hrg ?_ ?_)
      | gi_in)
    ·
      intro hc0 hl0
      gi_wp2
      go_end0
      exact ⟨⟨_, rfl⟩, ss, hC.perm hown (int_keyed L.t26) L.t26 hl0, hJs⟩
    ·
      intro x c kl yd yp w2 cnt2 hkey hlk hv hat hrg2 hlt hg2 hs2 hen
      obtain ⟨x', ex, rfl, _⟩ := Maps.keyOf_i64 L.t26 hkey
      obtain rfl : x = x' := encZ_inj ex
      have hJ2 : J ss w2 := hJ ss wr w2 (some W.heap.size) hJs hg2 (fun r e => by cases e; exact ⟨Nat.le_refl _, hrg.iter_walk⟩)
      obtain ⟨fn, tmps, assign, body, hy, hR⟩ := hY ss x w2 hJ2 (by omega)
      clear hs2
      gi_wp2
      refine hR.mono ?_
      rintro e W3 ⟨rfl, hJ3, hk3⟩
      gi_wp2
      have hrg3 := hrg2.of_walks hk3
      go_roundw
      case rel => exact ⟨_, cnt2, ss ++ [x], hrg3, by simp; omega, hC.step hlk hat, hJ3⟩
      case measure => rw [hrg3.left_eq, hrg.left_eq]; exact hlt
theorem EngKeys.at_gives (L : SlLaysZI.n10 P ρ) {H : Type} (F : Fence) (n : Nat) (h10 : F.fn (ρ.f 10)) (hro : F.round = none) (hn : 1 ≤ n) (Bm Bo b nn : Nat) (D0 : DataW H) {R : Value → Option (DataW H × List MemPlace)} (w : World) (hBm : Bm < w.heap.size)
    (hm : w.cell? ⟨Bm, Bo, none⟩ = some (.map (some b))) (hown : w.ownsMap P (ρ.t 26) R b nn D0) :
    SeqGives F n P (ρ.f 10) #[.pointer (some ⟨Bm, Bo, none⟩)] encZ (fun ss => ss.Perm (intKeys D0)) (Maps.size D0) w := fun l J W hW hJ hY h0 => by
  have hown' : W.ownsMap P (ρ.t 26) R b nn D0 := by
    have hbl := hown.lt
    obtain ⟨es, clock, hb, Ft, hs, hD⟩ := hown
    exact ⟨es, clock, (hW.block b hbl).trans hb, Ft, hs, hD⟩
  exact EngKeys.at_in { L with } F n h10 hro hn l Bm Bo b nn D0 J hY W hJ ((hW.cell (p := ⟨Bm, Bo, none⟩) hBm).trans hm) hown' h0
set_option maxRecDepth 100000 in
set_option maxHeartbeats 1000000 in
theorem EngKeys.nil_in (L : SlLaysZI.n10 P ρ) (F : Fence) (n : Nat) (h10 : F.fn (ρ.f 10)) (hro : F.round = none) (l Bm Bo : Nat) (J : List Int → World → Prop) (W : World) (hJ : AbidesFrom W.heap.size J)
    (hm : W.cell? ⟨Bm, Bo, none⟩ = some (.map none)) (h0 : J [] W) :
    CallsIn F n P (ρ.f 10) #[.func (.yield l) #[] #[], .pointer (some ⟨Bm, Bo, none⟩)] W fun e W' => (∃ v, e = .returned v) ∧ ∃ ss : List Int, ss = [] ∧ J ss W' := by
  have mixed := L.mixed; have t0 := L.t0; have a0 := L.a0; have z0 := L.z0; have v0 := L.v0; have t4 := L.t4; have a4 := L.a4; have z4 := L.z4; have v4 := L.v4; have t23 := L.t23; have a23 := L.a23; have z23 := L.z23; have v23 := L.v23; have t26 := L.t26; have a26 := L.a26; have z26 := L.z26; have v26 := L.v26; have t33 := L.t33; have a33 := L.a33; have z33 := L.z33; have v33 := L.v33
  have u0 := run_underlying L.t0; have u4 := run_underlying L.t4; have u23 := run_underlying L.t23; have u26 := run_underlying L.t26; have u33 := run_underlying L.t33
  obtain ⟨_, _, FG⟩ := L.f10
  refine callsIn_of_wp FG rfl h10 ?_ hro
  simp only [SlBodyZ.n10_ntmps ρ, List.size_toArray, List.length_cons, List.length_nil, Nat.reduceAdd, Nat.reduceSub, Array.replicate_succ, Array.replicate_zero, List.push_toArray, List.append_toArray, List.nil_append, List.cons_append]
  have hrg := run_range_nilMap (P := P) W (ρ.t 23) (ρ.t 26) (ρ.t 3) L.t23
  have hnx : ∀ ty, (Instr.next (.pointer (some ⟨W.heap.size, 0, none⟩)) false ty).run P (W.alloc (.mapIter none 0 #[] 0)) = _ := fun ty => run_next_nilMap _ ty 0 0 #[]
  gi_wp2
  refine wpIn_loop_rounds 1 ?_
  rw [roundsIn_succ]
  gi_wp2
  go_end0
  exact ⟨⟨_, rfl⟩, [], rfl, hJ [] W _ none h0 (World.grownBy_alloc W _ none) (fun r e => by cases e)⟩
theorem EngKeys.nil_gives (L : SlLaysZI.n10 P ρ) (F : Fence) (n : Nat) (h10 : F.fn (ρ.f 10)) (hro : F.round = none) (Bm Bo : Nat) (w : World) (hBm : Bm < w.heap.size) (hm : w.cell? ⟨Bm, Bo, none⟩ = some (.map none)) :
    SeqGives F n P (ρ.f 10) #[.pointer (some ⟨Bm, Bo, none⟩)] encZ (fun ss : List Int => ss = []) 0 w := fun l J W hW hJ _ h0 =>
  EngKeys.nil_in { L with } F n h10 hro l Bm Bo J W hJ ((hW.cell (p := ⟨Bm, Bo, none⟩) hBm).trans hm) h0
end Go.Proofs

end
noncomputable section
namespace Go.Eng
open Go
variable {s s':AS} {els:List (List Value)} {cs:List Value} {x:Loc} {f g kt n sz:Nat} {P:Program} {ρ:Ren} {t:T (List Value)} {w w':World}
theorem Rel.Ir {k:Blk} (hr:Rel P ρ s w) (hs:s.new k=some s') (hx:w.heap.size<=x.b) (hsz:x.b<w'.heap.size) (HV:w.heap.size<=w'.heap.size) (hold:∀b,b<w.heap.size->w'.heap[b]? =w.heap[b]?) (ht:w'.tape=w.tape) (ho:w'.os=w.os) (hu:w'.output=w.output) (hb:cj P (ρ.put s.nx x) x w' k):Rel P (ρ.put s.nx x) s' w'∧aN ρ s w (ρ.put s.nx x) s' w':=by
 obtain⟨hnx,hg⟩:=AS.eg hs;have hle:aG ρ (ρ.put s.nx x):= λa y e=>by
  unfold Ren.put;by_cases ha:a=s.nx
  ·rw[ha,hr.eu _ (Nat.le_refl _)]at e;cases e
  ·rw[if_neg ha];exact e
 have bC:∀a,a≠s.nx->(ρ.put s.nx x) a=ρ a:= λa ha=>by unfold Ren.put;rw[if_neg ha]
 have fp:(ρ.put s.nx x) s.nx=some x:=by unfold Ren.put;rw[if_pos rfl]
 refine(λ(hS:aN ρ s w (ρ.put s.nx x) s' w')=>⟨⟨λa ha=>?_,λa ha=>?_,λa k' y e e'=>?_,by rw[AS.iz hs];have:=hr.lim;omega,λa a' k1 k2 x1 x2 hne e1 e2 r1 r2 kg=>?_,hr.gl.of hS.size hS.frame⟩,hS⟩) ⟨λa ha=>?_,by omega,ht,ho,hu,HV,λb cz hn=>?_,λa ha hn=>?_,λb r cz=>⟨r,by rw[hold b (Array.getElem?_eq_some_iff.1 cz).1];exact cz⟩,AS.iz hs,AS.xj hs hr.lim,λa k' y _ _ fZ _ hy=>hold _ (hr.blk a k' y fZ hy).1⟩
 ·rw[bC a (by omega)]
 ·refine⟨hold b cz,?_⟩;rintro⟨a,k',y,e,e',rfl⟩;rw[hg]at e;by_cases ha:a=s.nx
  ·rw[ha,fp]at e';cases e';omega
  ·rw[if_neg ha]at e;rw[bC a ha]at e';exact hn ⟨a,k',y,e,e',rfl⟩
 ·exact .inl (by rw[hg,if_neg (by omega)])
 ·rw[bC a (by omega)];exact hr.eu a (by omega)
 ·rw[hg,if_neg (by omega)];exact hr.top a (by omega)
 ·rw[hg]at e;by_cases ha:a=s.nx
  ·rw[if_pos ha]at e;cases e;rw[ha,fp]at e';cases e';exact⟨hsz,hb⟩
  ·rw[if_neg ha]at e;rw[bC a ha]at e';obtain⟨h1,h2⟩:=hr.blk a k' y e e';exact⟨by omega,(h2.congr (hold _ h1)).mono hle⟩
 ·rw[hg]at e1 e2;by_cases ha:a=s.nx
  ·rw[ha,fp]at r1;cases r1;have cZ:a'≠s.nx:= λe=>hne (ha.trans e.symm);rw[if_neg cZ]at e2;rw[bC a' cZ]at r2;have:=(hr.blk a' k2 x2 e2 r2).1;omega
  ·rw[if_neg ha]at e1;rw[bC a ha]at r1;by_cases cZ:a'=s.nx
   ·rw[cZ,fp]at r2;cases r2;have:=(hr.blk a k1 x1 e1 r1).1;omega
   ·rw[if_neg cZ]at e2;rw[bC a' cZ]at r2;exact hr.aX a a' k1 k2 x1 x2 hne e1 e2 r1 r2 kg
theorem Rel.grow (hr:Rel P ρ s w) (HV:w.heap.size<=w'.heap.size) (hold:∀b,b<w.heap.size->w'.heap[b]? =w.heap[b]?) (ht:w'.tape=w.tape) (ho:w'.os=w.os) (hu:w'.output=w.output):Rel P ρ s w'∧aN ρ s w ρ s w':=
  ⟨⟨hr.eu,hr.top,λa k x e e'=>(by obtain⟨h1,h2⟩:=hr.blk a k x e e';exact⟨by omega,h2.congr (hold _ h1)⟩),hr.lim,hr.aX,hr.gl.of HV λb hb hn=>⟨hold b hb,hn⟩⟩,
   ⟨λ_ _=>rfl,Nat.le_refl _,ht,ho,hu,HV,λb hb hn=>⟨hold b hb,hn⟩,λ_ _ _=> .inl rfl,λb r hb=>⟨r,by rw[hold b (Array.getElem?_eq_some_iff.1 hb).1];exact hb⟩,rfl,λ_ _=>rfl,
    λa k x _ _ hk _ hx=>hold _ (hr.blk a k x hk hx).1⟩⟩
theorem pt (x:Int):∀l:List Int,(Er x l).Perm (x::l)
 | []=> .refl _
 |y::l=>by
  show(ab (wo y x) (y::Er x l) (x::y::l)).Perm _;rw[ah];split
  ·exact((pt x l).cons y).trans (List.Perm.swap x y l)
  ·exact .refl _
theorem mJ:∀l:List Int,(pF l).Perm l
 | []=> .refl _
 |x::l=>(pt x (pF l)).trans ((mJ l).cons x)
theorem qs (x:Int):∀l:List Int,l.Pairwise (λa b=>a<=b)->(Er x l).Pairwise (λa b=>a<=b)
 | [],_=>by show List.Pairwise _ [x];simp
 |y::l,h=>by
  show(ab (wo y x) (y::Er x l) (x::y::l)).Pairwise _;rw[ah,mh];obtain⟨h1,h2⟩:=List.pairwise_cons.1 h;split
  ·rename_i hlt;have hlt:y<x:=by simpa using hlt
   refine List.pairwise_cons.2 ⟨λb hb=>?_,qs x l h2⟩;rcases List.mem_cons.1 ((pt x l).mem_iff.1 hb)with rfl|hb
   ·omega
   ·exact h1 b hb
  ·rename_i hlt;have hlt:¬y<x:=by simpa using hlt
   refine List.pairwise_cons.2 ⟨λb hb=>?_,h⟩;rcases List.mem_cons.1 hb with rfl|hb
   ·omega
   ·have:=h1 b hb;omega
theorem om:∀l:List Int,(pF l).Pairwise (λa b=>a<=b)
 | []=> .nil
 |x::l=>qs x _ (om l)
theorem zT {l ss:List Int} (h:ss.Perm l):ss.mergeSort (λx y=>decide (x<=y))=pF l:=by have h1:=mergeSort_of_perm_i (h.trans (mJ l).symm);rw[show(λx y:Int=>decide (x<=y))=leI from rfl,h1];refine List.mergeSort_of_pairwise ?_;exact(om l).imp λ {a b} G9=>by simpa[leI]using G9
theorem Ll {n:Int} (h:LA n=true):(Lit.int .i64 n).wf=true:=by
 have e1:IntKind.i64.min= -9223372036854775808:=by decide
 have e2:IntKind.i64.max=9223372036854775807:=by decide
 show(decide (IntKind.i64.min<=n)&&decide (n<=IntKind.i64.max))=true;rw[e1,e2,Bool.and_eq_true,decide_eq_true_eq,decide_eq_true_eq];cases n with
 |ofNat m=>have h:Nat.blt m 9223372036854775808=true:=h;have:=Nat.le_of_ble_eq_true h;simp only[Int.ofNat_eq_natCast];omega
 |negSucc m=>have h:Nat.blt m 9223372036854775808=true:=h;have:=Nat.le_of_ble_eq_true h;rw[Int.negSucc_eq];omega
theorem mK:∀ {es:List (Value×Value×Nat)} {l:List Int},BW es=some l->es.map (·.1)=l.map encZ∧∀n∈l,LA n=true
 | [],l,h=>by cases h;exact⟨rfl,λn hn=>by cases hn⟩
 |(k,v,b)::es,l,h=>by
  have h:(match(generalizing:=false) k with| .int k n=>ab (ab (tF k .i64) (LA n) false) (ob (BW es) λl=>some (n::l)) none|_=>none)=some l:=h;split at h
  ·rename_i k n;obtain⟨h1,h⟩:=ae h;obtain⟨h2,h3⟩:=ai h1;obtain⟨l',G6,h⟩:=U h;cases h;have:=jA.1 h2;subst this;obtain⟨i1,i2⟩:=mK G6;refine⟨by simp[i1],λm hm=>?_⟩;rcases List.mem_cons.1 hm with rfl|hm
   ·exact h3
   ·exact i2 m hm
  ·cases h
theorem vT:∀l:List Int,rK l=l.map λn=> [.int .i64 n]
 | []=>rfl
 |n::l=>by show [.int .i64 n]::rK l=_;rw[vT l];rfl
theorem zU (l:List Int):(rK l).flatten=l.map encZ:=by
 rw[vT];induction l with
 |nil=>rfl
 |cons n l ih=>simp[ih]
structure SortFits (P:Program) (f g et kt:Nat):Prop where
 enter:∀args w,(callFunc f args).run P w= .ok (.enter f args) w
 key:P.underlying kt=some (.int .i64)
 sorted:∀(lb:Array Value) (S:List Int->Prop) (N:Nat) (w:World),N<=maxLen->N*8<=140737488355328->SeqGives Fence.wide 2 P g lb encZ S N w->
  CallsIn Fence.wide 5 P f #[.func (.func g) #[] lb] w λe w'=>∃(v:Value) (ss:List Int),e= .returned v∧S ss∧
   w'.ownsRow w.heap.size et 1 v ss.length ((ss.mergeSort (λx y=>decide (x<=y))).map encZ)∧(v= .slice none 0 0↔ss= [])∧RowKit.Below w.heap.size w w'
 keys:∀(Bm Bo b nn:Nat) (D0:DataW Nat) (R:Value->Option (DataW Nat×List MemPlace)) (w:World),Bm<w.heap.size->w.cell? ⟨Bm,Bo,none⟩=some (.map (some b))->w.ownsMap P kt R b nn D0->
  SeqGives Fence.wide 2 P g #[.pointer (some ⟨Bm,Bo,none⟩)] encZ (λss=>ss.Perm (intKeys D0)) (Maps.size D0) w
 none:∀(Bm Bo:Nat) (w:World),Bm<w.heap.size->w.cell? ⟨Bm,Bo,none⟩=some (.map none)->SeqGives Fence.wide 2 P g #[.pointer (some ⟨Bm,Bo,none⟩)] encZ (λss:List Int=>ss= []) 0 w
open Go.WideElems (Fit rd rg)in
theorem tz {kt:TypeId} {es:List (Value×Value×Nat)} {ents:Array MapEntry} {ck b:Nat} {w:World} {l:List Int} (hm:aW P ρ kt es ents) (hb:Borns ck ents) (hh:w.heap[b]? =some (.map ents ck)) (hl:BW es=some l) (hn:es.length<=1000000) (hk:P.underlying kt=some (.int .i64)):
  ∃D0:DataW Nat,w.ownsMap P kt (λ_=>some (.nil,[])) b ents.size D0∧(intKeys D0).Perm l∧Maps.size D0=l.length:=by
 obtain⟨k1,k2⟩:=mK hl
 have fj:=hm
 obtain⟨l0,hp,hf,ew⟩:=hm
 have hlen:ents.toList.length=l.length:=by
  rw[<-hp.length_eq]
  have e1:=congrArg List.length (nJ hf)
  have e2:=congrArg List.length k1
  simp only[List.length_map]at e1 e2
  omega
 have hes:es.length=l.length:=by have:=congrArg List.length k1;simpa using this
 have hkey:∀x∈ents.toList,∃n,x.key=encZ n∧LA n=true:= λx hx=>by
  obtain⟨p,oQ,h1,_⟩:=F2.cp hf x (hp.mem_iff.2 hx)
  have:p.1∈es.map (·.1):=List.mem_map.2 ⟨p,oQ,rfl⟩
  rw[k1]at this
  obtain⟨n,JM,he⟩:=List.mem_map.1 this
  exact⟨n,by rw[<-h1,<-he],k2 n JM⟩
 have dL:∀x∈ents.toList,∀n,x.key=encZ n->LA n=true->rd P kt (λ_=>some (DataW.nil (H:=Nat),[])) x=some (.int .i64 n,.nil):= λx hx n e ho=>by
  have hw:=Ll ho
  unfold rd
  rw[e]
  simp[Go.keyOf,hk,mapKey,hw]
 refine⟨_,⟨ents,ck,hh,⟨?_,⟨hb.2,hb.1,fj.nodup⟩,λx hx=>?_⟩,Nat.le_refl _,rfl⟩,?_,?_⟩
 ·have:ents.size=l.length:=by simpa using hlen
  unfold maxLen
  omega
 ·obtain⟨n,e,ho⟩:=hkey x hx
  exact⟨_,dL x hx n e ho⟩
 ·show(((ents.toList.map (rg P kt _)).foldr DataW.insert []).map λp=>intOf p.1).Perm l
  refine((Go.WideShapes.sorted_perm _).map _).trans ?_
  rw[List.map_map]
  have e1:ents.toList.map ((λp:Lit×DataW Nat=>intOf p.1)∘rg P kt (λ_=>some (DataW.nil,[])))=(ents.toList.map (·.key)).map RowKit.intOf:=by
   rw[List.map_map]
   refine List.map_congr_left λx hx=>?_
   obtain⟨n,e,ho⟩:=hkey x hx
   simp only[Function.comp,rg,dL x hx n e ho,e]
   rfl
  rw[e1]
  have h2:=((hp.map (·.key)).map RowKit.intOf).symm
  rw[nJ hf,k1]at h2
  have e3:(l.map encZ).map RowKit.intOf=l:=by
   rw[List.map_map]
   exact(List.map_congr_left (λn _=>rfl)).trans (List.map_id l)
  rw[e3]at h2
  exact h2
 ·show((ents.toList.map (rg P kt _)).foldr DataW.insert []).length=_
  rw[(Go.WideShapes.sorted_perm _).length_eq,List.length_map,hlen]
theorem tB:∀l:List Int,af ρ (l.map encZ) (l.map encZ)
 | []=> .nil
 |n::l=> .cons (.int .i64 n) (tB l)
theorem RU {b b':Array Value} {p o:Nat} (hb:b.toList= [.pointer (some ⟨p,o,none⟩)]) (h:af ρ b.toList b'.toList):∃x,ρ p=some x∧b'= #[.pointer (some ⟨x.b,x.base+o,none⟩)]:=by
 rw[hb]at h;generalize hm:b'.toList=m at h;cases h with|cons hv hs=>?_
 cases hs;cases hv with| @ptr _ x _ hx=>?_
 exact⟨x,hx,Array.ext' hm⟩
theorem OG {b b':Array Value} (hb:b.toList= []) (h:af ρ b.toList b'.toList):b'= #[]:=by rw[hb]at h;generalize hm:b'.toList=m at h;cases h;exact Array.ext' hm
theorem Lm {gb:Nat} {cur:Array Value} {et:TypeId} (Di:w.heap[gb]? =some (.cells cur et (0,0))) (ht:vY els 0 .e=some t) (hl:∀l∈els,l.length=sz) (hn:els.length=n) (hc:af ρ els.flatten cs) (RV:cur.toList.take cs.length=cs):cj P ρ ⟨gb,0,cur.size,[]⟩ w (.cells t sz n false et):=by
 have hlt:=(Array.getElem?_eq_some_iff.1 Di).1;have hsz:(w.heap.extract 0 gb).size=gb:=by simp;omega
 have hall:cs++cur.toList.drop cs.length=cur.toList:=by have:=List.take_append_drop cs.length cur.toList;rw[RV]at this;exact this
 have hlen:cs.length+(cur.toList.drop cs.length).length=cur.size:=by have:=congrArg List.length hall;simpa using this
 have:=nI (P:=P) (ρ:=ρ) (w:={w with heap:=w.heap.extract 0 gb}) (w':={w with heap:=(w.heap.extract 0 gb).push (.cells (cs++cur.toList.drop cs.length).toArray et (0,0))}) (rest:=cur.toList.drop cs.length) (lo:=0) (hi:=0) ht hl hn hc (λo h1 h2=>by omega) rfl;rw[hlen]at this;have e:(⟨({w with heap:=w.heap.extract 0 gb}:World).heap.size,0,cur.size,[]⟩:Loc)=⟨gb,0,cur.size,[]⟩:=by show(⟨(w.heap.extract 0 gb).size,0,cur.size,[]⟩:Loc)=_;rw[hsz]
 rw[e]at this;refine this.congr ?_;show w.heap[gb]? =((w.heap.extract 0 gb).push (.cells (cs++cur.toList.drop cs.length).toArray et (0,0)))[gb]?;rw[Array.getElem?_push,if_pos hsz.symm,Di,hall]
theorem sorted_ok {et:Nat} (hF:SortFits P f g et kt):FFOk P f (λ_ args s=>gm (we s (.sorted g et kt) args)):=by
 intro ev hev args s v s' h ρ w ao hR ha;have h:gm (im s (.sorted g et kt) args)= .val v s':=h;cases hs:im s (.sorted g et kt) args with
 |none=>rw[hs]at h;cases h
 |some r=>
 rw[hs]at h;cases h;have FH:∀(lb:Array Value) (S:List Int->Prop) (N:Nat),N<=1000000->ao= [.func (.func g) #[] lb]->SeqGives Fence.wide 2 P g lb encZ S N w->
   (∀(u:Value) (ss:List Int) (w':World),S ss->w'.ownsRow w.heap.size et 1 u ss.length ((ss.mergeSort (λx y=>decide (x<=y))).map encZ)->(u= .slice none 0 0↔ss= [])->RowKit.Below w.heap.size w w'->
    ∃aj,ag aj r.1 u∧Rel P aj r.2 w'∧aN ρ s w aj r.2 w')->
   aU P (callFunc f ao.toArray) w λu w'=>∃aj,ag aj r.1 u∧Rel P aj r.2 w'∧aN ρ s w aj r.2 w':=by
  intro lb S N hN he hseq C0;subst he;unfold aU;rw[hF.enter];have hc:=hF.sorted lb S N w (by unfold maxLen;omega) (by omega) hseq;refine CallsIn.mono (callsIn_wide.2 (callsIn_wide.1 hc)) ?_;rintro e w' ⟨u,ss,rfl,hS,jU,HW,hb⟩;exact⟨u,rfl,C0 u ss w' hS jU HW hb⟩
 have CM:∀(S:List Int->Prop),(∀ss,S ss->ss= [])->r=(.slice none 0 0,s)->∀(u:Value) (ss:List Int) (w':World),S ss->w'.ownsRow w.heap.size et 1 u ss.length ((ss.mergeSort (λx y=>decide (x<=y))).map encZ)->(u= .slice none 0 0↔ss= [])->RowKit.Below w.heap.size w w'->
    ∃aj,ag aj r.1 u∧Rel P aj r.2 w'∧aN ρ s w aj r.2 w':=by
  intro S Hk hr u ss w' hS jU HW hb;obtain rfl:=HW.2 (Hk ss hS);subst hr;obtain⟨g1,g2⟩:=hR.grow hb.size hb.block hb.tape hb.os hb.output;exact⟨ρ,.bc,g1,g2⟩
 unfold im at hs;split at hs
 ·rename_i he;cases he
 ·rename_i he;cases he
 ·rename_i g0 V3 S8 f0 a b heq;cases heq;replace hs:=ae hs;obtain⟨hg,hs⟩:=hs;have hg:=Nat.eq_of_beq_eq_true hg;subst hg;cases ha with|cons hv yk=>?_
  cases yk;cases hv with| @func _ _ _ fa fb h1 h2=>?_
  split at hs
  ·rename_i p hat L5;have yo:=OG hat h1;obtain⟨x,hx,JD⟩:=RU L5 h2;subst yo;subst JD;replace hs:=U hs;obtain⟨l,hl,hs⟩:=hs;obtain⟨_,m,S9,hcell⟩:=kQ hR hx hl;split at hs
   ·cases hs;cases S9 with|cons hv yk=>?_
    cases yk;cases hv;have hc:=hcell 0 _ rfl;have hlt:x.b<w.heap.size:=World.block_lt_of_cell? w _ hc;exact FH _ _ 0 (by omega) rfl (hF.none x.b (x.base+0) w hlt hc) (CM _ (λss h=>h) rfl)
   ·rename_i rm;cases S9 with|cons hv yk=>?_
    cases yk;cases hv with| @map _ y hy=>?_
    have hc:=hcell 0 _ rfl;have hlt:x.b<w.heap.size:=World.block_lt_of_cell? w _ hc;replace hs:=bk hs;obtain⟨ud,es,ck,hb,hs⟩:=hs;replace hs:=ae hs;obtain⟨ma,hs⟩:=hs;have ma:=Nat.eq_of_beq_eq_true ma;subst ma;obtain⟨KE,ents,hh,fj,iQ⟩:=hR.blk _ _ y hb hy;unfold sortedA at hs;split at hs
    ·cases hs;obtain⟨D0,hown,yJ,hsz⟩:=tz (l:= []) fj iQ hh rfl (by simp) hF.key;refine FH _ _ _ (by rw[hsz];simp) rfl (hF.keys x.b (x.base+0) y.b _ D0 _ w hlt hc hown) (CM _ (λss h=>(h.trans yJ).eq_nil) rfl)
    ·rename_i e0 Pt;replace hs:=ae hs;obtain⟨hn,hs⟩:=hs;replace hs:=U hs;obtain⟨l,hl,hs⟩:=hs;rw[aV]at hn hs;have hn:=Nat.le_of_ble_eq_true hn;obtain⟨D0,hown,yJ,hsz⟩:=tz fj iQ hh hl hn hF.key;have Cf:(e0::Pt).length=l.length:=by have:=congrArg List.length (mK hl).1;simpa using this
     refine FH _ _ _ (by rw[hsz,<-Cf];exact hn) rfl (hF.keys x.b (x.base+0) y.b _ D0 _ w hlt hc hown) ?_;intro u ss w' hS jU HW cz;have x6:=hS.trans yJ;rw[zT x6]at jU;have OX:ss.length=(e0::Pt).length:=by rw[x6.length_eq,Cf]
     rcases jU.2 with ⟨_,hz⟩|⟨gb,cap,cur,rfl,yD,Di,r1,r2,r3,r4⟩
     ·rw[OX]at hz;simp at hz
     ·obtain⟨g1,g2,g3,t,s2,O2,hnew,EA⟩:=sS hs;have hcs:af (ρ.put s.nx ⟨gb,0,cur.size,[]⟩) (rK (pF l)).flatten ((pF l).map encZ):=by
       rw[zU];exact tB _
      have hlen:((pF l).map encZ).length=ss.length*1:=by rw[List.length_map,(mJ l).length_eq,<-x6.length_eq,Nat.mul_one]
      have Mh:=Lm (P:=P) Di O2 g3 g2 hcs (by rw[hlen];exact r4);obtain⟨q1,q2⟩:=Rel.Ir hR hnew (x:=⟨gb,0,cur.size,[]⟩) yD (Array.getElem?_eq_some_iff.1 Di).1 cz.size cz.block cz.tape cz.os cz.output Mh;subst EA;refine⟨_,?_,q1,q2⟩;have FI:codeLB (e0::Pt).length 1/512=(e0::Pt).length:=cU (by omega);rw[<-OX]at FI⊢;exact .slice 0 _ _ cap _ (bE _ _ _) (by rw[FI];exact Nat.le_refl _) (by rw[FI];exact r1) (λh=>by rw[gW]at h;cases h) (.inl rfl) (λ_=>by rw[jd (by omega)];show 0+0+cap*1<=cur.size;omega)
   ·cases hs
  ·cases hs
 ·rename_i he;cases he
 ·rename_i he;cases he
 ·rename_i hne;cases hs
end Go.Eng
end
noncomputable section
namespace Go.Proofs
open Go.Shelf Go.RowKit
variable {P : Program} {ρ : Ren}
structure EngCopy.Inv (bd bs : Nat) (entsS : Array MapEntry) (cs : Nat) (w wr : World) (vis : List MapEntry) (ents : Array MapEntry) (ck : Nat) : Prop where
  dst : wr.heap[bd]? = some (.map ents ck)
  src : wr.heap[bs]? = some (.map entsS cs)
  iter : wr.heap[w.heap.size]? = some (.mapIter (some bs) cs (vis.map (·.born)).toArray cs)
  mem : ∀ e ∈ vis, e ∈ entsS.toList
  nodup : (vis.map (·.born)).Nodup
  size : wr.heap.size = w.heap.size + 1
  rest : ∀ b, b < w.heap.size → b ≠ bd → wr.heap[b]? = w.heap[b]?
  tape : wr.tape = w.tape
  os : wr.os = w.os
  out : wr.output = w.output
set_option maxHeartbeats 4000000 in
set_option maxRecDepth 100000 in
theorem EngCopy.walk (L : SlLaysX.n5 P ρ) (J : List MapEntry → Array MapEntry → Nat → Prop) (bd bs : Nat) (entsD entsS : Array MapEntry) (cd cs : Nat) (w : World) (hd : w.heap[bd]? = some (.map entsD cd)) (hs : w.heap[bs]? = some (.map entsS cs)) (hne : bd ≠ bs) (hbs : Go.Eng.Borns cs entsS)
    (h0 : J [] entsD cd) (hstep : ∀ vis e ents ck w', J vis ents ck → e ∈ entsS.toList → (∀ x ∈ vis, x ∈ entsS.toList ∧ x.born ≠ e.born) → w'.heap[bd]? = some (.map ents ck) →
      ∃ ents' ck', (Instr.mapUpdate (ρ.t 23) (.map (some bd)) e.key e.val).run P w' = .ok () { w' with heap := w'.heap.setIfInBounds bd (.map ents' ck') } ∧ J (vis ++ [e]) ents' ck') :
    Calls P (ρ.f 5) #[.map (some bd), .map (some bs)] w fun e w' => e = .returned (.tuple #[]) ∧ ∃ vis ents ck, J vis ents ck ∧ (∀ e ∈ entsS.toList, e.born ∈ vis.map (·.born)) ∧ EngCopy.Inv bd bs entsS cs w w' vis ents ck := by
  have mixed := L.mixed; have t0 := L.t0; have a0 := L.a0; have z0 := L.z0; have v0 := L.v0; have t4 := L.t4; have a4 := L.a4; have z4 := L.z4; have v4 := L.v4; have t23 := L.t23; have a23 := L.a23; have z23 := L.z23; have v23 := L.v23; have t24 := L.t24; have a24 := L.a24; have z24 := L.z24; have v24 := L.v24; have a26 := L.a26; have z26 := L.z26; have a27 := L.a27; have z27 := L.z27
  have hbd : bd < w.heap.size := (Array.getElem?_eq_some_iff.1 hd).1
  have hbl : bs < w.heap.size := (Array.getElem?_eq_some_iff.1 hs).1
  have hrg := run_range_map (P := P) w (ρ.t 24) _ _ bs entsS cs L.t24 hs
  obtain ⟨_, _, FG⟩ := L.f5
  have Hd : Hid (w.heap[bd]? = some (.map entsD cd)) := hd
  have Hs : Hid (w.heap[bs]? = some (.map entsS cs)) := hs
  have Hb : Hid (Go.Eng.Borns cs entsS) := hbs
  have HS : Hid _ := hstep
  have H0 : Hid _ := h0
  clear hd hs hbs hstep h0
  go_enter FG, SlBodyX.n5_ntmps ρ
  go_wp2
  go_loopw [8] (fun _ wr => ∃ vis ents ck, J vis ents ck ∧ EngCopy.Inv bd bs entsS cs w wr vis ents ck)
    (fun _ wr => match wr.heap[w.heap.size]? with | some (.mapIter _ _ seen _) => (entsS.toList.filter fun (e : MapEntry) => !seen.toList.contains e.born).length | _ => 0)
  case atStart =>
    exact ⟨[], entsD, cd, H0.out, ⟨(Below.heap_alloc w _ bd hbd).trans Hd.out, (Below.heap_alloc w _ bs hbl).trans Hs.out, heap_alloc_new w _, fun e he => (by cases he), .nil, by simp, fun b hb _ => Below.heap_alloc w _ b hb, rfl, rfl, rfl⟩⟩
  case round =>
    obtain ⟨vis, ents, ck, hJ, hI⟩ := hrel
    rcases Go.Eng.next_some (P := P) hI.iter hI.src Hb.out with ⟨w2, hall, hrun, hsame⟩ | ⟨en, w2, hen, hnew, hrun, hsame⟩
    · have hI2 : Hid (EngCopy.Inv bd bs entsS cs w w2 vis ents ck) := ⟨by rw [hsame.heap]; exact hI.dst, by rw [hsame.heap]; exact hI.src, by rw [hsame.heap]; exact hI.iter, hI.mem, hI.nodup, by rw [hsame.heap]; exact hI.size, fun b hb hn => by rw [hsame.heap]; exact hI.rest b hb hn, hsame.tape.trans hI.tape, hsame.os.trans hI.os, hsame.out.trans hI.out⟩
      have hall2 : Hid _ := hall
      have hJ2 : Hid _ := hJ
      clear hsame hall hI hJ
      go_wp2
      go_end0
      exact ⟨rfl, vis, ents, ck, hJ2.out, by simpa using hall2.out, hI2.out⟩
    · generalize hw3 : ({ w2 with heap := w2.heap.setIfInBounds w.heap.size (.mapIter (some bs) cs ((vis.map (·.born)).toArray.push en.born) cs) } : World) = w3 at hrun
      have hlt : w.heap.size < w2.heap.size := by rw [hsame.heap, hI.size]; omega
      have hw3h : ∀ b, b ≠ w.heap.size → w3.heap[b]? = wr.heap[b]? := fun b hb => by
        rw [← hw3]
        simp only
        rw [Array.getElem?_setIfInBounds_ne (Ne.symm hb), hsame.heap]
      have hit3 : w3.heap[w.heap.size]? = some (.mapIter (some bs) cs ((vis.map (·.born)).toArray.push en.born) cs) := by
        rw [← hw3]; simp [hlt]
      have hsz3 : w3.heap.size = w.heap.size + 1 := by rw [← hw3]; simp [hsame.heap, hI.size]
      have ht3 : w3.tape = w.tape ∧ w3.os = w.os ∧ w3.output = w.output := by
        rw [← hw3]; exact ⟨hsame.tape.trans hI.tape, hsame.os.trans hI.os, hsame.out.trans hI.out⟩
      have hd3 : w3.heap[bd]? = some (.map ents ck) := (hw3h bd (by omega)).trans hI.dst
      have hs3 : w3.heap[bs]? = some (.map entsS cs) := (hw3h bs (by omega)).trans hI.src
      have hent := Go.Eng.run_entry (P := P) hit3 hs3 Hb.out hen
      have hnot : en.born ∉ vis.map (·.born) := by simpa using hnew
      obtain ⟨ents', ck', hmu, hJ'⟩ := HS.out vis en ents ck w3 hJ hen (fun x hx => ⟨hI.mem x hx, fun e => hnot (by rw [← e]; exact List.mem_map.2 ⟨x, hx, rfl⟩)⟩) hd3
      generalize hw4 : ({ w3 with heap := w3.heap.setIfInBounds bd (.map ents' ck') } : World) = w4 at hmu
      have hw4h : ∀ b, b ≠ bd → w4.heap[b]? = w3.heap[b]? := fun b hb => by
        rw [← hw4]
        simp only
        rw [Array.getElem?_setIfInBounds_ne (Ne.symm hb)]
      have hI4 : Hid (EngCopy.Inv bd bs entsS cs w w4 (vis ++ [en]) ents' ck') := by
        refine ⟨?_, (hw4h bs (Ne.symm hne)).trans hs3, ?_, fun e he => ?_, ?_, ?_, fun b hb hn => ?_, ?_, ?_, ?_⟩
        · have hb3 : bd < w3.heap.size := by omega
          rw [← hw4]; simp [hb3]
        · rw [hw4h _ (by omega), hit3]; simp
        · rcases List.mem_append.1 he with he | he
          · exact hI.mem e he
          · simp at he; subst he; exact hen
        · rw [List.map_append, List.nodup_append]
          refine ⟨hI.nodup, by simp, fun a ha b hb => ?_⟩
          simp at hb
          subst hb
          exact fun e => hnot (e ▸ ha)
        · rw [← hw4]; simp [hsz3]
        · rw [hw4h b hn, hw3h b (by omega)]; exact hI.rest b hb hn
        · rw [← hw4]; exact ht3.1
        · rw [← hw4]; exact ht3.2.1
        · rw [← hw4]; exact ht3.2.2
      have hJ4 : Hid _ := hJ'
      have hμ : Hid ((entsS.toList.filter fun (e : MapEntry) => !(vis.map (·.born) ++ [en.born]).contains e.born).length < (entsS.toList.filter fun (e : MapEntry) => !(vis.map (·.born)).contains e.born).length) := Go.Eng.filter_less ⟨en, hen, rfl⟩ hnot
      have hIt : Hid (wr.heap[w.heap.size]? = some (.mapIter (some bs) cs (vis.map (·.born)).toArray cs)) := hI.iter
      clear hw3 hlt hw3h hit3 hsz3 ht3 hd3 hs3 hnot hJ' hw4 hw4h hsame hnew hen hJ hI
      go_wp2
      go_roundw
      case rel => exact ⟨_, _, _, hJ4.out, hI4.out⟩
      case measure =>
        rw [hI4.out.iter, hIt.out]
        simpa using hμ.out
end Go.Proofs

end
noncomputable section
namespace Go.Eng
open Go
variable {ents:Array MapEntry} {b ck f kt n:Nat} {P:Program} {ρ:Ren} {k v x':Value} {w:World}
abbrev jV:=Value×Value×Nat
def one (p q:jV):jV:= @ite _ (q.1=p.1) (Classical.propDecidable _) (p.1,p.2.1,q.2.2) q
theorem one_pos {p q:jV} (h:q.1=p.1):one p q=(p.1,p.2.1,q.2.2):=if_pos h
theorem ed {p q:jV} (h:¬q.1=p.1):one p q=q:=if_neg h
theorem nw (p q:jV):(one p q).1=q.1:=by
 by_cases h:q.1=p.1
 ·rw[one_pos h,h]
 ·rw[ed h]
def ik (a:List jV) (p:jV):List jV:=
 @ite _ (∃q∈a,q.1=p.1) (Classical.propDecidable _) (a.map (one p)) (a++ [(p.1,p.2.1,0)])
theorem cR {a:List jV} {p:jV} (h:∃q∈a,q.1=p.1):ik a p=a.map (one p):=by unfold ik;rw[if_pos h]
theorem cS {a:List jV} {p:jV} (h:¬ ∃q∈a,q.1=p.1):ik a p=a++ [(p.1,p.2.1,0)]:=by unfold ik;rw[if_neg h]
theorem lv {a:List jV} {p:jV} (hk:k≠p.1):(∃q∈ik a p,q.1=k)↔ ∃q∈a,q.1=k:=by
 by_cases h:∃q∈a,q.1=p.1
 ·rw[cR h];constructor
  ·rintro⟨q,hq,e⟩;obtain⟨q',Ab,rfl⟩:=List.mem_map.1 hq;rw[nw]at e;exact⟨q',Ab,e⟩
  ·rintro⟨q,hq,e⟩;exact⟨_,List.mem_map.2 ⟨q,hq,rfl⟩,by rw[nw];exact e⟩
 ·rw[cS h];constructor
  ·rintro⟨q,hq,e⟩;rcases List.mem_append.1 hq with hq|hq
   ·exact⟨q,hq,e⟩
   ·simp at hq;subst hq;exact(hk e.symm).elim
  ·rintro⟨q,hq,e⟩;exact⟨q,by simp[hq],e⟩
theorem GG {p q:jV} (h:p.1≠q.1) (a:List jV):(ik (ik a p) q).Perm (ik (ik a q) p):=by
 by_cases hp:∃x∈a,x.1=p.1
 ·have oQ:=(lv (a:=a) (p:=q) h).2 hp;by_cases hq:∃x∈a,x.1=q.1
  ·have Ab:=(lv (a:=a) (p:=p) (Ne.symm h)).2 hq;rw[cR Ab,cR oQ,cR hp,cR hq,List.map_map,List.map_map];refine List.Perm.of_eq (List.map_congr_left λx _=>?_);simp only[Function.comp];by_cases h1:x.1=p.1
   ·have h2:¬x.1=q.1:= λe=>h (h1.symm.trans e);rw[ed h2,ed (λe=>h2 ((nw p x).symm.trans e))]
   ·by_cases h2:x.1=q.1
    ·rw[ed h1,ed (λe=>h1 ((nw q x).symm.trans e))]
    ·rw[ed h1,ed h2,ed h1]
  ·have Ab:¬ ∃x∈ik a p,x.1=q.1:= λe=>hq ((lv (Ne.symm h)).1 e);rw[cS Ab,cR oQ,cR hp,cS hq,List.map_append];refine List.Perm.of_eq ?_;simp only[List.map_cons,List.map_nil];rw[ed (p:=p) (q:=(q.1,q.2.1,0)) (Ne.symm h)]
 ·have oQ:¬ ∃x∈ik a q,x.1=p.1:= λe=>hp ((lv h).1 e);by_cases hq:∃x∈a,x.1=q.1
  ·have Ab:=(lv (a:=a) (p:=p) (Ne.symm h)).2 hq;rw[cR Ab,cS oQ,cS hp,cR hq,List.map_append];refine List.Perm.of_eq ?_;simp only[List.map_cons,List.map_nil];rw[ed (p:=q) (q:=(p.1,p.2.1,0)) h]
  ·have Ab:¬ ∃x∈ik a p,x.1=q.1:= λe=>hq ((lv (Ne.symm h)).1 e);rw[cS Ab,cS oQ,cS hp,cS hq,List.append_assoc,List.append_assoc];exact(List.Perm.swap _ _ []).append_left a
theorem nP {a b:List jV} (h:a.Perm b) (p:jV):(ik a p).Perm (ik b p):=by
 by_cases hp:∃x∈a,x.1=p.1
 ·have oQ:∃x∈b,x.1=p.1:=let⟨x,hx,e⟩:=hp;⟨x,h.mem_iff.1 hx,e⟩;rw[cR hp,cR oQ];exact h.map _
 ·have oQ:¬ ∃x∈b,x.1=p.1:= λ⟨x,hx,e⟩=>hp ⟨x,h.mem_iff.2 hx,e⟩;rw[cS hp,cS oQ];exact h.append_right _
theorem tQ {vs Jt:List jV} (h:vs.Perm Jt):vs.Pairwise (λp q=>p.1≠q.1)->∀a b:List jV,a.Perm b->(vs.foldl ik a).Perm (Jt.foldl ik b):=by
 induction h with
 |nil=>exactλ_ a b h=>h
 |cons x _ ih=>exactλhp a b h=>ih (List.pairwise_cons.1 hp).2 _ _ (nP h x)
 |swap x y l=>
  intro hp a b h;have IE:y.1≠x.1:=(List.pairwise_cons.1 hp).1 x (by simp);show(l.foldl ik (ik (ik a y) x)).Perm (l.foldl ik (ik (ik b x) y));have base:∀(l:List jV) (a b:List jV),a.Perm b->(l.foldl ik a).Perm (l.foldl ik b):=by
   intro l;induction l with
   |nil=>exactλa b h=>h
   |cons x l ih=>exactλa b h=>ih _ _ (nP h x)
  exact base l _ _ ((GG IE a).trans (nP (nP h x) y))
 |trans h1 _ Mk Ml=>intro hp a b h;exact(Mk hp a b h).trans (Ml ((h1.pairwise_iff (λ {_ _} hne=>Ne.symm hne)).1 hp) b b (.refl _))
theorem GH {es bf:List jV} (hn:(es.map (·.1)).Nodup) (h:vZ k v 0 es=some bf):bf=ik es (k,v,b):=by
 rcases vA h with ⟨g6,v0,b0,fQ,rfl,rfl⟩|⟨dH,rfl⟩
 ·rw[cR (p:=(k,v,b)) ⟨(k,v0,b0),by simp,rfl⟩];rw[List.map_append,List.map_cons,List.nodup_append]at hn;have e1:∀q∈g6,q.1≠k:= λq hq e=>hn.2.2 q.1 (List.mem_map.2 ⟨q,hq,rfl⟩) k (by simp) e;have e2:∀q∈fQ,q.1≠k:= λq hq e=>(List.nodup_cons.1 hn.2.1).1 (by rw[<-e];exact List.mem_map.2 ⟨q,hq,rfl⟩);rw[List.map_append,List.map_cons];have m1:∀(l:List jV),(∀q∈l,q.1≠k)->l.map (one (k,v,b))=l:= λl hl=>
   (List.map_congr_left λq hq=>ed (p:=(k,v,b)) (hl q hq)).trans (List.map_id l)
  rw[m1 g6 e1,m1 fQ e2,one_pos (p:=(k,v,b)) (q:=(k,v0,b0)) rfl]
 ·rw[cS (λ⟨q,hq,e⟩=>dH q hq e)]
theorem GI {a:List jV} {p:jV} (hn:(a.map (·.1)).Nodup):((ik a p).map (·.1)).Nodup:=by
 by_cases h:∃q∈a,q.1=p.1
 ·rw[cR h,List.map_map];rw[show((λq:jV=>q.1)∘one p)= λq=>q.1 from funext λq=>nw p q];exact hn
 ·rw[cS h,List.map_append,List.nodup_append];refine⟨hn,by simp,λx hx y hy e=>h ?_⟩;simp at hy;obtain⟨q,hq,rfl⟩:=List.mem_map.1 hx;exact⟨q,hq,e.trans hy⟩
theorem tC:∀ {es d d':List jV},(d.map (·.1)).Nodup->AP es d=some d'->d'=es.foldl ik d
 | [],d,d',_,h=>by have h:some d=some d':=h;cases h;rfl
 |(k,v,b)::es,d,d',hn,h=>by have h:ob (vZ k v 0 d) (AP es)=some d':=h;obtain⟨d1,h1,h⟩:=U h;have e:=GH (b:=b) hn h1;subst e;show d'=es.foldl ik (ik d (k,v,b));exact tC (GI hn) h
theorem Is (a:List jV) (p:jV):a.length<=(ik a p).length:=by
 by_cases h:∃q∈a,q.1=p.1
 ·rw[cR h];simp
 ·rw[cS h];simp
theorem lY:∀(vs a:List jV),a.length<=(vs.foldl ik a).length
 | [],_=>Nat.le_refl _
 |p::vs,a=>Nat.le_trans (Is a p) (lY vs _)
theorem F2.perm {α β:Type} {R:α->β->Prop} {l l':List α} (h:l.Perm l'):∀ {m:List β},F2 R l m->∃m',m.Perm m'∧F2 R l' m':=by
 induction h with
 |nil=>exactλh=>⟨_,.refl _,h⟩
 |cons x _ ih=>
  intro m h;cases h with|cons h hs=>
  obtain⟨m',h1,h2⟩:=ih hs;exact⟨_,h1.cons _,.cons h h2⟩
 |swap x y l=>
  intro m h;cases h with|cons h hs=>
  cases hs with|cons h' hs=>
  exact⟨_,List.Perm.swap _ _ _,.cons h' (.cons h hs)⟩
 |trans _ _ Mk Ml=>intro m h;obtain⟨m1,p1,f1⟩:=Mk h;obtain⟨m2,p2,f2⟩:=Ml f1;exact⟨m2,p1.trans p2,f2⟩
theorem aW.perm {kt:TypeId} {es bf:List jV} {ents:Array MapEntry} (h:aW P ρ kt es ents) (hp:es.Perm bf):aW P ρ kt bf ents:=by obtain⟨l,h1,h2,h3⟩:=h;obtain⟨l',p,f⟩:=F2.perm hp h2;exact⟨l',p.symm.trans h1,f,((hp.map _).nodup_iff).1 h3⟩
theorem pz {mt kt e:TypeId} (iq:P.underlying mt=some (.map kt e)) {es:List jV} (fj:aW P ρ kt es ents) (iQ:Borns ck ents) (hh:w.heap[b]? =some (.map ents ck)) {x:Value} (eM:aC P kt k=true) (hx:ag ρ x x'):
  ∃ents' ck',(Instr.mapUpdate mt (.map (some b)) k x').run P w= .ok () {w with heap:=w.heap.setIfInBounds b (.map ents' ck')}∧aW P ρ kt (ik es (k,x,n)) ents'∧Borns ck' ents'∧ck'+es.length=ck+(ik es (k,x,n)).length:=by
 have x6:=dh eM;have jo:=cu (P:=P) eM w fj.fits;by_cases hp:∃q∈es,q.1=k
 ·obtain⟨q,hq,he⟩:=hp;obtain⟨g6,fQ,hes⟩:=List.append_of_mem hq;obtain⟨k0,v0,b0⟩:=q;have he:k0=k:=he;subst he;subst hes;have ew:=fj.choose_spec.2.2;rw[List.map_append,List.map_cons,List.nodup_append]at ew;have e1:∀q∈g6,q.1≠k0:= λq hq e=>ew.2.2 q.1 (List.mem_map.2 ⟨q,hq,rfl⟩) k0 (by simp) e;have e2:∀q∈fQ,q.1≠k0:= λq hq e=>(List.nodup_cons.1 ew.2.1).1 (by rw[<-e];exact List.mem_map.2 ⟨q,hq,rfl⟩);have m1:∀(l:List jV),(∀q∈l,q.1≠k0)->l.map (one (k0,x,n))=l:= λl hl=>
   (List.map_congr_left λq hq=>ed (p:=(k0,x,n)) (hl q hq)).trans (List.map_id l)
  have KV:ik (g6++(k0,v0,b0)::fQ) (k0,x,n)=g6++(k0,x,b0)::fQ:=by rw[cR (p:=(k0,x,n)) ⟨(k0,v0,b0),hq,rfl⟩,List.map_append,List.map_cons,m1 g6 e1,m1 fQ e2,one_pos (p:=(k0,x,n)) (q:=(k0,v0,b0)) rfl]
  rw[KV];obtain⟨l1,e0,l2,t1,t2,h1,h2,h3,hp,ht,iP⟩:=fj.gw;have JC:(ents[t1.length]?).map (·.key)=some k0:=by
   have:ents[t1.length]? =(t1++e0::t2)[t1.length]?:=by rw[<-ht];simp
   rw[this];simp;exact h2.1.symm
  have gE:=o0 ht (λe=> {e with key:=k0,val:=x'});refine⟨ents.modify t1.length λe=> {e with key:=k0,val:=x'},ck,?_,⟨l1++ {e0 with key:=k0,val:=x'}::l2,?_,F2.append (.cons ⟨rfl,h2.2.1,h2.2.2.1,hx,h2.2.2.2.2⟩ h3) h1,?_⟩,iQ.of (e1:={e0 with key:=k0,val:=x'}) ht (by rw[gE]) rfl,by simp⟩
  ·rw[iP]at jo;simp only[Instr.mapUpdate,Sem.run_bind,run_underlying iq,Result.andThen_ok,Sem.run_pure,ar hh (by simp),aA eM,jo,JC,Option.getD_some,gB eM,aM hh (by simp)]
  ·rw[gE];exact(List.perm_middle.trans (hp.cons _)).trans List.perm_middle.symm
  ·have:=fj.choose_spec.2.2;simpa using this
 ·have dH:∀p∈es,p.1≠k:= λq hq e=>hp ⟨q,hq,e⟩;have KV:ik es (k,x,n)=es++ [(k,x,0)]:=cS (p:=(k,x,n)) hp;rw[KV];have iP:=fj.oM dH;obtain⟨l,Eb,hf,hn⟩:=fj;refine⟨ents.push {key:=k,val:=x',born:=ck},ck+1,?_,⟨l++ [{key:=k,val:=x',born:=ck}],?_,F2.append (.cons ⟨rfl,eM,x6,hx,.inl rfl⟩ .nil) hf,?_⟩,iQ.push rfl,by simp;omega⟩
  ·rw[iP]at jo;simp only[Instr.mapUpdate,Sem.run_bind,run_underlying iq,Result.andThen_ok,Sem.run_pure,ar hh (by simp),aA eM,jo,aM hh (by simp)]
  ·rw[Array.toList_push];exact Eb.append_right _
  ·rw[List.map_append,List.nodup_append];refine⟨hn,by simp,λa ha b hb=>?_⟩;obtain⟨p,oQ,rfl⟩:=List.mem_map.1 ha;simp only[List.map_cons,List.map_nil,List.mem_singleton]at hb;subst hb;exact dH p oQ
structure CopyFits (P:Program) (f kt:Nat):Prop where
 enter:∀args w,(callFunc f args).run P w= .ok (.enter f args) w
 nil:∀(pd:Option Nat) (w:World),Calls P f #[.map pd,.map none] w λe w'=>e= .returned (.tuple #[])∧w'=w.alloc (.mapIter none 0 #[] 0)
 walk:∃mt et,P.underlying mt=some (.map kt et)∧∀(J:List MapEntry->Array MapEntry->Nat->Prop) (bd bs:Nat) (entsD entsS:Array MapEntry) (cd cs:Nat) (w:World),w.heap[bd]? =some (.map entsD cd)->w.heap[bs]? =some (.map entsS cs)->bd≠bs->Borns cs entsS->
  J [] entsD cd->(∀vis e ents ck w',J vis ents ck->e∈entsS.toList->(∀x∈vis,x∈entsS.toList∧x.born≠e.born)->w'.heap[bd]? =some (.map ents ck)->
   ∃ents' ck',(Instr.mapUpdate mt (.map (some bd)) e.key e.val).run P w'= .ok () {w' with heap:=w'.heap.setIfInBounds bd (.map ents' ck')}∧J (vis++ [e]) ents' ck')->
  Calls P f #[.map (some bd),.map (some bs)] w λe w'=>e= .returned (.tuple #[])∧∃vis ents ck,J vis ents ck∧(∀e∈entsS.toList,e.born∈vis.map (·.born))∧Proofs.EngCopy.Inv bd bs entsS cs w w' vis ents ck
theorem F2.snoc {α β:Type} {R:α->β->Prop} {l:List α} {m:List β} {a:α} {b:β} (h:F2 R l m) (h1:R a b):F2 R (l++ [a]) (m++ [b]):=F2.append (.cons h1 .nil) h
theorem F2.mem_left {α β:Type} {R:α->β->Prop}:∀ {l:List α} {m:List β},F2 R l m->∀a∈l,∃b∈m,R a b
 |_,_,.nil,_,ha=>by cases ha
 |_,_,.cons h hs,a,ha=>by
  rcases List.mem_cons.1 ha with rfl|ha
  ·exact⟨_,by simp,h⟩
  ·obtain⟨b,hb,hr⟩:=F2.mem_left hs a ha;exact⟨b,by simp[hb],hr⟩
theorem vU {α β:Type} {f:α->β} {l:List α} (h:(l.map f).Nodup):l.Nodup:=by rw[List.nodup_iff_pairwise_ne]at h⊢;rw[List.pairwise_map]at h;exact h.imp λhne e=>hne (by rw[e])
theorem copy_ok (hF:CopyFits P f kt):FFOk P f (λ_ args s=>gm (we s (.copy kt) args)):=by
 intro ev hev args s v s' h ρ w ao hR ha;have h:gm (im s (.copy kt) args)= .val v s':=h;cases hs:im s (.copy kt) args with
 |none=>rw[hs]at h;cases h
 |some r=>
 rw[hs]at h;cases h;unfold aU;rw[hF.enter];show CallsIn Fence.wide 0 P f ao.toArray w _;unfold im at hs;split at hs
 ·rename_i S8 d heq;cases hs;cases heq;cases ha with|cons Mr ha=>?_
  cases ha with|cons Ec ha=>?_
  cases ha;cases Mr;cases Ec;refine CallsIn.mono (callsIn_wide.2 (hF.nil _ w)) ?_;rintro e w' ⟨rfl,rfl⟩;obtain⟨g1,g2⟩:=hR.grow (w':=w.alloc (.mapIter none 0 #[] 0)) (by simp) (λb hb=>RowKit.Below.heap_alloc w _ b hb) rfl rfl rfl;exact⟨_,rfl,ρ,.tuple .nil,g1,g2⟩
 ·rename_i S8 d rr heq;cases heq;replace hs:=bj hs;obtain⟨mc,hs⟩:=hs;replace hs:=bk hs;obtain⟨V4,es,Vd,hbs,hs⟩:=hs;replace hs:=ae hs;obtain⟨lf,hs⟩:=hs;replace hs:=bk hs;obtain⟨V5,bf,ck,hbd,hs⟩:=hs;replace hs:=ae hs;obtain⟨zY,hs⟩:=hs;replace hs:=U hs;obtain⟨fQ,RW,hs⟩:=hs;rw[ak]at hs;replace hs:=U hs;obtain⟨s1,gZ,hs⟩:=hs;cases hs;have lf:=(Nat.eq_of_beq_eq_true lf).symm;have zY:=(Nat.eq_of_beq_eq_true zY).symm;subst lf;subst zY;cases ha with|cons Mr ha=>?_
  cases ha with|cons Ec ha=>?_
  cases ha;cases Mr with| @map _ x hx=>?_
  cases Ec with| @map _ y hy=>?_
  have hne:d≠rr:= λe=>by rw[e]at mc;rw[Nat.beq_refl]at mc;cases mc
  obtain⟨Rn,entsD,Ta,Ay,RX⟩:=hR.blk _ _ x hbd hx;obtain⟨KE,entsS,Ve,GV,Nw⟩:=hR.blk _ _ y hbs hy;have IE:x.b≠y.b:= λe=>by have:=(hR.aX d rr _ _ x y hne hbd hbs hx hy e).1;cases this
  obtain⟨mt,et,Vf,OH⟩:=hF.walk;have RY:=GV.nodup;have HX:(es.map (·.1)).Nodup:=GV.choose_spec.2.2;have RZ:(bf.map (·.1)).Nodup:=Ay.choose_spec.2.2;have Nx:∀p∈es,∀q∈es,p.1=q.1->p=q:= λp hp q hq e=>by
   obtain⟨a1,a2,rfl⟩:=List.append_of_mem hp;rw[List.map_append,List.map_cons,List.nodup_append]at HX;rcases List.mem_append.1 hq with hq|hq
   ·exact(HX.2.2 q.1 (List.mem_map.2 ⟨q,hq,rfl⟩) p.1 (by simp) e.symm).elim
   ·rcases List.mem_cons.1 hq with rfl|hq
    ·rfl
    ·exact((List.nodup_cons.1 HX.2.1).1 (by rw[e];exact List.mem_map.2 ⟨q,hq,rfl⟩)).elim
  have hc:=OH (λvis ents IL=>∃vs:List jV,F2 (bN P ρ kt) vs vis∧(∀p∈vs,p∈es)∧(vs.map (·.1)).Nodup∧aW P ρ kt (vs.foldl ik bf) ents∧Borns IL ents∧IL+bf.length=ck+(vs.foldl ik bf).length)
   x.b y.b entsD entsS ck Vd w Ta Ve IE Nw ⟨[],.nil,λp hp=>(by cases hp),.nil,Ay,RX,rfl⟩ (by
    rintro vis e ents IL w' ⟨vs,v1,v2,v3,v4,v5,v6⟩ he Ny Vg;obtain⟨l0,Pu,JL,_⟩:=GV;obtain⟨p,hp,x9⟩:=F2.cp JL e (Pu.mem_iff.2 he);obtain⟨ents',ck',q1,q2,q3,q4⟩:=pz (P:=P) (n:=p.2.2) Vf v4 v5 Vg x9.2.1 x9.2.2.2.1;rw[<-x9.1];refine⟨ents',ck',q1,vs++ [p],v1.snoc x9,λq hq=>?_,?_,?_,q3,?_⟩
    ·rcases List.mem_append.1 hq with hq|hq
     ·exact v2 q hq
     ·simp at hq;subst hq;exact hp
    ·rw[List.map_append,List.nodup_append];refine⟨v3,by simp,λa ha b hb G9=>?_⟩;simp at hb;subst hb;obtain⟨q,hq,rfl⟩:=List.mem_map.1 ha;have:=Nx q (v2 q hq) p hp G9;subst this;obtain⟨e1,Cd,QI⟩:=F2.mem_left v1 q hq;have LV:=RY;have LU:e1=e:=by
      have hk:e1.key=e.key:=by rw[<-QI.1,x9.1]
      obtain⟨a1,a2,ha⟩:=List.append_of_mem he;have Nz:=(Ny e1 Cd).1;rw[ha]at LV Nz;rw[List.map_append,List.map_cons,List.nodup_append]at LV;rcases List.mem_append.1 Nz with h|h
      ·exact(LV.2.2 e1.key (List.mem_map.2 ⟨e1,h,rfl⟩) e.key (by simp) hk).elim
      ·rcases List.mem_cons.1 h with h|h
       ·exact h
       ·exact((List.nodup_cons.1 LV.2.1).1 (by rw[<-hk];exact List.mem_map.2 ⟨e1,h,rfl⟩)).elim
     exact(Ny e1 Cd).2 (by rw[LU])
    ·rw[List.foldl_append];exact q2
    ·rw[List.foldl_append];show ck'+bf.length=ck+(ik (vs.foldl ik bf) p).length;have V6:ck'+(vs.foldl ik bf).length=IL+(ik (vs.foldl ik bf) p).length:=q4;omega)
  refine CallsIn.mono (callsIn_wide.2 hc) ?_;rintro e w' ⟨rfl,vis,ents,IL,⟨vs,v1,v2,v3,v4,v5,v6⟩,hall,hI⟩;have yJ:vs.Perm es:=by
   refine(List.perm_ext_iff_of_nodup (vU v3) (vU HX)).2 λp=>⟨v2 p,λhp=>?_⟩
   obtain⟨l0,Pu,JL,_⟩:=GV;obtain⟨e1,Cd,x9⟩:=F2.mem_left JL p hp;obtain⟨e2,OV,G5⟩:=List.mem_map.1 (hall e1 (Pu.mem_iff.1 Cd));have:e2=e1:=by
    have NA:=hI.mem e2 OV;obtain⟨a1,a2,ha⟩:=List.append_of_mem (Pu.mem_iff.1 Cd);have yl:=Nw.1;rw[ha]at yl NA;rw[List.map_append,List.map_cons,List.nodup_append]at yl;rcases List.mem_append.1 NA with h|h
    ·exact(yl.2.2 e2.born (List.mem_map.2 ⟨e2,h,rfl⟩) e1.born (by simp) G5).elim
    ·rcases List.mem_cons.1 h with h|h
     ·exact h
     ·exact((List.nodup_cons.1 yl.2.1).1 (by rw[<-G5];exact List.mem_map.2 ⟨e2,h,rfl⟩)).elim
   subst this;obtain⟨q,hq,QI⟩:=F2.cp v1 e2 OV;have:=Nx q (v2 q hq) p hp (by rw[QI.1,x9.1]);rw[<-this];exact hq
  have ME:vs.Pairwise (λp q=>p.1≠q.1):=by have:=v3;rw[List.nodup_iff_pairwise_ne,List.pairwise_map]at this;exact this
  have hes:=tC RZ RW;have hP:=tQ yJ ME bf bf (.refl _);rw[<-hes]at hP;have Kz:=v4.perm hP;have hlen:=hP.length_eq;have hle:=lY vs bf;have Ar:ck+((len fQ).sub (len bf))=IL:=by rw[aV,aV];show ck+(fQ.length-bf.length)=IL;omega
  have G8:x.b<w'.heap.size:=by rw[hI.size];omega
  generalize LG:({w' with heap:=w'.heap.setIfInBounds x.b (.map entsD ck)}:World)=w1;have OI:∀b,b<w.heap.size->w1.heap[b]? =w.heap[b]?:= λb hb=>by
   rw[<-LG];by_cases iO:b=x.b
   ·subst iO;simp[G8,Ta]
   ·simp only;rw[Array.getElem?_setIfInBounds_ne (Ne.symm iO)];exact hI.rest b hb iO
  have EB:w1.heap.size=w'.heap.size:=by rw[<-LG];simp
  have uf:w1.tape=w.tape∧w1.os=w.os∧w1.output=w.output:=by rw[<-LG];exact⟨hI.tape,hI.os,hI.out⟩
  obtain⟨g1,g2⟩:=hR.grow (w':=w1) (by rw[EB,hI.size];omega) OI uf.1 uf.2.1 uf.2.2;have hw:=Rel.write (P:=P) (w':=w') g1 gZ hbd rfl hx EB.symm (λb hb=>by
   rw[<-LG];simp only;rw[Array.getElem?_setIfInBounds_ne (Ne.symm hb)]) (by rw[uf.1];exact hI.tape) (by rw[uf.2.1];exact hI.os) (by rw[uf.2.2];exact hI.out) ⟨ents,by show w'.heap[x.b]? =some (.map ents (ck+((len fQ).sub (len bf))));rw[Ar];exact hI.dst,Kz,by rw[show Nat.add ck ((len fQ).sub (len bf))=IL from Ar];exact v5⟩
  exact⟨_,rfl,ρ,.tuple .nil,hw.1,g2.trans hw.2⟩
 ·rename_i he;cases he
 ·rename_i he;cases he
 ·rename_i he;cases he
 ·cases hs
end Go.Eng
end
noncomputable section
namespace Go.Eng
open Go
variable {f:Nat} {P:Program}
theorem qt {f:Nat} {e:Ext}:∀ {l:List (Nat×Ext)},qL f l=some e->(f,e)∈l
 | [],h=>by cases h
 |p::l,h=>by
  have h:ab (Nat.beq f p.1) (some p.2) (qL f l)=some e:=h;rw[ah]at h;split at h
  ·rename_i hb;cases h;rw[Nat.eq_of_beq_eq_true hb];exact List.mem_cons_self ..
  ·exact List.mem_cons_of_mem _ (qt h)
theorem qu {f:Nat} {e:Sum}:∀ {l:List (Nat×Sum)},qK f l=some e->(f,e)∈l
 | [],h=>by cases h
 |p::l,h=>by
  have h:ab (Nat.beq f p.1) (some p.2) (qK f l)=some e:=h;rw[ah]at h;split at h
  ·rename_i hb;cases h;rw[Nat.eq_of_beq_eq_true hb];exact List.mem_cons_self ..
  ·exact List.mem_cons_of_mem _ (qu h)
theorem alt_ok {a b:Sum} (ha:FFOk P f (λ_ args s=>gm (im s a args))) (hb:FFOk P f (λ_ args s=>gm (we s b args))):FFOk P f (λ_ args s=>gm (we s (.alt a b) args)):=by
 intro ev hev args s v s' h ρ w ao hR hl;have h:gm (Si (im s a args) (we s b args))= .val v s':=h;cases e:im s a args with
 |none=>rw[e]at h;exact hb ev hev args s v s' h ρ w ao hR hl
 |some p=>rw[e]at h;exact ha ev hev args s v s' (by show gm (im s a args)=_;rw[e];exact h) ρ w ao hR hl
def A3 (n:String) (l:List Func):Bool:=List.rec (motive:= λ_=>Bool) true (λf _ ih=>Bool.rec (motive:= λ_=>Bool) ih false (decide (f.name=n))) l
theorem tD {n:String}:∀ {l:List Func},A3 n l=true->∀f∈l,f.name≠n
 | [],_,f,hf=>by cases hf
 |g::l,h,f,hf=>by
  have h:Bool.rec (motive:= λ_=>Bool) (A3 n l) false (decide (g.name=n))=true:=h;by_cases hg:g.name=n
  ·rw[decide_eq_true hg]at h;cases h
  ·rw[decide_eq_false hg]at h;rcases List.mem_cons.1 hf with rfl|hf
   ·exact hg
   ·exact tD h f hf
theorem plainly_of (h:A3 "runtime.NumGoroutine" P.funcs.toList=true):Plainly P:= λf fn hf=>by
 have:fn∈P.funcs.toList:=by have:=Array.mem_of_getElem? hf;simpa using this
 have:=tD h fn this;simpa using this
theorem cfg_ok {X:Cfg} (h1:Plainly P) (h2:P.follows .mixedOrders=true) (h3:∀p∈X.ext,ExtFits P p.1 p.2) (h4:∀p∈X.sum,FFOk P p.1 (BX p.2)) (h5:∀e∈X.tab,EntryOk P e):CfgOk P X:=
 ⟨h1,h2,λf e h=>h3 (f,e) (qt h),h5,λf e h=>h4 (f,e) (qu h)⟩
end Go.Eng
end
noncomputable section
namespace Go.Eng
open Go
variable {s s':AS} {k':Blk} {B:Ev} {L:List (Nat×Ev)} {args ao:List Value} {x:Loc} {f n:Nat} {φ:Nat->Option Nat} {P:Program} {ρ aO db:Ren} {v:Value} {w:World}
theorem sH {r q:Value->Option Value} (hr:∀v v',r v=some v'->q v'=some v):∀ {l l':List Value},bS r l=some l'->bS q l'=some l
 | [],l',h=>by cases h;rfl
 |v::l,l',h=>by have h:ob (r v) (λv'=>ob (bS r l) λl'=>some (v'::l'))=some l':=h;replace h:=U h;obtain⟨v1,h1,h⟩:=h;replace h:=U h;obtain⟨l1,h2,h⟩:=h;cases h;show ob (q v1) (λv'=>ob (bS q l1) λl'=>some (v'::l'))=_;rw[hr _ _ h1,sH hr h2];rfl
theorem nQ {φ ψ:Nat->Option Nat} (h:∀a b,φ a=some b->ψ b=some a):∀(n:Nat) (v v':Value),aD φ n v=some v'->aD ψ n v'=some v
 |0,v,v',hv=>by cases hv
 |n+1,v,v',hv=>by
  have lZ:∀ {l l':List Value},bS (aD φ n) l=some l'->bS (aD ψ n) l'=some l:= λh1=>sH (λv v'=>nQ h n v v') h1;cases v with
  |bool b=>cases b<;>(cases hv;rfl)
  |int k m=>have hv:ia k m=some v':=hv;rw[dI]at hv;cases hv;exact dI k m
  |float=>cases hv
  |complex k a b=>cases hv;rfl
  |string s=>cases hv;rfl
  |pointer p=>
   cases p with
   |none=>cases hv;rfl
   |some p=>
    obtain⟨b,o,sp⟩:=p;cases sp with
    |some _=>cases hv
    |none=>have hv:(ob (φ b) λb'=>aq o λo'=>some (.pointer (some ⟨b',o',none⟩)))=some v':=hv;obtain⟨b',h1,hv⟩:=U hv;rw[ak]at hv;cases hv;show(ob (ψ b') λb'=>aq o λo'=>some (Value.pointer (some ⟨b',o',none⟩)))=_;rw[h _ _ h1];show(aq o λo'=>some (Value.pointer (some ⟨b,o',none⟩)))=_;rw[ak]
  |slice p m c=>
   cases p with
   |none=>
    cases m with
    |succ m=>cases hv
    |zero=>
     cases c with
     |succ c=>cases hv
     |zero=>cases hv;rfl
   |some p=>
    obtain⟨b,o,sp⟩:=p;cases sp with
    |some _=>cases hv
    |none=>have hv:(ob (φ b) λb'=>aq o λo'=>aq m λm'=>aq c λc'=>some (.slice (some ⟨b',o',none⟩) m' c'))=some v':=hv;obtain⟨b',h1,hv⟩:=U hv;simp only[ak]at hv;cases hv;show(ob (ψ b') λb'=>aq o λo'=>aq m λm'=>aq c λc'=>some (Value.slice (some ⟨b',o',none⟩) m' c'))=_;rw[h _ _ h1];show(aq o λo'=>aq m λm'=>aq c λc'=>some (Value.slice (some ⟨b,o',none⟩) m' c'))=_;simp only[ak]
  |map p=>
   cases p with
   |none=>cases hv;rfl
   |some b=>have hv:(ob (φ b) λb'=>some (.map (some b')))=some v':=hv;obtain⟨b',h1,hv⟩:=U hv;cases hv;show(ob (ψ b') λb'=>some (Value.map (some b')))=_;rw[h _ _ h1];rfl
  |chan=>cases hv
  |func f a b=>
   cases f with
   |func f=>have hv:(ob (bS (aD φ n) a.toList) λa'=>ob (bS (aD φ n) b.toList) λb'=>some (.func (.func f) ⟨a'⟩ ⟨b'⟩))=some v':=hv;obtain⟨a1,h1,hv⟩:=U hv;obtain⟨b1,h2,hv⟩:=U hv;cases hv;show(ob (bS (aD ψ n) a1) λa'=>ob (bS (aD ψ n) b1) λb'=>some (Value.func (.func f) ⟨a'⟩ ⟨b'⟩))=_;rw[lZ h1,lZ h2];rfl
   |_=>cases hv
  |nilFunc=>cases hv;rfl
  |nilIface=>cases hv;rfl
  |iface t x=>have hv:(ob (aD φ n x) λx'=>some (.iface t x'))=some v':=hv;obtain⟨x1,h1,hv⟩:=U hv;cases hv;show(ob (aD ψ n x1) λx'=>some (Value.iface t x'))=_;rw[nQ h n _ _ h1];rfl
  |agg a=>have hv:(ob (bS (aD φ n) a.toList) λa'=>some (.agg ⟨a'⟩))=some v':=hv;obtain⟨a1,h1,hv⟩:=U hv;cases hv;show(ob (bS (aD ψ n) a1) λa'=>some (Value.agg ⟨a'⟩))=_;rw[lZ h1];rfl
  |tuple a=>have hv:(ob (bS (aD φ n) a.toList) λa'=>some (.tuple ⟨a'⟩))=some v':=hv;obtain⟨a1,h1,hv⟩:=U hv;cases hv;show(ob (bS (aD ψ n) a1) λa'=>some (Value.tuple ⟨a'⟩))=_;rw[lZ h1];rfl
theorem kN {r:Value->Option Value}:∀ {t t':T (List Value)},mZ r t=some t'->∀i,(t.get i=none∧t'.get i=none)∨∃l l',t.get i=some l∧t'.get i=some l'∧bS r l=some l'
 | .e,t',h,i=>by have h:some T.e=some t':=h;cases h;exact .inl ⟨T.get_e i,T.get_e i⟩
 | .n v l r0,t',h,i=>by
  have h:(ob (mZ r l) λl=>ob (mZ r r0) λr'=>Option.rec (motive:= λ_=>Option (T (List Value))) (some (.n none l r')) (λc=>ob (bS r c) λc'=>some (.n (some c') l r')) v)=some t':=h;replace h:=U h;obtain⟨l1,h1,h⟩:=h;replace h:=U h;obtain⟨r1,h2,h⟩:=h;cases v with
  |none=>
   have h:some (T.n none l1 r1)=some t':=h;cases h;rcases bb i with rfl|⟨m,rfl⟩|⟨m,rfl⟩
   ·exact .inl ⟨T.dM ..,T.dM ..⟩
   ·rw[T.bO,T.bO];exact kN h1 m
   ·rw[T.bh,T.bh];exact kN h2 m
  |some c=>
   have h:(ob (bS r c) λc'=>some (T.n (some c') l1 r1))=some t':=h;replace h:=U h;obtain⟨c1,h3,h⟩:=h;cases h;rcases bb i with rfl|⟨m,rfl⟩|⟨m,rfl⟩
   ·exact .inr ⟨c,c1,T.dM ..,T.dM ..,h3⟩
   ·rw[T.bO,T.bO];exact kN h1 m
   ·rw[T.bh,T.bh];exact kN h2 m
theorem sI (h:∀a b x,φ a=some b->aO a=some x->db b=some x) {k:Blk} (hk:uv (aD φ n) k=some k') (hb:cj P aO x w k):cj P db x w k':=by
 unfold uv at hk;split at hk
 ·rename_i c sz m et;replace hk:=U hk;obtain⟨c',hc,hk⟩:=hk;simp only[ak]at hk;cases hk;refine⟨λi l' e=>?_,hb.all,hb.free,hb.shape,hb.mult⟩;rcases kN hc i with ⟨_,e2⟩|⟨l,l1,e1,e2,hl⟩
  ·rw[e2]at e;cases e
  ·rw[e2]at e;cases e;obtain⟨q1,q2,q3⟩:=hb.cell i l e1;obtain⟨r1,r2⟩:=sj hl;refine⟨q1,by rw[r1];exact q2,λj v' hj=>?_⟩;obtain⟨v,hv,hr⟩:=r2 j v' hj;obtain⟨u,hu,Mf⟩:=q3 j v hv;exact⟨u,hu,cJ h n _ _ _ hr Mf⟩
 ·cases hk
theorem qX:∀(i:Nat) (l:List Nat),ES i l=l[i]?
 |0,[]=>rfl
 |0,_::_=>rfl
 |i+1,[]=>rfl
 |i+1,_::t=>by show ES i t=_;rw[qX i t];simp
theorem gI:∀ {l:List Nat} {a i j:Nat},gF l a i=some j->∃q,j=i+q∧l[q]? =some a
 | [],a,i,j,h=>by cases h
 |x::t,a,i,j,h=>by
  have h:ab (Nat.beq x a) (aq i λi=>some i) (gF t a (Nat.succ i))=some j:=h;rw[ah]at h;split at h
  ·rename_i hb;rw[ak]at h;cases h;exact⟨0,rfl,by simp[Nat.eq_of_beq_eq_true hb]⟩
  ·obtain⟨q,h1,h2⟩:=gI h;exact⟨q+1,by omega,by simpa using h2⟩
theorem sJ {r:Value->Option Value} {h:Hp}:∀ {l:List Nat} {i:Nat} {t t':Hp},wm r h l i t=some t'->∀j,
  (j<i->t'.get j=t.get j)∧(i+l.length<=j->t'.get j=t.get j)∧
  (∀q a,l[q]? =some a->(h.get a=none∧t'.get (i+q)=none)∨∃b b',h.get a=some b∧uv r b=some b'∧t'.get (i+q)=some b')
 | [],i,t,t',e,j=>by cases e;exact⟨λ_=>rfl,λ_=>rfl,λq a ha=>by simp at ha⟩
 |a::l,i,t,t',e,j=>by
  have bC:∃(x:Option Blk) (t1:Hp),Hp.put x t i=some t1∧wm r h l (Nat.succ i) t1=some t'∧((h.get a=none∧x=none)∨∃b b',h.get a=some b∧uv r b=some b'∧x=some b'):=by
   have e:Option.rec (motive:= λ_=>Option (Hp)) (ob (Hp.put none t i) λt'=>wm r h l (Nat.succ i) t') (λb=>ob (uv r b) λb'=>ob (Hp.put (some b') t i) λt'=>wm r h l (Nat.succ i) t') (h.get a)=some t':=e;cases hg:h.get a with
   |none=>rw[hg]at e;replace e:=U e;obtain⟨t1,e1,e2⟩:=e;exact⟨none,t1,e1,e2,.inl ⟨rfl,rfl⟩⟩
   |some b=>rw[hg]at e;replace e:=U e;obtain⟨b',e0,e⟩:=e;replace e:=U e;obtain⟨t1,e1,e2⟩:=e;exact⟨some b',t1,e1,e2,.inr ⟨b,b',rfl,e0,rfl⟩⟩
  obtain⟨x,t1,e1,e2,hx⟩:=bC;have hg:=Hp.aR x t i t1 e1;have ih:= λj=>sJ e2 j;refine⟨λhj=>?_,λhj=>?_,λq a' hq=>?_⟩
  ·rw[(ih j).1 (by omega),hg,if_neg (by omega)]
  ·rw[(ih j).2.1 (by simp at hj;omega),hg,if_neg (by simp at hj;omega)]
  ·cases q with
   |zero=>
    simp at hq;subst hq;have:t'.get i=x:=by rw[(ih i).1 (by omega),hg,if_pos rfl]
    rcases hx with ⟨h1,h2⟩|⟨b,b',h1,h2,h3⟩
    ·exact .inl ⟨h1,by show t'.get (i+0)=none;rw[Nat.add_zero,this,h2]⟩
    ·exact .inr ⟨b,b',h1,h2,by show t'.get (i+0)=_;rw[Nat.add_zero,this,h3]⟩
   |succ q=>simp at hq;have:=(ih 0).2.2 q a' hq;rw[show i.succ+q=i+(q+1) by omega]at this;exact this
theorem nz {r:Value->Option Value} {k:Blk} (h:uv r k=some k'):eo k=false∧eo k'=false:=by
 unfold uv at h;split at h
 ·replace h:=U h;obtain⟨c',hc,h⟩:=h;simp only[ak]at h;cases h;exact⟨rfl,rfl⟩
 ·cases h
theorem nR {o:Option (Value×AS)} (h:gm o= .val v s):o=some (v,s):=by
 cases o with
 |none=>cases h
 |some p=>obtain⟨a,b⟩:=p;cases h;rfl
theorem ja:∀ {l:List Nat},l.Nodup->∀ {i j a:Nat},l[i]? =some a->l[j]? =some a->i=j
 | [],_,i,j,a,h,_=>by simp at h
 |x::t,hn,0,0,a,_,_=>rfl
 |x::t,hn,0,j+1,a,h1,h2=>by simp at h1 h2;subst h1;exact absurd (List.mem_of_getElem? h2) (List.nodup_cons.1 hn).1
 |x::t,hn,i+1,0,a,h1,h2=>by simp at h1 h2;subst h2;exact absurd (List.mem_of_getElem? h1) (List.nodup_cons.1 hn).1
 |x::t,hn,i+1,j+1,a,h1,h2=>by simp at h1 h2;rw[ja (List.nodup_cons.1 hn).2 h1 h2]
theorem Ln (hB:EvOk P B) (h:ny B f args s= .val v s') (hR:Rel P ρ s w) (ha:af ρ args ao):
  aU P (callFunc f ao.toArray) w λu w'=>∃aj,ag aj v u∧Rel P aj s' w'∧aN ρ s w aj s' w':=by
 unfold ny at h;cases hl:(ob (wk (pX 0 12) args []) λl=>wV s.h 0 12 200 0 l)with
 |none=>rw[hl]at h;cases h
 |some l=>
 rw[hl]at h;have h:ab (ab (bp l) (pE s.nx l) false) (Option.rec (motive:= λ_=>Out) .no (λao=>
    Option.rec (motive:= λ_=>Out) .no (λh=>ki (len l) λk=>xy s l k (B (.func (.func f) #[] #[]) ao ⟨h,k,k⟩))
     (wm (aD (λa=>gF l a 0) 12) s.h l 0 Hp.emp)) (bS (aD (λa=>gF l a 0) 12) args)) .no= .val v s':=h
 rw[ah]at h;split at h
 case isFalse=>cases h
 rename_i hc;obtain⟨ew,hlt⟩:=ai hc;replace ew:=aY ew;replace hlt:=jg hlt;cases cW:bS (aD (λa=>gF l a 0) 12) args with
 |none=>rw[cW]at h;cases h
 |some a1=>
 rw[cW]at h;cases lU:wm (aD (λa=>gF l a 0) 12) s.h l 0 Hp.emp with
 |none=>rw[lU]at h;cases h
 |some hin=>
 rw[lU]at h;have h:ki (len l) (λk=>xy s l k (B (.func (.func f) #[] #[]) a1 ⟨hin,k,k⟩))= .val v s':=h;have hfn:∀(n:Nat) (k:Nat->Out),ki n k=k n:= λn k=>by cases n<;>rfl
 rw[hfn,aV]at h;cases ho:B (.func (.func f) #[] #[]) a1 ⟨hin,l.length,l.length⟩with
 |no=>rw[ho]at h;cases h
 |code=>rw[ho]at h;cases h
 |val v1 s1=>
 rw[ho]at h;have h:gm (ob (ob (pX l.length 12 v1 []) λm=>wV s1.h l.length 12 200 0 m) λm=>ab (ab (bp m) (km l.length m) false)
   (ob (aD (er l m l.length s.nx) 12 v1) λv'=>ob (wm (aD (er l m l.length s.nx) 12) s1.h m s.nx s.h) λh=>aq (Nat.add s.nx (len m)) λnx=>aq s.lim λlm=>some (v',⟨h,nx,lm⟩)) none)= .val v s':=h
 replace h:=nR h;obtain⟨m,hm,h⟩:=U h;rw[ah]at h;split at h
 case isFalse=>cases h
 rename_i Jx;obtain⟨Ay,m5⟩:=ai Jx;replace Ay:=aY Ay;replace m5:=fF m5;obtain⟨v2,Ec,h⟩:=U h;obtain⟨cC,yK,h⟩:=U h;rw[ak,ak,aV]at h;cases h;have iD:= λj=>sJ lU j;have GY:∀a j,gF l a 0=some j->l[j]? =some a:= λa j e=>by obtain⟨q,h1,h2⟩:=gI e;rw[h1,Nat.zero_add];exact h2
 have m6:∃aO:Ren,aO= λj=>match l[j]? with|some a=>ρ a|none=>none:=⟨_,rfl⟩
 obtain⟨aO,m6⟩:=m6;have cN:∀j a,l[j]? =some a->aO j=ρ a:= λj a e=>by rw[m6];show(match l[j]? with|some a=>ρ a|none=>none)=_;rw[e]
 have yL:∀j,l.length<=j->aO j=none:= λj e=>by rw[m6];show(match l[j]? with|some a=>ρ a|none=>none)=_;rw[List.getElem?_eq_none e]
 have yi:∀a b x,gF l a 0=some b->ρ a=some x->aO b=some x:= λa b x e1 e2=>by rw[cN b a (GY a b e1),e2]
 have aL:∀j k',hin.get j=some k'->j<l.length∧∃a k,l[j]? =some a∧s.h.get a=some k∧uv (aD (λa=>gF l a 0) 12) k=some k':= λj k' e=>by
  by_cases hj:j<l.length
  ·refine⟨hj,l[j],?_⟩;rcases(iD 0).2.2 j l[j] (by simp[hj])with ⟨_,e2⟩|⟨k,k1,e1,e2,e3⟩
   ·rw[Nat.zero_add,e]at e2;cases e2
   ·rw[Nat.zero_add,e]at e3;cases e3;exact⟨k,by simp[hj],e1,e2⟩
  ·rw[(iD j).2.1 (by omega),Hp.ns]at e;cases e
 have dn:Rel P aO ⟨hin,l.length,l.length⟩ w:=by
  refine⟨λa ha=>yL a ha,λa ha=>?_,λa k x e e'=>?_,Nat.le_refl _,λa a' k k' x x' hne e1 e2 r1 r2 hb=>?_,λg gl vs g1 g2=>?_⟩
  rotate_right
  ·obtain⟨c1,c2,c3⟩:=hR.gl g gl vs g1 g2;refine⟨c1,?_,c3⟩;rintro⟨j,k,x,e,e',hb⟩;obtain⟨_,b,k0,q1,q2,_⟩:=aL j k e;rw[cN j b q1]at e';exact c2 ⟨b,k0,x,q2,e',hb⟩
  ·cases e:hin.get a with
   |none=>rfl
   |some k=>have:=(aL a k e).1;have ha:l.length<=a:=ha;omega
  ·obtain⟨hj,b,k0,q1,q2,q3⟩:=aL a k e;rw[cN a b q1]at e';obtain⟨b1,b2⟩:=hR.blk b k0 x q2 e';exact⟨b1,sI yi q3 b2⟩
  ·obtain⟨_,b,k0,q1,q2,q3⟩:=aL a k e1;obtain⟨_,b',Ck,Cl,JW,MV⟩:=aL a' k' e2;rw[cN a b q1]at r1;rw[cN a' b' Cl]at r2;have cL:b≠b':= λhe=>by
    subst he;exact hne (ja ew q1 Cl)
   have:=(hR.aX b b' k0 Ck x x' cL q2 JW r1 r2 hb).1;rw[(nz q3).1]at this;cases this
 have MW:af aO a1 ao:=kI (jf (λv v' u=>cJ yi 12 v v' u) cW (kH ha));have hrun:=hB _ _ _ _ _ ho aO w (.func (.func f) #[] #[]) ao dn (.func f .nil .nil) MW;have ep:bD (.func (.func f) #[] #[]) ao=callFunc f ao.toArray:=by unfold bD;simp only[Deferred.ofValue,pure_bind,invoke];congr 1;apply Array.ext';simp
 rw[ep]at hrun;refine hrun.mono λu w' ⟨db,hv,dO,hS⟩=>?_;have dv:s1.lim=l.length:=hS.lim;have pT:∀j,j<l.length->s1.h.get j=hin.get j:= λj hj=>hS.low j hj;have ng:∀j,j<l.length->db j=aO j:= λj hj=>hS.jY j hj;have rD:∀b,b<w.heap.size->w'.heap[b]? =w.heap[b]?:= λb hb=>by
  by_cases hh:aQ aO ⟨hin,l.length,l.length⟩ b
  ·obtain⟨j,k,x,e1,e2,e3⟩:=hh;obtain⟨hj,a,k0,q1,q2,q3⟩:=aL j k e1;rw[<-e3];exact hS.gD j k x hj hj e1 (nz q3).2 e2
  ·exact(hS.frame b hb hh).1
 have hnew:∀j k x,l.length<=j->s1.h.get j=some k->eo k=false->db j=some x->x.b<w.heap.size->False:= λj k x hj e1 LX e2 hb=>by
  by_cases hh:aQ aO ⟨hin,l.length,l.length⟩ x.b
  ·obtain⟨j0,k0,x0,f1,f2,f3⟩:=hh;obtain⟨MX,a,kk,q1,q2,q3⟩:=aL j0 k0 f1;have:=dO.aX j j0 k k0 x x0 (by omega) e1 (by rw[pT j0 MX];exact f1) e2 (by rw[ng j0 MX];exact f2) f3.symm;rw[LX]at this;cases this.1
  ·exact(hS.frame x.b hb hh).2 ⟨j,k,x,e1,e2,rfl⟩
 have kd:∃kh:Ren,kh= λa=>if a<s.nx then ρ a else match m[a-s.nx]? with|some j=>db j|none=>none:=⟨_,rfl⟩
 obtain⟨kh,kd⟩:=kd;have cE:∀a,a<s.nx->kh a=ρ a:= λa ha=>by rw[kd];simp[ha]
 have fu:∀q j,m[q]? =some j->kh (s.nx+q)=db j:= λq j e=>by
  rw[kd];have e1:¬(s.nx+q<s.nx):=by omega
  have e2:s.nx+q-s.nx=q:=by omega
  simp only[e1,if_false,e2,e]
 have yM:∀a,s.nx+m.length<=a->kh a=none:= λa ha=>by
  rw[kd];have e1:¬(a<s.nx):=by omega
  have e2:m[a-s.nx]? =none:=List.getElem?_eq_none (by omega);simp only[e1,if_false,e2]
 have hle:aG ρ kh:= λa x e=>by
  by_cases ha:a<s.nx
  ·rw[cE a ha,e]
  ·rw[hR.eu a (by omega)]at e;cases e
 have ft:∀j a x,er l m l.length s.nx j=some a->db j=some x->kh a=some x:= λj a x e e2=>by
  unfold er at e;rw[ah]at e;split at e
  ·rename_i hj;have hj:j<l.length:=by have:=Nat.le_of_ble_eq_true hj;omega
   obtain⟨a',e0,e⟩:=U e;rw[ak]at e;cases e;rw[qX]at e0;rw[ng j hj,cN j a e0]at e2;exact hle a x e2
  ·obtain⟨q,h1,h2⟩:=gI e;rw[h1,fu q j h2,e2]
 have bW:= λj=>sJ yK j;have bF:∀a,a<s.nx->cC.get a=s.h.get a:= λa ha=>(bW a).1 ha;have bL:∀a k,s.nx<=a->cC.get a=some k->∃q j k0,a=s.nx+q∧m[q]? =some j∧s1.h.get j=some k0∧uv (aD (er l m l.length s.nx) 12) k0=some k:= λa k ha e=>by
  by_cases hq:a-s.nx<m.length
  ·refine⟨a-s.nx,m[a-s.nx],?_⟩;rcases(bW 0).2.2 (a-s.nx) m[a-s.nx] (by simp[hq])with ⟨_,e2⟩|⟨k0,k1,e1,e2,e3⟩
   ·rw[show s.nx+(a-s.nx)=a by omega,e]at e2;cases e2
   ·rw[show s.nx+(a-s.nx)=a by omega,e]at e3;cases e3;exact⟨k0,by omega,by simp[hq],e1,e2⟩
  ·rw[(bW a).2.1 (by omega),hR.top a ha]at e;cases e
 refine⟨kh,cJ ft 12 _ _ _ Ec hv,?_,?_⟩
 ·refine⟨λa ha=>yM a ha,λa ha=>?_,λa k x e e'=>?_,Nat.le_trans hR.lim (Nat.le_add_right _ _),λa a' k k' x x' hne e1 e2 r1 r2 hb=>?_,λg gl vs g1 g2=>?_⟩
  rotate_right
  ·obtain⟨c1,c2,c3⟩:=dO.gl g gl vs g1 g2;refine⟨c1,?_,c3⟩;rintro⟨a,k,x,e,e',hb⟩;have e:cC.get a=some k:=e;by_cases ha:a<s.nx
   ·rw[bF a ha]at e;rw[cE a ha]at e';exact(hR.gl g gl vs g1 g2).2.1 ⟨a,k,x,e,e',hb⟩
   ·obtain⟨q,j,k0,rfl,f1,f2,_⟩:=bL a k (by omega) e;rw[fu q j f1]at e';exact c2 ⟨j,k0,x,f2,e',hb⟩
  ·have ha:s.nx+m.length<=a:=ha;show cC.get a=none;rw[(bW a).2.1 ha,hR.top a (by omega)]
  ·by_cases ha:a<s.nx
   ·have e:cC.get a=some k:=e;rw[bF a ha]at e;rw[cE a ha]at e';obtain⟨b1,b2⟩:=hR.blk a k x e e';exact⟨Nat.lt_of_lt_of_le b1 hS.size,(b2.congr (rD _ b1)).mono hle⟩
   ·obtain⟨q,j,k0,rfl,f1,f2,f3⟩:=bL a k (by omega) e;rw[fu q j f1]at e';obtain⟨b1,b2⟩:=dO.blk j k0 x f2 e';exact⟨b1,sI ft f3 b2⟩
  ·have key:∀a a' k k' x x',a<s.nx->s.nx<=a'->cC.get a=some k->cC.get a'=some k'->kh a=some x->kh a'=some x'->x.b=x'.b->False:= λa a' k k' x x' ha cZ e1 e2 r1 r2 hb=>by
    obtain⟨q,j,k0,rfl,f1,f2,f3⟩:=bL a' k' cZ e2;rw[bF a ha]at e1;rw[cE a ha]at r1;rw[fu q j f1]at r2;have:=(hR.blk a k x e1 r1).1;exact hnew j k0 x' (m5 j (List.mem_of_getElem? f1)) f2 (nz f3).1 r2 (by rw[<-hb];exact this)
   by_cases ha:a<s.nx
   ·by_cases cZ:a'<s.nx
    ·have e1:cC.get a=some k:=e1;have e2:cC.get a'=some k':=e2;rw[bF a ha]at e1;rw[bF a' cZ]at e2;rw[cE a ha]at r1;rw[cE a' cZ]at r2;exact hR.aX a a' k k' x x' hne e1 e2 r1 r2 hb
    ·exact(key a a' k k' x x' ha (by omega) e1 e2 r1 r2 hb).elim
   ·by_cases cZ:a'<s.nx
    ·exact(key a' a k' k x' x cZ (by omega) e2 e1 r2 r1 hb.symm).elim
    ·obtain⟨q,j,k0,rfl,f1,f2,f3⟩:=bL a k (by omega) e1;obtain⟨q',j',Ck,rfl,MY,QJ,Vh⟩:=bL a' k' (by omega) e2;rw[fu q j f1]at r1;rw[fu q' j' MY]at r2;have cL:j≠j':= λhe=>by
      subst he;exact hne (by rw[ja Ay f1 MY])
     have:=(dO.aX j j' k0 Ck x x' cL f2 QJ r1 r2 hb).1;rw[(nz f3).1]at this;cases this
 ·refine⟨λa ha=>cE a ha,Nat.le_add_right _ _,hS.tape,hS.os,hS.out,hS.size,λb hb hn=>⟨rD b hb,?_⟩,λa ha hn=> .inl (bF a ha),hS.lp,rfl,λa ha=>bF a (Nat.lt_of_lt_of_le ha hR.lim),λa k x ha cZ e LX e'=>rD _ (hR.blk a k x e e').1⟩;rintro⟨a,k,x,e1,e2,e3⟩;by_cases ha:a<s.nx
  ·have e1:cC.get a=some k:=e1;rw[bF a ha]at e1;rw[cE a ha]at e2;exact hn ⟨a,k,x,e1,e2,e3⟩
  ·obtain⟨q,j,k0,rfl,f1,f2,f3⟩:=bL a k (by omega) e1;rw[fu q j f1]at e2;exact hnew j k0 x (m5 j (List.mem_of_getElem? f1)) f2 (nz f3).1 e2 (by rw[e3];exact hb)
theorem zp (hB:EvOk P B) {F:FF} (hF:FFOk P f F):FFOk P f (Ca B f F):=by
 intro ev hev args s v s' hr ρ w ao hR ha;have hr:vh (ny B f args s) (F ev args s)= .val v s':=hr;cases hi:ny B f args s with
 |no=>rw[hi]at hr;exact hF ev hev args s v s' hr ρ w ao hR ha
 |code=>rw[hi]at hr;exact hF ev hev args s v s' hr ρ w ao hR ha
 |val v1 s1=>rw[hi]at hr;cases hr;exact Ln hB hi hR ha
theorem ld {f:Nat} {e:Ev}:∀ {l:List (Nat×Ev)},jF f l=some e->∃p∈l,p.2=e
 | [],h=>by cases h
 |p::l,h=>by
  have h:ab (Nat.beq f p.1) (some p.2) (jF f l)=some e:=h;rw[ah]at h;split at h
  ·cases h;exact⟨p,by simp,rfl⟩
  ·obtain⟨q,h1,h2⟩:=ld h;exact⟨q,by simp[h1],h2⟩
theorem GJ {X:Cfg} (hX:CfgOk P X) (hL:∀p∈L,EvOk P p.2) {F:FF} (h:Jq P X L f=some F):FFOk P f F:=by
 obtain⟨F0,h0,h⟩:=U h;cases hb:jF f L with
 |none=>rw[hb]at h;cases h;exact xv hX h0
 |some B=>rw[hb]at h;cases h;obtain⟨p,hp,rfl⟩:=ld hb;exact zp (hL p hp) (xv hX h0)
end Go.Eng
end
noncomputable section
namespace Go.Eng
open Go
variable {s':AS} {c:Code} {ev:Ev} {f:Nat} {P:Program} {v:Value}
theorem entryI_ok (hev:EvOk P ev) {e:Entry} (h:outIs e (ev (.func (.func e.f) #[] #[]) e.args ⟨ofL e.hin,e.nx,0⟩)=true):EntryOk P e:=by
 intro ρ w ao hR ha;cases ho:ev (.func (.func e.f) #[] #[]) e.args ⟨ofL e.hin,e.nx,0⟩with
 |no=>rw[ho]at h;cases h
 |code=>rw[ho]at h;cases h
 |val v s=>
  rw[ho]at h;obtain⟨h1,h⟩:=ai h;obtain⟨h2,h⟩:=ai h;obtain⟨h3,h4⟩:=ai h;have hv:=bH 12 _ _ h1;have hnx:=Nat.eq_of_beq_eq_true h2;have mY:=Nat.eq_of_beq_eq_true h3;have dj:=zm h4;subst hv;obtain⟨sh,Vc,RT⟩:=s;cases hnx;cases mY;have:=hev _ _ _ _ _ ho ρ w (.func (.func e.f) #[] #[]) ao hR (.func e.f .nil .nil) ha;have hc:bD (.func (.func e.f) #[] #[]) ao=callFunc e.f ao.toArray:=by unfold bD;simp only[Deferred.ofValue,pure_bind,invoke];congr 1;apply Array.ext';simp
  rw[hc]at this;refine this.mono λu w' ⟨aj,hv,eN,aZ⟩=>⟨aj,hv,eN.less dj (Nat.zero_le _),aZ.less dj rfl⟩
theorem DW (hev:EvOk P ev) (hX:Plainly P) {fn:Func} (hf:P.funcs[f]? =some fn) (hb:fn.body=some c) (h:ev (.func (.func f) #[] #[]) [] ⟨ofL [],0,0⟩= .val v s') (w:World) (hG:GWorld P w):
  Calls P f #[] w λe w'=>∃u aj,e= .returned u∧ag aj v u∧(∀b,b<w.heap.size->w'.heap[b]? =w.heap[b]?)∧w.heap.size<=w'.heap.size∧w'.tape=w.tape∧w'.os=w.os∧w'.output=w.output:=by
 have hR:Rel P (λ_=>none) ⟨ofL [],0,0⟩ w:=⟨λ_ _=>rfl,λa _=>iC a,λa k x e=>(by rw[iC]at e;cases e),Nat.le_refl _,λa a' k k' x x' _ e=>(by rw[iC]at e;cases e),
  λg gl vs g1 g2=>⟨(hG g gl vs g1 g2).1,λ⟨a,k,x,e,_⟩=>(by rw[iC]at e;cases e),(hG g gl vs g1 g2).2⟩⟩
 have:=hev _ _ _ _ _ h _ w (.func (.func f) #[] #[]) [] hR (.func f .nil .nil) .nil;unfold aU at this;have hc:(bD (.func (.func f) #[] #[]) []).run P w= .ok (.enter f #[]) w:=by unfold bD;simp only[Deferred.ofValue,pure_bind,invoke];exact dk hX hf hb _ w
 rw[hc]at this;refine callsIn_wide.1 (CallsIn.mono this ?_);rintro e w' ⟨u,rfl,aj,hv,eN,aZ⟩;refine⟨u,aj,rfl,hv,λb hb=>(aZ.frame b hb ?_).1,aZ.size,aZ.tape,aZ.os,aZ.out⟩;rintro⟨a,k,x,e,_⟩;have e:(ofL []).get a=some k:=e;rw[iC]at e;cases e
theorem callsI_true (hev:EvOk P ev) (hX:Plainly P) {fn:Func} (hf:P.funcs[f]? =some fn) (hb:fn.body=some c) (h:outV (.bool true) (ev (.func (.func f) #[] #[]) [] ⟨ofL [],0,0⟩)=true) (w:World) (hG:GWorld P w):
  Calls P f #[] w λe w'=>e= .returned (.bool true)∧(∀b,b<w.heap.size->w'.heap[b]? =w.heap[b]?)∧w.heap.size<=w'.heap.size∧w'.tape=w.tape∧w'.os=w.os∧w'.output=w.output:=by
 cases ho:ev (.func (.func f) #[] #[]) [] ⟨ofL [],0,0⟩with
 |no=>rw[ho]at h;cases h
 |code=>rw[ho]at h;cases h
 |val v s=>rw[ho]at h;have hv:=bH 12 _ _ h;subst hv;refine(DW hev hX hf hb ho w hG).mono ?_;rintro e w' ⟨u,aj,he,hv,rest⟩;cases hv;exact⟨he,rest⟩
theorem lstB_ok {B:Ev} (hB:EvOk P B) {r:List (Nat×Ev)} (hr:∀p∈r,EvOk P p.2):∀l:List Nat,∀p∈lstB l B r,EvOk P p.2
 | [],p,hp=>hr p hp
 |f::l,p,hp=>by
  have hp:p∈(f,B)::lstB l B r:=hp;rcases List.mem_cons.1 hp with rfl|hp
  ·exact hB
  ·exact lstB_ok hB hr l p hp
end Go.Eng
end
noncomputable section
namespace Go.Eng
open Go
variable {s s':AS} {k':Blk} {B:Ev} {args ao:List Value} {x:Loc} {f n:Nat} {φ:Nat->Option Nat} {P:Program} {ρ aO db:Ren} {v:Value} {q:Value->Option Value} {w:World}
theorem xz {n:Nat}:∀ {l:List Nat},∀a∈Az n l,a<n
 | [],a,h=>by cases h
 |x::l,a,h=>by
  have h:a∈ab (Nat.blt x n) (x::Az n l) (Az n l):=h;rw[ah]at h;split at h
  ·rename_i hb;rcases List.mem_cons.1 h with rfl|h
   ·exact Nat.lt_of_succ_le (Nat.le_of_ble_eq_true hb)
   ·exact xz a h
  ·exact xz a h
theorem xA {n:Nat}:∀ {l:List Nat},∀a∈Cj n l,n<=a
 | [],a,h=>by cases h
 |x::l,a,h=>by
  have h:a∈ab (Nat.blt x n) (Cj n l) (x::Cj n l):=h;rw[ah]at h;split at h
  ·exact xA a h
  ·rename_i hb;rcases List.mem_cons.1 h with rfl|h
   ·refine Nat.le_of_not_lt λhl=>hb ?_;exact Nat.ble_eq_true_of_le hl
   ·exact xA a h
theorem sK {r q:Value->Option Value} (hr:∀v v',r v=some v'->q v'=some v):∀ {t t':T (List Value)},mZ r t=some t'->mZ q t'=some t
 | .e,t',h=>by have h:some T.e=some t':=h;cases h;rfl
 | .n v l r0,t',h=>by
  have h:(ob (mZ r l) λl=>ob (mZ r r0) λr'=>Option.rec (motive:= λ_=>Option (T (List Value))) (some (.n none l r')) (λc=>ob (bS r c) λc'=>some (.n (some c') l r')) v)=some t':=h;replace h:=U h;obtain⟨l1,h1,h⟩:=h;replace h:=U h;obtain⟨r1,h2,h⟩:=h;have i1:=sK hr h1;have i2:=sK hr h2;cases v with
  |none=>have h:some (T.n none l1 r1)=some t':=h;cases h;show(ob (mZ q l1) λl=>ob (mZ q r1) λr'=>some (T.n none l r'))=_;rw[i1,i2];rfl
  |some c=>have h:(ob (bS r c) λc'=>some (T.n (some c') l1 r1))=some t':=h;replace h:=U h;obtain⟨c1,h3,h⟩:=h;cases h;show(ob (mZ q l1) λl=>ob (mZ q r1) λr'=>ob (bS q c1) λc'=>some (T.n (some c') l r'))=_;rw[i1,i2,sH hr h3];rfl
theorem zq {r q:Value->Option Value} (hr:∀v v',r v=some v'->q v'=some v):∀ {es bf:List an},uw r es=some bf->uw q bf=some es
 | [],bf,h=>by cases h;rfl
 |e::es,bf,h=>by have h:(ob (r e.2.1) λv=>ob (uw r es) λl=>some ((e.1,v,e.2.2)::l))=some bf:=h;replace h:=U h;obtain⟨v,h1,h⟩:=h;replace h:=U h;obtain⟨l,h2,h⟩:=h;cases h;show(ob (q v) λv=>ob (uw q l) λl=>some ((e.1,v,e.2.2)::l))=_;rw[hr _ _ h1,zq hr h2];rfl
theorem vV {r:Value->Option Value} (hr:∀v v',r v=some v'->q v'=some v) {k:Blk} (h:dm r k=some k'):dm q k'=some k:=by
 unfold dm at h;split at h
 ·replace h:=U h;obtain⟨c',hc,h⟩:=h;simp only[ak]at h;cases h;show(ob (mZ q c') λc'=>_)=_;rw[sK hr hc,show∀(k:T (List Value)->Option Blk) x,ob (some x) k=k x fromλ_ _=>rfl,ak,ak,ak]
 ·replace h:=U h;obtain⟨c',hc,h⟩:=h;simp only[ak]at h;cases h;show(ob (uw q c') λc'=>_)=_;rw[zq hr hc,show∀(k:List an->Option Blk) x,ob (some x) k=k x fromλ_ _=>rfl,ak,ak]
 ·cases h
theorem eZ {r:Value->Option Value} {k:Blk} (h:dm r k=some k'):eo k=false∧eo k'=false:=by
 unfold dm at h;split at h
 ·replace h:=U h;obtain⟨c',hc,h⟩:=h;simp only[ak]at h;cases h;exact⟨rfl,rfl⟩
 ·replace h:=U h;obtain⟨c',hc,h⟩:=h;simp only[ak]at h;cases h;exact⟨rfl,rfl⟩
 ·cases h
theorem CN {aO db:Ren} {φ:Nat->Option Nat} {n:Nat} (h:∀a b x,φ a=some b->aO a=some x->db b=some x) {P:Program} {kt:TypeId}:∀ {es bf:List an} {l:List MapEntry},uw (aD φ n) es=some bf->
  F2 (λp e=>p.1=e.key∧aC P kt p.1=true∧Plain p.1∧ag aO p.2.1 e.val∧(p.2.2=0∨p.2.2=e.born+1)) es l->F2 (λp e=>p.1=e.key∧aC P kt p.1=true∧Plain p.1∧ag db p.2.1 e.val∧(p.2.2=0∨p.2.2=e.born+1)) bf l
 | [],bf,l,h0,hf=>by cases h0;cases hf;exact .nil
 |e::es,bf,l,h0,hf=>by
  have h0:(ob (aD φ n e.2.1) λv=>ob (uw (aD φ n) es) λl=>some ((e.1,v,e.2.2)::l))=some bf:=h0;replace h0:=U h0;obtain⟨v,h1,h0⟩:=h0;replace h0:=U h0;obtain⟨g6,h2,h0⟩:=h0;cases h0;cases hf with
  |cons hp ht=>obtain⟨a,b,c,d,f⟩:=hp;exact .cons ⟨a,b,c,cJ h n _ _ _ h1 d,f⟩ (CN h h2 ht)
theorem vW {r:Value->Option Value}:∀ {es bf:List an},uw r es=some bf->bf.map (·.1)=es.map (·.1)
 | [],bf,h0=>by cases h0;rfl
 |e::es,bf,h0=>by have h0:(ob (r e.2.1) λv=>ob (uw r es) λl=>some ((e.1,v,e.2.2)::l))=some bf:=h0;replace h0:=U h0;obtain⟨v,h1,h0⟩:=h0;replace h0:=U h0;obtain⟨g6,h2,h0⟩:=h0;cases h0;rw[List.map_cons,List.map_cons,vW h2]
theorem lH (h:∀a b x,φ a=some b->aO a=some x->db b=some x) {k:Blk} (hk:dm (aD φ n) k=some k') (hb:cj P aO x w k):cj P db x w k':=by
 unfold dm at hk;split at hk
 ·rename_i c sz m et;exact sI (k:= .cells c sz m false et) h hk hb
 ·rename_i kt es ck;replace hk:=U hk;obtain⟨bf,he,hk⟩:=hk;simp only[ak]at hk;cases hk;obtain⟨ents,h1,⟨l,hp,hf,hn⟩,h3⟩:=hb;exact⟨ents,h1,⟨l,hp,CN h he hf,by rw[vW he];exact hn⟩,h3⟩
 ·cases hk
theorem nS {r:Value->Option Value} {h:Hp}:∀ {l:List Nat} {i:Nat} {t t':Hp},rp r h l i t=some t'->∀j,
  (j<i->t'.get j=t.get j)∧(i+l.length<=j->t'.get j=t.get j)∧
  (∀q a,l[q]? =some a->(h.get a=none∧t'.get (i+q)=none)∨∃b b',h.get a=some b∧dm r b=some b'∧t'.get (i+q)=some b')
 | [],i,t,t',e,j=>by cases e;exact⟨λ_=>rfl,λ_=>rfl,λq a ha=>by simp at ha⟩
 |a::l,i,t,t',e,j=>by
  have bC:∃(x:Option Blk) (t1:Hp),Hp.put x t i=some t1∧rp r h l (Nat.succ i) t1=some t'∧((h.get a=none∧x=none)∨∃b b',h.get a=some b∧dm r b=some b'∧x=some b'):=by
   have e:Option.rec (motive:= λ_=>Option (Hp)) (ob (Hp.put none t i) λt'=>rp r h l (Nat.succ i) t') (λb=>ob (dm r b) λb'=>ob (Hp.put (some b') t i) λt'=>rp r h l (Nat.succ i) t') (h.get a)=some t':=e;cases hg:h.get a with
   |none=>rw[hg]at e;replace e:=U e;obtain⟨t1,e1,e2⟩:=e;exact⟨none,t1,e1,e2,.inl ⟨rfl,rfl⟩⟩
   |some b=>rw[hg]at e;replace e:=U e;obtain⟨b',e0,e⟩:=e;replace e:=U e;obtain⟨t1,e1,e2⟩:=e;exact⟨some b',t1,e1,e2,.inr ⟨b,b',rfl,e0,rfl⟩⟩
  obtain⟨x,t1,e1,e2,hx⟩:=bC;have hg:=Hp.aR x t i t1 e1;have ih:= λj=>nS e2 j;refine⟨λhj=>?_,λhj=>?_,λq a' hq=>?_⟩
  ·rw[(ih j).1 (by omega),hg,if_neg (by omega)]
  ·rw[(ih j).2.1 (by simp at hj;omega),hg,if_neg (by simp at hj;omega)]
  ·cases q with
   |zero=>
    simp at hq;subst hq;have:t'.get i=x:=by rw[(ih i).1 (by omega),hg,if_pos rfl]
    rcases hx with ⟨h1,h2⟩|⟨b,b',h1,h2,h3⟩
    ·exact .inl ⟨h1,by show t'.get (i+0)=none;rw[Nat.add_zero,this,h2]⟩
    ·exact .inr ⟨b,b',h1,h2,by show t'.get (i+0)=_;rw[Nat.add_zero,this,h3]⟩
   |succ q=>simp at hq;have:=(ih 0).2.2 q a' hq;rw[show i.succ+q=i+(q+1) by omega]at this;exact this
theorem vX {r:Value->Option Value} {h:Hp}:∀ {l:List Nat} {i:Nat} {t t':Hp},l.Nodup->vi r h l i t=some t'->
  (∀a,a∉l->t'.get a=t.get a)∧(∀q a,l[q]? =some a->(h.get (i+q)=none∧t'.get a=none)∨∃b b',h.get (i+q)=some b∧dm r b=some b'∧t'.get a=some b')
 | [],i,t,t',_,e=>by cases e;exact⟨λ_ _=>rfl,λq a ha=>by simp at ha⟩
 |a::l,i,t,t',hn,e=>by
  have bC:∃(x:Option Blk) (t1:Hp),Hp.put x t a=some t1∧vi r h l (Nat.succ i) t1=some t'∧((h.get i=none∧x=none)∨∃b b',h.get i=some b∧dm r b=some b'∧x=some b'):=by
   have e:Option.rec (motive:= λ_=>Option (Hp)) (ob (Hp.put none t a) λt'=>vi r h l (Nat.succ i) t') (λb=>ob (dm r b) λb'=>ob (Hp.put (some b') t a) λt'=>vi r h l (Nat.succ i) t') (h.get i)=some t':=e;cases hg:h.get i with
   |none=>rw[hg]at e;replace e:=U e;obtain⟨t1,e1,e2⟩:=e;exact⟨none,t1,e1,e2,.inl ⟨rfl,rfl⟩⟩
   |some b=>rw[hg]at e;replace e:=U e;obtain⟨b',e0,e⟩:=e;replace e:=U e;obtain⟨t1,e1,e2⟩:=e;exact⟨some b',t1,e1,e2,.inr ⟨b,b',rfl,e0,rfl⟩⟩
  obtain⟨x,t1,e1,e2,hx⟩:=bC;have hg:=Hp.aR x t a t1 e1;obtain⟨Vi,IB⟩:=List.nodup_cons.1 hn;have ih:=vX IB e2;refine⟨λb hb=>?_,λq b hq=>?_⟩
  ·rw[ih.1 b (λhm=>hb (by simp[hm])),hg,if_neg (λhe=>hb (by simp[he]))]
  ·cases q with
   |zero=>
    simp at hq;subst hq;have:t'.get a=x:=by rw[ih.1 a Vi,hg,if_pos rfl]
    rcases hx with ⟨h1,h2⟩|⟨b,b',h1,h2,h3⟩
    ·exact .inl ⟨h1,by rw[this,h2]⟩
    ·exact .inr ⟨b,b',h1,h2,by rw[this,h3]⟩
   |succ q=>simp at hq;have:=ih.2 q b hq;rw[show i.succ+q=i+(q+1) by omega]at this;exact this
theorem It (hB:EvOk P B) (h:kL B f args s= .val v s') (hR:Rel P ρ s w) (ha:af ρ args ao):
  aU P (callFunc f ao.toArray) w λu w'=>∃aj,ag aj v u∧Rel P aj s' w'∧aN ρ s w aj s' w':=by
 unfold kL at h;cases hl:(ob (wk (pX 0 12) args []) λl=>oN s.h 0 12 400 0 l)with
 |none=>rw[hl]at h;cases h
 |some l0=>
 rw[hl]at h;obtain⟨l1,Iz⟩:∃l1,l1=Az s.lim l0:=⟨_,rfl⟩
 obtain⟨l2,ym⟩:∃l2,l2=Cj s.lim l0:=⟨_,rfl⟩
 obtain⟨l,Cf⟩:∃l,l=l1++l2:=⟨_,rfl⟩
 have h:ab (ab (bp (app (Az s.lim l0) (Cj s.lim l0))) (pE s.nx (app (Az s.lim l0) (Cj s.lim l0))) false) (Option.rec (motive:= λ_=>Out) .no (λao=>
    Option.rec (motive:= λ_=>Out) .no (λh=>ki (len (app (Az s.lim l0) (Cj s.lim l0))) λk=>ki (len (Az s.lim l0)) λk1=>sG s (Az s.lim l0) (Cj s.lim l0) (app (Az s.lim l0) (Cj s.lim l0)) k1 k (B (.func (.func f) #[] #[]) ao ⟨h,k,k1⟩))
     (rp (aD (λa=>gF (app (Az s.lim l0) (Cj s.lim l0)) a 0) 12) s.h (app (Az s.lim l0) (Cj s.lim l0)) 0 Hp.emp)) (bS (aD (λa=>gF (app (Az s.lim l0) (Cj s.lim l0)) a 0) 12) args)) .no= .val v s':=h
 rw[ku,<-Iz,<-ym,<-Cf]at h;have R6:∀a∈l1,a<s.lim:= λa ha=>xz a (Iz▸ha);have KX:∀a∈l2,s.lim<=a:= λa ha=>xA a (ym▸ha);have lf:l1.length<=l.length:=by rw[Cf,List.length_append];omega
 have OU:∀j,j<l1.length->l[j]? =l1[j]?:= λj hj=>by rw[Cf,List.getElem?_append_left hj]
 have O5:∀j,l1.length<=j->l[j]? =l2[j-l1.length]?:= λj hj=>by rw[Cf,List.getElem?_append_right hj]
 clear Iz ym;rw[ah]at h;split at h
 case isFalse=>cases h
 rename_i hc;obtain⟨ew,hlt⟩:=ai hc;replace ew:=aY ew;replace hlt:=jg hlt;have Sl:l2.Nodup:=(List.nodup_append.1 (Cf▸ew)).2.1;cases cW:bS (aD (λa=>gF l a 0) 12) args with
 |none=>rw[cW]at h;cases h
 |some a1=>
 rw[cW]at h;cases lU:rp (aD (λa=>gF l a 0) 12) s.h l 0 Hp.emp with
 |none=>rw[lU]at h;cases h
 |some hin=>
 rw[lU]at h;have h:ki (len l) (λk=>ki (len l1) λk1=>sG s l1 l2 l k1 k (B (.func (.func f) #[] #[]) a1 ⟨hin,k,k1⟩))= .val v s':=h;have hfn:∀(n:Nat) (k:Nat->Out),ki n k=k n:= λn k=>by cases n<;>rfl
 rw[hfn,hfn,aV,aV]at h;cases ho:B (.func (.func f) #[] #[]) a1 ⟨hin,l.length,l1.length⟩with
 |no=>rw[ho]at h;cases h
 |code=>rw[ho]at h;cases h
 |val v1 s1=>
 rw[ho]at h;have h:gm (ob (ob (pX l.length 12 v1 []) λm=>ob (NC s1.h l.length 12 l.length m) λm=>oN s1.h l.length 12 400 0 m) λm=>ab (ab (bp m) (km l.length m) false)
   (ob (aD (er l m l.length s.nx) 12 v1) λv'=>ob (vi (aD (er l m l.length s.nx) 12) s1.h l2 l1.length s.h) λh0=>ob (rp (aD (er l m l.length s.nx) 12) s1.h m s.nx h0) λh=>aq (Nat.add s.nx (len m)) λnx=>aq s.lim λlm=>some (v',⟨h,nx,lm⟩)) none)= .val v s':=h
 replace h:=nR h;obtain⟨m,hm,h⟩:=U h;rw[ah]at h;split at h
 case isFalse=>cases h
 rename_i Jx;obtain⟨Ay,m5⟩:=ai Jx;replace Ay:=aY Ay;replace m5:=fF m5;obtain⟨v2,Ec,h⟩:=U h;obtain⟨h0,Lp,h⟩:=U h;obtain⟨cC,yK,h⟩:=U h;rw[ak,ak,aV]at h;cases h;have iD:= λj=>nS lU j;have GY:∀a j,gF l a 0=some j->l[j]? =some a:= λa j e=>by obtain⟨q,h1,h2⟩:=gI e;rw[h1,Nat.zero_add];exact h2
 have m6:∃aO:Ren,aO= λj=>match l[j]? with|some a=>ρ a|none=>none:=⟨_,rfl⟩
 obtain⟨aO,m6⟩:=m6;have cN:∀j a,l[j]? =some a->aO j=ρ a:= λj a e=>by rw[m6];show(match l[j]? with|some a=>ρ a|none=>none)=_;rw[e]
 have yL:∀j,l.length<=j->aO j=none:= λj e=>by rw[m6];show(match l[j]? with|some a=>ρ a|none=>none)=_;rw[List.getElem?_eq_none e]
 have yi:∀a b x,gF l a 0=some b->ρ a=some x->aO b=some x:= λa b x e1 e2=>by rw[cN b a (GY a b e1),e2]
 have aL:∀j k',hin.get j=some k'->j<l.length∧∃a k,l[j]? =some a∧s.h.get a=some k∧dm (aD (λa=>gF l a 0) 12) k=some k':= λj k' e=>by
  by_cases hj:j<l.length
  ·refine⟨hj,l[j],?_⟩;rcases(iD 0).2.2 j l[j] (by simp[hj])with ⟨_,e2⟩|⟨k,k1,e1,e2,e3⟩
   ·rw[Nat.zero_add,e]at e2;cases e2
   ·rw[Nat.zero_add,e]at e3;cases e3;exact⟨k,by simp[hj],e1,e2⟩
  ·rw[(iD j).2.1 (by omega),Hp.ns]at e;cases e
 have dn:Rel P aO ⟨hin,l.length,l1.length⟩ w:=by
  refine⟨λa ha=>yL a ha,λa ha=>?_,λa k x e e'=>?_,lf,λa a' k k' x x' hne e1 e2 r1 r2 hb=>?_,λg gl vs g1 g2=>?_⟩
  rotate_right
  ·obtain⟨c1,c2,c3⟩:=hR.gl g gl vs g1 g2;refine⟨c1,?_,c3⟩;rintro⟨j,k,x,e,e',hb⟩;obtain⟨_,b,k0,q1,q2,_⟩:=aL j k e;rw[cN j b q1]at e';exact c2 ⟨b,k0,x,q2,e',hb⟩
  ·cases e:hin.get a with
   |none=>rfl
   |some k=>have:=(aL a k e).1;have ha:l.length<=a:=ha;omega
  ·obtain⟨hj,b,k0,q1,q2,q3⟩:=aL a k e;rw[cN a b q1]at e';obtain⟨b1,b2⟩:=hR.blk b k0 x q2 e';exact⟨b1,lH yi q3 b2⟩
  ·obtain⟨_,b,k0,q1,q2,q3⟩:=aL a k e1;obtain⟨_,b',Ck,Cl,JW,MV⟩:=aL a' k' e2;rw[cN a b q1]at r1;rw[cN a' b' Cl]at r2;have cL:b≠b':= λhe=>by
    subst he;exact hne (ja ew q1 Cl)
   have:=(hR.aX b b' k0 Ck x x' cL q2 JW r1 r2 hb).1;rw[(eZ q3).1]at this;cases this
 have MW:af aO a1 ao:=kI (jf (λv v' u=>cJ yi 12 v v' u) cW (kH ha));have hrun:=hB _ _ _ _ _ ho aO w (.func (.func f) #[] #[]) ao dn (.func f .nil .nil) MW;have ep:bD (.func (.func f) #[] #[]) ao=callFunc f ao.toArray:=by unfold bD;simp only[Deferred.ofValue,pure_bind,invoke];congr 1;apply Array.ext';simp
 rw[ep]at hrun;refine hrun.mono λu w' ⟨db,hv,dO,hS⟩=>?_;have pT:∀j,j<l1.length->s1.h.get j=hin.get j:= λj hj=>hS.low j hj;have ng:∀j,j<l.length->db j=aO j:= λj hj=>hS.jY j hj;have HY:∀a k x,a∉l->s.h.get a=some k->ρ a=some x->¬aQ aO ⟨hin,l.length,l1.length⟩ x.b:= λa k x ra e e'=>by rintro⟨j,k2,x2,e1,e2,e3⟩;obtain⟨hj,b,k0,q1,q2,q3⟩:=aL j k2 e1;rw[cN j b q1]at e2;have hne:a≠b:= λhe=>ra (he▸List.mem_of_getElem? q1);have:=(hR.aX a b k k0 x x2 hne e q2 e' e2 e3.symm).2;rw[(eZ q3).1]at this;cases this
 have Lq:∀b,aQ aO ⟨hin,l.length,l1.length⟩ b->aQ ρ s b:= λb ⟨j,k,x,e1,e2,e3⟩=>by obtain⟨hj,a,k0,q1,q2,q3⟩:=aL j k e1;rw[cN j a q1]at e2;exact⟨a,k0,x,q2,e2,e3⟩
 have kd:∃kh:Ren,kh= λa=>if a<s.nx then ρ a else match m[a-s.nx]? with|some j=>db j|none=>none:=⟨_,rfl⟩
 obtain⟨kh,kd⟩:=kd;have cE:∀a,a<s.nx->kh a=ρ a:= λa ha=>by rw[kd];simp[ha]
 have fu:∀q j,m[q]? =some j->kh (s.nx+q)=db j:= λq j e=>by
  rw[kd];have e1:¬(s.nx+q<s.nx):=by omega
  have e2:s.nx+q-s.nx=q:=by omega
  simp only[e1,if_false,e2,e]
 have yM:∀a,s.nx+m.length<=a->kh a=none:= λa ha=>by
  rw[kd];have e1:¬(a<s.nx):=by omega
  have e2:m[a-s.nx]? =none:=List.getElem?_eq_none (by omega);simp only[e1,if_false,e2]
 have hle:aG ρ kh:= λa x e=>by
  by_cases ha:a<s.nx
  ·rw[cE a ha,e]
  ·rw[hR.eu a (by omega)]at e;cases e
 have ft:∀j a x,er l m l.length s.nx j=some a->db j=some x->kh a=some x:= λj a x e e2=>by
  unfold er at e;rw[ah]at e;split at e
  ·rename_i hj;have hj:j<l.length:=by have:=Nat.le_of_ble_eq_true hj;omega
   obtain⟨a',e0,e⟩:=U e;rw[ak]at e;cases e;rw[qX]at e0;rw[ng j hj,cN j a e0]at e2;exact hle a x e2
  ·obtain⟨q,h1,h2⟩:=gI e;rw[h1,fu q j h2,e2]
 have hinv:∀a b,gF l a 0=some b->er l m l.length s.nx b=some a:= λa b e=>by have e1:=GY a b e;have hb:b<l.length:=(List.getElem?_eq_some_iff.1 e1).1;unfold er;rw[ah,if_pos (show Nat.blt b l.length=true from Nat.ble_eq_true_of_le hb),qX,e1];show(aq a λa=>some a)=_;rw[ak]
 have FJ:∀a,a∈l->∃j,j<l.length∧l[j]? =some a:= λa ha=>by obtain⟨j,hj,e⟩:=List.mem_iff_getElem.1 ha;exact⟨j,hj,by rw[List.getElem?_eq_getElem hj,e]⟩
 have O9:=vX Sl Lp;have bW:= λj=>nS yK j;have nT:∀a,a<s.nx->a∉l2->cC.get a=s.h.get a:= λa ha hn=>by rw[(bW a).1 ha,O9.1 a hn]
 have R7:∀a,a∈l1->a∉l2:= λa h1 h2=>by have:=R6 a h1;have:=KX a h2;omega
 have eJ:∀a,a∈l↔a∈l1∨a∈l2:= λa=>by rw[Cf,List.mem_append]
 have tE:∀a j,l[j]? =some a->(s1.h.get j=none∧cC.get a=none)∨(cC.get a=s.h.get a∧j<l1.length)∨∃k0 k,s1.h.get j=some k0∧dm (aD (er l m l.length s.nx) 12) k0=some k∧cC.get a=some k:= λa j e=>by
  have KY:=hlt a (List.mem_of_getElem? e);by_cases hj:j<l1.length
  ·refine .inr (.inl ⟨nT a KY (R7 a (List.mem_of_getElem? ((OU j hj)▸e))),hj⟩)
  ·have hj:l1.length<=j:=by omega
   have e2:l2[j-l1.length]? =some a:=(O5 j hj)▸e;rcases O9.2 _ a e2 with ⟨h1,h2⟩|⟨k0,k,h1,h2,h3⟩
   ·rw[show l1.length+(j-l1.length)=j by omega]at h1;exact .inl ⟨h1,by rw[(bW a).1 KY,h2]⟩
   ·rw[show l1.length+(j-l1.length)=j by omega]at h1;exact .inr (.inr ⟨k0,k,h1,h2,by rw[(bW a).1 KY,h3]⟩)
 have bL:∀a k,s.nx<=a->cC.get a=some k->∃q j k0,a=s.nx+q∧m[q]? =some j∧s1.h.get j=some k0∧dm (aD (er l m l.length s.nx) 12) k0=some k:= λa k ha e=>by
  by_cases hq:a-s.nx<m.length
  ·refine⟨a-s.nx,m[a-s.nx],?_⟩;rcases(bW 0).2.2 (a-s.nx) m[a-s.nx] (by simp[hq])with ⟨_,e2⟩|⟨k0,k1,e1,e2,e3⟩
   ·rw[show s.nx+(a-s.nx)=a by omega,e]at e2;cases e2
   ·rw[show s.nx+(a-s.nx)=a by omega,e]at e3;cases e3;exact⟨k0,by omega,by simp[hq],e1,e2⟩
  ·rw[(bW a).2.1 (by omega),O9.1 a (λHa=>by have:=hlt a ((eJ a).2 (.inr Ha));omega),hR.top a ha]at e;cases e
 have ET:∀a k,cC.get a=some k->(a<s.nx∧a∉l∧s.h.get a=some k)∨∃j k0,kh a=db j∧s1.h.get j=some k0∧dm (aD (er l m l.length s.nx) 12) k0=some k∧((j<l.length∧l[j]? =some a)∨∃q,a=s.nx+q∧m[q]? =some j):= λa k e=>by
  by_cases ha:a<s.nx
  ·by_cases ra:a∈l
   ·obtain⟨j,hj,AA⟩:=FJ a ra;refine .inr ?_;rcases tE a j AA with ⟨_,h2⟩|⟨h2,L7⟩|⟨k0,k',h1,h2,h3⟩
    ·rw[e]at h2;cases h2
    ·rw[h2]at e;rcases(iD 0).2.2 j a AA with ⟨e1,_⟩|⟨b,b',e1,e2,e3⟩
     ·rw[e]at e1;cases e1
     ·rw[e]at e1;cases e1;rw[Nat.zero_add]at e3;exact⟨j,b',by rw[cE a ha,ng j hj,cN j a AA],by rw[pT j L7,e3],vV (λv v' hv=>nQ hinv 12 v v' hv) e2,.inl ⟨hj,AA⟩⟩
    ·rw[e]at h3;cases h3;exact⟨j,k0,by rw[cE a ha,ng j hj,cN j a AA],h1,h2,.inl ⟨hj,AA⟩⟩
   ·exact .inl ⟨ha,ra,by rw[<-nT a ha (λh2=>ra ((eJ a).2 (.inr h2)))];exact e⟩
  ·obtain⟨q,j,k0,e0,f1,f2,f3⟩:=bL a k (by omega) e;exact .inr ⟨j,k0,by rw[e0,fu q j f1],f2,f3,.inr ⟨q,e0,f1⟩⟩
 have R8:∀a a' j,a≠a'->((j<l.length∧l[j]? =some a)∨∃q,a=s.nx+q∧m[q]? =some j)->∀j',((j'<l.length∧l[j']? =some a')∨∃q,a'=s.nx+q∧m[q]? =some j')->j≠j':= λa a' j hne c1 j' c2 he=>by
  subst he;rcases c1 with ⟨g1,g2⟩|⟨q,g1,g2⟩
  ·rcases c2 with ⟨Pv,JX⟩|⟨q',Pv,JX⟩
   ·rw[g2]at JX;cases JX;exact hne rfl
   ·have:=m5 j (List.mem_of_getElem? JX);omega
  ·rcases c2 with ⟨Pv,JX⟩|⟨q',Pv,JX⟩
   ·have:=m5 j (List.mem_of_getElem? g2);omega
   ·have:=ja Ay g2 JX;exact hne (by rw[g1,Pv,this])
 have Ge:∀b,aQ kh ⟨cC,s.nx+m.length,s.lim⟩ b->aQ ρ s b∧b<w.heap.size∧¬aQ aO ⟨hin,l.length,l1.length⟩ b∨aQ db s1 b:= λb ⟨a,k,x,e,e',hb⟩=>by
  have e:cC.get a=some k:=e;rcases ET a k e with ⟨ha,ra,e1⟩|⟨j,k0,hr,e1,_,_⟩
  ·rw[cE a ha]at e';subst hb;exact .inl ⟨⟨a,k,x,e1,e',rfl⟩,(hR.blk a k x e1 e').1,HY a k x ra e1 e'⟩
  ·rw[hr]at e';exact .inr ⟨j,k0,x,e1,e',hb⟩
 refine⟨kh,cJ ft 12 _ _ _ Ec hv,?_,?_⟩
 ·refine⟨λa ha=>yM a ha,λa ha=>?_,λa k x e e'=>?_,Nat.le_trans hR.lim (Nat.le_add_right _ _),λa a' k k' x x' hne e1 e2 r1 r2 hb=>?_,λg gl vs g1 g2=>?_⟩
  rotate_right
  ·obtain⟨c1,c2,c3⟩:=dO.gl g gl vs g1 g2;refine⟨c1,λhh=>?_,c3⟩;rcases Ge g hh with ⟨hh,_⟩|hh
   ·exact(hR.gl g gl vs g1 g2).2.1 hh
   ·exact c2 hh
  ·have ha:s.nx+m.length<=a:=ha;show cC.get a=none;cases e:cC.get a with
   |none=>rfl
   |some k=>obtain⟨q,j,k0,e0,f1,_⟩:=bL a k (by omega) e;have:=(List.getElem?_eq_some_iff.1 f1).1;omega
  ·rcases ET a k e with ⟨ha,ra,e1⟩|⟨j,k0,hr,e1,e2,_⟩
   ·rw[cE a ha]at e';obtain⟨b1,b2⟩:=hR.blk a k x e1 e';exact⟨Nat.lt_of_lt_of_le b1 hS.size,(b2.congr (hS.frame _ b1 (HY a k x ra e1 e')).1).mono hle⟩
   ·rw[hr]at e';obtain⟨b1,b2⟩:=dO.blk j k0 x e1 e';exact⟨b1,lH ft e2 b2⟩
  ·have key:∀a k x x',a<s.nx->a∉l->s.h.get a=some k->kh a=some x->∀j k0,s1.h.get j=some k0->db j=some x'->x.b=x'.b->False:= λa k x x' ha ra e1 r1 j k0 f1 f2 hb=>by
    rw[cE a ha]at r1;have yj:=(hR.blk a k x e1 r1).1;exact(hS.frame x.b yj (HY a k x ra e1 r1)).2 ⟨j,k0,x',f1,f2,hb.symm⟩
   rcases ET a k e1 with ⟨ha,ra,q1⟩|⟨j,k0,hr,q1,q2,q3⟩
   ·rcases ET a' k' e2 with ⟨cZ,ND,Cl⟩|⟨j',Ck,eR,Cl,JW,MV⟩
    ·rw[cE a ha]at r1;rw[cE a' cZ]at r2;exact hR.aX a a' k k' x x' hne q1 Cl r1 r2 hb
    ·rw[eR]at r2;exact(key a k x x' ha ra q1 r1 j' Ck Cl r2 hb).elim
   ·rcases ET a' k' e2 with ⟨cZ,ND,Cl⟩|⟨j',Ck,eR,Cl,JW,MV⟩
    ·rw[hr]at r1;exact(key a' k' x' x cZ ND Cl r2 j k0 q1 r1 hb.symm).elim
    ·rw[hr]at r1;rw[eR]at r2;have:=(dO.aX j j' k0 Ck x x' (R8 a a' j hne q3 j' MV) q1 Cl r1 r2 hb).1;rw[(eZ q2).1]at this;cases this
 ·refine⟨λa ha=>cE a ha,Nat.le_add_right _ _,hS.tape,hS.os,hS.out,hS.size,λb hb hn=>?_,λa ha hn=>?_,hS.lp,rfl,λa ha=>?_,λa k x ha cZ e LX e'=>?_⟩
  ·obtain⟨f1,f2⟩:=hS.frame b hb (λhh=>hn (Lq b hh));refine⟨f1,λhh=>?_⟩;rcases Ge b hh with ⟨hh,_⟩|hh
   ·exact hn hh
   ·exact f2 hh
  ·show cC.get a=s.h.get a∨cC.get a=none;by_cases ra:a∈l
   ·obtain⟨j,hj,AA⟩:=FJ a ra;rcases tE a j AA with ⟨_,h2⟩|⟨h2,_⟩|⟨k0,k',h1,h2,h3⟩
    ·exact .inr h2
    ·exact .inl h2
    ·have hp:=hS.ph j hj (by rw[cN j a AA];exact hn);rcases hp with hp|hp
     ·have hp:s1.h.get j=hin.get j:=hp;rw[h1]at hp;rcases(iD 0).2.2 j a AA with ⟨_,e2⟩|⟨b,b',e1,e2,e3⟩
      ·rw[Nat.zero_add,<-hp]at e2;cases e2
      ·rw[Nat.zero_add,<-hp]at e3;cases e3;have:=vV (λv v' hv=>nQ hinv 12 v v' hv) e2;rw[this]at h2;cases h2;exact .inl (by rw[h3,e1])
     ·rw[h1]at hp;cases hp
   ·exact .inl (nT a ha (λh2=>ra ((eJ a).2 (.inr h2))))
  ·exact nT a (Nat.lt_of_lt_of_le ha hR.lim) (λh2=>by have:=KX a h2;omega)
  ·by_cases ra:a∈l
   ·obtain⟨j,hj,AA⟩:=FJ a ra;have L7:j<l1.length:=by
     refine Nat.lt_of_not_le λpS=>?_;have e2:l2[j-l1.length]? =some a:=(O5 j pS)▸AA;have:=KX a (List.mem_of_getElem? e2);omega
    rcases(iD 0).2.2 j a AA with ⟨e1,_⟩|⟨b,b',e1,e2,e3⟩
    ·rw[e]at e1;cases e1
    ·rw[Nat.zero_add]at e3;exact hS.gD j b' x L7 hj e3 (eZ e2).2 (by rw[cN j a AA];exact e')
   ·exact(hS.frame _ (hR.blk a k x e e').1 (HY a k x ra e e')).1
theorem isoWFF_ok (hB:EvOk P B) {F:FF} (hF:FFOk P f F):FFOk P f (isoWFF B f F):=by
 intro ev hev args s v s' hr ρ w ao hR ha;have hr:vh (kL B f args s) (F ev args s)= .val v s':=hr;cases hi:kL B f args s with
 |no=>rw[hi]at hr;exact hF ev hev args s v s' hr ρ w ao hR ha
 |code=>rw[hi]at hr;exact hF ev hev args s v s' hr ρ w ao hR ha
 |val v1 s1=>rw[hi]at hr;cases hr;exact It hB hi hR ha
end Go.Eng
end
noncomputable section
namespace Go.Eng
open Go
variable {s s':AS} {x:Loc} {off:Nat} {P:Program} {ρ:Ren} {v:Value} {w:World}
def KZ (P:Program) (w:World):Prop:=∀g gl,P.globals[g]? =some gl->gl.name= "errors.errorType"->g<w.heap.size∧w.cell? ⟨g,0,none⟩=some (Fq P)
structure Sc (P:Program) (f te tp:Nat):Prop where
 enter:∀args w,(callFunc f args).run P w= .ok (.enter f args) w
 nil:∀(t:Value) (w:World),Calls P f #[.nilIface,t] w λe w'=>e= .returned (.bool false)∧w'=w
 Jz:∀(e t:Addr) (old:Value) (w:World),KZ P w->w.cell? t=some old->w.frozen? t=false->
  Calls P f #[.iface te (.pointer (some e)),.iface tp (.pointer (some t))] w λev w'=>ev= .returned (.bool true)∧
   ∃w1:World,w.heap.size<=w1.heap.size∧(∀b,b<w.heap.size->w1.heap[b]? =w.heap[b]?)∧w1.tape=w.tape∧w1.os=w.os∧w1.output=w.output∧w'=w1.setCell t (.pointer (some e))
theorem BB {a:Nat} (hr:Rel P ρ s w) (hx:ρ a=some x) (h:iH s a off [v]=some s'):
  x.b<w.heap.size∧(∃old,w.cell? ⟨x.b,x.base+off,none⟩=some old)∧w.frozen? ⟨x.b,x.base+off,none⟩=false:=by
 unfold iH at h;obtain⟨lT,h⟩:=ae h;obtain⟨c,sz,n,ro,et,hb,h⟩:=bP h;obtain⟨hro,h⟩:=bj h;subst hro;obtain⟨e,he,h⟩:=ay h;obtain⟨e',gq,h⟩:=ay h;obtain⟨c',qZ,h⟩:=ay h;obtain⟨hlt,hC⟩:=hr.blk a _ x hb hx;have hC:aH P ρ x w c sz n false et:=hC;obtain⟨hi,hlen,hcell⟩:=hC.cell _ _ he;obtain⟨D7,hle⟩:=xh _ _ _ _ gq;have e0:Nat.mod off sz=off%sz:=rfl;have e1:Nat.div off sz=off/sz:=rfl;rw[e0]at D7 hle;rw[e1]at he hcell qZ hi;have OS:off/sz*sz+off%sz=off:=by rw[Nat.mul_comm];exact Nat.div_add_mod off sz
 have hle:off%sz+1<=e.length:=hle;obtain⟨u,hu,_⟩:=hcell (off%sz) _ (List.getElem?_eq_getElem (by omega));have e2:x.base+(off/sz*sz+off%sz)=x.base+off:=by omega
 rw[e2]at hu;refine⟨hlt,⟨u,hu⟩,?_⟩;cases hf:w.frozen? ⟨x.b,x.base+off,none⟩with
 |false=>rfl
 |true=>have:=(hC.free rfl _ hf).1;rw[hu]at this;cases this
end Go.Eng
end
noncomputable section
namespace Go.Eng
open Go
variable {gl:Global} {g:Nat} {P:Program} {w:World}
theorem xZ {n:String} {g':Nat} (h:P.globalNamed n=some g) (hg:P.globals[g']? =some gl) (hn:gl.name=n):g'=g:=by
 unfold Program.globalNamed at h;split at h
 ·rename_i a ha;cases h;have hm:g'∈(List.range P.globals.size).filter λg=>(P.globals[g]?).any (·.name==n):=by
   rw[List.mem_filter];refine⟨List.mem_range.2 (Array.getElem?_eq_some_iff.1 hg).1,?_⟩;rw[hg];simp[hn]
  rw[ha]at hm;simpa using hm
 ·cases h
theorem oq {w:World}:∀ {l:List (String×DataW Unit)} {ps:List MemPlace} {n:String} {d:DataW Unit},DataW.LaidVars P w l ps->(n,d)∈l->
  ∃g t cs fuel p,P.globalNamed n=some g∧(P.globals[g]?).map (·.type)=some t∧w.var? P n=some cs∧DataW.trod (λ_=>()) P w 0 (λ_=>true) false fuel t cs.toList=some (d,p)
 | [],_,_,_,_,h=>by cases h
 |(n',d')::l,ps,n,d,h,hm=>by
  obtain⟨g,t,cs,fuel,p,q,h1,h2,h3,h4,h5,_⟩:=h;rcases List.mem_cons.1 hm with e|hm
  ·cases e;exact⟨g,t,cs,fuel,p,h1,h2,h3,h4⟩
  ·exact oq h5 hm
theorem GK {n:String} {cs:Array Value} (h1:P.globalNamed n=some g) (h3:w.var? P n=some cs):g<w.heap.size:=by
 unfold World.var? at h3;rw[h1]at h3;simp only[Option.bind_some]at h3;split at h3
 ·rename_i hh;exact(Array.getElem?_eq_some_iff.1 hh).1
 ·cases h3
def wW:DataW Unit:= .agg ((List.range 20).map λi=> .lit (.int .u64 (10^i:Nat)))
theorem uP {l:List (String×DataW Unit)} (hl:laidMetH P l w) {t e:TypeId} (hm:("internal/strconv.uint64pow10",wW)∈l) (ht:∀g,P.globalNamed "internal/strconv.uint64pow10"=some g->(P.globals[g]?).map (·.type)=some t) (hu:P.underlying t=some (.array 20 e)) (he:P.underlying e=some (.int .u64)) (hc:P.cellsOf e=1) (hg:P.globals[g]? =some gl) (hb:gl.name= "internal/strconv.uint64pow10"):
  g<w.heap.size∧∀(i:Nat) (v:Value),((List.range 20).map λi=>Value.int .u64 (10^i:Nat))[i]? =some v->w.cell? ⟨g,i,none⟩=some v:=by
 obtain⟨⟨ps,hl,_,_⟩,_⟩:=laidMetH_iff.1 hl;have Aa:("internal/strconv.uint64pow10",wW)∈l.filter λx=>x.2.handleName?.isNone:=List.mem_filter.2 ⟨hm,rfl⟩;obtain⟨g1,t1,cs,fuel,p,h1,h2,h3,h4⟩:=oq hl Aa;have Vj:=xZ h1 hg hb;subst Vj;have:=ht _ h1;rw[h2]at this;injection this with this
 subst this;obtain⟨xs,m,rfl,hx,hlen,hn,D7⟩:=DataW.trod_array hu h4;have hcell:=World.var?_cell h1 h3;refine⟨GK h1 h3,λi v Dh=>?_⟩;rw[List.getElem?_map]at Dh;have hi:i<20:=by
  rcases Nat.lt_or_ge i 20 with h|h
  ·exact h
  ·rw[List.getElem?_eq_none (by simpa using h)]at Dh;cases Dh
 rw[List.getElem?_range hi]at Dh;injection Dh with Dh
 subst Dh;have ue:=D7 i hi;rw[hc,Nat.mul_one]at ue;have Qb:xs[i]? =some xs[i]:=by rw[List.getElem?_eq_getElem (by omega)]
 rw[Qb]at ue;obtain⟨k,e1,e2,_⟩:=DataW.trod_int he ue;have hd:xs.map (·.1)=(List.range 20).map λi=>(.lit (.int .u64 (10^i:Nat)):DataW Unit):=by
  have:=congrArg Prod.fst hx;simp only[wW]at this;injection this with this
  exact this.symm
 have MG:(xs.map (·.1))[i]? =((List.range 20).map λi=>(.lit (.int .u64 (10^i:Nat)):DataW Unit))[i]?:=by rw[hd]
 rw[List.getElem?_map,List.getElem?_map,Qb,List.getElem?_range hi,e2]at MG;simp only[Option.map_some,Option.some.injEq,DataW.lit.injEq,Lit.int.injEq,true_and]at MG;rw[hcell];have O3:cs.toList[i]? =some (.int .u64 k):=by
  have:((cs.toList.drop i).take 1)[0]? =some (.int .u64 k):=by rw[e1];rfl
  rw[List.getElem?_take]at this;simpa using this
 rw[Array.getElem?_toList]at O3;rw[O3,MG]
theorem errT_none (h:(P.globals.toList.all λg=>!(g.name== "errors.errorType"))=true):KZ P w:= λg gl hg hn=>by have:=List.all_eq_true.1 h gl (by simpa using Array.mem_of_getElem? hg);rw[hn]at this;simp at this
theorem gworld_of {t e:TypeId} {l:List (String×DataW Unit)} (hl:laidMetH P l w) (hm:("internal/strconv.uint64pow10",wW)∈l) (ht:∀g,P.globalNamed "internal/strconv.uint64pow10"=some g->(P.globals[g]?).map (·.type)=some t) (hu:P.underlying t=some (.array 20 e)) (he:P.underlying e=some (.int .u64)) (hc:P.cellsOf e=1) (hE:KZ P w):GWorld P w:=by
 intro g gl vs hg hv;unfold wg at hv;split at hv
 ·rename_i Jt eE;cases hv;unfold iw at eE;cases hb:(gl.name== "internal/strconv.uint64pow10")with
  |false=>rw[hb]at eE;cases eE
  |true=>
   rw[hb]at eE;have eE:some ((List.range 20).map λi=>Value.int .u64 (10^i:Nat))=some vs:=eE;injection eE with eE
   subst eE;exact uP hl hm ht hu he hc hg (by simpa using hb)
 ·cases hb:(gl.name== "errors.errorType")with
  |false=>rw[hb]at hv;cases hv
  |true=>
   rw[hb]at hv;have hv:some [Fq P]=some vs:=hv;injection hv with hv
   subst hv;obtain⟨a,c⟩:=hE g gl hg (by simpa using hb);refine⟨a,λi v Dh=>?_⟩;cases i with
   |zero=>cases Dh;exact c
   |succ i=>simp at Dh
end Go.Eng
end
noncomputable section
namespace Go.Eng
open Go
variable {ev:Ev} {L:List (Nat×Ev)} {f:Nat} {P:Program} {pre:T (Option FF)}
structure VD (P:Program) (X:Cfg)where
 t:T (Option FF)
 h:∀f o,T.get t f=some o->mkFn P X f=o
theorem preT_ok {X:Cfg}:∀ {l:List (PreE P X)} {t:T (Option FF)},preT l=some t->∀f o,T.get t f=some o->mkFn P X f=o
 | [],t,h,f,o,hg=>by have h:some (emptyT 11)=some t:=h;cases h;rw[jK]at hg;cases hg
 |p::l,t,h,f,o,hg=>by
  have h:ob (preT l) (λt=>T.put (some p.o) t p.f)=some t:=h;obtain⟨t0,h0,h⟩:=U h;rw[T.aR _ _ _ _ h]at hg;by_cases hf:f=p.f
  ·rw[if_pos hf]at hg;cases hg;rw[hf];exact p.h
  ·rw[if_neg hf]at hg;exact preT_ok h0 f o hg
theorem DX {X:Cfg} (hX:CfgOk P X) (hp:∀f F,T.get pre f=some (some F)->FFOk P f F) (hL:∀p∈L,EvOk P p.2) {F:FF} (h:yN P X pre L f=some F):FFOk P f F:=by
 unfold yN at h;cases hg:T.get pre f with
 |none=>rw[hg]at h;exact GJ hX hL h
 |some o=>
  rw[hg]at h;cases o with
  |none=>cases h
  |some F0=>
   have hF:FFOk P f (pG (jt f X.tab) F0):=sE (hp f _ hg) _ λe he=>⟨(fL he).2,hX.tab e (fL he).1⟩
   have h:Option.rec (motive:= λ_=>Option FF) (some (pG (jt f X.tab) F0)) (λB=>some (Ca B f (pG (jt f X.tab) F0))) (jF f L)=some F:=h;cases hb:jF f L with
   |none=>rw[hb]at h;cases h;exact hF
   |some B=>rw[hb]at h;cases h;obtain⟨p,oQ,rfl⟩:=ld hb;exact zp (hL p oQ) hF
theorem DY {X:Cfg} (hX:CfgOk P X) (hp:∀f F,T.get pre f=some (some F)->FFOk P f F) (hL:∀p∈L,EvOk P p.2) (hev:EvOk P ev):EvOk P (FK P X pre L ev):=by
 intro f args s v s' h ρ w f' ao hR hf ha;unfold FK at h;split at h
 ·rename_i fi first cap
  cases hf with| @func _ _ _ fa fb h1 h2=>?_
  have h:Option.rec (motive:= λ_=>Out) .no (λF=>F ev (app first.toList (app args cap.toList)) s) (yN P X pre L fi)= .val v s':=h;cases hF:yN P X pre L fi with
  |none=>rw[hF]at h;cases h
  |some F=>
   rw[hF]at h;have cZ:af ρ (app first.toList (app args cap.toList)) (fa.toList++(ao++fb.toList)):=by rw[ku,ku];exact h1.append (ha.append h2)
   have:=DX hX hp hL hF ev hev _ s v s' h ρ w _ hR cZ;have he:bD (.func (.func fi) fa fb) ao=callFunc fi (fa.toList++(ao++fb.toList)).toArray:=by unfold bD;simp only[Deferred.ofValue,pure_bind,invoke];congr 1;apply Array.ext';simp
   rw[he];exact this
 ·rename_i l first cap
  cases hf with| @yield _ x _ _ fa fb hx h1 h2=>?_
  have cZ:af ρ (app first.toList args) (fa.toList++ao):=by rw[ku];exact h1.append ha
  have:=GD hX.plain hX.mixed hev h hR hx cZ;have he:bD (.func (.yield x.b) fa fb) ao=Instr.yield x.b (fa.toList++ao).toArray:=by unfold bD;simp only[Deferred.ofValue,pure_bind,invoke];congr 1;apply Array.ext';simp
  rw[he];exact this
 ·cases h
theorem evalQ_okF {X:Cfg} (hX:CfgOk P X) {pre:T (Option FF)} (hp:∀f F,T.get pre f=some (some F)->FFOk P f F) {L:List (Nat×Ev)} (hL:∀p∈L,EvOk P p.2):∀n,EvOk P (evalQ P X pre L n)
 |0=> λf args s v s' h=>by cases h
 |n+1=>DY hX hp hL (evalQ_okF hX hp hL n)
theorem preF {X0:Cfg} (Mn:CfgOk P X0) (hp:∀f o,T.get pre f=some o->mkFn P X0 f=o):∀f F,T.get pre f=some (some F)->FFOk P f F:= λ_ _ h=>xv Mn (hp _ _ h)
theorem evalQ_ok {X X0:Cfg} (hX:CfgOk P X) (Mn:CfgOk P X0) (hp:∀f o,T.get pre f=some o->mkFn P X0 f=o) (hL:∀p∈L,EvOk P p.2) (n:Nat):EvOk P (evalQ P X pre L n):=evalQ_okF hX (preF Mn hp) hL n
theorem preWith_ok {F:FF} (hF:FFOk P f F) (hp:∀g G,T.get pre g=some (some G)->FFOk P g G):∀g G,T.get (preWith f F pre) g=some (some G)->FFOk P g G:=by
 intro g G h;unfold preWith at h;cases ht:T.put (some (some F)) pre f with
 |none=>rw[ht]at h;rw[T.get_e]at h;cases h
 |some t=>
  rw[ht]at h;have h:T.get t g=some (some G):=h;rw[T.aR _ _ _ _ ht]at h;by_cases hg:g=f
  ·rw[if_pos hg]at h;cases h;rw[hg];exact hF
  ·rw[if_neg hg]at h;exact hp g G h
end Go.Eng
end
noncomputable section
namespace Go.Eng
open Go
variable {args:List Value} {f:Nat} {P:Program} {w:World}
structure GuardFits (P:Program) (f fill tY sm t:Nat):Prop where
 enter:∀args w,(callFunc f args).run P w= .ok (.enter f args) w
 Lr:∀args w,(callFunc fill args).run P w= .ok (.enter fill args) w
 Ls:∀args w,(callFunc tY args).run P w= .ok (.enter tY args) w
 run:∀(l x:Value) (w:World) (R:Value->World->Prop),
  Calls P fill #[l,.func (.func sm) #[] #[],x] (w.alloc (.cells #[.pointer none] t)) (λe w1=>∃u8,e= .returned u8∧Calls P tY #[u8] w1 (λe2 w2=>∃p old,e2= .returned (.pointer p)∧w2.cell? ⟨w.heap.size,0,none⟩=some old∧w2.frozen? ⟨w.heap.size,0,none⟩=false∧R (.pointer p) (w2.setCell ⟨w.heap.size,0,none⟩ (.pointer p))))->
  Calls P f #[l,x] w λe w'=>∃u,e= .returned u∧R u w'
theorem zV (f:Nat) (args:List Value):bD (.func (.func f) #[] #[]) args=callFunc f args.toArray:=by unfold bD;simp only[Deferred.ofValue,pure_bind,invoke];congr 1;apply Array.ext';simp
theorem ot {R:Value->World->Prop} (he:∀args w,(callFunc f args).run P w= .ok (.enter f args) w) (h:aU P (bD (.func (.func f) #[] #[]) args) w R):
  Calls P f args.toArray w λe w'=>∃u,e= .returned u∧R u w':=by
 rw[zV]at h;unfold aU at h;rw[he]at h;exact callsIn_wide.1 h
theorem guard_ok {fill tY sm t:Nat} (hF:GuardFits P f fill tY sm t):FFOk P f (BX (.guard fill tY sm t)):=by
 intro ev hev args s v s' h ρ w ao hR ha;have h:Ct fill tY sm t ev args s= .val v s':=h
 match args,ha,h with
 | [],_,h=>cases h
 | [_],_,h=>cases h
 |_::_::_::_,_,h=>cases h
 | [l,x],.cons (u:=l') hl (.cons (u:=x') hx .nil),h=>
  have h:Option.rec (motive:= λ_=>Out) .no (λs0=>FX ev fill tY sm s.nx l x s0) (s.new (.cells (.n (some [.pointer none]) .e .e) 1 1 false t))= .val v s':=h;cases hs0:s.new (.cells (.n (some [.pointer none]) .e .e) 1 1 false t)with
  |none=>rw[hs0]at h;cases h
  |some s0=>
   rw[hs0]at h;replace h:Out.rec (motive:= λ_=>Out) .no (λ_ _ _=> .no) (λv s1=>FW ev tY s.nx v s1) (ev (.func (.func fill) #[] #[]) [l,.func (.func sm) #[] #[],x] s0)= .val v s':=h;cases h8:ev (.func (.func fill) #[] #[]) [l,.func (.func sm) #[] #[],x] s0 with
   |no=>rw[h8]at h;cases h
   |code=>rw[h8]at h;cases h
   |val v8 s1=>
    rw[h8]at h;replace h:Out.rec (motive:= λ_=>Out) .no (λ_ _ _=> .no) (λv9 s2=>wK s.nx v9 s2) (ev (.func (.func tY) #[] #[]) [v8] s1)= .val v s':=h;cases h9:ev (.func (.func tY) #[] #[]) [v8] s1 with
    |no=>rw[h9]at h;cases h
    |code=>rw[h9]at h;cases h
    |val v9 s2=>
     rw[h9]at h;replace h:wK s.nx v9 s2= .val v s':=h;unfold wK at h;split at h
     ·rename_i q;replace h:=nR h;obtain⟨s3,lJ,h⟩:=U h;cases h;have R9:=(AS.eg hs0).1;have hB:cj P (ρ.put s.nx ⟨w.heap.size,0,1,[]⟩) ⟨w.heap.size,0,1,[]⟩ (w.alloc (.cells #[.pointer none] t)) (.cells (.n (some [.pointer none]) .e .e) 1 1 false t):=
       nI (els:= [[.pointer none]]) (cs:= [.pointer none]) (rest:= []) (lo:=0) (hi:=0) (by rfl) (by simp) rfl (.cons .fz .nil) (λo h1 h2=>by omega) rfl
      obtain⟨Mj,Hk⟩:=hR.alloc (w':=w.alloc (.cells #[.pointer none] t)) hs0 rfl (by simp) (λb hb=>RowKit.Below.heap_alloc w _ b hb) rfl rfl rfl hB;have NF:=Hk.le hR;unfold aU;rw[hF.enter];refine CallsIn.mono (callsIn_wide.2 (hF.run l' x' w (λu w'=>∃aj,ag aj (.pointer q) u∧Rel P aj s' w'∧aN ρ s w aj s' w') ?_)) (λe w' h=>h);have c8:=ot hF.Lr (hev _ _ _ _ _ h8 _ _ (.func (.func fill) #[] #[]) [l',.func (.func sm) #[] #[],x'] Mj (.func fill .nil .nil) (.cons (hl.mono NF) (.cons (.func sm .nil .nil) (.cons (hx.mono NF) .nil))));refine c8.mono ?_;rintro e w1 ⟨u8,rfl,aO,Vk,dn,dv⟩;refine⟨u8,rfl,?_⟩;have c9:=ot hF.Ls (hev _ _ _ _ _ h9 _ _ (.func (.func tY) #[] #[]) [u8] dn (.func tY .nil .nil) (.cons Vk .nil));refine c9.mono ?_;rintro e w2 ⟨u9,rfl,db,QK,dO,fC⟩;have Ps:db s.nx=some ⟨w.heap.size,0,1,[]⟩:=by
       have e0:(ρ.put s.nx ⟨w.heap.size,0,1,[]⟩) s.nx=some ⟨w.heap.size,0,1,[]⟩:=by unfold Ren.put;rw[if_pos rfl]
       have e1:=dv.jY s.nx (by rw[R9];omega);have e2:=fC.jY s.nx (by have:=dv.nx;omega);rw[e2,e1,e0]
      obtain⟨_,⟨old,ho⟩,Iy⟩:=BB dO Ps lJ;have hp:∃p,u9= .pointer p:=by cases QK<;>exact⟨_,rfl⟩
      obtain⟨p,rfl⟩:=hp;refine⟨p,old,rfl,ho,Iy,?_⟩;obtain⟨w3,_,hw3,g3,g4⟩:=jN dO Ps lJ (.cons QK .nil);have hw3:w3=w2.setCell ⟨w.heap.size,0,none⟩ (.pointer p):=hw3;subst hw3;exact⟨db,QK,g3,Hk.trans (dv.trans (fC.trans g4))⟩
     ·cases h
end Go.Eng
end
noncomputable section
namespace Go.Eng
open Go
variable {s s':AS} {tmps:Array Value} {c:Code} {ev:Ev} {G:Ev->List Value->AS->Option AS} {rs:List ResultVar} {args ao:List Value} {f g aa nt:Nat} {P:Program} {ρ:Ren} {t0 tm:T Value} {v:Value} {w:World}
theorem zr (fk:mkT nt=some t0) (hp:gu aa args 0 t0=some tm) (ha:af ρ args ao):
  bt aa nt ρ tm {tmps:=ao.toArray++Array.replicate (nt-ao.toArray.size) undef,defers:= []}:=by
 have hlen:=ha.length;refine⟨by simp;omega,λt v hv=>?_,λt v hv=>?_⟩
 ·rcases fY _ _ _ _ hp t v hv with ⟨h1,_,_⟩|h1
  ·exact h1
  ·rw[qM _ _ fk]at h1;cases h1
 ·rcases fY _ _ _ _ hp t v hv with ⟨_,_,h1⟩|h1
  ·obtain⟨u,hu,eE⟩:=ha.get h1;refine⟨u,?_,eE⟩;have hlt:t<ao.length:=by
    have:=(List.getElem?_eq_some_iff.1 hu).1;simpa using this
   rw[Array.getElem?_append_left (by simpa using hlt)];simpa using hu
  ·rw[qM _ _ fk]at h1;cases h1
theorem BC (hP:Plainly P) {X:Cfg} (hG:qY P X g=some G) (hev:EvOk P ev) (h:G ev args s=some s') (hR:Rel P ρ s w) (ha:af ρ args ao):
  (∀args w,(callFunc g args).run P w= .ok (.enter g args) w)∧CallsDIn Fence.wide 0 P g ao.toArray .returning w λe u' w'=>u'= .returning∧∃v,e= .returned v∧∃aj,Rel P aj s' w'∧aN ρ s w aj s' w':=by
 unfold qY at hG;split at hG
 ·rename_i fn hfn;split at hG
  ·rename_i id ops hb;split at hG
   ·rename_i Ax;obtain⟨t0,fk,hG⟩:=U hG;obtain⟨l,hl,hG⟩:=U hG;cases hG;obtain⟨tm,Hm,h⟩:=U h;split at h
    ·rename_i aw s1 Sa;cases h;refine⟨λargs w=>dk hP hfn hb _ _,?_⟩;refine(callsDIn_of_wp (R:= λe w'=>∃v,e= .returned v∧∃aj,Rel P aj s' w'∧aN ρ s w aj s' w') hfn hb trivial ?_).mono λe u' w' h=>h;have hE:=zr fk Hm ha;refine wpIn_region ?_;have:=o9 (F:=Fence.wide) (Q:=bodyPost P fn λe w'=>∃v,e= .returned v∧∃aj,Rel P aj s' w'∧aN ρ s w aj s' w') (.inl rfl) hev (all:=ops) ops.toList 0 (by simp) [] l hl ρ .nil tm s _ w Sa hE.inv hR (λaj a' w' _ iR hd eN aZ=>by
      refine⟨hd,?_⟩;refine⟨.tuple #[],?_,.tuple #[],rfl,aj,eN,aZ⟩;obtain⟨us,h1,h2⟩:=pq eN iR.env fn.results.toList [] (by rw[Ax];rfl);have hrun:(fn.results.mapM (gx a'.tmps)).run P w'= .ok us.toArray w':=by
       rw[Array.mapM_eq_mapM_toList];have:(Functor.map List.toArray (fn.results.toList.mapM (gx a'.tmps)))=(do let l<-fn.results.toList.mapM (gx a'.tmps);pure l.toArray):=by rw[map_eq_pure_bind]
       rw[this];simp only[Sem.run_bind,h1,Result.andThen_ok,Sem.run_pure]
      rw[tt];simp only[Sem.run_bind,hrun,Result.andThen_ok,Sem.run_pure];cases h2;rfl)
     rw[List.range_eq_range'];simpa using this
    ·cases h
   ·cases hG
  ·cases hG
 ·cases hG
theorem ou:∀ {rs:List ResultVar},rQ rs=true->∀(s s1:AS) (tm:T Value),cX P s tm rs=cX P s1 tm rs
 | [],_,_,_,_=>rfl
 |r::rs,h,s,s1,tm=>by
  have h:(NG r&&rQ rs)=true:=h;obtain⟨h1,h2⟩:=Bool.and_eq_true_iff.1 h;show ob (nr P s tm r) (λv=>ob (cX P s tm rs) λl=>some (v::l))=ob (nr P s1 tm r) (λv=>ob (cX P s1 tm rs) λl=>some (v::l));rw[ou h2 s s1 tm];cases r with
  |tmp t=>rfl
  |cell a t=>cases h1
theorem BD (ha:rQ rs=true) (h:eW P rs tm s= .val v s') (s1:AS):s'=s∧eW P rs tm s1= .val v s1:=by
 have h:Option.rec (motive:= λ_=>Out) .no (λvs=>match vs with
  | [v]=> .val v s
  |vs=> .val (.tuple ⟨vs⟩) s) (cX P s tm rs)= .val v s':=h
 rw[ou ha s s1]at h;show _∧Option.rec (motive:= λ_=>Out) .no (λvs=>match vs with
  | [v]=> .val v s1
  |vs=> .val (.tuple ⟨vs⟩) s1) (cX P s1 tm rs)= .val v s1
 cases hr:cX P s1 tm rs with
 |none=>rw[hr]at h;cases h
 |some vs=>
  rw[hr]at h
  match vs,h with
  | [],h=>cases h;exact⟨rfl,rfl⟩
  | [_],h=>cases h;exact⟨rfl,rfl⟩
  |_::_::_,h=>cases h;exact⟨rfl,rfl⟩
theorem BE {q:VF×Nat×Nat} (h:Cb P aa nt c=some q):∃id ops o1 o2 a b cl,c= .region id ops false∧ops.toList= [o1,o2]∧o1.dst=some q.2.2∧o1.guard=none∧o1.op= .makeFunc (.func q.2.1) a b∧o2.dst=none∧o2.guard=none∧o2.op= .defer cl∧cl.callee= .value (.tmp q.2.2)∧cl.args.toList= []∧
  kept aa q.2.2=false∧yb P aa nt [] ops.toList o1=some (.v q.1 (.l q.2.2)):=by
 unfold Cb at h;split at h
 ·rename_i id ops;split at h
  ·rename_i o1 o2 dP;split at h
   ·rename_i t g a b cl e1 e2 e3 e4 e5 e6;split at h
    ·rename_i t' f1 f2;rw[ah]at h;split at h
     ·rename_i ht;have ht:=Nat.eq_of_beq_eq_true ht;subst ht;rw[ah]at h;split at h
      ·cases h
      ·rename_i hk;split at h
       ·rename_i f t2 hc;rw[ah]at h;split at h
        ·rename_i QN;have QN:=Nat.eq_of_beq_eq_true QN;subst QN;cases h;exact⟨id,ops,o1,o2,a,b,cl,rfl,dP,e1,e2,e3,e4,e5,e6,f1,f2,by simpa using hk,hc⟩
        ·cases h
       ·cases h
     ·cases h
    ·cases h
   ·cases h
  ·cases h
 ·cases h
theorem zW {r:Value} {o:Out} (h:rP P rs G ev g v o= .val r s'):
  ∃a b tm s1 s2 x,v= .func (.func g) a b∧o= .code x tm s1∧(x= .normal∨x= .ret)∧eW P rs tm s1= .val r s2∧G ev (a.toList++b.toList) s2=some s':=by
 have run:∀ {l o1},wX G ev l o1= .val r s'->∃s2,o1= .val r s2∧G ev l s2=some s':= λ {l o1} h=>by
  unfold wX at h;split at h
  ·rename_i r1 s1;split at h
   ·rename_i s2 e;cases h;exact⟨s1,rfl,e⟩
   ·cases h
  ·cases h
 unfold rP at h;split at h
 ·rename_i g' a b;rw[ah]at h;split at h
  ·rename_i hg;have hg:=Nat.eq_of_beq_eq_true hg;subst hg;split at h
   ·rename_i tm s;obtain⟨s2,e1,e2⟩:=run h;rw[ku]at e2;exact⟨a,b,tm,s,s2,_,rfl,rfl,.inl rfl,e1,e2⟩
   ·rename_i tm s;obtain⟨s2,e1,e2⟩:=run h;rw[ku]at e2;exact⟨a,b,tm,s,s2,_,rfl,rfl,.inr rfl,e1,e2⟩
   ·cases h
  ·cases h
 ·cases h
theorem FL {F:Func} (Ax:F.results.toList=rs) (hR:Rel P ρ s w) (hE:gC ρ tm tmps) (h:eW P rs tm s= .val v s'):s'=s∧∃u,(results F tmps).run P w= .ok u w∧ag ρ v u:=by subst Ax;exact mH hR hE h
theorem Lt (hP:Plainly P) (hm:P.follows .mixedOrders=true) {X:Cfg} {fn:Nat} {F:Func} (Ax:F.results.toList=rs) (hat:rQ rs=true):∀(n:Nat) (c:Code) (D:DF),QM P X fn nt aa rs n c=some D->
  ∀ev,EvOk P ev->∀(n0:Nat) (cD ρ:Ren) (s0 s:AS) (w0 w:World) (tm:T Value) (a:Act) (v:Value) (s':AS),D ev tm s= .val v s'->bt aa nt ρ tm a->n0<=w.heap.size->Marks ⟨n0,[]⟩ ρ s w a.defers->n0=w0.heap.size->Rel P ρ s w->aN cD s0 w0 ρ s w->
  ∀R:Ending->World->Prop,(∀u w' aj,ag aj v u->Rel P aj s' w'->aN cD s0 w0 aj s' w'->R (.returned u) w')->c.wpIn Fence.wide 0 P (bodyPostM Fence.wide 0 P F R) a w:=by
 intro n;induction n with
 |zero=>intro c D h;cases h
 |succ n ih=>
  intro c D h ev hev n0 cD ρ s0 s w0 w tm a v s' hD hE fh hM hn hR hS R hQ;cases c with
  |seq c1 c2=>
   have h:(match Cb P aa nt c1 with
    |some q=>ob (cG P fn nt aa c2) λB=>ob (qY P X q.2.1) λG=>some λev tm s=>match q.1 .nil tm s with|some v=>rP P rs G ev q.2.1 v (B ev tm s)|none=> .no
    |none=>ob (cG P fn nt aa c1) λA=>ob (QM P X fn nt aa rs n c2) λD=>some λev tm s=>K0 (eW P rs) (D ev) (A ev tm s))=some D:=h
   split at h
   ·rename_i q hq;obtain⟨B,hB,h⟩:=U h;obtain⟨G,hG,h⟩:=U h;cases h;obtain⟨id,ops,o1,o2,ca,cb,cl,rfl,dP,e1,e2,e3,e4,e5,e6,e7,e8,hk,hc⟩:=BE hq;replace hD:(match q.1 .nil tm s with|some v=>rP P rs G ev q.2.1 v (B ev tm s)|none=> .no)= .val v s':=hD;split at hD
    case h_2=>cases hD
    rename_i vf Vl;obtain⟨fa,fb,oO,s2,s3,x,rfl,Vm,hx,HU,Vn⟩:=zW hD;refine wpIn_seq ?_;refine wpIn_region ?_;have hsz:List.range ops.size= [0,1]:=by
     have:ops.size=2:=by rw[<-Array.length_toList,dP];rfl
     rw[this];rfl
    have Vo:ops[0]? =some o1:=by rw[<-Array.getElem?_toList,dP];rfl
    have JP:ops[1]? =some o2:=by rw[<-Array.getElem?_toList,dP];rfl
    rw[hsz]
    classical
    let kK:K:= λbr aw s1=>if Lo.get q.2.2 br=some (.func (.func q.2.1) fa fb)then .code .normal aw s1 else .no
    have hrun:dw ev (.v q.1 (.l q.2.2)) kK .nil tm s= .code .normal tm s:=by show Option.rec (motive:= λ_=>Out) .no (λv=>ei (.l q.2.2) v kK .nil tm s) (q.1 .nil tm s)=_;rw[Vl];show kK (.cons q.2.2 (.func (.func q.2.1) fa fb) .nil) tm s=_;refine if_pos ?_;show ab (Nat.beq q.2.2 q.2.2) _ _=_;rw[Nat.beq_refl];rfl
    refine Je (.inl rfl) hev Vo hc hrun hE.inv hR (λaO br aw s1 a1 w1 lf Cg Ch dn dv=>?_);have lf:(if Lo.get q.2.2 br=some (.func (.func q.2.1) fa fb)then .code .normal aw s1 else .no)=Out.code .normal tm s:=lf;split at lf
    case isFalse=>cases lf
    rename_i Vp;cases lf;rw[mz,e1]at Cg;have Cg:Inv aa nt [] aO br tm a1:=Cg;obtain⟨u,hu,hv⟩:=Cg.lo q.2.2 _ (λp hp=>(by cases hp)) hk Vp;cases hv with| @func _ _ _ ua ub h1 h2=>?_
    have Sb:a1.eval (.tmp q.2.2)= .func (.func q.2.1) ua ub:=by show a1.tmps.getD q.2.2 undef=_;rw[Array.getD_eq_getD_getElem?,hu];rfl
    simp only[wpOpsIn,JP];have hw:Region.wanted o2 (yielded ops a1.tmps)=true:=by unfold Region.wanted;rw[e5]
    rw[if_pos hw];refine⟨λf _=>trivial,?_⟩;have Vq:cl.args= #[]:=Array.ext' e8;have KS:(o2.semAt Fence.wide.round a1.eval).run P w1= .ok (.defer {target:= .fn (.func q.2.1) ub,args:=ua++ #[]}) w1:=by rw[show Fence.wide.round=none from rfl,Oper.semAt_none];unfold execOp;rw[e6];simp only[resolve,e7,Sb,Vq,Deferred.ofValue,pure_bind,Sem.run_pure];rw[show Array.map a1.eval #[]= #[]from by simp]
    rw[KS,Oper.uponIn_defer,e4];have hN:Marks ⟨w1.heap.size,{target:= .fn (.func q.2.1) ub,args:=ua++ #[]}::a1.defers⟩ aO s w1 ({target:= .fn (.func q.2.1) ub,args:=ua++ #[]}::a1.defers):=Marks.at (n0:=⟨w1.heap.size,{target:= .fn (.func q.2.1) ub,args:=ua++ #[]}::a1.defers⟩);refine dt hP hm c2 B hB ev hev Fence.wide (.inl rfl) aO tm s {a1 with defers:={target:= .fn (.func q.2.1) ub,args:=ua++ #[]}::a1.defers} w1 x oO s2 Vm ⟨Cg.size,Cg.tk,Cg.env⟩ ⟨w1.heap.size,{target:= .fn (.func q.2.1) ub,args:=ua++ #[]}::a1.defers⟩ (Nat.le_refl _) hN (λl hl=>(by cases hl)) dn _ (λdb a' w2 iR lP dO fC=>?_);obtain⟨ms,he,Dj,tG⟩:=lP.own;obtain⟨rfl,OM⟩:=BD hat HU s';have goal:LeavesInM Fence.wide 0 P F a'.tmps R a'.defers .returning w2:=by
     rw[he];refine pr (n0:=w1.heap.size) rfl _ (λw3 iu ij=>?_) ms w2 Dj tG dO fC;have hle:=ij.le dn;have cW:af db (fa.toList++fb.toList) (ua.toList++ub.toList):=(h1.mono hle).append (h2.mono hle);obtain⟨hent,ep⟩:=BC hP hG hev Vn iu cW;have yf:(ua.toList++ub.toList).toArray=ua++ #[]++ub:=by apply Array.ext';simp
     rw[yf]at ep;refine⟨by simp,.inr ⟨λh=>(by cases h),.func q.2.1,ub,q.2.1,ua++ #[]++ub,rfl,hent _ _,λ_ _=>trivial,?_⟩⟩;refine ep.mono ?_;rintro e u' w4 ⟨rfl,v4,rfl,MP,QD,MQ⟩;have Vr:Marks ⟨n0,[]⟩ MP s' w4 a1.defers:=by rw[Ch];exact hM.step (dv.trans (ij.trans MQ))
     have S3:=iR.env.mono (MQ.le iu);subst hn;exact jP (λw5 MR=>(FL Ax MR S3 OM).2) (λu w5 hu MR QE=>hQ u w5 MP hu MR QE) _ _ Vr QD (hS.trans (dv.trans (ij.trans MQ)))
    rcases hx with rfl|rfl
    ·exact goal
    ·exact goal
   ·rename_i hq;obtain⟨A,hA,h⟩:=U h;obtain⟨D1,Vs,h⟩:=U h;cases h;have hD:K0 (eW P rs) (D1 ev) (A ev tm s)= .val v s':=hD;refine wpIn_seq ?_;cases ho:A ev tm s with
    |no=>rw[ho]at hD;cases hD
    |val=>rw[ho]at hD;cases hD
    |code x aw s1=>
     rw[ho]at hD;refine dt hP hm c1 A hA ev hev Fence.wide (.inl rfl) ρ tm s a w x aw s1 ho hE ⟨n0,[]⟩ fh hM (λl hl=>(by cases hl)) hR _ (λaj a' w' iR lP eN aZ=>?_);cases x with
     |normal=>exact ih c2 D1 Vs ev hev n0 cD aj s0 s1 w0 w' aw a' v s' hD iR (Nat.le_trans fh aZ.size) lP hn eN (hS.trans aZ) R hQ
     |ret=>have hD:eW P rs aw s1= .val v s':=hD;subst hn;obtain⟨rfl,_⟩:=FL Ax eN iR.env hD;exact jP (λw2 dO=>(FL Ax dO iR.env hD).2) (λu w2 hu dO fC=>hQ u w2 aj hu dO fC) _ _ lP eN (hS.trans aZ)
     |exit id=>cases hD
     |goto l=>cases hD
  |_=>cases h
theorem mkDefer_ok (hP:Plainly P) (hm:P.follows .mixedOrders=true) {X:Cfg} {G:FF} (h:mkDefer P X f=some G):FFOk P f G:=by
 unfold mkDefer at h;split at h
 ·rename_i fn hfn;split at h
  ·rename_i body hb;obtain⟨hat,h⟩:=ae h;obtain⟨t0,fk,h⟩:=U h;obtain⟨D,hD,h⟩:=U h;cases h;intro ev hev args s v s' hr ρ w ao hR ha;replace hr:(match gu (fw X f) args 0 t0 with|some tm=>D ev tm s|none=> .no)= .val v s':=hr;split at hr
   ·rename_i tm Hm;unfold aU;rw[dk hP hfn hb];exact callsIn_of_wp_marks hfn hb trivial (Lt hP hm rfl hat 100 body D hD ev hev w.heap.size ρ ρ s s w w tm _ v s' hr (zr fk Hm ha) (Nat.le_refl _) .nil rfl hR (.refl _ _ _) (λe w'=>∃u,e= .returned u∧∃aj,ag aj v u∧Rel P aj s' w'∧aN ρ s w aj s' w')
     λu w' aj hu eN aZ=>⟨u,rfl,aj,hu,eN,aZ⟩)
   ·cases hr
  ·cases h
 ·cases h
end Go.Eng
end
noncomputable section
namespace Go.Eng
open Go
variable {s s':AS} {B:Ev} {args ao:List Value} {f:Nat} {P:Program} {ρ:Ren} {v:Value} {w:World}
theorem sL {r:Value->Option Value} {h:Hp} {L:Nat}:∀ {l:List Nat} {t t':Hp},EU r h L l t=some t'->∀j k',t'.get j=some k'->t.get j=some k'∨(j<L∧∃k,h.get j=some k∧dm r k=some k')
 | [],t,t',e,j,k',hk=>by have e:some t=some t':=e;cases e;exact .inl hk
 |a::l,t,t',e,j,k',hk=>by
  have e:ab (Nat.blt a L) (Option.rec (motive:= λ_=>Option (Hp)) (EU r h L l t) (λb=>ob (dm r b) λb'=>ob (Hp.put (some b') t a) (EU r h L l)) (h.get a)) none=some t':=e;obtain⟨hlt,e⟩:=ae e;have hlt:a<L:=Nat.le_of_ble_eq_true hlt;cases hg:h.get a with
  |none=>rw[hg]at e;exact sL e j k' hk
  |some b=>
   rw[hg]at e;obtain⟨b',e0,e⟩:=U e;obtain⟨t1,e1,e2⟩:=U e;rcases sL e2 j k' hk with h1|h1
   ·rw[Hp.aR _ _ _ _ e1]at h1;split at h1
    ·rename_i hj;cases h1;subst hj;exact .inr ⟨hlt,b,hg,e0⟩
    ·exact .inl h1
   ·exact .inr h1
theorem Lu (hB:EvOk P B) {L:Nat} {F:List Nat} (h:nC B L F f args s= .val v s') (hR:Rel P ρ s w) (ha:af ρ args ao):
  aU P (callFunc f ao.toArray) w λu w'=>∃aj,ag aj v u∧Rel P aj s' w'∧aN ρ s w aj s' w':=by
 unfold nC at h;rw[ah]at h;split at h
 case isFalse=>cases h
 rename_i hL;replace hL:L<=s.nx:=Nat.le_of_ble_eq_true hL;cases cW:bS (aD (JY L) 12) args with
 |none=>rw[cW]at h;cases h
 |some a1=>
 rw[cW]at h;cases lU:EU (aD (JY L) 12) s.h L F Hp.emp with
 |none=>rw[lU]at h;cases h
 |some hin=>
 rw[lU]at h;have h:CO s L (B (.func (.func f) #[] #[]) a1 ⟨hin,L,L⟩)= .val v s':=h;cases ho:B (.func (.func f) #[] #[]) a1 ⟨hin,L,L⟩with
 |no=>rw[ho]at h;cases h
 |code=>rw[ho]at h;cases h
 |val v1 s1=>
 rw[ho]at h;have h:gm (ob (ob (pX L 12 v1 []) λm=>oN s1.h L 12 400 0 m) λm=>ab (ab (bp m) (km L m) false)
   (ob (aD (rE L m s.nx) 12 v1) λv'=>ob (rp (aD (rE L m s.nx) 12) s1.h m s.nx s.h) λh=>aq (Nat.add s.nx (len m)) λnx=>aq s.lim λlm=>some (v',⟨h,nx,lm⟩)) none)= .val v s':=h
 replace h:=nR h;obtain⟨m,hm,h⟩:=U h;rw[ah]at h;split at h
 case isFalse=>cases h
 rename_i Jx;obtain⟨Ay,m5⟩:=ai Jx;replace Ay:=aY Ay;replace m5:=fF m5;obtain⟨v2,Ec,h⟩:=U h;obtain⟨cC,yK,h⟩:=U h;rw[ak,ak,aV]at h;cases h;have m6:∃aO:Ren,aO= λj=>if j<L then ρ j else none:=⟨_,rfl⟩
 obtain⟨aO,m6⟩:=m6;have cN:∀j,j<L->aO j=ρ j:= λj e=>by rw[m6];simp[e]
 have yL:∀j,L<=j->aO j=none:= λj e=>by rw[m6];simp[Nat.not_lt.2 e]
 have JN:∀a b,JY L a=some b->a=b∧b<L:= λa b e=>by obtain⟨h1,h2⟩:=ae e;cases h2;exact⟨rfl,Nat.le_of_ble_eq_true h1⟩
 have yi:∀a b x,JY L a=some b->ρ a=some x->aO b=some x:= λa b x e1 e2=>by obtain⟨rfl,hb⟩:=JN a b e1;rw[cN _ hb,e2]
 have aL:∀j k',hin.get j=some k'->j<L∧∃k,s.h.get j=some k∧dm (aD (JY L) 12) k=some k':= λj k' e=>by
  rcases sL lU j k' e with h1|h1
  ·rw[Hp.ns]at h1;cases h1
  ·exact h1
 have dn:Rel P aO ⟨hin,L,L⟩ w:=by
  refine⟨λa ha=>yL a ha,λa ha=>?_,λa k x e e'=>?_,Nat.le_refl _,λa a' k k' x x' hne e1 e2 r1 r2 hb=>?_,λg gl vs g1 g2=>?_⟩
  rotate_right
  ·obtain⟨c1,c2,c3⟩:=hR.gl g gl vs g1 g2;refine⟨c1,?_,c3⟩;rintro⟨j,k,x,e,e',hb⟩;obtain⟨hj,k0,q2,_⟩:=aL j k e;rw[cN j hj]at e';exact c2 ⟨j,k0,x,q2,e',hb⟩
  ·cases e:hin.get a with
   |none=>rfl
   |some k=>have:=(aL a k e).1;have ha:L<=a:=ha;omega
  ·obtain⟨hj,k0,q2,q3⟩:=aL a k e;rw[cN a hj]at e';obtain⟨b1,b2⟩:=hR.blk a k0 x q2 e';exact⟨b1,lH yi q3 b2⟩
  ·obtain⟨hj,k0,q2,q3⟩:=aL a k e1;obtain⟨Ma,Ck,JW,MV⟩:=aL a' k' e2;rw[cN a hj]at r1;rw[cN a' Ma]at r2;have:=(hR.aX a a' k0 Ck x x' hne q2 JW r1 r2 hb).1;rw[(eZ q3).1]at this;cases this
 have MW:af aO a1 ao:=kI (jf (λv v' u=>cJ yi 12 v v' u) cW (kH ha));have hrun:=hB _ _ _ _ _ ho aO w (.func (.func f) #[] #[]) ao dn (.func f .nil .nil) MW;have ep:bD (.func (.func f) #[] #[]) ao=callFunc f ao.toArray:=by unfold bD;simp only[Deferred.ofValue,pure_bind,invoke];congr 1;apply Array.ext';simp
 rw[ep]at hrun;refine hrun.mono λu w' ⟨db,hv,dO,hS⟩=>?_;have dv:s1.lim=L:=hS.lim;have pT:∀j,j<L->s1.h.get j=hin.get j:= λj hj=>hS.low j hj;have ng:∀j,j<L->db j=aO j:= λj hj=>hS.jY j hj;have rD:∀b,b<w.heap.size->w'.heap[b]? =w.heap[b]?:= λb hb=>by
  by_cases hh:aQ aO ⟨hin,L,L⟩ b
  ·obtain⟨j,k,x,e1,e2,e3⟩:=hh;obtain⟨hj,k0,q2,q3⟩:=aL j k e1;rw[<-e3];exact hS.gD j k x hj hj e1 (eZ q3).2 e2
  ·exact(hS.frame b hb hh).1
 have hnew:∀j k x,L<=j->s1.h.get j=some k->eo k=false->db j=some x->x.b<w.heap.size->False:= λj k x hj e1 LX e2 hb=>by
  by_cases hh:aQ aO ⟨hin,L,L⟩ x.b
  ·obtain⟨j0,k0,x0,f1,f2,f3⟩:=hh;obtain⟨MX,kk,q2,q3⟩:=aL j0 k0 f1;have:=dO.aX j j0 k k0 x x0 (by omega) e1 (by rw[pT j0 MX];exact f1) e2 (by rw[ng j0 MX];exact f2) f3.symm;rw[LX]at this;cases this.1
  ·exact(hS.frame x.b hb hh).2 ⟨j,k,x,e1,e2,rfl⟩
 have kd:∃kh:Ren,kh= λa=>if a<s.nx then ρ a else match m[a-s.nx]? with|some j=>db j|none=>none:=⟨_,rfl⟩
 obtain⟨kh,kd⟩:=kd;have cE:∀a,a<s.nx->kh a=ρ a:= λa ha=>by rw[kd];simp[ha]
 have fu:∀q j,m[q]? =some j->kh (s.nx+q)=db j:= λq j e=>by
  rw[kd];have e1:¬(s.nx+q<s.nx):=by omega
  have e2:s.nx+q-s.nx=q:=by omega
  simp only[e1,if_false,e2,e]
 have yM:∀a,s.nx+m.length<=a->kh a=none:= λa ha=>by
  rw[kd];have e1:¬(a<s.nx):=by omega
  have e2:m[a-s.nx]? =none:=List.getElem?_eq_none (by omega);simp only[e1,if_false,e2]
 have hle:aG ρ kh:= λa x e=>by
  by_cases ha:a<s.nx
  ·rw[cE a ha,e]
  ·rw[hR.eu a (by omega)]at e;cases e
 have ft:∀j a x,rE L m s.nx j=some a->db j=some x->kh a=some x:= λj a x e e2=>by
  unfold rE at e;rw[ah]at e;split at e
  ·rename_i hj;have hj:j<L:=by have:=Nat.le_of_ble_eq_true hj;omega
   cases e;rw[ng j hj,cN j hj]at e2;exact hle j x e2
  ·obtain⟨q,h1,h2⟩:=gI e;rw[h1,fu q j h2,e2]
 have bW:= λj=>nS yK j;have bF:∀a,a<s.nx->cC.get a=s.h.get a:= λa ha=>(bW a).1 ha;have bL:∀a k,s.nx<=a->cC.get a=some k->∃q j k0,a=s.nx+q∧m[q]? =some j∧s1.h.get j=some k0∧dm (aD (rE L m s.nx) 12) k0=some k:= λa k ha e=>by
  by_cases hq:a-s.nx<m.length
  ·refine⟨a-s.nx,m[a-s.nx],?_⟩;rcases(bW 0).2.2 (a-s.nx) m[a-s.nx] (by simp[hq])with ⟨_,e2⟩|⟨k0,k1,e1,e2,e3⟩
   ·rw[show s.nx+(a-s.nx)=a by omega,e]at e2;cases e2
   ·rw[show s.nx+(a-s.nx)=a by omega,e]at e3;cases e3;exact⟨k0,by omega,by simp[hq],e1,e2⟩
  ·rw[(bW a).2.1 (by omega),hR.top a ha]at e;cases e
 refine⟨kh,cJ ft 12 _ _ _ Ec hv,?_,?_⟩
 ·refine⟨λa ha=>yM a ha,λa ha=>?_,λa k x e e'=>?_,Nat.le_trans hR.lim (Nat.le_add_right _ _),λa a' k k' x x' hne e1 e2 r1 r2 hb=>?_,λg gl vs g1 g2=>?_⟩
  rotate_right
  ·obtain⟨c1,c2,c3⟩:=dO.gl g gl vs g1 g2;refine⟨c1,?_,c3⟩;rintro⟨a,k,x,e,e',hb⟩;have e:cC.get a=some k:=e;by_cases ha:a<s.nx
   ·rw[bF a ha]at e;rw[cE a ha]at e';exact(hR.gl g gl vs g1 g2).2.1 ⟨a,k,x,e,e',hb⟩
   ·obtain⟨q,j,k0,rfl,f1,f2,_⟩:=bL a k (by omega) e;rw[fu q j f1]at e';exact c2 ⟨j,k0,x,f2,e',hb⟩
  ·have ha:s.nx+m.length<=a:=ha;show cC.get a=none;rw[(bW a).2.1 ha,hR.top a (by omega)]
  ·by_cases ha:a<s.nx
   ·have e:cC.get a=some k:=e;rw[bF a ha]at e;rw[cE a ha]at e';obtain⟨b1,b2⟩:=hR.blk a k x e e';exact⟨Nat.lt_of_lt_of_le b1 hS.size,(b2.congr (rD _ b1)).mono hle⟩
   ·obtain⟨q,j,k0,rfl,f1,f2,f3⟩:=bL a k (by omega) e;rw[fu q j f1]at e';obtain⟨b1,b2⟩:=dO.blk j k0 x f2 e';exact⟨b1,lH ft f3 b2⟩
  ·have key:∀a a' k k' x x',a<s.nx->s.nx<=a'->cC.get a=some k->cC.get a'=some k'->kh a=some x->kh a'=some x'->x.b=x'.b->False:= λa a' k k' x x' ha cZ e1 e2 r1 r2 hb=>by
    obtain⟨q,j,k0,rfl,f1,f2,f3⟩:=bL a' k' cZ e2;rw[bF a ha]at e1;rw[cE a ha]at r1;rw[fu q j f1]at r2;have:=(hR.blk a k x e1 r1).1;exact hnew j k0 x' (m5 j (List.mem_of_getElem? f1)) f2 (eZ f3).1 r2 (by rw[<-hb];exact this)
   by_cases ha:a<s.nx
   ·by_cases cZ:a'<s.nx
    ·have e1:cC.get a=some k:=e1;have e2:cC.get a'=some k':=e2;rw[bF a ha]at e1;rw[bF a' cZ]at e2;rw[cE a ha]at r1;rw[cE a' cZ]at r2;exact hR.aX a a' k k' x x' hne e1 e2 r1 r2 hb
    ·exact(key a a' k k' x x' ha (by omega) e1 e2 r1 r2 hb).elim
   ·by_cases cZ:a'<s.nx
    ·exact(key a' a k' k x' x cZ (by omega) e2 e1 r2 r1 hb.symm).elim
    ·obtain⟨q,j,k0,rfl,f1,f2,f3⟩:=bL a k (by omega) e1;obtain⟨q',j',Ck,rfl,MY,QJ,Vh⟩:=bL a' k' (by omega) e2;rw[fu q j f1]at r1;rw[fu q' j' MY]at r2;have cL:j≠j':= λhe=>by
      subst he;exact hne (by rw[ja Ay f1 MY])
     have:=(dO.aX j j' k0 Ck x x' cL f2 QJ r1 r2 hb).1;rw[(eZ f3).1]at this;cases this
 ·refine⟨λa ha=>cE a ha,Nat.le_add_right _ _,hS.tape,hS.os,hS.out,hS.size,λb hb hn=>⟨rD b hb,?_⟩,λa ha hn=> .inl (bF a ha),hS.lp,rfl,λa ha=>bF a (Nat.lt_of_lt_of_le ha hR.lim),λa k x ha cZ e LX e'=>rD _ (hR.blk a k x e e').1⟩;rintro⟨a,k,x,e1,e2,e3⟩;by_cases ha:a<s.nx
  ·have e1:cC.get a=some k:=e1;rw[bF a ha]at e1;rw[cE a ha]at e2;exact hn ⟨a,k,x,e1,e2,e3⟩
  ·obtain⟨q,j,k0,rfl,f1,f2,f3⟩:=bL a k (by omega) e1;rw[fu q j f1]at e2;exact hnew j k0 x (m5 j (List.mem_of_getElem? f1)) f2 (eZ f3).1 e2 (by rw[e3];exact hb)
theorem memFF_ok {B:Ev} (hB:EvOk P B) {f:Nat} {F:FF} (hF:FFOk P f F):∀l:List Foot,FFOk P f (memFF B f l F)
 | []=>hF
 |e::l=>by
  intro ev hev args s v s' hr ρ w ao hR ha;have hr:ab (jT (jX 12) e.args args) (vh (nC B e.L e.F f e.args s) (memFF B f l F ev args s)) (memFF B f l F ev args s)= .val v s':=hr;rw[ah]at hr;split at hr
  ·rename_i hb;have Vt:=wQ hb;cases hi:nC B e.L e.F f e.args s with
   |no=>rw[hi]at hr;exact memFF_ok hB hF l ev hev args s v s' hr ρ w ao hR ha
   |code=>rw[hi]at hr;exact memFF_ok hB hF l ev hev args s v s' hr ρ w ao hR ha
   |val v1 s1=>rw[hi]at hr;cases hr;exact Lu hB hi hR (Vt▸ha)
  ·exact memFF_ok hB hF l ev hev args s v s' hr ρ w ao hR ha
end Go.Eng
end
