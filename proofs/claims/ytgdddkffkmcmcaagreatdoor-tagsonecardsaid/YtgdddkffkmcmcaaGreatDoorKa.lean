import Derived.Shelf.SlIterI.Nil
import Derived.Test.YtgdddkffkmcmcaaGreatDoorZAb
/- Part of the proof that TagsOne answers true. -/
set_option linter.all false
namespace Go.Proofs
open Go.RowKit Go.Maps Go.Sort Go.Shelf
variable {P:Program} {ρ:Ren}
set_option maxRecDepth 100000 in
set_option maxHeartbeats 1000000 in
theorem EngKeys.azd (L:SlLaysZI.n10 P ρ) {H:Type} (F:Fence) (n:Nat) (Be:F.fn (ρ.f 10)) (ug:F.round=none) (hn:1≤n) (l Bm Bo b nn:Nat) (D0:DataW H) {R:Value→Option (DataW H×List MemPlace)} (J:List Int→World→Prop)
  (hY:∀pre x W,J pre W→pre.length<Maps.size D0→YieldAt F (n-1) P l #[encZ x] W fun e W'=>e= .returned (.bool true)∧J (pre++ [x]) W'∧KeepsWalks W W')
  (W:World) (hJ:AbidesFrom W.heap.size J) (hm:W.cell? ⟨Bm,Bo,none⟩=some (.map (some b))) (lN:W.ownsMap P (ρ.t 26) R b nn D0) (h0:J [] W):
  CallsIn F n P (ρ.f 10) #[.func (.yield l) #[] #[],.pointer (some ⟨Bm,Bo,none⟩)] W fun e W'=>(∃v,e= .returned v)∧∃ss:List Int,ss.Perm (intKeys D0)∧J ss W':=by
 have mixed:=L.mixed;have t0:=L.t0;have a0:=L.a0;have z0:=L.z0;have v0:=L.v0;have t4:=L.t4;have a4:=L.a4;have z4:=L.z4;have v4:=L.v4;have t23:=L.t23;have a23:=L.a23;have z23:=L.z23;have v23:=L.v23;have t26:=L.t26;have a26:=L.a26;have z26:=L.z26;have v26:=L.v26;have t33:=L.t33;have a33:=L.a33;have z33:=L.z33;have v33:=L.v33
 have u0:=run_underlying L.t0;have u4:=run_underlying L.t4;have u23:=run_underlying L.t23;have u26:=run_underlying L.t26;have u33:=run_underlying L.t33
 obtain⟨_,_,FG⟩:=L.f10
 refine callsIn_of_wp FG rfl Be ?_ ug
 simp only[SlBodyZ.n10_ntmps ρ,List.size_toArray,List.length_cons,List.length_nil,Nat.reduceAdd,Nat.reduceSub,Array.replicate_succ,Array.replicate_zero,List.push_toArray,List.append_toArray,List.nil_append,List.cons_append]
 gi_wp2_with (first
  |(gi_at_range;refine wpListIn_range_own _ rfl _ (ρ.t 23) rfl (ρ.t 26) (ρ.t 3) (int_keyed L.t26) L.t23 _ b nn _ rfl lN ?_;intro w0 aI8 Vp hs0)
  |gi_in)
 go_frame
 gi_loopw [3] (fun _ wr=>∃(left:Lit→Bool) (yL:Nat) (ss:List Int),wr.ranges P (ρ.t 26) R b W.heap.size nn D0 left yL∧ss.length+yL≤Maps.size D0∧CollectedI D0 left ss∧J ss wr)
  (fun _ wr=>wr.rangeLeft b W.heap.size)
 case atStart=>
  exact⟨_,_,[],aI8,by simp,CollectedI.start D0,hJ [] W w0 none h0 Vp (fun r e=>by cases e)⟩
 case round=>
  obtain⟨left,yL,ss,Vn,qg,hC,hJs⟩:=hrel
  gi_wp2_with (first
   |(gi_at_next;refine wpListIn_next_ranges _ rfl _ rfl (ρ.t 26) (int_keyed L.t26) R encZ id (fun key kl hk=>by obtain⟨x,hx,_⟩:=Maps.keyOf_i64 L.t26 hk;exact⟨x,hx⟩) (fun v _ _=>⟨v,rfl⟩) b W.heap.size nn _ _ _ rfl Vn ?_ ?_)
   |gi_in)
  ·
   intro hc0 NZ
   gi_wp2
   go_end0
   exact⟨⟨_,rfl⟩,ss,hC.perm lN (int_keyed L.t26) L.t26 NZ,hJs⟩
  ·
   intro x c kl yd yp w2 aI9 qG IU hv hat aJa cS dI ee Vm
   obtain⟨x',ex,rfl,_⟩:=Maps.keyOf_i64 L.t26 qG
   obtain rfl:x=x':=encZ_inj ex
   have hJ2:J ss w2:=hJ ss wr w2 (some W.heap.size) hJs dI (fun r e=>by cases e;exact⟨Nat.le_refl _,Vn.iter_walk⟩)
   obtain⟨fn,tmps,assign,body,hy,hR⟩:=hY ss x w2 hJ2 (by omega)
   clear ee
   gi_wp2
   refine hR.mono ?_
   rintro e W3 ⟨rfl,hJ3,hk3⟩
   gi_wp2
   have awE:=aJa.of_walks hk3
   go_roundw
   case rel=>exact⟨_,aI9,ss++ [x],awE,by simp;omega,hC.step IU hat,hJ3⟩
   case measure=>rw[awE.left_eq,Vn.left_eq];exact cS
theorem EngKeys.G0 (L:SlLaysZI.n10 P ρ) {H:Type} (F:Fence) (n:Nat) (Be:F.fn (ρ.f 10)) (ug:F.round=none) (hn:1≤n) (Bm Bo b nn:Nat) (D0:DataW H) {R:Value→Option (DataW H×List MemPlace)} (w:World) (QX:Bm<w.heap.size)
  (hm:w.cell? ⟨Bm,Bo,none⟩=some (.map (some b))) (lN:w.ownsMap P (ρ.t 26) R b nn D0):
  SeqGives F n P (ρ.f 10) #[.pointer (some ⟨Bm,Bo,none⟩)] encZ (fun ss=>ss.Perm (intKeys D0)) (Maps.size D0) w:=fun l J W hW hJ hY h0=>by
 have aze:W.ownsMap P (ρ.t 26) R b nn D0:=by
  have Lt:=lN.lt
  obtain⟨es,clock,hb,Ft,hs,hD⟩:=lN
  exact⟨es,clock,(hW.block b Lt).trans hb,Ft,hs,hD⟩
 exact EngKeys.azd {L with} F n Be ug hn l Bm Bo b nn D0 J hY W hJ ((hW.cell (p:=⟨Bm,Bo,none⟩) QX).trans hm) aze h0
set_option maxRecDepth 100000 in
set_option maxHeartbeats 1000000 in
theorem EngKeys.apC (L:SlLaysZI.n10 P ρ) (F:Fence) (n:Nat) (Be:F.fn (ρ.f 10)) (ug:F.round=none) (l Bm Bo:Nat) (J:List Int→World→Prop) (W:World) (hJ:AbidesFrom W.heap.size J)
  (hm:W.cell? ⟨Bm,Bo,none⟩=some (.map none)) (h0:J [] W):
  CallsIn F n P (ρ.f 10) #[.func (.yield l) #[] #[],.pointer (some ⟨Bm,Bo,none⟩)] W fun e W'=>(∃v,e= .returned v)∧∃ss:List Int,ss= []∧J ss W':=by
 have mixed:=L.mixed;have t0:=L.t0;have a0:=L.a0;have z0:=L.z0;have v0:=L.v0;have t4:=L.t4;have a4:=L.a4;have z4:=L.z4;have v4:=L.v4;have t23:=L.t23;have a23:=L.a23;have z23:=L.z23;have v23:=L.v23;have t26:=L.t26;have a26:=L.a26;have z26:=L.z26;have v26:=L.v26;have t33:=L.t33;have a33:=L.a33;have z33:=L.z33;have v33:=L.v33
 have u0:=run_underlying L.t0;have u4:=run_underlying L.t4;have u23:=run_underlying L.t23;have u26:=run_underlying L.t26;have u33:=run_underlying L.t33
 obtain⟨_,_,FG⟩:=L.f10
 refine callsIn_of_wp FG rfl Be ?_ ug
 simp only[SlBodyZ.n10_ntmps ρ,List.size_toArray,List.length_cons,List.length_nil,Nat.reduceAdd,Nat.reduceSub,Array.replicate_succ,Array.replicate_zero,List.push_toArray,List.append_toArray,List.nil_append,List.cons_append]
 have Vn:=run_range_nilMap (P:=P) W (ρ.t 23) (ρ.t 26) (ρ.t 3) L.t23
 have IT:∀ty,(Instr.next (.pointer (some ⟨W.heap.size,0,none⟩)) false ty).run P (W.alloc (.mapIter none 0 #[] 0))=_:=fun ty=>run_next_nilMap _ ty 0 0 #[]
 gi_wp2
 refine wpIn_loop_rounds 1 ?_
 rw[roundsIn_succ]
 gi_wp2
 go_end0
 exact⟨⟨_,rfl⟩,[],rfl,hJ [] W _ none h0 (World.grownBy_alloc W _ none) (fun r e=>by cases e)⟩
theorem EngKeys.DC (L:SlLaysZI.n10 P ρ) (F:Fence) (n:Nat) (Be:F.fn (ρ.f 10)) (ug:F.round=none) (Bm Bo:Nat) (w:World) (QX:Bm<w.heap.size) (hm:w.cell? ⟨Bm,Bo,none⟩=some (.map none)):
  SeqGives F n P (ρ.f 10) #[.pointer (some ⟨Bm,Bo,none⟩)] encZ (fun ss:List Int=>ss= []) 0 w:=fun l J W hW hJ _ h0=>
 EngKeys.apC {L with} F n Be ug l Bm Bo J W hJ ((hW.cell (p:=⟨Bm,Bo,none⟩) QX).trans hm) h0
end Go.Proofs
