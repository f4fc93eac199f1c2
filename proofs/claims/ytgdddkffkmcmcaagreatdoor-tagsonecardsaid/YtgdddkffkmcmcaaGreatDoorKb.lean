import Derived.Test.YtgdddkffkmcmcaaGreatDoorZAb
import Derived.Shelf.SlLaysX
import Derived.WalkKit
import Derived.Laws.IdiomRangeMap
/- Part of the proof that TagsOne answers true. -/
set_option linter.all false
namespace Go.Proofs
open Go.Shelf Go.RowKit
variable {P:Program} {ρ:Ren}
structure EngCopy.Inv (bd bs:Nat) (jl:Array MapEntry) (cs:Nat) (w wr:World) (vu:List MapEntry) (cJ:Array MapEntry) (ck:Nat):Prop where
 dst:wr.heap[bd]? =some (.map cJ ck)
 src:wr.heap[bs]? =some (.map jl cs)
 iter:wr.heap[w.heap.size]? =some (.mapIter (some bs) cs (vu.map (·.born)).toArray cs)
 mem:∀e∈vu,e∈jl.toList
 nodup:(vu.map (·.born)).Nodup
 size:wr.heap.size=w.heap.size+1
 rest:∀b,b<w.heap.size→b≠bd→wr.heap[b]? =w.heap[b]?
 tape:wr.tape=w.tape
 os:wr.os=w.os
 out:wr.output=w.output
set_option maxHeartbeats 4000000 in
set_option maxRecDepth 100000 in
theorem EngCopy.walk (L:SlLaysX.n5 P ρ) (J:List MapEntry→Array MapEntry→Nat→Prop) (bd bs:Nat) (wQ jl:Array MapEntry) (cd cs:Nat) (w:World) (hd:w.heap[bd]? =some (.map wQ cd)) (hs:w.heap[bs]? =some (.map jl cs)) (ed:bd≠bs) (RJ:Go.Eng.lS cs jl)
  (h0:J [] wQ cd) (Ux:∀vu e cJ ck w',J vu cJ ck→e∈jl.toList→(∀x∈vu,x∈jl.toList∧x.born≠e.born)→w'.heap[bd]? =some (.map cJ ck)→
   ∃na mT,(Instr.mapUpdate (ρ.t 23) (.map (some bd)) e.key e.val).run P w'= .ok () {w' with heap:=w'.heap.setIfInBounds bd (.map na mT)}∧J (vu++ [e]) na mT):
  Calls P (ρ.f 5) #[.map (some bd),.map (some bs)] w fun e w'=>e= .returned (.tuple #[])∧∃vu cJ ck,J vu cJ ck∧(∀e∈jl.toList,e.born∈vu.map (·.born))∧EngCopy.Inv bd bs jl cs w w' vu cJ ck:=by
 have mixed:=L.mixed;have t0:=L.t0;have a0:=L.a0;have z0:=L.z0;have v0:=L.v0;have t4:=L.t4;have a4:=L.a4;have z4:=L.z4;have v4:=L.v4;have t23:=L.t23;have a23:=L.a23;have z23:=L.z23;have v23:=L.v23;have t24:=L.t24;have a24:=L.a24;have z24:=L.z24;have v24:=L.v24;have a26:=L.a26;have z26:=L.z26;have a27:=L.a27;have z27:=L.z27
 have hbd:bd<w.heap.size:=(Array.getElem?_eq_some_iff.1 hd).1
 have Lt:bs<w.heap.size:=(Array.getElem?_eq_some_iff.1 hs).1
 have Vn:=run_range_map (P:=P) w (ρ.t 24) _ _ bs jl cs L.t24 hs
 obtain⟨_,_,FG⟩:=L.f5
 have Hd:Hid (w.heap[bd]? =some (.map wQ cd)):=hd
 have Hs:Hid (w.heap[bs]? =some (.map jl cs)):=hs
 have Hb:Hid (Go.Eng.lS cs jl):=RJ
 have HS:Hid _:=Ux
 have H0:Hid _:=h0
 clear hd hs RJ Ux h0
 go_enter FG,SlBodyX.n5_ntmps ρ
 go_wp2
 go_loopw [8] (fun _ wr=>∃vu cJ ck,J vu cJ ck∧EngCopy.Inv bd bs jl cs w wr vu cJ ck)
  (fun _ wr=>match wr.heap[w.heap.size]? with|some (.mapIter _ _ seen _)=>(jl.toList.filter fun(e:MapEntry)=>!seen.toList.contains e.born).length|_=>0)
 case atStart=>
  exact⟨[],wQ,cd,H0.out,⟨(Below.heap_alloc w _ bd hbd).trans Hd.out,(Below.heap_alloc w _ bs Lt).trans Hs.out,heap_alloc_new w _,fun e he=>(by cases he),.nil,by simp,fun b hb _=>Below.heap_alloc w _ b hb,rfl,rfl,rfl⟩⟩
 case round=>
  obtain⟨vu,cJ,ck,hJ,hI⟩:=hrel
  rcases Go.Eng.Kk (P:=P) hI.iter hI.src Hb.out with ⟨w2,iO,dK,dU⟩|⟨en,w2,Vm,lG,dK,dU⟩
  ·have hI2:Hid (EngCopy.Inv bd bs jl cs w w2 vu cJ ck):=⟨by rw[dU.heap];exact hI.dst,by rw[dU.heap];exact hI.src,by rw[dU.heap];exact hI.iter,hI.mem,hI.nodup,by rw[dU.heap];exact hI.size,fun b hb hn=>by rw[dU.heap];exact hI.rest b hb hn,dU.tape.trans hI.tape,dU.os.trans hI.os,dU.out.trans hI.out⟩
   have azg:Hid _:=iO
   have hJ2:Hid _:=hJ
   clear dU iO hI hJ
   go_wp2
   go_end0
   exact⟨rfl,vu,cJ,ck,hJ2.out,by simpa using azg.out,hI2.out⟩
  ·generalize I2:({w2 with heap:=w2.heap.setIfInBounds w.heap.size (.mapIter (some bs) cs ((vu.map (·.born)).toArray.push en.born) cs)}:World)=w3 at dK
   have cS:w.heap.size<w2.heap.size:=by rw[dU.heap,hI.size];omega
   have afN:∀b,b≠w.heap.size→w3.heap[b]? =wr.heap[b]?:=fun b hb=>by
    rw[←I2]
    simp only
    rw[Array.getElem?_setIfInBounds_ne (Ne.symm hb),dU.heap]
   have anX:w3.heap[w.heap.size]? =some (.mapIter (some bs) cs ((vu.map (·.born)).toArray.push en.born) cs):=by
    rw[←I2];simp[cS]
   have I3:w3.heap.size=w.heap.size+1:=by rw[←I2];simp[dU.heap,hI.size]
   have ht3:w3.tape=w.tape∧w3.os=w.os∧w3.output=w.output:=by
    rw[←I2];exact⟨dU.tape.trans hI.tape,dU.os.trans hI.os,dU.out.trans hI.out⟩
   have hd3:w3.heap[bd]? =some (.map cJ ck):=(afN bd (by omega)).trans hI.dst
   have gy:w3.heap[bs]? =some (.map jl cs):=(afN bs (by omega)).trans hI.src
   have xn:=Go.Eng.Kl (P:=P) anX gy Hb.out Vm
   have WB:en.born∉vu.map (·.born):=by simpa using lG
   obtain⟨na,mT,hmu,hJ'⟩:=HS.out vu en cJ ck w3 hJ Vm (fun x hx=>⟨hI.mem x hx,fun e=>WB (by rw[←e];exact List.mem_map.2 ⟨x,hx,rfl⟩)⟩) hd3
   generalize hw4:({w3 with heap:=w3.heap.setIfInBounds bd (.map na mT)}:World)=w4 at hmu
   have afO:∀b,b≠bd→w4.heap[b]? =w3.heap[b]?:=fun b hb=>by
    rw[←hw4]
    simp only
    rw[Array.getElem?_setIfInBounds_ne (Ne.symm hb)]
   have hI4:Hid (EngCopy.Inv bd bs jl cs w w4 (vu++ [en]) na mT):=by
    refine⟨?_,(afO bs (Ne.symm ed)).trans gy,?_,fun e he=>?_,?_,?_,fun b hb hn=>?_,?_,?_,?_⟩
    ·have hb3:bd<w3.heap.size:=by omega
     rw[←hw4];simp[hb3]
    ·rw[afO _ (by omega),anX];simp
    ·rcases List.mem_append.1 he with he|he
     ·exact hI.mem e he
     ·simp at he;subst he;exact Vm
    ·rw[List.map_append,List.nodup_append]
     refine⟨hI.nodup,by simp,fun a ha b hb=>?_⟩
     simp at hb
     subst hb
     exact fun e=>WB (e▸ha)
    ·rw[←hw4];simp[I3]
    ·rw[afO b hn,afN b (by omega)];exact hI.rest b hb hn
    ·rw[←hw4];exact ht3.1
    ·rw[←hw4];exact ht3.2.1
    ·rw[←hw4];exact ht3.2.2
   have hJ4:Hid _:=hJ'
   have hμ:Hid ((jl.toList.filter fun(e:MapEntry)=>!(vu.map (·.born)++ [en.born]).contains e.born).length<(jl.toList.filter fun(e:MapEntry)=>!(vu.map (·.born)).contains e.born).length):=Go.Eng.yB ⟨en,Vm,rfl⟩ WB
   have hIt:Hid (wr.heap[w.heap.size]? =some (.mapIter (some bs) cs (vu.map (·.born)).toArray cs)):=hI.iter
   clear I2 cS afN anX I3 ht3 hd3 gy WB hJ' hw4 afO dU lG Vm hJ hI
   go_wp2
   go_roundw
   case rel=>exact⟨_,_,_,hJ4.out,hI4.out⟩
   case measure=>
    rw[hI4.out.iter,hIt.out]
    simpa using hμ.out
end Go.Proofs
