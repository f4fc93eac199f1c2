import Derived.Test.YtgdddkffkmcmcaaGreatDoorCards
import Derived.Test.YtgdddkffkmcmcaaGreatDoorTie
import Derived.ProofKit
import Derived.Lay
import Derived.LaidOnce
import Derived.SevenTiedAt
import Derived.OpenShut
import Derived.Test.YtgdddkffkmcmcaaGreatDoorZBj
import Derived.Test.YtgdddkffkmcmcaaGreatDoorFac
/- Part of the proof that TagsOne answers true. -/
set_option linter.all false
namespace Go.Proofs.YtgdddkffkmcmcaaGreatDoor
open Go Go.ChangeShapes Go.WideShapes Go.ChangeAt Go.RowKit Go.WideElems
set_option maxRecDepth 100000
theorem own:ownKnob Tryz.prog.godebug=none:=by kernel_rfl
theorem laidOut:laidOutB Tryz.prog=true:=by kernel_rfl
theorem cells5:Tryz.prog.cellsOf 5=1:=by kernel_rfl
theorem aty:Tryz.prog.readableRec 22=true:=by kernel_rfl
theorem aEq:Tryz.prog.readableRec 5=true:=by kernel_rfl
theorem aEr:22<Tryz.prog.types.size:=of_decide_eq_true (by kernel_rfl)
theorem ZT:5<Tryz.prog.types.size:=of_decide_eq_true (by kernel_rfl)
theorem SZ:Tryz.prog.info? 4096=none:=by kernel_rfl
abbrev GF:List (String×DataW Unit):=Rows.tagsOneRow.laid
abbrev Law:Prop:=∀ {w:World} {s:Go.Eng.AS} {ρ:Go.Eng.Ren} {bv v:Value} {L:List UInt8} {k:Nat},Go.Eng.Good s→Go.Eng.Sl s.nx s 4096 1 bv (Go.Eng.dL L)→k<256→Go.Eng.Rel Tryz.prog ρ s w→Go.Eng.bN ρ bv v→
 (∀ρ' s' w',Go.Eng.K5 s s'→Go.Eng.Rel Tryz.prog ρ' s' w'→Go.Eng.je ρ s w ρ' s' w'→Below w.heap.size w w')→Calls Tryz.prog 3 #[v,.int .u8 (k:Int)] w fun e w'=>e= .returned (.bool true)∧Below w.heap.size w w'
theorem TU {w:World} {b o:Nat} {v:Value} (h:w.cell? ⟨b,o,none⟩=some v):∃C t fr,w.heap[b]? =some (.cells C t fr)∧∀o,w.cell? ⟨b,o,none⟩=C[o]?:=by
 unfold World.cell? at h
 split at h
 ·rename_i C t fr hh;exact⟨C,t,fr,hh,fun o=>by simp[World.cell?,hh]⟩
 ·cases h
theorem Wl (g:Nat) (h:Tryz.prog.globalNamed "internal/strconv.uint64pow10"=some g):(Tryz.prog.globals[g]?).map (·.type)=some 314:=by
 obtain rfl:=Option.some.inj ((show Tryz.prog.globalNamed "internal/strconv.uint64pow10"=some 1 by kernel_rfl).symm.trans h)
 kernel_rfl
theorem ajP (law:Law) {H:Type} {enc:TypeId×Value→H} {W:World} {base:Nat} {v0:Value} {d0:DataW H} {p0:List MemPlace} {k:Nat} (hL:laidMetH Tryz.prog GF W) (IX:Value.okWide Tryz.prog W .any base 22 v0)
  (h0:DataW.Trod enc Tryz.prog W 0 (fun _=>true) true 22 v0 d0 p0) (hk:k<256):Calls Tryz.prog 3 #[v0,.int .u8 (k:Int)] W fun e w'=>e= .returned (.bool true)∧Below W.heap.size W w':=by
 have hm:("internal/strconv.uint64pow10",Go.Eng.AG)∈GF:=List.mem_of_getElem? (i:=2) (by kernel_rfl)
 have hct:Tryz.prog.cellsOf 314=20:=by kernel_rfl
 have hG:Go.Eng.Sh Tryz.prog W:=Go.Eng.XT hL hm Wl Tryz.underlying314 Tryz.underlying138 (by kernel_rfl)
 obtain⟨b1,C1,t1,fr1,qR,QZ⟩:=Go.Eng.TT hL (List.mem_of_getElem? (l:=GF) (i:=0) (a:=("math/bits.deBruijn32tab",Rows.laid_math_bits_deBruijn32tab)) rfl) rfl (by kernel_rfl)
 obtain⟨a1,len,cap,rfl⟩:=okWide_slice Tryz.underlying22 IX
 obtain⟨fuel,hf⟩:=h0
 rcases open_ints Tryz.underlying22 Tryz.underlying5 cells5 hf with ⟨qg,_⟩|⟨a,aUM,awt,zs,qg,_,hl,hmx,hz,_,jG,hwz⟩
 ·simp[Value.cells]at qg
  obtain⟨rfl,rfl,rfl⟩:=qg
  obtain⟨q1,q2⟩:=Go.Eng.MI (L:= []) (base:=0) hG SZ qR (fun i h=>absurd h (Nat.not_lt_zero i)) QZ
  exact law (L:= []) (Go.Eng.fW Go.Eng.L7 _) .nil hk q1 .gi q2
 ·simp[Value.cells]at qg
  obtain⟨rfl,rfl,rfl⟩:=qg
  simp only[if_true]at hz
  have Io:(512*cap+1)/512=cap:=by omega
  have Dj:(512*cap+1)%2=1:=by omega
  by_cases h0:cap=0
  ·subst h0
   obtain rfl:len=0:=by omega
   obtain⟨q1,q2⟩:=Go.Eng.MI (L:= []) (base:=0) hG SZ qR (fun i h=>absurd h (Nat.not_lt_zero i)) QZ
   exact law (L:= []) (Go.Eng.fW Go.Eng.L7 _) (Go.Eng.acC [] (c:=512*0+1) (by simp) Dj) hk q1 (.slice 0 0 _ 0 a (x:=⟨b1,0,C1.size,some (.cells C1 t1 fr1)⟩) rfl (by omega) (by omega) (fun _=>by omega) (.inr rfl) (fun h=>by omega)) q2
  ·obtain⟨ab,ao,spot⟩:=a
   have aEs:spot=none:=by simpa[Addr.add]using World.cell?_spot (jG 0 (by omega))
   subst aEs
   have jG:∀i,i<zs.length→W.cell? ⟨ab,ao+i,none⟩=some (.int .u8 (zs.getD i 0)):=fun i hi=>by
    have:=jG i hi
    rwa[Addr.add_lit]at this
   obtain⟨C,t,fr,hh,hC⟩:=TU (jG 0 (by omega))
   obtain⟨L,hLd⟩:∃L:List UInt8,L=(zs.take len).map fun n=>UInt8.ofNat n.toNat:=⟨_,rfl⟩
   have hlen:L.length=len:=by rw[hLd];simp;omega
   obtain⟨q1,q2⟩:=Go.Eng.MI (L:=L) (base:=ao) hG SZ hh (fun i h=>by
    rw[←hC,jG i (by omega)]
    have hb:=range_u8 hwz i
    have e:zs.getD i 0=zs[i]'(by omega):=by simp[List.getD,List.getElem?_eq_getElem (show i<zs.length by omega)]
    rw[List.getD_eq_getElem?_getD]at e
    rw[e]at hb
    rw[List.getD_eq_getElem?_getD,e]
    congr 2
    have:L[i]=UInt8.ofNat (zs[i]'(by omega)).toNat:=by simp[hLd]
    rw[this]
    simp only[UInt8.toNat_ofNat']
    omega) (fun g gl vs h1 h2 e=>by
     have:=jG 0 (by omega)
     rw[←e]at this
     exact Go.Eng.ajN hL hm Wl Tryz.underlying314 Tryz.underlying138 (by kernel_rfl) hct h1 h2 this)
   have qh:=Go.Eng.acC L (c:=512*cap+1) (by omega) Dj
   rw[hlen]at qh
   exact law (Go.Eng.fW Go.Eng.L7 _) qh hk q1 (.slice 0 len _ cap _ (x:=⟨ab,ao,C.size,some (.cells C t fr)⟩) rfl (by omega) (by omega) (fun _=>by omega) (.inl rfl) (fun h=>by omega)) q2
theorem lifted (law:Law) (os:Os) (started:os.Started) (H:Type) (enc:TypeId×Value→H):
  ReturnsInHanded {} Tryz.checked os 3 .any (fun w args=>(Rows.tagsOneSpec.pre enc Tryz.prog Tryz.f3 [] false w args∧laidMetH Tryz.prog GF w)∧sizedMet enc Tryz.prog Tryz.f3 (OpenSpec.ofChange Rows.tagsOneSpec) false w args)
   (Rows.tagsOneSpec.post enc Tryz.prog Tryz.f3 false true false false):=by
 refine returnsInHanded_of_change_and (C:=Tryz.checked) (X:=fun w _=>laidMetH Tryz.prog GF w) (fun _ _ _ hh h=>h.of_heap hh) own started (by kernel_rfl) Tryz.func3
  (ChangeSpec.witness_shaped (enc:=enc) (C:=Tryz.checked) (os:=os) (X:=fun w _=>laidMetH Tryz.prog GF w) false (World.laidAll Tryz.prog os GF) #[.slice none 0 0,.int .u8 0] 8 (World.laidAll_os _ _ _)
   (World.shaped_of_ZipB (by kernel_rfl) (by kernel_rfl)) (by kernel_rfl) (by kernel_rfl) (by kernel_rfl)
   (by rw[MakeChecks.laidMetH_plain _ _ _ (by kernel_rfl)];exact laidMet_laidAll _ (by kernel_rfl) (by kernel_rfl))) ?_
 intro W base args ds gs before aEt hW _ _ hL _
 have IX:∀(j:Nat) t v,Tryz.f3.params[j]? =some t→args[j]? =some v→Value.okWide Tryz.prog W .any base t v:=aEt
 have hW':=hW
 obtain⟨p,q,hA0,hV,rfl,hfz,Dl⟩:=hW
 have hA:DataW.TrodAll enc Tryz.prog W 0 (fun _=>true) true Tryz.f3.params.toList args.toList ds p:=hA0
 rw[Tryz.params3]at hA IX
 obtain⟨v0,v1,d0,d1,p0,p1,rfl,rfl,rfl,h0,h1⟩:=trodAll_two hA
 obtain⟨rfl,rfl⟩:=trodVars_none hV
 obtain⟨n,rfl,rfl,rfl,wn⟩:=open_int Tryz.underlying5 (IX 1 5 v1 rfl rfl) h1
 have hn:=bounds_u8 wn
 obtain⟨k,hk⟩:∃k:Nat,n=(k:Int):=⟨n.toNat,by omega⟩
 subst hk
 simp only[List.append_nil]at hW'
 have cS:=hW'.lt
 refine(ajP law hL (IX 0 22 v0 rfl rfl) h0 (by omega)).mono fun e W' ⟨he,hb⟩=>?_
 subst he
 exact⟨_,rfl,_,_,_,[],_,[],hW',trodAll_mk1 (shut_bool Tryz.underlying4 _),trodAll_mk2 (Below.trod laidOut aty aEr h0 hb fun x hx=>cS x (by simpa using hx)) (Below.trod laidOut aEq ZT h1 hb fun x hx=>by cases hx),rfl,hb.frame _,fun h=>by cases h⟩
theorem YD (law:Law):Rows.TagsOneSaid:=
 OpenClaim.holds_of_wide 3 Tryz.f3 rfl rfl rfl rfl rfl rfl rfl ⟨rfl,rfl,rfl,rfl,rfl⟩ rfl rfl rfl rfl rfl (by kernel_rfl) Tryz.func3 YC
  (of_decide_eq_true (by kernel_rfl)) (by unfold Func.isWrapper;first|(rw[if_pos (by decide+kernel)];kernel_rfl)|(rw[if_neg (by decide+kernel)];exact⟨rfl,rfl⟩))
  (fun os started H enc _=>lifted law os started H enc)
theorem TV (law:Law):Rows.TagsOneCardSaid:=
 Claim7.holds_tied_plain_at .later [] [.data,.data,.data,.data,.pinned] true (true,"163731ae83c221271b78e84b2596d5f1210ed9c5456eb9b364938a8ecfc37f85") false (YD law) (fun _ h=>by cases h) aEp (fun _ h=>by cases h) tagsOne_row_tie rfl ⟨rfl,rfl⟩ (by kernel_rfl) rfl
  (fun f fn hf hfn=>by
   obtain rfl:f=3:=Option.some.inj ((show Tryz.prog.funcNamed Tryz.f3.name=some 3 by kernel_rfl).symm.trans hf)|>.symm
   obtain rfl:fn=Tryz.f3:=(Option.some.inj (Tryz.func3.symm.trans hfn)).symm
   exact⟨aek,fun j t ht=>by
    rw[Tryz.params3]at ht
    rcases j with _|_|j
    ·cases ht;kernel_rfl
    ·cases ht;kernel_rfl
    ·simp at ht⟩)
  ajO
end Go.Proofs.YtgdddkffkmcmcaaGreatDoor
