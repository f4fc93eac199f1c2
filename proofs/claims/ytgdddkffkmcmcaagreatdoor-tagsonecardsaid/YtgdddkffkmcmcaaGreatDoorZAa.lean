import Derived.Below
import Derived.ChangeArms
import Derived.ChangeKeysEq
import Derived.FnData
import Derived.Great.FillDense
import Derived.JoinedOf
import Derived.LaidOnce
import Derived.LaidSub
import Derived.Laws.Append
import Derived.Laws.BytesString
import Derived.Laws.Externs
import Derived.Laws.IdiomCopy
import Derived.Laws.IdiomRangeMap
import Derived.Laws.IdiomStrings
import Derived.Laws.NewFold
import Derived.Laws.Strings
import Derived.Laws.StructEq
import Derived.Laws.Tables
import Derived.Lay
import Derived.Lib.Bytealg
import Derived.Lib.MakeNoZero
import Derived.Lib.Overlaps
import Derived.Lib.UnsafeStr
import Derived.MakeChecks
import Derived.OpenShut
import Derived.OrdersIn
import Derived.ProofKit
import Derived.RangeFuncIn
import Derived.RangeFuncLeaves
import Derived.RangeFuncRecord
import Derived.SevenTiedAt
import Derived.Shelf.SlGeneric
import Derived.Shelf.SlIterI.Nil
import Derived.Shelf.SlLaysX
import Derived.Shelf.SlMaps.Copy
import Derived.Shelf.SortM.Plain
import Derived.Shelf.SortM.SortNone
import Derived.WalkKit
import GoSem.ClaimJoined
import GoSem.Dispatch
import GoSem.Machine.Frame
/- Part of the proof that TagsOne answers true. -/
set_option linter.all false
set_option maxRecDepth 100000
noncomputable section
namespace Go.Eng
open Go Go.Proofs
abbrev ae:=@List.getElem_cons_zero
abbrev af:=@Nat.le_refl
abbrev aj:=@Go.Result.andThen_ok
abbrev au:=@Nat.eq_of_beq_eq_true
abbrev az:=@decide_eq_false
abbrev aC:=@if_neg
abbrev aF:=@Go.run_underlying
abbrev aG:=@Nat.zero_add
abbrev aI:=@Go.Sem.run_bind
abbrev aL:=@decide_eq_true
abbrev aN:=@Go.Sem.run_pure
abbrev aO:=@Nat.le_of_ble_eq_true
abbrev aP:=@List.take_of_length_le
abbrev aU:=@if_pos
abbrev aV:=@List.getElem_mem
abbrev aW:=@Int.natCast_zero
abbrev aX:=@List.not_mem_nil
abbrev aZ:=@List.getElem_cons_succ
abbrev ba:=@List.getElem?_eq_getElem
abbrev bg:=@Nat.ble_eq_true_of_le
abbrev bh:=@Option.some.inj
abbrev bj:=@Nat.beq_refl
abbrev br:=@List.map_cons
abbrev bu:=@List.mem_cons
abbrev bC:=@Nat.lt_of_lt_of_le
abbrev bK:=@List.drop_zero
abbrev bL:=@List.length_append
abbrev bS:=@List.map_append
abbrev bU:=@List.length_cons
abbrev bV:=@Array.getD_eq_getD_getElem?
abbrev cD:=@List.getElem?_append_left
abbrev cE:=@Bool.false_eq_true
abbrev cO:=@Int.ofNat_eq_natCast
abbrev cQ:=@List.take_succ_eq_append_getElem
abbrev cU:=@Array.getElem?_push
abbrev cV:=@List.mem_cons_of_mem
abbrev cX:=@List.flatten_cons
abbrev cY:=@List.mem_of_getElem?
abbrev db:=@or_false
abbrev dg:=@Nat.lt_of_not_le
abbrev di:=@Nat.le_trans
abbrev dw:=@List.getElem?_append_right
abbrev dy:=@Nat.add_mul
abbrev dM:=@List.set_cons_zero
abbrev dP:=@List.length_map
abbrev eh:=@Array.ext'
abbrev ey:=@List.append_assoc
abbrev eD:=@List.getElem?_eq_none
abbrev eE:=@List.getElem?_toArray
abbrev eG:=@if_false
abbrev eK:=@List.nodup_append
abbrev eO:=@List.getElem_append_left
abbrev eQ:=@Array.getElem?_setIfInBounds_ne
abbrev eS:=@List.map_congr_left
abbrev eT:=@Bool.eq_iff_iff
abbrev eZ:=@Go.run_newObj_alloc
abbrev fE:=@List.getElem_of_mem
abbrev fH:=@Go.World.cell?_setCells_out
abbrev fK:=@Nat.ne_of_lt
abbrev fS:=@List.drop_drop
abbrev fT:=@List.append_of_mem
abbrev gh:=@List.length_reverse
abbrev gx:=@Nat.add_assoc
abbrev gE:=@Nat.mul_comm
abbrev gH:=@List.length_nil
abbrev gN:=@List.mem_cons_self
abbrev gO:=@Int.cast_ofNat_Int
abbrev gS:=@Nat.zero_le
abbrev gT:=@Option.getD_some
abbrev gU:=@List.filter_cons
abbrev gV:=@List.mem_of_mem_take
abbrev hZ:=@Go.Value.string.injEq
abbrev iv:=@List.map_map
abbrev iB:=@List.getElem?_map
abbrev iJ:=@Nat.div_add_mod
abbrev iK:=@Nat.not_lt_zero
abbrev iU:=@Array.getElem?_eq_getElem
abbrev iV:=@Classical.byContradiction
abbrev iW:=@Array.getElem?_modify
abbrev iX:=@List.take_append_drop
abbrev iY:=@List.length_singleton
abbrev ja:=@Option.isNone_some
abbrev jd:=@Ne.symm
abbrev ji:=@Nat.add_zero
abbrev jD:=@List.nil_append
abbrev jN:=@List.replicate_succ
abbrev jO:=@List.flatten_append
abbrev jQ:=@if_true
abbrev kj:=@List.getElem?_take
abbrev kS:=@List.cons.injEq
abbrev kZ:=@Array.toList_push
abbrev lY:=@List.take_length
abbrev mn:=@Go.ByteArray.toList_eq
abbrev mH:=@Nat.lt_or_ge
abbrev np:=@List.foldl_cons
abbrev nJ:=@List.sum_cons
abbrev nU:=@decide_eq_true_eq
abbrev oX:=@Nat.zero_mul
abbrev pA:=@List.cons_append
abbrev pB:=@Option.bind_some
abbrev pP:=@List.getElem_append_right
abbrev qE:=@Int.ofNat.inj
abbrev qV:=@List.getElem?_drop
abbrev qZ:=@Nat.mul_one
abbrev rS:=@Go.Value.int.injEq
abbrev sK:=@Go.run_program
abbrev sM:=@Bool.not_false
abbrev sO:=@Int.toNat_natCast
abbrev sQ:=@of_decide_eq_true
abbrev sR:=@Go.World.cell?_setCells_in
abbrev uj:=@Go.CallsIn.mono
abbrev uk:=@Array.getElem?_toList
abbrev uE:=@Nat.mod_lt
abbrev u9:=@Bool.and_eq_true
abbrev vH:=@true_and
abbrev wH:=@Nat.mul_le_mul_right
abbrev wZ:=@Go.Oper.semAt_eq
abbrev xf:=@Bool.or_eq_true
abbrev xg:=@List.mem_append
abbrev xh:=@List.nodup_cons
abbrev xi:=@Array.size_push
abbrev xj:=@List.sum_append
abbrev xz:=@Array.length_toList
abbrev yo:=@Nat.sub_zero
abbrev zS:=@and_true
abbrev zT:=@Nat.eq_zero_or_pos
abbrev zU:=@Nat.lt_or_gt_of_ne
abbrev zV:=@List.pairwise_cons
abbrev zW:=@List.mem_singleton
abbrev A3:=@List.drop_eq_getElem_cons
abbrev Bh:=@Nat.one_mul
abbrev Bt:=@List.foldl_append
abbrev Bu:=@List.getElem_take
abbrev Cy:=@ByteArray.ext
abbrev D3:=@List.length_take
abbrev D4:=@Nat.lt_succ_self
abbrev Fi:=@Nat.blt_eq
abbrev Fj:=@beq_iff_eq
abbrev Fk:=@Nat.sub_self
abbrev FX:=@Option.map_some
abbrev Hk:=@UInt8.lt_iff_toNat_lt
abbrev Hl:=@List.length_replicate
abbrev IM:=@Array.getElem?_setIfInBounds_self_of_lt
abbrev Jm:=@Nat.mul_le_mul
abbrev Jn:=@List.nodup_nil
abbrev Jo:=@List.Perm.refl
abbrev Jp:=@List.range_eq_range'
abbrev MJ:=@List.getElem?_range
abbrev NA:=@Go.Sem.run_ite
abbrev NB:=@Bool.not_true
abbrev OI:=@Array.ext_getElem?
abbrev OJ:=@Nat.lt_of_le_of_lt
abbrev OL:=@Nat.lt_or_eq_of_le
abbrev Rg:=@List.set_eq_take_append_cons_drop
abbrev S0:=@List.map_nil
abbrev S3:=@List.getElem_drop
abbrev S4:=@List.Pairwise.imp
abbrev S5:=@not_false_eq_true
abbrev Vx:=@Go.run_loadCells_list
abbrev Xv:=@List.length_drop
abbrev Xw:=@List.drop_append
abbrev Xx:=@List.range'_succ
abbrev Xy:=@Nat.div_eq_of_lt
abbrev Xz:=@Nat.mod_eq_of_lt
abbrev XA:=@List.any_eq_true
abbrev Y1:=@Go.wpIn_seq
abbrev Y2:=@List.map_id
abbrev Y3:=@Go.Oper.uponIn_value
abbrev Y4:=@List.eq_nil_of_length_eq_zero
abbrev Y5:=@List.take_append_of_le_length
abbrev acE:=@UInt8.lt_irrefl
abbrev acF:=@List.mem_filter
abbrev acG:=@List.Perm.of_eq
abbrev acH:=@List.take_left'
abbrev agk:=@Go.run_askRoom
abbrev agl:=@List.take_zero
abbrev agm:=@List.nodup_iff_pairwise_ne
abbrev agn:=@Int.tmod_eq_emod_of_nonneg
abbrev akr:=@LawfulMonad.pure_bind
abbrev amr:=@Go.run_getObj_loop
abbrev ams:=@Go.run_setObj_loop
abbrev amt:=@List.extract_eq_take_drop
abbrev apm:=@List.map_take
abbrev apn:=@List.getElem?_take_of_lt
abbrev apo:=@List.eq_of_mem_replicate
abbrev ayF:=@Nat.succ_mul
abbrev ayG:=@Nat.le_of_eq
abbrev ayH:=@Nat.zero_mod
abbrev ayI:=@Nat.pow_succ
abbrev ayJ:=@Nat.ne_of_beq_eq_false
abbrev ayK:=@List.drop_of_length_le
abbrev ayL:=@List.reverse_singleton
abbrev aFF:=@Classical.choose_spec
abbrev aFG:=@List.singleton_append
abbrev aIA:=@Go.World.block_lt_of_cell?
abbrev aIB:=@Nat.not_succ_le_zero
abbrev aPq:=@Go.World.frozen?_setCells
abbrev aPr:=@Nat.mul_le_mul_left
abbrev LVal:=List Value
abbrev bQ:=Option Value
noncomputable abbrev oR (β:Type) {α:Type} (d:β) (k:α->β) (o:Option α):β:=Option.rec (motive:= λ_=>β) d k o
noncomputable abbrev lR (β:Type) {α:Type} (d:β) (k:α->List α->β->β) (l:List α):β:=List.rec (motive:= λ_=>β) d k l
noncomputable abbrev nR (β:Type) (d:β) (k:Nat->β->β) (n:Nat):β:=Nat.rec (motive:= λ_=>β) d k n
inductive T (α:Type)where
 |e
 |n (v:Option α) (l r:T α)
def T.get {α:Type} (t:T α):Nat->Option α:=
 T.rec (motive:= λ_=>Nat->Option α) (λ_=>none)
  (λv _ _ sS WZ k=>nR (Option α) v
   (λm _=>Bool.rec (motive:= λ_=>Option α) (WZ (Nat.div m 2)) (sS (Nat.div m 2)) (Nat.beq (Nat.mod m 2) 0)) k) t
def T.put {α:Type} (x:Option α) (t:T α):Nat->Option (T α):=
 T.rec (motive:= λ_=>Nat->Option (T α))
  (λk=>nR (Option (T α)) (some (.n x .e .e)) (λ_ _=>none) k)
  (λv l r sS WZ k=>nR (Option (T α)) (some (.n x l r))
   (λm _=>Bool.rec (motive:= λ_=>Option (T α))
    (oR (Option (T α)) none (λr'=>some (.n v l r')) (WZ (Nat.div m 2)))
    (oR (Option (T α)) none (λl'=>some (.n v l' r)) (sS (Nat.div m 2)))
    (Nat.beq (Nat.mod m 2) 0)) k) t
def IN {α:Type} (n:Nat):Option (T α):=
 nR (Option (T α)) (some .e) (λn ih=>oR (Option (T α)) none (λt=>T.put none t n) ih) n
inductive eX where
 |cells (c:T LVal) (s n:Nat) (ro:Bool) (et:TypeId)
 |map (kt:TypeId) (es:List (Value×Value×Nat)) (ck:Nat)
 |sX (s:ByteArray) (pos:Nat)
 |mapIter (r:Option Nat) (ck:Nat)
 |loop (state:LoopState) (pend:Option Code) (fn nt an:Nat) (tm:T Value) (ps:List Tmp) (assign body:Code)
structure AS where
 h:T eX
 nx:Nat
 lim:Nat
inductive cZ where
 |normal|exit (id:Nat)|goto (l:Nat)|ret
inductive Out where
 |no
 |code (x:cZ) (tm:T Value) (s:AS)
 |val (v:Value) (s:AS)
abbrev Ev:=Value->LVal->AS->Out
def lh (n:String):Option LVal:=bif n== "internal/strconv.uint64pow10" then some ((List.range 20).map λi=> .int .u64 (10^i:Nat))else none
inductive VI where
 |no
 |mk (k:IntKind) (n:Int)
def toI (v:Value):VI:=Value.rec (motive_1:= λ_=>VI) (motive_2:= λ_=>Unit) (motive_3:= λ_=>Unit) (λ_=> .no) (λk n=> .mk k n) (λ_ _=> .no) (λ_ _ _=> .no) (λ_=> .no) (λ_=> .no) (λ_ _ _=> .no) (λ_=> .no) (λ_=> .no) (λ_ _ _ _ _=> .no) .no (λ_ _ _=> .no) .no (λ_ _=> .no) (λ_ _=> .no) (λ_ _=>()) () (λ_ _ _ _=>()) v
inductive VB where
 |no
 |mk (b:Bool)
def toB (v:Value):VB:=Value.rec (motive_1:= λ_=>VB) (motive_2:= λ_=>Unit) (motive_3:= λ_=>Unit) (λb=> .mk b) (λ_ _=> .no) (λ_ _=> .no) (λ_ _ _=> .no) (λ_=> .no) (λ_=> .no) (λ_ _ _=> .no) (λ_=> .no) (λ_=> .no) (λ_ _ _ _ _=> .no) .no (λ_ _ _=> .no) .no (λ_ _=> .no) (λ_ _=> .no) (λ_ _=>()) () (λ_ _ _ _=>()) v
inductive VA where
 |no
 |mk (a:Addr)
def toA (v:Value):VA:=Value.rec (motive_1:= λ_=>VA) (motive_2:= λ_=>Unit) (motive_3:= λ_=>Unit) (λ_=> .no) (λ_ _=> .no) (λ_ _=> .no) (λ_ _ _=> .no) (λ_=> .no) (λa=>oR VA .no (λa=> .mk a) a) (λ_ _ _=> .no) (λ_=> .no) (λ_=> .no) (λ_ _ _ _ _=> .no) .no (λ_ _ _=> .no) .no (λ_ _=> .no) (λ_ _=> .no) (λ_ _=>()) () (λ_ _ _ _=>()) v
inductive VS where
 |no
 |mk (a:Addr) (n c:Nat)
def toS (v:Value):VS:=Value.rec (motive_1:= λ_=>VS) (motive_2:= λ_=>Unit) (motive_3:= λ_=>Unit) (λ_=> .no) (λ_ _=> .no) (λ_ _=> .no) (λ_ _ _=> .no) (λ_=> .no) (λ_=> .no) (λa n c=>oR VS .no (λa=> .mk a n c) a) (λ_=> .no) (λ_=> .no) (λ_ _ _ _ _=> .no) .no (λ_ _ _=> .no) .no (λ_ _=> .no) (λ_ _=> .no) (λ_ _=>()) () (λ_ _ _ _=>()) v
def isAgg (P:Program) (t:TypeId):Option Bool:=
 match P.underlying t with
 |some (.struct _)|some (.array ..)=>some true
 |some _=>some false
 |none=>none
def dc (P:Program) (t:TypeId):Option Nat:=(P.info? t).map (·.size)
def Dd (v:Value):Bool:=match v with| .bool _=>true| .int _ _=>true| .string _=>true| .pointer none=>true| .slice none 0 0=>true| .map none=>true| .nilFunc=>true| .nilIface=>true|_=>false
def L8 (l:LVal):Bool:=lR Bool true (λv _ ih=>Bool.rec (motive:= λ_=>Bool) false ih (Dd v)) l
def LJ (v:Value):Bool:=match v with| .agg a=>L8 a.toList|v=>Dd v
def mU (P:Program) (t:TypeId):bQ:=match P.info? t with|some i=>(match i.zero with|some v=>Bool.rec (motive:= λ_=>bQ) none (some v) (LJ v)|none=>none)|none=>none
def qB (P:Program) (t:TypeId):Option LVal:=(mU P t).map (λv=>v.cells.toList)
def ov (n:Nat):LVal->Option LVal:=
 nR (LVal->Option LVal) (λ_=>some [])
  (λ_ ih l=>lR (Option LVal) none (λv l _=>oR (Option LVal) none (λr=>some (v::r)) (ih l)) l) n
def nQ (n:Nat):LVal->Option LVal:=
 nR (LVal->Option LVal) (λl=>some l)
  (λ_ ih l=>lR (Option LVal) none (λ_ l _=>ih l) l) n
def Gl (vs:LVal):LVal->Option LVal:=
 lR (LVal->Option LVal) (λl=>some l)
  (λv _ ih l=>lR (Option LVal) none (λ_ l _=>oR (Option LVal) none (λr=>some (v::r)) (ih l)) l) vs
def Bi (vs:LVal) (l:LVal) (j:Nat):Option LVal:=
 nR (LVal->Option LVal) (λl=>Gl vs l)
  (λ_ ih l=>lR (Option LVal) none (λv l _=>oR (Option LVal) none (λr=>some (v::r)) (ih l)) l) j l
def len {α:Type} (l:List α):Nat:=lR Nat 0 (λ_ _ ih=>Nat.succ ih) l
def app {α:Type} (l m:List α):List α:=lR (List α) m (λa _ ih=>a::ih) l
def Ae {α:Type} (l m:List α):Option (List α):=lR (Option (List α)) (some m) (λa _ ih=>oR (Option (List α)) none (λr=>some (a::r)) ih) l
def cG {β:Type} (n:Nat) (k:Nat->Option β):Option β:=nR (Option β) (k 0) (λm _=>k (Nat.succ m)) n
def xE (n:Nat) (k:Nat->Out):Out:=nR Out (k 0) (λm _=>k (Nat.succ m)) n
def AS.new (s:AS) (b:eX):Option AS:=
 oR (Option AS) none (λh=>cG (Nat.succ s.nx) λn=>cG s.lim λl=>some ⟨h,n,l⟩) (T.put (some b) s.h s.nx)
def AS.set (s:AS) (i:Nat) (b:Option eX):Option AS:=
 Bool.rec (motive:= λ_=>Option AS) (oR (Option AS) none (λh=>cG s.nx λn=>cG s.lim λl=>some ⟨h,n,l⟩) (T.put b s.h i)) none (Nat.blt i s.lim)
def gI {β:Type} (b:Option eX) (k:T LVal->Nat->Nat->Bool->TypeId->Option β):Option β:=
 oR (Option β) none (λb=>eX.rec (motive:= λ_=>Option β) k (λ_ _ _=>none) (λ_ _=>none) (λ_ _=>none) (λ_ _ _ _ _ _ _ _ _=>none) b) b
def aD {β:Type} (b:Bool) (t e:β):β:=Bool.rec (motive:= λ_=>β) e t b
def kJ (s:AS) (b off k:Nat):Option LVal:=
 gI (s.h.get b) λc sz _ _ _=>
  oR (Option LVal) none
   (λl=>aD (Nat.beq k sz) (aD (Nat.beq (Nat.mod off sz) 0) (some l) none)
    (oR (Option LVal) none (λl'=>ov k l') (nQ (Nat.mod off sz) l)))
   (c.get (Nat.div off sz))
def dZ (v:Value):Bool:=match v with| .agg _=>false| .tuple _=>false|_=>true
def cP (l:LVal):Bool:=lR Bool true (λv _ ih=>aD (dZ v) ih false) l
def ij (s:AS) (b off:Nat) (vs:LVal):Option AS:=
 aD (cP vs) (gI (s.h.get b) λc sz n ro et=>
  aD ro none
   (oR (Option AS) none
    (λl=>oR (Option AS) none
     (λl'=>oR (Option AS) none
      (λc'=>AS.set s b (some (.cells c' sz n false et)))
      (T.put (some l') c (Nat.div off sz)))
     (Bi vs l (Nat.mod off sz)))
    (c.get (Nat.div off sz)))) none
def vI (s:AS) (et:TypeId) (vs:LVal):Option (Value×AS):=
 cG (len vs) λsz=>oR (Option (Value×AS)) none (λs'=>some (.pointer (some ⟨s.nx,0,none⟩),s')) (s.new (.cells (.n (some vs) .e .e) sz 1 false et))
def C0 (ls:List LVal):Nat->T LVal->Option (T LVal):=
 lR (Nat->T LVal->Option (T LVal)) (λ_ t=>some t)
  (λl _ ih i t=>oR (Option (T LVal)) none (λt'=>ih (Nat.succ i) t') (T.put (some l) t i)) ls
def chunk (sz n:Nat):LVal->Option (List LVal):=
 nR (LVal->Option (List LVal)) (λ_=>some [])
  (λ_ ih l=>oR (Option (List LVal)) none
   (λa=>oR (Option (List LVal)) none
    (λb=>oR (Option (List LVal)) none (λr=>some (a::r)) (ih b)) (nQ sz l)) (ov sz l)) n
def y8 (sz:Nat) (ls:List LVal):Bool:=lR Bool true (λl _ ih=>aD (Nat.beq (len l) sz) ih false) ls
def sY {β:Type} (s:AS) (et:TypeId) (sz:Nat) (els:List LVal) (n:Nat) (k:Nat->AS->Option β):Option β:=
 aD (Nat.beq (len els) n) (aD (y8 sz els) (oR (Option β) none
  (λt=>oR (Option β) none (λs'=>k s.nx s') (s.new (.cells t sz n false et))) (C0 els 0 .e)) none) none
def elems (c:T LVal) (n:Nat):Nat->Option (List LVal):=
 nR (Nat->Option (List LVal)) (λ_=>some [])
  (λ_ ih i=>oR (Option (List LVal)) none
   (λl=>oR (Option (List LVal)) none (λr=>some (l::r)) (ih (Nat.succ i))) (c.get i)) n
def m5 (k:IntKind) (n:Int):bQ:=
 Int.rec (motive:= λ_=>bQ) (λm=>cG m λm=>some (.int k (.ofNat m))) (λm=>cG m λm=>some (.int k (.negSucc m))) n
def vZ (v:Value):bQ:=
 match v with
 | .bool b=>some (.bool b)
 | .int k n=>some (.int k n)
 | .string s=>some (.string s)
 | .pointer none=>some (.pointer none)
 | .slice none 0 0=>some (.slice none 0 0)
 | .map none=>some (.map none)
 | .nilFunc=>some .nilFunc
 | .nilIface=>some .nilIface
 |_=>none
def ob {α β:Type} (o:Option α) (k:α->Option β):Option β:=oR (Option β) none k o
def afI (k:IntKind):Nat:=IntKind.rec (motive:= λ_=>Nat) 0 1 2 3 4 5 6 7 k
def tz (k k':IntKind):Bool:=Nat.beq (afI k) (afI k')
def lim (k:IntKind):Nat:=IntKind.rec (motive:= λ_=>Nat) 128 32768 2147483648 9223372036854775808 256 65536 4294967296 18446744073709551616 k
def Zt (k:IntKind):Nat:=IntKind.rec (motive:= λ_=>Nat) 128 32768 2147483648 9223372036854775808 0 0 0 0 k
def mo (k:IntKind) (n:Int):bQ:=
 Int.rec (motive:= λ_=>bQ)
  (λm=>aD (Nat.blt m (lim k)) (cG m λm=>some (.int k (.ofNat m))) (m5 k (k.wrap (.ofNat m))))
  (λm=>aD (Nat.blt m (Zt k)) (cG m λm=>some (.int k (.negSucc m))) (m5 k (k.wrap (.negSucc m)))) n
def FY (a b:Int):Bool:=
 Int.rec (motive:= λ_=>Bool) (λa=>Int.rec (motive:= λ_=>Bool) (λb=>Nat.beq a b) (λ_=>false) b) (λa=>Int.rec (motive:= λ_=>Bool) (λ_=>false) (λb=>Nat.beq a b) b) a
def Fl (a b:Int):Bool:=
 Int.rec (motive:= λ_=>Bool) (λa=>Int.rec (motive:= λ_=>Bool) (λb=>Nat.blt a b) (λ_=>false) b) (λa=>Int.rec (motive:= λ_=>Bool) (λ_=>true) (λb=>Nat.blt b a) b) a
def NY (a:List UInt8):List UInt8->Bool:=
 lR (List UInt8->Bool) (λb=>lR Bool true (λ_ _ _=>false) b)
  (λx _ ih b=>lR Bool false (λy b _=>aD (Nat.beq x.toNat y.toNat) (ih b) false) b) a
def IP (a:List UInt8):List UInt8->Bool:=
 lR (List UInt8->Bool) (λb=>lR Bool false (λ_ _ _=>true) b)
  (λx _ ih b=>lR Bool false (λy b _=>aD (Nat.blt x.toNat y.toNat) true (aD (Nat.beq x.toNat y.toNat) (ih b) false)) b) a
def fG (b:Bool):bQ:=Bool.rec (motive:= λ_=>bQ) (some (.bool false)) (some (.bool true)) b
def lF (b:Bool):Bool:=Bool.rec (motive:= λ_=>Bool) true false b
def vw (op:BinOp):IntKind->Int->Int->bQ:=
 BinOp.rec (motive:= λ_=>IntKind->Int->Int->bQ)
  (λk a b=>mo k (Int.add a b)) (λk a b=>mo k (Int.sub a b)) (λk a b=>mo k (Int.mul a b))
  (λk a b=>aD (FY b (.ofNat 0)) none (mo k (Int.tdiv a b))) (λk a b=>aD (FY b (.ofNat 0)) none (m5 k (Int.tmod a b)))
  (λk a b=>m5 k (k.wrap (BitVec.ofInt k.bits a&&&BitVec.ofInt k.bits b).toNat))
  (λk a b=>m5 k (k.wrap (BitVec.ofInt k.bits a|||BitVec.ofInt k.bits b).toNat))
  (λk a b=>m5 k (k.wrap (BitVec.ofInt k.bits a^^^BitVec.ofInt k.bits b).toNat))
  (λ_ _ _=>none) (λ_ _ _=>none)
  (λk a b=>m5 k (k.wrap (BitVec.ofInt k.bits a&&& ~~~BitVec.ofInt k.bits b).toNat))
  (λ_ a b=>fG (FY a b)) (λ_ a b=>fG (lF (FY a b))) (λ_ a b=>fG (Fl a b)) (λ_ a b=>fG (lF (Fl b a))) (λ_ a b=>fG (Fl b a)) (λ_ a b=>fG (lF (Fl a b))) op
def JS (op:BinOp):IntKind->Int->Nat->bQ:=
 match op with
 | .shl=> λk a n=>mo k (Int.mul a (.ofNat (Nat.pow 2 (Nat.min n k.bits))))
 | .shr=> λk a n=>m5 k (Int.fdiv a (.ofNat (Nat.pow 2 (Nat.min n k.bits))))
 |_=> λ_ _ _=>none
def Vy (op:BinOp):Bool:=match op with| .shl| .shr=>true|_=>false
def um (b:Int):Option Nat:=Int.rec (motive:= λ_=>Option Nat) (λn=>some n) (λ_=>none) b
inductive VL where
 |no
 |mk (l:LVal)
def toL (v:Value):VL:=Value.rec (motive_1:= λ_=>VL) (motive_2:= λ_=>Unit) (motive_3:= λ_=>Unit) (λ_=> .no) (λ_ _=> .no) (λ_ _=> .no) (λ_ _ _=> .no) (λ_=> .no) (λ_=> .no) (λ_ _ _=> .no) (λ_=> .no) (λ_=> .no) (λ_ _ _ _ _=> .no) .no (λ_ _ _=> .no) .no (λa _=> .mk a.toList) (λ_ _=> .no) (λ_ _=>()) () (λ_ _ _ _=>()) v
inductive VT where
 |no
 |mk (s:ByteArray)
def toT (v:Value):VT:=Value.rec (motive_1:= λ_=>VT) (motive_2:= λ_=>Unit) (motive_3:= λ_=>Unit) (λ_=> .no) (λ_ _=> .no) (λ_ _=> .no) (λ_ _ _=> .no) (λs=> .mk s) (λ_=> .no) (λ_ _ _=> .no) (λ_=> .no) (λ_=> .no) (λ_ _ _ _ _=> .no) .no (λ_ _ _=> .no) .no (λ_ _=> .no) (λ_ _=> .no) (λ_ _=>()) () (λ_ _ _ _=>()) v
abbrev Mt:=Value->Option Bool
def mI (k:IntKind) (n:Int):Mt:= λb=>VI.rec (motive:= λ_=>Option Bool) none (λk' m=>aD (tz k k') (some (FY n m)) none) (toI b)
def mB (x:Bool):Mt:= λb=>VB.rec (motive:= λ_=>Option Bool) none (λy=>some (aD x y (lF y))) (toB b)
def mS (l:List UInt8):Mt:= λb=>VT.rec (motive:= λ_=>Option Bool) none (λm=>some (NY l m.data.toList)) (toT b)
def andM (o:Option Bool) (k:Option Bool):Option Bool:=oR (Option Bool) none (λb=>aD b k (some false)) o
def mL (ms:List Mt):LVal->Option Bool:=
 lR (LVal->Option Bool) (λl=>lR (Option Bool) (some true) (λ_ _ _=>none) l) (λm _ ih l=>lR (Option Bool) none (λv l _=>andM (m v) (ih l)) l) ms
def mA (ms:List Mt):Mt:= λb=>VL.rec (motive:= λ_=>Option Bool) none (λl=>mL ms l) (toL b)
def mapM' (f:Value->Mt) (l:LVal):List Mt:=lR (List Mt) [] (λv _ ih=>f v::ih) l
def vn (d:Nat):Value->Mt:=nR (Value->Mt) (λ_ _=>none) (λ_ f v=>Value.rec (motive_1:= λ_=>Mt) (motive_2:= λ_=>Unit) (motive_3:= λ_=>Unit) (λx=>mB x) (λk n=>mI k n) (λ_ _ _=>none) (λ_ _ _ _=>none) (λs=>mS s.data.toList) (λ_ _=>none) (λ_ _ _ _=>none) (λ_ _=>none) (λ_ _=>none) (λ_ _ _ _ _ _=>none) (λ_=>none) (λ_ _ _ _=>none) (λ_=>none) (λa _=>mA (mapM' f a.toList)) (λ_ _ _=>none) (λ_ _=>()) () (λ_ _ _ _=>()) v) d
abbrev xk:=Value×Value×Nat
def zX (m:Mt) (es:List (Value×Value×Nat)):Option (Option (Value×Nat)):=
 lR (Option (Option (Value×Nat))) (some none) (λe _ ih=>oR (Option (Option (Value×Nat))) none (λb=>aD b (some (some e.2)) ih) (m e.1)) es
def hB (l:List UInt8):Nat:=lR Nat 7 (λb _ ih=>Nat.add (Nat.mul ih 256) b.toNat) l
def hI (n:Int):Nat:=Int.rec (motive:= λ_=>Nat) (λm=>Nat.mul 2 m) (λm=>Nat.succ (Nat.mul 2 m)) n
def hV (v:Value):Nat:=Value.rec (motive_1:= λ_=>Nat) (motive_2:= λ_=>Nat) (motive_3:= λ_=>Nat) (λ_=>1) (λ_ n=>hI n) (λ_ _=>0) (λ_ _ _=>0) (λs=>hB s.data.toList) (λ_=>0) (λ_ _ _=>0) (λ_=>0) (λ_=>0) (λ_ _ _ _ _=>0) 0 (λ_ _ _=>0) 0 (λ_ n=>n) (λ_ _=>0) (λ_ n=>n) 0 (λ_ _ a b=>Nat.add (Nat.mul b 1009) a) v
def ixV (v:Value):Nat:=Nat.mod (hV v) 1021
def pD (d:Nat):T (List xk):=nR (T (List xk)) .e (λ_ ih=> .n none ih ih) d
def bucket (t:T (List xk)) (i:Nat):List xk:=oR (List xk) [] (λl=>l) (T.get t i)
def JT (e:xk) (t:T (List xk)):Option (T (List xk)):=cG (ixV e.1) λi=>T.put (some (e::bucket t i)) t i
def idx (es:List xk):Option (T (List xk)):=lR (Option (T (List xk))) (some (pD 11)) (λe _ ih=>oR (Option (T (List xk))) none (λt=>JT e t) ih) es
def Oe (k:Value) (es:List xk):Option (Option (Value×Nat)):=cG (ixV k) λi=>ob (idx es) λt=>zX (vn 8 k) (bucket t i)
def jj (k:Value) (es:List (Value×Value×Nat)):Option (Option (Value×Nat)):=VL.rec (motive:= λ_=>Option (Option (Value×Nat))) (zX (vn 8 k) es) (λ_=>Oe k es) (toL k)
def qW (k v:Value) (ck:Nat) (es:List (Value×Value×Nat)):Option (List (Value×Value×Nat)):=
 lR (Option (List (Value×Value×Nat))) (some [(k,v,ck)])
  (λe es ih=>oR (Option (List (Value×Value×Nat))) none (λb=>aD b (some ((k,v,e.2.2)::es)) (ob ih λr=>some (e::r))) (vn 8 k e.1)) es
def abv (op:BinOp):List UInt8->List UInt8->bQ:=
 match op with
 | .add=> λa b=>ob (Ae a b) λl=>aD (Nat.ble (len l) 1000000000) (some (.string ⟨⟨l⟩⟩)) none
 | .eql=> λa b=>fG (NY a b)
 | .neq=> λa b=>fG (lF (NY a b))
 | .lss=> λa b=>fG (IP a b)
 | .leq=> λa b=>fG (lF (IP b a))
 | .gtr=> λa b=>fG (IP b a)
 | .geq=> λa b=>fG (lF (IP a b))
 |_=> λ_ _=>none
def aat (op:BinOp):Option Bool->bQ:=
 match op with
 | .eql=> λo=>ob o fG
 | .neq=> λo=>ob o λb=>fG (lF b)
 |_=> λ_=>none
def Ui (p q:Addr):Option Bool:=aD (Nat.beq p.block q.block) (aD (Nat.beq p.off q.off) (match p.spot,q.spot with|none,none=>some true|_,_=>none) none) none
inductive EK where
 |bool|ptr|slice|map|func|iface|other
def Af (P:Program) (t:TypeId):EK:=
 match P.underlying t with
 |some .bool=> .bool
 |some (.pointer e)=>(match P.info? e with|some _=> .ptr|none=> .other)
 |some (.slice _)=> .slice
 |some (.map _ _)=> .map
 |some (.func _ _ _)=> .func
 |some (.interface _)=> .iface
 |_=> .other
def JU (x:Operand):Bool:=match x with| .const _=>true|_=>false
def eq2 (k:EK) (Ba:Bool) (x y:Value):Option Bool:=
 match k,x,y with
 | .bool,.bool a,.bool b=>some (aD a b (lF b))
 | .ptr,.pointer a,.pointer b=>(match a,b with|none,none=>some true|some p,some q=>Ui p q|none,some _=>some false|some _,none=>some false)
 | .slice,.slice a _ _,.slice b _ _=>(match a,b with|none,none=>some true|none,some _=>some false|some _,none=>some false|_,_=>none)
 | .map,.map a,.map b=>(match a,b with|none,none=>some true|none,some _=>some false|some _,none=>some false|_,_=>none)
 | .iface,.nilIface,.nilIface=>aD Ba (some true) none
 | .iface,.nilIface,.iface _ _=>some false
 | .iface,.iface _ _,.nilIface=>some false
 | .func,.nilFunc,.nilFunc=>some true
 | .func,.nilFunc,.func _ _ _=>some false
 | .func,.func _ _ _,.nilFunc=>some false
 |_,_,_=>none
def abw (op:BinOp) (k:IntKind) (a:Int) (L:Nat):bQ:=
 match op,k,a with
 | .gtr,.i64,.ofNat a=>aD (Nat.ble a L) (some (.bool false)) none
 |_,_,_=>none
def Wm (op:BinOp) (k:EK) (Ba:Bool) (y:Value) (x:Value):bQ:=
 match x,y with
 | .int k a,.int k' b=>aD (Vy op) (ob (um b) λn=>JS op k a n) (aD (tz k k') (vw op k a b) none)
 | .string a,.string b=>abv op a.data.toList b.data.toList
 | .int k a,.complex .f32 1 L=>abw op k a L
 |x,y=>aat op (eq2 k Ba x y)
def eqK (f:IntKind->Int->Int->bQ):IntKind->IntKind->Int->Int->bQ:= λk k' a b=>aD (tz k k') (f k a b) none
def aks (op:BinOp):IntKind->IntKind->Int->Int->bQ:=
 BinOp.rec (motive:= λ_=>IntKind->IntKind->Int->Int->bQ)
  (λk k' a b=>aD (tz k k') (mo k (Int.add a b)) none) (λk k' a b=>aD (tz k k') (mo k (Int.sub a b)) none) (λk k' a b=>aD (tz k k') (mo k (Int.mul a b)) none)
  (eqK (vw .quo)) (eqK (vw .rem)) (eqK (vw .and)) (eqK (vw .or)) (eqK (vw .xor))
  (λk _ a b=>ob (um b) λn=>JS .shl k a n) (λk _ a b=>ob (um b) λn=>JS .shr k a n)
  (eqK (vw .andNot))
  (λk k' a b=>aD (tz k k') (fG (FY a b)) none) (λk k' a b=>aD (tz k k') (fG (lF (FY a b))) none) (λk k' a b=>aD (tz k k') (fG (Fl a b)) none) (λk k' a b=>aD (tz k k') (fG (lF (Fl b a))) none) (λk k' a b=>aD (tz k k') (fG (Fl b a)) none) (λk k' a b=>aD (tz k k') (fG (lF (Fl a b))) none) op
def eJ (op:BinOp) (k:EK) (Ba:Bool) (y x:Value):bQ:=
 VI.rec (motive:= λ_=>bQ) (Wm op k Ba y x) (λka a=>VI.rec (motive:= λ_=>bQ) (Wm op k Ba y x) (λkb b=>aks op ka kb a b) (toI y)) (toI x)
def mq (base:Option Addr) (c:Nat):Nat:=oR Nat 0 (λ_=>Nat.div c 512) base
def xF (base:Option Addr) (c:Nat):Bool:=oR Bool true (λ_=>Nat.beq (Nat.mod c 2) 1) base
def oz (c:Nat):Nat:=Nat.div (Nat.mod c 512) 2
def bH (n:Nat):Nat:=Nat.add (Nat.mul 512 n) 1
def cq (n sz:Nat):Nat:=Nat.add (Nat.mul 512 n) (Nat.mul 2 sz)
def jq (place:Nat->Option (Nat×Nat)) (ps:List (Nat×Value)):LVal->Option LVal:=
 lR (LVal->Option LVal) (λl=>some l)
  (λp _ ih cells=>ob (place p.1) λq=>aD (Nat.beq (len p.2.cells.toList) q.2) (ob (Bi p.2.cells.toList cells q.1) ih) none) ps
def Uj (P:Program) (t:TypeId) (cs:LVal) (off:Nat):bQ:=
 ob (isAgg P t) λb=>aD b
  (ob (dc P t) λk=>ob (nQ off cs) λl=>ob (ov k l) λr=>some (.agg ⟨r⟩))
  (ob (nQ off cs) λl=>lR bQ none (λv _ _=>some v) l)
def indexOf (i:Int) (n:Nat):Option Nat:=Int.rec (motive:= λ_=>Option Nat) (λm=>aD (Nat.blt m n) (some m) none) (λ_=>none) i
def akt (l:List UInt8) (n:Nat):bQ:=
 nR (List UInt8->bQ) (λl=>lR bQ none (λb _ _=>cG b.toNat λn=>some (.int .u8 (.ofNat n))) l)
  (λ_ ih l=>lR bQ none (λ_ r _=>ih r) l) n l
def Gm (n:Nat):List UInt8->Option (List UInt8):=
 nR (List UInt8->Option (List UInt8)) (λ_=>some [])
  (λ_ ih l=>lR (Option (List UInt8)) none (λv l _=>ob (ih l) λr=>some (v::r)) l) n
def aku (n:Nat):List UInt8->Option (List UInt8):=
 nR (List UInt8->Option (List UInt8)) (λl=>some l)
  (λ_ ih l=>lR (Option (List UInt8)) none (λ_ l _=>ih l) l) n
def jT (d:Nat) (o:bQ):Option Nat:=
 match o with
 |none=>some d
 |some (.int _ n)=>um n
 |_=>none
def mM (l h m:Nat):Bool:=aD (Nat.ble l h) (Nat.ble h m) false
def mkSlice (a:Addr) (off n c:Nat):bQ:=cG off λoff=>cG n λn=>cG c λc=>some (.slice (some ⟨a.block,off,none⟩) n c)
def vJ (sz:Nat) (base:Option Addr) (n c:Nat) (lo hi mx:bQ):bQ:=
 ob (jT 0 lo) λl=>ob (jT n hi) λh=>
  match mx with
  |none=>aD (mM l h (mq base c))
    (match base with
     |none=>some (.slice none 0 0)
     |some a=>aD (xF base c) (mkSlice a (Nat.add a.off (Nat.mul l sz)) (Nat.sub h l) (bH (Nat.sub (Nat.div c 512) l)))
       (aD (Nat.beq (oz c) sz) (mkSlice a (Nat.add a.off (Nat.mul l sz)) (Nat.sub h l) (cq (Nat.sub (Nat.div c 512) l) sz)) none)) none
  |some m=>ob (jT 0 (some m)) λm=>aD (mM l h m) (aD (Nat.ble m (mq base c))
    (match hi,base with|none,_=>none|_,none=>some (.slice none 0 0)|_,some a=>mkSlice a (Nat.add a.off (Nat.mul l sz)) (Nat.sub h l) (bH (Nat.sub m l))) none) none
def jX (sz:Nat) (a:Addr) (n:Nat) (lo hi mx:bQ):bQ:=
 match mx with
 |none=>ob (jT 0 lo) λl=>ob (jT n hi) λh=>aD (mM l h n) (mkSlice a (Nat.add a.off (Nat.mul l sz)) (Nat.sub h l) (bH (Nat.sub n l))) none
 |some _=>none
def GK (s:List UInt8) (lo hi mx:bQ):bQ:=
 match mx with
 |none=>ob (jT 0 lo) λl=>ob (jT (len s) hi) λh=>aD (mM l h (len s)) (ob (aku l s) λs=>ob (Gm (Nat.sub h l) s) λs=>some (.string ⟨⟨s⟩⟩)) none
 |some _=>none
def tC (P:Program) (d:Option TypeDesc) (x:Value):bQ->bQ->bQ->bQ:=
 match x with
 | .string s=>match d with
  |some .string=>GK s.data.toList
  |_=> λ_ _ _=>none
 | .slice base n c=>match d with
  |some (.slice e)=> λlo hi mx=>ob (dc P e) λsz=>vJ sz base n c lo hi mx
  |_=> λ_ _ _=>none
 | .pointer (some a)=>match d with
  |some (.array n e)=> λlo hi mx=>ob (dc P e) λsz=>jX sz a n lo hi mx
  |some (.pointer arr)=>match P.underlying arr with
   |some (.array n e)=> λlo hi mx=>ob (dc P e) λsz=>jX sz a n lo hi mx
   |_=> λ_ _ _=>none
  |_=> λ_ _ _=>none
 |_=> λ_ _ _=>none
def byteCells (l:List UInt8):Option (List LVal):=
 lR (Option (List LVal)) (some []) (λb _ ih=>cG b.toNat λn=>ob ih λr=>some ([.int .u8 (.ofNat n)]::r)) l
def uF (b:Option eX) (sz off n:Nat):Option (List LVal):=
 gI b λc vV _ _ _=>
  aD (Nat.beq sz 0) none (aD (Nat.beq sz vV) (aD (Nat.beq (Nat.mod off sz) 0) (elems c n (Nat.div off sz)) none)
   (ob (c.get (Nat.div off vV)) λl=>ob (nQ (Nat.mod off vV) l) λl=>ob (ov (Nat.mul n sz) l) λr=>chunk sz n r))
def dG (s:AS) (sz:Nat) (v:Value) (n:Nat):Option (List LVal):=
 match v with
 | .slice none _ _=>some []
 | .slice (some a) _ _=>nR (Option (List LVal)) (some []) (λ_ _=>uF (s.h.get a.block) sz a.off n) n
 | .string b=>aD (Nat.beq sz 1) (ob (Gm n b.data.toList) byteCells) none
 |_=>none
def jh (sz b:Nat) (els:List LVal):AS->Nat->Option AS:=
 lR (AS->Nat->Option AS) (λs _=>some s)
  (λl _ ih s off=>ob (ij s b off l) λs'=>ih s' (Nat.add off sz)) els
def Wn (b n c:Nat) (s:AS):Option (Value×AS):=cG n λn=>cG c λc=>some (.slice (some ⟨b,0,none⟩) n c,s)
def jk (s:AS) (et:TypeId) (sz:Nat) (els:List LVal) (n:Nat):Option (Value×AS):=
 aD (Nat.blt sz 256) (sY s et sz els n λb s'=>Wn b n (cq n sz) s') none
def jr (s:AS) (et:TypeId) (sz:Nat) (els:List LVal) (l n:Nat):Option (Value×AS):=
 sY s et sz els n λb s'=>Wn b l (bH n) s'
def GL (s:AS) (sz:Nat) (base:Option Addr) (n m c:Nat) (els:List LVal):Option (Value×AS):=
 match base with
 |none=>some (.slice none 0 0,s)
 |some a=>ob (jh sz a.block els s (Nat.add a.off (Nat.mul n sz))) λs'=>cG (Nat.add n m) λnm=>some (.slice (some a) nm c,s')
def uG (s:AS) (et:TypeId) (sz:Nat) (base:Option Addr) (n nm c:Nat) (all:List LVal):Option (Value×AS):=
 match base with
 |none=>none
 |some a=>aD (Nat.beq (oz c) sz) (gI (s.h.get a.block) λcc vV m ro RH=>aD ro none (aD (Nat.beq sz vV) (aD (Nat.beq et RH) (aD (Nat.beq (Nat.mod a.off sz) 0) (ob (s.set a.block none) λs1=>jk s1 et sz all nm) none) none) none)) none
def nq (l:List LVal):Bool:=lR Bool true (λv _ ih=>aD (cP v) ih false) l
def qM (s:AS) (et:TypeId) (sz m:Nat) (els:List LVal) (sl:Value):Option (Value×AS):=
 match sl with
 | .slice base n c=>aD (Nat.ble (Nat.add n m) (mq base c)) (GL s sz base n m c els)
   (aD (Nat.ble (Nat.add n m) 1000000) (ob (dG s sz (.slice base n c) n) λeb=>ob (Ae eb els) λall=>aD (xF base c) (jk s et sz all (Nat.add n m)) (aD (nq els) (uG s et sz base n (Nat.add n m) c all) none)) none)
 |_=>none
def lenOf (v:Value):Option Nat:=match v with| .slice _ n _=>some n| .string b=>some (len b.data.toList)|_=>none
def aau (x y:Value):bQ:=match x,y with| .int k a,.int _ b=>some (.int k (aD (Fl a b) b a))|_,_=>none
def Gn (x y:Value):bQ:=match x,y with| .int k a,.int _ b=>some (.int k (aD (Fl b a) b a))|_,_=>none
def aav (f:Value->Value->bQ) (l:LVal):Value->bQ:=
 lR (Value->bQ) (λx=>some x) (λy _ ih x=>ob (f x y) ih) l
def ns (l:List LVal):Option (List UInt8):=
 lR (Option (List UInt8)) (some []) (λc _ ih=>match c with
  | [.int k n]=>aD (tz k .u8) (ob (um n) λn=>aD (Nat.blt n 256) (ob ih λr=>some (UInt8.ofNat n::r)) none) none
  |_=>none) l
def mapOf {β:Type} (b:Option eX) (k:TypeId->List (Value×Value×Nat)->Nat->Option β):Option β:=
 oR (Option β) none (λb=>eX.rec (motive:= λ_=>Option β) (λ_ _ _ _ _=>none) k (λ_ _=>none) (λ_ _=>none) (λ_ _ _ _ _ _ _ _ _=>none) b) b
def mN (P:Program) (e:TypeId) (ok:Bool) (r:Option (Value×Nat)):bQ:=
 match r with
 |some (v,_)=>some (aD ok (.tuple #[v,.bool true]) v)
 |none=>ob (mU P e) λz=>some (aD ok (.tuple #[z,.bool false]) z)
inductive KK where
 |int (k:IntKind)
 |str
 |bool
def AD (k:KK) (v:Value):Bool:=match k,v with| .int k,.int k' _=>tz k k'| .str,.string _=>true| .bool,.bool _=>true|_,_=>false
def eY (ks:List KK):LVal->Bool:=
 lR (LVal->Bool) (λl=>match l with| []=>true|_=>false) (λk _ ih l=>match l with|v::l=>aD (AD k v) (ih l) false| []=>false) ks
def nh (P:Program) (pl:TypeId->Option (List KK)):List Field->Nat->Option (List KK)
 | [],_=>some []
 |f::fs,off=>if f.name== "_"||f.offset !=off then none else match pl f.type with
  |some l=>if dc P f.type==some l.length then(match nh P pl fs (off+l.length)with|some r=>some (l++r)|none=>none)else none
  |none=>none
def jv (P:Program):Nat->TypeId->Option (List KK)
 |0,_=>none
 |d+1,t=>match P.underlying t with
  |some .bool=>some [.bool]
  |some (.int k)=>some [.int k]
  |some .string=>some [.str]
  |some (.struct fs)=>if P.stoodInHeld t then none else nh P (jv P d) fs.toList 0
  |some (.array n e)=>match jv P d e with
   |some l=>if dc P e==some l.length then some (List.replicate n l).flatten else none
   |none=>none
  |_=>none
def m6 (a:Option Bool) (ks:List KK) (v:Value):Bool:=
 match a with
 |some true=>(match v with| .agg cs=>eY ks cs.toList|_=>false)
 |some false=>(match v with| .agg _=>false|v=>eY ks [v])
 |none=>false
def eB (P:Program) (kt:TypeId) (v:Value):Bool:=match jv P 5 kt with|some ks=>m6 (isAgg P kt) ks v|none=>false
def keyOf (P:Program) (t:TypeId):Option (TypeId×TypeId):=match P.underlying t with|some (.map k e)=>some (k,e)|_=>none
def jR (P:Program) (s:AS) (t:TypeId) (ok:Bool) (k x:Value):bQ:=
 ob (keyOf P t) λke=>aD (eB P ke.1 k)
  (match x with
  | .map none=>mN P ke.2 ok none
  | .map (some r)=>mapOf (s.h.get r) λkt es _=>aD (Nat.beq kt ke.1) (ob (jj k es) λr=>mN P ke.2 ok r) none
  |_=>none) none
inductive Lo where
 |nil
 |cons (t:Nat) (v:Value) (r:Lo)
def Lo.get (t:Nat) (l:Lo):bQ:=
 Lo.rec (motive:= λ_=>bQ) none (λt' v _ ih=>aD (Nat.beq t t') (some v) ih) l
abbrev iD:=Lo->T Value->bQ
def aK (t:Nat):iD:= λ_ tm=>T.get tm t
def aH (t:Nat):iD:= λlo _=>Lo.get t lo
def bq (v:Value):iD:= λ_ _=>some v
def si (xs:List iD):Lo->T Value->Option LVal:=
 lR (Lo->T Value->Option LVal) (λ_ _=>some [])
  (λx _ ih lo tm=>oR (Option LVal) none (λv=>oR (Option LVal) none (λr=>some (v::r)) (ih lo tm)) (x lo tm)) xs
abbrev VF:=Lo->T Value->AS->bQ
abbrev SF:=Lo->T Value->AS->Option (Value×AS)
def v1 (x:iD) (k:Value->bQ):VF:= λlo tm _=>ob (x lo tm) k
def v2 (x y:iD) (k:Value->Value->bQ):VF:= λlo tm _=>ob (x lo tm) λa=>ob (y lo tm) λb=>k a b
def r1 (x:iD) (k:AS->Value->bQ):VF:= λlo tm s=>ob (x lo tm) (k s)
def r2 (x y:iD) (k:AS->Value->Value->bQ):VF:= λlo tm s=>ob (x lo tm) λa=>ob (y lo tm) λb=>k s a b
def s1 (x:iD) (k:AS->Value->Option (Value×AS)):SF:= λlo tm s=>ob (x lo tm) (k s)
def s2 (x y:iD) (k:AS->Value->Value->Option (Value×AS)):SF:= λlo tm s=>ob (x lo tm) λa=>ob (y lo tm) λb=>k s a b
def s3 (x y z:iD) (k:AS->Value->Value->Value->Option (Value×AS)):SF:= λlo tm s=>ob (x lo tm) λa=>ob (y lo tm) λb=>ob (z lo tm) λc=>k s a b c
def vl (xs:List iD) (k:LVal->bQ):VF:= λlo tm _=>ob (si xs lo tm) k
def rl (xs:List iD) (k:AS->LVal->bQ):VF:= λlo tm s=>ob (si xs lo tm) (k s)
def sl (xs:List iD) (k:AS->LVal->Option (Value×AS)):SF:= λlo tm s=>ob (si xs lo tm) (k s)
def Uk (a b:iD) (c:Value) (lo:Lo) (tm:T Value):bQ:=match c with| .bool x=>aD x (a lo tm) (b lo tm)|_=>none
def iS (c a b:iD):VF:= λlo tm _=>ob (c lo tm) λc=>Uk a b c lo tm
def RX (P:Program) (t:TypeId) (s:AS):Option (Value×AS):=ob (qB P t) λz=>vI s t z
def ia (t:TypeId) (s:AS) (v:Value):Option (Value×AS):=vI s t v.cells.toList
def F9 (is:List Nat):LVal->List (Nat×Value):=lR (LVal->List (Nat×Value)) (λ_=> []) (λi _ ih l=>lR (List (Nat×Value)) [] (λv l _=>(i,v)::ih l) l) is
def dB (P:Program) (t:TypeId) (i:Nat):Option (Nat×Nat):=
 match P.underlying t with
 |some (.struct fs)=>match fs[i]? with|some f=>ob (dc P f.type) λn=>some (f.offset,n)|none=>none
 |some (.array _ e)=>ob (dc P e) λn=>some (Nat.mul i n,n)
 |_=>none
def ir (P:Program) (t:TypeId):Bool:=
 match P.underlying t with
 |some (.struct fs)=>lR Bool true (λf _ ih=>match P.info? f.type with|some _=>ih|none=>false) fs.toList
 |some (.array _ e)=>(match P.info? e with|some _=>true|none=>false)
 |_=>false
def cA (P:Program) (t:TypeId) (is:List Nat) (vs:LVal):bQ:=
 aD (ir P t) (ob (qB P t) λz=>ob (jq (dB P t) (F9 is vs) z) λr=>some (.agg ⟨r⟩)) none
def jE (x:LVal) (i:Nat):List LVal->Option (List LVal):=
 nR (List LVal->Option (List LVal)) (λl=>lR (Option (List LVal)) none (λ_ r _=>some (x::r)) l)
  (λ_ ih l=>lR (Option (List LVal)) none (λa r _=>ob (ih r) λr=>some (a::r)) l) i
def iL (n:Nat) (ps:List (Nat×Value)):List LVal->Option (List LVal):=
 lR (List LVal->Option (List LVal)) (λl=>some l)
  (λp _ ih els=>aD (Nat.beq (len p.2.cells.toList) n) (ob (jE p.2.cells.toList p.1 els) ih) none) ps
def tW (z:LVal) (n:Nat):Option (List LVal):=nR (Option (List LVal)) (some []) (λ_ ih=>ob ih λr=>some (z::r)) n
def fu (P:Program) (t:TypeId):Option TypeId:=match P.underlying t with|some (.slice e)=>some e|_=>none
def abx (P:Program) (t:TypeId):Option Nat:=(P.info? t).map (·.bytes)
def dW (P:Program) (e:TypeId):Option (Nat×LVal):=ob (dc P e) λsz=>ob (qB P e) λz=>ob (abx P e) λb=>aD (Nat.ble b 1000000) (aD (Nat.beq (len z) sz) (some (sz,z)) none) none
def bF (P:Program) (t:TypeId) (n:Nat) (is:List Nat) (s:AS) (vs:LVal):Option (Value×AS):=
 ob (fu P t) λe=>ob (dW P e) λi=>aD (Nat.ble (Nat.mul n i.1) 16000000) (ob (tW i.2 n) λtX=>ob (iL i.1 (F9 is vs) tX) λels=>jr s e i.1 els n n) none
def Of (P:Program) (t:TypeId) (a:Value):bQ:=
 match a with
 | .complex .f64 g off=>ob (isAgg P t) λb=>aD b none (ob P.globals[g]? λgl=>ob (lh gl.name) λvs=>vs[off]?)
 |_=>none
def xG (P:Program) (t:TypeId) (s:AS) (a:Value):bQ:=
 match a with
 | .pointer (some a)=>ob (isAgg P t) λb=>aD b (ob (dc P t) λn=>ob (kJ s a.block a.off n) λl=>some (.agg ⟨l⟩))
   (ob (kJ s a.block a.off 1) λl=>lR bQ none (λv _ _=>some v) l)
 |a=>Of P t a
def RY (P:Program) (t:TypeId) (s:AS) (a v:Value):Option (Value×AS):=
 match a with
 | .pointer (some a)=>ob (dc P t) λn=>aD (Nat.beq (len v.cells.toList) n) (ob (ij s a.block a.off v.cells.toList) λs'=>some (.tuple #[],s')) none
 |_=>none
def aM (P:Program) (t:TypeId) (s:AS) (a:Value):bQ:=
 VA.rec (motive:= λ_=>bQ) (Of P t a) (λa=>ob (isAgg P t) λb=>aD b (ob (dc P t) λn=>ob (kJ s a.block a.off n) λl=>some (.agg ⟨l⟩))
  (ob (kJ s a.block a.off 1) λl=>lR bQ none (λv _ _=>some v) l)) (toA a)
def aby (P:Program) (t:TypeId) (s:AS) (a v:Value):Option (Value×AS):=
 VA.rec (motive:= λ_=>Option (Value×AS)) none (λa=>ob (dc P t) λn=>aD (Nat.beq (len v.cells.toList) n) (ob (ij s a.block a.off v.cells.toList) λs'=>some (.tuple #[],s')) none) (toA a)
def dt (v:Value):bQ:=match v with
 | .pointer (some a)=>some (.pointer (some a))
 | .iface t v=>some (.iface t v)
 | .func (.func f) a b=>some (.func (.func f) a b)
 | .func (.yield l) a b=>some (.func (.yield l) a b)
 |_=>none
def JI (op:UnOp) (v:Value):bQ:=match op,v with
 | .not,.bool b=>fG (lF b)
 | .neg,.int k n=>mo k (Int.sub (.ofNat 0) n)
 | .xor,.int k n=>m5 k (k.wrap (BitVec.ofInt k.bits (if k.signed then-1 else k.max)^^^BitVec.ofInt k.bits n).toNat)
 |_,_=>none
def AJ (P:Program) (t:TypeId) (s:AS) (l c:Value):Option (Value×AS):=
 match l,c with
 | .int _ l,.int _ c=>ob (fu P t) λe=>ob (um l) λl=>ob (um c) λc=>aD (Nat.ble l c) (aD (Nat.ble c 1000000) (ob (dW P e) λi=>ob (tW i.2 c) λels=>jr s e i.1 els l c) none) none
 |_,_=>none
def Lg (o:Option iD) (lo:Lo) (tm:T Value):Option bQ:=match o with|none=>some none|some x=>ob (x lo tm) λv=>some (some v)
def vy (P:Program) (t:TypeId) (x:iD) (l h m:Option iD):VF:= λlo tm _=>ob (x lo tm) λx=>ob (Lg l lo tm) λl=>ob (Lg h lo tm) λh=>ob (Lg m lo tm) λm=>tC P (P.underlying t) x l h m
def fieldsOf (P:Program) (t:TypeId) (f:Nat):Option Field:=match P.underlying t with|some (.struct fs)=>fs[f]?|_=>none
def AK (P:Program) (t:TypeId) (f:Nat) (v:Value):bQ:=
 match v with
 | .pointer (some a)=>ob (fieldsOf P t f) λfl=>ob (dc P fl.type) λn=>aD (Nat.beq n 0) none (cG (Nat.add a.off fl.offset) λo=>some (.pointer (some ⟨a.block,o,none⟩)))
 |_=>none
def Hm (P:Program) (t:TypeId) (f:Nat) (v:Value):bQ:=
 VA.rec (motive:= λ_=>bQ) none (λa=>ob (fieldsOf P t f) λfl=>ob (dc P fl.type) λn=>aD (Nat.beq n 0) none (cG (Nat.add a.off fl.offset) λo=>some (.pointer (some ⟨a.block,o,none⟩)))) (toA v)
def RZ (P:Program) (t:TypeId) (f:Nat) (v:Value):bQ:=
 match v with
 | .agg cs=>ob (fieldsOf P t f) λfl=>Uj P fl.type cs.toList fl.offset
 |_=>none
def elemAt (P:Program) (a:Addr) (e:TypeId) (n:Nat) (i:Int):bQ:=
 ob (indexOf i n) λi=>ob (dc P e) λsz=>cG (Nat.add a.off (Nat.mul i sz)) λo=>some (.pointer (some ⟨a.block,o,none⟩))
def akv (P:Program) (g off:Nat) (e:TypeId) (n:Nat) (i:Int):bQ:=
 ob (indexOf i n) λi=>ob (dc P e) λsz=>cG (Nat.add off (Nat.mul i sz)) λo=>some (.complex .f64 g o)
def rN (P:Program) (d:Option TypeDesc) (x i:Value):bQ:=
 match i with
 | .int _ i=>match x with
  | .slice (some a) n _=>match d with|some (.slice e)=>elemAt P a e n i|_=>none
  | .pointer (some a)=>match d with|some (.array n e)=>elemAt P a e n i|_=>none
  | .complex .f64 g off=>match d with|some (.array n e)=>akv P g off e n i|_=>none
  |_=>none
 |_=>none
def Hn (d:Option TypeDesc):Option TypeId:=match d with|some (.slice e)=>some e|_=>none
def wa (P:Program) (d:Option TypeDesc) (x i:Value):bQ:=
 VI.rec (motive:= λ_=>bQ) none (λ_ n=>VS.rec (motive:= λ_=>bQ) (rN P d x i) (λa m _=>ob (Hn d) λe=>elemAt P a e m n) (toS x)) (toI i)
def R3 (P:Program) (d:Option TypeDesc) (x i:Value):bQ:=
 match i with
 | .int _ i=>match x with
  | .string b=>match d with|some .string=>ob (um i) λi=>akt b.data.toList i|_=>none
  | .agg cs=>match d with|some (.array n e)=>ob (indexOf i n) λi=>ob (dc P e) λsz=>Uj P e cs.toList (Nat.mul i sz)|_=>none
  |_=>none
 |_=>none
def iF (P:Program) (t:TypeId) (s:AS) (m i x:Value):Option (Value×AS):=
 ob (keyOf P t) λke=>aD (eB P ke.1 i) (match m with
 | .map (some r)=>mapOf (s.h.get r) λkt es ck=>aD (Nat.beq kt ke.1) (ob (jj i es) λo=>match o with
   |some _=>ob (qW i x (Nat.succ ck) es) λig=>ob (s.set r (some (.map kt ig ck))) λs'=>some (.tuple #[],s')
   |none=>cG (Nat.succ ck) λmT=>ob (s.set r (some (.map kt ((i,x,mT)::es) mT))) λs'=>some (.tuple #[],s')) none
 |_=>none) none
def De (P:Program) (t:TypeId) (s:AS) (x:Value):Option (Value×AS):=
 match x,P.underlying t with
 | .string b,some .string=>ob (s.new (.sX b 0)) λs'=>some (.pointer (some ⟨s.nx,0,none⟩),s')
 | .map none,some (.map _ _)=>ob (s.new (.mapIter none 0)) λs'=>some (.pointer (some ⟨s.nx,0,none⟩),s')
 | .map (some r),some (.map _ _)=>mapOf (s.h.get r) λ_ _ ck=>ob (s.new (.mapIter (some r) ck)) λs'=>some (.pointer (some ⟨s.nx,0,none⟩),s')
 |_,_=>none
def aaw (s:AS) (it:Value):Option (Value×AS):=
 match it with
 | .pointer (some ⟨r,0,_⟩)=>match s.h.get r with
  |some (.sX b pos)=>aD (Nat.blt pos (len b.data.toList))
    (ob (s.set r (some (.sX b (Nat.add pos (Utf8.decode b pos).2)))) λs'=>some (.tuple #[.bool true,.int .i64 (.ofNat pos),.int .i32 (.ofNat (Utf8.decode b pos).1)],s'))
    (some (.tuple #[.bool false],s))
  |_=>none
 |_=>none
def awj (l:LVal) (i:Nat):bQ:=ob (nQ i l) λl=>lR bQ none (λv _ _=>some v) l
def fB (i:Nat) (x:Value):bQ:=match x with| .tuple vs=>awj vs.toList i|_=>none
def sj (P:Program) (ts:Array TypeId) (i:Nat):Option TypeDesc:=match ts[i]? with|some t=>P.underlying t|none=>none
def anF (P:Program) (d:Option TypeDesc) (l:LVal):bQ:=match d,l with
  |some (.slice _),[.slice _ n _]=>some (.int .i64 (.ofNat n))
  |some .string,[.string b]=>cG (len b.data.toList) λn=>some (.int .i64 (.ofNat n))
  |some (.array n _),[_]=>some (.int .i64 (.ofNat n))
  |some (.pointer arr),[_]=>match P.underlying arr with|some (.array n _)=>some (.int .i64 (.ofNat n))|_=>none
  |_,_=>none
def anG (s:AS) (l:LVal):bQ:=match l with
  | [.map none]=>some (.int .i64 (.ofNat 0))
  | [.map (some r)]=>mapOf (s.h.get r) λ_ es _=>cG (len es) λn=>some (.int .i64 (.ofNat n))
  |_=>none
def R4 (d:Option TypeDesc):Bool:=match d with|some (.map _ _)=>true|_=>false
def Wo (d:Option TypeDesc) (l:LVal):bQ:=match d,l with
  |some (.slice _),[.slice b _ n]=>aD (xF b n) (cG (mq b n) λn=>some (.int .i64 (.ofNat n))) (cG (mq b n) λn=>some (.complex .f32 1 n))
  |_,_=>none
def tD (P:Program) (ts:Array TypeId):Option TypeId:=match sj P ts 0 with|some (.slice e)=>some e|_=>none
def LK (P:Program) (ts:Array TypeId):Bool:=match ts[1]? with|none=>true|some t=>match P.underlying t with|some (.int _)=>false|some _=>true|none=>false
def R5 (P:Program) (ts:Array TypeId):Bool:=match ts[1]? with|none=>false|some t=>match P.underlying t with|some (.int _)=>true|_=>false
def L9 (s:AS) (e:TypeId) (sz:Nat) (z:LVal) (l:LVal):Option (Value×AS):=match l with
 | [.slice base n c,.int .i64 (.ofNat m)]=>aD (xF base c) (aD (Nat.blt (mq base c) (Nat.add n m)) (aD (Nat.ble (Nat.add n m) 1000000) (aD (Nat.blt 0 (Nat.mul m sz))
   (ob (dG s sz (.slice base n c) n) λeb=>ob (tW z m) λels=>ob (Ae eb els) λall=>jk s e sz all (Nat.add n m)) none) none) none) none
 |_=>none
def Ma (P:Program) (ts:Array TypeId) (s:AS) (l:LVal):Option (Value×AS):=
 ob (tD P ts) λe=>ob (dW P e) λi=>aD (LK P ts) (match l with
  | [x,y]=>ob (lenOf y) λn=>ob (dG s i.1 y n) λels=>qM s e i.1 n els x
  |_=>none) (aD (R5 P ts) (L9 s e i.1 i.2 l) none)
def xH (P:Program) (ts:Array TypeId) (s:AS) (l:LVal):Option (Value×AS):=
 ob (tD P ts) λe=>ob (dc P e) λsz=>match l with
  | [.slice base dl _,y]=>ob (lenOf y) λn=>cG (Nat.min n dl) λm=>ob (dG s sz y m) λels=>match base with
   |none=>some (.int .i64 (.ofNat m),s)
   |some a=>ob (jh sz a.block els s a.off) λs'=>some (.int .i64 (.ofNat m),s')
  |_=>none
def R6 (P:Program) (ts:Array TypeId) (s:AS) (l:LVal):Option (Value×AS):=match sj P ts 0,l with
  |some (.slice _),[.slice none _ _]=>some (.tuple #[],s)
  |some (.slice e),[.slice (some a) n _]=>ob (dW P e) λi=>ob (tW i.2 n) λels=>ob (jh i.1 a.block els s a.off) λs'=>some (.tuple #[],s')
  |some (.map _ _),[.map (some r)]=>mapOf (s.h.get r) λkt _ ck=>ob (s.set r (some (.map kt [] ck))) λs'=>some (.tuple #[],s')
  |_,_=>none
def Eo (f:Value->Value->bQ) (l:LVal):bQ:=match l with|x::l=>aav f l x|_=>none
def Wp (P:Program) (ts:Array TypeId) (s:AS) (l:LVal):Option (Value×AS):=match sj P ts 0,l with
   |some (.pointer _),[.pointer none,.int _ (.ofNat 0)]=>some (.string ⟨⟨[]⟩⟩,s)
   |some (.pointer u),[.pointer (some a),.int _ (.ofNat n)]=>gI (s.h.get a.block) λc sz m ro et=>
     aD ro none (aD (Nat.beq et u) (aD (Nat.beq sz 1) (aD (Nat.beq ((dc P u).getD 0) 1) (aD (Nat.blt n 1000000) (ob (elems c n a.off) λels=>ob (ns els) λl=>ob (s.set a.block (some (.cells c sz m true et))) λs'=>some (.string ⟨⟨l⟩⟩,s')) none) none) none) none)
   |_,_=>none
def Og (l:LVal):bQ:=match l with
   | [.slice none _ _]=>some (.pointer none)
   | [.slice (some a) n c]=>aD (Nat.blt 0 (Nat.div c 512)) (some (.pointer (some a))) none
   |_=>none
def xI (d:TypeDesc) (x:Value):bQ:=
 match d,x with
 | .int k,.int _ n=>mo k n
 | .string,.int _ n=>some (.string (Utf8.encode n))
 | .string,.string b=>some (.string b)
 |_,_=>none
def Gp (P:Program) (e:TypeId) (back:Bool) (s:AS) (x:Value):bQ:=
 match x with
 | .pointer none=>some (.pointer none)
 | .pointer (some a)=>ob (dc P e) λn=>gI (s.h.get a.block) λc sz _ _ et=>aD (Nat.blt 0 n) (aD (Nat.beq (Nat.mod a.off sz) 0) (aD (Nat.beq n sz) (ob (c.get (Nat.div a.off sz)) λ_=>aD (aD back (Nat.beq et e) true) (some (.pointer (some a))) none) none) none) none
 |_=>none
def aax (s:AS) (x:Value):bQ:=
 match x with
 | .slice base n c=>ob (dG s 1 (.slice base n c) n) λels=>ob (ns els) λl=>some (.string ⟨⟨l⟩⟩)
 |_=>none
def aay (e:TypeId) (s:AS) (x:Value):Option (Value×AS):=
 match x with
 | .string b=>aD (Nat.ble (len b.data.toList) 1000000) (ob (byteCells b.data.toList) λels=>jk s e 1 els (len b.data.toList)) none
 |_=>none
def kept (an t:Nat):Bool:=Nat.beq (Nat.land (Nat.shiftRight an t) 1) 1
abbrev Al:=List (Nat×Operand)
def JV (t:Nat) (al:Al):Option Operand:=lR (Option Operand) none (λp _ ih=>aD (Nat.beq p.1 t) (some p.2) ih) al
def aaz (an:Nat) (x:Operand):Option iD:=
 match x with
 | .tmp t=>aD (kept an t) (some (aK t)) (some (aH t))
 | .const v=>(match vZ v with|some v=>some (bq v)|none=>some (λ_ _=>none))
 | .global g=>some (bq (.complex .f64 g 0))
 | .func f=>some (bq (.func (.func f) #[] #[]))
def mV (al:Al) (x:Operand):Operand:=match x with| .tmp t=>(match JV t al with|some y=>y|none=> .tmp t)|x=>x
def jn (an:Nat) (al:Al) (x:Operand):Option iD:=aaz an (mV al x)
def uo (an:Nat) (al:Al) (xs:List Operand):Option (List iD):=lR (Option (List iD)) (some []) (λx _ ih=>ob (jn an al x) λx=>ob ih λr=>some (x::r)) xs
def Gq (an:Nat) (al:Al) (x:Option Operand):Option (Option iD):=match x with|some x=>ob (jn an al x) λx=>some (some x)|none=>some none
inductive Rd where
 |p (f:VF)
 |r (f:VF)
 |a (f:SF)
 |w (f:SF)
 |c (f:iD) (args:List iD)
def c1 (an:Nat) (al:Al) (x:Operand) (k:iD->Rd):Option Rd:=ob (jn an al x) λx=>some (k x)
def c2 (an:Nat) (al:Al) (x y:Operand) (k:iD->iD->Rd):Option Rd:=ob (jn an al x) λx=>ob (jn an al y) λy=>some (k x y)
def c3 (an:Nat) (al:Al) (x y z:Operand) (k:iD->iD->iD->Rd):Option Rd:=ob (jn an al x) λx=>ob (jn an al y) λy=>ob (jn an al z) λz=>some (k x y z)
def cl (an:Nat) (al:Al) (xs:List Operand) (k:List iD->Rd):Option Rd:=ob (uo an al xs) λxs=>some (k xs)
def zh (P:Program) (b:Builtin) (ts:Array TypeId) (atz:List iD):Option Rd:=
 match b with
 | .len=>aD (R4 (sj P ts 0)) (some (.r (rl atz anG))) (some (.p (vl atz (anF P (sj P ts 0)))))
 | .cap=>some (.p (vl atz (Wo (sj P ts 0))))
 | .append=>some (.w (sl atz (Ma P ts)))
 | .copy=>some (.w (sl atz (xH P ts)))
 | .clear=>some (.w (sl atz (R6 P ts)))
 | .max=>some (.p (vl atz (Eo aau)))
 | .min=>some (.p (vl atz (Eo Gn)))
 |b=>aD (Nat.beq b.ctorIdx 20) (some (.p (vl atz Og))) (aD (Nat.beq b.ctorIdx 21) (some (.w (sl atz (Wp P ts)))) none)
def LM (d:Option TypeDesc):Bool:=match d with|some d=>Nat.beq d.ctorIdx 6|none=>false
def R7 (P:Program) (src dst:TypeId) (x:iD):Option Rd:=
 aD (LM (P.underlying dst)) (match P.underlying src with|some (.pointer e)=>some (.r (r1 x (Gp P e false)))|_=>none)
 (aD (LM (P.underlying src)) (match P.underlying dst with|some (.pointer e)=>some (.r (r1 x (Gp P e true)))|_=>none)
 (match P.underlying src,P.underlying dst with
 |some (.slice e),some .string=>(match P.underlying e with|some (.int .u8)=>some (.r (r1 x aax))|_=>none)
 |some .string,some (.slice e)=>(match P.underlying e with|some (.int .u8)=>aD (Nat.beq ((dc P e).getD 0) 1) (some (.a (s1 x (aay e)))) none|_=>none)
 |some _,some d=>some (.p (v1 x (xI d)))
 |_,_=>none))
def ayM (fn:Fn) (a b:LVal):bQ:=match fn with| .func f=>some (.func (.func f) ⟨a⟩ ⟨b⟩)|_=>none
def IQ (P:Program) (an:Nat) (al:Al) (op:Op):Option Rd:=
 match op with
 | .move x=>c1 an al x λx=> .p (v1 x some)
 | .assign x=>c1 an al x λx=> .p (v1 x some)
 | .pick c a b=>c3 an al c a b λc a b=> .p (iS c a b)
 | .alloc t=>some (.a (λ_ _ s=>RX P t s))
 | .box t x=>c1 an al x λx=> .a (s1 x (ia t))
 | .build t ps=>cl an al (ps.toList.map (·.2)) λxs=> .p (vl xs (cA P t (ps.toList.map (·.1))))
 | .buildSlice t n ps=>cl an al (ps.toList.map (·.2)) λxs=> .a (sl xs (bF P t n (ps.toList.map (·.1))))
 | .load t a=>c1 an al a λa=> .r (r1 a (aM P t))
 | .store t a x=>c2 an al a x λa x=> .w (s2 a x (aby P t))
 | .nilCheck x=>c1 an al x λx=> .p (v1 x dt)
 | .binOp op t x y _=>c2 an al x y λx' y'=> .p (v2 x' y' λa b=>eJ op (Af P t) (aD (JU x) true (JU y)) b a)
 | .unOp op _ x=>c1 an al x λx=> .p (v1 x (JI op))
 | .convert a b x=>ob (jn an al x) λx=>R7 P a b x
 | .makeInterface t x=>(match P.underlying t with|some (.interface _)=>none|some _=>c1 an al x λx=> .p (v1 x λv=>some (.iface t v))|none=>none)
 | .makeFunc fn a b=>ob (uo an al a.toList) λa=>ob (uo an al b.toList) λb=>some (.p (λlo tm _=>ob (si a lo tm) λa=>ob (si b lo tm) λb=>ayM fn a b))
 | .makeMap t none=>ob (keyOf P t) λke=>some (.a (λ_ _ s=>ob (s.new (.map ke.1 [] 0)) λs'=>some (.map (some s.nx),s')))
 | .makeSlice t l c=>c2 an al l c λl c=> .a (s2 l c (AJ P t))
 | .slice t x lo hi mx=>ob (jn an al x) λx=>ob (Gq an al lo) λlo=>ob (Gq an al hi) λhi=>ob (Gq an al mx) λmx=>some (.p (vy P t x lo hi mx))
 | .fieldAddr t x f=>c1 an al x λx=> .p (v1 x (Hm P t f))
 | .field t x f=>c1 an al x λx=> .p (v1 x (RZ P t f))
 | .indexAddr t x i=>c2 an al x i λx i=> .p (v2 x i λx i=>wa P (P.underlying t) x i)
 | .index t x i=>c2 an al x i λx i=> .p (v2 x i λx i=>R3 P (P.underlying t) x i)
 | .lookup t x i ok=>c2 an al x i λx i=> .r (r2 x i λs x i=>jR P s t ok i x)
 | .mapUpdate t m i x=>c3 an al m i x λm i x=> .w (s3 m i x (iF P t))
 | .insert t m i x=>c3 an al m i x λm i x=> .w (s3 m i x (iF P t))
 | .range t x=>c1 an al x λx=> .w (s1 x (De P t))
 | .next x true=>c1 an al x λx=> .w (s1 x aaw)
 | .extract x i=>c1 an al x λx=> .p (v1 x (fB i))
 | .call c=>match c.callee with
  | .value f=>ob (jn an al f) λf=>cl an al c.args.toList λatz=> .c f atz
  | .builtin b=>ob (uo an al c.args.toList) λatz=>zh P b c.argTypes atz
  |_=>none
 |_=>none
inductive DI where
 |no
 |l (t:Nat)
 |t (t:Nat)
def Bv (an nt:Nat) (d:Option Tmp):Option DI:=match d with|none=>some .no|some t=>aD (Nat.blt t nt) (aD (kept an t) (some (.t t)) (some (.l t))) none
inductive CI where
 |v (f:VF) (d:DI)
 |s (f:SF) (d:DI)
 |c (f:iD) (args:List iD) (d:DI)
 |gd (g:iD) (want:Bool) (d:DI) (c:CI)
def EG (r:Rd) (d:DI):CI:=match r with| .p f=> .v f d| .r f=> .v f d| .a f=> .s f d| .w f=> .s f d| .c f atz=> .c f atz d
abbrev K:=Lo->T Value->AS->Out
def m9 (d:DI) (v:Value) (k:K) (lo:Lo) (tm:T Value) (s:AS):Out:=
 DI.rec (motive:= λ_=>Out) (k lo tm s) (λt=>k (.cons t v lo) tm s) (λt=>oR Out .no (λtm'=>k lo tm' s) (T.put (some v) tm t)) d
def uR (d:DI) (k:K) (lo:Lo) (tm:T Value) (o:Out):Out:=
 Out.rec (motive:= λ_=>Out) .no (λ_ _ _=> .no) (λv s=>m9 d v k lo tm s) o
def pJ (want:Bool) (o:bQ):Option Bool:=match o with|some (.bool b)=>some (aD want b (lF b))|some (.tuple _)=>some false|_=>none
def ifO (o:Option Bool) (a b:Out):Out:=oR Out .no (λy=>aD y a b) o
def lP (ev:Ev) (c:CI):K->K:=
 CI.rec (motive:= λ_=>K->K)
  (λf d k lo tm s=>oR Out .no (λv=>m9 d v k lo tm s) (f lo tm s))
  (λf d k lo tm s=>oR Out .no (λp=>m9 d p.1 k lo tm p.2) (f lo tm s))
  (λf atz d k lo tm s=>oR Out .no (λl=>oR Out .no (λf=>uR d k lo tm (ev f l s)) (f lo tm)) (si atz lo tm))
  (λg want d _ ih k lo tm s=>ifO (pJ want (g lo tm)) (ih k lo tm s) (m9 d (.tuple #[]) k lo tm s)) c
def nV (ev:Ev) (l:List CI) (k:K):K:=
 lR K k (λc _ ih lo tm s=>lP ev c ih lo tm s) l
def uH (an:Nat) (al:Al) (all:List Oper) (j:Nat):Option iD:=match all[j]? with|some o=>(match o.dst with|some d=>jn an al (.tmp d)|none=>none)|none=>none
def lW (an:Nat) (al:Al) (all:List Oper) (o:Oper) (d:DI) (c:CI):Option CI:=
 match o.guard with
 |none=>some c
 |some (j,want)=>ob (uH an al all j) λg=>some (.gd g want d c)
def Wq (P:Program) (an nt:Nat) (al:Al) (all:List Oper) (o:Oper):Option CI:=
 ob (IQ P an al o.op) λr=>ob (Bv an nt o.dst) λd=>lW an al all o d (EG r d)
def LN (o:Oper):Option (Nat×Operand):=
 match o.guard,o.dst,o.op with
 |none,some d,.move (.tmp x)=>some (d,.tmp x)
 |none,some d,.move (.const v)=>some (d,.const v)
 |_,_,_=>none
def Bw (d:Nat) (x:Operand):Bool:=match x with| .tmp t=>Nat.beq t d|_=>false
def ko (d:Nat) (al:Al):Al:=lR Al [] (λp _ ih=>aD (Nat.beq p.1 d) ih (aD (Bw d p.2) ((p.1,.const (.complex .f32 0 0))::ih) (p::ih))) al
def sZ (o:Oper) (al:Al):Al:=match o.dst with|some d=>ko d al|none=>al
def ayN (l:List Oper):Nat:=lR Nat 0 (λo _ ih=>match o.dst with|some d=>Nat.lor (Nat.shiftLeft 1 d) ih|none=>ih) l
def writes (x:Operand) (l:List Oper):Bool:=match x with| .tmp t=>kept (ayN l) t|_=>false
def mC (P:Program) (an nt:Nat) (all rest:List Oper):Al->Option (List CI):=
 lR (Al->Option (List CI)) (λ_=>some [])
  (λo tl ih al=>match LN o with
   |some (d,x)=>aD (aD (kept an d) true (aD (Nat.ble nt d) true (aD (Bw d (mV al x)) true (writes (mV al x) tl)))) (ob (Wq P an nt al all o) λc=>ob (ih (sZ o al)) λr=>some (c::r)) (ih ((d,mV al x)::ko d al))
   |none=>ob (Wq P an nt al all o) λc=>ob (ih (sZ o al)) λr=>some (c::r)) rest
def vh (f:Value->Value->Bool) (a:LVal):LVal->Bool:=
 lR (LVal->Bool) (λb=>match b with| []=>true|_=>false) (λx _ ih b=>match b with|y::b=>aD (f x y) (ih b) false| []=>false) a
def nZ (a b:Addr):Bool:=match a.spot,b.spot with|none,none=>aD (Nat.beq a.block b.block) (Nat.beq a.off b.off) false|_,_=>false
def uI (a b:Option Addr):Bool:=match a,b with|none,none=>true|some a,some b=>nZ a b|_,_=>false
def B8 (a b:Option Nat):Bool:=match a,b with|none,none=>true|some a,some b=>Nat.beq a b|_,_=>false
def xQ (a b:Fn):Bool:=match a,b with| .func f,.func g=>Nat.beq f g| .yield f,.yield g=>Nat.beq f g|_,_=>false
def qQ (n:Nat):Value->Value->Bool:=
 nR (Value->Value->Bool) (λ_ _=>false) (λ_ ih x y=>match x,y with
  | .bool a,.bool b=>aD a b (lF b)
  | .int k a,.int k' b=>aD (tz k k') (FY a b) false
  | .string a,.string b=>NY a.data.toList b.data.toList
  | .pointer a,.pointer b=>uI a b
  | .slice a n c,.slice b m d=>aD (uI a b) (aD (Nat.beq n m) (Nat.beq c d) false) false
  | .map a,.map b=>B8 a b
  | .func f a b,.func g c d=>aD (xQ f g) (aD (vh ih a.toList c.toList) (vh ih b.toList d.toList) false) false
  | .nilFunc,.nilFunc=>true
  | .nilIface,.nilIface=>true
  | .iface t a,.iface u b=>aD (Nat.beq t u) (ih a b) false
  | .agg a,.agg b=>vh ih a.toList b.toList
  | .tuple a,.tuple b=>vh ih a.toList b.toList
  |_,_=>false) n
def EH (v:Value) (o:bQ):Bool:=oR Bool false (λu=>qQ 12 v u) o
abbrev BI:=Nat×(AS->Bool)
def mc (k:Nat) (s:AS) (l:List BI):Bool:=lR Bool true (λc _ ih=>aD (Nat.ble k c.1) (aD (c.2 s) ih false) ih) l
inductive DR where
 |pa (c:CI)
 |rd (f:VF) (d:DI) (hi:Nat)
 |gr (g:iD) (want:Bool) (f:VF) (d:DI) (hi:Nat)
abbrev KC:=List BI->K
def rdStep (f:VF) (d:DI) (hi:Nat) (k:KC) (cs:List BI) (lo:Lo) (tm:T Value) (s:AS):Out:=
 oR Out .no (λv=>m9 d v (k ((hi,λs'=>EH v (f lo tm s'))::cs)) lo tm s) (f lo tm s)
def Oh (ev:Ev) (x:DR) (k:KC) (cs:List BI):K:=
 DR.rec (motive:= λ_=>K) (λc lo tm s=>lP ev c (k cs) lo tm s) (λf d hi lo tm s=>rdStep f d hi k cs lo tm s)
  (λg want f d hi lo tm s=>ifO (pJ want (g lo tm)) (rdStep f d hi k cs lo tm s) (m9 d (.tuple #[]) (k cs) lo tm s)) x
def tE (ev:Ev) (l:List DR) (k:KC):KC:=
 lR KC k (λx _ ih cs lo tm s=>Oh ev x ih cs lo tm s) l
structure zY where
 pre:List DR
 w:CI
def rI (n:Nat) (k:KC):KC:= λcs lo tm s=>aD (mc n s cs) (k cs lo tm s) .no
def j4 (ev:Ev) (l:List zY) (last:List DR) (k:K):Nat->KC:=
 lR (Nat->KC) (λn=>tE ev last (rI n λ_=>k))
  (λst _ ih n=>tE ev st.pre (rI n λcs=>lP ev st.w (ih (Nat.succ n) cs))) l
def tF (ms:List Nat) (es:List Edge):Nat:=
 lR Nat 0 (λe _ ih=>aD (Region.binds .any e) (Nat.lor (Nat.lor (Nat.shiftLeft 1 e.on) (ms.getD e.on 0)) ih) ih) es
def JW (l:List Oper):List Nat->Option (List Nat):=
 lR (List Nat->Option (List Nat)) (λms=>some ms) (λo _ ih ms=>cG (tF ms o.after.toList) λm=>ob (Ae ms [m]) ih) l
def eF (m i:Nat):Bool:=Nat.beq (Nat.land (Nat.shiftRight m i) 1) 1
def Di (r:Rd):Bool:=match r with| .w _=>true| .c _ _=>true|_=>false
structure gw where
 i:Nat
 m:Nat
 o:Oper
 r:Rd
def Zu (P:Program) (an:Nat) (l:List Oper):Nat->List Nat->Option (List gw):=
 lR (Nat->List Nat->Option (List gw)) (λ_ _=>some [])
  (λo _ ih i ms=>match ms with
   |m::ms=>aD (Nat.blt m (Nat.pow 2 i)) (ob (IQ P an [] o.op) λr=>cG i λi=>ob (ih (Nat.succ i) ms) λl=>some (⟨i,m,o,r⟩::l)) none
   | []=>none) l
def gm (l:List gw):List gw:=lR (List gw) [] (λx _ ih=>aD (Di x.r) (x::ih) ih) l
def y9 (l:List gw):Option Nat->Bool:=
 lR (Option Nat->Bool) (λ_=>true) (λx _ ih p=>match p with|none=>ih (some x.i)|some p=>aD (eF x.m p) (ih (some x.i)) false) l
def level (m:Nat) (ws:List gw):Nat:=lR Nat 0 (λx _ ih=>aD (eF m x.i) (Nat.succ ih) ih) ws
def lj (i:Nat) (ws:List gw):Nat:=lR Nat 0 (λx _ ih=>aD (eF x.m i) ih (Nat.succ ih)) ws
def qk (all:List Oper) (o:Oper):List Nat:=
 app (o.op.operands.toList.filterMap λx=>match x with| .tmp t=>some t|_=>none)
  (match o.guard with|some (j,_)=>(match all[j]? with|some g=>g.dst.toList|none=> [])|none=> [])
def Wr {α:Type} (f:α->Bool) (l:List α):Bool:=lR Bool true (λx _ ih=>aD (f x) ih false) l
def xR {α:Type} (d:Nat):T α:=nR (T α) .e (λ_ ih=> .n none ih ih) d
def Zv (l:List gw):Option (T gw):=
 lR (Option (T gw)) (some (xR 12)) (λx _ ih=>match x.o.dst with
  |none=>ih
  |some d=>ob ih λt=>oR (Option (T gw)) (T.put (some x) t d) (λ_=>none) (T.get t d)) l
def Ul (x y:gw):Bool:=aD (Nat.beq x.i y.i) false (aD (Nat.blt y.i x.i) (eF x.m y.i) (eF y.m x.i))
def BP (all:List Oper) (l:List gw):Bool:=
 oR Bool false (λt=>Wr (λx=>Wr (λu=>oR Bool true (λy=>Ul x y) (T.get t u)) (qk all x.o)) l) (Zv l)
def anH (an nt:Nat) (all:List Oper) (ws:List gw) (x:gw):Option DR:=
 ob (Bv an nt x.o.dst) λd=>match x.r with
 | .r f=>(match x.o.guard with
  |none=>cG (lj x.i ws) λh=>some (.rd f d h)
  |some (j,want)=>ob (uH an [] all j) λg=>cG (lj x.i ws) λh=>some (.gr g want f d h))
 |r=>ob (lW an [] all x.o d (EG r d)) λc=>some (.pa c)
def mE (an nt:Nat) (all:List Oper) (ws:List gw) (n:Nat) (l:List gw):Option (List DR):=
 lR (Option (List DR)) (some [])
  (λx _ ih=>aD (Di x.r) ih (aD (Nat.beq (level x.m ws) n) (ob (anH an nt all ws x) λd=>ob ih λr=>some (d::r)) ih)) l
def GG (an nt:Nat) (all:List Oper) (ws l:List gw) (todo:List gw):Nat->Option (List zY):=
 lR (Nat->Option (List zY)) (λ_=>some [])
  (λw _ ih n=>ob (mE an nt all ws n l) λpre=>ob (Bv an nt w.o.dst) λd=>ob (lW an [] all w.o d (EG w.r d)) λc=>cG (Nat.succ n) λn=>ob (ih n) λr=>some (⟨pre,c⟩::r)) todo
def R8 {β:Type} (P:Program) (an nt:Nat) (all:List Oper) (k:List zY->List DR->Option β):Option β:=
 ob (JW all []) λms=>ob (Zu P an all 0 ms) λl=>
  aD (y9 (gm l) none) (aD (BP all l)
   (ob (GG an nt all (gm l) l (gm l) 0) λst=>ob (mE an nt all (gm l) (len (gm l)) l) λlast=>k st last) none) none
inductive Ext where
 |same|cmp|makeNoZero (et:TypeId)|kP
inductive Sum where
 |copy (kt:TypeId)
 |sorted (g:Nat) (et kt:TypeId)
 |alt (a b:Sum)
structure QJ where
 ext:List (Nat×Ext)
 sum:List (Nat×Sum)
 an:T Nat
def Df (X:QJ) (fn:Nat):Nat:=match X.an.get fn with|some n=>n|none=>0
abbrev CF:=Ev->T Value->AS->Out
abbrev KO:=T Value->AS->Out
def tG (k:KO) (o:Out):Out:=
 Out.rec (motive:= λ_=>Out) .no (λx tm s=>cZ.rec (motive:= λ_=>Out) (k tm s) (λi=> .code (.exit i) tm s) (λl=> .code (.goto l) tm s) (.code .ret tm s) x) (λ_ _=> .no) o
def aQ (x:cZ):CF:= λ_ tm s=> .code x tm s
def tY:K:= λ_ tm s=> .code .normal tm s
def aa (l:List CI):CF:= λev tm s=>nV ev l tY .nil tm s
def fCI {β:Type} (c:CI) (cont:(Ev->K->K)->Option β):Option β:=
 CI.rec (motive:= λ_=>Option β)
  (λf d=>DI.rec (motive:= λ_=>Option β) (cont λ_ k lo tm s=>oR Out .no (λ_=>k lo tm s) (f lo tm s))
   (λt=>cont λ_ k lo tm s=>oR Out .no (λv=>k (.cons t v lo) tm s) (f lo tm s))
   (λt=>cont λ_ k lo tm s=>oR Out .no (λv=>oR Out .no (λtm'=>k lo tm' s) (T.put (some v) tm t)) (f lo tm s)) d)
  (λf d=>DI.rec (motive:= λ_=>Option β) (cont λ_ k lo tm s=>oR Out .no (λp=>k lo tm p.2) (f lo tm s))
   (λt=>cont λ_ k lo tm s=>oR Out .no (λp=>k (.cons t p.1 lo) tm p.2) (f lo tm s))
   (λt=>cont λ_ k lo tm s=>oR Out .no (λp=>oR Out .no (λtm'=>k lo tm' p.2) (T.put (some p.1) tm t)) (f lo tm s)) d)
  (λf atz d=>cont λev k lo tm s=>lP ev (.c f atz d) k lo tm s)
  (λg want d c _=>cont λev k lo tm s=>lP ev (.gd g want d c) k lo tm s) c
def Mb (l:List CI):Option (Ev->K->K):=
 lR (Option (Ev->K->K)) (some λ_ k=>k) (λc _ ih=>ob ih λR=>fCI c λF=>some λev k lo tm s=>F ev (R ev k) lo tm s) l
def Um (l:List CI):Option CF:=ob (Mb l) λR=>some λev tm s=>R ev tY .nil tm s
def fe (st:List zY) (last:List DR):CF:= λev tm s=>j4 ev st last tY 0 [] .nil tm s
def ah (a b:CF):CF:= λev tm s=>tG (b ev) (a ev tm s)
def Vz (v:bQ) (a b:Out):Out:=match v with|some (.bool x)=>aD x a b|_=> .no
def Un (v:bQ) (a b:Out):Out:=oR Out .no (λv=>VB.rec (motive:= λ_=>Out) .no (λx=>aD x a b) (toB v)) v
def bw (c:iD) (a b:CF):CF:= λev tm s=>Un (c .nil tm) (a ev tm s) (b ev tm s)
def pR (id:Nat) (o:Out):Out:=
 Out.rec (motive:= λ_=>Out) .no (λx tm s=>cZ.rec (motive:= λ_=>Out) (.code .normal tm s) (λi=>aD (Nat.beq i id) (.code .normal tm s) (.code (.exit i) tm s)) (λl=> .code (.goto l) tm s) (.code .ret tm s) x) (λ_ _=> .no) o
def bP (id:Nat) (a:CF):CF:= λev tm s=>pR id (a ev tm s)
def OM (o:Out):Out:=
 Out.rec (motive:= λ_=>Out) .no (λx tm s=>cZ.rec (motive:= λ_=>Out) (.code .normal tm s) (λi=> .code (.exit i) tm s) (λ_=> .no) (.code .ret tm s) x) (λ_ _=> .no) o
def R9 (a:CF):CF:= λev tm s=>OM (a ev tm s)
def Oi (a:KO) (n:Nat):KO:=nR KO (λ_ _=> .no) (λ_ ih tm s=>tG ih (a tm s)) n
def fM (a:CF):CF:= λev tm s=>Oi (a ev) 1000000 tm s
def oP (b:Option eX) (k:Option Nat->Nat->Out):Out:=
 match b with|some (.mapIter r ck)=>k r ck|_=> .no
def tH (s:AS) (r:Option Nat) (ck:Nat):Option (List (Value×Value×Nat)):=
 match r with
 |none=>some []
 |some r=>mapOf (s.h.get r) λ_ es mT=>aD (Nat.beq ck mT) (some es) none
def Ep (ws:List Nat):T Value->Option (T Value):=lR (T Value->Option (T Value)) (λt=>some t) (λw _ ih t=>ob (T.put none t w) ih) ws
def Ag (a:T Value):T Value->Bool:=
 T.rec (motive:= λ_=>T Value->Bool) (λ_=>true)
  (λv l r sS WZ b=>match b with
   | .e=>match v with|none=>aD (sS .e) (WZ .e) false|some _=>false
   | .n v' l' r'=>aD (match v with|none=>true|some v=>EH v v') (aD (sS l') (WZ r') false) false) a
structure wO where
 b0:Nat
 b1:Nat
 it:iD
 t9:Nat
 c:CF
 l2:List CI
 d2:Nat
 ws:List Nat
def jY (m:wO) (ev:Ev) (e:Value×Value) (tm:T Value) (s:AS):Out:=
 oR Out .no (λeP=>pR m.b1 (tG (m.c ev) (nV ev m.l2 tY (.cons m.d2 (.tuple #[e.1,e.2]) .nil) eP s))) (T.put (some (.bool true)) tm m.t9)
def Mc (m:wO) (tm:T Value) (s:AS):Out:=oR Out .no (λeP=> .code (.exit m.b0) eP s) (T.put (some (.bool false)) tm m.t9)
def xZ (rT:T Value) (o:Out):Bool:=match o with| .code .normal tm _=>Ag rT tm|_=>false
def fO (m:wO) (ev:Ev) (tm:T Value) (s:AS) (es:List (Value×Value×Nat)):Option Out->Option (Option Out):=
 lR (Option Out->Option (Option Out)) (λfound=>some found)
  (λe _ ih found=>
   match jY m ev (e.1,e.2.1) tm s with
   | .code .normal _ _=>aD (xZ tm (jY m ev (e.1,e.2.1) tm ⟨s.h,s.nx,s.nx⟩)) (ih found) none
   | .code x eP s1=>match found with|none=>ih (some (.code x eP s1))|some _=>none
   |_=>none) es
def tI (m:wO) (rT:T Value) (s1:AS) (o:Option (Option Out)):Out:=
 match o with
 |some (some o)=>o
 |some none=>Mc m rT s1
 |none=> .no
def dj (r:Value->bQ) (l:LVal):Option LVal:=
 lR (Option LVal) (some []) (λv _ ih=>ob (r v) λv'=>ob ih λl'=>some (v'::l')) l
def dV (φ:Nat->Option Nat) (n:Nat):Value->bQ:=
 nR (Value->bQ) (λ_=>none) (λ_ ih v=>match v with
  | .bool b=>aD b (some (.bool true)) (some (.bool false))
  | .int k n=>m5 k n
  | .string s=>some (.string s)
  | .complex k a b=>some (.complex k a b)
  | .pointer none=>some (.pointer none)
  | .pointer (some ⟨b,o,none⟩)=>ob (φ b) λb'=>cG o λo'=>some (.pointer (some ⟨b',o',none⟩))
  | .slice none 0 0=>some (.slice none 0 0)
  | .slice (some ⟨b,o,none⟩) m c=>ob (φ b) λb'=>cG o λo'=>cG m λm'=>cG c λc'=>some (.slice (some ⟨b',o',none⟩) m' c')
  | .map none=>some (.map none)
  | .map (some b)=>ob (φ b) λb'=>some (.map (some b'))
  | .func (.func f) a b=>ob (dj ih a.toList) λa'=>ob (dj ih b.toList) λb'=>some (.func (.func f) ⟨a'⟩ ⟨b'⟩)
  | .nilFunc=>some .nilFunc
  | .nilIface=>some .nilIface
  | .iface t x=>ob (ih x) λx'=>some (.iface t x')
  | .agg a=>ob (dj ih a.toList) λa'=>some (.agg ⟨a'⟩)
  | .tuple a=>ob (dj ih a.toList) λa'=>some (.tuple ⟨a'⟩)
  |_=>none) n
def fA (l:List Nat):Bool:=lR Bool true (λx t ih=>aD (lR Bool false (λy _ i=>aD (Nat.beq x y) true i) t) false ih) l
def zZ (n:Nat) (l:List Nat):Bool:=lR Bool true (λx _ ih=>aD (Nat.blt x n) ih false) l
def Er (n:Nat) (l:List Nat):Bool:=lR Bool true (λx _ ih=>aD (Nat.ble n x) ih false) l
def GM (m:wO):CF:= λev tm s=>
 oR Out .no (λrT=>match m.it .nil rT with
  |some (.pointer (some ⟨ib,0,none⟩))=>oP (s.h.get ib) λr ck=>oR Out .no (λes=>oR Out .no (λs1=>tI m rT s1 (fO m ev rT s1 es none)) (s.set ib none)) (tH s r ck)
  |_=> .no) (Ep m.ws tm)
def VC (c:Code):List Nat:=
 Code.rec (motive:= λ_=>List Nat) [] (λ_ ops _=>ops.toList.filterMap λo=>o.dst) (λ_ _ a b=>app a b) (λ_ _ _ a b=>app a b) (λ_ _ a=>a) (λ_ a=>a) (λ_ _ _ _ _ _=> []) (λ_=> []) (λ_ a=>a) (λ_=> []) (λ_=> []) [] (λ_=> []) c
def abz (an:Nat) (l:List Nat):List Nat:=l.filter λt=>kept an t
def vK (c:Code) (tm:T Value) (s:AS):Out:=
 match c with
 | .ret=> .code .ret tm s
 | .exit id=> .code (.exit id) tm s
 |_=> .no
def oG (b:Option eX) (k:LoopState->Option Code->Nat->Nat->Nat->T Value->List Tmp->Code->Code->Out):Out:=
 oR Out .no (λb=>eX.rec (motive:= λ_=>Out) (λ_ _ _ _ _=> .no) (λ_ _ _=> .no) (λ_ _=> .no) (λ_ _=> .no) k b) b
def ik (s:AS) (i:Nat) (b:eX) (k:AS->Out):Out:=oR Out .no k (s.set i (some b))
def oQ (l:Nat) (tm:T Value) (o:Out):Out:=
 Out.rec (motive:= λ_=>Out) .no (λ_ _ _=> .no) (λ_ s2=>oG (s2.h.get l) λst pend fn' nt' kp' tm' QK as' bd'=>
  match st with
  | .busy=> .no
  |_=>ik s2 l (.loop .exhausted pend fn' nt' kp' tm' QK as' bd') λs3=>match pend with
   |none=> .code .normal tm s3
   |some c=>vK c tm s3) o
def mO (P:Program) (v:Value):Bool:=
 match v with
 | .func (.func f) _ _=>(match P.funcs[f]? with|some fn=>(match fn.body with|some _=>true|none=>false)|none=>false)
 |_=>false
def lJ (P:Program) (fn nt an:Nat) (f:iD) (ps:List Tmp) (assign body:Code):CF:= λev tm s=>
 oR Out .no (λfv=>aD (mO P fv) (oR Out .no
  (λs1=>oQ s.nx tm (ev fv [.func (.yield s.nx) #[] #[]] s1)) (s.new (.loop .ready none fn nt an tm ps assign body))) .no) (f .nil tm)
structure LO where
 it:Nat
 t9:Nat
 b0:Nat
 b1:Nat
 d1:Nat
 d2:Nat
 r2:List Oper
 t2:List Oper
 body:Code
def abA (l:List Oper):Option (Nat×Nat×Nat):=
 match l with
 | [o,p]=>(match o.guard,o.dst,o.op,p.guard,p.dst,p.op with|none,some d,.next (.tmp it) false,none,some t9,.extract (.tmp d') 0=>aD (Nat.beq d d') (some (d,it,t9)) none|_,_,_,_,_,_=>none)
 |_=>none
def VD (l:List Oper):Option (Nat×Nat×List Oper):=
 match l with
 |o::t=>(match o.guard,o.dst,o.op with|none,some d,.entry (.tmp it)=>some (d,it,t)|_,_,_=>none)
 | []=>none
def ya (c:Code):Option LO:=
 match c with
 | .seq (.region _ r1 false) (.seq (.cond (.tmp t) .skip (.exit b0)) (.block b1 (.seq (.region _ r2 false) body)))=>
   (match abA r1.toList,VD r2.toList with
   |some (d1,it,t9),some (d2,it',t2)=>aD (Nat.beq it it') (aD (Nat.beq t t9) (some ⟨it,t9,b0,b1,d1,d2,r2.toList,t2,body⟩) none) none
   |_,_=>none)
 |_=>none
def zi (P:Program) (nt an:Nat) (k:Code->Option CF) (ws:List Nat) (m:LO):Option CF:=
 aD (aD (kept an m.d1) true (kept an m.d2)) none (aD (aD (Nat.blt m.d1 nt) (aD (Nat.blt m.d2 nt) (aD (Nat.blt m.t9 nt) (aD (kept an m.t9) (aD (kept an m.it) (lF (Nat.beq m.it m.t9)) false) false) false) false) false)
  (ob (mC P an nt m.r2 m.t2 []) λl2=>ob (k m.body) λc=>some (GM ⟨m.b0,m.b1,aK m.it,m.t9,c,l2,m.d2,abz an ws⟩)) none)
def anI (o:Option CF):Option CF:=match o with|some f=>some f|none=>some (λ_ _ _=> .no)
def pE (P:Program) (fn nt an:Nat) (n:Nat):Code->Option CF:=
 nR (Code->Option CF) (λ_=>none) (λ_ k c=>
  Code.rec (motive:= λ_=>Option CF)
   (some (aQ .normal)) (λ_ ops draw=>anI (aD draw (R8 P an nt ops.toList λst last=>some (fe st last)) (ob (mC P an nt ops.toList ops.toList []) Um)))
   (λa b _ _=>ob (k a) λa=>ob (k b) λb=>some (ah a b))
   (λc a b _ _=>ob (jn an [] c) λc=>ob (k a) λa=>ob (k b) λb=>some (bw c a b))
   (λid a _=>ob (k a) λa=>some (bP id a))
   (λa _=>match ya a with
    |some m=>zi P nt an k (VC a) m
    |none=>ob (k a) λa=>some (fM a))
   (λf ps atz bd _ _=>ob (jn an [] f) λf=>aD (Wr (λp=>Nat.blt p nt) ps.toList) (some (lJ P fn nt an f ps.toList atz bd)) none)
   (λid=>some (aQ (.exit id))) (λa _=>ob (k a) λa=>some (R9 a)) (λ_=>some (aQ .normal)) (λl=>some (aQ (.goto l))) (some (aQ .ret)) (λ_=>some (λ_ _ _=> .no)) c) n
def il (P:Program) (fn nt an:Nat) (c:Code):Option CF:=pE P fn nt an 1000 c
def B9 (c:Nat) (l:List UInt8):Nat->Int:=lR (Nat->Int) (λ_=> .negSucc 0) (λb _ ih i=>aD (Nat.beq b.toNat c) (.ofNat i) (ih (Nat.succ i))) l
def lM (o:Option (Value×AS)):Out:=oR Out .no (λp=> .val p.1 p.2) o
def IS (s:AS) (e:Ext) (l:LVal):Option (Value×AS):=
 match e,l with
 | .same,[x]=>some (x,s)
 | .cmp,[.string a,.string b]=>some (.int .i64 (aD (IP a.data.toList b.data.toList) (.negSucc 0) (aD (NY a.data.toList b.data.toList) (.ofNat 0) (.ofNat 1))),s)
 | .makeNoZero et,[.int .i64 (.ofNat n)]=>aD (Nat.ble n 1000000) (ob (tW [.complex .f32 0 0] n) λels=>jk s et 1 els n) none
 | .kP,[.string a,.int .u8 c]=>ob (um c) λc=>aD (Nat.blt c 256) (ob (m5 .i64 (B9 c a.data.toList 0)) λv=>some (v,s)) none
 |_,_=>none
def AE (es:List (Value×Value×Nat)):List (Value×Value×Nat)->Option (List (Value×Value×Nat)):=
 lR (List (Value×Value×Nat)->Option (List (Value×Value×Nat))) (λd=>some d) (λe _ ih d=>ob (qW e.1 e.2.1 0 d) ih) es
def Zw (x:Int) (l:List Int):List Int:=lR (List Int) [x] (λy l ih=>aD (Fl y x) (y::ih) (x::y::l)) l
def xJ (l:List Int):List Int:=lR (List Int) [] (λx _ ih=>Zw x ih) l
def okI (n:Int):Bool:=Int.rec (motive:= λ_=>Bool) (λm=>Nat.blt m 9223372036854775808) (λm=>Nat.blt m 9223372036854775808) n
def Bx (es:List (Value×Value×Nat)):Option (List Int):=
 lR (Option (List Int)) (some []) (λe _ ih=>match e.1 with| .int k n=>aD (aD (tz k .i64) (okI n) false) (ob ih λl=>some (n::l)) none|_=>none) es
def vz (l:List Int):List LVal:=lR (List LVal) [] (λn _ ih=> [.int .i64 n]::ih) l
def pF (s:AS) (et:TypeId) (es:List (Value×Value×Nat)):Option (Value×AS):=
 match es with
 | []=>some (.slice none 0 0,s)
 |e::es=>aD (Nat.ble (len (e::es)) 1000000) (ob (Bx (e::es)) λl=>jk s et 1 (vz (xJ l)) (len (e::es))) none
def uq (s:AS) (e:Sum) (l:LVal):Option (Value×AS):=
 match e,l with
 | .copy _,[.map (some _),.map none]=>some (.tuple #[],s)
 | .copy Y6,[.map (some d),.map (some r)]=>aD (Nat.beq d r) none (mapOf (s.h.get r) λkt es _=>aD (Nat.beq kt Y6) (mapOf (s.h.get d) λkt ig ck=>aD (Nat.beq kt Y6) (ob (AE es ig) λrU=>cG (Nat.add ck (Nat.sub (len rU) (len ig))) λmT=>ob (s.set d (some (.map kt rU mT))) λs'=>some (.tuple #[],s')) none) none)
 | .sorted g et kt,[.func (.func f) a b]=>aD (Nat.beq f g) (match a.toList,b.toList with
   | [],[.pointer (some ⟨p,0,none⟩)]=>ob (kJ s p 0 1) λv=>(match v with
    | [.map none]=>some (.slice none 0 0,s)
    | [.map (some r)]=>mapOf (s.h.get r) λY6 es _=>aD (Nat.beq Y6 kt) (pF s et es) none
    |_=>none)
   |_,_=>none) none
 |_,_=>none
def orO (a b:Option (Value×AS)):Option (Value×AS):=oR (Option (Value×AS)) b (λp=>some p) a
def NC (s:AS) (e:Sum) (l:LVal):Option (Value×AS):=Sum.rec (motive:= λ_=>Option (Value×AS)) (λk=>uq s (.copy k) l) (λg t k=>uq s (.sorted g t k) l) (λa _ _ ih=>orO (uq s a l) ih) e
def qN (f:Nat) (l:List (Nat×Sum)):Option Sum:=lR (Option Sum) none (λp _ ih=>aD (Nat.beq f p.1) (some p.2) ih) l
def BQ (f:Nat) (l:List (Nat×Ext)):Option Ext:=lR (Option Ext) none (λp _ ih=>aD (Nat.beq f p.1) (some p.2) ih) l
def vL (an i:Nat) (v:Value) (t:T Value):Option (T Value):=aD (kept an i) (T.put (some v) t i) (some t)
def pG (an:Nat) (l:LVal):Nat->T Value->Option (T Value):=
 lR (Nat->T Value->Option (T Value)) (λ_ t=>some t) (λv _ ih i t=>ob (vL an i v t) λt'=>ih (Nat.succ i) t') l
def Md (P:Program) (s:AS) (tm:T Value) (r:ResultVar):bQ:=
 match r with
 | .tmp t=>tm.get t
 | .cell a t=>ob (tm.get a) λa=>xG P t s a
def yb (P:Program) (s:AS) (tm:T Value) (l:List ResultVar):Option LVal:=
 lR (Option LVal) (some []) (λr _ ih=>ob (Md P s tm r) λv=>ob ih λl=>some (v::l)) l
def nu (an:Nat) (ps:List Tmp):LVal->T Value->Option (T Value):=
 lR (LVal->T Value->Option (T Value)) (λl t=>match l with| []=>some t|_=>none) (λp _ ih l t=>match l with|v::l=>ob (vL an p v t) λt'=>ih l t'| []=>none) ps
def xS (P:Program) (rs:List ResultVar) (tm:T Value) (s:AS):Out:=
 oR Out .no (λvs=>match vs with
  | [v]=> .val v s
  |vs=> .val (.tuple ⟨vs⟩) s) (yb P s tm rs)
def uS (P:Program) (rs:List ResultVar) (o:Out):Out:=
 Out.rec (motive:= λ_=>Out) .no (λx tm s=>cZ.rec (motive:= λ_=>Out) (xS P rs tm s) (λ_=> .no) (λ_=> .no) (xS P rs tm s) x) (λ_ _=> .no) o
abbrev FF:=Ev->LVal->AS->Out
def fFn (P:Program) (an:Nat) (t0:T Value) (rs:List ResultVar) (b:CF):FF:= λev args s=>oR Out .no (λtm=>uS P rs (b ev tm s)) (pG an args 0 t0)
def lQ (d:Nat):T eX:=nR (T eX) .e (λ_ ih=> .n none ih ih) d
def Gr (e:Sum):FF:=Sum.rec (motive:= λ_=>FF) (λk _ args s=>lM (NC s (.copy k) args)) (λg t k _ args s=>lM (NC s (.sorted g t k) args)) (λa b _ _ _ args s=>lM (NC s (.alt a b) args)) e
def iN (P:Program) (X:QJ) (f:Nat):Option FF:=
 match qN f X.sum with
 |some e=>some (Gr e)
 |none=>match P.funcs[f]? with
  |some fn=>match fn.body with
   |some body=>ob (IN fn.ntmps) λt0=>ob (il P f fn.ntmps (Df X f) body) λb=>some (fFn P (Df X f) t0 fn.results.toList b)
   |none=>ob (BQ f X.ext) λe=>some (λ_ args s=>lM (IS s e args))
  |none=>none
def endRound (l:Nat) (o:Out):Out:=
 Out.rec (motive:= λ_=>Out) .no (λx _ s4=>oG (s4.h.get l) λ_ _ fn nt kp tm ps assign body=>match x with
   | .normal=>ik s4 l (.loop .ready none fn nt kp tm ps assign body) λs5=> .val (.bool true) s5
   | .ret=>ik s4 l (.loop .done (some .ret) fn nt kp tm ps assign body) λs5=> .val (.bool false) s5
   | .exit id=>ik s4 l (.loop .done (some (.exit id)) fn nt kp tm ps assign body) λs5=> .val (.bool false) s5
   | .goto _=> .no) (λ_ _=> .no) o
def lI (ev:Ev) (o:Option CF) (tm:T Value) (s:AS):Out:=oR Out .no (λF=>F ev tm s) o
def beginRound (ev:Ev) (l:Nat) (b:Option CF) (o:Out):Out:=
 Out.rec (motive:= λ_=>Out) .no (λx Fm s2=>match x with
  | .normal=>oG (s2.h.get l) λst pend fn nt kp tm ps assign body=>match st with
   | .ready=>ik s2 l (.loop .busy pend fn nt kp tm ps assign body) λs3=>endRound l (lI ev b Fm s3)
   |_=> .no
  |_=> .no) (λ_ _=> .no) o
def zj (P:Program) (ev:Ev) (l:Nat) (args:LVal) (s:AS):Out:=
 oG (s.h.get l) λst _ fn nt kp tm ps assign body=>match st with
  | .ready=>oR Out .no (λeP=>beginRound ev l (il P fn nt kp body) (lI ev (il P fn nt kp assign) eP s)) (nu kp ps args tm)
  |_=> .no
def step (P:Program) (mf:Nat->Option FF) (ev:Ev) (f:Value) (args:LVal) (s:AS):Out:=
 match f with
 | .func (.func f) first cap=>oR Out .no (λF=>F ev (app first.toList (app args cap.toList)) s) (mf f)
 | .func (.yield l) first _=>zj P ev l (app first.toList args) s
 |_=> .no
def Uo (P:Program) (mf:Nat->Option FF) (n:Nat):Ev:=
 nR Ev (λ_ _ _=> .no) (λ_ ih=>step P mf ih) n
def eval (P:Program) (X:QJ) (n:Nat):Ev:=Uo P (iN P X) n
section
variable {α:Type}
theorem T.ur (k:Nat):(T.e:T α).get k=none:=rfl
theorem T.nW (v:Option α) (l r:T α):(T.n v l r).get 0=v:=rfl
def T.gX (v:Option α) (l r:T α) (m:Nat):(T.n v l r).get (2*m+1)=l.get m:=by
 show Bool.rec (motive:= λ_=>Option α) (r.get (Nat.div (2*m) 2)) (l.get (Nat.div (2*m) 2)) (Nat.beq (Nat.mod (2*m) 2) 0)=_;have h1:Nat.mod (2*m) 2=0:=by show(2*m)%2=0;omega
 have h2:Nat.div (2*m) 2=m:=by show(2*m)/2=m;omega
 rw[h1,h2];rfl
def T.fQ (v:Option α) (l r:T α) (m:Nat):(T.n v l r).get (2*m+2)=r.get m:=by
 show Bool.rec (motive:= λ_=>Option α) (r.get (Nat.div (2*m+1) 2)) (l.get (Nat.div (2*m+1) 2)) (Nat.beq (Nat.mod (2*m+1) 2) 0)=_;have h1:Nat.mod (2*m+1) 2=1:=by show(2*m+1)%2=1;omega
 have h2:Nat.div (2*m+1) 2=m:=by show(2*m+1)/2=m;omega
 rw[h1,h2];rfl
def dN (k:Nat):k=0∨(∃m,k=2*m+1)∨∃m,k=2*m+2:=by
 rcases zT k with h|h
 ·exact .inl h
 ·rcases Nat.mod_two_eq_zero_or_one k with h2|h2
  ·exact .inr (.inr ⟨k/2-1,by omega⟩)
  ·exact .inr (.inl ⟨k/2,by omega⟩)
def T.Up (x:Option α) (k:Nat):T.put x .e k=if k=0 then some (.n x .e .e)else none:=by cases k<;>rfl
theorem T.Sa (x v:Option α) (l r:T α):T.put x (.n v l r) 0=some (.n x l r):=rfl
def T.ta (x v:Option α) (l r:T α) (m:Nat):T.put x (.n v l r) (2*m+1)=(T.put x l m).map λl'=> .n v l' r:=by
 show Bool.rec (motive:= λ_=>Option (T α)) (Option.rec none (λr'=>some (T.n v l r')) (T.put x r (Nat.div (2*m) 2))) (Option.rec none (λl'=>some (T.n v l' r)) (T.put x l (Nat.div (2*m) 2))) (Nat.beq (Nat.mod (2*m) 2) 0)=_;have h1:Nat.mod (2*m) 2=0:=by show(2*m)%2=0;omega
 have h2:Nat.div (2*m) 2=m:=by show(2*m)/2=m;omega
 rw[h1,h2];cases T.put x l m<;>rfl
def T.pS (x v:Option α) (l r:T α) (m:Nat):T.put x (.n v l r) (2*m+2)=(T.put x r m).map λr'=> .n v l r':=by
 show Bool.rec (motive:= λ_=>Option (T α)) (Option.rec none (λr'=>some (T.n v l r')) (T.put x r (Nat.div (2*m+1) 2))) (Option.rec none (λl'=>some (T.n v l' r)) (T.put x l (Nat.div (2*m+1) 2))) (Nat.beq (Nat.mod (2*m+1) 2) 0)=_;have h1:Nat.mod (2*m+1) 2=1:=by show(2*m+1)%2=1;omega
 have h2:Nat.div (2*m+1) 2=m:=by show(2*m+1)/2=m;omega
 rw[h1,h2];cases T.put x r m<;>rfl
def T.jw (x:Option α) (t:T α):∀(k:Nat) (t':T α),T.put x t k=some t'->∀j,t'.get j=if j=k then x else t.get j:=by
 induction t with
 |e=>
  intro k t' h j;rw[T.Up]at h;split at h
  ·cases h
   subst_vars
   rcases dN j with rfl|⟨m,rfl⟩|⟨m,rfl⟩
   ·rfl
   ·rw[T.gX,aC (by omega)];rfl
   ·rw[T.fQ,aC (by omega)];rfl
  ·cases h
 |n v l r sS WZ=>
  intro k t' h j;rcases dN k with rfl|⟨m,rfl⟩|⟨m,rfl⟩
  ·rw[T.Sa]at h;cases h;rcases dN j with rfl|⟨i,rfl⟩|⟨i,rfl⟩
   ·rfl
   ·rw[T.gX,T.gX,aC (by omega)]
   ·rw[T.fQ,T.fQ,aC (by omega)]
  ·rw[T.ta]at h;cases hp:T.put x l m with
   |none=>rw[hp]at h;cases h
   |some l'=>
    rw[hp]at h;cases h;rcases dN j with rfl|⟨i,rfl⟩|⟨i,rfl⟩
    ·rw[T.nW,T.nW,aC (by omega)]
    ·rw[T.gX,T.gX,sS m l' hp i];by_cases e:i=m
     ·rw[aU e,aU (by omega)]
     ·rw[aC e,aC (by omega)]
    ·rw[T.fQ,T.fQ,aC (by omega)]
  ·rw[T.pS]at h;cases hp:T.put x r m with
   |none=>rw[hp]at h;cases h
   |some r'=>
    rw[hp]at h;cases h;rcases dN j with rfl|⟨i,rfl⟩|⟨i,rfl⟩
    ·rw[T.nW,T.nW,aC (by omega)]
    ·rw[T.gX,T.gX,aC (by omega)]
    ·rw[T.fQ,T.fQ,WZ m r' hp i];by_cases e:i=m
     ·rw[aU e,aU (by omega)]
     ·rw[aC e,aC (by omega)]
def Me:∀(n:Nat) (t:T α),IN n=some t->∀j,t.get j=none:=by
 intro n;induction n with
 |zero=>intro t h j;cases h;rfl
 |succ n ih=>
  intro t h j;have h':oR (Option (T α)) none (λt=>T.put none t n) (IN n:Option (T α))=some t:=h;cases hm:(IN n:Option (T α))with
  |none=>rw[hm]at h';cases h'
  |some u=>
   rw[hm]at h';rw[T.jw none u n t h' j];split
   ·rfl
   ·exact ih u hm j
end
def ak {α β:Type} {o:Option α} {k:α->Option β} {b:β} (h:ob o k=some b):∃a,o=some a∧k a=some b:=by
 cases o with
 |none=>cases h
 |some a=>exact⟨a,rfl,h⟩
theorem aS {β:Type} (t e:β):aD true t e=t:=rfl
theorem de {β:Type} (t e:β):aD false t e=e:=rfl
def aY {β:Type} {b:Bool} {t:Option β} {v:β} (h:aD b t none=some v):b=true∧t=some v:=by
 cases b
 ·cases h
 ·exact⟨rfl,h⟩
def lK {β:Type} {b:Bool} {t:Option β} {v:β} (h:aD b none t=some v):b=false∧t=some v:=by
 cases b
 ·exact⟨rfl,h⟩
 ·cases h
def bD {β:Type} (n:Nat) (k:Nat->Option β):cG n k=k n:=by cases n<;>rfl
def dQ {α:Type} (l:List α):len l=l.length:=by
 induction l with
 |nil=>rfl
 |cons a l ih=>show Nat.succ (len l)=_;rw[ih];rfl
def mW {α:Type} (l m:List α):app l m=l++m:=by
 induction l with
 |nil=>rfl
 |cons a l ih=>show a::app l m=_;rw[ih];rfl
def pH {α:Type} (l m:List α):Ae l m=some (l++m):=by
 induction l with
 |nil=>rfl
 |cons a l ih=>show oR (Option (List α)) none (λr=>some (a::r)) (Ae l m)=_;rw[ih];rfl
def Ca:∀(n:Nat) (l r:LVal),ov n l=some r->r=l.take n∧n<=l.length:=by
 intro n;induction n with
 |zero=>intro l r h;cases h;exact⟨rfl,gS _⟩
 |succ n ih=>
  intro l r h;cases l with
  |nil=>cases h
  |cons v l=>
   have h':oR (Option LVal) none (λr=>some (v::r)) (ov n l)=some r:=h;cases ht:ov n l with
   |none=>rw[ht]at h';cases h'
   |some q=>rw[ht]at h';cases h';obtain⟨e,hl⟩:=ih l q ht;exact⟨by rw[e];rfl,by simpa using hl⟩
def uJ:∀(n:Nat) (l r:LVal),nQ n l=some r->r=l.drop n∧n<=l.length:=by
 intro n;induction n with
 |zero=>intro l r h;cases h;exact⟨rfl,gS _⟩
 |succ n ih=>
  intro l r h;cases l with
  |nil=>cases h
  |cons v l=>obtain⟨e,hl⟩:=ih l r h;exact⟨by rw[e];rfl,by simpa using hl⟩
def ON:∀(n:Nat) (l r:List UInt8),Gm n l=some r->r=l.take n∧n<=l.length:=by
 intro n;induction n with
 |zero=>intro l r h;cases h;exact⟨rfl,gS _⟩
 |succ n ih=>
  intro l r h;cases l with
  |nil=>cases h
  |cons v l=>obtain⟨q,hq,hr⟩:=ak (show ob (Gm n l) (λr=>some (v::r))=some r from h);cases hr;obtain⟨e,hl⟩:=ih l q hq;exact⟨by rw[e];rfl,by simpa using hl⟩
def acI:∀(n:Nat) (l r:List UInt8),aku n l=some r->r=l.drop n∧n<=l.length:=by
 intro n;induction n with
 |zero=>intro l r h;cases h;exact⟨rfl,gS _⟩
 |succ n ih=>
  intro l r h;cases l with
  |nil=>cases h
  |cons v l=>obtain⟨e,hl⟩:=ih l r h;exact⟨by rw[e];rfl,by simpa using hl⟩
def acJ:∀(vs l r:LVal),Gl vs l=some r->r=vs++l.drop vs.length∧vs.length<=l.length:=by
 intro vs;induction vs with
 |nil=>intro l r h;cases h;exact⟨rfl,gS _⟩
 |cons v vs ih=>
  intro l r h;cases l with
  |nil=>cases h
  |cons a l=>
   have h':oR (Option LVal) none (λr=>some (v::r)) (Gl vs l)=some r:=h;cases ht:Gl vs l with
   |none=>rw[ht]at h';cases h'
   |some q=>rw[ht]at h';cases h';obtain⟨e,hl⟩:=ih l q ht;exact⟨by rw[e];rfl,by simpa using hl⟩
def VE (vs:LVal):∀(j:Nat) (l r:LVal),Bi vs l j=some r->
  r=l.take j++vs++l.drop (j+vs.length)∧j+vs.length<=l.length:=by
 intro j;induction j with
 |zero=>intro l r h;obtain⟨e,hl⟩:=acJ vs l r h;exact⟨by rw[e];simp,by omega⟩
 |succ j ih=>
  intro l r h;cases l with
  |nil=>cases h
  |cons a l=>
   have h':oR (Option LVal) none (λr=>some (a::r)) (Bi vs l j)=some r:=h;cases ht:Bi vs l j with
   |none=>rw[ht]at h';cases h'
   |some q=>
    rw[ht]at h';cases h';obtain⟨e,hl⟩:=ih l q ht;refine⟨?_,by simp;omega⟩;rw[e];have:j+1+vs.length=(j+vs.length)+1:=by omega
    rw[this];simp
def acK (P:Program) (t:TypeId) (s:AS) (a:Value):aM P t s a=xG P t s a:=by cases a<;>first|rfl|(rename_i a;cases a<;>rfl)
def XB (P:Program) (t:TypeId) (s:AS) (a v:Value):aby P t s a v=RY P t s a v:=by cases a<;>first|rfl|(rename_i a;cases a<;>rfl)
def Jq (P:Program) (t:TypeId) (f:Nat) (v:Value):Hm P t f v=AK P t f v:=by cases v<;>first|rfl|(rename_i a;cases a<;>rfl)
def MK (P:Program) (d:Option TypeDesc) (a:Addr) (m:Nat) (n:Int):(ob (Hn d) λe=>elemAt P a e m n)=match d with|some (.slice e)=>elemAt P a e m n|_=>none:=by
 cases d with
 |none=>rfl
 |some d=>cases d<;>rfl
def Jr (P:Program) (d:Option TypeDesc) (x i:Value):wa P d x i=rN P d x i:=by
 cases i with
 |int k n=>
  cases x with
  |slice a m c=>
   cases a with
   |none=>rfl
   |some a=>exact MK P d a m n
  |_=>rfl
 |_=>rfl
def acL (op:BinOp) (k:EK) (Ba:Bool) (ka kb:IntKind) (a b:Int):aks op ka kb a b=Wm op k Ba (.int kb b) (.int ka a):=by cases op<;>rfl
def acM (op:BinOp) (k:EK) (Ba:Bool) (y x:Value):eJ op k Ba y x=Wm op k Ba y x:=by
 cases x with
 |int ka a=>
  cases y with
  |int kb b=>exact acL op k Ba ka kb a b
  |_=>rfl
 |_=>rfl
def acN (v:bQ) (a b:Out):Un v a b=Vz v a b:=by
 cases v with
 |none=>rfl
 |some v=>cases v<;>rfl
def apq {β:Type} (c:CI) (cont:(Ev->K->K)->Option β):fCI c cont=cont λev k lo tm s=>lP ev c k lo tm s:=by
 cases c with
 |v f d=>cases d<;>rfl
 |s f d=>cases d<;>rfl
 |c f atz d=>rfl
 |gd g w d c=>rfl
def Ho:∀l:List CI,Mb l=some λev k=>nV ev l k
 | []=>rfl
 |c::l=>by show(ob (Mb l) λR=>fCI c λF=>some λev k lo tm s=>F ev (R ev k) lo tm s)=_;rw[Ho l];show(fCI c λF=>some λev k lo tm s=>F ev (nV ev l k) lo tm s)=_;rw[apq];rfl
def acO (l:List CI):Um l=some (aa l):=by unfold Um;rw[Ho];rfl
section
structure Loc where
 b:Nat
 base:Nat
 lim:Nat
 pin:Option Obj
abbrev Ren:=Nat->Option Loc
mutual
inductive bN (ρ:Ren):Value->Value->Prop where
 |bool (b:Bool):bN ρ (.bool b) (.bool b)
 |int (k:IntKind) (n:Int):bN ρ (.int k n) (.int k n)
 |string (s:ByteArray):bN ρ (.string s) (.string s)
 |junk (m n:Nat) (v:Value) (h:dZ v=true) (h':m=1->∃c:Nat,v= .int .i64 c∧n<=c):bN ρ (.complex .f32 m n) v
 |EJ (g off:Nat):bN ρ (.complex .f64 g off) (.pointer (some ⟨g,off,none⟩))
 |tJ:bN ρ (.pointer none) (.pointer none)
 |ptr {a:Nat} {x:Loc} (off:Nat) (h:ρ a=some x):bN ρ (.pointer (some ⟨a,off,none⟩)) (.pointer (some ⟨x.b,x.base+off,none⟩))
 |gi:bN ρ (.slice none 0 0) (.slice none 0 0)
 |slice {a:Nat} {x:Loc} (off n c cap:Nat) (ad:Addr) (h:ρ a=some x) (h1:n<=c/512) (h2:c/512<=cap) (h3:c%2=1->cap=c/512)
   (h4:ad=⟨x.b,x.base+off,none⟩∨cap=0) (h5:c%2=0->x.base+off+cap*(c%512/2)<=x.lim):bN ρ (.slice (some ⟨a,off,none⟩) n c) (.slice (some ad) n cap)
 |xT:bN ρ (.map none) (.map none)
 |map {a:Nat} {x:Loc} (h:ρ a=some x):bN ρ (.map (some a)) (.map (some x.b))
 |func (f:Nat) {a b a' b':Array Value} (ha:bJ ρ a.toList a'.toList) (hb:bJ ρ b.toList b'.toList):bN ρ (.func (.func f) a b) (.func (.func f) a' b')
 |yield {l:Nat} {x:Loc} {a b a' b':Array Value} (h:ρ l=some x) (ha:bJ ρ a.toList a'.toList) (hb:bJ ρ b.toList b'.toList):bN ρ (.func (.yield l) a b) (.func (.yield x.b) a' b')
 |nilFunc:bN ρ .nilFunc .nilFunc
 |nilIface:bN ρ .nilIface .nilIface
 |iface (t:TypeId) {v v':Value} (h:bN ρ v v'):bN ρ (.iface t v) (.iface t v')
 |agg {a b:Array Value} (h:bJ ρ a.toList b.toList):bN ρ (.agg a) (.agg b)
 |tuple {a b:Array Value} (h:bJ ρ a.toList b.toList):bN ρ (.tuple a) (.tuple b)
inductive bJ (ρ:Ren):LVal->LVal->Prop where
 |nil:bJ ρ [] []
 |cons {v u:Value} {l m:LVal} (h:bN ρ v u) (hs:bJ ρ l m):bJ ρ (v::l) (u::m)
end
def gq (ρ ρ':Ren):Prop:=∀a x,ρ a=some x->ρ' a=some x
def gq.refl (ρ:Ren):gq ρ ρ:= λ_ _ h=>h
def gq.trans {ρ ρ' Zx:Ren} (h:gq ρ ρ') (h':gq ρ' Zx):gq ρ Zx:= λa x e=>h' a x (h a x e)
mutual
theorem bN.mono {ρ ρ':Ren} (hr:gq ρ ρ'):∀ {v u:Value},bN ρ v u->bN ρ' v u
 |_,_,.bool b=> .bool b
 |_,_,.int k n=> .int k n
 |_,_,.string s=> .string s
 |_,_,.junk m n v h h'=> .junk m n v h h'
 |_,_,.EJ g off=> .EJ g off
 |_,_,.tJ=> .tJ
 |_,_,.ptr off h=> .ptr off (hr _ _ h)
 |_,_,.gi=> .gi
 |_,_,.slice off n c cap ad h h1 h2 h3 h4 h5=> .slice off n c cap ad (hr _ _ h) h1 h2 h3 h4 h5
 |_,_,.xT=> .xT
 |_,_,.map h=> .map (hr _ _ h)
 |_,_,.func f ha hb=> .func f (bJ.mono hr ha) (bJ.mono hr hb)
 |_,_,.yield h ha hb=> .yield (hr _ _ h) (bJ.mono hr ha) (bJ.mono hr hb)
 |_,_,.nilFunc=> .nilFunc
 |_,_,.nilIface=> .nilIface
 |_,_,.iface t h=> .iface t (bN.mono hr h)
 |_,_,.agg h=> .agg (bJ.mono hr h)
 |_,_,.tuple h=> .tuple (bJ.mono hr h)
theorem bJ.mono {ρ ρ':Ren} (hr:gq ρ ρ'):∀ {l m:LVal},bJ ρ l m->bJ ρ' l m
 |_,_,.nil=> .nil
 |_,_,.cons h hs=> .cons (bN.mono hr h) (bJ.mono hr hs)
end
section lists
variable {ρ:Ren}
def bJ.length {l m:LVal} (h:bJ ρ l m):l.length=m.length:=by
 induction l generalizing m with
 |nil=>cases h;rfl
 |cons v l ih=>cases h with|cons _ hs=>simp[ih hs]
def bJ.get {l m:LVal} (h:bJ ρ l m):∀ {i:Nat} {v:Value},l[i]? =some v->∃u,m[i]? =some u∧bN ρ v u:=by
 induction l generalizing m with
 |nil=>intro i v hv;cases hv
 |cons v l ih=>
  cases h with
  |cons h hs=>
   intro i w hw;cases i with
   |zero=>cases hw;exact⟨_,rfl,h⟩
   |succ i=>exact ih hs (by simpa using hw)
def bJ.append {l m l' m':LVal} (h:bJ ρ l m) (h':bJ ρ l' m'):bJ ρ (l++l') (m++m'):=by
 induction l generalizing m with
 |nil=>cases h;exact h'
 |cons v l ih=>cases h with|cons h hs=>exact .cons h (ih hs)
def bJ.take (n:Nat):∀ {l m:LVal},bJ ρ l m->bJ ρ (l.take n) (m.take n):=by
 induction n with
 |zero=>intro l m _;simpa using bJ.nil
 |succ n ih=>intro l m h;cases h with|nil=>simpa using bJ.nil|cons h hs=>exact .cons h (ih hs)
def bJ.drop (n:Nat):∀ {l m:LVal},bJ ρ l m->bJ ρ (l.drop n) (m.drop n):=by
 induction n with
 |zero=>intro l m h;simpa using h
 |succ n ih=>intro l m h;cases h with|nil=>simpa using bJ.nil|cons h hs=>simpa using ih hs
def bN.cells {v u:Value} (h:bN ρ v u):bJ ρ v.cells.toList u.cells.toList:=by
 cases h
 case agg h=>exact h
 case junk h h'=>
  have:u.cells= #[u]:=by cases u<;>first|rfl|cases h
  rw[this];exact .cons (.junk _ _ _ h h') .nil
 all_goals exact .cons (by constructor<;>assumption) .nil
def bN.one {v u:Value} (h:bN ρ v u) (h1:dZ v=true):dZ u=true:=by
 cases h
 case junk h _=>exact h
 case agg=>cases h1
 case tuple=>cases h1
 all_goals rfl
end lists
inductive Plain:Value->Prop where
 |bool (b):Plain (.bool b)
 |int (k n):Plain (.int k n)
 |string (s):Plain (.string s)
 |agg (a:Array Value) (h:∀v∈a.toList,Plain v):Plain (.agg a)
mutual
theorem bN.plain {ρ:Ren}:∀ {v u:Value},bN ρ v u->Plain v->u=v
 |_,_,.bool b,_=>rfl
 |_,_,.int k n,_=>rfl
 |_,_,.string s,_=>rfl
 |_,_,.agg (a:=a) (b:=b) h,hp=>by
  cases hp with
  |agg _ hp=>exact congrArg Value.agg (eh (bJ.plain h hp))
theorem bJ.plain {ρ:Ren}:∀ {l m:LVal},bJ ρ l m->(∀v∈l,Plain v)->m=l
 |_,_,.nil,_=>rfl
 |_,_,.cons h hs,hp=>by rw[bN.plain h (hp _ (by simp)),bJ.plain hs (λv hv=>hp v (by simp[hv]))]
end
inductive F2 {α β:Type} (R:α->β->Prop):List α->List β->Prop where
 |nil:F2 R [] []
 |cons {a:α} {b:β} {l:List α} {m:List β} (h:R a b) (hs:F2 R l m):F2 R (a::l) (b::m)
def F2.mono {α β:Type} {R S:α->β->Prop} (hRS:∀a b,R a b->S a b):∀ {l:List α} {m:List β},F2 R l m->F2 S l m
 |_,_,.nil=> .nil
 |_,_,.cons h hs=> .cons (hRS _ _ h) (F2.mono hRS hs)
def jo (P:Program) (ρ:Ren) (kt:TypeId) (es:List (Value×Value×Nat)) (cJ:Array MapEntry):Prop:=
 ∃l:List MapEntry,l.Perm cJ.toList∧F2 (λp e=>p.1=e.key∧eB P kt p.1=true∧Plain p.1∧bN ρ p.2.1 e.val∧(p.2.2=0∨p.2.2=e.born+1)) es l∧(es.map (·.1)).Nodup
def lS (ck:Nat) (cJ:Array MapEntry):Prop:=(cJ.toList.map (·.born)).Nodup∧∀e∈cJ.toList,e.born<ck
def Bj (ρ:Ren) (tm:T Value) (tmps:Array Value):Prop:=∀t v,tm.get t=some v->∃u,tmps[t]? =some u∧bN ρ v u
structure fY (P:Program) (ρ:Ren) (x:Loc) (w:World) (c:T LVal) (sz n:Nat) (ro:Bool) (et:TypeId):Prop where
 cell:∀i l,c.get i=some l->i<n∧l.length=sz∧∀(j:Nat) (v:Value),l[j]? =some v->∃u,w.cell? ⟨x.b,x.base+(i*sz+j),none⟩=some u∧bN ρ v u
 all:∀o,o<x.lim->(w.cell? ⟨x.b,o,none⟩).isSome=true
 free:ro=false->∀o,w.frozen? ⟨x.b,o,none⟩=true->(w.cell? ⟨x.b,o,none⟩)=none∧P.underlying et=some (.int .u8)
 shape:∃t,w.shape? x.b=some (t,x.lim)∧(t=et∨ro=true∧P.info? et=none)
 mult:∃q,x.base=q*sz
 pin:x.pin=none∨ro=true∧P.info? et=none∧w.heap[x.b]? =x.pin
def fY.sh {P:Program} {ρ:Ren} {x:Loc} {w:World} {c sz n et} (h:fY P ρ x w c sz n false et):w.shape? x.b=some (et,x.lim):=by
 obtain⟨t,a,b⟩:=h.shape;rcases b with rfl|⟨b,_⟩
 ·exact a
 ·cases b
def fY.pn {P:Program} {ρ:Ren} {x:Loc} {w:World} {c sz n et} (h:fY P ρ x w c sz n false et):x.pin=none:=by
 rcases h.pin with h|⟨h,_⟩
 ·exact h
 ·cases h
def fY.shi {P:Program} {ρ:Ren} {x:Loc} {w:World} {c sz n ro et} (h:fY P ρ x w c sz n ro et) (hi:P.info? et≠none):w.shape? x.b=some (et,x.lim):=by
 obtain⟨t,a,b⟩:=h.shape;rcases b with rfl|⟨_,b⟩
 ·exact a
 ·exact(hi b).elim
def qX (P:Program) (ρ:Ren) (x:Loc) (w:World):eX->Prop
 | .cells c sz n ro et=>fY P ρ x w c sz n ro et
 | .map kt es ck=>∃cJ,w.heap[x.b]? =some (.map cJ ck)∧jo P ρ kt es cJ∧lS ck cJ
 | .sX s p=>x.base=0∧w.heap[x.b]? =some (.stringIter s p)
 | .mapIter r ck=>x.base=0∧((r=none∧w.heap[x.b]? =some (.mapIter none 0 #[] 0))∨∃a y,r=some a∧ρ a=some y∧w.heap[x.b]? =some (.mapIter (some y.b) ck #[] ck))
 | .loop st pend _ nt kp tm ps atz bd=>∃tmps fn r,w.heap[x.b]? =some (.loop {state:=st,pending:=pend,fn,tmps,params:=ps.toArray,assign:=atz,body:=bd,defers:=r})∧Bj ρ tm tmps∧(∀t v,tm.get t=some v->kept kp t=true)∧nt<=tmps.size∧∀p∈ps,p<nt
def Ga:eX->Bool
 | .cells _ _ _ ro _=>ro
 |_=>false
def Bj.mono {ρ ρ':Ren} (hr:gq ρ ρ') {tm:T Value} {tmps:Array Value} (h:Bj ρ tm tmps):Bj ρ' tm tmps:=
 λt v e=>let⟨u,hu,hv⟩:=h t v e;⟨u,hu,hv.mono hr⟩
def jo.mono {P:Program} {ρ ρ':Ren} (hr:gq ρ ρ') {kt:TypeId} {es:List (Value×Value×Nat)} {cJ:Array MapEntry} (h:jo P ρ kt es cJ):jo P ρ' kt es cJ:=
 let⟨l,hp,hf,hn⟩:=h;⟨l,hp,hf.mono λ_ _ ⟨a,b,c,d,e⟩=>⟨a,b,c,d.mono hr,e⟩,hn⟩
def fY.mono {P:Program} {ρ ρ':Ren} (hr:gq ρ ρ') {x:Loc} {w:World} {c sz n ro et} (h:fY P ρ x w c sz n ro et):fY P ρ' x w c sz n ro et:=
 ⟨λi l e=>let⟨a,b,c⟩:=h.cell i l e;⟨a,b,λj v hv=>let⟨u,hu,oK⟩:=c j v hv;⟨u,hu,oK.mono hr⟩⟩,h.all,h.free,h.shape,h.mult,h.pin⟩
def qX.mono {P:Program} {ρ ρ':Ren} (hr:gq ρ ρ') {x:Loc} {w:World}:∀ {k:eX},qX P ρ x w k->qX P ρ' x w k
 | .cells ..,h=>fY.mono hr h
 | .map ..,⟨e,h,hm,hb⟩=>⟨e,h,hm.mono hr,hb⟩
 | .sX ..,h=>h
 | .mapIter ..,⟨h0,h⟩=>⟨h0,h.imp id λ⟨a,y,h1,h2,h3⟩=>⟨a,y,h1,hr _ _ h2,h3⟩⟩
 | .loop ..,⟨t,f,r,h,he,hn⟩=>⟨t,f,r,h,he.mono hr,hn⟩
def qa {w w':World} {b:Nat} (h:w'.heap[b]? =w.heap[b]?) (o:Nat):w'.cell? ⟨b,o,none⟩=w.cell? ⟨b,o,none⟩:=by simp[World.cell?,h]
def Js {w w':World} {b:Nat} (h:w'.heap[b]? =w.heap[b]?) (o:Nat):w'.frozen? ⟨b,o,none⟩=w.frozen? ⟨b,o,none⟩:=by simp[World.frozen?,h]
def ML {w w':World} {b:Nat} (h:w'.heap[b]? =w.heap[b]?):w'.shape? b=w.shape? b:=by simp[World.shape?,h]
def fY.congr {P:Program} {ρ:Ren} {x:Loc} {w w':World} (h:w'.heap[x.b]? =w.heap[x.b]?) {c sz n ro et} (k:fY P ρ x w c sz n ro et):fY P ρ x w' c sz n ro et:=
 ⟨λi l e=>let⟨a,b,c⟩:=k.cell i l e;⟨a,b,λj v hv=>by rw[qa h];exact c j v hv⟩,
   λo ho=>by rw[qa h];exact k.all o ho,λug o ho=>by rw[Js h]at ho;rw[qa h];exact k.free ug o ho,let⟨t,a,b⟩:=k.shape;⟨t,by rw[ML h];exact a,b⟩,k.mult,by rw[h];exact k.pin⟩
def qX.congr {P:Program} {ρ:Ren} {x:Loc} {w w':World} (h:w'.heap[x.b]? =w.heap[x.b]?):∀ {k:eX},qX P ρ x w k->qX P ρ x w' k
 | .cells ..,k=>fY.congr h k
 | .map ..,⟨e,h',hm⟩=>⟨e,h.trans h',hm⟩
 | .sX ..,⟨h0,h'⟩=>⟨h0,h.trans h'⟩
 | .mapIter ..,⟨h0,h'⟩=>⟨h0,h'.imp (λ⟨a,b⟩=>⟨a,h.trans b⟩) λ⟨a,y,h1,h2,h3⟩=>⟨a,y,h1,h2,h.trans h3⟩⟩
 | .loop ..,⟨t,f,r,h',he⟩=>⟨t,f,r,h.trans h',he⟩
def xl (ρ:Ren) (s:AS) (b:Nat):Prop:=∃a k x,s.h.get a=some k∧ρ a=some x∧x.b=b
def GOk (P:Program) (ρ:Ren) (s:AS) (w:World):Prop:=∀g gl vs,P.globals[g]? =some gl->lh gl.name=some vs->g<w.heap.size∧¬xl ρ s g∧∀(i:Nat) (v:Value),vs[i]? =some v->w.cell? ⟨g,i,none⟩=some v
def GOk.of {P:Program} {ρ ρ':Ren} {s s':AS} {w w':World} (h:GOk P ρ s w) (eR:w.heap.size<=w'.heap.size) (hf:∀b,b<w.heap.size->¬xl ρ s b->w'.heap[b]? =w.heap[b]?∧¬xl ρ' s' b):GOk P ρ' s' w':= λg gl vs h1 h2=>
 let⟨a,b,c⟩:=h g gl vs h1 h2
 let⟨e,n⟩:=hf g a b
 ⟨bC a eR,n,λi v hv=>by rw[qa e];exact c i v hv⟩
def MM {n:String} {vs:LVal} (h:lh n=some vs):∃v,vs[0]? =some v:=by
 unfold lh at h;cases hb:(n== "internal/strconv.uint64pow10")with
 |false=>rw[hb]at h;cases h
 |true=>rw[hb]at h;cases h;exact⟨_,rfl⟩
def GOk.ne {P:Program} {ρ:Ren} {s:AS} {w:World} {b g:Nat} {gl:Global} {vs:LVal} (h:GOk P ρ s w) (hb:∀i,w.cell? ⟨b,i,none⟩=none) (h1:P.globals[g]? =some gl) (h2:lh gl.name=some vs):b≠g:= λe=>by obtain⟨v,hv⟩:=MM h2;have:=(h g gl vs h1 h2).2.2 0 v hv;rw[<-e,hb]at this;cases this
structure Rel (P:Program) (ρ:Ren) (s:AS) (w:World):Prop where
 uz:∀a,s.nx<=a->ρ a=none
 top:∀a,s.nx<=a->s.h.get a=none
 jI:∀a k x,s.h.get a=some k->ρ a=some x->x.b<w.heap.size∧qX P ρ x w k
 lim:s.lim<=s.nx
 pc:∀a a' k k' x x',a≠a'->s.h.get a=some k->s.h.get a'=some k'->ρ a=some x->ρ a'=some x'->x.b=x'.b->Ga k=true∧Ga k'=true
 gl:GOk P ρ s w
structure je (ρ:Ren) (s:AS) (w:World) (ρ':Ren) (s':AS) (w':World):Prop where
 Nq:∀a,a<s.nx->ρ' a=ρ a
 nx:s.nx<=s'.nx
 tape:w'.tape=w.tape
 os:w'.os=w.os
 out:w'.output=w.output
 size:w.heap.size<=w'.heap.size
 frame:∀b,b<w.heap.size->¬xl ρ s b->w'.heap[b]? =w.heap[b]?∧¬xl ρ' s' b
 ph:∀a,a<s.nx->ρ a=none->s'.h.get a=s.h.get a∨s'.h.get a=none
 lp:∀(b:Nat) (r:Loop),w.heap[b]? =some (Obj.loop r)->∃r',w'.heap[b]? =some (Obj.loop r')
 lim:s'.lim=s.lim
 low:∀a,a<s.lim->s'.h.get a=s.h.get a
 Lh:∀a k x,a<s.lim->a<s.nx->s.h.get a=some k->Ga k=false->ρ a=some x->w'.heap[x.b]? =w.heap[x.b]?
def xU:eX->Bool
 | .loop .. =>true
 |_=>false
def Du {P:Program} {ρ:Ren} {x:Loc} {w:World} {r:Loop} (h:w.heap[x.b]? =some (.loop r)):∀ {k:eX},qX P ρ x w k->xU k=true
 | .cells ..,k=>by obtain⟨_,this,_⟩:=k.shape;unfold World.shape? at this;rw[h]at this;cases this
 | .map ..,⟨_,h',_⟩=>by rw[h]at h';cases h'
 | .sX ..,⟨_,h'⟩=>by rw[h]at h';cases h'
 | .mapIter ..,⟨_,h'⟩=>by
  rcases h' with ⟨_,h'⟩|⟨_,_,_,_,h'⟩
  ·rw[h]at h';cases h'
  ·rw[h]at h';cases h'
 | .loop ..,_=>rfl
def XC {P:Program} {ρ:Ren} {x:Loc} {w:World}:∀ {k:eX},xU k=true->qX P ρ x w k->∃r,w.heap[x.b]? =some (.loop r)
 | .loop ..,_,⟨_,_,_,h,_⟩=>⟨_,h⟩
def je.refl (ρ:Ren) (s:AS) (w:World):je ρ s w ρ s w:=⟨λ_ _=>rfl,af _,rfl,rfl,rfl,af _,λ_ _ h=>⟨rfl,h⟩,λ_ _ _=> .inl rfl,λ_ r h=>⟨r,h⟩,rfl,λ_ _=>rfl,λ_ _ _ _ _ _ _ _=>rfl⟩
def je.trans {ρ ρ' Zx:Ren} {s s' j9:AS} {w w' w'':World} (h:je ρ s w ρ' s' w') (h':je ρ' s' w' Zx j9 w''):je ρ s w Zx j9 w'':=
 ⟨λa ha=>by rw[h'.Nq a (bC ha h.nx),h.Nq a ha],di h.nx h'.nx,by rw[h'.tape,h.tape],by rw[h'.os,h.os],by rw[h'.out,h.out],di h.size h'.size,
  λb hb hn=>let⟨e1,n1⟩:=h.frame b hb hn;let⟨e2,n2⟩:=h'.frame b (bC hb h.size) n1;⟨e2.trans e1,n2⟩,
  λa ha hn=>by
   rcases h'.ph a (bC ha h.nx) (by rw[h.Nq a ha];exact hn)with e|e
   ·rw[e];exact h.ph a ha hn
   ·exact .inr e,λb r hb=>let⟨r1,h1⟩:=h.lp b r hb;h'.lp b r1 h1,h'.lim.trans h.lim,λa ha=>by rw[h'.low a (by rw[h.lim];exact ha),h.low a ha],
  λa k x ha hn hk ug hx=>by rw[h'.Lh a k x (by rw[h.lim];exact ha) (bC hn h.nx) (by rw[h.low a ha];exact hk) ug (by rw[h.Nq a hn];exact hx),h.Lh a k x ha hn hk ug hx]⟩
def je.le {P:Program} {ρ ρ':Ren} {s s':AS} {w w':World} (h:je ρ s w ρ' s' w') (hr:Rel P ρ s w):gq ρ ρ':= λa x e=>by
 have:a<s.nx:=by
  rcases mH a s.nx with h|h
  ·exact h
  ·rw[hr.uz a h]at e;cases e
 rw[h.Nq a this];exact e
def Rel.of_heap {P:Program} {ρ:Ren} {s:AS} {w w':World} (h:Rel P ρ s w) (hh:w'.heap=w.heap):Rel P ρ s w':=
 ⟨h.uz,h.top,λa k x e e'=>let⟨h1,h2⟩:=h.jI a k x e e';⟨by rw[hh];exact h1,h2.congr (by rw[hh])⟩,h.lim,h.pc,h.gl.of (by rw[hh];exact af _) λb _ hn=>⟨by rw[hh],hn⟩⟩
def je.of_heap {ρ:Ren} {s:AS} {w w':World} (hh:w'.heap=w.heap) (ht:w'.tape=w.tape) (ho:w'.os=w.os) (hu:w'.output=w.output):je ρ s w ρ s w':=
 ⟨λ_ _=>rfl,af _,ht,ho,hu,by rw[hh];exact af _,λ_ _ h=>⟨by rw[hh],h⟩,λ_ _ _=> .inl rfl,λ_ r h=>⟨r,by rw[hh];exact h⟩,rfl,λ_ _=>rfl,λ_ _ _ _ _ _ _ _=>by rw[hh]⟩
def AS.vM {s s':AS} {k:eX} (h:s.new k=some s'):s'.lim=s.lim:=by
 have h':oR (Option AS) none (λh=>cG (Nat.succ s.nx) λn=>cG s.lim λl=>some ⟨h,n,l⟩) (T.put (some k) s.h s.nx)=some s':=h;cases hp:T.put (some k) s.h s.nx with
 |none=>rw[hp]at h';cases h'
 |some t=>rw[hp]at h';simp only[bD]at h';cases h';rfl
def AS.ql {s s':AS} {k:eX} (h:s.new k=some s'):s'.nx=s.nx+1∧∀j,s'.h.get j=if j=s.nx then some k else s.h.get j:=by
 have h':oR (Option AS) none (λh=>cG (Nat.succ s.nx) λn=>cG s.lim λl=>some ⟨h,n,l⟩) (T.put (some k) s.h s.nx)=some s':=h;cases hp:T.put (some k) s.h s.nx with
 |none=>rw[hp]at h';cases h'
 |some t=>rw[hp]at h';simp only[bD]at h';cases h';exact⟨rfl,λj=>T.jw _ _ _ _ hp j⟩
def AS.FH {s s':AS} {i:Nat} {k:Option eX} (h:s.set i k=some s'):s'.nx=s.nx∧(∀j,s'.h.get j=if j=i then k else s.h.get j)∧s'.lim=s.lim∧s.lim<=i:=by
 have h':Bool.rec (motive:= λ_=>Option AS) (oR (Option AS) none (λh=>cG s.nx λn=>cG s.lim λl=>some ⟨h,n,l⟩) (T.put k s.h i)) none (Nat.blt i s.lim)=some s':=h;cases hb:Nat.blt i s.lim with
 |true=>rw[hb]at h';cases h'
 |false=>
  rw[hb]at h';cases hp:T.put k s.h i with
  |none=>rw[hp]at h';cases h'
  |some t=>
   rw[hp]at h';simp only[bD]at h';cases h';exact⟨rfl,λj=>T.jw _ _ _ _ hp j,rfl,Nat.le_of_not_lt λcS=>by have:Nat.blt i s.lim=true:=bg cS;rw[hb]at this;cases this⟩
def AS.tK {s s':AS} {i:Nat} {k:Option eX} (h:s.set i k=some s'):s'.nx=s.nx∧∀j,s'.h.get j=if j=i then k else s.h.get j:=
 ⟨(AS.FH h).1,(AS.FH h).2.1⟩
def AS.mP {s s':AS} {i:Nat} {k:Option eX} (h:s.set i k=some s'):s'.lim=s.lim∧s.lim<=i:=⟨(AS.FH h).2.2.1,(AS.FH h).2.2.2⟩
def AS.Mf {s s':AS} {k:eX} (h:s.new k=some s') (hl:s.lim<=s.nx):∀a,a<s.lim->s'.h.get a=s.h.get a:= λa ha=>by rw[(AS.ql h).2,aC (by omega)]
def AS.FI {s s':AS} {i:Nat} {k:Option eX} (h:s.set i k=some s'):∀a,a<s.lim->s'.h.get a=s.h.get a:= λa ha=>by rw[(AS.tK h).2,aC (by have:=(AS.mP h).2;omega)]
def Ren.put (ρ:Ren) (a:Nat) (x:Loc):Ren:= λj=>if j=a then some x else ρ j
def Rel.alloc {P:Program} {ρ:Ren} {s s':AS} {w w':World} {k:eX} {x:Loc} (hr:Rel P ρ s w) (hs:s.new k=some s')
  (hx:x.b=w.heap.size) (eR:w'.heap.size=w.heap.size+1) (hold:∀b,b<w.heap.size->w'.heap[b]? =w.heap[b]?)
  (ht:w'.tape=w.tape) (ho:w'.os=w.os) (hu:w'.output=w.output)
  (hb:qX P (ρ.put s.nx x) x w' k):Rel P (ρ.put s.nx x) s' w'∧je ρ s w (ρ.put s.nx x) s' w':=by
 obtain⟨IT,hg⟩:=AS.ql hs;have hle:gq ρ (ρ.put s.nx x):= λa y e=>by
  unfold Ren.put;by_cases ha:a=s.nx
  ·rw[ha,hr.uz _ (af _)]at e;cases e
  ·rw[aC ha];exact e
 have fP:∀a,a≠s.nx->(ρ.put s.nx x) a=ρ a:= λa ha=>by unfold Ren.put;rw[aC ha]
 have qC:(ρ.put s.nx x) s.nx=some x:=by unfold Ren.put;rw[aU rfl]
 refine(λ(hS:je ρ s w (ρ.put s.nx x) s' w')=>⟨⟨λa ha=>?_,λa ha=>?_,λa k' y e e'=>?_,by rw[AS.vM hs];have:=hr.lim;omega,λa a' k1 k2 x1 x2 ed e1 e2 r1 r2 EA=>?_,hr.gl.of hS.size hS.frame⟩,hS⟩) ⟨λa ha=>?_,by omega,ht,ho,hu,by omega,λb iR hn=>?_,λa ha hn=>?_,λb r iR=>⟨r,by rw[hold b (Array.getElem?_eq_some_iff.1 iR).1];exact iR⟩,AS.vM hs,AS.Mf hs hr.lim,λa k' y _ _ oL _ hy=>hold _ (hr.jI a k' y oL hy).1⟩
 ·rw[fP a (by omega)]
 ·refine⟨hold b iR,?_⟩;rintro⟨a,k',y,e,e',rfl⟩;rw[hg]at e;by_cases ha:a=s.nx
  ·rw[ha,qC]at e';cases e';omega
  ·rw[aC ha]at e;rw[fP a ha]at e';exact hn ⟨a,k',y,e,e',rfl⟩
 ·exact .inl (by rw[hg,aC (by omega)])
 ·rw[fP a (by omega)];exact hr.uz a (by omega)
 ·rw[hg,aC (by omega)];exact hr.top a (by omega)
 ·rw[hg]at e;by_cases ha:a=s.nx
  ·rw[aU ha]at e;cases e;rw[ha,qC]at e';cases e';exact⟨by omega,hb⟩
  ·rw[aC ha]at e;rw[fP a ha]at e';obtain⟨h1,h2⟩:=hr.jI a k' y e e';exact⟨by omega,(h2.congr (hold _ h1)).mono hle⟩
 ·rw[hg]at e1 e2;by_cases ha:a=s.nx
  ·rw[ha,qC]at r1;cases r1;have sT:a'≠s.nx:= λe=>ed (ha.trans e.symm);rw[aC sT]at e2;rw[fP a' sT]at r2;have:=(hr.jI a' k2 x2 e2 r2).1;omega
  ·rw[aC ha]at e1;rw[fP a ha]at r1;by_cases sT:a'=s.nx
   ·rw[sT,qC]at r2;cases r2;have:=(hr.jI a k1 x1 e1 r1).1;omega
   ·rw[aC sT]at e2;rw[fP a' sT]at r2;exact hr.pc a a' k1 k2 x1 x2 ed e1 e2 r1 r2 EA
def Rel.write {P:Program} {ρ:Ren} {s s':AS} {w w':World} {a:Nat} {k k':eX} {x:Loc} (hr:Rel P ρ s w) (hs:s.set a (some k')=some s')
  (hk:s.h.get a=some k) (ug:Ga k=false) (hx:ρ a=some x) (eR:w'.heap.size=w.heap.size) (hold:∀b,b≠x.b->w'.heap[b]? =w.heap[b]?)
  (ht:w'.tape=w.tape) (ho:w'.os=w.os) (hu:w'.output=w.output)
  (hb:qX P ρ x w' k') (IU:xU k=true->xU k'=true:=by intro h;cases h):Rel P ρ s' w'∧je ρ s w ρ s' w':=by
 obtain⟨IT,hg⟩:=AS.tK hs;have halt:a<s.nx:=by
  rcases mH a s.nx with h|h
  ·exact h
  ·rw[hr.uz a h]at hx;cases hx
 have ed:∀a' k2 x2,a'≠a->s.h.get a'=some k2->ρ a'=some x2->x2.b≠x.b:= λa' k2 x2 h e r iR=>by have:=(hr.pc a' a k2 k x2 x h e hk r hx iR).2;rw[ug]at this;cases this
 refine(λ(hS:je ρ s w ρ s' w')=>⟨⟨λa ha=>hr.uz a (by omega),λb hb=>?_,λb k2 y e e'=>?_,by rw[(AS.mP hs).1,IT];exact hr.lim,λb b' k1 k2 x1 x2 so e1 e2 r1 r2 EA=>?_,hr.gl.of hS.size hS.frame⟩,hS⟩) ⟨λ_ _=>rfl,by omega,ht,ho,hu,by omega,λb iR hn=>?_,λb iR hn=>?_,λb r iR=>?_,(AS.mP hs).1,AS.FI hs,λb k2 y hl _ uA _ hy=>hold _ (ed b k2 y (by have:=(AS.mP hs).2;omega) uA hy)⟩
 ·have zH:b≠x.b:= λe=>hn ⟨a,k,x,hk,hx,e.symm⟩;refine⟨hold b zH,?_⟩;rintro⟨c,k2,y,e,e',rfl⟩;rw[hg]at e;by_cases hc:c=a
  ·rw[hc,hx]at e';cases e';exact zH rfl
  ·rw[aC hc]at e;exact hn ⟨c,k2,y,e,e',rfl⟩
 ·exact .inl (by rw[hg,aC (λe=>by rw[e,hx]at hn;cases hn)])
 ·by_cases zH:b=x.b
  ·subst zH;exact XC (IU (Du iR (hr.jI a k x hk hx).2)) hb
  ·exact⟨r,by rw[hold b zH];exact iR⟩
 ·rw[hg,aC (by omega)];exact hr.top b (by omega)
 ·rw[hg]at e;by_cases iR:b=a
  ·subst iR;rw[aU rfl]at e;cases e;rw[hx]at e';cases e';exact⟨by rw[eR];exact(hr.jI b k x hk hx).1,hb⟩
  ·rw[aC iR]at e;obtain⟨h1,h2⟩:=hr.jI b k2 y e e';exact⟨by omega,h2.congr (hold _ (ed b k2 y iR e e'))⟩
 ·rw[hg]at e1 e2;by_cases qR:b=a
  ·by_cases wV:b'=a
   ·exact(so (qR.trans wV.symm)).elim
   ·rw[aC wV]at e2;rw[qR,hx]at r1;cases r1;exact(ed b' k2 x2 wV e2 r2 EA.symm).elim
  ·rw[aC qR]at e1;by_cases wV:b'=a
   ·rw[wV,hx]at r2;cases r2;exact(ed b k1 x1 qR e1 r1 EA).elim
   ·rw[aC wV]at e2;exact hr.pc b b' k1 k2 x1 x2 so e1 e2 r1 r2 EA
def Rel.forget {P:Program} {ρ:Ren} {s s':AS} {w:World} {a:Nat} {x:Loc} (hr:Rel P ρ s w) (hs:s.set a none=some s') (hx:ρ a=some x):Rel P ρ s' w∧je ρ s w ρ s' w:=by
 obtain⟨IT,hg⟩:=AS.tK hs;have hof:∀ {b k},s'.h.get b=some k->s.h.get b=some k:= λ {b k} e=>by
  rw[hg]at e;by_cases h:b=a
  ·rw[aU h]at e;cases e
  ·rw[aC h]at e;exact e
 refine(λ(hS:je ρ s w ρ s' w)=>⟨⟨λa ha=>hr.uz a (by omega),λb hb=>?_,λb k2 y e e'=>hr.jI b k2 y (hof e) e',by rw[(AS.mP hs).1,IT];exact hr.lim,λb b' k1 k2 x1 x2 so e1 e2 r1 r2 EA=>hr.pc b b' k1 k2 x1 x2 so (hof e1) (hof e2) r1 r2 EA,hr.gl.of hS.size hS.frame⟩,hS⟩)
  ⟨λ_ _=>rfl,by omega,rfl,rfl,rfl,af _,λb iR hn=>⟨rfl,?_⟩,λb iR hn=>?_,λ_ r h=>⟨r,h⟩,(AS.mP hs).1,AS.FI hs,λ_ _ _ _ _ _ _ _=>rfl⟩
 ·rintro⟨c,k2,y,e,e',rfl⟩;exact hn ⟨c,k2,y,hof e,e',rfl⟩
 ·exact .inl (by rw[hg,aC (λe=>by rw[e,hx]at hn;cases hn)])
 ·rw[hg];split
  ·rfl
  ·exact hr.top b (by omega)
end
variable {s s' s0:AS} {v u y x v' x':Value} {n t b i k f a r p q j et ck nt kt e ty off:Nat} {w w':World} {o:Option Nat} {l vs l':LVal} {rows R els:List LVal} {tm tm':T Value} {es:List (Value×Value×Nat)} {ts:Array TypeId} {lo:Lo} {X:QJ} {P:Program} {F:Fence} {S:List Nat} {ρ ρ':Ren}
def acP:∀ {k k':IntKind},afI k=afI k'->k=k':=by intro k k' h;cases k<;>cases k'<;>first|rfl|(exact absurd h (by decide))
def tc {k k':IntKind}:tz k k'=true↔k=k':=by
 constructor
 ·intro h;exact acP (au h)
 ·rintro rfl;exact bj _
def iu (k:IntKind):tz k k=true:=tc.2 rfl
def fI (k:IntKind) (n:Int):m5 k n=some (.int k n):=by
 cases n with
 |ofNat m=>exact bD m (λm=>some (Value.int k (.ofNat m)))
 |negSucc m=>exact bD m (λm=>some (Value.int k (.negSucc m)))
def wrap_small {k:IntKind} {n:Int} (h:k.min<=n∧n<=k.max):k.wrap n=n:=by cases k<;>simp[IntKind.wrap,IntKind.min,IntKind.max,IntKind.bits,IntKind.signed]at* <;>omega
def jZ (k:IntKind) (n:Int):mo k n=some (.int k (k.wrap n)):=by
 cases n with
 |ofNat m=>
  show aD (Nat.blt m (lim k)) (cG m λm=>some (.int k (.ofNat m))) (m5 k (k.wrap (.ofNat m)))=_;cases hb:Nat.blt m (lim k)with
  |false=>exact fI _ _
  |true=>
   have cS:m<lim k:=by simpa[Fi]using hb
   rw[aS,bD,wrap_small];cases k<;>simp[lim,IntKind.min,IntKind.max,IntKind.bits,IntKind.signed]at* <;>omega
 |negSucc m=>
  show aD (Nat.blt m (Zt k)) (cG m λm=>some (.int k (.negSucc m))) (m5 k (k.wrap (.negSucc m)))=_;cases hb:Nat.blt m (Zt k)with
  |false=>exact fI _ _
  |true=>
   have cS:m<Zt k:=by simpa[Fi]using hb
   rw[aS,bD,wrap_small];cases k<;>simp[Zt,IntKind.min,IntKind.max,IntKind.bits,IntKind.signed]at* <;>omega
def oH (a b:Int):FY a b=decide (a=b):=by
 cases a<;>cases b<;>rename_i m n
 ·show Nat.beq m n=_;rw[eT];simp;omega
 ·show false=_;simp
 ·show false=_;simp
 ·show Nat.beq m n=_;rw[eT];simp
def qo (a b:Int):Fl a b=decide (a<b):=by
 cases a<;>cases b<;>rename_i m n
 ·show Nat.blt m n=_;rw[eT];simp[Fi]
 ·show false=_;symm;simp;omega
 ·show true=_;symm;simp;omega
 ·show Nat.blt n m=_;rw[eT];simp[Fi];omega
def fy (b:Bool):fG b=some (.bool b):=by cases b<;>rfl
def lq (b:Bool):lF b=!b:=by cases b<;>rfl
def pr {b:Int} (h:um b=some n):b=(n:Int):=by
 cases b with
 |ofNat m=>cases h;rfl
 |negSucc m=>cases h
def bW {β:Type} (b:Bool) (t e:β):aD b t e=if b then t else e:=by cases b<;>rfl
def aaA {x y:UInt8}:Nat.beq x.toNat y.toNat=true↔x=y:=by
 constructor
 ·intro h;exact UInt8.toNat_inj.1 (au h)
 ·rintro rfl;exact bj _
def tL:∀(a b:List UInt8),NY a b=(a==b):=by
 intro a;induction a with
 |nil=>intro b;cases b<;>rfl
 |cons x a ih=>
  intro b;cases b with
  |nil=>rfl
  |cons y b=>
   show aD (Nat.beq x.toNat y.toNat) (NY a b) false=_;cases h:Nat.beq x.toNat y.toNat with
   |true=>have:=aaA.1 h;subst this;rw[aS,ih];simp
   |false=>
    have:x≠y:= λe=>by rw[aaA.2 e]at h;cases h
    show false=_;symm;simp[this]
def GH:∀(a b:List UInt8),IP a b=Op.bytesLess a b:=by
 intro a;induction a with
 |nil=>intro b;cases b<;>rfl
 |cons x a ih=>
  intro b;cases b with
  |nil=>rfl
  |cons y b=>
   show aD (Nat.blt x.toNat y.toNat) true (aD (Nat.beq x.toNat y.toNat) (IP a b) false)=(decide (x<y)||(x==y&&Op.bytesLess a b))
   have e1:Nat.blt x.toNat y.toNat=decide (x<y):=by rw[eT];simp[Fi,Hk]
   have e2:Nat.beq x.toNat y.toNat=(x==y):=by rw[eT,aaA];simp
   rw[e1,e2,ih];cases decide (x<y)<;>cases(x==y)<;>rfl
def A4:∀(a b:List UInt8),Op.bytesLess a b=true->(a==b)=false∧Op.bytesLess b a=false:=by
 intro a;induction a with
 |nil=>intro b h;cases b with|nil=>cases h|cons y b=>exact⟨rfl,rfl⟩
 |cons x a ih=>
  intro b h;cases b with
  |nil=>cases h
  |cons y b=>
   simp only[Op.bytesLess,xf,nU,u9,Fj]at h;rcases h with h|⟨rfl,h⟩
   ·have ed:x≠y:= λe=>by subst e;exact absurd h (by simp[acE])
    have hn:¬y<x:= λe=>absurd (UInt8.lt_trans h e) (by simp[acE]);have so:y≠x:= λe=>ed e.symm;exact⟨by simp[ed],by simp[Op.bytesLess,hn,so]⟩
   ·obtain⟨h1,h2⟩:=ih b h;refine⟨?_,?_⟩
    ·simp at h1⊢;exact h1
    ·simp[Op.bytesLess,h2,acE]
def FA:∀(a b:List UInt8),Op.bytesLess a b=false->(a==b)=false->Op.bytesLess b a=true:=by
 intro a;induction a with
 |nil=>intro b h1 h2;cases b with|nil=>cases h2|cons y b=>cases h1
 |cons x a ih=>
  intro b h1 h2;cases b with
  |nil=>rfl
  |cons y b=>
   simp only[Op.bytesLess,Bool.or_eq_false_iff,decide_eq_false_iff_not]at h1;obtain⟨hn,h3⟩:=h1;by_cases e:x=y
   ·subst e;simp at h3;have:=ih b h3 (by simpa using h2);simp[Op.bytesLess,this]
   ·have:y<x:=by
     rw[Hk]at hn⊢;have:x.toNat≠y.toNat:= λh=>e (UInt8.toNat_inj.1 h);omega
    simp[Op.bytesLess,this]
def J5 (a b:List UInt8):(Op.bytesLess a b||(a==b))=!Op.bytesLess b a:=by
 cases h:Op.bytesLess a b with
 |true=>rw[(A4 a b h).2];rfl
 |false=>
  cases h2:(a==b)with
  |true=>
   have:a=b:=by simpa using h2
   subst this;rw[h];rfl
  |false=>rw[FA a b h h2];rfl
def CA {op:BinOp} {k:IntKind} {a b:Int} (w:World) (hs:Vy op=false) (h:vw op k a b=some v):
  ∃n,(binOp op t (.int k a) (.int k b)).run P w= .ok v w∧(v= .int k n∨∃c,v= .bool c):=by
 cases op
 case shl=>cases hs
 case shr=>cases hs
 case add=>have h':mo k (Int.add a b)=some v:=h;rw[jZ]at h';cases h';exact⟨_,by simp[binOp,Op.intArith]<;>rfl,.inl rfl⟩
 case sub=>have h':mo k (Int.sub a b)=some v:=h;rw[jZ]at h';cases h';exact⟨_,by simp[binOp,Op.intArith]<;>rfl,.inl rfl⟩
 case mul=>have h':mo k (Int.mul a b)=some v:=h;rw[jZ]at h';cases h';exact⟨_,by simp[binOp,Op.intArith]<;>rfl,.inl rfl⟩
 case quo=>
  have h':aD (FY b (.ofNat 0)) none (mo k (Int.tdiv a b))=some v:=h;obtain⟨hz,h'⟩:=lK h';rw[oH]at hz;rw[jZ]at h';cases h';have hb:¬b=0:=by simpa using hz
  exact⟨_,by simp[binOp,Op.intDiv,hb],.inl rfl⟩
 case rem=>
  have h':aD (FY b (.ofNat 0)) none (m5 k (Int.tmod a b))=some v:=h;obtain⟨hz,h'⟩:=lK h';rw[oH]at hz;rw[fI]at h';cases h';have hb:¬b=0:=by simpa using hz
  exact⟨_,by simp[binOp,Op.intDiv,hb],.inl rfl⟩
 case and=>have h':m5 k (k.wrap (BitVec.ofInt k.bits a&&&BitVec.ofInt k.bits b).toNat)=some v:=h;rw[fI]at h';cases h';exact⟨_,by simp[binOp,Op.intBits],.inl rfl⟩
 case or=>have h':m5 k (k.wrap (BitVec.ofInt k.bits a|||BitVec.ofInt k.bits b).toNat)=some v:=h;rw[fI]at h';cases h';exact⟨_,by simp[binOp,Op.intBits],.inl rfl⟩
 case xor=>have h':m5 k (k.wrap (BitVec.ofInt k.bits a^^^BitVec.ofInt k.bits b).toNat)=some v:=h;rw[fI]at h';cases h';exact⟨_,by simp[binOp,Op.intBits],.inl rfl⟩
 case andNot=>have h':m5 k (k.wrap (BitVec.ofInt k.bits a&&& ~~~BitVec.ofInt k.bits b).toNat)=some v:=h;rw[fI]at h';cases h';exact⟨_,by simp[binOp,Op.intBits],.inl rfl⟩
 case eql=>have h':fG (FY a b)=some v:=h;rw[fy,oH]at h';cases h';exact⟨0,by simp[binOp,Op.intCmp]<;>(rw[eT];simp),.inr ⟨_,rfl⟩⟩
 case neq=>have h':fG (lF (FY a b))=some v:=h;rw[fy,lq,oH]at h';cases h';exact⟨0,by simp[binOp,Op.intCmp]<;>(rw[eT];simp),.inr ⟨_,rfl⟩⟩
 case lss=>have h':fG (Fl a b)=some v:=h;rw[fy,qo]at h';cases h';exact⟨0,by simp[binOp,Op.intCmp],.inr ⟨_,rfl⟩⟩
 case leq=>have h':fG (lF (Fl b a))=some v:=h;rw[fy,lq,qo]at h';cases h';exact⟨0,by simp[binOp,Op.intCmp]<;>(rw[eT];simp),.inr ⟨_,rfl⟩⟩
 case gtr=>have h':fG (Fl b a)=some v:=h;rw[fy,qo]at h';cases h';exact⟨0,by simp[binOp,Op.intCmp],.inr ⟨_,rfl⟩⟩
 case geq=>have h':fG (lF (Fl a b))=some v:=h;rw[fy,lq,qo]at h';cases h';exact⟨0,by simp[binOp,Op.intCmp]<;>(rw[eT];simp),.inr ⟨_,rfl⟩⟩
def PJ {op:BinOp} {k k':IntKind} {a:Int} (w:World) (h:JS op k a n=some v):
  ∃m,(binOp op t (.int k a) (.int k' (n:Int))).run P w= .ok v w∧v= .int k m:=by
 have hn:¬((n:Int)<0):=by omega
 cases op
 case shl=>have h':mo k (Int.mul a (.ofNat (Nat.pow 2 (Nat.min n k.bits))))=some v:=h;rw[jZ]at h';cases h';refine⟨_,?_,rfl⟩;simp only[binOp,Op.shift,aC hn];rfl
 case shr=>have h':m5 k (Int.fdiv a (.ofNat (Nat.pow 2 (Nat.min n k.bits))))=some v:=h;rw[fI]at h';cases h';refine⟨_,?_,rfl⟩;simp only[binOp,Op.shift,aC hn];rfl
 all_goals cases h
def MN {op:BinOp} {a b:ByteArray} (w:World) (h:abv op a.data.toList b.data.toList=some v):
  (binOp op t (.string a) (.string b)).run P w= .ok v w∧bN ρ v v:=by
 have ha:a.toList=a.data.toList:=mn a;have hb:b.toList=b.data.toList:=mn b;cases op
 case add=>
  have h':ob (Ae a.data.toList b.data.toList) (λl=>aD (Nat.ble (len l) 1000000000) (some (Value.string ⟨⟨l⟩⟩)) none)=some v:=h;rw[pH]at h';obtain⟨hl,h'⟩:=aY (show aD (Nat.ble (len (a.data.toList++b.data.toList)) 1000000000) (some (Value.string ⟨⟨a.data.toList++b.data.toList⟩⟩)) none=some v from h');rw[dQ]at hl;have eR:a.size+b.size<=1000000000:=by have:=aO hl;simpa using this
  cases h';have e:(⟨⟨a.data.toList++b.data.toList⟩⟩:ByteArray)=a++b:=by apply Cy;apply eh;simp
  refine⟨?_,.string _⟩;have hm:¬(((a.size+b.size:Nat):Int)>IntKind.i64.max):=by simp[IntKind.max,IntKind.bits,IntKind.signed];omega
  rw[e];simp only[binOp,Op.stringOp];rw[aC hm];rfl
 case eql=>have h':fG (NY a.data.toList b.data.toList)=some v:=h;rw[fy,tL]at h';cases h';exact⟨by simp only[binOp,Op.stringOp,ha,hb];rfl,.bool _⟩
 case neq=>have h':fG (lF (NY a.data.toList b.data.toList))=some v:=h;rw[fy,lq,tL]at h';cases h';exact⟨by simp only[binOp,Op.stringOp,ha,hb];rfl,.bool _⟩
 case lss=>have h':fG (IP a.data.toList b.data.toList)=some v:=h;rw[fy,GH]at h';cases h';exact⟨by simp only[binOp,Op.stringOp,ha,hb];rfl,.bool _⟩
 case leq=>have h':fG (lF (IP b.data.toList a.data.toList))=some v:=h;rw[fy,lq,GH,<-J5]at h';cases h';exact⟨by simp only[binOp,Op.stringOp,ha,hb];rfl,.bool _⟩
 case gtr=>have h':fG (IP b.data.toList a.data.toList)=some v:=h;rw[fy,GH]at h';cases h';have:=J5 a.data.toList b.data.toList;refine⟨?_,.bool _⟩;simp only[binOp,Op.stringOp,ha,hb];rw[this];simp
 case geq=>have h':fG (lF (IP a.data.toList b.data.toList))=some v:=h;rw[fy,lq,GH]at h';cases h';exact⟨by simp only[binOp,Op.stringOp,ha,hb];rfl,.bool _⟩
 all_goals cases h
def we {b:Bool} (h:Eng.isAgg P t=some b) (w:World):(Go.isAgg t).run P w= .ok b w:=by
 unfold Eng.isAgg at h;split at h
 ·rename_i hu;cases h;simp[Go.isAgg,aF hu]
 ·rename_i hu;cases h;simp[Go.isAgg,aF hu]
 ·rename_i d h1 h2 hu;cases h;simp only[Go.isAgg,aI,aF hu,aj];cases d<;>first|rfl|exact(h1 _ rfl).elim|exact(h2 _ _ rfl).elim
 ·cases h
def dS (h:dc P t=some n) (w:World):(sizeOf t).run P w= .ok n w:=by
 unfold dc at h;cases hi:P.info? t with
 |none=>rw[hi]at h;cases h
 |some i=>rw[hi]at h;cases h;simp[sizeOf,typeInfo,hi]
def XD {β:Type} {b:Bool} {o:Option β} {v:β} (h:Bool.rec (motive:= λ_=>Option β) none o b=some v):b=true∧o=some v:=by
 cases b with
 |false=>cases h
 |true=>exact⟨rfl,h⟩
def tp {z:Value} (h:mU P t=some z):LJ z=true∧∃i,P.info? t=some i∧i.zero=some z:=by
 unfold mU at h;cases hi:P.info? t with
 |none=>rw[hi]at h;cases h
 |some i=>
  rw[hi]at h;simp only at h;cases hz:i.zero with
  |none=>rw[hz]at h;cases h
  |some z'=>rw[hz]at h;obtain⟨h1,h2⟩:=XD h;cases h2;exact⟨h1,i,rfl,hz⟩
def j6 {z:Value} (h:mU P t=some z) (w:World):(zeroValue t).run P w= .ok z w:=by obtain⟨_,i,hi,hz⟩:=tp h;simp[zeroValue,typeInfo,hi,hz]
def AL (h:qB P t=some l):∃z,mU P t=some z∧l=z.cells.toList:=by
 unfold qB at h;cases hz:mU P t with
 |none=>rw[hz]at h;cases h
 |some z=>rw[hz]at h;cases h;exact⟨z,rfl,rfl⟩
def Hp (h:Dd v=true):bN ρ v v∧dZ v=true:=by
 unfold Dd at h;split at h
 ·exact⟨.bool _,rfl⟩
 ·exact⟨.int _ _,rfl⟩
 ·exact⟨.string _,rfl⟩
 ·exact⟨.tJ,rfl⟩
 ·exact⟨.gi,rfl⟩
 ·exact⟨.xT,rfl⟩
 ·exact⟨.nilFunc,rfl⟩
 ·exact⟨.nilIface,rfl⟩
 ·cases h
def PK (h:L8 l=true):bJ ρ l l∧∀v∈l,dZ v=true:=by
 induction l with
 |nil=>exact⟨.nil,λv hv=>by cases hv⟩
 |cons v l ih=>
  have h':Bool.rec (motive:= λ_=>Bool) false (L8 l) (Dd v)=true:=h;cases hv:Dd v with
  |false=>rw[hv]at h';cases h'
  |true=>rw[hv]at h';obtain⟨h1,h2⟩:=Hp (ρ:=ρ) hv;obtain⟨h3,h4⟩:=ih h';exact⟨.cons h1 h3,λu hu=>by rcases List.mem_cons.1 hu with rfl|hu;exact h2;exact h4 u hu⟩
def S6 (h:LJ v=true):bN ρ v v:=by
 unfold LJ at h;split at h
 ·exact .agg (PK h).1
 ·exact(Hp h).1
def wg {z:Value} (h:mU P t=some z):bN ρ z z:=S6 (tp h).1
def S7 {p q:Addr} {b:Bool} (h:Ui p q=some b):b=true∧p=q∧p.spot=none:=by
 unfold Ui at h;rw[bW]at h;split at h
 ·rename_i h1;rw[bW]at h;split at h
  ·rename_i h2;split at h
   ·rename_i e1 e2;cases h;refine⟨rfl,?_,e1⟩;cases p;cases q;simp at h1 h2 e1 e2;simp[h1,h2,e1,e2]
   ·cases h
  ·cases h
 ·cases h
def jU (x' y':Value) (Ba:Bool):Prop:=(∀k a k' c,¬(x'= .int k a∧y'= .int k' c))∧(∀a c,¬(x'= .string a∧y'= .string c))∧(∀k a k' c,¬(x'= .float k a∧y'= .float k' c))∧(∀k a d k' c e,¬(x'= .complex k a d∧y'= .complex k' c e))∧
   ((x'= .nilIface∧y'= .nilIface)->Ba=true)∧(∀a c,¬(x'= .agg a∧y'= .agg c))
def acQ (h:Af P t= .ptr):∃e i,P.underlying t=some (.pointer e)∧P.info? e=some i:=by
 unfold Af at h;split at h<;>try (cases h)
 rename_i e hu;split at h
 ·rename_i i hi;exact⟨e,i,hu,hi⟩
 ·cases h
def XE (h:Af P t= .bool):P.underlying t=some .bool:=by unfold Af at h;split at h<;>first|assumption|(cases h;done)|(split at h<;>cases h)
def S8 (h:Af P t= .slice):∃e,P.underlying t=some (.slice e):=by unfold Af at h;split at h<;>first|exact⟨_,by assumption⟩|(cases h;done)|(split at h<;>cases h)
def acR (h:Af P t= .map):∃k e,P.underlying t=some (.map k e):=by unfold Af at h;split at h<;>first|exact⟨_,_,by assumption⟩|(cases h;done)|(split at h<;>cases h)
def Dv (h:Af P t= .func):∃a b c,P.underlying t=some (.func a b c):=by unfold Af at h;split at h<;>first|exact⟨_,_,_,by assumption⟩|(cases h;done)|(split at h<;>cases h)
def AM (h:Af P t= .iface):∃ms,P.underlying t=some (.interface ms):=by unfold Af at h;split at h<;>first|exact⟨_,by assumption⟩|(cases h;done)|(split at h<;>cases h)
def XF {y':Value} {Ba b:Bool} {ek:EK} (w:World) (hek:Af P t=ek) (h:eq2 ek Ba x y=some b) (hx:bN ρ x x') (hy:bN ρ y y'):
  (∀d,(Op.equalIn (d+1) t x' y').run P w= .ok b w)∧jU x' y' Ba:=by
 unfold eq2 at h;split at h
 ·cases hx;cases hy;rename_i a c;refine⟨λd=>?_,by simp[jU]⟩;simp only[Op.equalIn,aI,aF (XE hek),aj];cases h;cases a<;>cases c<;>rfl
 ·obtain⟨e,i,hu,hi⟩:=acQ hek;split at h
  ·cases hx;cases hy;cases h;exact⟨λd=>by simp[Op.equalIn,aF hu],by simp[jU]⟩
  ·cases hx;cases hy;rename_i a1 x1 aUp r1 a2 x2 aUq r2;obtain⟨rfl,hpq,_⟩:=S7 h;simp only[Addr.mk.injEq]at hpq;obtain⟨rfl,rfl,_⟩:=hpq;rw[r1]at r2;cases r2;refine⟨λd=>?_,by simp[jU]⟩;have eR:(sizeOf e).run P w= .ok i.size w:=by simp[sizeOf,typeInfo,hi]
   simp only[Op.equalIn,aI,aF hu,aj,eR];by_cases h0:i.size=0
   ·simp[h0]
   ·simp[h0,sameAddr]
  ·cases hx;cases hy;cases h;exact⟨λd=>by simp[Op.equalIn,aF hu],by simp[jU]⟩
  ·cases hx;cases hy;cases h;exact⟨λd=>by simp[Op.equalIn,aF hu],by simp[jU]⟩
 ·obtain⟨e,hu⟩:=S8 hek;split at h
  ·cases hx;cases hy;cases h;exact⟨λd=>by simp[Op.equalIn,aF hu],by simp[jU]⟩
  ·cases hx;cases hy;cases h;exact⟨λd=>by simp[Op.equalIn,aF hu],by simp[jU]⟩
  ·cases hx;cases hy;cases h;exact⟨λd=>by simp[Op.equalIn,aF hu],by simp[jU]⟩
  ·cases h
 ·obtain⟨k,e,hu⟩:=acR hek;split at h
  ·cases hx;cases hy;cases h;exact⟨λd=>by simp[Op.equalIn,aF hu],by simp[jU]⟩
  ·cases hx;cases hy;cases h;exact⟨λd=>by simp[Op.equalIn,aF hu],by simp[jU]⟩
  ·cases hx;cases hy;cases h;exact⟨λd=>by simp[Op.equalIn,aF hu],by simp[jU]⟩
  ·cases h
 ·obtain⟨ms,hu⟩:=AM hek;obtain⟨hc,h'⟩:=aY h;cases h';cases hx;cases hy;exact⟨λd=>by simp[Op.equalIn,aF hu],by simp[jU,hc]⟩
 ·obtain⟨ms,hu⟩:=AM hek;cases hx;cases hy;cases h;exact⟨λd=>by simp[Op.equalIn,aF hu],by simp[jU]⟩
 ·obtain⟨ms,hu⟩:=AM hek;cases hx;cases hy;cases h;exact⟨λd=>by simp[Op.equalIn,aF hu],by simp[jU]⟩
 ·obtain⟨a,b',c,hu⟩:=Dv hek;cases hx;cases hy;cases h;exact⟨λd=>by simp[Op.equalIn,aF hu],by simp[jU]⟩
 ·obtain⟨a,b',c,hu⟩:=Dv hek;cases hx;cases hy<;>cases h<;>exact⟨λd=>by simp[Op.equalIn,aF hu],by simp[jU]⟩
 ·obtain⟨a,b',c,hu⟩:=Dv hek;cases hy;cases hx<;>cases h<;>exact⟨λd=>by simp[Op.equalIn,aF hu],by simp[jU]⟩
 ·cases h
def S9 {op:BinOp} {o:Option Bool} (h:aat op o=some v):∃b,o=some b∧((op= .eql∧v= .bool b)∨(op= .neq∧v= .bool (!b))):=by
 cases op<;>simp only[aat]at h<;>try (cases h)
 ·obtain⟨b,rfl,hv⟩:=ak h;rw[fy]at hv;cases hv;exact⟨b,rfl,.inl ⟨rfl,rfl⟩⟩
 ·obtain⟨b,rfl,hv⟩:=ak h;rw[fy,lq]at hv;cases hv;exact⟨b,rfl,.inr ⟨rfl,rfl⟩⟩
def binOp_eql {y':Value} {Ba:Bool} (h:jU x' y' Ba):binOp .eql t x' y'=(do pure (.bool (<-Op.equal t x' y'))):=by
 obtain⟨n1,n2,n3,n4,_,_⟩:=h;cases x'<;>cases y'<;>first
  |rfl
  |exact(n1 _ _ _ _ ⟨rfl,rfl⟩).elim
  |exact(n2 _ _ ⟨rfl,rfl⟩).elim
  |exact(n3 _ _ _ _ ⟨rfl,rfl⟩).elim
  |exact(n4 _ _ _ _ _ _ ⟨rfl,rfl⟩).elim
def binOp_neq {y':Value} {Ba:Bool} (h:jU x' y' Ba):binOp .neq t x' y'=(do pure (.bool (!(<-Op.equal t x' y')))):=by
 obtain⟨n1,n2,n3,n4,_,_⟩:=h;cases x'<;>cases y'<;>first
  |rfl
  |exact(n1 _ _ _ _ ⟨rfl,rfl⟩).elim
  |exact(n2 _ _ ⟨rfl,rfl⟩).elim
  |exact(n3 _ _ _ _ ⟨rfl,rfl⟩).elim
  |exact(n4 _ _ _ _ _ _ ⟨rfl,rfl⟩).elim
def PL {op:BinOp} {ox oy:Operand} {y':Value} {Ba:Bool} (w:World) (hc:Ba=true->(JU ox=true∨JU oy=true)) (h1:(x'= .nilIface∧y'= .nilIface)->Ba=true) (h2:∀a c,¬(x'= .agg a∧y'= .agg c)):(eqGuard op t ox oy x' y').run P w= .ok () w:=by
 by_cases hn:x'= .nilIface∧y'= .nilIface
 ·have hcc:=hc (h1 hn);obtain⟨rfl,rfl⟩:=hn;unfold eqGuard;rcases hcc with h|h
  ·cases ox<;>first|(cases h;done)|(cases op<;>rfl)
  ·cases oy<;>first|(cases h;done)|(cases ox<;>cases op<;>rfl)
 ·unfold eqGuard;cases op<;>first|rfl|(cases x'<;>cases y'<;>first|rfl|exact(hn ⟨rfl,rfl⟩).elim|exact(h2 _ _ ⟨rfl,rfl⟩).elim)
def Ta {op:BinOp} {ox oy:Operand} {y':Value} {Ba:Bool} (w:World) (hc:Ba=true->(JU ox=true∨JU oy=true)) (h:Wm op (Af P t) Ba y x=some v) (hx:bN ρ x x') (hy:bN ρ y y'):
  ((do eqGuard op t ox oy x' y';binOp op t x' y'):Sem Value).run P w= .ok v w∧bN ρ v v:=by
 have LP:∀(x' y':Value),((x'= .nilIface∧y'= .nilIface)->Ba=true)->(∀a c,¬(x'= .agg a∧y'= .agg c))->(eqGuard op t ox oy x' y').run P w= .ok () w:=
  λx' y' h1 h2=>PL w hc h1 h2
 unfold Wm at h;split at h
 ·rename_i k a k' b;cases hx;cases hy;rw[bW]at h;have hg:=LP (.int k a) (.int k' b) (by simp) (by simp);split at h
  ·rename_i hs;obtain⟨n,hn,h⟩:=ak h;have hb:=pr hn;subst hb;obtain⟨m,hm,rfl⟩:=PJ (P:=P) (t:=t) (k':=k') w h;exact⟨by simp[hg,hm],.int _ _⟩
  ·rename_i hs;obtain⟨hk,hb⟩:=aY h;have oL:=tc.1 hk;subst oL;obtain⟨n,hr,hv⟩:=CA (P:=P) (t:=t) w (by simpa using hs) hb;refine⟨by simp[hg,hr],?_⟩;rcases hv with rfl|⟨c,rfl⟩
   ·exact .int _ _
   ·exact .bool _
 ·rename_i a b;cases hx;cases hy;have hg:=LP (.string a) (.string b) (by simp) (by simp);obtain⟨hr,hv⟩:=MN (P:=P) (ρ:=ρ) (t:=t) w h;exact⟨by simp[hg,hr],hv⟩
 ·rename_i k a L;unfold abw at h;split at h
  ·rename_i a0;obtain⟨hle,h⟩:=aY h;cases h;cases hx;cases hy with
   |junk _ _ _ _ hj=>
    obtain⟨c,rfl,hc⟩:=hj rfl;have hle:a0<=L:=aO hle;have hg:=LP (.int .i64 (.ofNat a0)) (.int .i64 (c:Int)) (by simp) (by simp);have hb:vw .gtr .i64 (.ofNat a0) (c:Int)=some (.bool false):=by
     show fG (Nat.blt c a0)=_;have:Nat.blt c a0=false:=by
      cases e:Nat.blt c a0 with
      |false=>rfl
      |true=>have:c<a0:=aO e;omega
     rw[this];rfl
    obtain⟨n,hr,_⟩:=CA (P:=P) (t:=t) w rfl hb;exact⟨by simp only[aI,hg,aj,hr],.bool _⟩
  ·cases h
 ·rename_i h1 h2;obtain⟨b,hb,hv⟩:=S9 h;obtain⟨hr0,j7⟩:=XF (P:=P) (ρ:=ρ) w rfl hb hx hy;have hr:(Op.equal t x' y').run P w= .ok b w:=hr0 9999;have hg:=LP x' y' j7.2.2.2.2.1 j7.2.2.2.2.2;rcases hv with ⟨rfl,rfl⟩|⟨rfl,rfl⟩
  ·exact⟨by simp[hg,binOp_eql j7,hr],.bool _⟩
  ·exact⟨by simp[hg,binOp_neq j7,hr],.bool _⟩
def XG {op:UnOp} (w:World) (h:JI op x=some v) (hx:bN ρ x x'):(Op.unary op x').run P w= .ok v w∧bN ρ v v:=by
 unfold JI at h;split at h
 ·cases hx;rw[fy,lq]at h;cases h;exact⟨rfl,.bool _⟩
 ·cases hx;rw[jZ]at h;cases h;rename_i k n;exact⟨by simp only[Op.unary,Op.intArith,aN];rfl,.int _ _⟩
 ·cases hx;rw[fI]at h;cases h;exact⟨by simp[Op.unary,Op.intBits],.int _ _⟩
 ·cases h
def ET {cs QM:LVal} (w:World) (h:Uj P t cs off=some v) (hc:bJ ρ cs QM):
  ∃u,(part t ⟨QM⟩ off).run P w= .ok u w∧bN ρ v u:=by
 unfold Uj at h;obtain⟨b,hb,h⟩:=ak h;rw[bW]at h;have hA:=we hb w;split at h
 ·rename_i hbt;subst hbt;obtain⟨k,hk,h⟩:=ak h;obtain⟨l,hl,h⟩:=ak h;obtain⟨r,hr,h⟩:=ak h;cases h;obtain⟨rfl,h1⟩:=uJ _ _ _ hl;obtain⟨rfl,h2⟩:=Ca _ _ _ hr;refine⟨.agg ((⟨QM⟩:Array Value).extract off (off+k)),by simp[part,hA,dS hk w],.agg ?_⟩;simp only[Array.toList_extract,amt];have:=(hc.drop off).take k;simpa using this
 ·rename_i Y7;have Y7:b=false:=by simpa using Y7
  subst Y7;obtain⟨l,hl,h⟩:=ak h;obtain⟨rfl,h1⟩:=uJ _ _ _ hl;cases hd:cs.drop off with
  |nil=>rw[hd]at h;cases h
  |cons a r=>
   rw[hd]at h;injection h with h
   subst h;have vi:cs[off]? =some a:=by have:=congrArg (λl=>l[0]?) hd;simpa using this
   obtain⟨u,hu,hr⟩:=hc.get vi;exact⟨u,by simp[part,hA,hu],hr⟩
def MO (w:World) (h:RZ P t f x=some v) (hx:bN ρ x x'):∃u,(Instr.field t x' f).run P w= .ok u w∧bN ρ v u:=by
 unfold RZ at h;split at h
 ·rename_i cs;obtain⟨fl,hf,h⟩:=ak h;cases hx;rename_i QM hc;unfold fieldsOf at hf;split at hf
  ·rename_i fs hu;obtain⟨u,hr,hv⟩:=ET (P:=P) (ρ:=ρ) w h hc;refine⟨u,?_,hv⟩;have:(⟨QM.toList⟩:Array Value)=QM:=rfl;rw[this]at hr;simp[Instr.field,aF hu,hf,asAgg,hr]
  ·cases hf
 ·cases h
def Eg (w:World) (h:AK P t f x=some v) (hx:bN ρ x x'):∃u,(Instr.fieldAt t x' f).run P w= .ok u w∧bN ρ v u:=by
 unfold AK at h;split at h
 ·rename_i a;obtain⟨fl,hf,h⟩:=ak h;obtain⟨n,hn,h⟩:=ak h;obtain⟨h0,h⟩:=lK h;rw[bD]at h;cases h;cases hx with| @ptr a x off hx=>?_
  have h0':¬n=0:=ayJ h0;unfold fieldsOf at hf;split at hf
  ·rename_i fs hu;refine⟨.pointer (some ⟨x.b,x.base+(off+fl.offset),none⟩),?_,.ptr _ hx⟩;simp only[Instr.fieldAt,aI,aF hu,aj,hf,Instr.sureAddr,aN,fieldPlace,dS hn w,NA,aC h0'];congr 4;unfold Addr.add;split
   ·rename_i e;rw[e];simp
   ·simp[gx]
  ·cases hf
 ·cases h
def qT {i:Int} {m:Nat} (h:indexOf i n=some m):i=(m:Int)∧m<n:=by
 cases i with
 |ofNat k=>obtain⟨hb,h⟩:=aY (show aD (Nat.blt k n) (some k) none=some m from h);cases h;exact⟨rfl,by simpa[Fi]using hb⟩
 |negSucc k=>cases h
def kM (b o n:Nat):(⟨b,o,none⟩:Addr).add n=⟨b,o+n,none⟩:=by
 unfold Addr.add;split
 ·rename_i e;rw[e];rfl
 ·rfl
def Eh {i i':Value} (w:World) (h:rN P (P.underlying t) x i=some v) (hx:bN ρ x x') (hi:bN ρ i i'):
  ∃u,(Instr.indexAt t x' i').run P w= .ok u w∧bN ρ v u:=by
 unfold rN at h;split at h
 ·rename_i k i;cases hi;split at h
  ·rename_i a n c;split at h
   ·rename_i e hu;unfold elemAt at h;obtain⟨m,hm,h⟩:=ak h;obtain⟨sz,hs,h⟩:=ak h;rw[bD]at h;cases h;obtain⟨rfl,cS⟩:=qT hm;cases hx with| @slice a x off n c cap ad hx h1 h2 h3 h4 h5=>?_
    have IV:cap≠0:=by omega
    have h4:=h4.resolve_right IV;subst h4;refine⟨.pointer (some ⟨x.b,x.base+(off+m*sz),none⟩),?_,.ptr _ hx⟩;have hle:(0:Int)<=(m:Int)∧(m:Int)<(n:Int):=⟨by omega,by omega⟩
    simp only[Instr.indexAt,aI,asIntOf,aN,aj,aF hu,aU hle,dS hs w,NA];rw[kM];simp[gx]
   ·cases h
  ·rename_i a;split at h
   ·rename_i n e hu;unfold elemAt at h;obtain⟨m,hm,h⟩:=ak h;obtain⟨sz,hs,h⟩:=ak h;rw[bD]at h;cases h;obtain⟨rfl,cS⟩:=qT hm;cases hx with| @ptr a x off hx=>?_
    refine⟨.pointer (some ⟨x.b,x.base+(off+m*sz),none⟩),?_,.ptr _ hx⟩;have hle:(0:Int)<=(m:Int)∧(m:Int)<(n:Int):=⟨by omega,by omega⟩
    simp only[Instr.indexAt,aI,asIntOf,aN,aj,aF hu,Instr.sureAddr,aU hle,dS hs w,NA];rw[kM];simp[gx]
   ·cases h
  ·rename_i g off;split at h
   ·rename_i n e hu;unfold akv at h;obtain⟨m,hm,h⟩:=ak h;obtain⟨sz,hs,h⟩:=ak h;rw[bD]at h;cases h;obtain⟨rfl,cS⟩:=qT hm;cases hx with| @EJ g off=>?_
    refine⟨.pointer (some ⟨g,off+m*sz,none⟩),?_,.EJ _ _⟩;have hle:(0:Int)<=(m:Int)∧(m:Int)<(n:Int):=⟨by omega,by omega⟩
    simp only[Instr.indexAt,aI,asIntOf,aN,aj,aF hu,Instr.sureAddr,aU hle,dS hs w,NA];rw[kM];simp
   ·cases h
  ·cases h
 ·cases h
def Tb:∀ {n:Nat} {l:List UInt8} {v:Value},akt l n=some v->∃b,l[n]? =some b∧v= .int .u8 b.toNat:=by
 intro n;induction n with
 |zero=>
  intro l v h;cases l with
  |nil=>cases h
  |cons b l=>have h':cG b.toNat (λn=>some (Value.int .u8 (.ofNat n)))=some v:=h;rw[bD]at h';cases h';exact⟨b,rfl,rfl⟩
 |succ n ih=>
  intro l v h;cases l with
  |nil=>cases h
  |cons b l=>obtain⟨c,hc,hv⟩:=ih (l:=l) h;exact⟨c,by simpa using hc,hv⟩
def MP {i i':Value} (w:World) (h:R3 P (P.underlying t) x i=some v) (hx:bN ρ x x') (hi:bN ρ i i'):
  ∃u,(Instr.index t x' i').run P w= .ok u w∧bN ρ v u:=by
 unfold R3 at h;split at h
 ·rename_i k i;cases hi;split at h
  ·rename_i b;split at h
   case h_2=>cases h
   rename_i hu;obtain⟨m,hm,h⟩:=ak h;have:=pr hm;subst this;obtain⟨c,hc,rfl⟩:=Tb h;cases hx;refine⟨_,?_,.int _ _⟩;have hle:(0:Int)<=(m:Int):=by omega
   have vi:b[((m:Int)).toNat]? =some c:=by rw[sO];rw[<-hc];simp[getElem?_def];rfl
   simp only[Instr.index,aI,asIntOf,aN,aj,aF hu,aU hle,vi]
  ·rename_i cs;split at h
   ·rename_i n e hu;obtain⟨m,hm,h⟩:=ak h;obtain⟨sz,hs,hp⟩:=ak h;obtain⟨rfl,cS⟩:=qT hm;cases hx;rename_i QM hc;obtain⟨u,hr,hv⟩:=ET (P:=P) (ρ:=ρ) w hp hc;refine⟨u,?_,hv⟩;have hle:(0:Int)<=(m:Int)∧(m:Int)<(n:Int):=⟨by omega,by omega⟩
    have:(⟨QM.toList⟩:Array Value)=QM:=rfl;rw[this]at hr;simp only[Instr.index,aI,asIntOf,aN,aj,aF hu,aU hle,dS hs w,NA];simpa using hr
   ·cases h
  ·cases h
 ·cases h
def Iz (w:World) (h:fB i x=some v) (hx:bN ρ x x'):∃u,(Instr.extract x' i).run P w= .ok u w∧bN ρ v u:=by
 unfold fB at h;split at h
 ·rename_i vs;unfold awj at h;obtain⟨l,hl,h⟩:=ak h;obtain⟨rfl,h1⟩:=uJ _ _ _ hl;cases hd:vs.toList.drop i with
  |nil=>rw[hd]at h;cases h
  |cons a r=>
   rw[hd]at h;injection h with h
   subst h;have vi:vs.toList[i]? =some a:=by have:=congrArg (λl=>l[0]?) hd;simpa using this
   cases hx;rename_i QN hc;obtain⟨u,hu,hr⟩:=hc.get vi;refine⟨u,?_,hr⟩;have zI:QN[i]? =some u:=by simpa using hu
   simp[Instr.extract,zI]
 ·cases h
def Tc (w:World) (h:anF P (sj P ts 0) l=some v) (hl:bJ ρ l l'):
  (Builtin.len_ ts ty ⟨l'⟩).run P w= .ok v w∧bN ρ v v:=by
 unfold anF sj at h;cases ht:ts[0]? with
 |none=>rw[ht]at h;cases h
 |some t=>
  rw[ht]at h;simp only at h;split at h
  ·rename_i e a n c hu;cases h;cases hl with|cons hx hs=>cases hs;cases hx<;>exact⟨by simp[Builtin.len_,ht,aF hu,goInt],.int _ _⟩
  ·rename_i b hu;rw[bD,dQ]at h;cases h;cases hl with|cons hx hs=>cases hs;cases hx;exact⟨by simp[Builtin.len_,ht,aF hu,goInt],.int _ _⟩
  ·rename_i n e x hu;cases h;cases hl with|cons hx hs=>cases hs;exact⟨by simp[Builtin.len_,ht,aF hu,goInt],.int _ _⟩
  ·rename_i arr x hu;split at h
   ·rename_i n e hu2;cases h;cases hl with|cons hx hs=>cases hs;exact⟨by simp[Builtin.len_,ht,aF hu,aF hu2,goInt],.int _ _⟩
   ·cases h
  ·cases h
def Td (w:World) (h:Wo (sj P ts 0) l=some v) (hl:bJ ρ l l'):
  ∃u,(Builtin.cap_ ts ty ⟨l'⟩).run P w= .ok u w∧bN ρ v u:=by
 unfold Wo sj at h;cases ht:ts[0]? with
 |none=>rw[ht]at h;cases h
 |some t=>
  rw[ht]at h;simp only at h;split at h
  ·rename_i e a n c hu;rw[bW]at h;split at h
   ·rename_i he;rw[bD]at h;cases h;cases hl with
    |cons hx hs=>
     cases hs;cases hx with
     |gi=>exact⟨_,by simp[Builtin.cap_,ht,aF hu,goInt,mq],.int _ _⟩
     |slice off n c cap ad hx h1 h2 h3 h4 h5=>have:c%2=1:=au (show Nat.beq (Nat.mod c 2) 1=true from he);have hc:=h3 this;subst hc;exact⟨_,by simp[Builtin.cap_,ht,aF hu,goInt,mq];rfl,.int _ _⟩
   ·rw[bD]at h;cases h;cases hl with
    |cons hx hs=>
     cases hs;cases hx with
     |gi=>rename_i he;exact(he rfl).elim
     |slice off n c cap ad hx h1 h2 h3 h4 h5=>exact⟨.int .i64 cap,by simp[Builtin.cap_,ht,aF hu,goInt],.junk _ _ _ rfl λ_=>⟨cap,rfl,h2⟩⟩
  ·cases h
def EU {f:Value->Value->bQ} {g:Value->Value->Sem Value} (w:World) (hfg:∀x y x' y' v,f x y=some v->bN ρ x x'->bN ρ y y'->∃u,(g x' y').run P w= .ok u w∧bN ρ v u):
  ∀ {l l':LVal} {x x' v:Value},aav f l x=some v->bJ ρ l l'->bN ρ x x'->∃u,(l'.foldlM g x').run P w= .ok u w∧bN ρ v u:=by
 intro l;induction l with
 |nil=>intro l' x x' v h hl hx;cases h;cases hl;exact⟨x',rfl,hx⟩
 |cons y l ih=>
  intro l' x x' v h hl hx;cases hl with
  |cons hy hs=>obtain⟨z,hz,h⟩:=ak (show ob (f x y) (aav f l)=some v from h);obtain⟨u,hu,hr⟩:=hfg _ _ _ _ _ hz hx hy;obtain⟨q,hq,oK⟩:=ih h hs hr;exact⟨q,by simp[List.foldlM,hu,hq],oK⟩
def XH (w:World) (h:Eo aau l=some v) (hl:bJ ρ l l'):
  ∃u,(Builtin.max_ ts ty ⟨l'⟩).run P w= .ok u w∧bN ρ v u:=by
 cases hl with
 |nil=>cases h
 |cons hx hs=>
  refine EU (P:=P) w ?_ h hs hx;intro x y x' y' v h hx hy;unfold aau at h;split at h
  ·cases h;cases hx;cases hy;rename_i k a k' b;rw[bW,qo];refine⟨_,?_,.int _ _⟩;by_cases cS:a<b<;>simp[Builtin.max2,cS]
  ·cases h
def XI (w:World) (h:Eo Gn l=some v) (hl:bJ ρ l l'):
  ∃u,(Builtin.min_ ts ty ⟨l'⟩).run P w= .ok u w∧bN ρ v u:=by
 cases hl with
 |nil=>cases h
 |cons hx hs=>
  refine EU (P:=P) w ?_ h hs hx;intro x y x' y' v h hx hy;unfold Gn at h;split at h
  ·cases h;cases hx;cases hy;rename_i k a k' b;rw[bW,qo];refine⟨_,?_,.int _ _⟩;by_cases cS:b<a<;>simp[Builtin.min2,cS]
  ·cases h
inductive rq (ρ:Ren):bQ->bQ->Prop where
 |none:rq ρ none none
 |some {v u:Value} (h:bN ρ v u):rq ρ (some v) (some u)
def qc {d l:Nat} {o o':bQ} (h:jT d o=some l) (ho:rq ρ o o'):(o'=none∧l=d)∨∃k,o'=some (.int k (l:Int)):=by
 unfold jT at h;split at h
 ·cases h;cases ho;exact .inl ⟨rfl,rfl⟩
 ·rename_i k n;have:=pr h;subst this;cases ho with|some hv=>cases hv;exact .inr ⟨_,rfl⟩
 ·cases h
def gp {k:IntKind} {l y:Nat} {code:BoundsCode} (w:World) (h:l<=y):(Instr.sliceBound (.int k (l:Int)) y code).run P w= .ok l w:=by
 have hle:(0:Int)<=(l:Int)∧(l:Int)<=(y:Int):=⟨by omega,by omega⟩
 simp only[Instr.sliceBound,aI,asIntOf,aN,aj,aU hle,sO]
def kQ {isS:Bool} {cap l h:Nat} {lo hi sy pQ:bQ} (w:World) (hl:jT 0 lo=some l) (hh:jT n hi=some h) (rl:rq ρ lo sy) (rh:rq ρ hi pQ) (h1:l<=h) (h2:h<=cap):
  (Instr.sliceBounds isS n cap sy pQ none).run P w= .ok (l,h,cap) w:=by
 rcases qc hl rl with ⟨rfl,rfl⟩|⟨k,rfl⟩<;>rcases qc hh rh with ⟨rfl,rfl⟩|⟨k',rfl⟩
 ·simp[Instr.sliceBounds]
 ·simp[Instr.sliceBounds,gp w h2]
 ·simp[Instr.sliceBounds,gp w h1]
 ·simp[Instr.sliceBounds,gp w h1,gp w h2]
def va {isS:Bool} {cap l h m:Nat} {lo hi mx sy pQ Y8:bQ} (w:World) (hl:jT 0 lo=some l) (hh:jT n hi=some h) (hm:jT 0 mx=some m) (rl:rq ρ lo sy) (rh:rq ρ hi pQ) (rm:rq ρ mx Y8) (e1:hi=some v) (e2:mx=some u) (h1:l<=h) (h2:h<=m) (h3:m<=cap):(Instr.sliceBounds isS n cap sy pQ Y8).run P w= .ok (l,h,m) w:=by
 subst e1;subst e2;rcases qc hm rm with ⟨rfl,_⟩|⟨k3,rfl⟩
 ·cases rm
 rcases qc hh rh with ⟨rfl,_⟩|⟨k2,rfl⟩
 ·cases rh
 rcases qc hl rl with ⟨rfl,rfl⟩|⟨k,rfl⟩
 ·simp[Instr.sliceBounds,gp w h3,gp w h2]
 ·simp[Instr.sliceBounds,gp w h3,gp w h2,gp w h1]
def oi {l h m:Nat} {β:Type} {o:Option β} {v:β} (e:aD (mM l h m) o none=some v):l<=h∧h<=m∧o=some v:=by
 obtain⟨hb,e⟩:=aY e;have iR:aD (Nat.ble l h) (Nat.ble h m) false=true:=hb;rw[bW]at iR;split at iR
 ·rename_i h1;exact⟨aO h1,aO iR,e⟩
 ·cases iR
def oj {a:Addr} {c:Nat} (h:mkSlice a off n c=some v):v= .slice (some ⟨a.block,off,none⟩) n c:=by unfold mkSlice at h;simp only[bD]at h;exact(bh h).symm
def Jt {sz:Nat} {base:Option Addr} {c:Nat} {lo hi mx sy pQ Y8:bQ} (w:World) (hu:P.underlying t=some (.slice e)) (hs:dc P e=some sz) (h:vJ sz base n c lo hi mx=some v) (hx:bN ρ (.slice base n c) x') (rl:rq ρ lo sy) (rh:rq ρ hi pQ) (rm:rq ρ mx Y8):
  ∃u,(Instr.sliceAt t x' sy pQ Y8).run P w= .ok u w∧bN ρ v u:=by
 unfold vJ at h;obtain⟨l,hl,h⟩:=ak h;obtain⟨hh,Xa,h⟩:=ak h;have red:(Instr.sliceAt t x' sy pQ Y8).run P w=(Instr.slice t x' sy pQ Y8).run P w:=by simp only[Instr.sliceAt,aI,aF hu,aj]
 rw[red];split at h
 ·cases rm;obtain⟨h1,h2,h⟩:=oi h;cases hx with
  |gi=>
   have h20:hh=0:=by have:mq none 0=0:=rfl;omega
   subst h20;have NZ:l=0:=by omega
   subst NZ;cases h;have hb:=kQ (P:=P) (ρ:=ρ) (isS:=true) (cap:=0) w hl Xa rl rh (af _) (af _);exact⟨_,by simp[Instr.slice,aF hu,hb,dS hs w],.gi⟩
  | @slice a x off n c cap ad hx k1 k2 k3 k4 k5=>
   have hcl:mq (some (⟨a,off,none⟩:Addr)) c=c/512:=rfl;rw[hcl]at h2;have h2':hh<=cap:=by omega
   have hb:=kQ (P:=P) (ρ:=ρ) (isS:=true) (cap:=cap) w hl Xa rl rh h1 h2';have dK:(Instr.slice t (.slice (some ad) n cap) sy pQ none).run P w= .ok (.slice (if cap=l then some ad else some (ad.add (l*sz))) (hh-l) (cap-l)) w:=by simp only[Instr.slice,aI,aF hu,aj,hb,dS hs w,aN,FX]
   rw[dK];have anJ:∃ad2:Addr,(if cap=l then some ad else some (ad.add (l*sz)))=some ad2∧(ad2=⟨x.b,x.base+(off+l*sz),none⟩∨cap-l=0):=by
    by_cases e:cap=l
    ·exact⟨ad,by rw[aU e],.inr (by omega)⟩
    ·refine⟨ad.add (l*sz),by rw[aC e],.inl ?_⟩;have:=k4.resolve_right (by omega);subst this;rw[kM];simp[gx]
   obtain⟨ad2,e2,hd⟩:=anJ;rw[e2];simp only at h;rw[bW]at h;split at h
   ·rename_i hex;have anK:c%2=1:=au (show Nat.beq (Nat.mod c 2) 1=true from hex);have IV:=k3 anK;rw[oj h];have Bk:bH (Nat.sub (Nat.div c 512) l)/512=cap-l:=by
     show(512*(c/512-l)+1)/512=cap-l;rw[IV];omega
    have e2':bH (Nat.sub (Nat.div c 512) l)%2=1:=by show(512*(c/512-l)+1)%2=1;omega
    refine⟨_,rfl,bN.slice _ _ _ _ ad2 hx ?_ ?_ ?_ hd ?_⟩
    ·rw[Bk];show hh-l<=cap-l;omega
    ·rw[Bk];exact af _
    ·intro _;rw[Bk]
    ·intro he;rw[e2']at he;cases he
   ·rename_i hex;have anK:c%2=0:=by
     have hf:xF (some (⟨a,off,none⟩:Addr)) c=false:=by simpa using hex
     have:=ayJ (show Nat.beq (c%2) 1=false from hf);omega
    obtain⟨eR,h⟩:=aY h;have yU:c%512/2=sz:=au eR;rw[oj h];have cS:sz<256:=by omega
    have Bk:cq (Nat.sub (Nat.div c 512) l) sz/512=c/512-l:=by show(512*(c/512-l)+2*sz)/512=_;omega
    have e2':cq (Nat.sub (Nat.div c 512) l) sz%2=0:=by show(512*(c/512-l)+2*sz)%2=0;omega
    have es:cq (Nat.sub (Nat.div c 512) l) sz%512/2=sz:=by show(512*(c/512-l)+2*sz)%512/2=sz;omega
    refine⟨_,rfl,bN.slice _ _ _ _ ad2 hx ?_ ?_ ?_ hd ?_⟩
    ·rw[Bk];show hh-l<=c/512-l;omega
    ·rw[Bk];omega
    ·intro he;rw[e2']at he;cases he
    ·intro _;rw[es];have:=k5 anK;rw[yU]at this;show x.base+(off+l*sz)+(cap-l)*sz<=x.lim;have hle:l<=cap:=by omega
     have:(cap-l)*sz+l*sz=cap*sz:=by rw[<-dy];congr 1;omega
     omega
 ·rename_i m;obtain⟨mm,hm,h⟩:=ak h;obtain⟨h1,h2,h⟩:=oi h;obtain⟨h3,h⟩:=aY h;have h3':=aO h3;cases hx with
  |gi=>
   have h30:mm=0:=by have:mq none 0=0:=rfl;omega
   subst h30;have hh0:hh=0:=by omega
   subst hh0;have NZ:l=0:=by omega
   subst NZ;cases hi with
   |none=>cases h
   |some hv=>cases h;have hb:=va (P:=P) (ρ:=ρ) (isS:=true) (cap:=0) w hl Xa hm rl rh rm rfl rfl (af _) (af _) (af _);exact⟨_,by simp[Instr.slice,aF hu,hb,dS hs w],.gi⟩
  | @slice a x off n c cap ad hx k1 k2 k3 k4 k5=>
   have hcl:mq (some (⟨a,off,none⟩:Addr)) c=c/512:=rfl;rw[hcl]at h3';have aIC:mm<=cap:=by omega
   cases hi with
   |none=>cases h
   |some hv=>
    simp only at h;have hb:=va (P:=P) (ρ:=ρ) (isS:=true) (cap:=cap) w hl Xa hm rl rh rm rfl rfl h1 h2 aIC;have dK:(Instr.slice t (.slice (some ad) n cap) sy pQ Y8).run P w= .ok (.slice (if mm=l then some ad else some (ad.add (l*sz))) (hh-l) (mm-l)) w:=by simp only[Instr.slice,aI,aF hu,aj,hb,dS hs w,aN,FX]
    rw[dK];have anJ:∃ad2:Addr,(if mm=l then some ad else some (ad.add (l*sz)))=some ad2∧(ad2=⟨x.b,x.base+(off+l*sz),none⟩∨mm-l=0):=by
     by_cases e:mm=l
     ·exact⟨ad,by rw[aU e],.inr (by omega)⟩
     ·refine⟨ad.add (l*sz),by rw[aC e],.inl ?_⟩;have:=k4.resolve_right (by omega);subst this;rw[kM];simp[gx]
    obtain⟨ad2,e2,hd⟩:=anJ;rw[e2,oj h];have Bk:bH (Nat.sub mm l)/512=mm-l:=by show(512*(mm-l)+1)/512=mm-l;omega
    have e2':bH (Nat.sub mm l)%2=1:=by show(512*(mm-l)+1)%2=1;omega
    refine⟨_,rfl,bN.slice _ _ _ _ ad2 hx ?_ ?_ ?_ hd ?_⟩
    ·rw[Bk];show hh-l<=mm-l;omega
    ·rw[Bk];exact af _
    ·intro _;rw[Bk]
    ·intro he;rw[e2']at he;cases he
def CB {sz l h:Nat} {x:Loc} (hx:ρ a=some x) (h1:l<=h) (h2:h<=n):
  bN ρ (.slice (some ⟨a,off+l*sz,none⟩) (h-l) (bH (n-l))) (.slice (some (if n=l then⟨x.b,x.base+off,none⟩else(⟨x.b,x.base+off,none⟩:Addr).add (l*sz))) (h-l) (n-l)):=by
 have Bk:bH (n-l)/512=n-l:=by show(512*(n-l)+1)/512=_;omega
 have e2':bH (n-l)%2=1:=by show(512*(n-l)+1)%2=1;omega
 refine bN.slice _ _ _ _ _ hx ?_ ?_ ?_ ?_ ?_
 ·rw[Bk];omega
 ·rw[Bk];exact af _
 ·intro _;rw[Bk]
 ·by_cases e:n=l
  ·exact .inr (by omega)
  ·left;rw[aC e,kM];simp[gx]
 ·intro he;rw[e2']at he;cases he
def MQ {lo hi mx sy pQ Y8:bQ} (w:World) (h:tC P (P.underlying t) x lo hi mx=some v) (hx:bN ρ x x') (rl:rq ρ lo sy) (rh:rq ρ hi pQ) (rm:rq ρ mx Y8):
  ∃u,(Instr.sliceAt t x' sy pQ Y8).run P w= .ok u w∧bN ρ v u:=by
 unfold tC at h;split at h
 ·rename_i s;generalize hu:P.underlying t=d at h;rcases d with _|d
  ·cases h
  cases d<;>first|(cases h;done)|skip
  ·replace h:GK s.data.toList lo hi mx=some v:=h;unfold GK at h;split at h
   ·cases rm;obtain⟨l,hl,h⟩:=ak h;obtain⟨hh,Xa,h⟩:=ak h;obtain⟨h1,h2,h⟩:=oi h;obtain⟨s1,dm,h⟩:=ak h;obtain⟨s2,ee,h⟩:=ak h;cases h;obtain⟨rfl,_⟩:=acI _ _ _ dm;obtain⟨rfl,_⟩:=ON _ _ _ ee;cases hx;rw[dQ]at Xa h2;have eR:s.data.toList.length=s.size:=by simp
    rw[eR]at Xa h2;have hb:=kQ (P:=P) (ρ:=ρ) (isS:=false) (cap:=s.size) w hl Xa rl rh h1 h2;refine⟨.string (s.extract l hh),?_,?_⟩
    ·simp only[Instr.sliceAt,Instr.slice,aI,aF hu,aj,hb,aN,Option.isSome_none,cE,eG]
    ·have e:(⟨⟨List.take (Nat.sub hh l) (List.drop l s.data.toList)⟩⟩:ByteArray)=s.extract l hh:=by
      apply Cy;apply eh;rw[ByteArray.data_extract,Array.toList_extract,amt];rfl
     rw[e];exact .string _
   ·cases h
 ·rename_i base n c;generalize hu:P.underlying t=d at h;rcases d with _|d
  ·cases h
  cases d<;>first|(cases h;done)|skip
  ·rename_i e;replace h:ob (dc P e) (λsz=>vJ sz base n c lo hi mx)=some v:=h;obtain⟨sz,hs,h⟩:=ak h;exact Jt w hu hs h hx rl rh rm
 ·rename_i a;generalize hu:P.underlying t=d at h;rcases d with _|d
  ·cases h
  cases d<;>first|(cases h;done)|skip
  rotate_left
  ·rename_i n e;replace h:ob (dc P e) (λsz=>jX sz a n lo hi mx)=some v:=h;obtain⟨sz,hs,h⟩:=ak h;unfold jX at h;split at h
   ·cases rm;obtain⟨l,hl,h⟩:=ak h;obtain⟨hh,Xa,h⟩:=ak h;obtain⟨h1,h2,h⟩:=oi h;rw[oj h];cases hx with| @ptr a x off hx=>?_
    have hb:=kQ (P:=P) (ρ:=ρ) (isS:=false) (cap:=n) w hl Xa rl rh h1 h2;refine⟨_,?_,CB hx h1 h2⟩;simp only[Instr.sliceAt,aI,aF hu,aj,Instr.sureAddr,aN,hb,dS hs w]
   ·cases h
  ·rename_i arr;generalize hu2:P.underlying arr=d at h;rcases d with _|d
   ·replace h:(match P.underlying arr with|some (.array n e)=> λlo hi mx=>ob (dc P e) λsz=>jX sz a n lo hi mx|_=> λ_ _ _=>none) lo hi mx=some v:=h;rw[hu2]at h;cases h
   replace h:(match P.underlying arr with|some (.array n e)=> λlo hi mx=>ob (dc P e) λsz=>jX sz a n lo hi mx|_=> λ_ _ _=>none) lo hi mx=some v:=h;rw[hu2]at h;cases d<;>first|(cases h;done)|skip
   ·rename_i n e;replace h:ob (dc P e) (λsz=>jX sz a n lo hi mx)=some v:=h;obtain⟨sz,hs,h⟩:=ak h;unfold jX at h;split at h
    ·cases rm;obtain⟨l,hl,h⟩:=ak h;obtain⟨hh,Xa,h⟩:=ak h;obtain⟨h1,h2,h⟩:=oi h;rw[oj h];cases hx with| @ptr a x off hx=>?_
     have hb:=kQ (P:=P) (ρ:=ρ) (isS:=false) (cap:=n) w hl Xa rl rh h1 h2;refine⟨_,?_,CB hx h1 h2⟩;simp only[Instr.sliceAt,Instr.slice,aI,aF hu,aF hu2,aj,asAddr,aN,hb,dS hs w]
    ·cases h
 ·cases h
def VG {f:Nat->bQ}:∀(l:LVal),(∀(j:Nat) (v:Value),l[j]? =some v->∃u,f j=some u∧bN ρ v u)->∃m,bJ ρ l m∧∀(j:Nat) (u:Value),m[j]? =some u->f j=some u:=by
 intro l;induction l generalizing f with
 |nil=>intro _;exact⟨[],.nil,λj u h=>by simp at h⟩
 |cons v l ih=>
  intro h;obtain⟨u,hu,hr⟩:=h 0 v rfl;obtain⟨m,hm,hg⟩:=ih (f:= λj=>f (j+1)) (λj w hw=>h (j+1) w (by simpa using hw));refine⟨u::m,.cons hr hm,λj x hx=>?_⟩;cases j with
  |zero=>cases hx;exact hu
  |succ j=>exact hg j x (by simpa using hx)
def kT {β:Type} {b:Option eX} {k:T LVal->Nat->Nat->Bool->TypeId->Option β} {v:β} (h:gI b k=some v):∃c sz n ro et,b=some (.cells c sz n ro et)∧k c sz n ro et=some v:=by
 cases b with
 |none=>cases h
 |some b=>cases b<;>first|(cases h;done)|exact⟨_,_,_,_,_,rfl,h⟩
def kG {β:Type} {b:Option eX} {k:TypeId->List (Value×Value×Nat)->Nat->Option β} {v:β} (h:mapOf b k=some v):∃kt es ck,b=some (.map kt es ck)∧k kt es ck=some v:=by
 cases b with
 |none=>cases h
 |some b=>cases b<;>first|(cases h;done)|exact⟨_,_,_,rfl,h⟩
def eN {α β:Type} {o:Option α} {k:α->Option β} {v:β} (h:oR (Option β) none k o=some v):∃a,o=some a∧k a=some v:=ak h
def yr {x:Loc} (hr:Rel P ρ s w) (hx:ρ a=some x) (h:kJ s a off k=some l):
  l.length=k∧∃m,bJ ρ l m∧∀(j:Nat) (u:Value),m[j]? =some u->w.cell? ⟨x.b,x.base+off+j,none⟩=some u:=by
 obtain⟨c,sz,n,ro,et,hb,h⟩:=kT h;obtain⟨e,he,h⟩:=eN h;obtain⟨_,hC⟩:=hr.jI a _ x hb hx;have hC:fY P ρ x w c sz n ro et:=hC;obtain⟨hi,hlen,jG⟩:=hC.cell _ _ he;have hdm:off/sz*sz+off%sz=off:=by rw[gE];exact iJ off sz
 have key:∀(l':LVal) (j0:Nat),(∀j v,l'[j]? =some v->e[off%sz+j]? =some v)->∃m,bJ ρ l' m∧∀(j:Nat) (u:Value),m[j]? =some u->w.cell? ⟨x.b,x.base+off+j,none⟩=some u:=by
  intro l' _ N1;refine VG (f:= λj=>w.cell? ⟨x.b,x.base+off+j,none⟩) l' (λj v hv=>?_);obtain⟨u,hu,oK⟩:=jG _ v (N1 j v hv);refine⟨u,?_,oK⟩;have e2:x.base+(Nat.div off sz*sz+(off%sz+j))=x.base+off+j:=by have:Nat.div off sz=off/sz:=rfl;rw[this];omega
  rw[e2]at hu;exact hu
 rw[bW]at h;split at h
 ·rename_i hk;have oL:=au hk;obtain⟨h0,h⟩:=aY h;cases h;have h0':off%sz=0:=au h0;exact⟨by omega,key _ 0 (λj v hv=>by rw[h0',aG];exact hv)⟩
 ·obtain⟨l1,h1,h⟩:=eN h;obtain⟨rfl,hd⟩:=uJ _ _ _ h1;obtain⟨rfl,ht⟩:=Ca _ _ _ h;have e0:Nat.mod off sz=off%sz:=rfl;rw[e0]at ht hd;refine⟨by simp at ht⊢;rw[e0];omega,key _ 0 (λj v hv=>?_)⟩;rw[e0]at hv;rw[kj]at hv;split at hv
  ·rwa[qV]at hv
  ·cases hv
def PM {n:String} (h:lh n=some vs) (hv:vs[i]? =some v):bN ρ v v:=by
 unfold lh at h;cases hb:(n== "internal/strconv.uint64pow10")with
 |false=>rw[hb]at h;cases h
 |true=>rw[hb]at h;cases h;obtain⟨j,_,rfl⟩:=List.mem_map.1 (cY hv);exact .int _ _
def PN {a a':Value} (hr:Rel P ρ s w) (h:Of P t a=some v) (ha:bN ρ a a'):∃u,(Instr.loadAt t a').run P w= .ok u w∧bN ρ v u:=by
 unfold Of at h;split at h
 ·rename_i g off;cases ha with| @EJ g off=>?_
  obtain⟨b,hb,h⟩:=ak h;have hA:=we hb w;rw[bW]at h;split at h
  ·cases h
  ·rename_i Y7;have Y7:b=false:=by simpa using Y7
   subst Y7;obtain⟨gl,hg,h⟩:=ak h;obtain⟨vs,Fo,h⟩:=ak h;obtain⟨_,_,hc⟩:=hr.gl g gl vs hg Fo;have hc:=hc off v h;refine⟨v,?_,PM Fo h⟩;simp only[Instr.loadAt,Instr.sureAddr,aI,aN,aj,loadVar,hA,cE,eG,run_load,hc]
 ·cases h
def EW {a a':Value} (hr:Rel P ρ s w) (h:xG P t s a=some v) (ha:bN ρ a a'):∃u,(Instr.loadAt t a').run P w= .ok u w∧bN ρ v u:=by
 unfold xG at h;split at h
 ·rename_i ad;cases ha with| @ptr a x off hx=>?_
  obtain⟨b,hb,h⟩:=ak h;have hA:=we hb w;rw[bW]at h;split at h
  ·rename_i hbt;subst hbt;obtain⟨n,hn,h⟩:=ak h;obtain⟨l,hl,h⟩:=ak h;cases h;obtain⟨hlen,m,hm,hg⟩:=yr hr hx hl;have Xb:m.length=n:=by rw[<-hm.length,hlen]
   have dK:=Vx (P:=P) w ⟨x.b,x.base+off,none⟩ m (λj v hv=>by rw[kM];exact hg j v hv);rw[Xb]at dK;exact⟨.agg m.toArray,by simp only[Instr.loadAt,Instr.sureAddr,aI,aN,aj,loadVar,hA,jQ,dS hn w,dK],.agg hm⟩
  ·rename_i Y7;have Y7:b=false:=by simpa using Y7
   subst Y7;obtain⟨l,hl,h⟩:=ak h;obtain⟨hlen,m,hm,hg⟩:=yr hr hx hl;cases l with
   |nil=>cases h
   |cons v0 r=>
    injection h with h
    subst h;cases hm with
    |cons hv hs=>rename_i u ms;have hc:=hg 0 u rfl;rw[ji]at hc;refine⟨u,?_,hv⟩;simp only[Instr.loadAt,Instr.sureAddr,aI,aN,aj,loadVar,hA,cE,eG,run_load,hc]
 ·exact PN hr h ha
def tQ (b:Nat):∀(vs:LVal) (o:Nat) (w:World),(w.setCells b o vs).heap.size=w.heap.size
 | [],_,_=>rfl
 |v::r,o,w=>by rw[World.setCells,tQ b r];simp[World.setCell]
def rY (b:Nat):∀(vs:LVal) (o:Nat) (w:World) (k:Nat),k≠b->(w.setCells b o vs).heap[k]? =w.heap[k]?
 | [],_,_,_,_=>rfl
 |v::r,o,w,k,h=>by rw[World.setCells,rY b r _ _ k h];simp[World.setCell,iW,jd h]
def tR (b:Nat):∀(vs:LVal) (o:Nat) (w:World),(w.setCells b o vs).tape=w.tape∧(w.setCells b o vs).os=w.os∧(w.setCells b o vs).output=w.output∧(w.setCells b o vs).drawn=w.drawn
 | [],_,_=>⟨rfl,rfl,rfl,rfl⟩
 |v::r,o,w=>by rw[World.setCells];exact tR b r (o+1) _
def IA (w:World) (a:Addr) (v:Value) (r:Nat):(w.setCell a v).shape? r=w.shape? r:=by
 simp only[World.shape?,World.setCell,iW];by_cases h:a.block=r
 ·rw[aU h];subst h;cases hk:w.heap[a.block]? with
  |none=>rfl
  |some o=>cases o<;>simp;split<;>simp
 ·rw[aC h]
def qJ (b:Nat):∀(vs:LVal) (o:Nat) (w:World) (r:Nat),(w.setCells b o vs).shape? r=w.shape? r
 | [],_,_,_=>rfl
 |v::rs,o,w,r=>by rw[World.setCells,qJ b rs,IA]
def CC:∀ {l:LVal},cP l=true->∀v∈l,dZ v=true:=by
 intro l;induction l with
 |nil=>intro _ v hv;cases hv
 |cons a l ih=>
  intro h v hv;have h':aD (dZ a) (cP l) false=true:=h;rw[bW]at h';split at h'
  ·rename_i ha;rcases List.mem_cons.1 hv with rfl|hv
   ·exact ha
   ·exact ih h' v hv
  ·cases h'
def ago (v:Value):v.oneCell'=dZ v:=by cases v<;>rfl
def bJ.awk {m:LVal} (h:bJ ρ l m) (h1:∀v∈l,dZ v=true):∀v∈m,v.oneCell'=true:=by
 induction l generalizing m with
 |nil=>cases h;intro v hv;cases hv
 |cons a l ih=>
  cases h with
  |cons h hs=>
   intro v hv;rcases List.mem_cons.1 hv with rfl|hv
   ·rw[ago];exact h.one (h1 _ (by simp))
   ·exact ih hs (λv hv=>h1 v (by simp[hv])) v hv
def CD {x:Loc} {us:LVal} (hr:Rel P ρ s w) (hx:ρ a=some x) (h:ij s a off vs=some s') (hv:bJ ρ vs us):
  ∃w',(storeCells ⟨x.b,x.base+off,none⟩ us).run P w= .ok () w'∧w'=w.setCells x.b (x.base+off) us∧Rel P ρ s' w'∧je ρ s w ρ s' w':=by
 unfold ij at h;obtain⟨Bl,h⟩:=aY h;obtain⟨c,sz,n,ro,et,hb,h⟩:=kT h;obtain⟨ug,h⟩:=lK h;subst ug;obtain⟨e,he,h⟩:=eN h;obtain⟨e',vW,h⟩:=eN h;obtain⟨c',Bb,h⟩:=eN h;obtain⟨cS,hC⟩:=hr.jI a _ x hb hx;have hC:fY P ρ x w c sz n false et:=hC;obtain⟨hi,hlen,jG⟩:=hC.cell _ _ he;obtain⟨Nr,hle⟩:=VE _ _ _ _ vW;have e0:Nat.mod off sz=off%sz:=rfl;have e1:Nat.div off sz=off/sz:=rfl;rw[e0]at Nr hle;rw[e1]at he jG Bb hi;have hdm:off/sz*sz+off%sz=off:=by rw[gE];exact iJ off sz
 have Au:=hv.length;have qg:∀j,j<us.length->(w.cell? ⟨x.b,x.base+off+j,none⟩).isSome=true:=by
  intro j hj;have hj2:off%sz+j<e.length:=by omega
  obtain⟨u,hu,_⟩:=jG (off%sz+j) _ (ba hj2);have e2:x.base+(off/sz*sz+(off%sz+j))=x.base+off+j:=by omega
  rw[e2]at hu;rw[hu];rfl
 have hfz:∀j,j<us.length->w.frozen? ⟨x.b,x.base+off+j,none⟩=false:=by
  intro j hj;cases hf:w.frozen? ⟨x.b,x.base+off+j,none⟩with
  |false=>rfl
  |true=>have:=(hC.free rfl _ hf).1;have:=qg j hj;rw[‹w.cell? _=none›]at this;cases this
 have dK:=run_storeCells_cells (P:=P) x.b (x.base+off) us 0 w (by simpa using qg) (by simpa using hfz) (hv.awk (CC Bl));rw[ji]at dK;obtain⟨ht,ho,hu,_⟩:=tR x.b us (x.base+off) w;refine⟨_,dK,rfl,Rel.write hr h hb rfl hx (tQ _ _ _ _) (λb iR=>rY _ _ _ _ _ iR) ht ho hu ?_⟩;refine⟨λi l hl=>?_,λo sU=>?_,λ_ o sU=>?_,⟨et,(qJ _ _ _ _ _).trans hC.sh,.inl rfl⟩,hC.mult,.inl hC.pn⟩
 ·have hg:=T.jw _ _ _ _ Bb i;rw[hg]at hl;by_cases Y9:i=off/sz
  ·rw[aU Y9]at hl;cases hl;have aID:e'.length=sz:=by rw[Nr];simp;omega
   refine⟨by rw[Y9];exact hi,aID,λj v mu=>?_⟩;subst Y9;have hjl:j<sz:=by
    rcases mH j sz with h|h
    ·exact h
    ·rw[eD (by omega)]at mu;cases mu
   rw[Nr]at mu;by_cases Xc:j<off%sz
   ·have Vb:e[j]? =some v:=by
     rw[ey,cD (by simp;omega),apn Xc]at mu;exact mu
    obtain⟨u,hu,oK⟩:=jG j v Vb;refine⟨u,?_,oK⟩;rw[fH _ _ _ _ _ (λ_ _=> .inl (by show x.base+(off/sz*sz+j)<x.base+off;omega))];exact hu
   ·by_cases hj2:j<off%sz+vs.length
    ·have Vb:vs[j-off%sz]? =some v:=by
      rw[cD (by simp;omega),dw (by simp;omega)]at mu;have:(List.take (off%sz) e).length=off%sz:=by simp;omega
      rw[this]at mu;exact mu
     obtain⟨u,hu,oK⟩:=hv.get Vb;refine⟨u,?_,oK⟩;obtain⟨hjj,hju⟩:=List.getElem?_eq_some_iff.1 hu;have:=sR x.b us (x.base+off) w qg (j-off%sz) hjj;have e2:x.base+off+(j-off%sz)=x.base+(off/sz*sz+j):=by omega
     rw[e2]at this;rw[this,hju]
    ·have Vb:e[j]? =some v:=by
      rw[dw (by simp;omega)]at mu;have:(List.take (off%sz) e++vs).length=off%sz+vs.length:=by simp;omega
      rw[this,qV]at mu;have e3:off%sz+vs.length+(j-(off%sz+vs.length))=j:=by omega
      rw[e3]at mu;exact mu
     obtain⟨u,hu,oK⟩:=jG j v Vb;refine⟨u,?_,oK⟩;rw[fH _ _ _ _ _ (λ_ _=> .inr (by show x.base+off+us.length<=x.base+(off/sz*sz+j);omega))];exact hu
  ·rw[aC Y9]at hl;obtain⟨h1,h2,h3⟩:=hC.cell i l hl;refine⟨h1,h2,λj v mu=>?_⟩;obtain⟨u,hu,oK⟩:=h3 j v mu;refine⟨u,?_,oK⟩;have hjl:j<sz:=by
    rcases mH j sz with h|h
    ·exact h
    ·rw[eD (by omega)]at mu;cases mu
   rw[fH _ _ _ _ _ (λ_ _=>?_)]
   ·exact hu
   ·show x.base+(i*sz+j)<x.base+off∨x.base+off+us.length<=x.base+(i*sz+j);rcases zU Y9 with h|h
    ·left;have:(i+1)*sz<=off/sz*sz:=wH _ h;rw[dy]at this;omega
    ·right;have:(off/sz+1)*sz<=i*sz:=wH _ h;rw[dy]at this;omega
 ·by_cases gP:x.base+off<=o∧o<x.base+off+us.length
  ·have:=sR x.b us (x.base+off) w qg (o-(x.base+off)) (by omega);rw[show x.base+off+(o-(x.base+off))=o by omega]at this;rw[this];rfl
  ·rw[fH _ _ _ _ _ (λ_ _=>by show o<x.base+off∨x.base+off+us.length<=o;omega)];exact hC.all o sU
 ·rw[aPq]at sU;obtain⟨hn,RI⟩:=hC.free rfl o sU;refine⟨?_,RI⟩;by_cases gP:x.base+off<=o∧o<x.base+off+us.length
  ·have:=qg (o-(x.base+off)) (by omega);rw[show x.base+off+(o-(x.base+off))=o by omega,hn]at this;cases this
  ·rw[fH _ _ _ _ _ (λ_ _=>by show o<x.base+off∨x.base+off+us.length<=o;omega)];exact hn
def uK:∀(ls:List LVal) (i:Nat) (t t':T LVal),C0 ls i t=some t'->∀j,t'.get j=if i<=j∧j<i+ls.length then ls[j-i]? else t.get j:=by
 intro ls;induction ls with
 |nil=>intro i t t' h j;cases h;rw[aC (by simp)]
 |cons l ls ih=>
  intro i t t' h j;have h':oR (Option (T LVal)) none (λt1=>C0 ls (Nat.succ i) t1) (T.put (some l) t i)=some t':=h;obtain⟨t1,h1,h2⟩:=eN h';rw[ih _ _ _ h2 j,T.jw _ _ _ _ h1 j];simp only[bU];by_cases hj:j=i
  ·subst hj;rw[aC (by omega),aU rfl,aU (by omega),Fk];rfl
  ·by_cases hc:i<=j∧j<i+(ls.length+1)
   ·rw[aU (by omega),aU hc];have:j-i=(j-(i+1))+1:=by omega
    rw[this];rfl
   ·rw[aC (by omega),aC hj,aC hc]
def tq {sz:Nat}:∀ {ls:List LVal},y8 sz ls=true->∀l∈ls,l.length=sz:=by
 intro ls;induction ls with
 |nil=>intro _ l hl;cases hl
 |cons a ls ih=>
  intro h l hl;have h':aD (Nat.beq (len a) sz) (y8 sz ls) false=true:=h;rw[bW]at h';split at h'
  ·rename_i ha;rcases List.mem_cons.1 hl with rfl|hl
   ·rw[<-dQ];exact au ha
   ·exact ih h' l hl
  ·cases h'
def rJ {sz:Nat}:∀ {ls:List LVal},(∀l∈ls,l.length=sz)->ls.flatten.length=ls.length*sz:=by
 intro ls;induction ls with
 |nil=>intro _;simp
 |cons a ls ih=>intro h;rw[cX,bL,ih (λl hl=>h l (by simp[hl])),h a (by simp),bU,dy];omega
def flat_get {sz:Nat}:∀ {ls:List LVal},(∀l∈ls,l.length=sz)->∀ {i:Nat} {l:LVal},ls[i]? =some l->∀j,j<sz->ls.flatten[i*sz+j]? =l[j]?:=by
 intro ls;induction ls with
 |nil=>intro _ i l h;cases h
 |cons a ls ih=>
  intro h i l hl j hj;have ha:=h a (by simp);cases i with
  |zero=>cases hl;rw[cX,oX,aG,cD (by omega)]
  |succ i=>have:=ih (λl hl=>h l (by simp[hl])) (i:=i) (by simpa using hl) j hj;rw[cX,dw (by rw[dy];omega),<-this];congr 1;rw[dy];omega
def lL (w:World) (C:Array Value) (t:TypeId) (fr:Nat×Nat) (w':World) (hh:w'.heap=w.heap.push (.cells C t fr)) (j:Nat):w'.cell? ⟨w.heap.size,j,none⟩=C[j]?:=by simp[World.cell?,hh]
def yt (w:World) (C:Array Value) (t:TypeId) (fr:Nat×Nat) (w':World) (hh:w'.heap=w.heap.push (.cells C t fr)):w'.shape? w.heap.size=some (t,C.size):=by simp[World.shape?,hh]
def wI (w:World) (C:Array Value) (t:TypeId) (lo hi:Nat) (w':World) (hh:w'.heap=w.heap.push (.cells C t (lo,hi))) (j:Nat):w'.frozen? ⟨w.heap.size,j,none⟩=(decide (lo<=j)&&decide (j<hi)):=by simp[World.frozen?,hh]
def Te {β:Type} {sz:Nat} {k:Nat->AS->Option β} {r:β} {cs rest:LVal} {lo hi:Nat} (hr:Rel P ρ s w) (h:sY s et sz els n k=some r) (hc:bJ ρ els.flatten cs) (QO:∀o,lo<=o->o<hi->cs.length+rest.length<=o∧P.underlying et=some (.int .u8)) (hh:w'.heap=w.heap.push (.cells (cs++rest).toArray et (lo,hi))) (ht:w'.tape=w.tape) (ho:w'.os=w.os) (hu:w'.output=w.output):
  els.length=n∧cs.length=n*sz∧∃s1,k s.nx s1=some r∧Rel P (ρ.put s.nx ⟨w.heap.size,0,cs.length+rest.length,none⟩) s1 w'∧je ρ s w (ρ.put s.nx ⟨w.heap.size,0,cs.length+rest.length,none⟩) s1 w':=by
 unfold sY at h;obtain⟨hn,h⟩:=aY h;obtain⟨hl,h⟩:=aY h;obtain⟨t,EB,h⟩:=eN h;obtain⟨s1,dm,h⟩:=eN h;have hn:els.length=n:=by rw[<-dQ];exact au hn
 have hl:=tq hl;have EC:=rJ hl;have hcl:=hc.length;rw[EC,hn]at hcl;refine⟨hn,hcl.symm,s1,h,?_⟩;have hle:gq ρ (ρ.put s.nx ⟨w.heap.size,0,cs.length+rest.length,none⟩):= λa y e=>by
  unfold Ren.put;by_cases ha:a=s.nx
  ·rw[ha,hr.uz _ (af _)]at e;cases e
  ·rw[aC ha];exact e
 refine Rel.alloc hr dm rfl (by rw[hh];simp) (λb hb=>by rw[hh];simp[cU,fK hb]) ht ho hu ?_;refine⟨λi l uB=>?_,λo sU=>?_,λ_ o sU=>?_,?_,⟨0,by simp⟩,.inl rfl⟩
 ·rw[uK _ _ _ _ EB i]at uB;by_cases Bb:0<=i∧i<0+els.length
  ·rw[aU Bb,yo]at uB;refine⟨by omega,hl l (cY uB),λj v hv=>?_⟩;have hj:j<sz:=by
    rw[<-hl l (cY uB)];exact(List.getElem?_eq_some_iff.1 hv).1
   have hf:=flat_get hl uB j hj;rw[hv]at hf;obtain⟨u,zI,oK⟩:=hc.get hf;refine⟨u,?_,oK.mono hle⟩;rw[lL w _ _ _ _ hh];simp only[aG,eE];rw[cD (List.getElem?_eq_some_iff.1 zI).1];exact zI
  ·rw[aC Bb]at uB;cases uB
 ·rw[lL w _ _ _ _ hh];have N2:o<(cs++rest).length:=by simpa using sU
  simp only[eE];rw[ba N2];rfl
 ·rw[wI w _ _ _ _ _ hh]at sU;simp only[u9,nU]at sU;obtain⟨this,aaB⟩:=QO o sU.1 sU.2;refine⟨?_,aaB⟩;rw[lL w _ _ _ _ hh];simp only[eE];exact eD (by simp;omega)
 ·rw[yt w _ _ _ _ hh];simp
def zk {c:Nat} {r:Value×AS} (h:Wn b n c s=some r):r=(.slice (some ⟨b,0,none⟩) n c,s):=by unfold Wn at h;simp only[bD]at h;cases h;rfl
def AN (n:Nat):bH n/512=n:=by show(512*n+1)/512=n;omega
def Tf (n:Nat):bH n%2=1:=by show(512*n+1)%2=1;omega
def ni {sz:Nat} (h:sz<256):cq n sz/512=n:=by show(512*n+2*sz)/512=n;omega
def wk (n sz:Nat):cq n sz%2=0:=by show(512*n+2*sz)%2=0;omega
def zl {sz:Nat} (h:sz<256):cq n sz%512/2=sz:=by show(512*n+2*sz)%512/2=sz;omega
def iM (ρ:Ren) (a:Nat) (x:Loc):(ρ.put a x) a=some x:=by unfold Ren.put;rw[aU rfl]
def yu {sz cap lo hi:Nat} {r:Value×AS} {cs rest:LVal} (hr:Rel P ρ s w) (h:jk s et sz els n=some r) (hc:bJ ρ els.flatten cs) (IV:n<=cap) (aaC:cs.length+rest.length=cap*sz) (QO:∀o,lo<=o->o<hi->cs.length+rest.length<=o∧P.underlying et=some (.int .u8)) (hh:w'.heap=w.heap.push (.cells (cs++rest).toArray et (lo,hi))) (ht:w'.tape=w.tape) (ho:w'.os=w.os) (hu:w'.output=w.output):
  ∃ρ',bN ρ' r.1 (.slice (some ⟨w.heap.size,0,none⟩) n cap)∧Rel P ρ' r.2 w'∧je ρ s w ρ' r.2 w':=by
 unfold jk at h;obtain⟨eR,h⟩:=aY h;have eR:sz<256:=aO eR;obtain⟨hn,hcl,s1,hk,hR,hS⟩:=Te hr h hc QO hh ht ho hu;rw[zk hk];refine⟨_,?_,hR,hS⟩;have e:(⟨w.heap.size,0,none⟩:Addr)=⟨(⟨w.heap.size,0,cs.length+rest.length,none⟩:Loc).b,(⟨w.heap.size,0,cs.length+rest.length,none⟩:Loc).base+0,none⟩:=rfl;refine .slice 0 n (cq n sz) cap _ (iM _ _ _) (by rw[ni eR];exact af _) (by rw[ni eR];exact IV) (λh=>by rw[wk]at h;cases h) (.inl e) (λ_=>?_);rw[zl eR];show 0+0+cap*sz<=cs.length+rest.length;omega
def Made (P:Program) (ρ:Ren) (w:World) (a:Nat) (m:Sem Value) (v:Value) (k:eX):Prop:=
 ∃x u w',m.run P w= .ok u w'∧x.b=w.heap.size∧w'.heap.size=w.heap.size+1∧(∀b,b<w.heap.size->w'.heap[b]? =w.heap[b]?)∧w'.tape=w.tape∧w'.os=w.os∧w'.output=w.output∧
  bN (ρ.put a x) v u∧qX P (ρ.put a x) x w' k
def xV (h:ρ a=none) (x:Loc):gq ρ (ρ.put a x):= λb y e=>by
 unfold Ren.put;by_cases ha:b=a
 ·rw[ha,h]at e;cases e
 ·rw[aC ha];exact e
def GN {sz:Nat} {cs rest:LVal} {lo hi:Nat} {t:T LVal} (ht:C0 els 0 .e=some t) (hl:∀l∈els,l.length=sz) (hn:els.length=n) (hc:bJ ρ els.flatten cs) (QO:∀o,lo<=o->o<hi->cs.length+rest.length<=o∧P.underlying et=some (.int .u8)) (hh:w'.heap=w.heap.push (.cells (cs++rest).toArray et (lo,hi))):qX P ρ ⟨w.heap.size,0,cs.length+rest.length,none⟩ w' (.cells t sz n false et):=by
 refine⟨λi l uB=>?_,λo sU=>?_,λ_ o sU=>?_,?_,⟨0,by simp⟩,.inl rfl⟩
 ·rw[uK _ _ _ _ ht i]at uB;by_cases Bb:0<=i∧i<0+els.length
  ·rw[aU Bb,yo]at uB;refine⟨by omega,hl l (cY uB),λj v hv=>?_⟩;have hj:j<sz:=by
    rw[<-hl l (cY uB)];exact(List.getElem?_eq_some_iff.1 hv).1
   have hf:=flat_get hl uB j hj;rw[hv]at hf;obtain⟨u,zI,oK⟩:=hc.get hf;refine⟨u,?_,oK⟩;rw[lL w _ _ _ _ hh];simp only[aG,eE];rw[cD (List.getElem?_eq_some_iff.1 zI).1];exact zI
  ·rw[aC Bb]at uB;cases uB
 ·rw[lL w _ _ _ _ hh];have N2:o<(cs++rest).length:=by simpa using sU
  simp only[eE];rw[ba N2];rfl
 ·rw[wI w _ _ _ _ _ hh]at sU;simp only[u9,nU]at sU;obtain⟨this,aaB⟩:=QO o sU.1 sU.2;refine⟨?_,aaB⟩;rw[lL w _ _ _ _ hh];simp only[eE];exact eD (by simp;omega)
 ·rw[yt w _ _ _ _ hh];simp
def Hq {sz l:Nat} {r:Value×AS} (h:jr s et sz els l n=some r) (mi:l<=n):
  ∃k,s.new k=some r.2∧∀ {ρ:Ren} {w w':World} {m:Sem Value} {cs:LVal},ρ s.nx=none->bJ ρ els.flatten cs->m.run P w= .ok (.slice (some ⟨w.heap.size,0,none⟩) l n) w'->
   w'.heap=w.heap.push (.cells cs.toArray et)->w'.tape=w.tape->w'.os=w.os->w'.output=w.output->Made P ρ w s.nx m r.1 k:=by
 unfold jr sY at h;obtain⟨hn,h⟩:=aY h;obtain⟨hl,h⟩:=aY h;obtain⟨t,EB,h⟩:=eN h;obtain⟨s1,dm,h⟩:=eN h;have hn:els.length=n:=by rw[<-dQ];exact au hn
 rw[zk h];refine⟨_,dm,λ {ρ w w' m cs} rE hc dK hh ht ho hu=>?_⟩;have hle:=xV rE ⟨w.heap.size,0,cs.length+([]:LVal).length,none⟩;refine⟨⟨w.heap.size,0,cs.length+([]:LVal).length,none⟩,_,w',dK,rfl,by rw[hh];simp,λb hb=>by rw[hh];simp[cU,fK hb],ht,ho,hu,?_,?_⟩
 ·have e:(⟨w.heap.size,0,none⟩:Addr)=⟨(⟨w.heap.size,0,cs.length+([]:LVal).length,none⟩:Loc).b,(⟨w.heap.size,0,cs.length+([]:LVal).length,none⟩:Loc).base+0,none⟩:=rfl;exact .slice 0 l (bH n) n _ (iM _ _ _) (by rw[AN];exact mi) (by rw[AN];exact af _) (λ_=>(AN n).symm) (.inl e) (λh=>by rw[Tf]at h;cases h)
 ·exact GN (rest:= []) (lo:=0) (hi:=0) EB (tq hl) hn (hc.mono hle) (λo h1 h2=>by omega) (by simpa using hh)
def Tg {sz:Nat} {r:Value×AS} (h:jk s et sz els n=some r):
  ∃k,s.new k=some r.2∧∀ {ρ:Ren} {w w':World} {m:Sem Value} {cs rest:LVal} {cap lo hi:Nat},ρ s.nx=none->bJ ρ els.flatten cs->n<=cap->cs.length+rest.length=cap*sz->(∀o,lo<=o->o<hi->cs.length+rest.length<=o∧P.underlying et=some (.int .u8))->
   m.run P w= .ok (.slice (some ⟨w.heap.size,0,none⟩) n cap) w'->w'.heap=w.heap.push (.cells (cs++rest).toArray et (lo,hi))->w'.tape=w.tape->w'.os=w.os->w'.output=w.output->Made P ρ w s.nx m r.1 k:=by
 unfold jk at h;obtain⟨eR,h⟩:=aY h;have eR:sz<256:=aO eR;unfold sY at h;obtain⟨hn,h⟩:=aY h;obtain⟨hl,h⟩:=aY h;obtain⟨t,EB,h⟩:=eN h;obtain⟨s1,dm,h⟩:=eN h;have hn:els.length=n:=by rw[<-dQ];exact au hn
 rw[zk h];refine⟨_,dm,λ {ρ w w' m cs rest cap lo hi} rE hc IV aaC QO dK hh ht ho hu=>?_⟩;have hle:=xV rE ⟨w.heap.size,0,cs.length+rest.length,none⟩;refine⟨⟨w.heap.size,0,cs.length+rest.length,none⟩,_,w',dK,rfl,by rw[hh];simp,λb hb=>by rw[hh];simp[cU,fK hb],ht,ho,hu,?_,?_⟩
 ·have e:(⟨w.heap.size,0,none⟩:Addr)=⟨(⟨w.heap.size,0,cs.length+rest.length,none⟩:Loc).b,(⟨w.heap.size,0,cs.length+rest.length,none⟩:Loc).base+0,none⟩:=rfl;refine .slice 0 n (cq n sz) cap _ (iM _ _ _) (by rw[ni eR];exact af _) (by rw[ni eR];exact IV) (λh=>by rw[wk]at h;cases h) (.inl e) (λ_=>?_);rw[zl eR];show 0+0+cap*sz<=cs.length+rest.length;omega
 ·exact GN EB (tq hl) hn (hc.mono hle) QO hh
def CE {r:Value×AS} (h:vI s et vs=some r):
  ∃k,s.new k=some r.2∧∀ {ρ:Ren} {w w':World} {m:Sem Value} {us:LVal},ρ s.nx=none->bJ ρ vs us->m.run P w= .ok (.pointer (some ⟨w.heap.size,0,none⟩)) w'->
   w'.heap=w.heap.push (.cells us.toArray et)->w'.tape=w.tape->w'.os=w.os->w'.output=w.output->Made P ρ w s.nx m r.1 k:=by
 unfold vI at h;rw[bD]at h;obtain⟨s',vo,h⟩:=eN h;cases h;refine⟨_,vo,λ {ρ w w' m us} rE hv dK hh ht ho hu=>?_⟩;have hle:=xV rE ⟨w.heap.size,0,us.length,none⟩;refine⟨⟨w.heap.size,0,us.length,none⟩,_,w',dK,rfl,by rw[hh];simp,λb hb=>by rw[hh];simp[cU,fK hb],ht,ho,hu,bN.ptr (x:=⟨w.heap.size,0,us.length,none⟩) 0 (iM _ _ _),?_⟩;refine⟨λi l uB=>?_,λo sU=>?_,λ_ o sU=>?_,?_,⟨0,by simp⟩,.inl rfl⟩
 ·rcases dN i with rfl|⟨m,rfl⟩|⟨m,rfl⟩
  ·rw[T.nW]at uB;cases uB;refine⟨by omega,by rw[dQ],λj v hj=>?_⟩;obtain⟨u,zI,oK⟩:=hv.get hj;refine⟨u,?_,oK.mono hle⟩;rw[lL w _ _ _ _ hh];simp only[oX,aG,eE];exact zI
  ·rw[T.gX,T.ur]at uB;cases uB
  ·rw[T.fQ,T.ur]at uB;cases uB
 ·rw[lL w _ _ _ _ hh];have N2:o<us.length:=sU;simp only[eE];rw[ba N2];rfl
 ·rw[wI w _ _ _ _ _ hh]at sU;simp at sU
 ·rw[yt w _ _ _ _ hh];simp
def J6 {c:T LVal}:∀(n i:Nat) (els:List LVal),elems c n i=some els->els.length=n∧∀j l,els[j]? =some l->c.get (i+j)=some l:=by
 intro n;induction n with
 |zero=>intro i els h;cases h;exact⟨rfl,λj l h=>by simp at h⟩
 |succ n ih=>
  intro i els h;have h':oR (Option (List LVal)) none (λl=>oR (Option (List LVal)) none (λr=>some (l::r)) (elems c n (Nat.succ i))) (c.get i)=some els:=h;obtain⟨l,hl,h'⟩:=eN h';obtain⟨r,hr,h'⟩:=eN h';cases h';obtain⟨h1,h2⟩:=ih _ _ hr;refine⟨by simp[h1],λj m hm=>?_⟩;cases j with
  |zero=>cases hm;exact hl
  |succ j=>rw[show i+(j+1)=Nat.succ i+j by omega];exact h2 j m (by simpa using hm)
def acS {sz:Nat}:∀(n:Nat) (l:LVal) (els:List LVal),chunk sz n l=some els->els.length=n∧n*sz<=l.length∧els.flatten=l.take (n*sz)∧∀e∈els,e.length=sz:=by
 intro n;induction n with
 |zero=>intro l els h;cases h;exact⟨rfl,by omega,by simp,λe he=>by cases he⟩
 |succ n ih=>
  intro l els h;have h':oR (Option (List LVal)) none
   (λa=>oR (Option (List LVal)) none
    (λb=>oR (Option (List LVal)) none (λr=>some (a::r)) (chunk sz n b)) (nQ sz l)) (ov sz l)=some els:=h
  obtain⟨a,ha,h'⟩:=eN h';obtain⟨b,hb,h'⟩:=eN h';obtain⟨r,hr,h'⟩:=eN h';cases h';obtain⟨rfl,hla⟩:=Ca _ _ _ ha;obtain⟨rfl,_⟩:=uJ _ _ _ hb;obtain⟨h1,h2,h3,h4⟩:=ih _ _ hr;rw[Xv]at h2;refine⟨by simp[h1],by rw[dy];omega,?_,λe he=>?_⟩
  ·rw[cX,h3,dy,Bh,Nat.add_comm (n*sz) sz,List.take_add]
  ·rcases List.mem_cons.1 he with rfl|he
   ·simp;omega
   ·exact h4 e he
def J7 {sz:Nat} {ls:List LVal} (h:∀l∈ls,l.length=sz) (hv:ls.flatten[j]? =some v):0<sz∧∃l,ls[j/sz]? =some l∧l[j%sz]? =some v:=by
 have cS:=(List.getElem?_eq_some_iff.1 hv).1;rw[rJ h]at cS;have eR:0<sz:=by
  rcases zT sz with rfl|h
  ·simp at cS
  ·exact h
 have hi:j/sz<ls.length:=Nat.div_lt_of_lt_mul (by rw[gE];exact cS);refine⟨eR,_,ba hi,?_⟩;have:=flat_get h (ba hi) (j%sz) (uE _ eR);rw[<-this,gE,iJ];exact hv
def yO {sz:Nat} {x:Loc} (hr:Rel P ρ s w) (hx:ρ a=some x) (h:uF (s.h.get a) sz off n=some els):
  els.length=n∧(∀l∈els,l.length=sz)∧∃cs,bJ ρ els.flatten cs∧cs.length=n*sz∧∀(j:Nat) (u:Value),cs[j]? =some u->w.cell? ⟨x.b,x.base+off+j,none⟩=some u:=by
 obtain⟨c,vV,m,ro,et,hb,h⟩:=kT h;obtain⟨_,hC⟩:=hr.jI a _ x hb hx;have hC:fY P ρ x w c vV m ro et:=hC;obtain⟨h0,hq⟩:=lK h;clear h;rw[bW]at hq;have fin:els.length=n->(∀l∈els,l.length=sz)->(∀j v,els.flatten[j]? =some v->∃u,w.cell? ⟨x.b,x.base+off+j,none⟩=some u∧bN ρ v u)->
   els.length=n∧(∀l∈els,l.length=sz)∧∃cs,bJ ρ els.flatten cs∧cs.length=n*sz∧∀(j:Nat) (u:Value),cs[j]? =some u->w.cell? ⟨x.b,x.base+off+j,none⟩=some u:=by
  intro hn hl hf;obtain⟨cs,qg,hg⟩:=VG (f:= λj=>w.cell? ⟨x.b,x.base+off+j,none⟩) els.flatten hf;exact⟨hn,hl,cs,qg,by rw[<-qg.length,rJ hl,hn],hg⟩
 split at hq
 ·rename_i hs;have hs:=au hs;subst hs;obtain⟨hm,h⟩:=aY hq;have hm:off%sz=0:=au hm;obtain⟨hn,hg⟩:=J6 _ _ _ h;have hl:∀l∈els,l.length=sz:= λl hl=>by
   obtain⟨i,hi⟩:=List.mem_iff_getElem?.1 hl;exact(hC.cell _ _ (hg i l hi)).2.1
  refine fin hn hl (λj v hv=>?_);obtain⟨eR,l,h1,h2⟩:=J7 hl hv;obtain⟨u,hu,oK⟩:=(hC.cell _ _ (hg _ l h1)).2.2 _ v h2;refine⟨u,?_,oK⟩;have e1:Nat.div off sz*sz=off:=by show off/sz*sz=off;have:=iJ off sz;rw[hm,gE]at this;simpa using this
  have e2:j/sz*sz+j%sz=j:=by rw[gE];exact iJ j sz
  have e3:x.base+((Nat.div off sz+j/sz)*sz+j%sz)=x.base+off+j:=by rw[dy,e1];omega
  rw[e3]at hu;exact hu
 ·obtain⟨e,he,h⟩:=ak hq;obtain⟨e1,vp,h⟩:=ak h;obtain⟨e2,Fp,h⟩:=ak h;obtain⟨rfl,hd⟩:=uJ _ _ _ vp;obtain⟨rfl,ht⟩:=Ca _ _ _ Fp;obtain⟨h1,h2,h3,h4⟩:=acS _ _ _ h;refine fin h1 h4 (λj v hv=>?_);rw[h3]at hv;have mu:e[off%vV+j]? =some v:=by
   rw[kj]at hv;split at hv
   ·rw[kj]at hv;split at hv
    ·rw[qV]at hv;exact hv
    ·cases hv
   ·cases hv
  obtain⟨u,hu,oK⟩:=(hC.cell _ _ he).2.2 _ v mu;refine⟨u,?_,oK⟩;have e1:off/vV*vV+off%vV=off:=by rw[gE];exact iJ off vV
  have e3:x.base+(Nat.div off vV*vV+(off%vV+j))=x.base+off+j:=by show x.base+(off/vV*vV+(off%vV+j))=x.base+off+j;omega
  rw[e3]at hu;exact hu
def CH:∀ {l:List UInt8} {els:List LVal},byteCells l=some els->els=l.map (λb=> [Value.int .u8 (b.toNat:Int)]):=by
 intro l;induction l with
 |nil=>intro els h;cases h;rfl
 |cons b l ih=>intro els h;have h':cG b.toNat (λn=>ob (byteCells l) λr=>some ([Value.int .u8 (.ofNat n)]::r))=some els:=h;rw[bD]at h';obtain⟨r,hr,h'⟩:=ak h';cases h';rw[ih hr];rfl
def OO (l:List UInt8):bJ ρ (l.map (λb=> [Value.int .u8 (b.toNat:Int)])).flatten (l.map λb=>Value.int .u8 (b.toNat:Int)):=by
 induction l with
 |nil=>exact .nil
 |cons b l ih=>exact .cons (.int _ _) ih
def PO (s:ByteArray) (n:Nat):((s.extract 0 n).data.map λb=>Value.int .u8 b.toNat).toList=(s.data.toList.take n).map λb=>Value.int .u8 (b.toNat:Int):=by simp
def A5 (a:Addr) (w:World):(loadCells a 0).run P w= .ok #[] w:=by have:=Vx (P:=P) w a [] (λj v h=>by simp at h);simpa using this
def gW {sz:Nat} (hr:Rel P ρ s w) (h:dG s sz v n=some els) (hv:bN ρ v v') (hn:∀b m c,v= .slice b m c->n<=m):
  (∀l∈els,l.length=sz)∧els.length=n∧∃cs:LVal,bJ ρ els.flatten cs∧cs.length=n*sz∧(Builtin.firstCells sz n v').run P w= .ok cs.toArray w:=by
 unfold dG at h;split at h
 ·rename_i m c;cases h;cases hv;have:=hn _ _ _ rfl;have vX:n=0:=by omega
  subst vX;exact⟨λl hl=>(by cases hl),rfl,[],.nil,by simp,by simp[Builtin.firstCells]⟩
 ·rename_i a m c;cases hv with| @slice a x off m c cap ad hx h1 h2 h3 h4 h5=>?_
  have hnm:=hn _ _ _ rfl;cases n with
  |zero=>cases h;exact⟨λl hl=>(by cases hl),rfl,[],.nil,by simp,by simp[Builtin.firstCells,A5]⟩
  |succ n=>
   have h:uF (s.h.get a) sz off (n+1)=some els:=h;have Za:ad=⟨x.b,x.base+off,none⟩:=by
    rcases h4 with h4|h4
    ·exact h4
    ·omega
   subst Za;obtain⟨hl,h4,cs,qg,hlen,hg⟩:=yO hr hx h;refine⟨h4,hl,cs,qg,hlen,?_⟩;have dK:=Vx (P:=P) w ⟨x.b,x.base+off,none⟩ cs (λj v hv=>by rw[kM];exact hg j v hv);rw[hlen]at dK;simp only[Builtin.firstCells];exact dK
 ·rename_i b;obtain⟨eR,h⟩:=aY h;have eR:=au eR;subst eR;obtain⟨l,hl,h⟩:=ak h;obtain⟨rfl,hle⟩:=ON _ _ _ hl;have he:=CH h;subst he;cases hv;refine⟨λl hl=>?_,by simp at hle⊢;omega,_,OO _,by simp at hle⊢;omega,?_⟩
  ·obtain⟨b,_,rfl⟩:=List.mem_map.1 hl;rfl
  ·simp only[Builtin.firstCells,aN];congr 1;apply eh;rw[PO]
 ·cases h
def oJ (a:Addr) (l2:LVal):∀(l1:LVal) (i:Nat) (w:World),(storeCells a (l1++l2) i).run P w=((storeCells a l1 i).run P w).andThen λ_ w'=>(storeCells a l2 (i+l1.length)).run P w'
 | [],i,w=>by simp[storeCells]
 |v::l1,i,w=>by
  simp only[pA,storeCells,aI];cases h:(store (a.add i) v).run P w with
  |ok x w'=>simp only[aj];rw[oJ a l2 l1 (i+1) w'];simp only[bU];rw[show i+1+l1.length=i+(l1.length+1) by omega]
  |halt e w'=>rfl
def vd (b o k:Nat):∀(l:LVal) (i:Nat),storeCells ⟨b,o,none⟩ l (k+i)=storeCells ⟨b,o+k,none⟩ l i
 | [],i=>rfl
 |v::l,i=>by simp only[storeCells,kM];rw[show k+i+1=k+(i+1) by omega,vd b o k l (i+1),gx]
def pC {sz:Nat} {x:Loc} (hx:ρ a=some x):∀ {els:List LVal} {s s':AS} {w:World} {off:Nat} {us:LVal},Rel P ρ s w->jh sz a els s off=some s'->bJ ρ els.flatten us->(∀l∈els,l.length=sz)->
  ∃w',(storeCells ⟨x.b,x.base+off,none⟩ us).run P w= .ok () w'∧Rel P ρ s' w'∧je ρ s w ρ s' w':=by
 intro els;induction els with
 |nil=>intro s s' w off us hr h hv _;cases h;cases hv;exact⟨w,rfl,hr,.refl _ _ _⟩
 |cons l els ih=>intro s s' w off us hr h hv hl;have h':ob (ij s a off l) (λs'=>jh sz a els s' (Nat.add off sz))=some s':=h;obtain⟨s1,h1,h2⟩:=ak h';rw[cX]at hv;have hlen:=hl l (by simp);have hu1:=hv.take l.length;have hu2:=hv.drop l.length;rw[List.take_left]at hu1;rw[List.drop_left]at hu2;obtain⟨w1,ayO,_,xa,qz⟩:=CD hr hx h1 hu1;obtain⟨w2,akw,BJ,JJ⟩:=ih xa h2 hu2 (λl N1=>hl l (by simp[N1]));refine⟨w2,?_,BJ,qz.trans JJ⟩;have e:us=us.take l.length++us.drop l.length:=(iX _ _).symm;rw[e,oJ,ayO,aj,<-hu1.length];have:=vd x.b (x.base+off) l.length (us.drop l.length) 0;rw[ji]at this;rw[aG,this,hlen];rw[hlen]at akw;have e4:x.base+off+sz=x.base+off.add sz:=gx _ _ _;rw[e4];exact akw
def FJ (z:LVal):∀(n:Nat) (els:List LVal),tW z n=some els->els=List.replicate n z:=by
 intro n;induction n with
 |zero=>intro els h;cases h;rfl
 |succ n ih=>intro els h;have h':ob (tW z n) (λr=>some (z::r))=some els:=h;obtain⟨r,hr,h'⟩:=ak h';cases h';rw[ih _ hr];rfl
def AO (z:LVal) (n:Nat):((Array.range (n*z.length)).map λi=>z.toArray[i%z.length]!).toList=(List.replicate n z).flatten:=by
 have iO:∀l∈List.replicate n z,l.length=z.length:= λl hl=>by rw[(List.mem_replicate.1 hl).2]
 apply List.ext_getElem?;intro j;rw[Array.toList_map,iB,Array.toList_range];by_cases hj:j<n*z.length
 ·have hz:0<z.length:=by
   rcases zT z.length with h|h
   ·rw[h]at hj;simp at hj
   ·exact h
  rw[MJ hj];have hi:j/z.length<n:=Nat.div_lt_of_lt_mul (by rw[gE];exact hj);have hm:=uE j hz;have hg:=flat_get iO (i:=j/z.length) (l:=z) (by rw[List.getElem?_replicate,aU hi]) (j%z.length) hm;rw[show j/z.length*z.length+j%z.length=j by rw[gE];exact iJ j _]at hg;rw[hg];simp[getElem!_def,hm]
 ·rw[eD (by simp;omega),eD (by rw[rJ iO];simp;omega)];rfl
def bJ.replicate {z u:LVal} (h:bJ ρ z u):∀n,bJ ρ (List.replicate n z).flatten (List.replicate n u).flatten
 |0=> .nil
 |n+1=>by rw[jN,jN,cX,cX];exact h.append (bJ.replicate h n)
section
def z8 (P:Program) (ρ:Ren) (s:AS) (w:World) (m:Sem Value) (r:Value×AS):Prop:=
 ∃ρ' u w',m.run P w= .ok u w'∧bN ρ' r.1 u∧Rel P ρ' r.2 w'∧je ρ s w ρ' r.2 w'
def mJ {sz:Nat} {z:LVal} (h:dW P e=some (sz,z)):∃i v,P.info? e=some i∧i.zero=some v∧z=v.cells.toList∧i.size=sz∧i.bytes<=1000000∧z.length=sz∧dc P e=some sz∧bJ ρ z z∧mU P e=some v:=by unfold dW at h;obtain⟨vV,hs,h⟩:=ak h;obtain⟨z',hz,h⟩:=ak h;obtain⟨b,hb,h⟩:=ak h;obtain⟨h1,h⟩:=aY h;obtain⟨h2,h⟩:=aY h;cases h;obtain⟨v,hv,rfl⟩:=AL hz;obtain⟨_,i,hi,Zb⟩:=tp hv;unfold dc at hs;unfold abx at hb;rw[hi]at hs hb;cases hs;cases hb;exact⟨i,v,hi,Zb,rfl,rfl,aO h1,by rw[<-dQ];exact au h2,by unfold dc;rw[hi];rfl,(wg hv).cells,hv⟩
def EX (h:LK P ts=true):ts[1]? =none∨∃t d,ts[1]? =some t∧P.underlying t=some d∧(∀k,d≠.int k):=by
 unfold LK at h;split at h
 ·rename_i ht;exact .inl ht
 ·rename_i t ht;split at h
  ·cases h
  ·rename_i d ed hd;exact .inr ⟨t,d,ht,hd,λk e=>ed k (e▸rfl)⟩
  ·cases h
section
variable {t0 ty e:TypeId} {i:TypeInfo} {z x':Value} {base:Option Addr} {n m cap:Nat} (w:World) (vq:ts[0]? =some t0) (hu:P.underlying t0=some (.slice e)) (hi:P.info? e=some i) (hni:LK P ts=true) (hlen:(Builtin.lenOf x').run P w= .ok m w)
include vq hu hi hni hlen
def Ak {new:Array Value} (hf:(Builtin.firstCells i.size m x').run P w= .ok new w) (hle:n+m<=cap):
  (Builtin.append_ ts ty #[.slice base n cap,x']).run P w=(match base with
   |none=> .ok (.slice none (n+m) cap) w
   |some a=>((storeCells (a.add (n*i.size)) new.toList).run P w).andThen λ_ w'=> .ok (.slice (some a) (n+m) cap) w'):=by
 have h0:(#[Value.slice base n cap,x']:Array Value)[0]? =some (.slice base n cap):=rfl;have h1:(#[Value.slice base n cap,x']:Array Value)[1]? =some x':=rfl;unfold Builtin.append_;rcases EX hni with Fq|⟨t1,d,Fq,hd,ed⟩
 ·simp only[vq,Fq,h0,h1,aI,aF hu,aj,sizeOf,typeInfo,hi,sK,aN,cE,eG,hlen,sM,jQ,aU hle,hf];cases base<;>simp
 ·cases d<;>first
   |exact(ed _ rfl).elim
   |(simp only[vq,Fq,h0,h1,aI,aF hu,aF hd,aj,sizeOf,typeInfo,hi,sK,aN,cE,eG,hlen,sM,jQ,aU hle,hf];cases base<;>simp)
def IB {z:Value} {new eb:Array Value} (hz0:i.zero=some z) (QP:(Builtin.firstCells i.size n (.slice base n cap)).run P w.drew= .ok eb w.drew) (hf:(Builtin.firstCells i.size m x').run P w.drew= .ok new w.drew) (hle:cap<n+m) (hm:n+m<=1000000) (hb:i.bytes<=1000000):
  (Builtin.append_ ts ty #[.slice base n cap,x']).run P w= .ok (.slice (some ⟨w.heap.size,0,none⟩) (n+m) (grownCap w (n+m) cap e))
   (w.drew.alloc (.cells (eb++new++Builtin.zeroCells z.cells (grownCap w (n+m) cap e-(n+m))) e)):=by
 have h0:(#[Value.slice base n cap,x']:Array Value)[0]? =some (.slice base n cap):=rfl;have h1:(#[Value.slice base n cap,x']:Array Value)[1]? =some x':=rfl;have hn:¬(n+m<=cap):=by omega
 have aIE:¬(9223372036854775807<((n+m:Nat):Int)):=by omega
 have hmul:(n+m)*i.bytes<=1000000*1000000:=Jm hm hb;have h48:=growslice_fits (bytes:=i.bytes) hle (by omega);have afJ:¬(Builtin.nextslicecap (n+m) cap*i.bytes>2^48):=by simpa using h48
 have Zy:IntKind.i64.max=9223372036854775807:=rfl;have afK:¬(((n+m:Nat):Int)>IntKind.i64.max):=by rw[Zy];exact aIE
 have Uq:({w with drawn:=w.drawn+1}:World)=w.drew:=rfl;unfold Builtin.append_;rcases EX hni with Fq|⟨t1,d,Fq,hd,ed⟩
 ·simp only[vq,Fq,h0,h1,aI,aF hu,aj,sizeOf,typeInfo,hi,sK,aN,cE,eG,hlen,sM,jQ,aC hn,NB,
   afK,false_and,afJ,run_choose,Question.forced,agk,Uq,QP,hf,zeroValue,hz0,newRow,eZ]
  rfl
 ·cases d<;>first
   |exact(ed _ rfl).elim
   |(simp only[vq,Fq,h0,h1,aI,aF hu,aF hd,aj,sizeOf,typeInfo,hi,sK,aN,cE,eG,hlen,sM,jQ,aC hn,NB,
     afK,false_and,afJ,run_choose,Question.forced,agk,Uq,QP,hf,zeroValue,hz0,newRow,eZ];rfl)
end
def PQ (h:R5 P ts=true):∃t k,ts[1]? =some t∧P.underlying t=some (.int k):=by
 unfold R5 at h;split at h
 ·cases h
 ·rename_i t ht;split at h
  ·rename_i k hk;exact⟨t,k,ht,hk⟩
  ·cases h
def FB {t0 t1 ty e:TypeId} {i:TypeInfo} {z:Value} {base:Option Addr} {n m cap:Nat} {kk:IntKind} {eb:Array Value} (w:World) (vq:ts[0]? =some t0) (hu:P.underlying t0=some (.slice e)) (hi:P.info? e=some i) (Fq:ts[1]? =some t1) (hd:P.underlying t1=some (.int kk)) (hz0:i.zero=some z) (QP:(Builtin.firstCells i.size n (.slice base n cap)).run P w.drew= .ok eb w.drew) (Ns:0<m*i.size) (hle:cap<n+m) (hm:n+m<=1000000) (hb:i.bytes<=1000000):
  (Builtin.append_ ts ty #[.slice base n cap,.int .i64 (m:Int)]).run P w= .ok (.slice (some ⟨w.heap.size,0,none⟩) (n+m) (grownCap w (n+m) cap e))
   (w.drew.alloc (.cells (eb++Builtin.zeroCells z.cells m++Builtin.zeroCells z.cells (grownCap w (n+m) cap e-(n+m))) e)):=by
 have h0:(#[Value.slice base n cap,.int .i64 (m:Int)]:Array Value)[0]? =some (.slice base n cap):=rfl;have h1:(#[Value.slice base n cap,.int .i64 (m:Int)]:Array Value)[1]? =some (.int .i64 (m:Int)):=rfl;have hn:¬(n+m<=cap):=by omega
 have hmul:(n+m)*i.bytes<=1000000*1000000:=Jm hm hb;have h48:=growslice_fits (bytes:=i.bytes) hle (by omega);have afJ:¬(Builtin.nextslicecap (n+m) cap*i.bytes>2^48):=by simpa using h48
 have Zy:IntKind.i64.max=9223372036854775807:=rfl;have afK:¬(((n+m:Nat):Int)>IntKind.i64.max):=by rw[Zy];omega
 have Uq:({w with drawn:=w.drawn+1}:World)=w.drew:=rfl;have ayP:IntKind.i64.wrap (m:Int)=(m:Int):=by
  have:(m:Int)<9223372036854775808:=by omega
  unfold IntKind.wrap;simp[IntKind.signed,IntKind.bits];omega
 have anL:¬((m:Int)<0):=by omega
 have hmb:m*i.bytes<=1000000*1000000:=Jm (by omega) hb;have Rh:¬((m:Int)*(i.bytes:Int)>2^48):=by
  have:(m:Int)*(i.bytes:Int)=((m*i.bytes:Nat):Int):=by simp
  rw[this];omega
 have hz1:¬(m*i.size=0):=by omega
 have htn:(m:Int).toNat=m:=by simp
 have hai:(asInt (.int .i64 (m:Int))).run P w= .ok (m:Int) w:=rfl;unfold Builtin.append_;simp only[vq,Fq,h0,h1,aI,aF hu,aF hd,aj,sizeOf,typeInfo,hi,sK,aN,jQ,hai,ayP,anL,eG,Rh,htn,NB,cE,hz1,aC hn,
  afK,false_and,afJ,run_choose,Question.forced,agk,Uq,QP,zeroValue,hz0,newRow,eZ]
 rfl
def GO {base:Option Addr} {n c:Nat} {x':Value} (h:bN ρ (.slice base n c) x'):∃Oj cap,x'= .slice Oj n cap∧mq base c<=cap∧n<=mq base c∧(xF base c=true->cap=mq base c):=by
 cases h with
 |gi=>exact⟨none,0,rfl,af _,af _,λ_=>rfl⟩
 |slice off n c cap ad hx h1 h2 h3 h4 h5=>exact⟨some ad,cap,rfl,h2,h1,λh=>h3 (au h)⟩
def grownCap_le (w:World) {need:Nat} (eb:Nat) (e:TypeId):need<=grownCap w need eb e:=by show need<=need+_%_;omega
def J8 {n:Nat} (w:World) (h:lenOf v=some n) (hv:bN ρ v v'):(Builtin.lenOf v').run P w= .ok n w∧∀b m c,v= .slice b m c->n<=m:=by
 unfold lenOf at h;split at h
 ·cases h;obtain⟨b,c,rfl,_⟩:=GO hv;exact⟨rfl,λb m c e=>by cases e;exact af _⟩
 ·cases h;cases hv;refine⟨?_,λb m c e=>by cases e⟩;rw[dQ];rfl
 ·cases h
def rZ (z:Array Value) (n:Nat):(Builtin.zeroCells z n).toList=(List.replicate n z.toList).flatten:=by have:=AO z.toList n;unfold Builtin.zeroCells;simpa using this
def GP {w:World} (h:Rel P ρ s w):Rel P ρ s w.drew:=h.of_heap rfl
def acT {t:T LVal} {ls:List LVal} {sz n base:Nat} {cs:LVal} {w:World} (ht:C0 ls 0 .e=some t) (hl:∀l∈ls,l.length=sz) (hn:ls.length=n) (hc:bJ ρ ls.flatten cs) (hg:∀(j:Nat) (u:Value),cs[j]? =some u->w.cell? ⟨b,base+j,none⟩=some u):
  ∀i l,t.get i=some l->i<n∧l.length=sz∧∀(j:Nat) (v:Value),l[j]? =some v->∃u,w.cell? ⟨b,base+(i*sz+j),none⟩=some u∧bN ρ v u:=by
 intro i l uB;rw[uK _ _ _ _ ht i]at uB;by_cases Bb:0<=i∧i<0+ls.length
 ·rw[aU Bb,yo]at uB;refine⟨by omega,hl l (cY uB),λj v hv=>?_⟩;have hj:j<sz:=by
   rw[<-hl l (cY uB)];exact(List.getElem?_eq_some_iff.1 hv).1
  have hf:=flat_get hl uB j hj;rw[hv]at hf;obtain⟨u,zI,oK⟩:=hc.get hf;exact⟨u,hg _ _ zI,oK⟩
 ·rw[aC Bb]at uB;cases uB
def Rel.again {s1 s2:AS} {w:World} {k k':eX} {x y:Loc} (hr:Rel P ρ s w) (hs:s.set a none=some s1) (ee:s1.new k'=some s2) (hk:s.h.get a=some k) (ug:Ga k=false) (hx:ρ a=some x) (hy:y.b=x.b) (eR:w'.heap.size=w.heap.size) (hold:∀b,b≠x.b->w'.heap[b]? =w.heap[b]?) (ht:w'.tape=w.tape) (ho:w'.os=w.os) (hu:w'.output=w.output) (hb:qX P (ρ.put s.nx y) y w' k') (IU:xU k=false):
  Rel P (ρ.put s.nx y) s2 w'∧je ρ s w (ρ.put s.nx y) s2 w':=by
 obtain⟨IT,hg⟩:=AS.tK hs;obtain⟨aUr,dI⟩:=AS.ql ee;have halt:a<s.nx:=by
  rcases mH a s.nx with h|h
  ·exact h
  ·rw[hr.uz a h]at hx;cases hx
 have cS:=(hr.jI a k x hk hx).1;have ed:∀a' k2 x2,a'≠a->s.h.get a'=some k2->ρ a'=some x2->x2.b≠x.b:= λa' k2 x2 h e r iR=>by have:=(hr.pc a' a k2 k x2 x h e hk r hx iR).2;rw[ug]at this;cases this
 have hle:gq ρ (ρ.put s.nx y):= λb z e=>by
  unfold Ren.put;by_cases ha:b=s.nx
  ·rw[ha,hr.uz _ (af _)]at e;cases e
  ·rw[aC ha];exact e
 have fP:∀b,b≠s.nx->(ρ.put s.nx y) b=ρ b:= λa ha=>by unfold Ren.put;rw[aC ha]
 have vi:∀ {b k2},s2.h.get b=some k2->(b=s.nx∧k2=k')∨(b≠s.nx∧b≠a∧s.h.get b=some k2):= λ {b k2} e=>by
  rw[dI,IT]at e;by_cases hb:b=s.nx
  ·rw[aU hb]at e;cases e;exact .inl ⟨hb,rfl⟩
  ·rw[aC hb,hg]at e;by_cases ha:b=a
   ·rw[aU ha]at e;cases e
   ·rw[aC ha]at e;exact .inr ⟨hb,ha,e⟩
 have Xd:s2.lim=s.lim:=(AS.vM ee).trans (AS.mP hs).1;refine(λ(hS:je ρ s w (ρ.put s.nx y) s2 w')=>⟨⟨λb iR=>?_,λb iR=>?_,λb k2 z e e'=>?_,by rw[Xd];have:=hr.lim;omega,λb b' k1 k2 x1 x2 so e1 e2 r1 r2 EA=>?_,hr.gl.of hS.size hS.frame⟩,hS⟩) ⟨λb iR=>?_,by omega,ht,ho,hu,by omega,λb iR hn=>?_,λb iR hn=>?_,λb r iR=>?_,Xd,λb iR=>by rw[dI,IT,aC (by have:=hr.lim;omega),AS.FI hs b iR],λb k2 z hl _ uA _ hz=>hold _ (ed b k2 z (by have:=(AS.mP hs).2;omega) uA hz)⟩
 ·rw[fP b (by omega)]
 ·have zH:b≠x.b:= λe=>hn ⟨a,k,x,hk,hx,e.symm⟩;refine⟨hold b zH,?_⟩;rintro⟨c,k2,z,e,e',rfl⟩;rcases vi e with ⟨rfl,rfl⟩|⟨h1,h2,h3⟩
  ·rw[iM]at e';cases e';exact zH hy
  ·rw[fP c h1]at e';exact hn ⟨c,k2,z,h3,e',rfl⟩
 ·exact .inl (by rw[dI,IT,aC (by omega),hg,aC (λe=>by rw[e,hx]at hn;cases hn)])
 ·by_cases zH:b=x.b
  ·subst zH;have:=Du iR (hr.jI a k x hk hx).2;rw[IU]at this;cases this
  ·exact⟨r,by rw[hold b zH];exact iR⟩
 ·rw[fP b (by omega)];exact hr.uz b (by omega)
 ·rw[dI,IT,aC (by omega),hg,aC (by omega)];exact hr.top b (by omega)
 ·rcases vi e with ⟨rfl,rfl⟩|⟨h1,h2,h3⟩
  ·rw[iM]at e';cases e';exact⟨by rw[hy];omega,hb⟩
  ·rw[fP b h1]at e';obtain⟨q1,q2⟩:=hr.jI b k2 z h3 e';exact⟨by omega,(q2.congr (hold _ (ed b k2 z h2 h3 e'))).mono hle⟩
 ·rcases vi e1 with ⟨rfl,rfl⟩|⟨h1,h2,h3⟩
  ·rcases vi e2 with ⟨rfl,rfl⟩|⟨h1,h2,h3⟩
   ·exact(so rfl).elim
   ·rw[iM]at r1;cases r1;rw[fP b' h1]at r2;exact(ed b' k2 x2 h2 h3 r2 (by rw[<-EA,hy])).elim
  ·rw[fP b h1]at r1;rcases vi e2 with ⟨rfl,rfl⟩|⟨h4,h5,h6⟩
   ·rw[iM]at r2;cases r2;exact(ed b k1 x1 h2 h3 r1 (by rw[EA,hy])).elim
   ·rw[fP b' h4]at r2;exact hr.pc b b' k1 k2 x1 x2 so h3 h6 r1 r2 EA
end
def Ei {sz c:Nat} {x:Loc} (hr:Rel P ρ s w) (hx:ρ a=some x) (h:dG s sz (.slice (some ⟨a,off,none⟩) n c) n=some els):
  (∀l∈els,l.length=sz)∧els.length=n∧∃cs,bJ ρ els.flatten cs∧cs.length=n*sz∧∀(j:Nat) (u:Value),cs[j]? =some u->w.cell? ⟨x.b,x.base+off+j,none⟩=some u:=by
 cases n with
 |zero=>cases h;exact⟨λl hl=>(by cases hl),rfl,[],.nil,by simp,λj u h=>by simp at h⟩
 |succ n=>have h:uF (s.h.get a) sz off (n+1)=some els:=h;obtain⟨hl,h4,r⟩:=yO hr hx h;exact⟨h4,hl,r⟩
def bJ.two {a b:Value} (h:bJ ρ [a,b] l):∃a' b',l= [a',b']∧bN ρ a a'∧bN ρ b b':=by
 cases h with
 |cons h1 h=>
  cases h with
  |cons h2 h=>cases h;exact⟨_,_,rfl,h1,h2⟩
def bJ.Li {a:Value} (h:bJ ρ [a] l):∃a',l= [a']∧bN ρ a a':=by
 cases h with
 |cons h1 h=>cases h;exact⟨_,rfl,h1⟩
def Ju:∀ {l:List LVal},nq l=true->∀v∈l.flatten,dZ v=true:=by
 intro l;induction l with
 |nil=>intro _ v hv;simp at hv
 |cons a l ih=>
  intro h v hv;have h':aD (cP a) (nq l) false=true:=h;rw[bW]at h';split at h'
  ·rename_i ha;rw[cX,xg]at hv;rcases hv with hv|hv
   ·exact CC ha v hv
   ·exact ih h' v hv
  ·cases h'
def Hr {sz:Nat} {r:Value×AS} (h:jk s et sz els n=some r):
  sz<256∧els.length=n∧(∀l∈els,l.length=sz)∧∃t s',C0 els 0 .e=some t∧s.new (.cells t sz n false et)=some s'∧r=(.slice (some ⟨s.nx,0,none⟩) n (cq n sz),s'):=by
 unfold jk at h;replace h:=aY h;obtain⟨eR,h⟩:=h;unfold sY at h;replace h:=aY h;obtain⟨hn,h⟩:=h;replace h:=aY h;obtain⟨hl,h⟩:=h;replace h:=eN h;obtain⟨t,EB,h⟩:=h;replace h:=eN h;obtain⟨s1,dm,h⟩:=h;exact⟨aO eR,by rw[<-dQ];exact au hn,tq hl,t,s1,EB,dm,zk h⟩
def OP {z:LVal}:∀ {n:Nat} {els:List LVal},tW z n=some els->els=List.replicate n z
 |0,els,h=>by cases h;rfl
 |n+1,els,h=>by have h:ob (tW z n) (λr=>some (z::r))=some els:=h;obtain⟨r,hr,h⟩:=ak h;cases h;rw[OP hr];rfl
def Jv {t0 t1:TypeId} {kk:IntKind} {sz:Nat} {z:LVal} {r:Value×AS} (hr:Rel P ρ s w) (hei:dW P e=some (sz,z)) (vq:ts[0]? =some t0) (hu:P.underlying t0=some (.slice e)) (Fq:ts[1]? =some t1) (hd:P.underlying t1=some (.int kk)) (h:L9 s e sz z l=some r) (hl:bJ ρ l l'):z8 P ρ s w (Builtin.append_ ts ty l'.toArray) r:=by
 obtain⟨i,zv,hi,Zb,hz,eR,AF,IW,N3,hzr,_⟩:=mJ (ρ:=ρ) hei;unfold L9 at h;split at h
 case h_2=>cases h
 rename_i base n c m;replace h:=aY h;obtain⟨hex,h⟩:=h;replace h:=aY h;obtain⟨cS,h⟩:=h;replace h:=aY h;obtain⟨hm6,h⟩:=h;replace h:=aY h;obtain⟨Ns,h⟩:=h;replace h:=ak h;obtain⟨eb,hold,h⟩:=h;replace h:=ak h;obtain⟨els,nL,h⟩:=h;replace h:=ak h;obtain⟨all,iO,h⟩:=h;rw[pH]at iO;replace iO:all=eb++els:=(bh iO).symm;obtain⟨x',y',rfl,hx,hy⟩:=bJ.two hl;cases hy;have uu:([x',.int .i64 (m:Int)]:LVal).toArray= #[x',.int .i64 (m:Int)]:=rfl;show z8 P ρ s w (Builtin.append_ ts ty ([x',.int .i64 (m:Int)]:LVal).toArray) r;rw[uu];obtain⟨Oj,cap,rfl,Io,Dj,Dk⟩:=GO hx;have IV:=Dk hex;have cS:mq base c<n+m:=by have:=aO cS;exact this
 have hm6:n+m<=1000000:=aO hm6;have Ns:0<m*sz:=by have:=aO Ns;exact this
 obtain⟨b1,b2,os,hos,Ws,QP⟩:=gW (GP hr) hold hx (λb m c e=>by cases e;exact af _);rw[<-eR]at QP;have dK:=FB (P:=P) (ty:=ty) w vq hu hi Fq hd Zb QP (by rw[eR];exact Ns) (show cap<n+m by omega) hm6 AF;have Vb:=grownCap_le w (need:=n+m) cap e;have ayQ:=OP nL;have ayR:∀q,bJ ρ (List.replicate q z).flatten (List.replicate q z).flatten:= λq=>by
  induction q with
  |zero=>exact .nil
  |succ q ih=>rw[jN,cX];exact hzr.append ih
 have akx:∀q,(List.replicate q z).flatten.length=q*sz:= λq=>by rw[rJ (sz:=sz) (λl hl=>by rw[(List.mem_replicate.1 hl).2,IW]),Hl]
 have jG:os.toArray++Builtin.zeroCells zv.cells m++Builtin.zeroCells zv.cells (grownCap w (n+m) cap e-(n+m))=((os++(List.replicate m z).flatten)++(List.replicate (grownCap w (n+m) cap e-(n+m)) z).flatten).toArray:=by apply eh;rw[hz];simp only[Array.toList_append,rZ]
 rw[jG]at dK;have hrel:bJ ρ all.flatten (os++(List.replicate m z).flatten):=by rw[iO,jO,ayQ];exact hos.append (ayR m)
 obtain⟨ρ',hv,hR,hS⟩:=yu (rest:=(List.replicate (grownCap w (n+m) cap e-(n+m)) z).flatten) (lo:=0) (hi:=0) (cap:=grownCap w (n+m) cap e)
  (w':=w.drew.alloc (.cells ((os++(List.replicate m z).flatten)++(List.replicate (grownCap w (n+m) cap e-(n+m)) z).flatten).toArray e)) hr h hrel Vb
  (by rw[bL,Ws,akx,akx,<-dy,<-dy];congr 1;omega) (λo h1 h2=>by omega) rfl rfl rfl rfl
 exact⟨ρ',_,_,dK,hv,hR,hS⟩
def Jw {r:Value×AS} (hr:Rel P ρ s w) (h:Ma P ts s l=some r) (hl:bJ ρ l l'):
  z8 P ρ s w (Builtin.append_ ts ty l'.toArray) r:=by
 unfold Ma at h;replace h:=ak h;obtain⟨e,he,h⟩:=h;replace h:=ak h;obtain⟨⟨sz,z⟩,hei,h⟩:=h;obtain⟨i,zv,hi,Zb,hz,eR,AF,IW,N3,_⟩:=mJ (ρ:=ρ) hei;have hut:∃t0,ts[0]? =some t0∧P.underlying t0=some (.slice e):=by
  unfold tD sj at he;split at he
  ·rename_i e' vW;cases he;split at vW
   ·rename_i t ht;exact⟨t,ht,vW⟩
   ·cases vW
  ·cases he
 obtain⟨t0,vq,hu⟩:=hut;rw[bW]at h;split at h
 case isFalse=>replace h:=aY h;obtain⟨uC,h⟩:=h;obtain⟨t1,kk,Fq,hd⟩:=PQ uC;exact Jv hr hei vq hu Fq hd h hl
 rename_i hni;split at h
 case h_2=>cases h
 rename_i x y;replace h:=ak h;obtain⟨m,hm,h⟩:=h;replace h:=ak h;obtain⟨els,nL,h⟩:=h;obtain⟨x',y',rfl,hx,hy⟩:=bJ.two hl;have uu:([x',y']:LVal).toArray= #[x',y']:=rfl;rw[uu];obtain⟨hlen,anM⟩:=J8 w hm hy;unfold qM at h;split at h
 case h_2=>cases h
 rename_i base n c;change aD (Nat.ble (Nat.add n m) (mq base c)) (GL s sz base n m c els)
   (aD (Nat.ble (Nat.add n m) 1000000) (ob (dG s sz (.slice base n c) n) λeb=>ob (Ae eb els) λall=>aD (xF base c) (jk s e sz all (Nat.add n m)) (aD (nq els) (uG s e sz base n (Nat.add n m) c all) none)) none)=some r at h
 obtain⟨Oj,cap,rfl,Io,Dj,Dk⟩:=GO hx;have lG:cap<n+m->n+m<=1000000->∀ {s1:AS} {all eb:List LVal} {r:Value×AS},Rel P ρ s1 w->dG s sz (.slice base n c) n=some eb->all=eb++els->jk s1 e sz all (Nat.add n m)=some r->
   ∃ρ' u w',(Builtin.append_ ts ty #[.slice Oj n cap,y']).run P w= .ok u w'∧bN ρ' r.1 u∧Rel P ρ' r.2 w'∧je ρ s1 w ρ' r.2 w'∧(∀b,b<w.heap.size->w'.heap[b]? =w.heap[b]?):=by
  intro IV hm6 s1 all eb r uh hold iO fL;obtain⟨a1,a2,cs,qg,Bn,hf⟩:=gW (GP hr) nL hy anM;obtain⟨b1,b2,os,hos,Ws,QP⟩:=gW (GP hr) hold hx (λb m c e=>by cases e;exact af _);rw[<-eR]at hf QP;have dK:=IB (P:=P) (ty:=ty) w vq hu hi hni hlen Zb QP hf IV hm6 AF;have hzr:=rZ zv.cells (grownCap w (n+m) cap e-(n+m));have jG:os.toArray++cs.toArray++Builtin.zeroCells zv.cells (grownCap w (n+m) cap e-(n+m))=((os++cs)++(List.replicate (grownCap w (n+m) cap e-(n+m)) z).flatten).toArray:=by apply eh;rw[hz];simp only[Array.toList_append,hzr]
  rw[jG]at dK;have Vb:=grownCap_le w (need:=n+m) cap e;have hrel:bJ ρ all.flatten (os++cs):=by rw[iO,jO];exact hos.append qg
  have aIF:(List.replicate (grownCap w (n+m) cap e-(n+m)) z).flatten.length=(grownCap w (n+m) cap e-(n+m))*sz:=by rw[rJ (sz:=sz) (λl hl=>by rw[(List.mem_replicate.1 hl).2,IW]),Hl]
  obtain⟨ρ',hv,hR,hS⟩:=yu (rest:=(List.replicate (grownCap w (n+m) cap e-(n+m)) z).flatten) (lo:=0) (hi:=0) (cap:=grownCap w (n+m) cap e)
   (w':=w.drew.alloc (.cells ((os++cs)++(List.replicate (grownCap w (n+m) cap e-(n+m)) z).flatten).toArray e)) uh fL hrel Vb
   (by rw[bL,Ws,Bn,aIF,<-dy,<-dy];congr 1;omega) (λo h1 h2=>by omega) rfl rfl rfl rfl
  exact⟨ρ',_,_,dK,hv,hR,hS,λb hb=>by show(w.heap.push _)[b]? =_;rw[cU,aC (fK hb)]⟩
 rw[bW]at h;split at h
 ·rename_i ND;replace ND:n+m<=mq base c:=aO ND;obtain⟨a1,a2,cs,qg,Bn,hf⟩:=gW hr nL hy anM;rw[<-eR]at hf;have dK:=Ak (P:=P) (ty:=ty) (base:=Oj) w vq hu hi hni hlen hf (show n+m<=cap by omega);unfold GL at h;split at h
  ·cases h;cases hx;have:m=0:=by have:0+m<=0:=ND;omega
   subst this;exact⟨ρ,_,w,dK,.gi,hr,.refl _ _ _⟩
  ·rename_i a;replace h:=ak h;obtain⟨s',vo,h⟩:=h;rw[bD]at h;cases h;cases hx with| @slice a x off n c cap ad hx h1 h2 h3 h4 h5=>?_
   have IX:bN ρ (.slice (some ⟨a,off,none⟩) (n+m) c) (.slice (some ad) (n+m) cap):= .slice off (n+m) c cap ad hx ND h2 h3 h4 h5;cases m with
   |zero=>have:els= []:=List.length_eq_zero_iff.1 a2;subst this;cases vo;have:cs= []:=List.length_eq_zero_iff.1 (by rw[Bn];simp);subst this;exact⟨ρ,_,w,dK,IX,hr,.refl _ _ _⟩
   |succ m=>
    have Za:ad=⟨x.b,x.base+off,none⟩:=by
     rcases h4 with h4|h4
     ·exact h4
     ·have:n+(m+1)<=c/512:=ND;omega
    subst Za;obtain⟨w',fU,hR,hS⟩:=pC hx hr vo qg a1;refine⟨ρ,_,w',?_,IX,hR,hS⟩;rw[dK];have e1:(⟨x.b,x.base+off,none⟩:Addr).add (n*i.size)=⟨x.b,x.base+Nat.add off (Nat.mul n sz),none⟩:=by
     rw[kM,eR];show(⟨x.b,x.base+off+n*sz,none⟩:Addr)=⟨x.b,x.base+(off+n*sz),none⟩
     rw[gx]
    simp only[e1,fU,aj]
 ·rename_i RI;replace h:=aY h;obtain⟨hm6,h⟩:=h;replace hm6:n+m<=1000000:=aO hm6;replace RI:¬(n+m<=mq base c):= λh=>RI (bg h);replace h:=ak h;obtain⟨eb,hold,h⟩:=h;replace h:=ak h;obtain⟨all,iO,h⟩:=h;rw[pH]at iO;replace iO:all=eb++els:=(bh iO).symm;rw[bW]at h;split at h
  ·rename_i hex;have:=Dk hex;obtain⟨ρ',u,w',h1,h2,h3,h4,_⟩:=lG (by omega) hm6 hr hold iO h;exact⟨ρ',u,w',h1,h2,h3,h4⟩
  ·rename_i hex;replace h:=aY h;obtain⟨Bl,h⟩:=h;unfold uG at h;split at h
   ·cases h
   rename_i a;replace h:=aY h;obtain⟨aIG,h⟩:=h;replace h:=kT h;obtain⟨cc,vV,n0,ro,RH,hb,h⟩:=h;replace h:=lK h;obtain⟨ug,h⟩:=h;replace h:=aY h;obtain⟨Vc,h⟩:=h;replace h:=aY h;obtain⟨het,h⟩:=h;replace h:=aY h;obtain⟨Wt,h⟩:=h;replace h:=ak h;obtain⟨s1,dm,h⟩:=h;replace Vc:=au Vc;replace het:=au het;subst Vc het ug;cases hx with| @slice a x off n c cap ad hx h1 h2 h3 h4 h5=>?_
   have aIH:c%512/2=sz:=au aIG;have Wt:off%sz=0:=au Wt;by_cases gP:n+m<=cap
   ·have aPs:n+m>c/512:=dg RI;have Za:ad=⟨x.b,x.base+off,none⟩:=by
     rcases h4 with h4|h4
     ·exact h4
     ·omega
    subst Za;have IY:c%2=0:=by have:xF (some (⟨a,off,none⟩:Addr)) c=Nat.beq (c%2) 1:=rfl;rw[this]at hex;have:c%2≠1:= λe=>hex (by rw[e];rfl);omega
    have h5':=h5 IY;rw[aIH]at h5';obtain⟨a1,a2,cs,qg,Bn,hf⟩:=gW hr nL hy anM;rw[<-eR]at hf;obtain⟨b1,b2,os,hos,Ws,hog⟩:=Ei hr hx hold;replace Bn:cs.length=m*sz:=Bn;replace Ws:os.length=n*sz:=Ws;have dK:=Ak (P:=P) (ty:=ty) (base:=some ⟨x.b,x.base+off,none⟩) w vq hu hi hni hlen hf gP;obtain⟨cS,hC⟩:=hr.jI a _ x hb hx;have hC:fY P ρ x w cc sz n0 false e:=hC;have hmul:(n+m)*sz<=cap*sz:=wH _ gP;rw[dy]at hmul;have xW:∀j,j<cs.length->(w.cell? ⟨x.b,x.base+off+n*sz+j,none⟩).isSome=true:= λj hj=>hC.all _ (by rw[Bn]at hj;omega);have hfz:∀j,j<cs.length->w.frozen? ⟨x.b,x.base+off+n*sz+j,none⟩=false:=by
     intro j hj;cases hf:w.frozen? ⟨x.b,x.base+off+n*sz+j,none⟩with
     |false=>rfl
     |true=>have:=(hC.free rfl _ hf).1;have:=xW j hj;rw[‹w.cell? _=none›]at this;cases this
    have fU:=run_storeCells_cells (P:=P) x.b (x.base+off+n*sz) cs 0 w (by simpa using xW) (by simpa using hfz) (qg.awk (Ju Bl));rw[ji]at fU;obtain⟨g1,g2,g3,t,s2,hrt,ayS,anN⟩:=Hr h;have anO:s1.nx=s.nx:=(AS.tK dm).1;have IX:bN (ρ.put s.nx ⟨x.b,x.base+off,x.lim,none⟩) (.slice (some ⟨s1.nx,0,none⟩) (Nat.add n m) (cq (Nat.add n m) sz)) (.slice (some ⟨x.b,x.base+off,none⟩) (n+m) cap):=by rw[anO];refine .slice 0 (n+m) (cq (n+m) sz) cap _ (iM _ _ _) (by rw[ni g1];exact af _) (by rw[ni g1];exact gP) (λh=>by rw[wk]at h;cases h) (.inl rfl) (λ_=>?_);rw[zl g1];exact h5'
    obtain⟨q1,q2,q3,_⟩:=tR x.b cs (x.base+off+n*sz) w;have fP:gq ρ (ρ.put s.nx ⟨x.b,x.base+off,x.lim,none⟩):= λb z e=>by
     unfold Ren.put;by_cases ha:b=s.nx
     ·rw[ha,hr.uz _ (af _)]at e;cases e
     ·rw[aC ha];exact e
    have hA:=Rel.again (P:=P) (y:=⟨x.b,x.base+off,x.lim,none⟩) (w':=w.setCells x.b (x.base+off+n*sz) cs) hr dm ayS hb rfl hx rfl (tQ _ _ _ _) (λb iR=>rY _ _ _ _ _ iR) q1 q2 q3 (by
     refine⟨?_,λo sU=>?_,λ_ o sU=>?_,?_,?_,.inl rfl⟩
     ·have hrel:bJ ρ all.flatten (os++cs):=by rw[iO,jO];exact hos.append qg
      refine acT hrt g3 g2 (hrel.mono fP) (λj u hj=>?_);show World.cell? _ ⟨x.b,x.base+off+j,none⟩=some u;by_cases hjo:j<os.length
      ·rw[cD hjo]at hj;rw[fH _ _ _ _ _ (λ_ _=> .inl (by show x.base+off+j<x.base+off+n*sz;omega))];exact hog j u hj
      ·rw[dw (by omega)]at hj;obtain⟨hjj,hju⟩:=List.getElem?_eq_some_iff.1 hj;have:=sR x.b cs (x.base+off+n*sz) w xW (j-os.length) hjj;rw[show x.base+off+n*sz+(j-os.length)=x.base+off+j by omega]at this;rw[this,hju]
     ·by_cases aII:x.base+off+n*sz<=o∧o<x.base+off+n*sz+cs.length
      ·have:=sR x.b cs (x.base+off+n*sz) w xW (o-(x.base+off+n*sz)) (by omega);rw[show x.base+off+n*sz+(o-(x.base+off+n*sz))=o by omega]at this;show(World.cell? _ ⟨x.b,o,none⟩).isSome=true;rw[this];rfl
      ·show(World.cell? _ ⟨x.b,o,none⟩).isSome=true;rw[fH _ _ _ _ _ (λ_ _=>by show o<x.base+off+n*sz∨x.base+off+n*sz+cs.length<=o;omega)];exact hC.all o sU
     ·have sU:World.frozen? (w.setCells x.b (x.base+off+n*sz) cs) ⟨x.b,o,none⟩=true:=sU;rw[aPq]at sU;obtain⟨hn,RI⟩:=hC.free rfl o sU;refine⟨?_,RI⟩;show World.cell? _ ⟨x.b,o,none⟩=none;by_cases aII:x.base+off+n*sz<=o∧o<x.base+off+n*sz+cs.length
      ·have:=xW (o-(x.base+off+n*sz)) (by omega);rw[show x.base+off+n*sz+(o-(x.base+off+n*sz))=o by omega,hn]at this;cases this
      ·rw[fH _ _ _ _ _ (λ_ _=>by show o<x.base+off+n*sz∨x.base+off+n*sz+cs.length<=o;omega)];exact hn
     ·exact⟨e,(qJ _ _ _ _ _).trans hC.sh,.inl rfl⟩
     ·obtain⟨q,hq⟩:=hC.mult;refine⟨q+off/sz,?_⟩;show x.base+off=(q+off/sz)*sz;have:=iJ off sz;rw[Wt,gE]at this;rw[dy];omega) rfl
    have ayT:(Builtin.append_ ts ty #[.slice (some ⟨x.b,x.base+off,none⟩) n cap,y']).run P w= .ok (.slice (some ⟨x.b,x.base+off,none⟩) (n+m) cap) (w.setCells x.b (x.base+off+n*sz) cs):=by
     rw[dK];have e1:(⟨x.b,x.base+off,none⟩:Addr).add (n*i.size)=⟨x.b,x.base+off+n*sz,none⟩:=by rw[kM,eR]
     simp only[e1,fU,aj]
    subst anN;exact⟨_,_,_,ayT,IX,hA.1,hA.2⟩
   ·obtain⟨xa,qz⟩:=Rel.forget hr dm hx;obtain⟨ρ',u,w',h1,h2,h3,h4,h5'⟩:=lG (by omega) hm6 xa hold iO h;exact⟨ρ',u,w',h1,h2,h3,qz.trans h4⟩
def Sb (P:Program) (ρ:Ren) (s:AS) (w:World) (m:Sem Unit) (r:Value×AS):Prop:=
 r.1= .tuple #[]∧∃ρ' w',m.run P w= .ok () w'∧Rel P ρ' r.2 w'∧je ρ s w ρ' r.2 w'
def Made.ayU {m:Sem Value} {k:eX} (h:Made P ρ w s.nx m v k) (hr:Rel P ρ s w) (hs:s.new k=some s'):z8 P ρ s w m (v,s'):=by obtain⟨x,u,w',h1,h2,h3,h4,h5,h6,h7,h8,h9⟩:=h;obtain⟨q1,q2⟩:=Rel.alloc hr hs h2 h3 h4 h5 h6 h7 h9;exact⟨_,u,w',h1,h8,q1,q2⟩
def PR {r:Value×AS} (h:RX P t s=some r):∃k,s.new k=some r.2∧∀ {ρ:Ren} {w:World},ρ s.nx=none->Made P ρ w s.nx (Instr.alloc t true (.tuple #[])) r.1 k:=by unfold RX at h;obtain⟨l,hl,h⟩:=ak h;obtain⟨z,hz,rfl⟩:=AL hl;obtain⟨k,hk,hm⟩:=CE (P:=P) h;exact⟨k,hk,λ {ρ w} rE=>hm (w':=w.alloc (.cells z.cells t)) rE (wg hz).cells (by simp only[Instr.alloc,aI,j6 hz w,aj,newVar,newRow,eZ,aN]) rfl rfl rfl rfl⟩
def XJ {r:Value×AS} (h:ia t s v=some r):∃k,s.new k=some r.2∧∀ {ρ:Ren} {w:World} {v':Value},ρ s.nx=none->bN ρ v v'->Made P ρ w s.nx (Instr.box t v') r.1 k:=by obtain⟨k,hk,hm⟩:=CE (P:=P) h;exact⟨k,hk,λ {ρ w v'} rE hv=>hm (w':=w.alloc (.cells v'.cells t)) rE hv.cells (by simp only[Instr.box,aI,aj,newVar,newRow,eZ,aN]) rfl rfl rfl rfl⟩
def MS {a a':Value} {r:Value×AS} (hr:Rel P ρ s w) (h:RY P t s a v=some r) (ha:bN ρ a a') (hv:bN ρ v v'):Sb P ρ s w (Instr.storeAt t a' v') r:=by
 unfold RY at h;split at h
 ·rename_i ad;replace h:=ak h;obtain⟨n,hn,h⟩:=h;replace h:=aY h;obtain⟨hl,h⟩:=h;replace h:=ak h;obtain⟨s',hs,h⟩:=h;cases h;have hl:v.cells.toList.length=n:=by rw[<-dQ];exact au hl
  cases ha with| @ptr a x off hx=>?_
  obtain⟨w',dK,_,hR,hS⟩:=CD hr hx hs hv.cells;have eR:v'.cells.size=n:=by rw[<-hl,hv.cells.length];simp
  refine⟨rfl,ρ,w',?_,hR,hS⟩;simp only[Instr.storeAt,Instr.sureAddr,aI,aN,aj,storeVar,dS hn w,eR,ne_eq,not_true_eq_false,eG,dK]
 ·cases h
def zm (w:World) (k:IntKind) (n:Int):(asInt (.int k n)).run P w= .ok n w:=by simp[asInt,asIntOf]
def FC {l c:Value} {r:Value×AS} (h:AJ P t s l c=some r):
  ∃k,s.new k=some r.2∧∀ {ρ:Ren} {w:World} {l' c':Value},ρ s.nx=none->bN ρ l l'->bN ρ c c'->Made P ρ w s.nx (Instr.makeSlice t l' c') r.1 k:=by
 unfold AJ at h;split at h
 ·rename_i k1 l k2 c;replace h:=ak h;obtain⟨e,he,h⟩:=h;replace h:=ak h;obtain⟨ln,mi,h⟩:=h;replace h:=ak h;obtain⟨cn,hcn,h⟩:=h;replace h:=aY h;obtain⟨hlc,h⟩:=h;replace h:=aY h;obtain⟨hcm,h⟩:=h;replace h:=ak h;obtain⟨⟨sz,z⟩,hei,h⟩:=h;replace h:=ak h;obtain⟨els,nL,h⟩:=h;have mi:=pr mi;have hcn:=pr hcn;subst mi hcn;have hlc:ln<=cn:=aO hlc;have hcm:cn<=1000000:=aO hcm;have nL:=FJ _ _ _ nL;subst nL;obtain⟨k,hk,By⟩:=Hq (P:=P) h hlc;refine⟨k,hk,λ {ρ w l' c'} rE hl hc=>?_⟩;obtain⟨i,zv,hi,Zb,hz,eR,AF,IW,N3,N4,_⟩:=mJ (ρ:=ρ) hei;have hu:P.underlying t=some (.slice e):=by
   unfold fu at he;split at he
   ·rename_i hu;cases he;exact hu
   ·cases he
  cases hl;cases hc;have hzs:zv.cells.size=sz:=by rw[<-IW,hz];simp
  have fL:((Array.range (cn*sz)).map (zv.cells[·%zv.cells.size]!))=((List.replicate cn z).flatten).toArray:=by apply eh;have:=AO z cn;rw[IW,hz]at this;rw[hzs];simpa[hz]using this
  refine By (w':=w.alloc (.cells ((List.replicate cn z).flatten).toArray e)) rE (bJ.replicate N4 cn) ?_ rfl rfl rfl rfl;have JK:IntKind.i64.wrap (ln:Int)=(ln:Int):=wrap_small ⟨by show(-9223372036854775808:Int)<=_;omega,by show _<=(9223372036854775807:Int);omega⟩;have hw2:IntKind.i64.wrap (cn:Int)=(cn:Int):=wrap_small ⟨by show(-9223372036854775808:Int)<=_;omega,by show _<=(9223372036854775807:Int);omega⟩;have hmul:i.bytes*cn<=1000000*1000000:=Jm AF hcm;have Rh:¬((i.bytes:Int)*(cn:Int)>2^48):=by
   have:((i.bytes:Int)*(cn:Int))=((i.bytes*cn:Nat):Int):=by simp
   rw[this];have:(2:Int)^48=281474976710656:=by decide
   omega
  have hc0:¬((cn:Int)<0):=by omega
  have NZ:¬((ln:Int)<0):=by omega
  have aIJ:¬((ln:Int)>(cn:Int)):=by omega
  have d1:decide ((cn:Int)<0)=false:=az hc0;have d2:decide ((i.bytes:Int)*(cn:Int)>2^48)=false:=az Rh;have d3:decide ((ln:Int)<0)=false:=az NZ;have d4:decide ((ln:Int)>(cn:Int))=false:=az aIJ;simp only[Instr.makeSlice,aI,aF hu,aj,zm,typeInfo,hi,sK,aN,JK,hw2,d1,d2,d3,d4,Bool.or_self,cE,eG,agk,sizeOf,sO,eR,newRow];by_cases hn:cn*sz=0
  ·have hr0:((List.replicate cn z).flatten).toArray= #[]:=by
    rw[<-fL,hn];simp
   have uh:Array.range 0= #[]:=by apply eh;simp
   rw[aU hn,hr0,hn,uh];simp
  ·rw[aC hn];simp only[aI,j6 ‹mU P e=some zv› w,aN,aj,eZ,fL]
 ·cases h
def EY (off:Nat) (cs:Array Value) (l:LVal) (h:off+l.length<=cs.size):
  (l.zipIdx.foldl (λcs (x:Value×Nat)=>cs.setIfInBounds (off+x.2) x.1) cs)=(cs.toList.take off++l++cs.toList.drop (off+l.length)).toArray:=by
 obtain⟨h1,h2⟩:=Go.Great.foldl_set off l 0 cs;apply OI;intro k;rw[h2 k];simp only[ji,eE];by_cases hk:off<=k∧k<off+l.length∧k<cs.size
 ·rw[aU hk,ey,dw (by simp;omega),cD (by simp;omega)];congr 1;simp;omega
 ·rw[aC hk];by_cases uA:k<off
  ·rw[ey,cD (by simp;omega),apn uA];simp
  ·rw[dw (by simp;omega),qV];simp only[bL,D3,xz,uk];congr 1;omega
def CJ (v:Value) (off:Nat) (cs:Array Value):v.cells.zipIdx.foldl (λcs (c,j)=>cs.setIfInBounds (off+j) c) cs=v.cells.toList.zipIdx.foldl (λcs (x:Value×Nat)=>cs.setIfInBounds (off+x.2) x.1) cs:=by rw[<-Array.foldl_toList,Array.toList_zipIdx]
def OQ {is:List Nat}:∀ {vs us:LVal},bJ ρ vs us->F2 (λp q=>p.1=q.1∧bN ρ p.2 q.2) (F9 is vs) (F9 is us):=by
 induction is with
 |nil=>intro vs us _;exact .nil
 |cons i is ih=>
  intro vs us h;cases h with
  |nil=>exact .nil
  |cons h hs=>exact .cons ⟨rfl,h⟩ (ih hs)
def EZ {place place':Nat->Option (Nat×Nat)} (hp:∀i q,place i=some q->place' i=some q):
  ∀ {ps QK:List (Nat×Value)},F2 (λp q=>p.1=q.1∧bN ρ p.2 q.2) ps QK->∀ {l r l':LVal},jq place ps l=some r->bJ ρ l l'->∃r',Instr.fill place' l'.toArray QK=some r'.toArray∧bJ ρ r r':=by
 intro ps QK QQ;induction QQ with
 |nil=>intro l r l' h hl;cases h;exact⟨l',rfl,hl⟩
 | @cons p q ps QK hpq _ ih=>
  intro l r l' h hl;obtain⟨i,v⟩:=p;obtain⟨i',v'⟩:=q;obtain⟨h1,hv⟩:=hpq;simp only at h1 hv;subst h1;have h':ob (place i) (λq=>aD (Nat.beq (len v.cells.toList) q.2) (ob (Bi v.cells.toList l q.1) (jq place ps)) none)=some r:=h;obtain⟨⟨off,sz⟩,hq,h'⟩:=ak h';obtain⟨hlen,h'⟩:=aY h';obtain⟨l1,QR,h'⟩:=ak h';have hlen:v.cells.toList.length=sz:=by rw[<-dQ];exact au hlen
  obtain⟨anP,hle⟩:=VE _ _ _ _ QR;have Au:=hv.cells.length;have hll:=hl.length;have hrel:bJ ρ l1 (l'.take off++v'.cells.toList++l'.drop (off+v'.cells.toList.length)):=by rw[anP,Au];exact((hl.take off).append hv.cells).append (hl.drop _)
  obtain⟨r',oK,hrr⟩:=ih h' hrel;refine⟨r',?_,hrr⟩;have eR:v'.cells.size=sz:=by rw[<-hlen,Au];simp
  have Zz:off+v'.cells.toList.length<=l'.toArray.size:=by rw[<-Au,List.size_toArray,<-hll];exact hle
  unfold Instr.fill;rw[hp _ _ hq];have hc:(decide (v'.cells.size≠sz)||decide (off+v'.cells.size>l'.toArray.size))=false:=by
   have:¬(off+v'.cells.size>l'.toArray.size):=by simp at Zz⊢;omega
   simp[eR]at this⊢;exact this
  simp only;rw[hc];simp only[cE,eG];rw[CJ,EY off l'.toArray _ Zz];exact oK
def FD {fs:Array Field} (hu:P.underlying t=some (.struct fs)) (h:ir P t=true):
  ∃places,fs.toList.mapM (λ(f:Field)=>(P.info? f.type).map λi=>(f.offset,i.size))=some places∧∀(i:Nat) (f:Field) (n:Nat),fs[i]? =some f->dc P f.type=some n->places[i]? =some (f.offset,n):=by
 unfold ir at h;rw[hu]at h;simp only at h;have key:∀(l:List Field),(List.rec (motive:= λ_=>Bool) true (λ(f:Field) _ ih=>match P.info? f.type with|some _=>ih|none=>false) l)=true->
   ∃places,l.mapM (λ(f:Field)=>(P.info? f.type).map λi=>(f.offset,i.size))=some places∧∀(i:Nat) (f:Field) (n:Nat),l[i]? =some f->dc P f.type=some n->places[i]? =some (f.offset,n):=by
  intro l;induction l with
  |nil=>intro _;exact⟨[],rfl,λi f n h=>by simp at h⟩
  |cons f l ih=>
   intro h;simp only at h;cases hi:P.info? f.type with
   |none=>rw[hi]at h;cases h
   |some i=>
    rw[hi]at h;obtain⟨places,hp,hg⟩:=ih h;refine⟨(f.offset,i.size)::places,by simp[List.mapM_cons,hi,hp],λj g n hj hn=>?_⟩;cases j with
    |zero=>cases hj;unfold dc at hn;rw[hi]at hn;cases hn;rfl
    |succ j=>exact hg j g n (by simpa using hj) hn
 obtain⟨places,hp,hg⟩:=key _ h;exact⟨places,hp,λi f n hf=>hg i f n (by simpa using hf)⟩
def MT {is:List Nat} {us:LVal} (w:World) (h:cA P t is vs=some v) (hv:bJ ρ vs us):∃u,(Instr.build t (F9 is us).toArray).run P w= .ok u w∧bN ρ v u:=by
 unfold cA at h;obtain⟨eH,h⟩:=aY h;obtain⟨z,hz,h⟩:=ak h;obtain⟨r,hr,h⟩:=ak h;cases h;obtain⟨zv,hzv,rfl⟩:=AL hz;obtain⟨_,i,hi,Zb⟩:=tp hzv;have QQ:=OQ (is:=is) hv;have N4:bJ ρ zv.cells.toList zv.cells.toList:=(wg hzv).cells;have hb:∃r',P.built t (F9 is us)=some r'∧bJ ρ r r'.toList:=by
  unfold Program.built;rw[hi];cases hu:P.underlying t with
  |none=>unfold ir at eH;rw[hu]at eH;cases eH
  |some d=>
   cases d<;>try (unfold ir at eH;rw[hu]at eH;cases eH;done)
   case array n e=>
    unfold ir at eH;rw[hu]at eH;simp only at eH;cases hie:P.info? e with
    |none=>rw[hie]at eH;cases eH
    |some ie=>
     obtain⟨r',h1,h2⟩:=EZ (place':= λi=>some (i*ie.size,ie.size)) (λi q hq=>by unfold dB at hq;rw[hu]at hq;obtain⟨n,hn,hq⟩:=ak hq;unfold dc at hn;rw[hie]at hn;cases hn;cases hq;rfl) QQ hr N4
     simp only[Zb,hie];exact⟨_,h1,h2⟩
   case struct fs=>
    obtain⟨places,hp,hg⟩:=FD hu eH;obtain⟨r',h1,h2⟩:=EZ (place':=(places.toArray[·]?)) (λi q hq=>by
     unfold dB at hq;rw[hu]at hq;simp only at hq;split at hq
     ·rename_i f hf;obtain⟨n,hn,hq⟩:=ak hq;cases hq;have:=hg i f n hf hn;simpa using this
     ·cases hq) QQ hr N4
    simp only[Zb,hp];exact⟨_,h1,h2⟩
 obtain⟨r',h1,h2⟩:=hb;exact⟨_,run_build w t _ r' h1,.agg h2⟩
def PS {sz:Nat}:∀(i:Nat) (l r:List LVal) (x:LVal),jE x i l=some r->(∀e∈l,e.length=sz)->x.length=sz->r.flatten=l.flatten.take (i*sz)++x++l.flatten.drop (i*sz+sz)∧(∀e∈r,e.length=sz)∧i*sz+sz<=l.flatten.length:=by
 intro i;induction i with
 |zero=>
  intro l r x h hl hx;cases l with
  |nil=>cases h
  |cons a l=>
   cases h;have ha:=hl a (by simp);refine⟨?_,λe he=>?_,by simp;omega⟩
   ·simp only[cX,oX,agl,jD,aG];rw[<-ha,List.drop_left]
   ·rcases List.mem_cons.1 he with rfl|he
    ·exact hx
    ·exact hl e (by simp[he])
 |succ i ih=>
  intro l r x h hl hx;cases l with
  |nil=>cases h
  |cons a l=>
   have h':ob (jE x i l) (λr=>some (a::r))=some r:=h;obtain⟨r',oK,h'⟩:=ak h';cases h';have ha:=hl a (by simp);obtain⟨h1,h2,h3⟩:=ih _ _ _ oK (λe he=>hl e (by simp[he])) hx;refine⟨?_,λe he=>?_,by simp only[cX,bL,dy];omega⟩
   ·have e1:(i+1)*sz=a.length+i*sz:=by rw[dy,ha];omega
    have e2:(i+1)*sz+sz=a.length+(i*sz+sz):=by rw[dy,ha];omega
    simp only[cX];rw[e2,e1,h1,List.take_append,Xw];rw[aP (l:=a) (by omega),@List.drop_eq_nil_of_le _ a _ (by omega)];simp
   ·rcases List.mem_cons.1 he with rfl|he
    ·exact ha
    ·exact h2 e he
def IC {sz:Nat}:∀ {ps QK:List (Nat×Value)},F2 (λp q=>p.1=q.1∧bN ρ p.2 q.2) ps QK->∀ {l r:List LVal} {l':LVal},iL sz ps l=some r->(∀e∈l,e.length=sz)->bJ ρ l.flatten l'->
  ∃r',Instr.fill (λi=>some (i*sz,sz)) l'.toArray QK=some r'.toArray∧bJ ρ r.flatten r':=by
 intro ps QK QQ;induction QQ with
 |nil=>intro l r l' h _ hl;cases h;exact⟨l',rfl,hl⟩
 | @cons p q ps QK hpq _ ih=>
  intro l r l' h eR hl;obtain⟨i,v⟩:=p;obtain⟨i',v'⟩:=q;obtain⟨h1,hv⟩:=hpq;simp only at h1 hv;subst h1;have h':aD (Nat.beq (len v.cells.toList) sz) (ob (jE v.cells.toList i l) (iL sz ps)) none=some r:=h;obtain⟨hlen,h'⟩:=aY h';obtain⟨l1,QR,h'⟩:=ak h';have hlen:v.cells.toList.length=sz:=by rw[<-dQ];exact au hlen
  obtain⟨anP,aIK,hle⟩:=PS _ _ _ _ QR eR hlen;have Au:=hv.cells.length;have hll:=hl.length;have Fo:v'.cells.toList.length=sz:=by rw[<-Au,hlen]
  have hrel:bJ ρ l1.flatten (l'.take (i*sz)++v'.cells.toList++l'.drop (i*sz+v'.cells.toList.length)):=by rw[anP,Fo];exact((hl.take _).append hv.cells).append (hl.drop _)
  obtain⟨r',oK,hrr⟩:=ih h' aIK hrel;refine⟨r',?_,hrr⟩;have yU:v'.cells.size=sz:=by rw[<-Fo];simp
  have Zz:i*sz+v'.cells.toList.length<=l'.toArray.size:=by rw[Fo,List.size_toArray,<-hll];exact hle
  unfold Instr.fill;have hc:(decide (v'.cells.size≠sz)||decide (i*sz+v'.cells.size>l'.toArray.size))=false:=by
   have:¬(i*sz+v'.cells.size>l'.toArray.size):=by simp at Zz⊢;omega
   simp[yU]at this⊢;exact this
  simp only;rw[hc];simp only[cE,eG];rw[CJ,EY (i*sz) l'.toArray _ Zz];exact oK
def Ej {is:List Nat} {r:Value×AS} (h:bF P t n is s vs=some r):
  ∃k,s.new k=some r.2∧∀ {ρ:Ren} {w:World} {us:LVal},ρ s.nx=none->bJ ρ vs us->Made P ρ w s.nx (Instr.buildSlice t n (F9 is us).toArray) r.1 k:=by
 unfold bF at h;replace h:=ak h;obtain⟨e,he,h⟩:=h;replace h:=ak h;obtain⟨⟨sz,z⟩,hei,h⟩:=h;replace h:=aY h;obtain⟨hm,h⟩:=h;replace h:=ak h;obtain⟨tX,h0,h⟩:=h;replace h:=ak h;obtain⟨els,nL,h⟩:=h;obtain⟨k,hk,By⟩:=Hq (P:=P) h (af _);refine⟨k,hk,λ {ρ w us} rE hv=>?_⟩;obtain⟨i,zv,hi,Zb,hz,eR,AF,IW,N3,N4,hzv⟩:=mJ (ρ:=ρ) hei;have h0:=FJ _ _ _ h0;subst h0;have hm:n*sz<=16000000:=aO hm;have hu:P.underlying t=some (.slice e):=by
  unfold fu at he;split at he
  ·rename_i hu;cases he;exact hu
  ·cases he
 have Rh:¬(n*sz>2^24):=by omega
 obtain⟨r',h1,h2⟩:=IC (OQ (is:=is) hv) nL (λe he=>by rw[(List.mem_replicate.1 he).2];exact IW) (bJ.replicate N4 n);refine By (w':=w.alloc (.cells r'.toArray e)) rE h2 ?_ rfl rfl rfl rfl;have hzs:zv.cells.size=sz:=by rw[<-IW,hz];simp
 have fL:((Array.range (n*sz)).map (zv.cells[·%zv.cells.size]!))=((List.replicate n z).flatten).toArray:=by apply eh;have:=AO z n;rw[IW,hz]at this;rw[hzs];simpa[hz]using this
 have h1:Instr.fill (λi=>some (i*sz,sz)) ((List.replicate n z).flatten).toArray (F9 is us)=some r'.toArray:=h1;simp only[Instr.buildSlice,aI,aF hu,aj,dS N3 w,aC Rh,newRow];by_cases hn:n*sz=0
 ·have hr0:((List.replicate n z).flatten).toArray= #[]:=by
   rw[<-fL,hn];simp
  have uh:Array.range 0= #[]:=by apply eh;simp
  rw[hr0]at h1;simp[hn,uh,h1]
 ·simp only[aC hn,aI,j6 hzv w,aN,aj,fL,h1,eZ]
def PT (he:tD P ts=some e):∃t0,ts[0]? =some t0∧P.underlying t0=some (.slice e):=by
 unfold tD sj at he;split at he
 ·rename_i e' vW;cases he;split at vW
  ·rename_i t ht;exact⟨t,ht,vW⟩
  ·cases vW
 ·cases he
def q0 {d:TypeDesc} (h:sj P ts i=some d):∃t,ts[i]? =some t∧P.underlying t=some d:=by
 unfold sj at h;split at h
 ·rename_i t ht;exact⟨t,ht,h⟩
 ·cases h
def PU {r:Value×AS} (hr:Rel P ρ s w) (h:xH P ts s l=some r) (hl:bJ ρ l l'):
  z8 P ρ s w (Builtin.copy_ ts ty l'.toArray) r:=by
 unfold xH at h;replace h:=ak h;obtain⟨e,he,h⟩:=h;replace h:=ak h;obtain⟨sz,hs,h⟩:=h;obtain⟨t0,vq,hu⟩:=PT he;split at h
 case h_2=>cases h
 rename_i base dl c y;obtain⟨x',y',rfl,hx,hy⟩:=bJ.two hl;replace h:=ak h;obtain⟨n,hn,h⟩:=h;rw[bD]at h;replace h:=ak h;obtain⟨els,nL,h⟩:=h;obtain⟨hlen,hnl⟩:=J8 (P:=P) w hn hy;obtain⟨a1,a2,cs,qg,Bn,hf⟩:=gW hr nL hy (λb m c e=>di (Nat.min_le_left _ _) (hnl b m c e));have h0:∀(x y:Value),(#[x,y]:Array Value)[0]? =some x:= λ_ _=>rfl;have h1:∀(x y:Value),(#[x,y]:Array Value)[1]? =some y:= λ_ _=>rfl;have uu:([x',y']:LVal).toArray= #[x',y']:=rfl;rw[uu];split at h
 ·cases h;cases hx;refine⟨ρ,_,w,?_,.int _ _,hr,.refl _ _ _⟩;simp only[Builtin.copy_,vq,h0,h1,aI,aF hu,aj,hlen,dS hs w,hf,aN,goInt];rfl
 ·rename_i a;replace h:=ak h;obtain⟨s',vo,h⟩:=h;cases h;cases hx with| @slice a x off dl c cap ad hx q1 q2 q3 q4 q5=>?_
  have dK:∀w',(storeCells ad cs).run P w= .ok () w'->(Builtin.copy_ ts ty #[.slice (some ad) dl cap,y']).run P w= .ok (goInt (Nat.min n dl)) w':=by intro w' xb;simp only[Builtin.copy_,vq,h0,h1,aI,aF hu,aj,hlen,dS hs w,hf,aN,xb]
  rcases zT (Nat.min n dl)with hm|hm
  ·rw[hm]at a2 Bn;have:=List.length_eq_zero_iff.1 a2;subst this;cases vo;have:cs= []:=List.length_eq_zero_iff.1 (by rw[Bn];simp);subst this;exact⟨ρ,_,w,dK w rfl,.int _ _,hr,.refl _ _ _⟩
  ·have Za:ad=⟨x.b,x.base+off,none⟩:=by
    rcases q4 with q4|q4
    ·exact q4
    ·have:=Nat.min_le_right n dl;have:Nat.min n dl<=dl:=this;omega
   subst Za;obtain⟨w',fU,hR,hS⟩:=pC hx hr vo qg a1;exact⟨ρ,_,w',dK w' fU,.int _ _,hR,hS⟩
def ky {o o':Obj} (h:w.heap[r]? =some o) (hc:∀c e f,o≠.cells c e f):(setObj r o').run P w= .ok () {w with heap:=w.heap.setIfInBounds r o'}:=by cases o<;>first|exact(hc _ _ _ rfl).elim|simp[setObj,Sem.run,h]
def eM {o:Obj} (h:w.heap[r]? =some o) (hc:∀c e f,o≠.cells c e f):(getObj r).run P w= .ok o w:=by cases o<;>first|exact(hc _ _ _ rfl).elim|simp[getObj,Sem.run,h]
def Rel.setObj {k k':eX} {x:Loc} {o':Obj} (hr:Rel P ρ s w) (hs:s.set a (some k')=some s') (hk:s.h.get a=some k) (ug:Ga k=false) (hx:ρ a=some x) (hb:∀w':World,w'.heap[x.b]? =some o'->qX P ρ x w' k') (IU:xU k=true->xU k'=true:=by intro h;cases h):
  Rel P ρ s' {w with heap:=w.heap.setIfInBounds x.b o'}∧je ρ s w ρ s' {w with heap:=w.heap.setIfInBounds x.b o'}:=
 have cS:=(hr.jI a k x hk hx).1
 Rel.write hr hs hk ug hx (by simp) (λb iR=>by simp[jd iR]) rfl rfl rfl (hb _ (by simp[cS])) IU
def MU {r:Value×AS} (hr:Rel P ρ s w) (h:R6 P ts s l=some r) (hl:bJ ρ l l'):
  z8 P ρ s w (Builtin.clear_ ts ty l'.toArray) r:=by
 unfold R6 at h;split at h
 ·rename_i N3;cases h;obtain⟨t0,vq,hu⟩:=q0 N3;obtain⟨x',rfl,hx⟩:=bJ.Li hl;cases hx;refine⟨ρ,_,w,?_,.tuple .nil,hr,.refl _ _ _⟩;have h0:∀(x:Value),(#[x]:Array Value)[0]? =some x:= λ_=>rfl;simp only[Builtin.clear_,vq,h0,aI,aF hu,aj,aN]
 ·rename_i e a n c N3;obtain⟨t0,vq,hu⟩:=q0 N3;obtain⟨x',rfl,hx⟩:=bJ.Li hl;replace h:=ak h;obtain⟨⟨sz,z⟩,hei,h⟩:=h;replace h:=ak h;obtain⟨els,nL,h⟩:=h;replace h:=ak h;obtain⟨s',vo,h⟩:=h;cases h;have nL:=FJ _ _ _ nL;subst nL;obtain⟨i,zv,hi,Zb,hz,eR,AF,IW,aUs,N4,hzv⟩:=mJ (ρ:=ρ) hei;have h0:∀(x:Value),(#[x]:Array Value)[0]? =some x:= λ_=>rfl;cases hx with| @slice a x off n c cap ad hx q1 q2 q3 q4 q5=>?_
  cases n with
  |zero=>cases vo;refine⟨ρ,_,w,?_,.tuple .nil,hr,.refl _ _ _⟩;simp only[Builtin.clear_,vq,h0,aI,aF hu,aj,aN]
  |succ n=>
   have Za:ad=⟨x.b,x.base+off,none⟩:=by
    rcases q4 with q4|q4
    ·exact q4
    ·omega
   subst Za;obtain⟨w',fU,hR,hS⟩:=pC hx hr vo (bJ.replicate N4 (n+1)) (λl hl=>by rw[(List.mem_replicate.1 hl).2];exact IW);have hzc:=rZ zv.cells (n+1);rw[<-hz]at hzc;refine⟨ρ,_,w',?_,.tuple .nil,hR,hS⟩;simp only[Builtin.clear_,vq,h0,aI,aF hu,aj,aN,j6 hzv w,hzc,fU]
 ·rename_i k e r' N3;obtain⟨t0,vq,hu⟩:=q0 N3;obtain⟨x',rfl,hx⟩:=bJ.Li hl;replace h:=kG h;obtain⟨kt,es,ck,hb,h⟩:=h;replace h:=ak h;obtain⟨s',vo,h⟩:=h;cases h;have h0:∀(x:Value),(#[x]:Array Value)[0]? =some x:= λ_=>rfl;cases hx with| @map a x hx=>?_
  obtain⟨cJ,hh,hm,_⟩:=(hr.jI _ _ x hb hx).2;have hS:=Rel.setObj (o':= .map #[] ck) hr vo hb rfl hx (λw' xb=>⟨#[],xb,⟨[],.nil,.nil,by simp⟩,by simp[lS]⟩);refine⟨ρ,_,_,?_,.tuple .nil,hS.1,hS.2⟩;simp only[Builtin.clear_,vq,h0,aI,aF hu,aj,aN,eM hh (by simp),ky hh (by simp)]
 ·cases h
def PV {src dst:TypeId} {ds d:TypeDesc} (w:World) (hs:P.underlying src=some ds) (hd:P.underlying dst=some d) (h:xI d x=some v) (hx:bN ρ x x'):
  ∃u,(convert src dst x').run P w= .ok u w∧bN ρ v u:=by
 unfold xI at h;split at h
 ·rw[jZ]at h;cases h;cases hx;refine⟨_,?_,.int _ _⟩;simp only[convert,aI,aF hs,aF hd,aj,Conv.intToInt,aN]
 ·cases h;cases hx;refine⟨_,?_,.string _⟩;simp only[convert,aI,aF hs,aF hd,aj,Conv.intToString,aN]
 ·cases h;cases hx;refine⟨_,?_,.string _⟩;simp only[convert,aI,aF hs,aF hd,aj,aN]
 ·cases h
def CK:∀ {els:List LVal} {l:List UInt8},ns els=some l->els.flatten=l.map λ(b:UInt8)=>Value.int .u8 (b.toNat:Int):=by
 intro els;induction els with
 |nil=>intro l h;cases h;rfl
 |cons e els ih=>
  intro l h;have h':(match(generalizing:=false) e with
   | [.int k n]=>aD (tz k .u8) (ob (um n) λn=>aD (Nat.blt n 256) (ob (ns els) λr=>some (UInt8.ofNat n::r)) none) none
   |_=>none)=some l:=h
  split at h'
  ·rename_i k n;obtain⟨hk,h'⟩:=aY h';obtain⟨m,hm,h'⟩:=ak h';obtain⟨cS,h'⟩:=aY h';obtain⟨r,hr,h'⟩:=ak h';cases h';have hk:=tc.1 hk;have hm:=pr hm;subst hk hm;have cS:m<256:=aO cS;rw[cX,ih hr];have e1:(UInt8.ofNat m).toNat=m:=by simp[UInt8.toNat_ofNat'];omega
   simp[e1]
  ·cases h'
def XK {l:List UInt8} {m:LVal} (h:bJ ρ (l.map λ(b:UInt8)=>Value.int .u8 (b.toNat:Int)) m):m=l.map λ(b:UInt8)=>Value.int .u8 (b.toNat:Int):=
 bJ.plain h (λv hv=>by obtain⟨b,_,rfl⟩:=List.mem_map.1 hv;exact .int _ _)
def PW {src dst:TypeId} (hr:Rel P ρ s w) (hs:P.underlying src=some (.slice e)) (he:P.underlying e=some (.int .u8)) (hd:P.underlying dst=some .string) (h:aax s x=some v) (hx:bN ρ x x'):∃u,(convert src dst x').run P w= .ok u w∧bN ρ v u:=by
 unfold aax at h;split at h
 ·rename_i base n c;replace h:=ak h;obtain⟨els,nL,h⟩:=h;replace h:=ak h;obtain⟨l,hl,h⟩:=h;cases h;obtain⟨_,a2,cs,qg,Bn,hf⟩:=gW hr nL hx (λb m c e=>by cases e;exact af _);rw[CK hl]at qg;have qg:=XK qg;refine⟨.string ⟨⟨l⟩⟩,?_,.string _⟩;cases hx with
  |gi=>
   have:l= []:=by rw[oX]at Bn;rw[qg,dP]at Bn;exact List.length_eq_zero_iff.1 Bn
   subst this;have:(convert src dst (.slice none 0 0)).run P w= .ok (.string .empty) w:=by simp only[convert,aI,aF hs,aF hd,aF he,aj,Conv.bytesToString,aN]
   exact this
  |slice off n c cap ad hx q1 q2 q3 q4 q5=>
   have Aa:(loadCells ad n).run P w= .ok ((l.map (λb=>(b.toNat:Int))).map (Value.int .u8)).toArray w:=by have:=hf;simp only[Builtin.firstCells,qZ]at this;rw[this,qg,iv];rfl
   have:=run_bytesToString (P:=P) w ad n cap _ Aa;rw[foldl_push_byteCells]at this;simp only[convert,aI,aF hs,aF hd,aF he,aj];rw[this];simp
 ·cases h
def Th {src dst:TypeId} {r:Value×AS} (hs:P.underlying src=some .string) (hd:P.underlying dst=some (.slice e)) (he:P.underlying e=some (.int .u8)) (h:aay e s x=some r):∃k,s.new k=some r.2∧∀ {ρ:Ren} {w:World} {x':Value},ρ s.nx=none->bN ρ x x'->Made P ρ w s.nx (convert src dst x') r.1 k:=by
 unfold aay at h;split at h
 ·rename_i b;obtain⟨hle,h⟩:=aY h;obtain⟨els,nL,h⟩:=ak h;have nL:=CH nL;subst nL;have hle:b.data.toList.length<=1000000:=by rw[<-dQ];exact aO hle
  have RJ:b.size=b.data.toList.length:=by simp
  rw[dQ,<-RJ]at h;obtain⟨k,hk,By⟩:=Tg (P:=P) h;refine⟨k,hk,λ {ρ w x'} rE hx=>?_⟩;cases hx;have dK:=run_bytes_of_string (P:=P) w src dst e b hs hd he;have Vb:=grownCap_le w (need:=b.size) 0 e;have fL:bytesRow b (grownCap w b.size 0 e)=((b.data.toList.map λ(b:UInt8)=>Value.int .u8 (b.toNat:Int))++List.replicate (grownCap w b.size 0 e-b.size) (Value.int .u8 0)).toArray:=by apply eh;simp[bytesRow]
  have hlen:(bytesRow b (grownCap w b.size 0 e)).size=grownCap w b.size 0 e:=by rw[fL];simp at RJ⊢;omega
  rw[hlen,fL]at dK;exact By (rest:=List.replicate (grownCap w b.size 0 e-b.size) (Value.int .u8 0)) (lo:=grownCap w b.size 0 e) (hi:=grownCap w b.size 0 e+1) (cap:=grownCap w b.size 0 e)
   (w':=w.drew.alloc (.cells ((b.data.toList.map λ(b:UInt8)=>Value.int .u8 (b.toNat:Int))++List.replicate (grownCap w b.size 0 e-b.size) (Value.int .u8 0)).toArray e (grownCap w b.size 0 e,grownCap w b.size 0 e+1)))
   rE (OO _) Vb (by simp at RJ⊢;omega) (λo h1 h2=>⟨by simp at RJ⊢;omega,he⟩) dK rfl rfl rfl rfl
 ·cases h
def Ht (h:dc P t=some n):P.info? t≠none:= λe=>by unfold dc at h;rw[e]at h;cases h
def rO (h:dc P t=some n):P.cellsOf t=n:=by unfold dc at h;unfold Program.cellsOf;rw[h];rfl
def VH {o:Nat} (hs:w.shape? b=some (e,n)) (hc:(w.cell? ⟨b,o,none⟩).isSome=true):o<n:=by
 unfold World.shape? at hs;unfold World.cell? at hc;split at hs
 ·rename_i c el fr hb;cases hs;simp only[hb,Option.isSome_none,cE,eG]at hc;rcases mH o c.size with h|h
  ·exact h
  ·rw[Array.getElem?_eq_none h]at hc;cases hc
 ·cases hs
def E1 {sz count:Nat} (hc:P.cellsOf e=sz) (h0:0<sz) (hm:off%sz=0) (hn:off/sz+n<=count):liesAt P P.depth e count off e n=true:=by
 have hd:P.depth=(2*(P.types.size+Made.depth)+1)+1:=rfl;rw[hd];simp only[liesAt,xf];left;rw[hd];have:¬sz=0:=by omega
 simp[rowAt,hc,hm,hn,sameLayout,this]
def Ti {o:Nat} {sh:TypeId×Nat} (h:w.shape? b=some sh):(Conv.seenAt ⟨b,o,none⟩).run P w= .ok ⟨b,o,none⟩ w:=by
 have hv:(viewAt b).run P w= .ok none w:=by simp[viewAt,h]
 simp only[Conv.seenAt,aI,hv,aj,aN]
def E2 {d:Option TypeDesc} (h:LM d=true):d=some .unsafePointer:=by
 unfold LM at h;split at h
 ·rename_i d;have h:=au h;cases d<;>first|rfl|(simp[TypeDesc.ctorIdx]at h)
 ·cases h
def E3 {src dst:TypeId} {back:Bool} (hr:Rel P ρ s w) (ht:(back=false∧P.underlying src=some (.pointer e)∧P.underlying dst=some .unsafePointer)∨(back=true∧P.underlying src=some .unsafePointer∧P.underlying dst=some (.pointer e))) (h:Gp P e back s x=some v) (hx:bN ρ x x'):∃u w',(convert src dst x').run P w= .ok u w'∧w'=w∧bN ρ v u:=by
 unfold Gp at h;split at h
 ·cases h;cases hx;refine⟨_,w,?_,rfl,.tJ⟩;rcases ht with ⟨_,h1,h2⟩|⟨_,h1,h2⟩<;>simp only[convert,Conv.unsafePointer,aI,aF h1,aF h2,aj,aN]
 ·rename_i a;replace h:=ak h;obtain⟨n,hn,h⟩:=h;replace h:=kT h;obtain⟨c,sz,m,ro,et,hb,h⟩:=h;replace h:=aY h;obtain⟨h0,h⟩:=h;replace h:=aY h;obtain⟨hm,h⟩:=h;replace h:=aY h;obtain⟨hs,h⟩:=h;replace h:=ak h;obtain⟨l,hl,h⟩:=h;replace h:=aY h;obtain⟨hbk,h⟩:=h;cases h;cases hx with| @ptr a x off hx=>?_
  obtain⟨_,hC⟩:=hr.jI _ _ x hb hx;have hC:fY P ρ x w c sz m ro et:=hC;have hs:=au hs;subst hs;have h0:0<n:=aO h0;have hm:off%n=0:=au hm;obtain⟨q1,q2,q3⟩:=hC.cell _ _ hl;have hdm:off/n*n=off:=by have:=iJ off n;rw[hm,gE]at this;simpa using this
  have iO:∀j,j<n->x.base+off+j<x.lim:= λj hj=>by
   obtain⟨u,hu,_⟩:=q3 j _ (ba (by omega));have e1:x.base+(Nat.div off n*n+j)=x.base+off+j:=by show x.base+(off/n*n+j)=x.base+off+j;omega
   rw[e1]at hu;exact(let⟨_,hs,_⟩:=hC.shape;VH hs (by rw[hu];rfl))
  refine⟨_,w,?_,rfl,.ptr off hx⟩;have vX:¬n=0:=by omega
  have awl:=(let⟨_,hs,_⟩:=hC.shape;Ti (P:=P) (o:=x.base+off) hs)
  rcases ht with ⟨_,h1,h2⟩|⟨qR,h1,h2⟩
  ·have hci:(cellsIn x.b).run P w= .ok (some x.lim) w:=by obtain⟨_,hs,_⟩:=hC.shape;simp[cellsIn,hs]
   have cS:¬(x.base+off≥x.lim):=by have:=iO 0 h0;omega
   have qK:(decide (x.base+off≥x.lim)&&(⟨x.b,x.base+off,none⟩:Addr).spot.isNone)=false:=by rw[az cS];rfl
   simp only[convert,Conv.unsafePointer,aI,aF h1,aF h2,aj,aN,awl,hci,dS hn w,qK,vX,decide_false,Bool.or_self,cE,eG]
  ·subst qR;have he:et=e:=au hbk;subst he;obtain⟨q,hq⟩:=hC.mult;have IY:(x.base+off)%n=0:=by
    rw[hq,<-hdm,<-dy];simp
   have cS:=iO (n-1) (by omega);have anQ:(variablesAt ⟨x.b,x.base+off,none⟩ et 1).run P w= .ok true w:=by
    have RK:(shape (⟨x.b,x.base+off,none⟩:Addr).block).run P w= .ok (some (et,x.lim)) w:=by rw[run_shape];exact congrArg (λz=>Result.ok z w) (hC.shi (Ht hn))
    have hle:(x.base+off)/n+1<=x.lim/n:=by rw[Nat.le_div_iff_mul_le h0,dy,Bh];have:=iJ (x.base+off) n;rw[IY,gE]at this;omega
    simp only[variablesAt,aI,sK,aj,RK,aN,rO hn];rw[E1 (rO hn) h0 IY hle]
   simp only[convert,Conv.unsafePointer,aI,aF h1,aF h2,aj,aN,awl,dS hn w,anQ,vX,decide_false,Bool.or_true,jQ,aN]
 ·cases h
def PX (w:World) (h:Og l=some v) (hl:bJ ρ l l'):
  ∃u,(Builtin.unsafeSliceData_ ts ty l'.toArray).run P w= .ok u w∧bN ρ v u:=by
 unfold Og at h;split at h
 ·cases h;obtain⟨x',rfl,hx⟩:=bJ.Li hl;cases hx;exact⟨_,rfl,.tJ⟩
 ·rename_i a0 n0 c0;obtain⟨x',rfl,hx⟩:=bJ.Li hl;replace h:=aY h;obtain⟨h0,h⟩:=h;cases h;cases hx with| @slice a x off _ _ cap ad hx q1 q2 q3 q4 q5=>?_
  have h0:0<c0/512:=aO h0;have Za:ad=⟨x.b,x.base+off,none⟩:=by
   rcases q4 with q4|q4
   ·exact q4
   ·omega
  subst Za;exact⟨_,Go.Lib.run_unsafeSliceData_row w ts ty _ n0 cap (by omega),.ptr off hx⟩
 ·cases h
def Rel.freeze {x:Loc} {c:T LVal} {sz:Nat} (hr:Rel P ρ s w) (hs:s.set a (some (.cells c sz n true et))=some s') (hk:s.h.get a=some (.cells c sz n false et)) (hx:ρ a=some x) (eR:w'.heap.size=w.heap.size) (hold:∀b,b≠x.b->w'.heap[b]? =w.heap[b]?) (hc:∀o,w'.cell? ⟨x.b,o,none⟩=w.cell? ⟨x.b,o,none⟩) (RK:w'.shape? x.b=w.shape? x.b) (ht:w'.tape=w.tape) (ho:w'.os=w.os) (hu:w'.output=w.output):Rel P ρ s' w'∧je ρ s w ρ s' w':=by
 obtain⟨IT,hg⟩:=AS.tK hs;have halt:a<s.nx:=by
  rcases mH a s.nx with h|h
  ·exact h
  ·rw[hr.uz a h]at hx;cases hx
 obtain⟨cS,hC⟩:=hr.jI _ _ x hk hx;have hC:fY P ρ x w c sz n false et:=hC;have tr:fY P ρ x w' c sz n true et:=
  ⟨λi l hl=>(let⟨p1,p2,p3⟩:=hC.cell i l hl;⟨p1,p2,λj v hv=>by rw[hc];exact p3 j v hv⟩),λo ho=>by rw[hc];exact hC.all o ho,λq=>(by cases q),⟨et,by rw[RK];exact hC.sh,.inl rfl⟩,hC.mult,.inl hC.pn⟩
 refine(λ(hS:je ρ s w ρ s' w')=>⟨⟨λa ha=>hr.uz a (by omega),λb hb=>?_,λb k2 y e e'=>?_,by rw[(AS.mP hs).1,IT];exact hr.lim,λb b' k1 k2 x1 x2 so e1 e2 r1 r2 EA=>?_,hr.gl.of hS.size hS.frame⟩,hS⟩) ⟨λ_ _=>rfl,by omega,ht,ho,hu,by omega,λb iR hn=>?_,λb iR hn=>?_,λb r iR=>?_,(AS.mP hs).1,AS.FI hs,λb k2 y hl _ uA ug hy=>hold _ (λe=>by
  have hba:b≠a:=by have:=(AS.mP hs).2;omega
  have:=(hr.pc b a k2 _ y x hba uA hk hy hx e).1;rw[ug]at this;cases this)⟩
 ·have zH:b≠x.b:= λe=>hn ⟨a,_,x,hk,hx,e.symm⟩;refine⟨hold b zH,?_⟩;rintro⟨c,k2,y,e,e',rfl⟩;rw[hg]at e;by_cases hc:c=a
  ·rw[hc,hx]at e';cases e';exact zH rfl
  ·rw[aC hc]at e;exact hn ⟨c,k2,y,e,e',rfl⟩
 ·exact .inl (by rw[hg,aC (λe=>by rw[e,hx]at hn;cases hn)])
 ·by_cases zH:b=x.b
  ·subst zH;have:xU (.cells c sz n false et)=true:=Du (P:=P) (ρ:=ρ) iR (hr.jI _ _ x hk hx).2;cases this
  ·exact⟨r,by rw[hold b zH];exact iR⟩
 ·rw[hg,aC (by omega)];exact hr.top b (by omega)
 ·rw[hg]at e;by_cases iR:b=a
  ·subst iR;rw[aU rfl]at e;cases e;rw[hx]at e';cases e';exact⟨by rw[eR];exact cS,tr⟩
  ·rw[aC iR]at e;obtain⟨h1,h2⟩:=hr.jI b k2 y e e';refine⟨by omega,?_⟩;exact h2.congr (hold _ λVd=>by have:=(hr.pc b a k2 _ y x iR e hk e' hx Vd).2;cases this)
 ·have eb:∀ {b k},s'.h.get b=some k->∃k0,s.h.get b=some k0∧(Ga k0=true->Ga k=true):= λ {b k} e=>by
   rw[hg]at e;by_cases hb:b=a
   ·rw[aU hb]at e;cases e;exact⟨_,by rw[hb];exact hk,λ_=>rfl⟩
   ·rw[aC hb]at e;exact⟨k,e,id⟩
  obtain⟨k1',f1,g1⟩:=eb e1;obtain⟨k2',f2,g2⟩:=eb e2;obtain⟨p1,p2⟩:=hr.pc b b' k1' k2' x1 x2 so f1 f2 r1 r2 EA;exact⟨g1 p1,g2 p2⟩
def MV (w:World) (a:Addr) (n:Nat) (x:Addr):(w.freeze a n).cell? x=w.cell? x:=by
 unfold World.freeze;split
 ·rfl
 ·simp only[World.cell?,iW];by_cases h:a.block=x.block
  ·rw[aU h];cases hk:w.heap[x.block]? with
   |none=>simp
   |some o=>cases o<;>simp
  ·rw[aC h]
def Jx (w:World) (a:Addr) (n:Nat) (r:Nat):(w.freeze a n).shape? r=w.shape? r:=by
 unfold World.freeze;split
 ·rfl
 ·simp only[World.shape?,iW];by_cases h:a.block=r
  ·rw[aU h];cases hk:w.heap[r]? with
   |none=>simp
   |some o=>cases o<;>simp
  ·rw[aC h]
def MW (w:World) (a:Addr) (n:Nat) (b:Nat) (h:b≠a.block):(w.freeze a n).heap[b]? =w.heap[b]?:=by
 unfold World.freeze;split
 ·rfl
 ·simp[iW,jd h]
def PY (w:World) (a:Addr) (n:Nat):(w.freeze a n).heap.size=w.heap.size:=by unfold World.freeze;split<;>simp
def PZ (w:World) (a:Addr) (n:Nat):(w.freeze a n).tape=w.tape∧(w.freeze a n).os=w.os∧(w.freeze a n).output=w.output:=by unfold World.freeze;split<;>exact⟨rfl,rfl,rfl⟩
def Tj {r:Value×AS} (hr:Rel P ρ s w) (h:Wp P ts s l=some r) (hl:bJ ρ l l'):
  z8 P ρ s w (Builtin.unsafeString_ ts ty l'.toArray) r:=by
 have Zy:IntKind.i64.max=9223372036854775807:=rfl;unfold Wp at h;split at h
 ·rename_i u k N3;obtain⟨t0,vq,hu⟩:=q0 N3;obtain⟨x',y',rfl,hx,hy⟩:=bJ.two hl;cases hx;cases hy;cases h;refine⟨ρ,_,w,?_,.string _,hr,.refl _ _ _⟩;have uu:([Value.pointer none,.int k (.ofNat 0)]:LVal).toArray= #[.pointer none,.int k 0]:=rfl;rw[uu];have h1:¬((0:Int)<0):=by decide
  have h2:¬((0:Int)>IntKind.i64.max):=by decide
  rw[show Builtin.unsafeString_ ts ty #[.pointer none,.int k 0]=asInt (.int k 0)>>=_ from rfl];simp only[vq,aI,zm,aj,aC h1,aC h2,aU,aN];rfl
 ·rename_i u a k n N3;obtain⟨t0,vq,hu⟩:=q0 N3;obtain⟨x',y',rfl,hx,hy⟩:=bJ.two hl;replace h:=kT h;obtain⟨c,sz,m,ro,et,hb,h⟩:=h;cases ro with
  |true=>cases h
  |false=>?_
  replace h:aD (Nat.beq et u) _ none=_:=h;replace h:=aY h;obtain⟨het,h⟩:=h;replace h:=aY h;obtain⟨eR,h⟩:=h;replace h:=aY h;obtain⟨hus,h⟩:=h;replace h:=aY h;obtain⟨hn,h⟩:=h;replace h:=ak h;obtain⟨els,nL,h⟩:=h;replace h:=ak h;obtain⟨bs,RJ,h⟩:=h;replace h:=ak h;obtain⟨s',vo,h⟩:=h;cases h;cases hy;cases hx with| @ptr a x off hx=>?_
  have het:=au het;have eR:=au eR;have hus:=au hus;subst het eR;have hn:n<1000000:=aO hn;have IZ:dc P et=some 1:=by
   cases hq:dc P et with
   |none=>rw[hq]at hus;cases hus
   |some q=>rw[hq]at hus;simp at hus;rw[hus]
  obtain⟨cS,hC⟩:=hr.jI _ _ x hb hx;have hC:fY P ρ x w c 1 m false et:=hC;obtain⟨Nr,hg⟩:=J6 _ _ _ nL;have hlen:∀l∈els,l.length=1:= λl hl=>by obtain⟨i,hi⟩:=List.mem_iff_getElem?.1 hl;exact(hC.cell _ _ (hg i l hi)).2.1
  have EC:=CK RJ;have Lt:bs.length=n:=by have:=rJ hlen;rw[EC,dP,Nr]at this;omega
  have jG:∀j (b:UInt8),bs[j]? =some b->w.cell? ⟨x.b,x.base+off+j,none⟩=some (.int .u8 b.toNat):=by
   intro j b hj;have hf:els.flatten[j]? =some (.int .u8 (b.toNat:Int)):=by rw[EC];simp[hj]
   obtain⟨_,l,q1,q2⟩:=J7 hlen hf;obtain⟨u,hu,oK⟩:=(hC.cell _ _ (hg _ l q1)).2.2 _ _ q2;cases oK;have e1:x.base+((off+j/1)*1+j%1)=x.base+off+j:=by simp[Nat.mod_one];omega
   have e2:x.base+(((⟨a,off,none⟩:Addr).off+j/1)*1+j%1)=x.base+off+j:=e1;rw[e2]at hu;exact hu
  have h1:¬(((n:Nat):Int)<0):=by omega
  have h2:¬(((n:Nat):Int)>IntKind.i64.max):=by rw[Zy];omega
  have uu:([Value.pointer (some ⟨x.b,x.base+off,none⟩),.int k (.ofNat n)]:LVal).toArray= #[.pointer (some ⟨x.b,x.base+off,none⟩),.int k (n:Int)]:=rfl;rw[uu];cases n with
  |zero=>have:bs= []:=List.length_eq_zero_iff.1 Lt;subst this;obtain⟨hR,hS⟩:=Rel.freeze hr vo hb hx rfl (λ_ _=>rfl) (λ_=>rfl) rfl rfl rfl rfl;refine⟨ρ,_,w,?_,.string _,hR,hS⟩;rw[show Builtin.unsafeString_ ts ty #[.pointer (some ⟨x.b,x.base+off,none⟩),.int k ((0:Nat):Int)]=asInt (.int k ((0:Nat):Int))>>=_ from rfl];simp only[vq,aI,zm,aj,aC h1,aC h2];rfl
  |succ n=>
   have ed:¬(((n+1:Nat):Int)=0):=by omega
   have Bz:x.base+off+n<x.lim:=by
    have hjl:n<bs.length:=by omega
    have:=jG n _ (ba hjl);exact(let⟨_,hs,_⟩:=hC.shape;VH hs (by rw[this];rfl))
   have anQ:(variablesAt ⟨x.b,x.base+off,none⟩ et (n+1)).run P w= .ok true w:=by
    have RK:(shape (⟨x.b,x.base+off,none⟩:Addr).block).run P w= .ok (some (et,x.lim)) w:=by rw[run_shape];exact congrArg (λz=>Result.ok z w) (hC.shi (Ht IZ))
    simp only[variablesAt,aI,sK,aj,RK,aN,rO IZ];rw[E1 (rO IZ) (by omega) (Nat.mod_one _) (by simp;omega)]
   have Aa:=Go.Lib.run_loadBytes (P:=P) w bs ⟨x.b,x.base+off,none⟩ .empty (λj b hj=>by rw[kM];exact jG j b hj);rw[Lt]at Aa;obtain⟨f1,f2,f3⟩:=PZ w ⟨x.b,x.base+off,none⟩ (n+1);obtain⟨hR,hS⟩:=Rel.freeze (w':=w.freeze ⟨x.b,x.base+off,none⟩ (n+1)) hr vo hb hx (PY _ _ _) (λb iR=>MW _ _ _ _ iR) (λ_=>MV _ _ _ _) (Jx _ _ _ _) f1 f2 f3;refine⟨ρ,.string ⟨⟨bs⟩⟩,_,?_,.string _,hR,hS⟩;have ayV:(elemOf t0).run P w= .ok et w:=by simp[elemOf,aF hu]
   have e0:(⟨(ByteArray.empty).data++bs.toArray⟩:ByteArray)=⟨⟨bs⟩⟩:=by have:(ByteArray.empty).data= #[]:=rfl;rw[this];simp
   rw[e0]at Aa;rw[show Builtin.unsafeString_ ts ty #[.pointer (some ⟨x.b,x.base+off,none⟩),.int k ((n+1:Nat):Int)]=asInt (.int k ((n+1:Nat):Int))>>=_ from rfl];simp only[vq,aI,zm,aj,aC h1,aC h2,aC ed,ayV,sO,anQ,jQ,Aa,run_freeze,aN]
 ·cases h
def MX {r:Value×AS} (hr:Rel P ρ s w) (h:De P t s x=some r) (hx:bN ρ x x'):z8 P ρ s w (Instr.range t x') r:=by
 unfold De at h;split at h
 ·rename_i b hu;replace h:=ak h;obtain⟨s',vo,h⟩:=h;cases h;cases hx;have QS:(w.alloc (.stringIter b 0)).heap=w.heap.push (.stringIter b 0):=rfl;have hA:=Rel.alloc (P:=P) (x:=⟨w.heap.size,0,0,none⟩) (w':=w.alloc (.stringIter b 0)) hr vo rfl (by simp[QS]) (λc hc=>by simp[QS,cU,fK hc]) rfl rfl rfl ⟨rfl,by simp[QS]⟩;refine⟨_,_,_,?_,bN.ptr (x:=⟨w.heap.size,0,0,none⟩) 0 (iM _ _ _),hA.1,hA.2⟩;simp only[Instr.range,aI,aF hu,aj,aN,eZ]
 ·rename_i k e hu;replace h:=ak h;obtain⟨s',vo,h⟩:=h;cases h;cases hx;have QS:(w.alloc (.mapIter none 0 #[] 0)).heap=w.heap.push (.mapIter none 0 #[] 0):=rfl;have hA:=Rel.alloc (P:=P) (x:=⟨w.heap.size,0,0,none⟩) (w':=w.alloc (.mapIter none 0 #[] 0)) hr vo rfl (by simp[QS]) (λc hc=>by simp[QS,cU,fK hc]) rfl rfl rfl ⟨rfl,.inl ⟨rfl,by simp[QS]⟩⟩;refine⟨_,_,_,?_,bN.ptr (x:=⟨w.heap.size,0,0,none⟩) 0 (iM _ _ _),hA.1,hA.2⟩;simp only[Instr.range,aI,aF hu,aj,aN,eZ]
 ·rename_i m k e hu;replace h:=kG h;obtain⟨kt,es,ck,hb,h⟩:=h;replace h:=ak h;obtain⟨s',vo,h⟩:=h;cases h;cases hx with| @map _ y hy=>?_
  obtain⟨cJ,hh,_⟩:=(hr.jI _ _ y hb hy).2;have QS:(w.alloc (.mapIter (some y.b) ck #[] ck)).heap=w.heap.push (.mapIter (some y.b) ck #[] ck):=rfl;have hA:=Rel.alloc (P:=P) (x:=⟨w.heap.size,0,0,none⟩) (w':=w.alloc (.mapIter (some y.b) ck #[] ck)) hr vo rfl (by simp[QS]) (λc hc=>by simp[QS,cU,fK hc]) rfl rfl rfl ⟨rfl,.inr ⟨m,y,rfl,xV (hr.uz _ (af _)) _ _ _ hy,by simp[QS]⟩⟩;refine⟨_,_,_,?_,bN.ptr (x:=⟨w.heap.size,0,0,none⟩) 0 (iM _ _ _),hA.1,hA.2⟩;simp only[Instr.range,aI,aF hu,aj,aN,eM hh (by simp),eZ]
 ·cases h
def P0 {r:Value×AS} (hr:Rel P ρ s w) (h:aaw s x=some r) (hx:bN ρ x x'):z8 P ρ s w (Instr.next x' true ty) r:=by
 unfold aaw at h;split at h
 ·rename_i a sp;split at h
  ·rename_i b pos hb;cases hx with| @ptr a y off hy=>?_
   obtain⟨_,h0,hh⟩:=hr.jI _ _ y hb hy;rw[h0];rw[bW]at h;split at h
   ·rename_i cS;replace h:=ak h;obtain⟨s',vo,h⟩:=h;cases h;have cS:pos<b.size:=by
     have:pos<len b.data.toList:=aO cS;rw[dQ]at this;simpa using this
    have hS:=Rel.setObj (o':= .stringIter b (pos+(Utf8.decode b pos).2)) hr vo hb rfl hy (λw' xb=>⟨h0,xb⟩);refine⟨ρ,_,_,?_,.tuple (.cons (.bool _) (.cons (.int _ _) (.cons (.int _ _) .nil))),hS.1,hS.2⟩;simp only[Instr.next,aI,aN,aj,eM hh (by simp),aU cS,ky hh (by simp),goInt]
    try rfl
   ·rename_i cS;cases h;have cS:¬pos<b.size:= λh=>cS (by
     have:pos<len b.data.toList:=by rw[dQ];simpa using h
     exact bg this)
    refine⟨ρ,_,w,?_,.tuple (.cons (.bool _) .nil),hr,.refl _ _ _⟩;simp only[Instr.next,aI,aN,aj,eM hh (by simp),aC cS]
    try rfl
  ·cases h
 ·cases h
def Tk (hr:Rel P ρ s w) (ht:R4 (sj P ts 0)=true) (h:anG s l=some v) (hl:bJ ρ l l'):
  ∃u,(Builtin.len_ ts ty l'.toArray).run P w= .ok u w∧bN ρ v u:=by
 have EB:∃t0 k e,ts[0]? =some t0∧P.underlying t0=some (.map k e):=by
  unfold R4 at ht;split at ht
  ·rename_i k e N3;obtain⟨t0,h1,h2⟩:=q0 N3;exact⟨t0,k,e,h1,h2⟩
  ·cases ht
 obtain⟨t0,k,e,vq,hu⟩:=EB;have h0:∀(x:Value),(#[x]:Array Value)[0]? =some x:= λ_=>rfl;unfold anG at h;split at h
 ·cases h;obtain⟨x',rfl,hx⟩:=bJ.Li hl;cases hx;refine⟨_,?_,.int _ _⟩;simp only[Builtin.len_,vq,h0,aI,aF hu,aj,aN,goInt];rfl
 ·obtain⟨x',rfl,hx⟩:=bJ.Li hl;replace h:=kG h;obtain⟨kt,es,ck,hb,h⟩:=h;rw[bD]at h;cases h;cases hx with| @map a x hx=>?_
  obtain⟨cJ,hh,⟨m,hp,hf,_⟩,_⟩:=(hr.jI _ _ x hb hx).2;refine⟨_,?_,.int _ _⟩;have hlen:len es=cJ.size:=by
   rw[dQ];have h1:∀ {l:List (Value×Value×Nat)} {m:List MapEntry},F2 (λp e=>p.1=e.key∧eB P kt p.1=true∧Plain p.1∧bN ρ p.2.1 e.val∧(p.2.2=0∨p.2.2=e.born+1)) l m->l.length=m.length:=by
    intro l m h;induction h with
    |nil=>rfl
    |cons _ _ ih=>simp[ih]
   rw[h1 hf,hp.length_eq];simp
  simp only[Builtin.len_,vq,h0,aI,aF hu,aj,aN,goInt,eM hh (by simp),hlen];rfl
 ·cases h
def mK {k:KK} {ks:List KK} (h:eY (k::ks) l=true):∃v r,l=v::r∧AD k v=true∧eY ks r=true:=by
 cases l with
 |nil=>cases h
 |cons v r=>
  have h':aD (AD k v) (eY ks r) false=true:=h;rw[bW]at h';split at h'
  ·exact⟨v,r,rfl,‹_›,h'⟩
  ·cases h'
def kI (h:eY [] l=true):l= []:=by
 cases l with
 |nil=>rfl
 |cons v r=>cases h
def MY:∀ {ks:List KK} {l:LVal},eY ks l=true->l.length=ks.length:=by
 intro ks;induction ks with
 |nil=>intro l h;rw[kI h];rfl
 |cons k ks ih=>intro l h;obtain⟨v,r,rfl,_,h⟩:=mK h;simp[ih h]
def jy:∀ {a b:List KK} {l:LVal},eY (a++b) l=true->eY a (l.take a.length)=true∧eY b (l.drop a.length)=true:=by
 intro a;induction a with
 |nil=>intro b l h;exact⟨rfl,h⟩
 |cons k a ih=>intro b l h;obtain⟨v,r,rfl,h1,h2⟩:=mK h;obtain⟨h3,h4⟩:=ih h2;refine⟨?_,h4⟩;show aD (AD k v) (eY a (r.take a.length)) false=true;rw[h1];exact h3
def r7:∀ {ks:List KK} {l:LVal},eY ks l=true->∀v∈l,Plain v∧dZ v=true:=by
 intro ks;induction ks with
 |nil=>intro l h;rw[kI h];intro v hv;cases hv
 |cons k ks ih=>
  intro l h;obtain⟨v,r,rfl,h1,h2⟩:=mK h;intro u hu;rcases List.mem_cons.1 hu with rfl|hu
  ·unfold AD at h1;split at h1
   ·exact⟨.int _ _,rfl⟩
   ·exact⟨.string _,rfl⟩
   ·exact⟨.bool _,rfl⟩
   ·cases h1
  ·exact ih h2 u hu
def P1 {a:Option Bool} {ks:List KK} (h:m6 a ks v=true):Plain v:=by
 unfold m6 at h;split at h
 ·split at h
  ·exact .agg _ (λv hv=>(r7 h v hv).1)
  ·cases h
 ·split at h
  ·cases h
  ·exact(r7 h _ (by simp)).1
 ·cases h
def XL {a:Option Bool} {ks:List KK} (h:m6 a ks v=true) (h':m6 a ks v'=true):v=v'↔v.cells.toList=v'.cells.toList:=by
 refine⟨λe=>by rw[e],λe=>?_⟩;unfold m6 at h h';split at h
 ·split at h
  ·simp only at h';split at h'
   ·exact congrArg Value.agg (eh e)
   ·cases h'
  ·cases h
 ·split at h
  ·cases h
  ·rename_i ed;simp only at h';split at h'
   ·cases h'
   ·rename_i so;have e1:v.cells= #[v]:=by cases v<;>first|rfl|exact(ed _ rfl).elim
    have e2:v'.cells= #[v']:=by cases v'<;>first|rfl|exact(so _ rfl).elim
    rw[e1,e2]at e;simpa using e
 ·cases h
def E4 {d:Nat} {ks:List KK} (h:jv P d t=some ks):∃b,isAgg P t=some b∧(b=false->ks.length=1):=by
 cases d with
 |zero=>cases h
 |succ d=>
  unfold jv at h;unfold isAgg;cases hu:P.underlying t with
  |none=>rw[hu]at h;cases h
  |some D=>
   rw[hu]at h;cases D<;>first
    |(cases h;exact⟨false,rfl,λ_=>rfl⟩)
    |exact⟨true,rfl,λh=>by cases h⟩
    |(cases h;done)
def zn {ks:List KK} {cs:Array Value} {d:Nat} (w:World) (hp:jv P d t=some ks) (hs:dc P t=some ks.length) (hc:eY ks ((cs.toList.drop off).take ks.length)=true):
  ∃v,(part t cs off).run P w= .ok v w∧m6 (isAgg P t) ks v=true∧v.cells.toList=(cs.toList.drop off).take ks.length:=by
 obtain⟨b,hb,h1⟩:=E4 hp;have hA:=we hb w;rw[hb];cases b with
 |true=>
  have e:(cs.extract off (off+ks.length)).toList=(cs.toList.drop off).take ks.length:=by simp
  refine⟨.agg (cs.extract off (off+ks.length)),?_,?_,e⟩
  ·simp only[part,aI,hA,aj,jQ,dS hs w,aN]
  ·show eY ks (cs.extract off (off+ks.length)).toList=true;rw[e];exact hc
 |false=>
  have hl:=h1 rfl;rw[hl]at hc⊢;have hlen:=MY hc;rw[hl]at hlen;have Wt:off<cs.size:=by simp at hlen;omega
  have e:(cs.toList.drop off).take 1= [cs[off]]:=by rw[List.take_one];simp[Wt]
  rw[e]at hc⊢;have Bl:=(r7 hc cs[off] (by simp)).2;refine⟨cs[off],?_,?_,?_⟩
  ·simp only[part,aI,hA,aj,cE,eG,iU Wt,aN]
  ·generalize cs[off]=v at hc Bl;cases v<;>first|exact hc|cases Bl
  ·generalize cs[off]=v at Bl;cases v<;>first|rfl|cases Bl
def wY {pl:TypeId->Option (List KK)} {f:Field} {fs:List Field} {ks:List KK} (h:nh P pl (f::fs) off=some ks):
  f.name≠ "_"∧f.offset=off∧∃l r,pl f.type=some l∧dc P f.type=some l.length∧nh P pl fs (off+l.length)=some r∧ks=l++r:=by
 unfold nh at h;split at h
 ·cases h
 ·rename_i hc;simp only[xf,Fj,bne_iff_ne,ne_eq,not_or,Decidable.not_not]at hc;split at h
  ·rename_i l hl;split at h
   ·rename_i hs;split at h
    ·rename_i r hr;cases h;exact⟨hc.1,hc.2,l,r,hl,by simpa using hs,hr,rfl⟩
    ·cases h
   ·cases h
  ·cases h
def JX (P:Program) (d dd:Nat):Prop:=∀(t:TypeId) (ks:List KK),jv P d t=some ks->∀w:World,
 (∀em v,m6 (isAgg P t) ks v=true->(Instr.checkKey em dd t v).run P w= .ok () w)∧
 (∀v v',m6 (isAgg P t) ks v=true->m6 (isAgg P t) ks v'=true->∃r:Bool,(Op.equalIn dd t v v').run P w= .ok r w∧(r=true↔v=v'))
def VJ {d dd:Nat} (IH:JX P d dd) {ks:List KK} {xs ys:Array Value} (w:World) (hp:jv P d t=some ks) (hs:dc P t=some ks.length) (hx:eY ks ((xs.toList.drop off).take ks.length)=true) (hy:eY ks ((ys.toList.drop off).take ks.length)=true):
  ∃a b r,(part t xs off).run P w= .ok a w∧(part t ys off).run P w= .ok b w∧(Op.equalIn dd t a b).run P w= .ok r w∧(r=true↔(xs.toList.drop off).take ks.length=(ys.toList.drop off).take ks.length):=by
 obtain⟨a,p1,f1,c1⟩:=zn w hp hs hx;obtain⟨b,p2,f2,c2⟩:=zn w hp hs hy;obtain⟨r,hr,xm⟩:=(IH t ks hp w).2 a b f1 f2;exact⟨a,b,r,p1,p2,hr,by rw[xm,XL f1 f2,c1,c2]⟩
def OR (n:Nat) (a b:LVal):a=b↔a.take n=b.take n∧a.drop n=b.drop n:=
 ⟨λh=>by rw[h];exact⟨rfl,rfl⟩,λ⟨h1,h2⟩=>by rw[<-iX n a,<-iX n b,h1,h2]⟩
def P2 {d dd:Nat} (IH:JX P d dd) (xs ys:Array Value):∀(fs:List Field) (off:Nat) (ks:List KK) (w:World),nh P (jv P d) fs off=some ks->eY ks (xs.toList.drop off)=true->eY ks (ys.toList.drop off)=true->
  ∃r:Bool,(Op.eqFields dd xs ys fs).run P w= .ok r w∧(r=true↔xs.toList.drop off=ys.toList.drop off):=by
 intro fs;induction fs with
 |nil=>intro off ks w h hx hy;cases h;rw[kI hx,kI hy];exact⟨true,rfl,by simp⟩
 |cons f fs ih=>
  intro off ks w h hx hy;obtain⟨hn,ho,l,r,hl,hs,hr,rfl⟩:=wY h;obtain⟨x1,x2⟩:=jy hx;obtain⟨y1,y2⟩:=jy hy;obtain⟨a,b,r1,p1,p2,p3,xm⟩:=VJ IH w hl hs x1 y1;rw[fS]at x2 y2;obtain⟨r2,q,aaD⟩:=ih _ _ w hr x2 y2;rw[OR l.length,fS,fS];subst ho;simp only[Op.eqFields,hn,ne_eq,S5,jQ,aI,p1,p2,p3,aj];cases r1
  ·exact⟨false,by simp,by simp;intro e;exact absurd (xm.2 e) (by simp)⟩
  ·exact⟨r2,by simpa using q,by rw[aaD];simp[xm.1 rfl]⟩
def Tl {d dd:Nat} (IH:JX P d dd) (xs ys:Array Value) {l:List KK} (hl:jv P d e=some l) (hs:dc P e=some l.length):∀(n i:Nat) (w:World),eY (List.replicate n l).flatten (xs.toList.drop (i*l.length))=true->eY (List.replicate n l).flatten (ys.toList.drop (i*l.length))=true->
  ∃r:Bool,(Op.eqItems dd e l.length xs ys (List.range' i n)).run P w= .ok r w∧(r=true↔xs.toList.drop (i*l.length)=ys.toList.drop (i*l.length)):=by
 intro n;induction n with
 |zero=>intro i w hx hy;rw[kI hx,kI hy];exact⟨true,rfl,by simp⟩
 |succ n ih=>
  intro i w hx hy;rw[jN,cX]at hx hy;obtain⟨x1,x2⟩:=jy hx;obtain⟨y1,y2⟩:=jy hy;obtain⟨a,b,r1,p1,p2,p3,xm⟩:=VJ IH w hl hs x1 y1;rw[fS,<-ayF]at x2 y2;obtain⟨r2,q,aaD⟩:=ih _ w x2 y2;rw[OR l.length,fS,fS,<-ayF];simp only[Xx,Op.eqItems,aI,p1,p2,p3,aj];cases r1
  ·exact⟨false,by simp,by simp;intro e;exact absurd (xm.2 e) (by simp)⟩
  ·exact⟨r2,by simpa using q,by rw[aaD];simp[xm.1 rfl]⟩
def ID {d dd:Nat} (IH:JX P d dd) (em:Bool) (xs:Array Value) (w:World) {g:Field->PUnit->Sem (ForInStep PUnit)} (hg:∀f a,f.name≠ "_"->(part f.type xs f.offset).run P w= .ok a w->(Instr.checkKey em dd f.type a).run P w= .ok () w->(g f ⟨⟩).run P w= .ok (.yield ⟨⟩) w):
  ∀(fs:List Field) (off:Nat) (ks:List KK),nh P (jv P d) fs off=some ks->eY ks (xs.toList.drop off)=true->(forIn fs PUnit.unit g).run P w= .ok PUnit.unit w:=by
 intro fs;induction fs with
 |nil=>intro off ks h hx;rfl
 |cons f fs ih=>intro off ks h hx;obtain⟨hn,ho,l,r,hl,hs,hr,rfl⟩:=wY h;obtain⟨x1,x2⟩:=jy hx;rw[fS]at x2;obtain⟨a,p1,f1,_⟩:=zn w hl hs x1;have hck:=(IH _ _ hl w).1 em a f1;subst ho;rw[List.forIn_cons];simp only[aI,hg f a hn p1 hck,aj];exact ih _ _ hr x2
def Jy {d dd:Nat} (IH:JX P d dd) (em:Bool) (xs:Array Value) (w:World) {l:List KK} (hl:jv P d e=some l) (hs:dc P e=some l.length) {g:Nat->PUnit->Sem (ForInStep PUnit)} (hg:∀i a,(part e xs (i*l.length)).run P w= .ok a w->(Instr.checkKey em dd e a).run P w= .ok () w->(g i ⟨⟩).run P w= .ok (.yield ⟨⟩) w):
  ∀(n i:Nat),eY (List.replicate n l).flatten (xs.toList.drop (i*l.length))=true->(forIn (List.range' i n) PUnit.unit g).run P w= .ok PUnit.unit w:=by
 intro n;induction n with
 |zero=>intro i hx;rfl
 |succ n ih=>intro i hx;rw[jN,cX]at hx;obtain⟨x1,x2⟩:=jy hx;rw[fS,<-ayF]at x2;obtain⟨a,p1,f1,_⟩:=zn w hl hs x1;have hck:=(IH _ _ hl w).1 em a f1;rw[Xx,List.forIn_cons];simp only[aI,hg i a p1 hck,aj];exact ih _ x2
def oc {a:Option Bool} {k:KK} (ha:a=some false) (h:m6 a [k] v=true):AD k v=true:=by
 subst ha;unfold m6 at h;simp only at h;split at h
 ·cases h
 ·obtain⟨u,r,e,h1,_⟩:=mK h;cases e;exact h1
def uL {a:Option Bool} {ks:List KK} (ha:a=some true) (h:m6 a ks v=true):∃cs,v= .agg cs∧eY ks cs.toList=true:=by
 subst ha;unfold m6 at h;simp only at h;split at h
 ·exact⟨_,rfl,h⟩
 ·cases h
def Sc:∀(d m:Nat),JX P d (m+d)
 |0,m=> λt ks h=>by cases h
 |d+1,m=> λt ks h w=>by
  have IH:=Sc d m;have hdd:m+(d+1)=(m+d)+1:=rfl;rw[hdd];unfold jv at h;cases hu:P.underlying t with
  |none=>rw[hu]at h;cases h
  |some D=>
   rw[hu]at h;cases D<;>try (cases h;done)
   case bool=>
    have JL:isAgg P t=some false:=by unfold isAgg;rw[hu]
    cases h;refine⟨λem v hv=>?_,λv v' hv mu=>?_⟩
    ·have:=oc JL hv;cases v<;>try (cases this;done)
     simp only[Instr.checkKey,aI,aF hu,aj,aN]
    ·have h1:=oc JL hv;have h2:=oc JL mu;cases v<;>try (cases h1;done)
     cases v'<;>try (cases h2;done)
     exact⟨_,run_equalIn_bool' w _ t _ _ hu,by simp⟩
   case int k=>
    have JL:isAgg P t=some false:=by unfold isAgg;rw[hu]
    cases h;refine⟨λem v hv=>?_,λv v' hv mu=>?_⟩
    ·have:=oc JL hv;cases v<;>try (cases this;done)
     simp only[Instr.checkKey,aI,aF hu,aj,aN]
    ·have h1:=oc JL hv;have h2:=oc JL mu;cases v<;>try (cases h1;done)
     cases v'<;>try (cases h2;done)
     rename_i k1 a k2 b;have e1:k=k1:=tc.1 h1;have e2:k=k2:=tc.1 h2;subst e1 e2;exact⟨_,run_equalIn_int w _ t _ _ _ _ hu,by simp⟩
   case string=>
    have JL:isAgg P t=some false:=by unfold isAgg;rw[hu]
    cases h;refine⟨λem v hv=>?_,λv v' hv mu=>?_⟩
    ·have:=oc JL hv;cases v<;>try (cases this;done)
     simp only[Instr.checkKey,aI,aF hu,aj,aN]
    ·have h1:=oc JL hv;have h2:=oc JL mu;cases v<;>try (cases h1;done)
     cases v'<;>try (cases h2;done)
     refine⟨_,run_equalIn_string w _ t _ _ hu,?_⟩;rw[mn,mn,Fj,hZ];exact⟨λh=>Cy (eh h),λh=>by rw[h]⟩
   case array n e=>
    have JL:isAgg P t=some true:=by unfold isAgg;rw[hu]
    simp only at h;split at h
    ·rename_i l hl;split at h
     ·rename_i hs;have hs:dc P e=some l.length:=by simpa using hs
      cases h;refine⟨λem v hv=>?_,λv v' hv mu=>?_⟩
      ·obtain⟨cs,rfl,hc⟩:=uL JL hv;simp only[Instr.checkKey,aI,aF hu,aj];simp only[Std.Legacy.Range.forIn_eq_forIn_range',Std.Legacy.Range.size,yo,Nat.add_one_sub_one,Nat.div_one];rw[Jy IH em cs w hl hs (λi a h1 h2=>by simp only[aI,dS hs w,aj,h1,h2,aN]) n 0 (by simpa using hc)];rfl
      ·obtain⟨xs,rfl,hx⟩:=uL JL hv;obtain⟨ys,rfl,hy⟩:=uL JL mu;have hi:∃i,P.info? e=some i:=by
        unfold dc at hs;cases hi:P.info? e with
        |none=>rw[hi]at hs;cases hs
        |some i=>exact⟨i,rfl⟩
       obtain⟨i,hi⟩:=hi;obtain⟨r,hr,xm⟩:=Tl IH xs ys hl hs n 0 w (by simpa using hx) (by simpa using hy);refine⟨r,?_,?_⟩
       ·rw[run_equalIn_array (w:=w) (m+d) xs ys hu hi,rO hs,Jp];exact hr
       ·rw[xm];simp
     ·cases h
    ·cases h
   case struct fs=>
    have JL:isAgg P t=some true:=by unfold isAgg;rw[hu]
    simp only at h;split at h
    ·cases h
    ·rename_i fU;have fU:P.stoodInHeld t=false:=by simpa using fU
     refine⟨λem v hv=>?_,λv v' hv mu=>?_⟩
     ·obtain⟨cs,rfl,hc⟩:=uL JL hv;simp only[Instr.checkKey,aI,aF hu,aj];rw[<-Array.forIn_toList];rw[ID IH em cs w (λf a hn h1 h2=>by simp only[hn,ne_eq,S5,jQ,aI,aj,h1,h2,aN]) fs.toList 0 ks h (by simpa using hc)];rfl
     ·obtain⟨xs,rfl,hx⟩:=uL JL hv;obtain⟨ys,rfl,hy⟩:=uL JL mu;have QP:P.fieldsOf t=fs:=by unfold Program.fieldsOf;rw[hu]
      obtain⟨r,hr,xm⟩:=P2 IH xs ys fs.toList 0 ks w h (by simpa using hx) (by simpa using hy);refine⟨r,?_,by rw[xm];simp⟩;rw[run_equalIn_struct w (m+d) t xs ys (by rw[QP];exact hu) fU,QP];exact hr
