import GoSem.Dispatch
import GoSem.Machine.Frame
import GoSem.ClaimJoined
import Derived.Laws.IdiomCopy
import Derived.RangeFuncIn
import Derived.RangeFuncLeaves
import Derived.OrdersIn
import Derived.Laws.Strings
import Derived.Laws.Append
import Derived.Laws.NewFold
set_option linter.unusedVariables false
set_option linter.unusedSimpArgs false
/- An evaluator of the code of the model, proved: what it answers, the program does, whatever the world. Part of the proof of SolveKnown. -/
namespace Go.Eng
inductive T (α:Type)where
 |e
 |n (v:Option α) (l r:T α)
noncomputable def T.get {α:Type} (t:T α):Nat->Option α:=
 T.rec (motive:= λ_=>Nat->Option α) (λ_=>none)
  (λv _ _ iq lv k=>Nat.rec (motive:= λ_=>Option α) v
   (λm _=>Bool.rec (motive:= λ_=>Option α) (lv (Nat.div m 2)) (iq (Nat.div m 2)) (Nat.beq (Nat.mod m 2) 0)) k) t
noncomputable def T.put {α:Type} (x:Option α) (t:T α):Nat->Option (T α):=
 T.rec (motive:= λ_=>Nat->Option (T α))
  (λk=>Nat.rec (motive:= λ_=>Option (T α)) (some (.n x .e .e)) (λ_ _=>none) k)
  (λv l r iq lv k=>Nat.rec (motive:= λ_=>Option (T α)) (some (.n x l r))
   (λm _=>Bool.rec (motive:= λ_=>Option (T α))
    (Option.rec (motive:= λ_=>Option (T α)) none (λr'=>some (.n v l r')) (lv (Nat.div m 2)))
    (Option.rec (motive:= λ_=>Option (T α)) none (λl'=>some (.n v l' r)) (iq (Nat.div m 2)))
    (Nat.beq (Nat.mod m 2) 0)) k) t
noncomputable def mkT {α:Type} (n:Nat):Option (T α):=
 Nat.rec (motive:= λ_=>Option (T α)) (some .e) (λn ih=>Option.rec (motive:= λ_=>Option (T α)) none (λt=>T.put none t n) ih) n
inductive Blk where
 |cells (c:T (List Value)) (s n:Nat) (ro:Bool) (et:TypeId)
 |map (kt:TypeId) (es:List (Value×Value×Nat)) (ck:Nat)
 |cE (s:ByteArray) (pos:Nat)
 |mapIter (r:Option Nat) (ck:Nat)
 |loop (state:LoopState) (fB:Option Code) (fn nt aa:Nat) (tm:T Value) (ps:List Tmp) (assign body:Code)
 |pmap (kt:TypeId) (es:List (Value×Value×Nat)) (ck:Nat)
structure AS where
 h:T Blk
 nx:Nat
 ao:Nat
inductive bY where
 |normal|exit (id:Nat)|goto (l:Nat)|ret
inductive Out where
 |no
 |code (x:bY) (tm:T Value) (s:AS)
 |val (v:Value) (s:AS)
abbrev Ev:=Value->List Value->AS->Out
def gW (n:String):Option (List Value):=bif n== "internal/strconv.uint64pow10" then some ((List.range 20).map λi=> .int .u64 (10^i:Nat))else none
inductive VI where
 |no
 |mk (k:IntKind) (n:Int)
noncomputable def Ml (v:Value):VI:=Value.rec (motive_1:= λ_=>VI) (motive_2:= λ_=>Unit) (motive_3:= λ_=>Unit) (λ_=> .no) (λk n=> .mk k n) (λ_ _=> .no) (λ_ _ _=> .no) (λ_=> .no) (λ_=> .no) (λ_ _ _=> .no) (λ_=> .no) (λ_=> .no) (λ_ _ _ _ _=> .no) .no (λ_ _ _=> .no) .no (λ_ _=> .no) (λ_ _=> .no) (λ_ _=>()) () (λ_ _ _ _=>()) v
inductive VB where
 |no
 |mk (b:Bool)
noncomputable def PN (v:Value):VB:=Value.rec (motive_1:= λ_=>VB) (motive_2:= λ_=>Unit) (motive_3:= λ_=>Unit) (λb=> .mk b) (λ_ _=> .no) (λ_ _=> .no) (λ_ _ _=> .no) (λ_=> .no) (λ_=> .no) (λ_ _ _=> .no) (λ_=> .no) (λ_=> .no) (λ_ _ _ _ _=> .no) .no (λ_ _ _=> .no) .no (λ_ _=> .no) (λ_ _=> .no) (λ_ _=>()) () (λ_ _ _ _=>()) v
inductive VA where
 |no
 |mk (a:Addr)
noncomputable def M7 (v:Value):VA:=Value.rec (motive_1:= λ_=>VA) (motive_2:= λ_=>Unit) (motive_3:= λ_=>Unit) (λ_=> .no) (λ_ _=> .no) (λ_ _=> .no) (λ_ _ _=> .no) (λ_=> .no) (λa=>Option.rec (motive:= λ_=>VA) .no (λa=> .mk a) a) (λ_ _ _=> .no) (λ_=> .no) (λ_=> .no) (λ_ _ _ _ _=> .no) .no (λ_ _ _=> .no) .no (λ_ _=> .no) (λ_ _=> .no) (λ_ _=>()) () (λ_ _ _ _=>()) v
inductive VS where
 |no
 |mk (a:Addr) (n c:Nat)
noncomputable def toS (v:Value):VS:=Value.rec (motive_1:= λ_=>VS) (motive_2:= λ_=>Unit) (motive_3:= λ_=>Unit) (λ_=> .no) (λ_ _=> .no) (λ_ _=> .no) (λ_ _ _=> .no) (λ_=> .no) (λ_=> .no) (λa n c=>Option.rec (motive:= λ_=>VS) .no (λa=> .mk a n c) a) (λ_=> .no) (λ_=> .no) (λ_ _ _ _ _=> .no) .no (λ_ _ _=> .no) .no (λ_ _=> .no) (λ_ _=> .no) (λ_ _=>()) () (λ_ _ _ _=>()) v
def isAgg (P:Program) (t:TypeId):Option Bool:=
 match P.underlying t with
 |some (.struct _)|some (.array ..)=>some true
 |some _=>some false
 |none=>none
def aO (P:Program) (t:TypeId):Option Nat:=(P.info? t).map (·.size)
def nL (v:Value):Bool:=match v with| .bool _=>true| .int _ _=>true| .string _=>true| .pointer none=>true| .slice none 0 0=>true| .map none=>true| .nilFunc=>true| .nilIface=>true|_=>false
noncomputable def vE (l:List Value):Bool:=List.rec (motive:= λ_=>Bool) true (λv _ ih=>Bool.rec (motive:= λ_=>Bool) false ih (nL v)) l
noncomputable def vc (v:Value):Bool:=match v with| .agg a=>vE a.toList|v=>nL v
noncomputable def fF (P:Program) (t:TypeId):Option Value:=match P.info? t with|some i=>(match i.zero with|some v=>Bool.rec (motive:= λ_=>Option Value) none (some v) (vc v)|none=>none)|none=>none
noncomputable def xf (P:Program) (t:TypeId):Option (List Value):=(fF P t).map (λv=>v.cells.toList)
noncomputable def oH (n:Nat):List Value->Option (List Value):=
 Nat.rec (motive:= λ_=>List Value->Option (List Value)) (λ_=>some [])
  (λ_ ih l=>List.rec (motive:= λ_=>Option (List Value)) none (λv l _=>Option.rec (motive:= λ_=>Option (List Value)) none (λr=>some (v::r)) (ih l)) l) n
noncomputable def oI (n:Nat):List Value->Option (List Value):=
 Nat.rec (motive:= λ_=>List Value->Option (List Value)) (λl=>some l)
  (λ_ ih l=>List.rec (motive:= λ_=>Option (List Value)) none (λ_ l _=>ih l) l) n
noncomputable def Ac (vs:List Value):List Value->Option (List Value):=
 List.rec (motive:= λ_=>List Value->Option (List Value)) (λl=>some l)
  (λv _ ih l=>List.rec (motive:= λ_=>Option (List Value)) none (λ_ l _=>Option.rec (motive:= λ_=>Option (List Value)) none (λr=>some (v::r)) (ih l)) l) vs
noncomputable def Bf (vs:List Value) (l:List Value) (j:Nat):Option (List Value):=
 Nat.rec (motive:= λ_=>List Value->Option (List Value)) (λl=>Ac vs l)
  (λ_ ih l=>List.rec (motive:= λ_=>Option (List Value)) none (λv l _=>Option.rec (motive:= λ_=>Option (List Value)) none (λr=>some (v::r)) (ih l)) l) j l
noncomputable def len {α:Type} (l:List α):Nat:=List.rec (motive:= λ_=>Nat) 0 (λ_ _ ih=>Nat.succ ih) l
noncomputable def app {α:Type} (l m:List α):List α:=List.rec (motive:= λ_=>List α) m (λa _ ih=>a::ih) l
noncomputable def sy {α:Type} (l m:List α):Option (List α):=List.rec (motive:= λ_=>Option (List α)) (some m) (λa _ ih=>Option.rec (motive:= λ_=>Option (List α)) none (λr=>some (a::r)) ih) l
noncomputable def ar {β:Type} (n:Nat) (k:Nat->Option β):Option β:=Nat.rec (motive:= λ_=>Option β) (k 0) (λm _=>k (Nat.succ m)) n
noncomputable def jF (n:Nat) (k:Nat->Out):Out:=Nat.rec (motive:= λ_=>Out) (k 0) (λm _=>k (Nat.succ m)) n
noncomputable def AS.new (s:AS) (b:Blk):Option AS:=
 Option.rec (motive:= λ_=>Option AS) none (λh=>ar (Nat.succ s.nx) λn=>ar s.ao λl=>some ⟨h,n,l⟩) (T.put (some b) s.h s.nx)
noncomputable def AS.set (s:AS) (i:Nat) (b:Option Blk):Option AS:=
 Bool.rec (motive:= λ_=>Option AS) (Option.rec (motive:= λ_=>Option AS) none (λh=>ar s.nx λn=>ar s.ao λl=>some ⟨h,n,l⟩) (T.put b s.h i)) none (Nat.blt i s.ao)
noncomputable def dC {β:Type} (b:Option Blk) (k:T (List Value)->Nat->Nat->Bool->TypeId->Option β):Option β:=
 Option.rec (motive:= λ_=>Option β) none (λb=>Blk.rec (motive:= λ_=>Option β) k (λ_ _ _=>none) (λ_ _=>none) (λ_ _=>none) (λ_ _ _ _ _ _ _ _ _=>none) (λ_ _ _=>none) b) b
noncomputable def ab {β:Type} (b:Bool) (t e:β):β:=Bool.rec (motive:= λ_=>β) e t b
noncomputable def tD (s:AS) (b off k:Nat):Option (List Value):=
 dC (s.h.get b) λc sz _ _ _=>
  Option.rec (motive:= λ_=>Option (List Value)) none
   (λl=>ab (Nat.beq k sz) (ab (Nat.beq (Nat.mod off sz) 0) (some l) none)
    (Option.rec (motive:= λ_=>Option (List Value)) none (λl'=>oH k l') (oI (Nat.mod off sz) l)))
   (c.get (Nat.div off sz))
def cy (v:Value):Bool:=match v with| .agg _=>false| .tuple _=>false|_=>true
noncomputable def jN (l:List Value):Bool:=List.rec (motive:= λ_=>Bool) true (λv _ ih=>ab (cy v) ih false) l
noncomputable def hU (s:AS) (b off:Nat) (vs:List Value):Option AS:=
 ab (jN vs) (dC (s.h.get b) λc sz n ro et=>
  ab ro none
   (Option.rec (motive:= λ_=>Option AS) none
    (λl=>Option.rec (motive:= λ_=>Option AS) none
     (λl'=>Option.rec (motive:= λ_=>Option AS) none
      (λc'=>AS.set s b (some (.cells c' sz n false et)))
      (T.put (some l') c (Nat.div off sz)))
     (Bf vs l (Nat.mod off sz)))
    (c.get (Nat.div off sz)))) none
noncomputable def pP (s:AS) (et:TypeId) (vs:List Value):Option (Value×AS):=
 ar (len vs) λsz=>Option.rec (motive:= λ_=>Option (Value×AS)) none (λs'=>some (.pointer (some ⟨s.nx,0,none⟩),s')) (s.new (.cells (.n (some vs) .e .e) sz 1 false et))
noncomputable def uL (ls:List (List Value)):Nat->T (List Value)->Option (T (List Value)):=
 List.rec (motive:= λ_=>Nat->T (List Value)->Option (T (List Value))) (λ_ t=>some t)
  (λl _ ih i t=>Option.rec (motive:= λ_=>Option (T (List Value))) none (λt'=>ih (Nat.succ i) t') (T.put (some l) t i)) ls
noncomputable def chunk (sz n:Nat):List Value->Option (List (List Value)):=
 Nat.rec (motive:= λ_=>List Value->Option (List (List Value))) (λ_=>some [])
  (λ_ ih l=>Option.rec (motive:= λ_=>Option (List (List Value))) none
   (λa=>Option.rec (motive:= λ_=>Option (List (List Value))) none
    (λb=>Option.rec (motive:= λ_=>Option (List (List Value))) none (λr=>some (a::r)) (ih b)) (oI sz l)) (oH sz l)) n
noncomputable def pQ (sz:Nat) (ls:List (List Value)):Bool:=List.rec (motive:= λ_=>Bool) true (λl _ ih=>ab (Nat.beq (len l) sz) ih false) ls
noncomputable def i9 {β:Type} (s:AS) (et:TypeId) (sz:Nat) (els:List (List Value)) (n:Nat) (k:Nat->AS->Option β):Option β:=
 ab (Nat.beq (len els) n) (ab (pQ sz els) (Option.rec (motive:= λ_=>Option β) none
  (λt=>Option.rec (motive:= λ_=>Option β) none (λs'=>k s.nx s') (s.new (.cells t sz n false et))) (uL els 0 .e)) none) none
noncomputable def elems (c:T (List Value)) (n:Nat):Nat->Option (List (List Value)):=
 Nat.rec (motive:= λ_=>Nat->Option (List (List Value))) (λ_=>some [])
  (λ_ ih i=>Option.rec (motive:= λ_=>Option (List (List Value))) none
   (λl=>Option.rec (motive:= λ_=>Option (List (List Value))) none (λr=>some (l::r)) (ih (Nat.succ i))) (c.get i)) n
noncomputable def gM (k:IntKind) (n:Int):Option Value:=
 Int.rec (motive:= λ_=>Option Value) (λm=>ar m λm=>some (.int k (.ofNat m))) (λm=>ar m λm=>some (.int k (.negSucc m))) n
noncomputable def cH (v:Value):Option Value:=
 match v with
 | .bool b=>some (.bool b)
 | .int k n=>some (.int k n)
 | .string s=>some (.string s)
 | .pointer none=>some (.pointer none)
 | .slice none 0 0=>some (.slice none 0 0)
 | .map none=>some (.map none)
 | .nilFunc=>some .nilFunc
 | .nilIface=>some .nilIface
 |_=>none
noncomputable def ob {α β:Type} (o:Option α) (k:α->Option β):Option β:=Option.rec (motive:= λ_=>Option β) none k o
noncomputable def FH (k:IntKind):Nat:=IntKind.rec (motive:= λ_=>Nat) 0 1 2 3 4 5 6 7 k
noncomputable def sd (k k':IntKind):Bool:=Nat.beq (FH k) (FH k')
noncomputable def ao (k:IntKind):Nat:=IntKind.rec (motive:= λ_=>Nat) 128 32768 2147483648 9223372036854775808 256 65536 4294967296 18446744073709551616 k
noncomputable def CB (k:IntKind):Nat:=IntKind.rec (motive:= λ_=>Nat) 128 32768 2147483648 9223372036854775808 0 0 0 0 k
noncomputable def fJ (k:IntKind) (n:Int):Option Value:=
 Int.rec (motive:= λ_=>Option Value)
  (λm=>ab (Nat.blt m (ao k)) (ar m λm=>some (.int k (.ofNat m))) (gM k (k.wrap (.ofNat m))))
  (λm=>ab (Nat.blt m (CB k)) (ar m λm=>some (.int k (.negSucc m))) (gM k (k.wrap (.negSucc m)))) n
noncomputable def yC (a b:Int):Bool:=
 Int.rec (motive:= λ_=>Bool) (λa=>Int.rec (motive:= λ_=>Bool) (λb=>Nat.beq a b) (λ_=>false) b) (λa=>Int.rec (motive:= λ_=>Bool) (λ_=>false) (λb=>Nat.beq a b) b) a
noncomputable def u3 (a b:Int):Bool:=
 Int.rec (motive:= λ_=>Bool) (λa=>Int.rec (motive:= λ_=>Bool) (λb=>Nat.blt a b) (λ_=>false) b) (λa=>Int.rec (motive:= λ_=>Bool) (λ_=>true) (λb=>Nat.blt b a) b) a
noncomputable def Cn (a:List UInt8):List UInt8->Bool:=
 List.rec (motive:= λ_=>List UInt8->Bool) (λb=>List.rec (motive:= λ_=>Bool) true (λ_ _ _=>false) b)
  (λx _ ih b=>List.rec (motive:= λ_=>Bool) false (λy b _=>ab (Nat.beq x.toNat y.toNat) (ih b) false) b) a
noncomputable def Co (a:List UInt8):List UInt8->Bool:=
 List.rec (motive:= λ_=>List UInt8->Bool) (λb=>List.rec (motive:= λ_=>Bool) false (λ_ _ _=>true) b)
  (λx _ ih b=>List.rec (motive:= λ_=>Bool) false (λy b _=>ab (Nat.blt x.toNat y.toNat) true (ab (Nat.beq x.toNat y.toNat) (ih b) false)) b) a
noncomputable def bw (b:Bool):Option Value:=Bool.rec (motive:= λ_=>Option Value) (some (.bool false)) (some (.bool true)) b
noncomputable def dz (b:Bool):Bool:=Bool.rec (motive:= λ_=>Bool) true false b
noncomputable def iZ (op:BinOp):IntKind->Int->Int->Option Value:=
 BinOp.rec (motive:= λ_=>IntKind->Int->Int->Option Value)
  (λk a b=>fJ k (Int.add a b)) (λk a b=>fJ k (Int.sub a b)) (λk a b=>fJ k (Int.mul a b))
  (λk a b=>ab (yC b (.ofNat 0)) none (fJ k (Int.tdiv a b))) (λk a b=>ab (yC b (.ofNat 0)) none (gM k (Int.tmod a b)))
  (λk a b=>gM k (k.wrap (BitVec.ofInt k.bits a&&&BitVec.ofInt k.bits b).toNat))
  (λk a b=>gM k (k.wrap (BitVec.ofInt k.bits a|||BitVec.ofInt k.bits b).toNat))
  (λk a b=>gM k (k.wrap (BitVec.ofInt k.bits a^^^BitVec.ofInt k.bits b).toNat))
  (λ_ _ _=>none) (λ_ _ _=>none)
  (λk a b=>gM k (k.wrap (BitVec.ofInt k.bits a&&& ~~~BitVec.ofInt k.bits b).toNat))
  (λ_ a b=>bw (yC a b)) (λ_ a b=>bw (dz (yC a b))) (λ_ a b=>bw (u3 a b)) (λ_ a b=>bw (dz (u3 b a))) (λ_ a b=>bw (u3 b a)) (λ_ a b=>bw (dz (u3 a b))) op
noncomputable def Ad (op:BinOp):IntKind->Int->Nat->Option Value:=
 match op with
 | .shl=> λk a n=>fJ k (Int.mul a (.ofNat (Nat.pow 2 (Nat.min n k.bits))))
 | .shr=> λk a n=>gM k (Int.fdiv a (.ofNat (Nat.pow 2 (Nat.min n k.bits))))
 |_=> λ_ _ _=>none
noncomputable def AL (op:BinOp):Bool:=match op with| .shl| .shr=>true|_=>false
noncomputable def jv (b:Int):Option Nat:=Int.rec (motive:= λ_=>Option Nat) (λn=>some n) (λ_=>none) b
inductive VL where
 |no
 |mk (l:List Value)
noncomputable def PO (v:Value):VL:=Value.rec (motive_1:= λ_=>VL) (motive_2:= λ_=>Unit) (motive_3:= λ_=>Unit) (λ_=> .no) (λ_ _=> .no) (λ_ _=> .no) (λ_ _ _=> .no) (λ_=> .no) (λ_=> .no) (λ_ _ _=> .no) (λ_=> .no) (λ_=> .no) (λ_ _ _ _ _=> .no) .no (λ_ _ _=> .no) .no (λa _=> .mk a.toList) (λ_ _=> .no) (λ_ _=>()) () (λ_ _ _ _=>()) v
inductive VT where
 |no
 |mk (s:ByteArray)
noncomputable def toT (v:Value):VT:=Value.rec (motive_1:= λ_=>VT) (motive_2:= λ_=>Unit) (motive_3:= λ_=>Unit) (λ_=> .no) (λ_ _=> .no) (λ_ _=> .no) (λ_ _ _=> .no) (λs=> .mk s) (λ_=> .no) (λ_ _ _=> .no) (λ_=> .no) (λ_=> .no) (λ_ _ _ _ _=> .no) .no (λ_ _ _=> .no) .no (λ_ _=> .no) (λ_ _=> .no) (λ_ _=>()) () (λ_ _ _ _=>()) v
abbrev Mt:=Value->Option Bool
noncomputable def mI (k:IntKind) (n:Int):Mt:= λb=>VI.rec (motive:= λ_=>Option Bool) none (λk' m=>ab (sd k k') (some (yC n m)) none) (Ml b)
noncomputable def mB (x:Bool):Mt:= λb=>VB.rec (motive:= λ_=>Option Bool) none (λy=>some (ab x y (dz y))) (PN b)
noncomputable def mS (l:List UInt8):Mt:= λb=>VT.rec (motive:= λ_=>Option Bool) none (λm=>some (Cn l m.data.toList)) (toT b)
noncomputable def andM (o:Option Bool) (k:Option Bool):Option Bool:=Option.rec (motive:= λ_=>Option Bool) none (λb=>ab b k (some false)) o
noncomputable def mL (ms:List Mt):List Value->Option Bool:=
 List.rec (motive:= λ_=>List Value->Option Bool) (λl=>List.rec (motive:= λ_=>Option Bool) (some true) (λ_ _ _=>none) l) (λm _ ih l=>List.rec (motive:= λ_=>Option Bool) none (λv l _=>andM (m v) (ih l)) l) ms
noncomputable def mA (ms:List Mt):Mt:= λb=>VL.rec (motive:= λ_=>Option Bool) none (λl=>mL ms l) (PO b)
noncomputable def mapM' (f:Value->Mt) (l:List Value):List Mt:=List.rec (motive:= λ_=>List Mt) [] (λv _ ih=>f v::ih) l
noncomputable def tw (d:Nat):Value->Mt:=Nat.rec (motive:= λ_=>Value->Mt) (λ_ _=>none) (λ_ f v=>Value.rec (motive_1:= λ_=>Mt) (motive_2:= λ_=>Unit) (motive_3:= λ_=>Unit) (λx=>mB x) (λk n=>mI k n) (λ_ _ _=>none) (λ_ _ _ _=>none) (λs=>mS s.data.toList) (λ_ _=>none) (λ_ _ _ _=>none) (λ_ _=>none) (λ_ _=>none) (λ_ _ _ _ _ _=>none) (λ_=>none) (λ_ _ _ _=>none) (λ_=>none) (λa _=>mA (mapM' f a.toList)) (λ_ _ _=>none) (λ_ _=>()) () (λ_ _ _ _=>()) v) d
abbrev an:=Value×Value×Nat
noncomputable def tE (m:Mt) (es:List (Value×Value×Nat)):Option (Option (Value×Nat)):=
 List.rec (motive:= λ_=>Option (Option (Value×Nat))) (some none) (λe _ ih=>Option.rec (motive:= λ_=>Option (Option (Value×Nat))) none (λb=>ab b (some (some e.2)) ih) (m e.1)) es
noncomputable def hB (l:List UInt8):Nat:=List.rec (motive:= λ_=>Nat) 7 (λb _ ih=>Nat.add (Nat.mul ih 256) b.toNat) l
noncomputable def hI (n:Int):Nat:=Int.rec (motive:= λ_=>Nat) (λm=>Nat.mul 2 m) (λm=>Nat.succ (Nat.mul 2 m)) n
noncomputable def hV (v:Value):Nat:=Value.rec (motive_1:= λ_=>Nat) (motive_2:= λ_=>Nat) (motive_3:= λ_=>Nat) (λ_=>1) (λ_ n=>hI n) (λ_ _=>0) (λ_ _ _=>0) (λs=>hB s.data.toList) (λ_=>0) (λ_ _ _=>0) (λ_=>0) (λ_=>0) (λ_ _ _ _ _=>0) 0 (λ_ _ _=>0) 0 (λ_ n=>n) (λ_ _=>0) (λ_ n=>n) 0 (λ_ _ a b=>Nat.add (Nat.mul b 1009) a) v
noncomputable def JQ (v:Value):Nat:=Nat.mod (hV v) 1021
noncomputable def kC (d:Nat):T (List an):=Nat.rec (motive:= λ_=>T (List an)) .e (λ_ ih=> .n none ih ih) d
noncomputable def bucket (t:T (List an)) (i:Nat):List an:=Option.rec (motive:= λ_=>List an) [] (λl=>l) (T.get t i)
noncomputable def Da (e:an) (t:T (List an)):Option (T (List an)):=ar (JQ e.1) λi=>T.put (some (e::bucket t i)) t i
noncomputable def idx (es:List an):Option (T (List an)):=List.rec (motive:= λ_=>Option (T (List an))) (some (kC 11)) (λe _ ih=>Option.rec (motive:= λ_=>Option (T (List an))) none (λt=>Da e t) ih) es
noncomputable def Db (k:Value) (es:List an):Option (Option (Value×Nat)):=ar (JQ k) λi=>ob (idx es) λt=>tE (tw 8 k) (bucket t i)
noncomputable def oJ (k:Value) (es:List (Value×Value×Nat)):Option (Option (Value×Nat)):=VL.rec (motive:= λ_=>Option (Option (Value×Nat))) (tE (tw 8 k) es) (λ_=>Db k es) (PO k)
noncomputable def uM (k v:Value) (ck:Nat) (es:List (Value×Value×Nat)):Option (List (Value×Value×Nat)):=
 List.rec (motive:= λ_=>Option (List (Value×Value×Nat))) (some [(k,v,ck)])
  (λe es ih=>Option.rec (motive:= λ_=>Option (List (Value×Value×Nat))) none (λb=>ab b (some ((k,v,e.2.2)::es)) (ob ih λr=>some (e::r))) (tw 8 k e.1)) es
noncomputable def FI (k:Value) (es:List (Value×Value×Nat)):Option (List (Value×Value×Nat)):=
 List.rec (motive:= λ_=>Option (List (Value×Value×Nat))) (some [])
  (λe es ih=>Option.rec (motive:= λ_=>Option (List (Value×Value×Nat))) none (λb=>ab b (some es) (ob ih λr=>some (e::r))) (tw 8 k e.1)) es
noncomputable def FJ (b:Nat) (x:Value):List (Value×Value×Nat)->Option (List (Value×Value×Nat))
 | []=>none
 |(k',v',b')::es=>ab (Nat.beq b' b) (some ((k',x,b')::es)) (match FJ b x es with|some r=>some ((k',v',b')::r)|none=>none)
noncomputable def DY (op:BinOp):List UInt8->List UInt8->Option Value:=
 match op with
 | .add=> λa b=>ob (sy a b) λl=>ab (Nat.ble (len l) 1000000000) (some (.string ⟨⟨l⟩⟩)) none
 | .eql=> λa b=>bw (Cn a b)
 | .neq=> λa b=>bw (dz (Cn a b))
 | .lss=> λa b=>bw (Co a b)
 | .leq=> λa b=>bw (dz (Co b a))
 | .gtr=> λa b=>bw (Co b a)
 | .geq=> λa b=>bw (dz (Co a b))
 |_=> λ_ _=>none
noncomputable def Dc (op:BinOp):Option Bool->Option Value:=
 match op with
 | .eql=> λo=>ob o bw
 | .neq=> λo=>ob o λb=>bw (dz b)
 |_=> λ_=>none
noncomputable def Dd (p q:Addr):Option Bool:=ab (Nat.beq p.block q.block) (ab (Nat.beq p.off q.off) (match p.spot,q.spot with|none,none=>some true|_,_=>none) none) none
inductive EK where
 |bool|ptr|slice|map|func|iface|other
noncomputable def lh (P:Program) (t:TypeId):EK:=
 match P.underlying t with
 |some .bool=> .bool
 |some (.pointer e)=>(match P.info? e with|some _=> .ptr|none=> .other)
 |some (.slice _)=> .slice
 |some (.map _ _)=> .map
 |some (.func _ _ _)=> .func
 |some (.interface _)=> .iface
 |_=> .other
noncomputable def tF (x:Operand):Bool:=match x with| .const _=>true|_=>false
noncomputable def M8 (k:EK) (lT:Bool) (x y:Value):Option Bool:=
 match k,x,y with
 | .bool,.bool a,.bool b=>some (ab a b (dz b))
 | .ptr,.pointer a,.pointer b=>(match a,b with|none,none=>some true|some p,some q=>Dd p q|none,some _=>some false|some _,none=>some false)
 | .slice,.slice a _ _,.slice b _ _=>(match a,b with|none,none=>some true|none,some _=>some false|some _,none=>some false|_,_=>none)
 | .map,.map a,.map b=>(match a,b with|none,none=>some true|none,some _=>some false|some _,none=>some false|_,_=>none)
 | .iface,.nilIface,.nilIface=>ab lT (some true) none
 | .iface,.nilIface,.iface _ _=>some false
 | .iface,.iface _ _,.nilIface=>some false
 | .func,.nilFunc,.nilFunc=>some true
 | .func,.nilFunc,.func _ _ _=>some false
 | .func,.func _ _ _,.nilFunc=>some false
 |_,_,_=>none
noncomputable def DZ (op:BinOp) (k:IntKind) (a:Int) (L:Nat):Option Value:=
 match op,k,a with
 | .gtr,.i64,.ofNat a=>ab (Nat.ble a L) (some (.bool false)) none
 |_,_,_=>none
noncomputable def Bg (op:BinOp) (k:EK) (lT:Bool) (y:Value) (x:Value):Option Value:=
 match x,y with
 | .int k a,.int k' b=>ab (AL op) (ob (jv b) λn=>Ad op k a n) (ab (sd k k') (iZ op k a b) none)
 | .string a,.string b=>DY op a.data.toList b.data.toList
 | .int k a,.complex .f32 1 L=>DZ op k a L
 |x,y=>Dc op (M8 k lT x y)
noncomputable def Jq (f:IntKind->Int->Int->Option Value):IntKind->IntKind->Int->Int->Option Value:= λk k' a b=>ab (sd k k') (f k a b) none
noncomputable def GQ (op:BinOp):IntKind->IntKind->Int->Int->Option Value:=
 BinOp.rec (motive:= λ_=>IntKind->IntKind->Int->Int->Option Value)
  (λk k' a b=>ab (sd k k') (fJ k (Int.add a b)) none) (λk k' a b=>ab (sd k k') (fJ k (Int.sub a b)) none) (λk k' a b=>ab (sd k k') (fJ k (Int.mul a b)) none)
  (Jq (iZ .quo)) (Jq (iZ .rem)) (Jq (iZ .and)) (Jq (iZ .or)) (Jq (iZ .xor))
  (λk _ a b=>ob (jv b) λn=>Ad .shl k a n) (λk _ a b=>ob (jv b) λn=>Ad .shr k a n)
  (Jq (iZ .andNot))
  (λk k' a b=>ab (sd k k') (bw (yC a b)) none) (λk k' a b=>ab (sd k k') (bw (dz (yC a b))) none) (λk k' a b=>ab (sd k k') (bw (u3 a b)) none) (λk k' a b=>ab (sd k k') (bw (dz (u3 b a))) none) (λk k' a b=>ab (sd k k') (bw (u3 b a)) none) (λk k' a b=>ab (sd k k') (bw (dz (u3 a b))) none) op
noncomputable def GR (op:BinOp) (k:EK) (lT:Bool) (y x:Value):Option Value:=
 VI.rec (motive:= λ_=>Option Value) (Bg op k lT y x) (λka a=>VI.rec (motive:= λ_=>Option Value) (Bg op k lT y x) (λkb b=>GQ op ka kb a b) (Ml y)) (Ml x)
noncomputable def ef (base:Option Addr) (c:Nat):Nat:=Option.rec (motive:= λ_=>Nat) 0 (λ_=>Nat.div c 512) base
noncomputable def jw (base:Option Addr) (c:Nat):Bool:=Option.rec (motive:= λ_=>Bool) true (λ_=>Nat.beq (Nat.mod c 2) 1) base
noncomputable def xg (c:Nat):Nat:=Nat.div (Nat.mod c 512) 2
noncomputable def codeEx (n:Nat):Nat:=Nat.add (Nat.mul 512 n) 1
noncomputable def codeLB (n sz:Nat):Nat:=Nat.add (Nat.mul 512 n) (Nat.mul 2 sz)
noncomputable def De (place:Nat->Option (Nat×Nat)) (ps:List (Nat×Value)):List Value->Option (List Value):=
 List.rec (motive:= λ_=>List Value->Option (List Value)) (λl=>some l)
  (λp _ ih cells=>ob (place p.1) λq=>ab (Nat.beq (len p.2.cells.toList) q.2) (ob (Bf p.2.cells.toList cells q.1) ih) none) ps
noncomputable def Ae (P:Program) (t:TypeId) (cs:List Value) (off:Nat):Option Value:=
 ob (isAgg P t) λb=>ab b
  (ob (aO P t) λk=>ob (oI off cs) λl=>ob (oH k l) λr=>some (.agg ⟨r⟩))
  (ob (oI off cs) λl=>List.rec (motive:= λ_=>Option Value) none (λv _ _=>some v) l)
noncomputable def indexOf (i:Int) (n:Nat):Option Nat:=Int.rec (motive:= λ_=>Option Nat) (λm=>ab (Nat.blt m n) (some m) none) (λ_=>none) i
noncomputable def GS (l:List UInt8) (n:Nat):Option Value:=
 Nat.rec (motive:= λ_=>List UInt8->Option Value) (λl=>List.rec (motive:= λ_=>Option Value) none (λb _ _=>ar b.toNat λn=>some (.int .u8 (.ofNat n))) l)
  (λ_ ih l=>List.rec (motive:= λ_=>Option Value) none (λ_ r _=>ih r) l) n l
noncomputable def Af (n:Nat):List UInt8->Option (List UInt8):=
 Nat.rec (motive:= λ_=>List UInt8->Option (List UInt8)) (λ_=>some [])
  (λ_ ih l=>List.rec (motive:= λ_=>Option (List UInt8)) none (λv l _=>ob (ih l) λr=>some (v::r)) l) n
noncomputable def GU (n:Nat):List UInt8->Option (List UInt8):=
 Nat.rec (motive:= λ_=>List UInt8->Option (List UInt8)) (λl=>some l)
  (λ_ ih l=>List.rec (motive:= λ_=>Option (List UInt8)) none (λ_ l _=>ih l) l) n
noncomputable def ew (d:Nat) (o:Option Value):Option Nat:=
 match o with
 |none=>some d
 |some (.int _ n)=>jv n
 |_=>none
noncomputable def mz (l h m:Nat):Bool:=ab (Nat.ble l h) (Nat.ble h m) false
noncomputable def mkSlice (a:Addr) (off n c:Nat):Option Value:=ar off λoff=>ar n λn=>ar c λc=>some (.slice (some ⟨a.block,off,none⟩) n c)
noncomputable def pR (sz:Nat) (base:Option Addr) (n c:Nat) (lo hi mx:Option Value):Option Value:=
 ob (ew 0 lo) λl=>ob (ew n hi) λh=>
  match mx with
  |none=>ab (mz l h (ef base c))
    (match base with
     |none=>some (.slice none 0 0)
     |some a=>ab (jw base c) (mkSlice a (Nat.add a.off (Nat.mul l sz)) (Nat.sub h l) (codeEx (Nat.sub (Nat.div c 512) l)))
       (ab (Nat.beq (xg c) sz) (mkSlice a (Nat.add a.off (Nat.mul l sz)) (Nat.sub h l) (codeLB (Nat.sub (Nat.div c 512) l) sz)) none)) none
  |some m=>ob (ew 0 (some m)) λm=>ab (mz l h m) (ab (Nat.ble m (ef base c))
    (match hi,base with|none,_=>none|_,none=>some (.slice none 0 0)|_,some a=>mkSlice a (Nat.add a.off (Nat.mul l sz)) (Nat.sub h l) (codeEx (Nat.sub m l))) none) none
noncomputable def fw (sz:Nat) (a:Addr) (n:Nat) (lo hi mx:Option Value):Option Value:=
 match mx with
 |none=>ob (ew 0 lo) λl=>ob (ew n hi) λh=>ab (mz l h n) (mkSlice a (Nat.add a.off (Nat.mul l sz)) (Nat.sub h l) (codeEx (Nat.sub n l))) none
 |some _=>none
noncomputable def qC (s:List UInt8) (lo hi mx:Option Value):Option Value:=
 match mx with
 |none=>ob (ew 0 lo) λl=>ob (ew (len s) hi) λh=>ab (mz l h (len s)) (ob (GU l s) λs=>ob (Af (Nat.sub h l) s) λs=>some (.string ⟨⟨s⟩⟩)) none
 |some _=>none
noncomputable def y7 (P:Program) (d:Option TypeDesc) (x:Value):Option Value->Option Value->Option Value->Option Value:=
 match x with
 | .string s=>match d with
  |some .string=>qC s.data.toList
  |_=> λ_ _ _=>none
 | .slice base n c=>match d with
  |some (.slice e)=> λlo hi mx=>ob (aO P e) λsz=>pR sz base n c lo hi mx
  |_=> λ_ _ _=>none
 | .pointer (some a)=>match d with
  |some (.array n e)=> λlo hi mx=>ob (aO P e) λsz=>fw sz a n lo hi mx
  |some (.pointer arr)=>match P.underlying arr with
   |some (.array n e)=> λlo hi mx=>ob (aO P e) λsz=>fw sz a n lo hi mx
   |_=> λ_ _ _=>none
  |_=> λ_ _ _=>none
 |_=> λ_ _ _=>none
noncomputable def byteCells (l:List UInt8):Option (List (List Value)):=
 List.rec (motive:= λ_=>Option (List (List Value))) (some []) (λb _ ih=>ar b.toNat λn=>ob ih λr=>some ([.int .u8 (.ofNat n)]::r)) l
noncomputable def jO (b:Option Blk) (sz off n:Nat):Option (List (List Value)):=
 dC b λc iX _ _ _=>
  ab (Nat.beq sz 0) none (ab (Nat.beq sz iX) (ab (Nat.beq (Nat.mod off sz) 0) (elems c n (Nat.div off sz)) none)
   (ob (c.get (Nat.div off iX)) λl=>ob (oI (Nat.mod off iX) l) λl=>ob (oH (Nat.mul n sz) l) λr=>chunk sz n r))
noncomputable def br (s:AS) (sz:Nat) (v:Value) (n:Nat):Option (List (List Value)):=
 match v with
 | .slice none _ _=>some []
 | .slice (some a) _ _=>Nat.rec (motive:= λ_=>Option (List (List Value))) (some []) (λ_ _=>jO (s.h.get a.block) sz a.off n) n
 | .string b=>ab (Nat.beq sz 1) (ob (Af n b.data.toList) byteCells) none
 |_=>none
noncomputable def gz (sz b:Nat) (els:List (List Value)):AS->Nat->Option AS:=
 List.rec (motive:= λ_=>AS->Nat->Option AS) (λs _=>some s)
  (λl _ ih s off=>ob (hU s b off l) λs'=>ih s' (Nat.add off sz)) els
noncomputable def CC (b n c:Nat) (s:AS):Option (Value×AS):=ar n λn=>ar c λc=>some (.slice (some ⟨b,0,none⟩) n c,s)
noncomputable def gf (s:AS) (et:TypeId) (sz:Nat) (els:List (List Value)) (n:Nat):Option (Value×AS):=
 ab (Nat.blt sz 256) (i9 s et sz els n λb s'=>CC b n (codeLB n sz) s') none
noncomputable def Ag (s:AS) (et:TypeId) (sz:Nat) (els:List (List Value)) (l n:Nat):Option (Value×AS):=
 i9 s et sz els n λb s'=>CC b l (codeEx n) s'
noncomputable def qD (s:AS) (sz:Nat) (base:Option Addr) (n m c:Nat) (els:List (List Value)):Option (Value×AS):=
 match base with
 |none=>some (.slice none 0 0,s)
 |some a=>ob (gz sz a.block els s (Nat.add a.off (Nat.mul n sz))) λs'=>ar (Nat.add n m) λnm=>some (.slice (some a) nm c,s')
noncomputable def qE (i:Nat) (cc:T (List Value)) (sz m:Nat) (et:TypeId) (r:Value×AS):Option (Value×AS):=
 match r.1 with
 | .slice (some b) _ _=>dC (r.2.h.get b.block) λM9 Na m2 _ Mm=>ob (r.2.set b.block (some (.cells M9 Na m2 true Mm))) λs1=>ob (s1.set i (some (.cells cc sz m true et))) λs2=>some (r.1,s2)
 |_=>none
noncomputable def mO (sh:Bool) (s:AS) (et:TypeId) (sz:Nat) (base:Option Addr) (n nm c:Nat) (all:List (List Value)):Option (Value×AS):=
 match base with
 |none=>none
 |some a=>ab (Nat.beq (xg c) sz) (dC (s.h.get a.block) λcc iX m ro tz=>
   ab ro none (ab (Nat.beq sz iX) (ab (Nat.beq et tz) (ab (Nat.beq (Nat.mod a.off sz) 0) (ob (s.set a.block none) λs1=>ob (gf s1 et sz all nm) λr=>ab sh (ab (Nat.beq (Nat.add (Nat.div a.off sz) n) m) (qE a.block cc sz m et r) none) (some r)) none) none) none)) none
noncomputable def dU (l:List (List Value)):Bool:=List.rec (motive:= λ_=>Bool) true (λv _ ih=>ab (jN v) ih false) l
noncomputable def KM (a b:Option (Value×AS)):Option (Value×AS):=Option.rec (motive:= λ_=>Option (Value×AS)) b (λp=>some p) a
noncomputable def Bh (t:T (List Value)):Nat:=T.rec (motive:= λ_=>Nat) 0 (λv _ _ a b=>Nat.add (Option.rec (motive:= λ_=>Nat) 0 (λ_=>1) v) (Nat.add a b)) t
noncomputable def gA (s:AS) (et:TypeId) (sz m:Nat) (els:List (List Value)) (base:Option Addr) (n c:Nat):Option (Value×AS):=
 match base with
 |none=>none
 |some a=>ab (jw base c) none (ab (Nat.beq (xg c) sz) (ab (Nat.beq a.off 0) (ab (Nat.beq sz 0) none (ab (Nat.blt sz 256) (dC (s.h.get a.block) λcc iX cnt ro tz=>
   ab ro none (ab (Nat.beq sz iX) (ab (Nat.beq et tz) (ab (Nat.beq cnt n) (ab (Nat.beq (Bh cc) n) (ab (dU els) (ab (pQ sz els) (ab (Nat.beq (len els) m)
    (ob (uL els n cc) λt=>ob (s.set a.block none) λs1=>ar (Nat.add n m) λnm=>ob (s1.new (.cells t sz nm false et)) λs2=>CC s1.nx nm (codeLB nm sz) s2) none) none) none) none) none) none) none)) none)) none) none)
noncomputable def AM (sh:Bool) (s:AS) (et:TypeId) (sz m:Nat) (els:List (List Value)) (sl:Value):Option (Value×AS):=
 match sl with
 | .slice base n c=>ab (Nat.ble (Nat.add n m) (ef base c)) (qD s sz base n m c els)
   (ab (Nat.ble (Nat.add n m) 1000000) (KM (ab sh none (gA s et sz m els base n c)) (ob (br s sz (.slice base n c) n) λold=>ob (sy old els) λall=>ab (jw base c) (gf s et sz all (Nat.add n m)) (ab (dU els) (mO sh s et sz base n (Nat.add n m) c all) none))) none)
 |_=>none
noncomputable def lenOf (v:Value):Option Nat:=match v with| .slice _ n _=>some n| .string b=>some (len b.data.toList)|_=>none
noncomputable def Df (x y:Value):Option Value:=match x,y with| .int k a,.int _ b=>some (.int k (ab (u3 a b) b a))|_,_=>none
noncomputable def Dg (x y:Value):Option Value:=match x,y with| .int k a,.int _ b=>some (.int k (ab (u3 b a) b a))|_,_=>none
noncomputable def Dh (f:Value->Value->Option Value) (l:List Value):Value->Option Value:=
 List.rec (motive:= λ_=>Value->Option Value) (λx=>some x) (λy _ ih x=>ob (f x y) ih) l
noncomputable def kI (l:List (List Value)):Option (List UInt8):=
 List.rec (motive:= λ_=>Option (List UInt8)) (some []) (λc _ ih=>match c with
  | [.int k n]=>ab (sd k .u8) (ob (jv n) λn=>ab (Nat.blt n 256) (ob ih λr=>some (UInt8.ofNat n::r)) none) none
  |_=>none) l
noncomputable def mapOf {β:Type} (b:Option Blk) (k:TypeId->List (Value×Value×Nat)->Nat->Option β):Option β:=
 Option.rec (motive:= λ_=>Option β) none (λb=>Blk.rec (motive:= λ_=>Option β) (λ_ _ _ _ _=>none) k (λ_ _=>none) (λ_ _=>none) (λ_ _ _ _ _ _ _ _ _=>none) (λ_ _ _=>none) b) b
noncomputable def vd {β:Type} (b:Option Blk) (k:TypeId->List (Value×Value×Nat)->Nat->Option β):Option β:=
 match b with|some (.pmap kt es ck)=>k kt es ck|_=>none
noncomputable def H2 {β:Type} (a b:Option β):Option β:=Option.rec (motive:= λ_=>Option β) b (λx=>some x) a
noncomputable def ja (P:Program) (e:TypeId) (ok:Bool) (r:Option (Value×Nat)):Option Value:=
 match r with
 |some (v,_)=>some (ab ok (.tuple #[v,.bool true]) v)
 |none=>ob (fF P e) λz=>some (ab ok (.tuple #[z,.bool false]) z)
inductive KK where
 |int (k:IntKind)
 |str
 |bool
noncomputable def lz (k:KK) (v:Value):Bool:=match k,v with| .int k,.int k' _=>sd k k'| .str,.string _=>true| .bool,.bool _=>true|_,_=>false
noncomputable def aN (ks:List KK):List Value->Bool:=
 List.rec (motive:= λ_=>List Value->Bool) (λl=>match l with| []=>true|_=>false) (λk _ ih l=>match l with|v::l=>ab (lz k v) (ih l) false| []=>false) ks
def dS (P:Program) (pl:TypeId->Option (List KK)):List Field->Nat->Option (List KK)
 | [],_=>some []
 |f::fs,off=>if f.name== "_"||f.offset !=off then none else match pl f.type with
  |some l=>if aO P f.type==some l.length then(match dS P pl fs (off+l.length)with|some r=>some (l++r)|none=>none)else none
  |none=>none
def cT (P:Program):Nat->TypeId->Option (List KK)
 |0,_=>none
 |d+1,t=>match P.underlying t with
  |some .bool=>some [.bool]
  |some (.int k)=>some [.int k]
  |some .string=>some [.str]
  |some (.struct fs)=>if P.stoodInHeld t then none else dS P (cT P d) fs.toList 0
  |some (.array n e)=>match cT P d e with
   |some l=>if aO P e==some l.length then some (List.replicate n l).flatten else none
   |none=>none
  |_=>none
noncomputable def fp (a:Option Bool) (ks:List KK) (v:Value):Bool:=
 match a with
 |some true=>(match v with| .agg cs=>aN ks cs.toList|_=>false)
 |some false=>(match v with| .agg _=>false|v=>aN ks [v])
 |none=>false
noncomputable def aG (P:Program) (kt:TypeId) (v:Value):Bool:=match cT P 5 kt with|some ks=>fp (isAgg P kt) ks v|none=>false
noncomputable def keyOf (P:Program) (t:TypeId):Option (TypeId×TypeId):=match P.underlying t with|some (.map k e)=>some (k,e)|_=>none
noncomputable def vF (P:Program) (s:AS) (t:TypeId) (ok:Bool) (k x:Value):Option Value:=
 ob (keyOf P t) λke=>ab (aG P ke.1 k)
  (match x with
  | .map none=>ja P ke.2 ok none
  | .map (some r)=>H2 (mapOf (s.h.get r) λkt es _=>ab (Nat.beq kt ke.1) (ob (oJ k es) λr=>ja P ke.2 ok r) none)
    (vd (s.h.get r) λkt es _=>ab (Nat.beq kt ke.1) (ob (oJ k es) λr=>ob r λq=>ja P ke.2 ok (some q)) none)
  |_=>none) none
inductive Lo where
 |nil
 |cons (t:Nat) (v:Value) (r:Lo)
noncomputable def Lo.get (t:Nat) (l:Lo):Option Value:=
 Lo.rec (motive:= λ_=>Option Value) none (λt' v _ ih=>ab (Nat.beq t t') (some v) ih) l
abbrev cu:=Lo->T Value->Option Value
noncomputable def JR (t:Nat):cu:= λ_ tm=>T.get tm t
noncomputable def PQ (t:Nat):cu:= λlo _=>Lo.get t lo
noncomputable def JS (v:Value):cu:= λ_ _=>some v
noncomputable def sC (xs:List cu):Lo->T Value->Option (List Value):=
 List.rec (motive:= λ_=>Lo->T Value->Option (List Value)) (λ_ _=>some [])
  (λx _ ih lo tm=>Option.rec (motive:= λ_=>Option (List Value)) none (λv=>Option.rec (motive:= λ_=>Option (List Value)) none (λr=>some (v::r)) (ih lo tm)) (x lo tm)) xs
abbrev VF:=Lo->T Value->AS->Option Value
abbrev SF:=Lo->T Value->AS->Option (Value×AS)
noncomputable def v1 (x:cu) (k:Value->Option Value):VF:= λlo tm _=>ob (x lo tm) k
noncomputable def v2 (x y:cu) (k:Value->Value->Option Value):VF:= λlo tm _=>ob (x lo tm) λa=>ob (y lo tm) λb=>k a b
noncomputable def r1 (x:cu) (k:AS->Value->Option Value):VF:= λlo tm s=>ob (x lo tm) (k s)
noncomputable def r2 (x y:cu) (k:AS->Value->Value->Option Value):VF:= λlo tm s=>ob (x lo tm) λa=>ob (y lo tm) λb=>k s a b
noncomputable def s1 (x:cu) (k:AS->Value->Option (Value×AS)):SF:= λlo tm s=>ob (x lo tm) (k s)
noncomputable def s2 (x y:cu) (k:AS->Value->Value->Option (Value×AS)):SF:= λlo tm s=>ob (x lo tm) λa=>ob (y lo tm) λb=>k s a b
noncomputable def s3 (x y z:cu) (k:AS->Value->Value->Value->Option (Value×AS)):SF:= λlo tm s=>ob (x lo tm) λa=>ob (y lo tm) λb=>ob (z lo tm) λc=>k s a b c
noncomputable def vl (xs:List cu) (k:List Value->Option Value):VF:= λlo tm _=>ob (sC xs lo tm) k
noncomputable def rl (xs:List cu) (k:AS->List Value->Option Value):VF:= λlo tm s=>ob (sC xs lo tm) (k s)
noncomputable def sl (xs:List cu) (k:AS->List Value->Option (Value×AS)):SF:= λlo tm s=>ob (sC xs lo tm) (k s)
noncomputable def GV (a b:cu) (c:Value) (lo:Lo) (tm:T Value):Option Value:=match c with| .bool x=>ab x (a lo tm) (b lo tm)|_=>none
noncomputable def Lr (c a b:cu):VF:= λlo tm _=>ob (c lo tm) λc=>GV a b c lo tm
noncomputable def y8 (P:Program) (t:TypeId) (s:AS):Option (Value×AS):=ob (xf P t) λz=>pP s t z
noncomputable def KN (t:TypeId) (s:AS) (v:Value):Option (Value×AS):=pP s t v.cells.toList
noncomputable def sD (is:List Nat):List Value->List (Nat×Value):=List.rec (motive:= λ_=>List Value->List (Nat×Value)) (λ_=> []) (λi _ ih l=>List.rec (motive:= λ_=>List (Nat×Value)) [] (λv l _=>(i,v)::ih l) l) is
noncomputable def y9 (P:Program) (t:TypeId) (i:Nat):Option (Nat×Nat):=
 match P.underlying t with
 |some (.struct fs)=>match fs[i]? with|some f=>ob (aO P f.type) λn=>some (f.offset,n)|none=>none
 |some (.array _ e)=>ob (aO P e) λn=>some (Nat.mul i n,n)
 |_=>none
noncomputable def iB (P:Program) (t:TypeId):Bool:=
 match P.underlying t with
 |some (.struct fs)=>List.rec (motive:= λ_=>Bool) true (λf _ ih=>match P.info? f.type with|some _=>ih|none=>false) fs.toList
 |some (.array _ e)=>(match P.info? e with|some _=>true|none=>false)
 |_=>false
noncomputable def za (P:Program) (t:TypeId) (is:List Nat) (vs:List Value):Option Value:=
 ab (iB P t) (ob (xf P t) λz=>ob (De (y9 P t) (sD is vs) z) λr=>some (.agg ⟨r⟩)) none
noncomputable def ve (x:List Value) (i:Nat):List (List Value)->Option (List (List Value)):=
 Nat.rec (motive:= λ_=>List (List Value)->Option (List (List Value))) (λl=>List.rec (motive:= λ_=>Option (List (List Value))) none (λ_ r _=>some (x::r)) l)
  (λ_ ih l=>List.rec (motive:= λ_=>Option (List (List Value))) none (λa r _=>ob (ih r) λr=>some (a::r)) l) i
noncomputable def qF (n:Nat) (ps:List (Nat×Value)):List (List Value)->Option (List (List Value)):=
 List.rec (motive:= λ_=>List (List Value)->Option (List (List Value))) (λl=>some l)
  (λp _ ih els=>ab (Nat.beq (len p.2.cells.toList) n) (ob (ve p.2.cells.toList p.1 els) ih) none) ps
noncomputable def uN (z:List Value) (n:Nat):Option (List (List Value)):=Nat.rec (motive:= λ_=>Option (List (List Value))) (some []) (λ_ ih=>ob ih λr=>some (z::r)) n
noncomputable def pS (P:Program) (t:TypeId):Option TypeId:=match P.underlying t with|some (.slice e)=>some e|_=>none
noncomputable def D1 (P:Program) (t:TypeId):Option Nat:=(P.info? t).map (·.bytes)
noncomputable def gq (P:Program) (e:TypeId):Option (Nat×List Value):=ob (aO P e) λsz=>ob (xf P e) λz=>ob (D1 P e) λb=>ab (Nat.ble b 1000000) (ab (Nat.beq (len z) sz) (some (sz,z)) none) none
noncomputable def jY (P:Program) (t:TypeId) (n:Nat) (is:List Nat) (s:AS) (vs:List Value):Option (Value×AS):=
 ob (pS P t) λe=>ob (gq P e) λi=>ab (Nat.ble (Nat.mul n i.1) 16000000) (ob (uN i.2 n) λKP=>ob (qF i.1 (sD is vs) KP) λels=>Ag s e i.1 els n n) none
noncomputable def xh (P:Program) (t:TypeId) (a:Value):Option Value:=
 match a with
 | .complex .f64 g off=>ob (isAgg P t) λb=>ab b none (ob P.globals[g]? λgl=>ob (gW gl.name) λvs=>vs[off]?)
 |_=>none
noncomputable def tG (P:Program) (t:TypeId) (s:AS) (a:Value):Option Value:=
 match a with
 | .pointer (some a)=>ob (isAgg P t) λb=>ab b (ob (aO P t) λn=>ob (tD s a.block a.off n) λl=>some (.agg ⟨l⟩))
   (ob (tD s a.block a.off 1) λl=>List.rec (motive:= λ_=>Option Value) none (λv _ _=>some v) l)
 |a=>xh P t a
noncomputable def zb (P:Program) (t:TypeId) (s:AS) (a v:Value):Option (Value×AS):=
 match a with
 | .pointer (some a)=>ob (aO P t) λn=>ab (Nat.beq (len v.cells.toList) n) (ob (hU s a.block a.off v.cells.toList) λs'=>some (.tuple #[],s')) none
 |_=>none
noncomputable def GW (P:Program) (t:TypeId) (s:AS) (a:Value):Option Value:=
 VA.rec (motive:= λ_=>Option Value) (xh P t a) (λa=>ob (isAgg P t) λb=>ab b (ob (aO P t) λn=>ob (tD s a.block a.off n) λl=>some (.agg ⟨l⟩))
  (ob (tD s a.block a.off 1) λl=>List.rec (motive:= λ_=>Option Value) none (λv _ _=>some v) l)) (M7 a)
noncomputable def D2 (P:Program) (t:TypeId) (s:AS) (a v:Value):Option (Value×AS):=
 VA.rec (motive:= λ_=>Option (Value×AS)) none (λa=>ob (aO P t) λn=>ab (Nat.beq (len v.cells.toList) n) (ob (hU s a.block a.off v.cells.toList) λs'=>some (.tuple #[],s')) none) (M7 a)
noncomputable def Di (v:Value):Option Value:=match v with
 | .pointer (some a)=>some (.pointer (some a))
 | .iface t v=>some (.iface t v)
 | .func (.func f) a b=>some (.func (.func f) a b)
 | .func (.yield l) a b=>some (.func (.yield l) a b)
 |_=>none
noncomputable def Nb (op:UnOp) (v:Value):Option Value:=match op,v with
 | .not,.bool b=>bw (dz b)
 | .neg,.int k n=>fJ k (Int.sub (.ofNat 0) n)
 | .xor,.int k n=>gM k (k.wrap (BitVec.ofInt k.bits (if k.signed then-1 else k.max)^^^BitVec.ofInt k.bits n).toNat)
 |_,_=>none
noncomputable def lD (P:Program) (t:TypeId) (s:AS) (l c:Value):Option (Value×AS):=
 match l,c with
 | .int _ l,.int _ c=>ob (pS P t) λe=>ob (jv l) λl=>ob (jv c) λc=>ab (Nat.ble l c) (ab (Nat.ble c 1000000) (ob (gq P e) λi=>ob (uN i.2 c) λels=>Ag s e i.1 els l c) none) none
 |_,_=>none
noncomputable def FK (o:Option cu) (lo:Lo) (tm:T Value):Option (Option Value):=match o with|none=>some none|some x=>ob (x lo tm) λv=>some (some v)
noncomputable def D3 (P:Program) (t:TypeId) (x:cu) (l h m:Option cu):VF:= λlo tm _=>ob (x lo tm) λx=>ob (FK l lo tm) λl=>ob (FK h lo tm) λh=>ob (FK m lo tm) λm=>y7 P (P.underlying t) x l h m
noncomputable def fieldsOf (P:Program) (t:TypeId) (f:Nat):Option Field:=match P.underlying t with|some (.struct fs)=>fs[f]?|_=>none
noncomputable def lE (P:Program) (t:TypeId) (f:Nat) (v:Value):Option Value:=
 match v with
 | .pointer (some a)=>ob (fieldsOf P t f) λfl=>ob (aO P fl.type) λn=>ab (Nat.beq n 0) none (ar (Nat.add a.off fl.offset) λo=>some (.pointer (some ⟨a.block,o,none⟩)))
 |_=>none
noncomputable def ri (P:Program) (t:TypeId) (f:Nat) (v:Value):Option Value:=
 VA.rec (motive:= λ_=>Option Value) none (λa=>ob (fieldsOf P t f) λfl=>ob (aO P fl.type) λn=>ab (Nat.beq n 0) none (ar (Nat.add a.off fl.offset) λo=>some (.pointer (some ⟨a.block,o,none⟩)))) (M7 v)
noncomputable def zc (P:Program) (t:TypeId) (f:Nat) (v:Value):Option Value:=
 match v with
 | .agg cs=>ob (fieldsOf P t f) λfl=>Ae P fl.type cs.toList fl.offset
 |_=>none
noncomputable def elemAt (P:Program) (a:Addr) (e:TypeId) (n:Nat) (i:Int):Option Value:=
 ob (indexOf i n) λi=>ob (aO P e) λsz=>ar (Nat.add a.off (Nat.mul i sz)) λo=>some (.pointer (some ⟨a.block,o,none⟩))
noncomputable def GX (P:Program) (g off:Nat) (e:TypeId) (n:Nat) (i:Int):Option Value:=
 ob (indexOf i n) λi=>ob (aO P e) λsz=>ar (Nat.add off (Nat.mul i sz)) λo=>some (.complex .f64 g o)
noncomputable def jk (P:Program) (d:Option TypeDesc) (x i:Value):Option Value:=
 match i with
 | .int _ i=>match x with
  | .slice (some a) n _=>match d with|some (.slice e)=>elemAt P a e n i|_=>none
  | .pointer (some a)=>match d with|some (.array n e)=>elemAt P a e n i|_=>none
  | .complex .f64 g off=>match d with|some (.array n e)=>GX P g off e n i|_=>none
  |_=>none
 |_=>none
noncomputable def rj (d:Option TypeDesc):Option TypeId:=match d with|some (.slice e)=>some e|_=>none
noncomputable def rk (P:Program) (d:Option TypeDesc) (x i:Value):Option Value:=
 VI.rec (motive:= λ_=>Option Value) none (λ_ n=>VS.rec (motive:= λ_=>Option Value) (jk P d x i) (λa m _=>ob (rj d) λe=>elemAt P a e m n) (toS x)) (Ml i)
noncomputable def zd (P:Program) (d:Option TypeDesc) (x i:Value):Option Value:=
 match i with
 | .int _ i=>match x with
  | .string b=>match d with|some .string=>ob (jv i) λi=>GS b.data.toList i|_=>none
  | .agg cs=>match d with|some (.array n e)=>ob (indexOf i n) λi=>ob (aO P e) λsz=>Ae P e cs.toList (Nat.mul i sz)|_=>none
  |_=>none
 |_=>none
noncomputable def jl (P:Program) (t:TypeId) (s:AS) (m i x:Value):Option (Value×AS):=
 ob (keyOf P t) λke=>ab (aG P ke.1 i) (match m with
 | .map (some r)=>H2 (mapOf (s.h.get r) λkt es ck=>ab (Nat.beq kt ke.1) (ob (oJ i es) λo=>match o with
   |some _=>ob (uM i x (Nat.succ ck) es) λbc=>ob (s.set r (some (.map kt bc ck))) λs'=>some (.tuple #[],s')
   |none=>ar (Nat.succ ck) λck'=>ob (s.set r (some (.map kt ((i,x,ck')::es) ck'))) λs'=>some (.tuple #[],s')) none)
   (vd (s.h.get r) λkt es ck=>ab (Nat.beq kt ke.1) (ob (oJ i es) λo=>ob o λ_=>ob (uM i x (Nat.succ ck) es) λbc=>ob (s.set r (some (.pmap kt bc ck))) λs'=>some (.tuple #[],s')) none)
 |_=>none) none
noncomputable def nV (P:Program) (t:TypeId) (s:AS) (m i:Value):Option (Value×AS):=
 ob (keyOf P t) λke=>ab (aG P ke.1 i) (match m with
 | .map (some r)=>mapOf (s.h.get r) λkt es ck=>ab (Nat.beq kt ke.1) (ob (oJ i es) λo=>match o with
   |some (v,b)=>Nat.rec (motive:= λ_=>Option (Value×AS)) none (λb _=>ob (s.set r (some (.map kt es ck))) λs'=>some (.tuple #[v,.int .i64 (.ofNat b)],s')) b
   |none=>ob (fF P ke.2) λz=>ar (Nat.succ ck) λck'=>ob (s.set r (some (.map kt ((i,z,ck')::es) ck'))) λs'=>some (.tuple #[z,.int .i64 (.ofNat ck)],s')) none
 |_=>none) none
noncomputable def jZ (s:AS) (m st x:Value):Option (Value×AS):=
 match m,st with
 | .map (some r),.int _ n=>ob (jv n) λb=>mapOf (s.h.get r) λkt es ck=>ob (FJ (Nat.succ b) x es) λbc=>ob (s.set r (some (.map kt bc ck))) λs'=>some (.tuple #[],s')
 |_,_=>none
noncomputable def ze (P:Program) (t:TypeId) (s:AS) (x:Value):Option (Value×AS):=
 match x,P.underlying t with
 | .string b,some .string=>ob (s.new (.cE b 0)) λs'=>some (.pointer (some ⟨s.nx,0,none⟩),s')
 | .map none,some (.map _ _)=>ob (s.new (.mapIter none 0)) λs'=>some (.pointer (some ⟨s.nx,0,none⟩),s')
 | .map (some r),some (.map _ _)=>mapOf (s.h.get r) λ_ _ ck=>ob (s.new (.mapIter (some r) ck)) λs'=>some (.pointer (some ⟨s.nx,0,none⟩),s')
 |_,_=>none
noncomputable def Dj (s:AS) (it:Value):Option (Value×AS):=
 match it with
 | .pointer (some ⟨r,0,_⟩)=>match s.h.get r with
  |some (.cE b pos)=>ab (Nat.blt pos (len b.data.toList))
    (ob (s.set r (some (.cE b (Nat.add pos (Utf8.decode b pos).2)))) λs'=>some (.tuple #[.bool true,.int .i64 (.ofNat pos),.int .i32 (.ofNat (Utf8.decode b pos).1)],s'))
    (some (.tuple #[.bool false],s))
  |_=>none
 |_=>none
noncomputable def KQ (l:List Value) (i:Nat):Option Value:=ob (oI i l) λl=>List.rec (motive:= λ_=>Option Value) none (λv _ _=>some v) l
noncomputable def qG (i:Nat) (x:Value):Option Value:=match x with| .tuple vs=>KQ vs.toList i|_=>none
noncomputable def lj (P:Program) (ts:Array TypeId) (i:Nat):Option TypeDesc:=match ts[i]? with|some t=>P.underlying t|none=>none
noncomputable def H3 (P:Program) (d:Option TypeDesc) (l:List Value):Option Value:=match d,l with
  |some (.slice _),[.slice _ n _]=>some (.int .i64 (.ofNat n))
  |some .string,[.string b]=>ar (len b.data.toList) λn=>some (.int .i64 (.ofNat n))
  |some (.array n _),[_]=>some (.int .i64 (.ofNat n))
  |some (.pointer arr),[_]=>match P.underlying arr with|some (.array n _)=>some (.int .i64 (.ofNat n))|_=>none
  |_,_=>none
noncomputable def H4 (s:AS) (l:List Value):Option Value:=match l with
  | [.map none]=>some (.int .i64 (.ofNat 0))
  | [.map (some r)]=>mapOf (s.h.get r) λ_ es _=>ar (len es) λn=>some (.int .i64 (.ofNat n))
  |_=>none
noncomputable def zf (d:Option TypeDesc):Bool:=match d with|some (.map _ _)=>true|_=>false
noncomputable def H5 (d:Option TypeDesc) (l:List Value):Option Value:=match d,l with
  |some (.slice _),[.slice b _ n]=>ab (jw b n) (ar (ef b n) λn=>some (.int .i64 (.ofNat n))) (ar (ef b n) λn=>some (.complex .f32 1 n))
  |_,_=>none
noncomputable def qq (P:Program) (ts:Array TypeId):Option TypeId:=match lj P ts 0 with|some (.slice e)=>some e|_=>none
noncomputable def vf (P:Program) (ts:Array TypeId):Bool:=match ts[1]? with|none=>true|some t=>match P.underlying t with|some (.int _)=>false|some _=>true|none=>false
noncomputable def zg (P:Program) (ts:Array TypeId):Bool:=match ts[1]? with|none=>false|some t=>match P.underlying t with|some (.int _)=>true|_=>false
noncomputable def vG (s:AS) (e:TypeId) (sz:Nat) (z:List Value) (l:List Value):Option (Value×AS):=match l with
 | [.slice base n c,.int .i64 (.ofNat m)]=>ab (jw base c) (ab (Nat.blt (ef base c) (Nat.add n m)) (ab (Nat.ble (Nat.add n m) 1000000) (ab (Nat.blt 0 (Nat.mul m sz))
   (ob (br s sz (.slice base n c) n) λold=>ob (uN z m) λels=>ob (sy old els) λall=>gf s e sz all (Nat.add n m)) none) none) none) none
 |_=>none
noncomputable def vH (P:Program) (sh:Bool) (ts:Array TypeId) (s:AS) (l:List Value):Option (Value×AS):=
 ob (qq P ts) λe=>ob (gq P e) λi=>ab (vf P ts) (match l with
  | [x,y]=>ob (lenOf y) λn=>ob (br s i.1 y n) λels=>AM sh s e i.1 n els x
  |_=>none) (ab (zg P ts) (vG s e i.1 i.2 l) none)
noncomputable def copyA (P:Program) (ts:Array TypeId) (s:AS) (l:List Value):Option (Value×AS):=
 ob (qq P ts) λe=>ob (aO P e) λsz=>match l with
  | [.slice base dl _,y]=>ob (lenOf y) λn=>ar (Nat.min n dl) λm=>ob (br s sz y m) λels=>match base with
   |none=>some (.int .i64 (.ofNat m),s)
   |some a=>ob (gz sz a.block els s a.off) λs'=>some (.int .i64 (.ofNat m),s')
  |_=>none
noncomputable def vI (P:Program) (ts:Array TypeId) (s:AS) (l:List Value):Option (Value×AS):=match ts[0]?,l with
  |some t,[.map (some r),i]=>ob (keyOf P t) λke=>ab (aG P ke.1 i) (mapOf (s.h.get r) λkt es ck=>ab (Nat.beq kt ke.1) (ob (FI i es) λbc=>ob (s.set r (some (.map kt bc ck))) λs'=>some (.tuple #[],s')) none) none
  |_,_=>none
noncomputable def zh (P:Program) (ts:Array TypeId) (s:AS) (l:List Value):Option (Value×AS):=match lj P ts 0,l with
  |some (.slice _),[.slice none _ _]=>some (.tuple #[],s)
  |some (.slice e),[.slice (some a) n _]=>ob (gq P e) λi=>ob (uN i.2 n) λels=>ob (gz i.1 a.block els s a.off) λs'=>some (.tuple #[],s')
  |some (.map _ _),[.map (some r)]=>mapOf (s.h.get r) λkt _ ck=>ob (s.set r (some (.map kt [] ck))) λs'=>some (.tuple #[],s')
  |_,_=>none
noncomputable def Ah (f:Value->Value->Option Value) (l:List Value):Option Value:=match l with|x::l=>Dh f l x|_=>none
noncomputable def H6 (P:Program) (ts:Array TypeId) (s:AS) (l:List Value):Option (Value×AS):=match lj P ts 0,l with
   |some (.pointer _),[.pointer none,.int _ (.ofNat 0)]=>some (.string ⟨⟨[]⟩⟩,s)
   |some (.pointer u),[.pointer (some a),.int _ (.ofNat n)]=>dC (s.h.get a.block) λc sz m _ et=>
     ab (Nat.beq et u) (ab (Nat.beq sz 1) (ab (Nat.beq ((aO P u).getD 0) 1) (ab (Nat.blt n 1000000) (ob (elems c n a.off) λels=>ob (kI els) λl=>ob (s.set a.block (some (.cells c sz m true et))) λs'=>some (.string ⟨⟨l⟩⟩,s')) none) none) none) none
   |_,_=>none
noncomputable def Dk (l:List Value):Option Value:=match l with
   | [.slice none _ _]=>some (.pointer none)
   | [.slice (some a) n c]=>ab (Nat.blt 0 (Nat.div c 512)) (some (.pointer (some a))) none
   |_=>none
noncomputable def Dl (d:TypeDesc) (x:Value):Option Value:=
 match d,x with
 | .int k,.int _ n=>fJ k n
 | .string,.int _ n=>some (.string (Utf8.encode n))
 | .string,.string b=>some (.string b)
 |_,_=>none
noncomputable def Ai (P:Program) (e:TypeId) (back:Bool) (s:AS) (x:Value):Option Value:=
 match x with
 | .pointer none=>some (.pointer none)
 | .pointer (some a)=>ob (aO P e) λn=>dC (s.h.get a.block) λc sz _ _ et=>ab (Nat.blt 0 n) (ab (Nat.beq (Nat.mod a.off sz) 0) (ab (Nat.beq n sz) (ob (c.get (Nat.div a.off sz)) λ_=>ab (ab back (Nat.beq et e) true) (some (.pointer (some a))) none) none) none) none
 |_=>none
noncomputable def Dm (s:AS) (x:Value):Option Value:=
 match x with
 | .slice base n c=>ob (br s 1 (.slice base n c) n) λels=>ob (kI els) λl=>some (.string ⟨⟨l⟩⟩)
 |_=>none
noncomputable def Dp (e:TypeId) (s:AS) (x:Value):Option (Value×AS):=
 match x with
 | .string b=>ab (Nat.ble (len b.data.toList) 1000000) (ob (byteCells b.data.toList) λels=>gf s e 1 els (len b.data.toList)) none
 |_=>none
noncomputable def kept (aa t:Nat):Bool:=Nat.beq (Nat.land (Nat.shiftRight aa t) 1) 1
abbrev Al:=List (Nat×Operand)
noncomputable def tH (t:Nat) (al:Al):Option Operand:=List.rec (motive:= λ_=>Option Operand) none (λp _ ih=>ab (Nat.beq p.1 t) (some p.2) ih) al
noncomputable def Dq (aa:Nat) (x:Operand):Option cu:=
 match x with
 | .tmp t=>ab (kept aa t) (some (JR t)) (some (PQ t))
 | .const v=>(match cH v with|some v=>some (JS v)|none=>some (λ_ _=>none))
 | .global g=>some (JS (.complex .f64 g 0))
 | .func f=>some (JS (.func (.func f) #[] #[]))
noncomputable def dN (al:Al) (x:Operand):Operand:=match x with| .tmp t=>(match tH t al with|some y=>y|none=> .tmp t)|x=>x
noncomputable def bz (aa:Nat) (al:Al) (x:Operand):Option cu:=Dq aa (dN al x)
noncomputable def iy (aa:Nat) (al:Al) (xs:List Operand):Option (List cu):=List.rec (motive:= λ_=>Option (List cu)) (some []) (λx _ ih=>ob (bz aa al x) λx=>ob ih λr=>some (x::r)) xs
noncomputable def qj (aa:Nat) (al:Al) (x:Option Operand):Option (Option cu):=match x with|some x=>ob (bz aa al x) λx=>some (some x)|none=>some none
inductive Rd where
 |p (f:VF)
 |r (f:VF)
 |a (f:SF)
 |w (f:SF)
 |c (f:cu) (args:List cu)
noncomputable def c1 (aa:Nat) (al:Al) (x:Operand) (k:cu->Rd):Option Rd:=ob (bz aa al x) λx=>some (k x)
noncomputable def c2 (aa:Nat) (al:Al) (x y:Operand) (k:cu->cu->Rd):Option Rd:=ob (bz aa al x) λx=>ob (bz aa al y) λy=>some (k x y)
noncomputable def c3 (aa:Nat) (al:Al) (x y z:Operand) (k:cu->cu->cu->Rd):Option Rd:=ob (bz aa al x) λx=>ob (bz aa al y) λy=>ob (bz aa al z) λz=>some (k x y z)
noncomputable def cl (aa:Nat) (al:Al) (xs:List Operand) (k:List cu->Rd):Option Rd:=ob (iy aa al xs) λxs=>some (k xs)
noncomputable def kJ (P:Program) (sh:Bool) (b:Builtin) (ts:Array TypeId) (I2:List cu):Option Rd:=
 match b with
 | .len=>ab (zf (lj P ts 0)) (some (.r (rl I2 H4))) (some (.p (vl I2 (H3 P (lj P ts 0)))))
 | .cap=>some (.p (vl I2 (H5 (lj P ts 0))))
 | .append=>some (.w (sl I2 (vH P sh ts)))
 | .copy=>some (.w (sl I2 (copyA P ts)))
 | .delete=>some (.w (sl I2 (vI P ts)))
 | .clear=>some (.w (sl I2 (zh P ts)))
 | .max=>some (.p (vl I2 (Ah Df)))
 | .min=>some (.p (vl I2 (Ah Dg)))
 |b=>ab (Nat.beq b.ctorIdx 20) (some (.p (vl I2 Dk))) (ab (Nat.beq b.ctorIdx 21) (some (.w (sl I2 (H6 P ts)))) none)
noncomputable def tW (aa:Nat) (xs:List Operand):Bool:=match xs with| .tmp t::_=>kept aa (Nat.add 4096 t)|_=>false
noncomputable def vg (d:Option TypeDesc):Bool:=match d with|some d=>Nat.beq d.ctorIdx 6|none=>false
noncomputable def zi (P:Program) (src dst:TypeId) (x:cu):Option Rd:=
 ab (vg (P.underlying dst)) (match P.underlying src with|some (.pointer e)=>some (.r (r1 x (Ai P e false)))|_=>none)
 (ab (vg (P.underlying src)) (match P.underlying dst with|some (.pointer e)=>some (.r (r1 x (Ai P e true)))|_=>none)
 (match P.underlying src,P.underlying dst with
 |some (.slice e),some .string=>(match P.underlying e with|some (.int .u8)=>some (.r (r1 x Dm))|_=>none)
 |some .string,some (.slice e)=>(match P.underlying e with|some (.int .u8)=>ab (Nat.beq ((aO P e).getD 0) 1) (some (.a (s1 x (Dp e)))) none|_=>none)
 |some _,some d=>some (.p (v1 x (Dl d)))
 |_,_=>none))
noncomputable def Ls (fn:Fn) (a b:List Value):Option Value:=match fn with| .func f=>some (.func (.func f) ⟨a⟩ ⟨b⟩)|_=>none
noncomputable def vh (P:Program) (name:String) (t:TypeId) (v:Value):Option Value:=
 match P.info? t with
 |some i=>(match i.methods.find? (·.name==name)with
  |some m=>(match m.path.toList,m.func with
   | [],some (f,p)=>(match P.underlying t,p with
    |some (.pointer _),true=>some (.func (.func f) #[v] #[])
    |some (.pointer _),false=>none
    |some _,false=>some (.func (.func f) #[v] #[])
    |_,_=>none)
   |_,_=>none)
  |none=>none)
 |none=>none
noncomputable def D4 (P:Program) (name:String) (v:Value):Option Value:=match v with| .iface t v=>vh P name t v|_=>none
noncomputable def AN (P:Program) (name:String) (r:cu):cu:= λlo tm=>ob (r lo tm) (D4 P name)
noncomputable def sE (P:Program) (aa:Nat) (al:Al) (op:Op):Option Rd:=
 match op with
 | .move x=>c1 aa al x λx=> .p (v1 x some)
 | .assign x=>c1 aa al x λx=> .p (v1 x some)
 | .pick c a b=>c3 aa al c a b λc a b=> .p (Lr c a b)
 | .alloc t=>some (.a (λ_ _ s=>y8 P t s))
 | .box t x=>c1 aa al x λx=> .a (s1 x (KN t))
 | .build t ps=>cl aa al (ps.toList.map (·.2)) λxs=> .p (vl xs (za P t (ps.toList.map (·.1))))
 | .buildSlice t n ps=>cl aa al (ps.toList.map (·.2)) λxs=> .a (sl xs (jY P t n (ps.toList.map (·.1))))
 | .load t a=>c1 aa al a λa=> .r (r1 a (GW P t))
 | .store t a x=>c2 aa al a x λa x=> .w (s2 a x (D2 P t))
 | .nilCheck x=>c1 aa al x λx=> .p (v1 x Di)
 | .binOp op t x y _=>c2 aa al x y λx' y'=> .p (v2 x' y' λa b=>GR op (lh P t) (ab (tF x) true (tF y)) b a)
 | .unOp op _ x=>c1 aa al x λx=> .p (v1 x (Nb op))
 | .convert a b x=>ob (bz aa al x) λx=>zi P a b x
 | .makeInterface t x=>(match P.underlying t with|some (.interface _)=>none|some _=>c1 aa al x λx=> .p (v1 x λv=>some (.iface t v))|none=>none)
 | .makeFunc fn a b=>ob (iy aa al a.toList) λa=>ob (iy aa al b.toList) λb=>some (.p (λlo tm _=>ob (sC a lo tm) λa=>ob (sC b lo tm) λb=>Ls fn a b))
 | .makeMap t none=>ob (keyOf P t) λke=>some (.a (λ_ _ s=>ob (s.new (.map ke.1 [] 0)) λs'=>some (.map (some s.nx),s')))
 | .makeSlice t l c=>c2 aa al l c λl c=> .a (s2 l c (lD P t))
 | .slice t x lo hi mx=>ob (bz aa al x) λx=>ob (qj aa al lo) λlo=>ob (qj aa al hi) λhi=>ob (qj aa al mx) λmx=>some (.p (D3 P t x lo hi mx))
 | .fieldAddr t x f=>c1 aa al x λx=> .p (v1 x (ri P t f))
 | .field t x f=>c1 aa al x λx=> .p (v1 x (zc P t f))
 | .indexAddr t x i=>c2 aa al x i λx i=> .p (v2 x i λx i=>rk P (P.underlying t) x i)
 | .index t x i=>c2 aa al x i λx i=> .p (v2 x i λx i=>zd P (P.underlying t) x i)
 | .lookup t x i ok=>c2 aa al x i λx i=> .r (r2 x i λs x i=>vF P s t ok i x)
 | .mapUpdate t m i x=>c3 aa al m i x λm i x=> .w (s3 m i x (jl P t))
 | .insert t m i x=>c3 aa al m i x λm i x=> .w (s3 m i x (jl P t))
 | .mapEntry t m i=>c2 aa al m i λm i=> .w (s2 m i (nV P t))
 | .entryStore _ m st x=>c3 aa al m st x λm st x=> .w (s3 m st x jZ)
 | .range t x=>c1 aa al x λx=> .w (s1 x (ze P t))
 | .next x true=>c1 aa al x λx=> .w (s1 x Dj)
 | .extract x i=>c1 aa al x λx=> .p (v1 x (qG i))
 | .call c=>match c.callee with
  | .value f=>ob (bz aa al f) λf=>cl aa al c.args.toList λI2=> .c f I2
  | .builtin b=>ob (iy aa al c.args.toList) λI2=>kJ P (tW aa c.args.toList) b c.argTypes I2
  | .invoke r name=>ob (bz aa al r) λr=>cl aa al c.args.toList λI2=> .c (AN P name r) I2
 |_=>none
inductive DI where
 |no
 |l (t:Nat)
 |t (t:Nat)
noncomputable def kX (aa nt:Nat) (d:Option Tmp):Option DI:=match d with|none=>some .no|some t=>ab (Nat.blt t nt) (ab (kept aa t) (some (.t t)) (some (.l t))) none
inductive CI where
 |v (f:VF) (d:DI)
 |s (f:SF) (d:DI)
 |c (f:cu) (args:List cu) (d:DI)
 |gd (g:cu) (want:Bool) (d:DI) (c:CI)
noncomputable def nG (r:Rd) (d:DI):CI:=match r with| .p f=> .v f d| .r f=> .v f d| .a f=> .s f d| .w f=> .s f d| .c f I2=> .c f I2 d
abbrev K:=Lo->T Value->AS->Out
noncomputable def fM (d:DI) (v:Value) (k:K) (lo:Lo) (tm:T Value) (s:AS):Out:=
 DI.rec (motive:= λ_=>Out) (k lo tm s) (λt=>k (.cons t v lo) tm s) (λt=>Option.rec (motive:= λ_=>Out) .no (λtm'=>k lo tm' s) (T.put (some v) tm t)) d
noncomputable def nW (d:DI) (k:K) (lo:Lo) (tm:T Value) (o:Out):Out:=
 Out.rec (motive:= λ_=>Out) .no (λ_ _ _=> .no) (λv s=>fM d v k lo tm s) o
noncomputable def kY (want:Bool) (o:Option Value):Option Bool:=match o with|some (.bool b)=>some (ab want b (dz b))|some (.tuple _)=>some false|_=>none
noncomputable def Hu (o:Option Bool) (a b:Out):Out:=Option.rec (motive:= λ_=>Out) .no (λy=>ab y a b) o
noncomputable def eg (ev:Ev) (c:CI):K->K:=
 CI.rec (motive:= λ_=>K->K)
  (λf d k lo tm s=>Option.rec (motive:= λ_=>Out) .no (λv=>fM d v k lo tm s) (f lo tm s))
  (λf d k lo tm s=>Option.rec (motive:= λ_=>Out) .no (λp=>fM d p.1 k lo tm p.2) (f lo tm s))
  (λf I2 d k lo tm s=>Option.rec (motive:= λ_=>Out) .no (λl=>Option.rec (motive:= λ_=>Out) .no (λf=>nW d k lo tm (ev f l s)) (f lo tm)) (sC I2 lo tm))
  (λg want d _ ih k lo tm s=>Hu (kY want (g lo tm)) (ih k lo tm s) (fM d (.tuple #[]) k lo tm s)) c
noncomputable def i5 (ev:Ev) (l:List CI) (k:K):K:=
 List.rec (motive:= λ_=>K) k (λc _ ih lo tm s=>eg ev c ih lo tm s) l
noncomputable def iC (aa:Nat) (al:Al) (all:List Oper) (j:Nat):Option cu:=match all[j]? with|some o=>(match o.dst with|some d=>bz aa al (.tmp d)|none=>none)|none=>none
noncomputable def cO (aa:Nat) (al:Al) (all:List Oper) (o:Oper) (d:DI) (c:CI):Option CI:=
 match o.guard with
 |none=>some c
 |some (j,want)=>ob (iC aa al all j) λg=>some (.gd g want d c)
noncomputable def Bi (P:Program) (aa nt:Nat) (al:Al) (all:List Oper) (o:Oper):Option CI:=
 ob (sE P aa al o.op) λr=>ob (kX aa nt o.dst) λd=>cO aa al all o d (nG r d)
noncomputable def vi (o:Oper):Option (Nat×Operand):=
 match o.guard,o.dst,o.op with
 |none,some d,.move (.tmp x)=>some (d,.tmp x)
 |none,some d,.move (.const v)=>some (d,.const v)
 |_,_,_=>none
noncomputable def mi (d:Nat) (x:Operand):Bool:=match x with| .tmp t=>Nat.beq t d|_=>false
noncomputable def cC (d:Nat) (al:Al):Al:=List.rec (motive:= λ_=>Al) [] (λp _ ih=>ab (Nat.beq p.1 d) ih (ab (mi d p.2) ((p.1,.const (.complex .f32 0 0))::ih) (p::ih))) al
noncomputable def gX (o:Oper) (al:Al):Al:=match o.dst with|some d=>cC d al|none=>al
noncomputable def Lt (l:List Oper):Nat:=List.rec (motive:= λ_=>Nat) 0 (λo _ ih=>match o.dst with|some d=>Nat.lor (Nat.shiftLeft 1 d) ih|none=>ih) l
noncomputable def writes (x:Operand) (l:List Oper):Bool:=match x with| .tmp t=>kept (Lt l) t|_=>false
noncomputable def dD (P:Program) (aa nt:Nat) (all rest:List Oper):Al->Option (List CI):=
 List.rec (motive:= λ_=>Al->Option (List CI)) (λ_=>some [])
  (λo tl ih al=>match vi o with
   |some (d,x)=>ab (ab (kept aa d) true (ab (Nat.ble nt d) true (ab (mi d (dN al x)) true (writes (dN al x) tl)))) (ob (Bi P aa nt al all o) λc=>ob (ih (gX o al)) λr=>some (c::r)) (ih ((d,dN al x)::cC d al))
   |none=>ob (Bi P aa nt al all o) λc=>ob (ih (gX o al)) λr=>some (c::r)) rest
noncomputable def kA (f:Value->Value->Bool) (a:List Value):List Value->Bool:=
 List.rec (motive:= λ_=>List Value->Bool) (λb=>match b with| []=>true|_=>false) (λx _ ih b=>match b with|y::b=>ab (f x y) (ih b) false| []=>false) a
noncomputable def vJ (a b:Addr):Bool:=match a.spot,b.spot with|none,none=>ab (Nat.beq a.block b.block) (Nat.beq a.off b.off) false|_,_=>false
noncomputable def iD (a b:Option Addr):Bool:=match a,b with|none,none=>true|some a,some b=>vJ a b|_,_=>false
noncomputable def mP (a b:Option Nat):Bool:=match a,b with|none,none=>true|some a,some b=>Nat.beq a b|_,_=>false
noncomputable def vj (a b:Fn):Bool:=match a,b with| .func f,.func g=>Nat.beq f g| .yield f,.yield g=>Nat.beq f g|_,_=>false
noncomputable def ku (n:Nat):Value->Value->Bool:=
 Nat.rec (motive:= λ_=>Value->Value->Bool) (λ_ _=>false) (λ_ ih x y=>match x,y with
  | .bool a,.bool b=>ab a b (dz b)
  | .int k a,.int k' b=>ab (sd k k') (yC a b) false
  | .string a,.string b=>Cn a.data.toList b.data.toList
  | .pointer a,.pointer b=>iD a b
  | .slice a n c,.slice b m d=>ab (iD a b) (ab (Nat.beq n m) (Nat.beq c d) false) false
  | .map a,.map b=>mP a b
  | .func f a b,.func g c d=>ab (vj f g) (ab (kA ih a.toList c.toList) (kA ih b.toList d.toList) false) false
  | .nilFunc,.nilFunc=>true
  | .nilIface,.nilIface=>true
  | .iface t a,.iface u b=>ab (Nat.beq t u) (ih a b) false
  | .agg a,.agg b=>kA ih a.toList b.toList
  | .tuple a,.tuple b=>kA ih a.toList b.toList
  |_,_=>false) n
noncomputable def Bj (v:Value) (o:Option Value):Bool:=Option.rec (motive:= λ_=>Bool) false (λu=>ku 12 v u) o
abbrev sF:=Nat×(AS->Bool)
noncomputable def fG (k:Nat) (s:AS) (l:List sF):Bool:=List.rec (motive:= λ_=>Bool) true (λc _ ih=>ab (Nat.ble k c.1) (ab (c.2 s) ih false) ih) l
inductive DR where
 |pa (c:CI)
 |rd (f:VF) (d:DI) (hi:Nat)
 |gr (g:cu) (want:Bool) (f:VF) (d:DI) (hi:Nat)
abbrev KC:=List sF->K
noncomputable def rdStep (f:VF) (d:DI) (hi:Nat) (k:KC) (cs:List sF) (lo:Lo) (tm:T Value) (s:AS):Out:=
 Option.rec (motive:= λ_=>Out) .no (λv=>fM d v (k ((hi,λs'=>Bj v (f lo tm s'))::cs)) lo tm s) (f lo tm s)
noncomputable def Dr (ev:Ev) (x:DR) (k:KC) (cs:List sF):K:=
 DR.rec (motive:= λ_=>K) (λc lo tm s=>eg ev c (k cs) lo tm s) (λf d hi lo tm s=>rdStep f d hi k cs lo tm s)
  (λg want f d hi lo tm s=>Hu (kY want (g lo tm)) (rdStep f d hi k cs lo tm s) (fM d (.tuple #[]) (k cs) lo tm s)) x
noncomputable def hZ (ev:Ev) (l:List DR) (k:KC):KC:=
 List.rec (motive:= λ_=>KC) k (λx _ ih cs lo tm s=>Dr ev x ih cs lo tm s) l
structure mj where
 pre:List DR
 w:CI
noncomputable def eC (n:Nat) (k:KC):KC:= λcs lo tm s=>ab (fG n s cs) (k cs lo tm s) .no
noncomputable def cP (ev:Ev) (l:List mj) (last:List DR) (k:K):Nat->KC:=
 List.rec (motive:= λ_=>Nat->KC) (λn=>hZ ev last (eC n λ_=>k))
  (λst _ ih n=>hZ ev st.pre (eC n λcs=>eg ev st.w (ih (Nat.succ n) cs))) l
noncomputable def ia (ms:List Nat) (es:List Edge):Nat:=
 List.rec (motive:= λ_=>Nat) 0 (λe _ ih=>ab (Region.binds .any e) (Nat.lor (Nat.lor (Nat.shiftLeft 1 e.on) (ms.getD e.on 0)) ih) ih) es
noncomputable def qk (l:List Oper):List Nat->Option (List Nat):=
 List.rec (motive:= λ_=>List Nat->Option (List Nat)) (λms=>some ms) (λo _ ih ms=>ar (ia ms o.after.toList) λm=>ob (sy ms [m]) ih) l
noncomputable def aw (m i:Nat):Bool:=Nat.beq (Nat.land (Nat.shiftRight m i) 1) 1
noncomputable def kT (r:Rd):Bool:=match r with| .w _=>true| .c _ _=>true|_=>false
structure aE where
 i:Nat
 m:Nat
 o:Oper
 r:Rd
noncomputable def Bk (P:Program) (aa:Nat) (l:List Oper):Nat->List Nat->Option (List aE):=
 List.rec (motive:= λ_=>Nat->List Nat->Option (List aE)) (λ_ _=>some [])
  (λo _ ih i ms=>match ms with
   |m::ms=>ab (Nat.blt m (Nat.pow 2 i)) (ob (sE P aa [] o.op) λr=>ar i λi=>ob (ih (Nat.succ i) ms) λl=>some (⟨i,m,o,r⟩::l)) none
   | []=>none) l
noncomputable def aJ (l:List aE):List aE:=List.rec (motive:= λ_=>List aE) [] (λx _ ih=>ab (kT x.r) (x::ih) ih) l
noncomputable def jb (l:List aE):Option Nat->Bool:=
 List.rec (motive:= λ_=>Option Nat->Bool) (λ_=>true) (λx _ ih p=>match p with|none=>ih (some x.i)|some p=>ab (aw x.m p) (ih (some x.i)) false) l
noncomputable def level (m:Nat) (ws:List aE):Nat:=List.rec (motive:= λ_=>Nat) 0 (λx _ ih=>ab (aw m x.i) (Nat.succ ih) ih) ws
noncomputable def cU (i:Nat) (ws:List aE):Nat:=List.rec (motive:= λ_=>Nat) 0 (λx _ ih=>ab (aw x.m i) ih (Nat.succ ih)) ws
noncomputable def ey (all:List Oper) (o:Oper):List Nat:=
 app (o.op.operands.toList.filterMap λx=>match x with| .tmp t=>some t|_=>none)
  (match o.guard with|some (j,_)=>(match all[j]? with|some g=>g.dst.toList|none=> [])|none=> [])
noncomputable def sG {α:Type} (f:α->Bool) (l:List α):Bool:=List.rec (motive:= λ_=>Bool) true (λx _ ih=>ab (f x) ih false) l
noncomputable def jG {α:Type} (d:Nat):T α:=Nat.rec (motive:= λ_=>T α) .e (λ_ ih=> .n none ih ih) d
noncomputable def CD (l:List aE):Option (T aE):=
 List.rec (motive:= λ_=>Option (T aE)) (some (jG 12)) (λx _ ih=>match x.o.dst with
  |none=>ih
  |some d=>ob ih λt=>Option.rec (motive:= λ_=>Option (T aE)) (T.put (some x) t d) (λ_=>none) (T.get t d)) l
noncomputable def Aj (x y:aE):Bool:=ab (Nat.beq x.i y.i) false (ab (Nat.blt y.i x.i) (aw x.m y.i) (aw y.m x.i))
noncomputable def kD (all:List Oper) (l:List aE):Bool:=
 Option.rec (motive:= λ_=>Bool) false (λt=>sG (λx=>sG (λu=>Option.rec (motive:= λ_=>Bool) true (λy=>Aj x y) (T.get t u)) (ey all x.o)) l) (CD l)
noncomputable def H7 (aa nt:Nat) (all:List Oper) (ws:List aE) (x:aE):Option DR:=
 ob (kX aa nt x.o.dst) λd=>match x.r with
 | .r f=>(match x.o.guard with
  |none=>ar (cU x.i ws) λh=>some (.rd f d h)
  |some (j,want)=>ob (iC aa [] all j) λg=>ar (cU x.i ws) λh=>some (.gr g want f d h))
 |r=>ob (cO aa [] all x.o d (nG r d)) λc=>some (.pa c)
noncomputable def cj (aa nt:Nat) (all:List Oper) (ws:List aE) (n:Nat) (l:List aE):Option (List DR):=
 List.rec (motive:= λ_=>Option (List DR)) (some [])
  (λx _ ih=>ab (kT x.r) ih (ab (Nat.beq (level x.m ws) n) (ob (H7 aa nt all ws x) λd=>ob ih λr=>some (d::r)) ih)) l
noncomputable def jH (aa nt:Nat) (all:List Oper) (ws l:List aE) (todo:List aE):Nat->Option (List mj):=
 List.rec (motive:= λ_=>Nat->Option (List mj)) (λ_=>some [])
  (λw _ ih n=>ob (cj aa nt all ws n l) λpre=>ob (kX aa nt w.o.dst) λd=>ob (cO aa [] all w.o d (nG w.r d)) λc=>ar (Nat.succ n) λn=>ob (ih n) λr=>some (⟨pre,c⟩::r)) todo
noncomputable def qs {β:Type} (P:Program) (aa nt:Nat) (all:List Oper) (k:List mj->List DR->Option β):Option β:=
 ob (qk all []) λms=>ob (Bk P aa all 0 ms) λl=>
  ab (jb (aJ l) none) (ab (kD all l)
   (ob (jH aa nt all (aJ l) l (aJ l) 0) λst=>ob (cj aa nt all (aJ l) (len (aJ l)) l) λlast=>k st last) none) none
noncomputable def aY (o:Oper):Bool:=match o.op with| .insert _ _ _ _=>true|_=>false
structure uO where
 t:TypeId
 m:Nat
 k:Value
 v:cu
noncomputable def cW (aa:Nat) (o:Oper):Option uO:=match o.guard,o.dst,o.op with
 |none,none,.insert t (.tmp m) (.const k) v=>ob (cH k) λk=>ob (bz aa [] v) λv=>some ⟨t,m,k,v⟩
 |_,_,_=>none
noncomputable def aC (aa:Nat) (x:aE):aE:=match cW aa x.o with|some q=>⟨x.i,x.m,x.o,.p (λlo tm _=>ob (q.v lo tm) λ_=>some (.tuple #[]))⟩|none=>x
noncomputable def qc (f:aE->aE) (l:List aE):List aE:=List.rec (motive:= λ_=>List aE) [] (λx _ ih=>f x::ih) l
noncomputable def bg (aa:Nat) (l:List aE):List uO:=List.rec (motive:= λ_=>List uO) [] (λx _ ih=>match cW aa x.o with|some q=>q::ih|none=>ih) l
noncomputable def xi (o:Oper):Option (TypeId×Nat):=match o.guard,o.dst,o.op with|none,some d,.makeMap t none=>some (t,d)|_,_,_=>none
noncomputable def zj (l:List aE):Option (aE×TypeId×Nat):=List.rec (motive:= λ_=>Option (aE×TypeId×Nat)) none (λx _ ih=>match xi x.o with|some q=>some (x,q.1,q.2)|none=>ih) l
noncomputable def AO (l:List aE) (x:aE):Bool:=match x.o.op with
 | .insert _ _ _ (.tmp t)=>sG (λy=>match y.o.dst with|some d=>ab (Nat.beq d t) (aw x.m y.i) true|none=>true) l
 |_=>true
noncomputable def vK (P:Program) (aa:Nat) (kt t:TypeId) (m i0:Nat) (l:List aE) (x:aE):Bool:=match cW aa x.o with
 |some q=>ab (Nat.beq q.t t) (ab (Nat.beq q.m m) (ab (aG P kt q.k) (ab (aw x.m i0) (AO l x) false) false) false) false
 |none=>dz (aY x.o)
noncomputable def Ds (o:Option Bool):Bool:=match o with|some false=>true|_=>false
noncomputable def nX (l:List uO):Bool:=List.rec (motive:= λ_=>Bool) true (λx t ih=>ab (sG (λy=>Ds (tw 8 x.k y.k)) t) ih false) l
noncomputable def Ak (l:List uO) (lo:Lo) (tm:T Value):Option (List (Value×Value×Nat)):=
 List.rec (motive:= λ_=>Option (List (Value×Value×Nat))) (some []) (λx _ ih=>ob (x.v lo tm) λv=>ob ih λr=>some ((x.k,v,0)::r)) l
noncomputable def jc (m:cu) (Gz:Nat) (k:KC):KC:= λcs lo tm s=>match m lo tm with
 |some (.map (some b))=>ab (Nat.ble Gz b) (Option.rec (motive:= λ_=>Out) .no (λs'=>k cs lo tm s') (s.set b none)) .no
 |_=> .no
noncomputable def H8 (m:cu) (kt:TypeId) (il:List uO):K:= λlo tm s=>match m lo tm with
 |some (.map (some b))=>Option.rec (motive:= λ_=>Out) .no (λes=>Option.rec (motive:= λ_=>Out) .no (λs'=> .code .normal tm s') (s.set b (some (.map kt es (len il))))) (Ak il lo tm)
 |_=> .no
noncomputable def lF (ev:Ev) (l:List mj) (last:List DR) (k:K) (KR:KC->KC):KC:=
 match l with
 | []=>hZ ev last (KR (eC 0 λ_=>k))
 |st::r=>hZ ev st.pre (KR (eC 0 λcs=>eg ev st.w (cP ev r last k 1 cs)))
noncomputable def I3 (m:cu) (kt:TypeId) (il:List uO) (st:List mj) (last:List DR):Ev->T Value->AS->Out:= λev tm s=>lF ev st last (H8 m kt il) (jc m s.nx) [] .nil tm s
noncomputable def mC (P:Program) (aa nt:Nat) (all:List Oper):Option (Ev->T Value->AS->Out):=
 ob (qk all []) λms=>ob (Bk P aa all 0 ms) λl0=>ob (zj l0) λpl=>ob (keyOf P pl.2.1) λke=>
  ab (sG (vK P aa ke.1 pl.2.1 pl.2.2 pl.1.i l0) l0) (ab (nX (bg aa l0)) (ab (Nat.beq (level pl.1.m (aJ (qc (aC aa) l0))) 0)
   (ab (jb (aJ (qc (aC aa) l0)) none) (ab (kD all (qc (aC aa) l0))
    (ob (jH aa nt all (aJ (qc (aC aa) l0)) (qc (aC aa) l0) (aJ (qc (aC aa) l0)) 0) λst=>ob (cj aa nt all (aJ (qc (aC aa) l0)) (len (aJ (qc (aC aa) l0))) (qc (aC aa) l0)) λlast=>ob (bz aa [] (.tmp pl.2.2)) λm=>some (I3 m ke.1 (bg aa l0) st last)) none) none) none) none) none
inductive Ext where
 |same|cmp|makeNoZero (et:TypeId)|indexByteString|overlaps (et:TypeId)
inductive Sum where
 |copy (kt:TypeId)
 |sorted (g:Nat) (et kt:TypeId)
 |Am (te tp:TypeId)
 |guard (fill sH sm t:Nat)
 |alt (a b:Sum)
structure Entry where
 f:Nat
 nx:Nat
 args:List Value
 hin:T Blk
 v:Value
 aP:T Blk
 u5:Nat
structure Cfg where
 ext:List (Nat×Ext)
 sum:List (Nat×Sum)
 tab:List Entry
 aa:T Nat
noncomputable def jI (X:Cfg) (fn:Nat):Nat:=match X.aa.get fn with|some n=>n|none=>0
abbrev CF:=Ev->T Value->AS->Out
abbrev KO:=T Value->AS->Out
noncomputable def gn (k:KO) (o:Out):Out:=
 Out.rec (motive:= λ_=>Out) .no (λx tm s=>bY.rec (motive:= λ_=>Out) (k tm s) (λi=> .code (.exit i) tm s) (λl=> .code (.goto l) tm s) (.code .ret tm s) x) (λ_ _=> .no) o
noncomputable def sI (x:bY):CF:= λ_ tm s=> .code x tm s
noncomputable def sJ:K:= λ_ tm s=> .code .normal tm s
noncomputable def AP (l:List CI):CF:= λev tm s=>i5 ev l sJ .nil tm s
noncomputable def Mn {β:Type} (c:CI) (cont:(Ev->K->K)->Option β):Option β:=
 CI.rec (motive:= λ_=>Option β)
  (λf d=>DI.rec (motive:= λ_=>Option β) (cont λ_ k lo tm s=>Option.rec (motive:= λ_=>Out) .no (λ_=>k lo tm s) (f lo tm s))
   (λt=>cont λ_ k lo tm s=>Option.rec (motive:= λ_=>Out) .no (λv=>k (.cons t v lo) tm s) (f lo tm s))
   (λt=>cont λ_ k lo tm s=>Option.rec (motive:= λ_=>Out) .no (λv=>Option.rec (motive:= λ_=>Out) .no (λtm'=>k lo tm' s) (T.put (some v) tm t)) (f lo tm s)) d)
  (λf d=>DI.rec (motive:= λ_=>Option β) (cont λ_ k lo tm s=>Option.rec (motive:= λ_=>Out) .no (λp=>k lo tm p.2) (f lo tm s))
   (λt=>cont λ_ k lo tm s=>Option.rec (motive:= λ_=>Out) .no (λp=>k (.cons t p.1 lo) tm p.2) (f lo tm s))
   (λt=>cont λ_ k lo tm s=>Option.rec (motive:= λ_=>Out) .no (λp=>Option.rec (motive:= λ_=>Out) .no (λtm'=>k lo tm' p.2) (T.put (some p.1) tm t)) (f lo tm s)) d)
  (λf I2 d=>cont λev k lo tm s=>eg ev (.c f I2 d) k lo tm s)
  (λg want d c _=>cont λev k lo tm s=>eg ev (.gd g want d c) k lo tm s) c
noncomputable def vL (l:List CI):Option (Ev->K->K):=
 List.rec (motive:= λ_=>Option (Ev->K->K)) (some λ_ k=>k) (λc _ ih=>ob ih λR=>Mn c λF=>some λev k lo tm s=>F ev (R ev k) lo tm s) l
noncomputable def An (l:List CI):Option CF:=ob (vL l) λR=>some λev tm s=>R ev sJ .nil tm s
noncomputable def tI (st:List mj) (last:List DR):CF:= λev tm s=>cP ev st last sJ 0 [] .nil tm s
noncomputable def CE (a b:CF):CF:= λev tm s=>gn (b ev) (a ev tm s)
noncomputable def AQ (v:Option Value) (a b:Out):Out:=match v with|some (.bool x)=>ab x a b|_=> .no
noncomputable def Dt (v:Option Value) (a b:Out):Out:=Option.rec (motive:= λ_=>Out) .no (λv=>VB.rec (motive:= λ_=>Out) .no (λx=>ab x a b) (PN v)) v
noncomputable def xj (c:cu) (a b:CF):CF:= λev tm s=>Dt (c .nil tm) (a ev tm s) (b ev tm s)
noncomputable def iE (id:Nat) (o:Out):Out:=
 Out.rec (motive:= λ_=>Out) .no (λx tm s=>bY.rec (motive:= λ_=>Out) (.code .normal tm s) (λi=>ab (Nat.beq i id) (.code .normal tm s) (.code (.exit i) tm s)) (λl=> .code (.goto l) tm s) (.code .ret tm s) x) (λ_ _=> .no) o
noncomputable def qt (id:Nat) (a:CF):CF:= λev tm s=>iE id (a ev tm s)
noncomputable def xA (o:Out):Out:=
 Out.rec (motive:= λ_=>Out) .no (λx tm s=>bY.rec (motive:= λ_=>Out) (.code .normal tm s) (λi=> .code (.exit i) tm s) (λ_=> .no) (.code .ret tm s) x) (λ_ _=> .no) o
noncomputable def qu (a:CF):CF:= λev tm s=>xA (a ev tm s)
noncomputable def Du (a:KO) (n:Nat):KO:=Nat.rec (motive:= λ_=>KO) (λ_ _=> .no) (λ_ ih tm s=>gn ih (a tm s)) n
noncomputable def Dv (a:CF):CF:= λev tm s=>Du (a ev) 1000000 tm s
noncomputable def kK (b:Option Blk) (k:Option Nat->Nat->Out):Out:=
 match b with|some (.mapIter r ck)=>k r ck|_=> .no
noncomputable def qv (s:AS) (r:Option Nat) (ck:Nat):Option (List (Value×Value×Nat)):=
 match r with
 |none=>some []
 |some r=>mapOf (s.h.get r) λ_ es ck'=>ab (Nat.beq ck ck') (some es) none
noncomputable def xk (ws:List Nat):T Value->Option (T Value):=List.rec (motive:= λ_=>T Value->Option (T Value)) (λt=>some t) (λw _ ih t=>ob (T.put none t w) ih) ws
noncomputable def oO (a:T Value):T Value->Bool:=
 T.rec (motive:= λ_=>T Value->Bool) (λ_=>true)
  (λv l r iq lv b=>match b with
   | .e=>match v with|none=>ab (iq .e) (lv .e) false|some _=>false
   | .n v' l' r'=>ab (match v with|none=>true|some v=>Bj v v') (ab (iq l') (lv r') false) false) a
structure bM where
 b0:Nat
 b1:Nat
 it:cu
 t9:Nat
 c:CF
 l2:List CI
 d2:Nat
 ws:List Nat
noncomputable def bO (m:bM) (ev:Ev) (e:Value×Value) (tm:T Value) (s:AS):Out:=
 Option.rec (motive:= λ_=>Out) .no (λaz=>iE m.b1 (gn (m.c ev) (i5 ev m.l2 sJ (.cons m.d2 (.tuple #[e.1,e.2]) .nil) az s))) (T.put (some (.bool true)) tm m.t9)
noncomputable def gY (m:bM) (tm:T Value) (s:AS):Out:=Option.rec (motive:= λ_=>Out) .no (λaz=> .code (.exit m.b0) az s) (T.put (some (.bool false)) tm m.t9)
noncomputable def jP (dL:T Value) (o:Out):Bool:=match o with| .code .normal tm _=>oO dL tm|_=>false
noncomputable def dm (m:bM) (ev:Ev) (tm:T Value) (s:AS) (es:List (Value×Value×Nat)):Option Out->Option (Option Out):=
 List.rec (motive:= λ_=>Option Out->Option (Option Out)) (λfound=>some found)
  (λe _ ih found=>
   match bO m ev (e.1,e.2.1) tm s with
   | .code .normal _ _=>ab (jP tm (bO m ev (e.1,e.2.1) tm ⟨s.h,s.nx,s.nx⟩)) (ih found) none
   | .code x az s1=>match found with|none=>ih (some (.code x az s1))|some _=>none
   |_=>none) es
noncomputable def bW (r:Value->Option Value) (l:List Value):Option (List Value):=
 List.rec (motive:= λ_=>Option (List Value)) (some []) (λv _ ih=>ob (r v) λv'=>ob ih λl'=>some (v'::l')) l
noncomputable def aV (φ:Nat->Option Nat) (n:Nat):Value->Option Value:=
 Nat.rec (motive:= λ_=>Value->Option Value) (λ_=>none) (λ_ ih v=>match v with
  | .bool b=>ab b (some (.bool true)) (some (.bool false))
  | .int k n=>gM k n
  | .string s=>some (.string s)
  | .complex k a b=>some (.complex k a b)
  | .pointer none=>some (.pointer none)
  | .pointer (some ⟨b,o,none⟩)=>ob (φ b) λb'=>ar o λo'=>some (.pointer (some ⟨b',o',none⟩))
  | .slice none 0 0=>some (.slice none 0 0)
  | .slice (some ⟨b,o,none⟩) m c=>ob (φ b) λb'=>ar o λo'=>ar m λm'=>ar c λc'=>some (.slice (some ⟨b',o',none⟩) m' c')
  | .map none=>some (.map none)
  | .map (some b)=>ob (φ b) λb'=>some (.map (some b'))
  | .func (.func f) a b=>ob (bW ih a.toList) λa'=>ob (bW ih b.toList) λb'=>some (.func (.func f) ⟨a'⟩ ⟨b'⟩)
  | .nilFunc=>some .nilFunc
  | .nilIface=>some .nilIface
  | .iface t x=>ob (ih x) λx'=>some (.iface t x')
  | .agg a=>ob (bW ih a.toList) λa'=>some (.agg ⟨a'⟩)
  | .tuple a=>ob (bW ih a.toList) λa'=>some (.tuple ⟨a'⟩)
  |_=>none) n
noncomputable def bE (l:List Nat):Bool:=List.rec (motive:= λ_=>Bool) true (λx t ih=>ab (List.rec (motive:= λ_=>Bool) false (λy _ i=>ab (Nat.beq x y) true i) t) false ih) l
noncomputable def oK (n:Nat) (l:List Nat):Bool:=List.rec (motive:= λ_=>Bool) true (λx _ ih=>ab (Nat.blt x n) ih false) l
noncomputable def ml (n:Nat) (l:List Nat):Bool:=List.rec (motive:= λ_=>Bool) true (λx _ ih=>ab (Nat.ble n x) ih false) l
noncomputable def Mo (a:T (List Value)):T (List Value)->Bool:=
 T.rec (motive:= λ_=>T (List Value)->Bool) (λb=>T.rec (motive:= λ_=>Bool) true (λ_ _ _ _ _=>false) b)
  (λv l r iq lv b=>T.rec (motive:= λ_=>Bool) false (λv' l' r' _ _=>ab (Option.rec (motive:= λ_=>Bool) (Option.rec (motive:= λ_=>Bool) true (λ_=>false) v') (λx=>Option.rec (motive:= λ_=>Bool) false (λy=>kA (ku 12) x y) v') v) (ab (iq l') (lv r') false) false) b) a
noncomputable def FL (a:List (Value×Value×Nat)):List (Value×Value×Nat)->Bool:=
 List.rec (motive:= λ_=>List (Value×Value×Nat)->Bool) (λb=>List.rec (motive:= λ_=>Bool) true (λ_ _ _=>false) b)
  (λp _ ih b=>List.rec (motive:= λ_=>Bool) false (λq b _=>ab (ku 12 p.1 q.1) (ab (ku 12 p.2.1 q.2.1) (ab (Nat.beq p.2.2 q.2.2) (ih b) false) false) false) b) a
noncomputable def xl (a b:Blk):Bool:=
 match a,b with
 | .cells c sz n ro et,.cells c' iX n' yS tz=>ab (Nat.beq sz iX) (ab (Nat.beq n n') (ab (Nat.beq et tz) (ab (ab ro yS (dz yS)) (Mo c c') false) false) false) false
 | .map kt es ck,.map sK bc ck'=>ab (Nat.beq kt sK) (ab (Nat.beq ck ck') (FL es bc) false) false
 |_,_=>false
noncomputable def yT (N:Nat) (π:List (Nat×Nat)) (a:Nat):Option Nat:=
 ab (Nat.blt a N) (ar a λa=>some a) (List.rec (motive:= λ_=>Option Nat) none (λp _ ih=>ab (Nat.beq p.1 a) (some p.2) ih) π)
abbrev cX:=List (Nat×Nat)
noncomputable def H9 (N a b:Nat) (l:cX):Option cX:=
 ab (Nat.blt a N) (some l) (List.rec (motive:= λ_=>Option cX) (ar a λa=>ar b λb=>some [(a,b)]) (λp t ih=>ab (Nat.beq p.1 a) (some (p::t)) (ob ih λr=>some (p::r))) l)
noncomputable def xm (f:Value->Value->cX->Option cX) (x:List Value):List Value->cX->Option cX:=
 List.rec (motive:= λ_=>List Value->cX->Option cX) (λ_ l=>some l) (λv _ ih y l=>List.rec (motive:= λ_=>Option cX) (some l) (λu t _=>ob (f v u l) λl=>ih t l) y) x
noncomputable def Ao (N n:Nat):Value->Value->cX->Option cX:=
 Nat.rec (motive:= λ_=>Value->Value->cX->Option cX) (λ_ _ _=>none) (λ_ ih x y l=>match x,y with
  | .pointer (some a),.pointer (some b)=>H9 N a.block b.block l
  | .slice (some a) _ _,.slice (some b) _ _=>H9 N a.block b.block l
  | .map (some a),.map (some b)=>H9 N a b l
  | .func _ a b,.func _ c d=>ob (xm ih a.toList c.toList l) λl=>xm ih b.toList d.toList l
  | .iface _ a,.iface _ b=>ih a b l
  | .agg a,.agg b=>xm ih a.toList b.toList l
  | .tuple a,.tuple b=>xm ih a.toList b.toList l
  |_,_=>some l) n
noncomputable def Lu (f:Value->Value->cX->Option cX) (x y:Option (List Value)) (l:cX):Option cX:=
 Option.rec (motive:= λ_=>Option cX) (some l) (λx=>Option.rec (motive:= λ_=>Option cX) (some l) (λy=>xm f x y l) y) x
noncomputable def Lv (f:Value->Value->cX->Option cX) (a:T (List Value)):T (List Value)->cX->Option cX:=
 T.rec (motive:= λ_=>T (List Value)->cX->Option cX) (λ_ l=>some l) (λv _ _ iq lv b l=>T.rec (motive:= λ_=>Option cX) (some l) (λv' l' r' _ _=>ob (Lu f v v' l) λl=>ob (iq l' l) λl=>lv r' l) b) a
noncomputable def Lw (f:Value->Value->cX->Option cX) (es bc:List an):cX->Option cX:=
 List.rec (motive:= λ_=>cX->Option cX) (λl=>some l) (λe _ ih l=>ob (oJ e.1 es) λo=>Option.rec (motive:= λ_=>Option cX) none (λp=>ob (f p.1 e.2.1 l) ih) o) bc
noncomputable def GY (f:Value->Value->cX->Option cX) (x y:Option Blk) (l:cX):Option cX:=match x,y with
 |some (.cells c _ _ _ _),some (.cells c' _ _ _ _)=>Lv f c c' l
 |some (.map _ es _),some (.map _ bc _)=>Lw f es bc l
 |_,_=>some l
noncomputable def GZ (f:Value->Value->cX->Option cX) (g h:T Blk) (n:Nat):Nat->cX->Option cX:=
 Nat.rec (motive:= λ_=>Nat->cX->Option cX) (λ_ l=>some l) (λ_ ih a l=>ob (GY f (g.get a) (h.get a) l) λl=>ih (Nat.succ a) l) n
noncomputable def On (i:Nat):cX->Option (Nat×Nat):=
 Nat.rec (motive:= λ_=>cX->Option (Nat×Nat)) (λl=>List.rec (motive:= λ_=>Option (Nat×Nat)) none (λx _ _=>some x) l)
  (λ_ ih l=>List.rec (motive:= λ_=>Option (Nat×Nat)) none (λ_ t _=>ih t) l) i
noncomputable def G0 (f:Value->Value->cX->Option cX) (g h:T Blk) (fuel:Nat):Nat->cX->Option cX:=
 Nat.rec (motive:= λ_=>Nat->cX->Option cX) (λ_ _=>none) (λ_ ih i l=>Option.rec (motive:= λ_=>Option cX) (some l) (λp=>ob (GY f (g.get p.1) (h.get p.2) l) λl=>ih (Nat.succ i) l) (On i l)) fuel
noncomputable def PR (φ:Nat->Option Nat) (x y:Option (List Value)):Bool:=
 Option.rec (motive:= λ_=>Bool) true (λy=>Option.rec (motive:= λ_=>Bool) false (λx=>Option.rec (motive:= λ_=>Bool) false (λx'=>kA (ku 12) x' y) (bW (aV φ 12) x)) x) y
noncomputable def Jr (φ:Nat->Option Nat) (c':T (List Value)):T (List Value)->Bool:=
 T.rec (motive:= λ_=>T (List Value)->Bool) (λ_=>true) (λv' _ _ iq lv c=>T.rec (motive:= λ_=>Bool) (ab (Option.rec (motive:= λ_=>Bool) true (λ_=>false) v') (ab (iq .e) (lv .e) false) false) (λv l r _ _=>ab (PR φ v v') (ab (iq l) (lv r) false) false) c) c'
noncomputable def xn (k:Value) (es:List an):Option (an×List an):=
 List.rec (motive:= λ_=>Option (an×List an)) none (λe t ih=>ab (ku 12 e.1 k) (some (e,t)) (ob ih λq=>some (q.1,e::q.2))) es
noncomputable def Ia (φ:Nat->Option Nat) (p q:an):Bool:=
 ab (Option.rec (motive:= λ_=>Bool) false (λv'=>ku 12 v' q.2.1) (aV φ 12 p.2.1)) (ab (Nat.beq q.2.2 0) true (Nat.beq p.2.2 q.2.2)) false
noncomputable def Dw (φ:Nat->Option Nat) (bc:List an):List an->Bool:=
 List.rec (motive:= λ_=>List an->Bool) (λes=>List.rec (motive:= λ_=>Bool) true (λ_ _ _=>false) es) (λe _ ih es=>Option.rec (motive:= λ_=>Bool) false (λq=>ab (Ia φ q.1 e) (ih q.2) false) (xn e.1 es)) bc
noncomputable def FM (φ:Nat->Option Nat) (x y:Blk):Bool:=match x,y with
 | .cells c sz n ro et,.cells c' iX n' yS tz=>ab (Nat.beq sz iX) (ab (Nat.beq n n') (ab (Nat.beq et tz) (ab (ab ro yS (dz yS)) (Jr φ c' c) false) false) false) false
 | .map kt es ck,.map sK bc ck'=>ab (Nat.beq kt sK) (ab (Nat.beq ck ck') (Dw φ bc es) false) false
 |_,_=>false
noncomputable def qd (φ:Nat->Option Nat) (x y:Option Blk):Bool:=Option.rec (motive:= λ_=>Bool) true (λy=>Option.rec (motive:= λ_=>Bool) false (λx=>FM φ x y) x) y
noncomputable def Ib (φ:Nat->Option Nat) (f g:T Blk) (n:Nat):Nat->Bool:=Nat.rec (motive:= λ_=>Nat->Bool) (λ_=>true) (λ_ ih a=>ab (qd φ (f.get a) (g.get a)) (ih (Nat.succ a)) false) n
noncomputable def Ic (φ:Nat->Option Nat) (f g:T Blk) (l:cX):Bool:=List.rec (motive:= λ_=>Bool) true (λp _ ih=>ab (qd φ (f.get p.1) (g.get p.2)) ih false) l
noncomputable def Bl (l:cX):List Nat:=List.rec (motive:= λ_=>List Nat) [] (λp _ ih=>p.1::ih) l
noncomputable def Bn (l:cX):List Nat:=List.rec (motive:= λ_=>List Nat) [] (λp _ ih=>p.2::ih) l
noncomputable def hX (v:Value):Nat:=Value.rec (motive_1:= λ_=>Nat) (motive_2:= λ_=>Nat) (motive_3:= λ_=>Nat) (λb=>ab b 2 1) (λ_ n=>hI n) (λ_ _=>0) (λ_ _ _=>0) (λs=>hB s.data.toList) (λa=>Option.rec (motive:= λ_=>Nat) 3 (λa=>Nat.add (Nat.mul a.block 7) a.off) a) (λa n _=>Option.rec (motive:= λ_=>Nat) 4 (λa=>Nat.add (Nat.mul a.block 7) (Nat.add a.off (Nat.mul n 31))) a) (λa=>Option.rec (motive:= λ_=>Nat) 5 (λa=>Nat.mul a 11) a) (λ_=>0) (λ_ _ _ _ _=>0) 0 (λ_ _ n=>n) 0 (λ_ n=>n) (λ_ n=>n) (λ_ n=>n) 0 (λ_ _ a b=>Nat.add (Nat.mul b 1009) a) v
noncomputable def QM (l:List Value):Nat:=List.rec (motive:= λ_=>Nat) 7 (λv _ ih=>Nat.add (Nat.mul ih 1009) (hX v)) l
noncomputable def QN (c:T (List Value)):Nat:=T.rec (motive:= λ_=>Nat) 0 (λv _ _ a b=>Nat.add (Option.rec (motive:= λ_=>Nat) 0 (λl=>QM l) v) (Nat.add (Nat.mul a 3) (Nat.mul b 5))) c
noncomputable def PS (es:List an):Nat:=List.rec (motive:= λ_=>Nat) 1 (λe _ ih=>Nat.add ih (Nat.add (Nat.mul (Nat.succ (hX e.1)) (Nat.add (hX e.2.1) 17)) 1)) es
noncomputable def Hv (b:Option Blk):Nat:=match b with|some (.cells c _ _ _ _)=>QN c|some (.map _ es _)=>PS es|some (.pmap _ es _)=>PS es|_=>0
noncomputable def Ap (f h:T Blk) (l:List Nat):Bool:=List.rec (motive:= λ_=>Bool) true (λa _ ih=>ab (Nat.beq (Hv (f.get a)) (Hv (h.get a))) false ih) l
noncomputable def Dx (x y:Option Blk):Bool:=Option.rec (motive:= λ_=>Bool) (Option.rec (motive:= λ_=>Bool) true (λ_=>false) y) (λx=>Option.rec (motive:= λ_=>Bool) false (λy=>xl x y) y) x
noncomputable def yO (h g:T Blk) (n:Nat):Nat->Option (List Nat):=Nat.rec (motive:= λ_=>Nat->Option (List Nat)) (λ_=>some []) (λ_ ih a=>ob (ih (Nat.succ a)) λl=>ab (Dx (h.get a) (g.get a)) (some l) (ar a λa=>some (a::l))) n
noncomputable def tJ (N L n u6:Nat) (h f g:T Blk) (ch:List Nat) (π:cX):Bool:=
 ab (bE (Bl π)) (ab (bE (Bn π)) (ab (ml N (Bl π)) (ab (ml N (Bn π)) (ab (oK u6 (Bn π)) (ab (Ap f h ch) (ab (Ib (yT N π) f g n L) (Ic (yT N π) f g π) false) false) false) false) false) false) false
noncomputable def CG (N L n u6:Nat) (h g:T Blk) (ch:List Nat) (s:AS):Bool:=
 Option.rec (motive:= λ_=>Bool) false (λπ=>tJ N L n u6 h s.h g ch π) (ob (GZ (Ao N 12) s.h g n L []) λl=>G0 (Ao N 12) s.h g 1000 0 l)
noncomputable def ic (m:bM) (ev:Ev) (tm:T Value) (e:an) (s:AS):Option AS:=
 match bO m ev (e.1,e.2.1) tm s with
 | .code .normal tm' s'=>ab (oO tm tm') (some s') none
 |_=>none
noncomputable def eN (m:bM) (ev:Ev) (tm:T Value) (s:AS) (p:an):Bool:=jP tm (bO m ev (p.1,p.2.1) tm ⟨s.h,s.nx,s.nx⟩)
noncomputable def G1 (e:an) (l:List (an×List an)):List (an×List an):=List.rec (motive:= λ_=>List (an×List an)) [] (λq _ ih=>(q.1,e::q.2)::ih) l
noncomputable def Dy (l:List an):List (an×List an):=List.rec (motive:= λ_=>List (an×List an)) [] (λe t ih=>(e,t)::G1 e ih) l
noncomputable def oP {α:Type} (f:α->Bool) (l:List α):Bool:=List.rec (motive:= λ_=>Bool) true (λx _ ih=>ab (f x) ih false) l
noncomputable def Js (m:bM) (ev:Ev) (tm:T Value) (N:List an) (leaf:AS->Bool) (n:Nat):List an->AS->Bool:=
 Nat.rec (motive:= λ_=>List an->AS->Bool) (λ_ s=>ab (oP (eN m ev tm s) N) (leaf s) false)
  (λ_ ih W s=>ab (oP (eN m ev tm s) N) (oP (λq=>Option.rec (motive:= λ_=>Bool) false (λs'=>ih q.2 s') (ic m ev tm q.1 s)) (Dy W)) false) n
noncomputable def I4 (m:bM) (ev:Ev) (tm:T Value) (W:List an):AS->Option AS:=List.rec (motive:= λ_=>AS->Option AS) (λs=>some s) (λe _ ih s=>ob (ic m ev tm e s) ih) W
noncomputable def ql (l:List Nat):AS->Option AS:=List.rec (motive:= λ_=>AS->Option AS) (λs=>some s) (λa _ ih s=>ob (s.set a none) ih) l
noncomputable def Ie (b:Option Blk):Bool:=match b with|some (.cells ..)=>false|some (.map ..)=>false|none=>false|some _=>true
noncomputable def Bp (h:T Blk) (n:Nat):Nat->Option (List Nat):=Nat.rec (motive:= λ_=>Nat->Option (List Nat)) (λ_=>some []) (λ_ ih a=>ob (ih (Nat.succ a)) λl=>ab (Ie (h.get a)) (ar a λa=>some (a::l)) (some l)) n
noncomputable def mo (h0:T Blk) (l:List Nat):T Blk->Option (T Blk):=List.rec (motive:= λ_=>T Blk->Option (T Blk)) (λh=>some h) (λa _ ih h=>ob (Option.rec (motive:= λ_=>Option (T Blk)) (T.put none h a) (λk=>T.put (some k) h a) (h0.get a)) ih) l
noncomputable def Lx (ck:Nat) (es:List an):Option (List an):=List.rec (motive:= λ_=>Option (List an)) (some []) (λe _ ih=>ob ih λr=>ab (Nat.ble e.2.2 ck) (some (e::r)) (some ((e.1,e.2.1,0)::r))) es
noncomputable def G2 (x y:Option Blk):Option (Option Blk):=match x,y with
 |some (.map _ _ PT),some (.map kt es ck)=>ab (Nat.beq ck PT) (some (some (.map kt es ck))) (ob (Lx PT es) λbc=>some (some (.map kt bc ck)))
 |_,y=>some y
noncomputable def FN (h0 f:T Blk) (n:Nat):Nat->T Blk->Option (T Blk):=Nat.rec (motive:= λ_=>Nat->T Blk->Option (T Blk)) (λ_ h=>some h) (λ_ ih a h=>ob (G2 (h0.get a) (f.get a)) λb=>ob (Option.rec (motive:= λ_=>Option (T Blk)) (T.put none h a) (λk=>T.put (some k) h a) b) λh'=>ih (Nat.succ a) h') n
noncomputable def nM (f:an->Bool) (es:List an):Option (List an×List an):=List.rec (motive:= λ_=>Option (List an×List an)) (some ([],[])) (λe _ ih=>ob ih λq=>ab (f e) (some (e::q.1,q.2)) (some (q.1,e::q.2))) es
noncomputable def tK (m:bM) (ev:Ev) (tm:T Value) (s1:AS) (mb:Nat) (es:List an) (L:Nat):Option AS:=
 ab (ab (Nat.ble s1.ao L) (Nat.ble L s1.nx) false) (ar (Nat.sub s1.nx L) λn=>ob (Bp s1.h n L) λod=>ob (ql (mb::od) s1) λs2=>
  ob (nM (eN m ev tm ⟨s2.h,s2.nx,L⟩) es) λq=>ob (I4 m ev tm q.2 ⟨s2.h,s2.nx,L⟩) λf1=>ob (FN s2.h f1.h (Nat.sub f1.nx L) L s2.h) λg=>ob (yO s2.h g n L) λch=>
   ab (Nat.ble s1.nx f1.nx) (ab (Js m ev tm q.1 (CG s1.nx L n f1.nx s2.h g ch) (len q.2) q.2 ⟨s2.h,s2.nx,L⟩)
    (ob (mo s1.h (mb::od) g) λh=>ar f1.nx λnx=>ar s1.ao λlm=>some ⟨h,nx,lm⟩) none) none) none
structure WD where
 e:an
 i:Nat
 k:Value
 v:Value
 v':Value
 n:Nat
 own:List Nat
 S:AS
 R:AS
noncomputable def memN (a:Nat) (l:List Nat):Bool:=List.rec (motive:= λ_=>Bool) false (λx _ ih=>ab (Nat.beq x a) true ih) l
noncomputable def CH (l m:List Nat):Bool:=List.rec (motive:= λ_=>Bool) true (λx _ ih=>ab (memN x m) ih false) l
noncomputable def Dz (a:Nat) (l:List Nat):List Nat:=List.rec (motive:= λ_=>List Nat) [] (λx _ ih=>ab (Nat.beq x a) ih (x::ih)) l
noncomputable def Gf (l m:List Nat):Option Nat:=List.rec (motive:= λ_=>Option Nat) none (λx _ ih=>ab (memN x m) (ar x λx=>some x) ih) l
noncomputable def Ly (es:List an):List an->Nat->Option (Nat×an):=
 List.rec (motive:= λ_=>List an->Nat->Option (Nat×an)) (λ_ _=>none) (λp _ ih fs i=>List.rec (motive:= λ_=>Option (Nat×an)) none (λq fs _=>ab (ku 12 p.2.1 q.2.1) (ih fs (Nat.succ i)) (ar i λi=>some (i,p))) fs) es
noncomputable def Lz (m:bM) (ev:Ev) (tm:T Value) (s2:AS) (n L:Nat) (W:List an):Option (List (an×List Nat×AS)):=
 List.rec (motive:= λ_=>Option (List (an×List Nat×AS))) (some []) (λe _ ih=>ob (ic m ev tm e s2) λs'=>ob (yO s2.h s'.h n L) λch=>ob ih λr=>some ((e,ch,s')::r)) W
noncomputable def vk (m:Nat) (l:List (an×List Nat×AS)):List Nat:=List.rec (motive:= λ_=>List Nat) [] (λp _ ih=>app (Dz m p.2.1) ih) l
noncomputable def Oo (R:AS) (m:Nat):Option Value:=match R.h.get m with|some (.pmap _ [(_,v',_)] _)=>some v'|_=>none
noncomputable def CJ (m:bM) (ev:Ev) (tm:T Value) (h2:T Blk) (sB:AS) (mm kt ck:Nat) (es:List an) (p:an×List Nat×AS):Option WD:=
 ob (mapOf (p.2.2.h.get mm) λ_ fs _=>Ly es fs 0) λq=>ob (mo h2 (Dz mm p.2.1) sB.h) λh=>ob (T.put (some (.pmap kt [q.2] ck)) h mm) λh=>ob (ic m ev tm p.1 ⟨h,sB.nx,sB.ao⟩) λR=>ob (Oo R mm) λv'=>some ⟨p.1,q.1,q.2.1,q.2.2.1,v',q.2.2.2,Dz mm p.2.1,⟨h,sB.nx,sB.ao⟩,R⟩
noncomputable def Aq (m:bM) (ev:Ev) (tm:T Value) (h2:T Blk) (sB:AS) (mm kt ck:Nat) (es:List an) (l:List (an×List Nat×AS)):Option (List WD):=
 List.rec (motive:= λ_=>Option (List WD)) (some []) (λp _ ih=>ob (CJ m ev tm h2 sB mm kt ck es p) λd=>ob ih λr=>some (d::r)) l
noncomputable def ig (b:Option Blk):Bool:=match b with|some (.cells _ _ _ false _)=>true|some (.map ..)=>true|_=>false
noncomputable def DA (N:Nat) (h2 g:T Blk) (l:List Nat):Bool:=List.rec (motive:= λ_=>Bool) true (λa _ ih=>ab (ab (ig (h2.get a)) (ab (ig (g.get a)) (qd (yT N []) (g.get a) (g.get a)) false) false) ih false) l
noncomputable def FO (kt ck:Nat) (k v:Value) (n:Nat) (b:Option Blk):Bool:=match b with
 |some (.pmap sK [(k',v',n')] ck')=>ab (Nat.beq kt sK) (ab (Nat.beq ck ck') (ab (ku 12 k k') (ab (ku 12 v v') (Nat.beq n n') false) false) false) false
 |_=>false
noncomputable def G3 (es:List an) (i:Nat) (k v:Value) (n:Nat):Bool:=Option.rec (motive:= λ_=>Bool) false (λp=>ab (ku 12 p.1 k) (ab (ku 12 p.2.1 v) (Nat.beq p.2.2 n) false) false) (Nat.rec (motive:= λ_=>List an->Option an) (λl=>List.rec (motive:= λ_=>Option an) none (λx _ _=>some x) l)
 (λ_ ih l=>List.rec (motive:= λ_=>Option an) none (λ_ t _=>ih t) l) i es)
noncomputable def Bq (m:bM) (ev:Ev) (tm:T Value) (N n L:Nat) (h2:T Blk) (sB:AS) (mm kt ck:Nat) (es:List an) (d:WD):Bool:=
 ab (G3 es d.i d.k d.v d.n) (ab (FO kt ck d.k d.v d.n (d.S.h.get mm)) (ab (FO kt ck d.k d.v' d.n (d.R.h.get mm))
  (ab (Option.rec (motive:= λ_=>Bool) false (λu=>ku 12 u d.v') (aV (yT N []) 12 d.v'))
  (ab (DA N h2 d.R.h d.own) (ab (Ap d.R.h d.S.h (mm::d.own)) (Option.rec (motive:= λ_=>Bool) false (λch=>CH ch (mm::d.own)) (yO d.S.h d.R.h n L)) false) false) false) false) false) false
noncomputable def CK (l:List WD):List Nat:=List.rec (motive:= λ_=>List Nat) [] (λd _ ih=>d.i::ih) l
noncomputable def bV (l:List WD):List Nat:=List.rec (motive:= λ_=>List Nat) [] (λd _ ih=>app d.own ih) l
noncomputable def findD (l:List WD) (i:Nat):Option an:=List.rec (motive:= λ_=>Option an) none (λd _ ih=>ab (Nat.beq d.i i) (some (d.k,d.v',d.n)) ih) l
noncomputable def CL (l:List WD) (es:List an):Nat->Option (List an):=List.rec (motive:= λ_=>Nat->Option (List an)) (λ_=>some []) (λp _ ih i=>ob (ih (Nat.succ i)) λr=>Option.rec (motive:= λ_=>Option (List an)) (some (p::r)) (λq=>some (q::r)) (findD l i)) es
noncomputable def FP (l:List WD):T Blk->Option (T Blk):=List.rec (motive:= λ_=>T Blk->Option (T Blk)) (λh=>some h) (λd _ ih h=>ob (mo d.R.h d.own h) ih) l
noncomputable def qm (l:List WD):List an:=List.rec (motive:= λ_=>List an) [] (λd _ ih=>d.e::ih) l
noncomputable def I5 (a:List an):List an->Bool:= λb=>FL a b
noncomputable def tL (m:bM) (ev:Ev) (tm:T Value) (s1:AS) (mb:Nat) (es:List an) (L:Nat):Option AS:=
 ab (ab (Nat.ble s1.ao L) (Nat.ble L s1.nx) false) (ar (Nat.sub s1.nx L) λn=>ob (Bp s1.h n L) λod=>ob (ql (mb::od) s1) λs2=>
  ob (nM (eN m ev tm ⟨s2.h,s2.nx,L⟩) es) λq=>ob (Lz m ev tm ⟨s2.h,s2.nx,L⟩ n L q.2) λfs=>
   ob (match fs with|a::b::_=>Gf a.2.1 b.2.1|_=>none) λmm=>mapOf (s2.h.get mm) λkt me ck=>
    ob (ql (mm::vk mm fs) ⟨s2.h,s2.nx,s1.ao⟩) λFl=>(λsB=>ob (Aq m ev tm s2.h sB mm kt ck me fs) λws=>ob (CL ws me 0) λGA=>
     ab (ab (bE (CK ws)) (ab (bE (mm::bV ws)) (ab (I5 (qm ws) q.2) (ab (ab (CH (vk mm fs) (bV ws)) (CH (bV ws) (vk mm fs)) false) (ab (ml L (mm::bV ws)) (oK s1.nx (mm::bV ws)) false) false) false) false) false)
      (ab (oP (Bq m ev tm s1.nx n L s2.h sB mm kt ck me) ws) (ab (oP (eN m ev tm sB) q.1)
       (ob (FP ws s2.h) λh=>ob (T.put (some (.map kt GA ck)) h mm) λh=>ob (mo s1.h (mb::od) h) λh=>ar s1.nx λnx=>ar s1.ao λlm=>some ⟨h,nx,lm⟩) none) none) none) ⟨Fl.h,Fl.nx,L⟩) none
noncomputable def Jt (a b:Option AS):Option AS:=Option.rec (motive:= λ_=>Option AS) b (λs=>some s) a
noncomputable def nN (m:bM) (ev:Ev) (tm:T Value) (s1:AS) (mb:Nat) (es:List an) (ks:List Nat):Option AS:=
 List.rec (motive:= λ_=>Option AS) none (λk _ ih=>Jt (ar (Nat.max s1.ao (Nat.sub s1.nx k)) λL=>tK m ev tm s1 mb es L) ih) ks
noncomputable def nO (m:bM) (ev:Ev) (tm:T Value) (s1:AS) (mb:Nat) (es:List an) (ks:List Nat):Option AS:=
 List.rec (motive:= λ_=>Option AS) none (λk _ ih=>Jt (ar (Nat.max s1.ao (Nat.sub s1.nx k)) λL=>tL m ev tm s1 mb es L) ih) ks
noncomputable def KS (m:bM) (ev:Ev) (tm:T Value) (s1:AS) (r:Option Nat) (es:List an):Out:=
 Option.rec (motive:= λ_=>Out) .no (λmb=>Option.rec (motive:= λ_=>Out) .no (λs2=>gY m tm s2) (Jt (nO m ev tm s1 mb es [256,1024,4096]) (nN m ev tm s1 mb es [64,256,1024,2048,4096,16384,1000000]))) r
noncomputable def mD (m:bM) (ev:Ev) (tm:T Value) (s1:AS) (r:Option Nat) (es:List an) (o:Option (Option Out)):Out:=
 Option.rec (motive:= λ_=>Out) (KS m ev tm s1 r es) (λo=>Option.rec (motive:= λ_=>Out) (gY m tm s1) (λo=>o) o) o
noncomputable def En (m:bM):CF:= λev tm s=>
 Option.rec (motive:= λ_=>Out) .no (λdL=>match m.it .nil dL with
  |some (.pointer (some ⟨ib,0,none⟩))=>kK (s.h.get ib) λr ck=>Option.rec (motive:= λ_=>Out) .no (λes=>Option.rec (motive:= λ_=>Out) .no (λs1=>mD m ev dL s1 r es (dm m ev dL s1 es none)) (s.set ib none)) (qv s r ck)
  |_=> .no) (xk m.ws tm)
noncomputable def AR (c:Code):List Nat:=
 Code.rec (motive:= λ_=>List Nat) [] (λ_ ops _=>ops.toList.filterMap λo=>o.dst) (λ_ _ a b=>app a b) (λ_ _ _ a b=>app a b) (λ_ _ a=>a) (λ_ a=>a) (λ_ _ _ _ _ _=> []) (λ_=> []) (λ_ a=>a) (λ_=> []) (λ_=> []) [] (λ_=> []) c
noncomputable def D5 (aa:Nat) (l:List Nat):List Nat:=l.filter λt=>kept aa t
noncomputable def mE (c:Code) (tm:T Value) (s:AS):Out:=
 match c with
 | .ret=> .code .ret tm s
 | .exit id=> .code (.exit id) tm s
 |_=> .no
noncomputable def jJ (b:Option Blk) (k:LoopState->Option Code->Nat->Nat->Nat->T Value->List Tmp->Code->Code->Out):Out:=
 Option.rec (motive:= λ_=>Out) .no (λb=>Blk.rec (motive:= λ_=>Out) (λ_ _ _ _ _=> .no) (λ_ _ _=> .no) (λ_ _=> .no) (λ_ _=> .no) k (λ_ _ _=> .no) b) b
noncomputable def ez (s:AS) (i:Nat) (b:Blk) (k:AS->Out):Out:=Option.rec (motive:= λ_=>Out) .no k (s.set i (some b))
noncomputable def kL (l:Nat) (tm:T Value) (o:Out):Out:=
 Out.rec (motive:= λ_=>Out) .no (λ_ _ _=> .no) (λ_ s2=>jJ (s2.h.get l) λst fB fn' Nc Nd tm' AF Nf Ng=>
  match st with
  | .busy=> .no
  |_=>ez s2 l (.loop .exhausted fB fn' Nc Nd tm' AF Nf Ng) λs3=>match fB with
   |none=> .code .normal tm s3
   |some c=>mE c tm s3) o
noncomputable def kE (P:Program) (v:Value):Bool:=
 match v with
 | .func (.func f) _ _=>(match P.funcs[f]? with|some fn=>(match fn.body with|some _=>true|none=>false)|none=>false)
 |_=>false
noncomputable def lG (P:Program) (fn nt aa:Nat) (f:cu) (ps:List Tmp) (assign body:Code):CF:= λev tm s=>
 Option.rec (motive:= λ_=>Out) .no (λfv=>ab (kE P fv) (Option.rec (motive:= λ_=>Out) .no
  (λs1=>kL s.nx tm (ev fv [.func (.yield s.nx) #[] #[]] s1)) (s.new (.loop .ready none fn nt aa tm ps assign body))) .no) (f .nil tm)
structure vm where
 it:Nat
 t9:Nat
 b0:Nat
 b1:Nat
 d1:Nat
 d2:Nat
 r2:List Oper
 t2:List Oper
 body:Code
noncomputable def D6 (l:List Oper):Option (Nat×Nat×Nat):=
 match l with
 | [o,p]=>(match o.guard,o.dst,o.op,p.guard,p.dst,p.op with|none,some d,.next (.tmp it) false,none,some t9,.extract (.tmp d') 0=>ab (Nat.beq d d') (some (d,it,t9)) none|_,_,_,_,_,_=>none)
 |_=>none
noncomputable def AU (l:List Oper):Option (Nat×Nat×List Oper):=
 match l with
 |o::t=>(match o.guard,o.dst,o.op with|none,some d,.entry (.tmp it)=>some (d,it,t)|_,_,_=>none)
 | []=>none
noncomputable def jQ (c:Code):Option vm:=
 match c with
 | .seq (.region _ r1 false) (.seq (.cond (.tmp t) .skip (.exit b0)) (.block b1 (.seq (.region _ r2 false) body)))=>
   (match D6 r1.toList,AU r2.toList with
   |some (d1,it,t9),some (d2,PU,t2)=>ab (Nat.beq it PU) (ab (Nat.beq t t9) (some ⟨it,t9,b0,b1,d1,d2,r2.toList,t2,body⟩) none) none
   |_,_=>none)
 |_=>none
noncomputable def kM (P:Program) (nt aa:Nat) (k:Code->Option CF) (ws:List Nat) (m:vm):Option CF:=
 ab (ab (kept aa m.d1) true (kept aa m.d2)) none (ab (ab (Nat.blt m.d1 nt) (ab (Nat.blt m.d2 nt) (ab (Nat.blt m.t9 nt) (ab (kept aa m.t9) (ab (kept aa m.it) (dz (Nat.beq m.it m.t9)) false) false) false) false) false)
  (ob (dD P aa nt m.r2 m.t2 []) λl2=>ob (k m.body) λc=>some (En ⟨m.b0,m.b1,JR m.it,m.t9,c,l2,m.d2,D5 aa ws⟩)) none)
noncomputable def Ig (a b:Option CF):Option CF:=match a with|some f=>some f|none=>b
noncomputable def Ih (o:Option CF):Option CF:=match o with|some f=>some f|none=>some (λ_ _ _=> .no)
noncomputable def fm (P:Program) (fn nt aa:Nat) (n:Nat):Code->Option CF:=
 Nat.rec (motive:= λ_=>Code->Option CF) (λ_=>none) (λ_ k c=>
  Code.rec (motive:= λ_=>Option CF)
   (some (sI .normal)) (λ_ ops draw=>Ih (ab draw (Ig (qs P aa nt ops.toList λst last=>some (tI st last)) (mC P aa nt ops.toList)) (ob (dD P aa nt ops.toList ops.toList []) An)))
   (λa b _ _=>ob (k a) λa=>ob (k b) λb=>some (CE a b))
   (λc a b _ _=>ob (bz aa [] c) λc=>ob (k a) λa=>ob (k b) λb=>some (xj c a b))
   (λid a _=>ob (k a) λa=>some (qt id a))
   (λa _=>match jQ a with
    |some m=>kM P nt aa k (AR a) m
    |none=>ob (k a) λa=>some (Dv a))
   (λf ps I2 bd _ _=>ob (bz aa [] f) λf=>ab (sG (λp=>Nat.blt p nt) ps.toList) (some (lG P fn nt aa f ps.toList I2 bd)) none)
   (λid=>some (sI (.exit id))) (λa _=>ob (k a) λa=>some (qu a)) (λ_=>some (sI .normal)) (λl=>some (sI (.goto l))) (some (sI .ret)) (λ_=>some (λ_ _ _=> .no)) c) n
noncomputable def dv (P:Program) (fn nt aa:Nat) (c:Code):Option CF:=fm P fn nt aa 1000 c
noncomputable def mQ (c:Nat) (l:List UInt8):Nat->Int:=List.rec (motive:= λ_=>Nat->Int) (λ_=> .negSucc 0) (λb _ ih i=>ab (Nat.beq b.toNat c) (.ofNat i) (ih (Nat.succ i))) l
noncomputable def gN (o:Option (Value×AS)):Out:=Option.rec (motive:= λ_=>Out) .no (λp=> .val p.1 p.2) o
noncomputable def tX (c:T (List Value)) (i:Nat):Bool:=Option.rec (motive:= λ_=>Bool) false (λl=>List.rec (motive:= λ_=>Bool) false (λ_ _ _=>true) l) (c.get i)
noncomputable def D7 (h:T Blk) (et a b o:Nat):Bool:=
 match h.get a,h.get b with
 |some (.cells _ _ _ false e),some (.cells c sz _ false _)=>ab (Nat.beq e et) (ab (Nat.beq sz 1) (tX c o) false) false
 |_,_=>false
noncomputable def Br (s:AS) (e:Ext) (l:List Value):Option (Value×AS):=
 match e,l with
 | .same,[x]=>some (x,s)
 | .cmp,[.string a,.string b]=>some (.int .i64 (ab (Co a.data.toList b.data.toList) (.negSucc 0) (ab (Cn a.data.toList b.data.toList) (.ofNat 0) (.ofNat 1))),s)
 | .makeNoZero et,[.int .i64 (.ofNat n)]=>ab (Nat.ble n 1000000) (ob (uN [.complex .f32 0 0] n) λels=>gf s et 1 els n) none
 | .overlaps et,[.slice (some ⟨a,_,none⟩) n _,.slice (some ⟨b,o,none⟩) m _]=>ab (ab (Nat.beq a b) true (ab (Nat.beq n 0) true (Nat.beq m 0))) none (ab (D7 s.h et a b o) (some (.bool false,s)) none)
 | .indexByteString,[.string a,.int .u8 c]=>ob (jv c) λc=>ab (Nat.blt c 256) (ob (gM .i64 (mQ c a.data.toList 0)) λv=>some (v,s)) none
 |_,_=>none
noncomputable def zk (es:List (Value×Value×Nat)):List (Value×Value×Nat)->Option (List (Value×Value×Nat)):=
 List.rec (motive:= λ_=>List (Value×Value×Nat)->Option (List (Value×Value×Nat))) (λd=>some d) (λe _ ih d=>ob (uM e.1 e.2.1 0 d) ih) es
noncomputable def CM (x:Int) (l:List Int):List Int:=List.rec (motive:= λ_=>List Int) [x] (λy l ih=>ab (u3 y x) (y::ih) (x::y::l)) l
noncomputable def oL (l:List Int):List Int:=List.rec (motive:= λ_=>List Int) [] (λx _ ih=>CM x ih) l
noncomputable def Ju (n:Int):Bool:=Int.rec (motive:= λ_=>Bool) (λm=>Nat.blt m 9223372036854775808) (λm=>Nat.blt m 9223372036854775808) n
noncomputable def Ar (es:List (Value×Value×Nat)):Option (List Int):=
 List.rec (motive:= λ_=>Option (List Int)) (some []) (λe _ ih=>match e.1 with| .int k n=>ab (ab (sd k .i64) (Ju n) false) (ob ih λl=>some (n::l)) none|_=>none) es
noncomputable def qw (l:List Int):List (List Value):=List.rec (motive:= λ_=>List (List Value)) [] (λn _ ih=> [.int .i64 n]::ih) l
noncomputable def sortedA (s:AS) (et:TypeId) (es:List (Value×Value×Nat)):Option (Value×AS):=
 match es with
 | []=>some (.slice none 0 0,s)
 |e::es=>ab (Nat.ble (len (e::es)) 1000000) (ob (Ar (e::es)) λl=>gf s et 1 (qw (oL l)) (len (e::es))) none
noncomputable def gS (s:AS) (e:Sum) (l:List Value):Option (Value×AS):=
 match e,l with
 | .copy _,[.map (some _),.map none]=>some (.tuple #[],s)
 | .copy sK,[.map (some d),.map (some r)]=>ab (Nat.beq d r) none (mapOf (s.h.get r) λkt es _=>ab (Nat.beq kt sK) (mapOf (s.h.get d) λkt bc ck=>ab (Nat.beq kt sK) (ob (zk es bc) λfk=>ar (Nat.add ck (Nat.sub (len fk) (len bc))) λck'=>ob (s.set d (some (.map kt fk ck'))) λs'=>some (.tuple #[],s')) none) none)
 | .sorted g et kt,[.func (.func f) a b]=>ab (Nat.beq f g) (match a.toList,b.toList with
   | [],[.pointer (some ⟨p,0,none⟩)]=>ob (tD s p 0 1) λv=>(match v with
    | [.map none]=>some (.slice none 0 0,s)
    | [.map (some r)]=>mapOf (s.h.get r) λsK es _=>ab (Nat.beq sK kt) (sortedA s et es) none
    |_=>none)
   |_,_=>none) none
 | .Am _ _,[.nilIface,_]=>some (.bool false,s)
 | .Am te tp,[.iface t (.pointer (some e)),.iface u (.pointer (some a))]=>ab (Nat.beq t te) (ab (Nat.beq u tp) (ob (hU s a.block a.off [.pointer (some e)]) λs'=>some (.bool true,s')) none) none
 |_,_=>none
noncomputable def PV (a b:Option (Value×AS)):Option (Value×AS):=Option.rec (motive:= λ_=>Option (Value×AS)) b (λp=>some p) a
noncomputable def uP (s:AS) (e:Sum) (l:List Value):Option (Value×AS):=Sum.rec (motive:= λ_=>Option (Value×AS)) (λk=>gS s (.copy k) l) (λg t k=>gS s (.sorted g t k) l) (λt u=>gS s (.Am t u) l) (λ_ _ _ _=>none) (λa _ _ ih=>PV (gS s a l) ih) e
noncomputable def pT (f:Nat) (l:List (Nat×Sum)):Option Sum:=List.rec (motive:= λ_=>Option Sum) none (λp _ ih=>ab (Nat.beq f p.1) (some p.2) ih) l
noncomputable def pU (f:Nat) (l:List (Nat×Ext)):Option Ext:=List.rec (motive:= λ_=>Option Ext) none (λp _ ih=>ab (Nat.beq f p.1) (some p.2) ih) l
noncomputable def mF (aa i:Nat) (v:Value) (t:T Value):Option (T Value):=ab (kept aa i) (T.put (some v) t i) (some t)
noncomputable def mG (aa:Nat) (l:List Value):Nat->T Value->Option (T Value):=
 List.rec (motive:= λ_=>Nat->T Value->Option (T Value)) (λ_ t=>some t) (λv _ ih i t=>ob (mF aa i v t) λt'=>ih (Nat.succ i) t') l
noncomputable def vM (P:Program) (s:AS) (tm:T Value) (r:ResultVar):Option Value:=
 match r with
 | .tmp t=>tm.get t
 | .cell a t=>ob (tm.get a) λa=>tG P t s a
noncomputable def jR (P:Program) (s:AS) (tm:T Value) (l:List ResultVar):Option (List Value):=
 List.rec (motive:= λ_=>Option (List Value)) (some []) (λr _ ih=>ob (vM P s tm r) λv=>ob ih λl=>some (v::l)) l
noncomputable def iK (aa:Nat) (ps:List Tmp):List Value->T Value->Option (T Value):=
 List.rec (motive:= λ_=>List Value->T Value->Option (T Value)) (λl t=>match l with| []=>some t|_=>none) (λp _ ih l t=>match l with|v::l=>ob (mF aa p v t) λt'=>ih l t'| []=>none) ps
noncomputable def vn (P:Program) (rs:List ResultVar) (tm:T Value) (s:AS):Out:=
 Option.rec (motive:= λ_=>Out) .no (λvs=>match vs with
  | [v]=> .val v s
  |vs=> .val (.tuple ⟨vs⟩) s) (jR P s tm rs)
noncomputable def nY (P:Program) (rs:List ResultVar) (o:Out):Out:=
 Out.rec (motive:= λ_=>Out) .no (λx tm s=>bY.rec (motive:= λ_=>Out) (vn P rs tm s) (λ_=> .no) (λ_=> .no) (vn P rs tm s) x) (λ_ _=> .no) o
abbrev FF:=Ev->List Value->AS->Out
noncomputable def JT (P:Program) (aa:Nat) (t0:T Value) (rs:List ResultVar) (b:CF):FF:= λev args s=>Option.rec (motive:= λ_=>Out) .no (λtm=>nY P rs (b ev tm s)) (mG aa args 0 t0)
noncomputable def uQ (a:T Blk):T Blk->Bool:=
 T.rec (motive:= λ_=>T Blk->Bool) (λ_=>true)
  (λv l r iq lv b=>T.rec (motive:= λ_=>Bool) (ab (Option.rec (motive:= λ_=>Bool) true (λ_=>false) v) (ab (iq .e) (lv .e) false) false)
   (λv' l' r' _ _=>ab (Option.rec (motive:= λ_=>Bool) true (λk=>Option.rec (motive:= λ_=>Bool) false (λk'=>xl k k') v') v) (ab (iq l') (lv r') false) false) b) a
noncomputable def CN (a:T Blk):Bool:=T.rec (motive:= λ_=>Bool) true (λv _ _ iq lv=>ab (Option.rec (motive:= λ_=>Bool) true (λk=>match k with| .cells _ _ _ ro _=>dz ro| .map .. =>true|_=>false) v) (ab iq lv false) false) a
noncomputable def jy (a:T Blk):T Blk->T Blk:=
 T.rec (motive:= λ_=>T Blk->T Blk) (λh=>h) (λv _ _ iq lv h=>T.rec (motive:= λ_=>T Blk) .e (λv' l' r' _ _=> .n (Option.rec (motive:= λ_=>Option Blk) v' (λ_=>none) v) (iq l') (lv r')) h) a
noncomputable def gT (a:T Blk):T Blk->T Blk:=
 T.rec (motive:= λ_=>T Blk->T Blk) (λh=>h) (λv _ _ iq lv h=>T.rec (motive:= λ_=>T Blk) (.n v (iq .e) (lv .e)) (λv' l' r' _ _=> .n (Option.rec (motive:= λ_=>Option Blk) v' (λk=>some k) v) (iq l') (lv r')) h) a
noncomputable def kZ (d:Nat):T Blk:=Nat.rec (motive:= λ_=>T Blk) .e (λ_ ih=> .n none ih ih) d
noncomputable def roomH (a:T Blk):T Blk:=gT a (kZ 20)
noncomputable def mR (e:Entry) (args:List Value) (s:AS):Bool:=
 ab (Nat.beq e.nx s.nx) (ab (Nat.beq s.ao 0) (ab (kA (ku 12) e.args args) (ab (CN e.hin) (uQ e.hin s.h) false) false) false) false
noncomputable def qH (e:Entry) (s:AS):Out:= .val e.v ⟨gT e.aP (jy e.hin s.h),e.u5,0⟩
noncomputable def i6 (f:Nat) (l:List Entry):List Entry:=List.rec (motive:= λ_=>List Entry) [] (λe _ ih=>ab (Nat.beq e.f f) (e::ih) ih) l
noncomputable def oM (es:List Entry) (F:FF):FF:=List.rec (motive:= λ_=>FF) F (λe _ ih ev args s=>ab (mR e args s) (qH e s) (ih ev args s)) es
noncomputable def outIs (e:Entry) (o:Out):Bool:=Out.rec (motive:= λ_=>Bool) false (λ_ _ _=>false) (λv s=>ab (ku 12 e.v v) (ab (Nat.beq s.nx e.u5) (ab (Nat.beq s.ao 0) (uQ e.aP s.h) false) false) false) o
noncomputable def vp (a:Nat) (v:Value) (s:AS):Out:=match v with| .pointer p=>gN (ob (hU s a 0 [.pointer p]) λs3=>some (.pointer p,s3))|_=> .no
noncomputable def D8 (ev:Ev) (sH a:Nat) (v:Value) (s:AS):Out:=Out.rec (motive:= λ_=>Out) .no (λ_ _ _=> .no) (λv s=>vp a v s) (ev (.func (.func sH) #[] #[]) [v] s)
noncomputable def D9 (ev:Ev) (fill sH sm a:Nat) (l x:Value) (s:AS):Out:=Out.rec (motive:= λ_=>Out) .no (λ_ _ _=> .no) (λv s=>D8 ev sH a v s) (ev (.func (.func fill) #[] #[]) [l,.func (.func sm) #[] #[],x] s)
noncomputable def AV (fill sH sm t:Nat):FF:= λev args s=>match args with
 | [l,x]=>Option.rec (motive:= λ_=>Out) .no (λs0=>D9 ev fill sH sm s.nx l x s0) (s.new (.cells (.n (some [.pointer none]) .e .e) 1 1 false t))
 |_=> .no
noncomputable def As (e:Sum):FF:=Sum.rec (motive:= λ_=>FF) (λk _ args s=>gN (uP s (.copy k) args)) (λg t k _ args s=>gN (uP s (.sorted g t k) args)) (λt u _ args s=>gN (uP s (.Am t u) args)) (λa b c t=>AV a b c t) (λa b _ _ _ args s=>gN (uP s (.alt a b) args)) e
noncomputable def mkFn (P:Program) (X:Cfg) (f:Nat):Option FF:=
 match pT f X.sum with
 |some e=>some (As e)
 |none=>match P.funcs[f]? with
  |some fn=>match fn.body with
   |some body=>ob (mkT fn.ntmps) λt0=>ob (dv P f fn.ntmps (jI X f) body) λb=>some (oM (i6 f X.tab) (JT P (jI X f) t0 fn.results.toList b))
   |none=>ob (pU f X.ext) λe=>some (λ_ args s=>gN (Br s e args))
  |none=>none
noncomputable def I6 (P:Program) (X:Cfg) (ev:Ev) (f:Nat) (args:List Value) (s:AS):Out:=
 Option.rec (motive:= λ_=>Out) .no (λF=>F ev args s) (mkFn P X f)
noncomputable def endRound (l:Nat) (o:Out):Out:=
 Out.rec (motive:= λ_=>Out) .no (λx _ s4=>jJ (s4.h.get l) λ_ _ fn nt kp tm ps assign body=>match x with
   | .normal=>ez s4 l (.loop .ready none fn nt kp tm ps assign body) λs5=> .val (.bool true) s5
   | .ret=>ez s4 l (.loop .done (some .ret) fn nt kp tm ps assign body) λs5=> .val (.bool false) s5
   | .exit id=>ez s4 l (.loop .done (some (.exit id)) fn nt kp tm ps assign body) λs5=> .val (.bool false) s5
   | .goto _=> .no) (λ_ _=> .no) o
noncomputable def eD (ev:Ev) (o:Option CF) (tm:T Value) (s:AS):Out:=Option.rec (motive:= λ_=>Out) .no (λF=>F ev tm s) o
noncomputable def beginRound (ev:Ev) (l:Nat) (b:Option CF) (o:Out):Out:=
 Out.rec (motive:= λ_=>Out) .no (λx pF s2=>match x with
  | .normal=>jJ (s2.h.get l) λst fB fn nt kp tm ps assign body=>match st with
   | .ready=>ez s2 l (.loop .busy fB fn nt kp tm ps assign body) λs3=>endRound l (eD ev b pF s3)
   |_=> .no
  |_=> .no) (λ_ _=> .no) o
noncomputable def nZ (P:Program) (ev:Ev) (l:Nat) (args:List Value) (s:AS):Out:=
 jJ (s.h.get l) λst _ fn nt kp tm ps assign body=>match st with
  | .ready=>Option.rec (motive:= λ_=>Out) .no (λaz=>beginRound ev l (dv P fn nt kp body) (eD ev (dv P fn nt kp assign) az s)) (iK kp ps args tm)
  |_=> .no
noncomputable def step (P:Program) (X:Cfg) (ev:Ev) (f:Value) (args:List Value) (s:AS):Out:=
 match f with
 | .func (.func f) first cap=>I6 P X ev f (app first.toList (app args cap.toList)) s
 | .func (.yield l) first _=>nZ P ev l (app first.toList args) s
 |_=> .no
noncomputable def eval (P:Program) (X:Cfg) (n:Nat):Ev:=
 Nat.rec (motive:= λ_=>Ev) (λ_ _ _=> .no) (λ_ ih=>step P X ih) n
end Go.Eng
namespace Go.Eng
section
variable {α:Type}
theorem T.get_e (k:Nat):(T.e:T α).get k=none:=rfl
theorem T.bp (v:Option α) (l r:T α):(T.n v l r).get 0=v:=rfl
theorem T.aH (v:Option α) (l r:T α) (m:Nat):(T.n v l r).get (2*m+1)=l.get m:=by
 show Bool.rec (motive:= λ_=>Option α) (r.get (Nat.div (2*m) 2)) (l.get (Nat.div (2*m) 2)) (Nat.beq (Nat.mod (2*m) 2) 0)=_;have h1:Nat.mod (2*m) 2=0:=by show(2*m)%2=0;omega
 have h2:Nat.div (2*m) 2=m:=by show(2*m)/2=m;omega
 rw[h1,h2];rfl
theorem T.ay (v:Option α) (l r:T α) (m:Nat):(T.n v l r).get (2*m+2)=r.get m:=by
 show Bool.rec (motive:= λ_=>Option α) (r.get (Nat.div (2*m+1) 2)) (l.get (Nat.div (2*m+1) 2)) (Nat.beq (Nat.mod (2*m+1) 2) 0)=_;have h1:Nat.mod (2*m+1) 2=1:=by show(2*m+1)%2=1;omega
 have h2:Nat.div (2*m+1) 2=m:=by show(2*m+1)/2=m;omega
 rw[h1,h2];rfl
theorem aA (k:Nat):k=0∨(∃m,k=2*m+1)∨∃m,k=2*m+2:=by
 rcases Nat.eq_zero_or_pos k with h|h
 ·exact .inl h
 ·rcases Nat.mod_two_eq_zero_or_one k with h2|h2
  ·exact .inr (.inr ⟨k/2-1,by omega⟩)
  ·exact .inr (.inl ⟨k/2,by omega⟩)
theorem T.LA (x:Option α) (k:Nat):T.put x .e k=if k=0 then some (.n x .e .e)else none:=by cases k<;>rfl
theorem T.I7 (x v:Option α) (l r:T α):T.put x (.n v l r) 0=some (.n x l r):=rfl
theorem T.Gg (x v:Option α) (l r:T α) (m:Nat):T.put x (.n v l r) (2*m+1)=(T.put x l m).map λl'=> .n v l' r:=by
 show Bool.rec (motive:= λ_=>Option (T α)) (Option.rec none (λr'=>some (T.n v l r')) (T.put x r (Nat.div (2*m) 2))) (Option.rec none (λl'=>some (T.n v l' r)) (T.put x l (Nat.div (2*m) 2))) (Nat.beq (Nat.mod (2*m) 2) 0)=_;have h1:Nat.mod (2*m) 2=0:=by show(2*m)%2=0;omega
 have h2:Nat.div (2*m) 2=m:=by show(2*m)/2=m;omega
 rw[h1,h2];cases T.put x l m<;>rfl
theorem T.Eo (x v:Option α) (l r:T α) (m:Nat):T.put x (.n v l r) (2*m+2)=(T.put x r m).map λr'=> .n v l r':=by
 show Bool.rec (motive:= λ_=>Option (T α)) (Option.rec none (λr'=>some (T.n v l r')) (T.put x r (Nat.div (2*m+1) 2))) (Option.rec none (λl'=>some (T.n v l' r)) (T.put x l (Nat.div (2*m+1) 2))) (Nat.beq (Nat.mod (2*m+1) 2) 0)=_;have h1:Nat.mod (2*m+1) 2=1:=by show(2*m+1)%2=1;omega
 have h2:Nat.div (2*m+1) 2=m:=by show(2*m+1)/2=m;omega
 rw[h1,h2];cases T.put x r m<;>rfl
theorem T.bu (x:Option α) (t:T α):∀(k:Nat) (t':T α),T.put x t k=some t'->∀j,t'.get j=if j=k then x else t.get j:=by
 induction t with
 |e=>
  intro k t' h j;rw[T.LA]at h;split at h
  ·cases h
   subst_vars
   rcases aA j with rfl|⟨m,rfl⟩|⟨m,rfl⟩
   ·rfl
   ·rw[T.aH,if_neg (by omega)];rfl
   ·rw[T.ay,if_neg (by omega)];rfl
  ·cases h
 |n v l r iq lv=>
  intro k t' h j;rcases aA k with rfl|⟨m,rfl⟩|⟨m,rfl⟩
  ·rw[T.I7]at h;cases h;rcases aA j with rfl|⟨i,rfl⟩|⟨i,rfl⟩
   ·rfl
   ·rw[T.aH,T.aH,if_neg (by omega)]
   ·rw[T.ay,T.ay,if_neg (by omega)]
  ·rw[T.Gg]at h;cases hp:T.put x l m with
   |none=>rw[hp]at h;cases h
   |some l'=>
    rw[hp]at h;cases h;rcases aA j with rfl|⟨i,rfl⟩|⟨i,rfl⟩
    ·rw[T.bp,T.bp,if_neg (by omega)]
    ·rw[T.aH,T.aH,iq m l' hp i];by_cases e:i=m
     ·rw[if_pos e,if_pos (by omega)]
     ·rw[if_neg e,if_neg (by omega)]
    ·rw[T.ay,T.ay,if_neg (by omega)]
  ·rw[T.Eo]at h;cases hp:T.put x r m with
   |none=>rw[hp]at h;cases h
   |some r'=>
    rw[hp]at h;cases h;rcases aA j with rfl|⟨i,rfl⟩|⟨i,rfl⟩
    ·rw[T.bp,T.bp,if_neg (by omega)]
    ·rw[T.aH,T.aH,if_neg (by omega)]
    ·rw[T.ay,T.ay,lv m r' hp i];by_cases e:i=m
     ·rw[if_pos e,if_pos (by omega)]
     ·rw[if_neg e,if_neg (by omega)]
theorem AW:∀(n:Nat) (t:T α),mkT n=some t->∀j,t.get j=none:=by
 intro n;induction n with
 |zero=>intro t h j;cases h;rfl
 |succ n ih=>
  intro t h j;have h':Option.rec (motive:= λ_=>Option (T α)) none (λt=>T.put none t n) (mkT n:Option (T α))=some t:=h;cases hm:(mkT n:Option (T α))with
  |none=>rw[hm]at h';cases h'
  |some u=>
   rw[hm]at h';rw[T.bu none u n t h' j];split
   ·rfl
   ·exact ih u hm j
end
theorem U {α β:Type} {o:Option α} {k:α->Option β} {b:β} (h:ob o k=some b):∃a,o=some a∧k a=some b:=by
 cases o with
 |none=>cases h
 |some a=>exact⟨a,rfl,h⟩
theorem bF {β:Type} (t e:β):ab true t e=t:=rfl
theorem bS {β:Type} (t e:β):ab false t e=e:=rfl
theorem ae {β:Type} {b:Bool} {t:Option β} {v:β} (h:ab b t none=some v):b=true∧t=some v:=by
 cases b
 ·cases h
 ·exact⟨rfl,h⟩
theorem bh {β:Type} {b:Bool} {t:Option β} {v:β} (h:ab b none t=some v):b=false∧t=some v:=by
 cases b
 ·exact⟨rfl,h⟩
 ·cases h
theorem ak {β:Type} (n:Nat) (k:Nat->Option β):ar n k=k n:=by cases n<;>rfl
theorem aZ {α:Type} (l:List α):len l=l.length:=by
 induction l with
 |nil=>rfl
 |cons a l ih=>show Nat.succ (len l)=_;rw[ih];rfl
theorem nP {α:Type} (l m:List α):app l m=l++m:=by
 induction l with
 |nil=>rfl
 |cons a l ih=>show a::app l m=_;rw[ih];rfl
theorem pV {α:Type} (l m:List α):sy l m=some (l++m):=by
 induction l with
 |nil=>rfl
 |cons a l ih=>show Option.rec (motive:= λ_=>Option (List α)) none (λr=>some (a::r)) (sy l m)=_;rw[ih];rfl
theorem mT:∀(n:Nat) (l r:List Value),oH n l=some r->r=l.take n∧n<=l.length:=by
 intro n;induction n with
 |zero=>intro l r h;cases h;exact⟨rfl,Nat.zero_le _⟩
 |succ n ih=>
  intro l r h;cases l with
  |nil=>cases h
  |cons v l=>
   have h':Option.rec (motive:= λ_=>Option (List Value)) none (λr=>some (v::r)) (oH n l)=some r:=h;cases ht:oH n l with
   |none=>rw[ht]at h';cases h'
   |some q=>rw[ht]at h';cases h';obtain⟨e,hl⟩:=ih l q ht;exact⟨by rw[e];rfl,by simpa using hl⟩
theorem iF:∀(n:Nat) (l r:List Value),oI n l=some r->r=l.drop n∧n<=l.length:=by
 intro n;induction n with
 |zero=>intro l r h;cases h;exact⟨rfl,Nat.zero_le _⟩
 |succ n ih=>
  intro l r h;cases l with
  |nil=>cases h
  |cons v l=>obtain⟨e,hl⟩:=ih l r h;exact⟨by rw[e];rfl,by simpa using hl⟩
theorem xB:∀(n:Nat) (l r:List UInt8),Af n l=some r->r=l.take n∧n<=l.length:=by
 intro n;induction n with
 |zero=>intro l r h;cases h;exact⟨rfl,Nat.zero_le _⟩
 |succ n ih=>
  intro l r h;cases l with
  |nil=>cases h
  |cons v l=>obtain⟨q,hq,hr⟩:=U (show ob (Af n l) (λr=>some (v::r))=some r from h);cases hr;obtain⟨e,hl⟩:=ih l q hq;exact⟨by rw[e];rfl,by simpa using hl⟩
theorem Ep:∀(n:Nat) (l r:List UInt8),GU n l=some r->r=l.drop n∧n<=l.length:=by
 intro n;induction n with
 |zero=>intro l r h;cases h;exact⟨rfl,Nat.zero_le _⟩
 |succ n ih=>
  intro l r h;cases l with
  |nil=>cases h
  |cons v l=>obtain⟨e,hl⟩:=ih l r h;exact⟨by rw[e];rfl,by simpa using hl⟩
theorem Er:∀(vs l r:List Value),Ac vs l=some r->r=vs++l.drop vs.length∧vs.length<=l.length:=by
 intro vs;induction vs with
 |nil=>intro l r h;cases h;exact⟨rfl,Nat.zero_le _⟩
 |cons v vs ih=>
  intro l r h;cases l with
  |nil=>cases h
  |cons a l=>
   have h':Option.rec (motive:= λ_=>Option (List Value)) none (λr=>some (v::r)) (Ac vs l)=some r:=h;cases ht:Ac vs l with
   |none=>rw[ht]at h';cases h'
   |some q=>rw[ht]at h';cases h';obtain⟨e,hl⟩:=ih l q ht;exact⟨by rw[e];rfl,by simpa using hl⟩
theorem vN (vs:List Value):∀(j:Nat) (l r:List Value),Bf vs l j=some r->
  r=l.take j++vs++l.drop (j+vs.length)∧j+vs.length<=l.length:=by
 intro j;induction j with
 |zero=>intro l r h;obtain⟨e,hl⟩:=Er vs l r h;exact⟨by rw[e];simp,by omega⟩
 |succ j ih=>
  intro l r h;cases l with
  |nil=>cases h
  |cons a l=>
   have h':Option.rec (motive:= λ_=>Option (List Value)) none (λr=>some (a::r)) (Bf vs l j)=some r:=h;cases ht:Bf vs l j with
   |none=>rw[ht]at h';cases h'
   |some q=>
    rw[ht]at h';cases h';obtain⟨e,hl⟩:=ih l q ht;refine⟨?_,by simp;omega⟩;rw[e];have:j+1+vs.length=(j+vs.length)+1:=by omega
    rw[this];simp
theorem Es (P:Program) (t:TypeId) (s:AS) (a:Value):GW P t s a=tG P t s a:=by cases a<;>first|rfl|(rename_i a;cases a<;>rfl)
theorem BR (P:Program) (t:TypeId) (s:AS) (a v:Value):D2 P t s a v=zb P t s a v:=by cases a<;>first|rfl|(rename_i a;cases a<;>rfl)
theorem sZ (P:Program) (t:TypeId) (f:Nat) (v:Value):ri P t f v=lE P t f v:=by cases v<;>first|rfl|(rename_i a;cases a<;>rfl)
theorem we (P:Program) (d:Option TypeDesc) (a:Addr) (m:Nat) (n:Int):(ob (rj d) λe=>elemAt P a e m n)=match d with|some (.slice e)=>elemAt P a e m n|_=>none:=by
 cases d with
 |none=>rfl
 |some d=>cases d<;>rfl
theorem s6 (P:Program) (d:Option TypeDesc) (x i:Value):rk P d x i=jk P d x i:=by
 cases i with
 |int k n=>
  cases x with
  |slice a m c=>
   cases a with
   |none=>rfl
   |some a=>exact we P d a m n
  |_=>rfl
 |_=>rfl
theorem Et (op:BinOp) (k:EK) (lT:Bool) (ka kb:IntKind) (a b:Int):GQ op ka kb a b=Bg op k lT (.int kb b) (.int ka a):=by cases op<;>rfl
theorem Eu (op:BinOp) (k:EK) (lT:Bool) (y x:Value):GR op k lT y x=Bg op k lT y x:=by
 cases x with
 |int ka a=>
  cases y with
  |int kb b=>exact Et op k lT ka kb a b
  |_=>rfl
 |_=>rfl
theorem Ew (v:Option Value) (a b:Out):Dt v a b=AQ v a b:=by
 cases v with
 |none=>rfl
 |some v=>cases v<;>rfl
theorem I8 {β:Type} (c:CI) (cont:(Ev->K->K)->Option β):Mn c cont=cont λev k lo tm s=>eg ev c k lo tm s:=by
 cases c with
 |v f d=>cases d<;>rfl
 |s f d=>cases d<;>rfl
 |c f I2 d=>rfl
 |gd g w d c=>rfl
theorem rn:∀l:List CI,vL l=some λev k=>i5 ev l k
 | []=>rfl
 |c::l=>by show(ob (vL l) λR=>Mn c λF=>some λev k lo tm s=>F ev (R ev k) lo tm s)=_;rw[rn l];show(Mn c λF=>some λev k lo tm s=>F ev (i5 ev l k) lo tm s)=_;rw[I8];rfl
theorem Ex (l:List CI):An l=some (AP l):=by unfold An;rw[rn];rfl
end Go.Eng
namespace Go.Eng
structure Loc where
 b:Nat
 base:Nat
 ao:Nat
 rest:List MapEntry
abbrev Ren:=Nat->Option Loc
mutual
inductive ag (ρ:Ren):Value->Value->Prop where
 |bool (b:Bool):ag ρ (.bool b) (.bool b)
 |int (k:IntKind) (n:Int):ag ρ (.int k n) (.int k n)
 |string (s:ByteArray):ag ρ (.string s) (.string s)
 |junk (m n:Nat) (v:Value) (h:cy v=true) (h':m=1->∃c:Nat,v= .int .i64 c∧n<=c):ag ρ (.complex .f32 m n) v
 |lY (g off:Nat):ag ρ (.complex .f64 g off) (.pointer (some ⟨g,off,none⟩))
 |eO:ag ρ (.pointer none) (.pointer none)
 |ptr {a:Nat} {x:Loc} (off:Nat) (h:ρ a=some x):ag ρ (.pointer (some ⟨a,off,none⟩)) (.pointer (some ⟨x.b,x.base+off,none⟩))
 |ba:ag ρ (.slice none 0 0) (.slice none 0 0)
 |slice {a:Nat} {x:Loc} (off n c cap:Nat) (ad:Addr) (h:ρ a=some x) (h1:n<=c/512) (h2:c/512<=cap) (h3:c%2=1->cap=c/512)
   (h4:ad=⟨x.b,x.base+off,none⟩∨cap=0) (h5:c%2=0->x.base+off+cap*(c%512/2)<=x.ao):ag ρ (.slice (some ⟨a,off,none⟩) n c) (.slice (some ad) n cap)
 |ij:ag ρ (.map none) (.map none)
 |map {a:Nat} {x:Loc} (h:ρ a=some x):ag ρ (.map (some a)) (.map (some x.b))
 |func (f:Nat) {a b a' b':Array Value} (ha:af ρ a.toList a'.toList) (hb:af ρ b.toList b'.toList):ag ρ (.func (.func f) a b) (.func (.func f) a' b')
 |yield {l:Nat} {x:Loc} {a b a' b':Array Value} (h:ρ l=some x) (ha:af ρ a.toList a'.toList) (hb:af ρ b.toList b'.toList):ag ρ (.func (.yield l) a b) (.func (.yield x.b) a' b')
 |nilFunc:ag ρ .nilFunc .nilFunc
 |nilIface:ag ρ .nilIface .nilIface
 |iface (t:TypeId) {v v':Value} (h:ag ρ v v'):ag ρ (.iface t v) (.iface t v')
 |agg {a b:Array Value} (h:af ρ a.toList b.toList):ag ρ (.agg a) (.agg b)
 |tuple {a b:Array Value} (h:af ρ a.toList b.toList):ag ρ (.tuple a) (.tuple b)
inductive af (ρ:Ren):List Value->List Value->Prop where
 |nil:af ρ [] []
 |cons {v u:Value} {l m:List Value} (h:ag ρ v u) (hs:af ρ l m):af ρ (v::l) (u::m)
end
def aK (ρ aj:Ren):Prop:=∀a x,ρ a=some x->aj a=some x
theorem aK.refl (ρ:Ren):aK ρ ρ:= λ_ _ h=>h
theorem aK.trans {ρ aj CO:Ren} (h:aK ρ aj) (h':aK aj CO):aK ρ CO:= λa x e=>h' a x (h a x e)
mutual
theorem ag.mono {ρ aj:Ren} (hr:aK ρ aj):∀ {v u:Value},ag ρ v u->ag aj v u
 |_,_,.bool b=> .bool b
 |_,_,.int k n=> .int k n
 |_,_,.string s=> .string s
 |_,_,.junk m n v h h'=> .junk m n v h h'
 |_,_,.lY g off=> .lY g off
 |_,_,.eO=> .eO
 |_,_,.ptr off h=> .ptr off (hr _ _ h)
 |_,_,.ba=> .ba
 |_,_,.slice off n c cap ad h h1 h2 h3 h4 h5=> .slice off n c cap ad (hr _ _ h) h1 h2 h3 h4 h5
 |_,_,.ij=> .ij
 |_,_,.map h=> .map (hr _ _ h)
 |_,_,.func f ha hb=> .func f (af.mono hr ha) (af.mono hr hb)
 |_,_,.yield h ha hb=> .yield (hr _ _ h) (af.mono hr ha) (af.mono hr hb)
 |_,_,.nilFunc=> .nilFunc
 |_,_,.nilIface=> .nilIface
 |_,_,.iface t h=> .iface t (ag.mono hr h)
 |_,_,.agg h=> .agg (af.mono hr h)
 |_,_,.tuple h=> .tuple (af.mono hr h)
theorem af.mono {ρ aj:Ren} (hr:aK ρ aj):∀ {l m:List Value},af ρ l m->af aj l m
 |_,_,.nil=> .nil
 |_,_,.cons h hs=> .cons (ag.mono hr h) (af.mono hr hs)
end
section lists
variable {ρ:Ren}
theorem af.length {l m:List Value} (h:af ρ l m):l.length=m.length:=by
 induction l generalizing m with
 |nil=>cases h;rfl
 |cons v l ih=>cases h with|cons _ hs=>simp[ih hs]
theorem af.get {l m:List Value} (h:af ρ l m):∀ {i:Nat} {v:Value},l[i]? =some v->∃u,m[i]? =some u∧ag ρ v u:=by
 induction l generalizing m with
 |nil=>intro i v hv;cases hv
 |cons v l ih=>
  cases h with
  |cons h hs=>
   intro i w hw;cases i with
   |zero=>cases hw;exact⟨_,rfl,h⟩
   |succ i=>exact ih hs (by simpa using hw)
theorem af.append {l m l' m':List Value} (h:af ρ l m) (h':af ρ l' m'):af ρ (l++l') (m++m'):=by
 induction l generalizing m with
 |nil=>cases h;exact h'
 |cons v l ih=>cases h with|cons h hs=>exact .cons h (ih hs)
theorem af.take (n:Nat):∀ {l m:List Value},af ρ l m->af ρ (l.take n) (m.take n):=by
 induction n with
 |zero=>intro l m _;simpa using af.nil
 |succ n ih=>intro l m h;cases h with|nil=>simpa using af.nil|cons h hs=>exact .cons h (ih hs)
theorem af.drop (n:Nat):∀ {l m:List Value},af ρ l m->af ρ (l.drop n) (m.drop n):=by
 induction n with
 |zero=>intro l m h;simpa using h
 |succ n ih=>intro l m h;cases h with|nil=>simpa using af.nil|cons h hs=>simpa using ih hs
theorem ag.cells {v u:Value} (h:ag ρ v u):af ρ v.cells.toList u.cells.toList:=by
 cases h
 case agg h=>exact h
 case junk h h'=>
  have:u.cells= #[u]:=by cases u<;>first|rfl|cases h
  rw[this];exact .cons (.junk _ _ _ h h') .nil
 all_goals exact .cons (by constructor<;>assumption) .nil
theorem ag.one {v u:Value} (h:ag ρ v u) (h1:cy v=true):cy u=true:=by
 cases h
 case junk h _=>exact h
 case agg=>cases h1
 case tuple=>cases h1
 all_goals rfl
end lists
inductive Plain:Value->Prop where
 |bool (b):Plain (.bool b)
 |int (k n):Plain (.int k n)
 |string (s):Plain (.string s)
 |agg (a:Array Value) (h:∀v∈a.toList,Plain v):Plain (.agg a)
mutual
theorem ag.plain {ρ:Ren}:∀ {v u:Value},ag ρ v u->Plain v->u=v
 |_,_,.bool b,_=>rfl
 |_,_,.int k n,_=>rfl
 |_,_,.string s,_=>rfl
 |_,_,.agg (a:=a) (b:=b) h,hp=>by
  cases hp with
  |agg _ hp=>exact congrArg Value.agg (Array.ext' (af.plain h hp))
theorem af.plain {ρ:Ren}:∀ {l m:List Value},af ρ l m->(∀v∈l,Plain v)->m=l
 |_,_,.nil,_=>rfl
 |_,_,.cons h hs,hp=>by rw[ag.plain h (hp _ (by simp)),af.plain hs (λv hv=>hp v (by simp[hv]))]
end
inductive F2 {α β:Type} (R:α->β->Prop):List α->List β->Prop where
 |nil:F2 R [] []
 |cons {a:α} {b:β} {l:List α} {m:List β} (h:R a b) (hs:F2 R l m):F2 R (a::l) (b::m)
theorem F2.mono {α β:Type} {R S:α->β->Prop} (JU:∀a b,R a b->S a b):∀ {l:List α} {m:List β},F2 R l m->F2 S l m
 |_,_,.nil=> .nil
 |_,_,.cons h hs=> .cons (JU _ _ h) (F2.mono JU hs)
def aW (P:Program) (ρ:Ren) (kt:TypeId) (es:List (Value×Value×Nat)) (ents:Array MapEntry):Prop:=
 ∃l:List MapEntry,l.Perm ents.toList∧F2 (λp e=>p.1=e.key∧aG P kt p.1=true∧Plain p.1∧ag ρ p.2.1 e.val∧(p.2.2=0∨p.2.2=e.born+1)) es l∧(es.map (·.1)).Nodup
def Borns (ck:Nat) (ents:Array MapEntry):Prop:=(ents.toList.map (·.born)).Nodup∧∀e∈ents.toList,e.born<ck
def gO (ρ:Ren) (tm:T Value) (tmps:Array Value):Prop:=∀t v,tm.get t=some v->∃u,tmps[t]? =some u∧ag ρ v u
structure aL (P:Program) (ρ:Ren) (x:Loc) (w:World) (c:T (List Value)) (sz n:Nat) (ro:Bool) (et:TypeId):Prop where
 cell:∀i l,c.get i=some l->i<n∧l.length=sz∧∀(j:Nat) (v:Value),l[j]? =some v->∃u,w.cell? ⟨x.b,x.base+(i*sz+j),none⟩=some u∧ag ρ v u
 all:∀o,o<x.ao->(w.cell? ⟨x.b,o,none⟩).isSome=true
 free:ro=false->∀o,w.frozen? ⟨x.b,o,none⟩=true->(w.cell? ⟨x.b,o,none⟩)=none∧P.underlying et=some (.int .u8)
 shape:w.shape? x.b=some (et,x.ao)
 mult:∃q,x.base=q*sz
def wU (P:Program) (ρ:Ren) (kt:TypeId) (rest:List MapEntry) (es:List (Value×Value×Nat)) (ents:Array MapEntry):Prop:=
 ∃l:List MapEntry,(l++rest).Perm ents.toList∧F2 (λp e=>p.1=e.key∧aG P kt p.1=true∧Plain p.1∧ag ρ p.2.1 e.val∧(p.2.2=0∨p.2.2=e.born+1)) es l∧(∀e∈rest,aG P kt e.key=true)∧((l++rest).map (·.key)).Nodup
def bX (P:Program) (ρ:Ren) (x:Loc) (w:World):Blk->Prop
 | .cells c sz n ro et=>aL P ρ x w c sz n ro et
 | .map kt es ck=>∃ents,w.heap[x.b]? =some (.map ents ck)∧aW P ρ kt es ents∧Borns ck ents
 | .pmap kt es ck=>∃ents,w.heap[x.b]? =some (.map ents ck)∧wU P ρ kt x.rest es ents∧Borns ck ents
 | .cE s p=>x.base=0∧w.heap[x.b]? =some (.stringIter s p)
 | .mapIter r ck=>x.base=0∧((r=none∧w.heap[x.b]? =some (.mapIter none 0 #[] 0))∨∃a y,r=some a∧ρ a=some y∧w.heap[x.b]? =some (.mapIter (some y.b) ck #[] ck))
 | .loop st fB _ nt kp tm ps I2 bd=>∃tmps fn r,w.heap[x.b]? =some (.loop {state:=st,pending:=fB,fn,tmps,params:=ps.toArray,assign:=I2,body:=bd,defers:=r})∧gO ρ tm tmps∧(∀t v,tm.get t=some v->kept kp t=true)∧nt<=tmps.size∧∀p∈ps,p<nt
def dZ:Blk->Bool
 | .cells _ _ _ ro _=>ro
 |_=>false
theorem gO.mono {ρ aj:Ren} (hr:aK ρ aj) {tm:T Value} {tmps:Array Value} (h:gO ρ tm tmps):gO aj tm tmps:=
 λt v e=>let⟨u,hu,hv⟩:=h t v e;⟨u,hu,hv.mono hr⟩
theorem aW.mono {P:Program} {ρ aj:Ren} (hr:aK ρ aj) {kt:TypeId} {es:List (Value×Value×Nat)} {ents:Array MapEntry} (h:aW P ρ kt es ents):aW P aj kt es ents:=
 let⟨l,hp,hf,hn⟩:=h;⟨l,hp,hf.mono λ_ _ ⟨a,b,c,d,e⟩=>⟨a,b,c,d.mono hr,e⟩,hn⟩
theorem wU.mono {P:Program} {ρ aj:Ren} (hr:aK ρ aj) {kt:TypeId} {rest:List MapEntry} {es:List (Value×Value×Nat)} {ents:Array MapEntry} (h:wU P ρ kt rest es ents):wU P aj kt rest es ents:=
 let⟨l,hp,hf,hk,hn⟩:=h;⟨l,hp,hf.mono λ_ _ ⟨a,b,c,d,e⟩=>⟨a,b,c,d.mono hr,e⟩,hk,hn⟩
theorem aL.mono {P:Program} {ρ aj:Ren} (hr:aK ρ aj) {x:Loc} {w:World} {c sz n ro et} (h:aL P ρ x w c sz n ro et):aL P aj x w c sz n ro et:=
 ⟨λi l e=>let⟨a,b,c⟩:=h.cell i l e;⟨a,b,λj v hv=>let⟨u,hu,er⟩:=c j v hv;⟨u,hu,er.mono hr⟩⟩,h.all,h.free,h.shape,h.mult⟩
theorem bX.mono {P:Program} {ρ aj:Ren} (hr:aK ρ aj) {x:Loc} {w:World}:∀ {k:Blk},bX P ρ x w k->bX P aj x w k
 | .cells ..,h=>aL.mono hr h
 | .map ..,⟨e,h,hm,hb⟩=>⟨e,h,hm.mono hr,hb⟩
 | .pmap ..,⟨e,h,hm,hb⟩=>⟨e,h,hm.mono hr,hb⟩
 | .cE ..,h=>h
 | .mapIter ..,⟨h0,h⟩=>⟨h0,h.imp id λ⟨a,y,h1,h2,h3⟩=>⟨a,y,h1,hr _ _ h2,h3⟩⟩
 | .loop ..,⟨t,f,r,h,he,hn⟩=>⟨t,f,r,h,he.mono hr,hn⟩
theorem dW {w w':World} {b:Nat} (h:w'.heap[b]? =w.heap[b]?) (o:Nat):w'.cell? ⟨b,o,none⟩=w.cell? ⟨b,o,none⟩:=by simp[World.cell?,h]
theorem s7 {w w':World} {b:Nat} (h:w'.heap[b]? =w.heap[b]?) (o:Nat):w'.frozen? ⟨b,o,none⟩=w.frozen? ⟨b,o,none⟩:=by simp[World.frozen?,h]
theorem wg {w w':World} {b:Nat} (h:w'.heap[b]? =w.heap[b]?):w'.shape? b=w.shape? b:=by simp[World.shape?,h]
theorem aL.congr {P:Program} {ρ:Ren} {x:Loc} {w w':World} (h:w'.heap[x.b]? =w.heap[x.b]?) {c sz n ro et} (k:aL P ρ x w c sz n ro et):aL P ρ x w' c sz n ro et:=
 ⟨λi l e=>let⟨a,b,c⟩:=k.cell i l e;⟨a,b,λj v hv=>by rw[dW h];exact c j v hv⟩,
   λo ho=>by rw[dW h];exact k.all o ho,λhro o ho=>by rw[s7 h]at ho;rw[dW h];exact k.free hro o ho,by rw[wg h];exact k.shape,k.mult⟩
theorem bX.congr {P:Program} {ρ:Ren} {x:Loc} {w w':World} (h:w'.heap[x.b]? =w.heap[x.b]?):∀ {k:Blk},bX P ρ x w k->bX P ρ x w' k
 | .cells ..,k=>aL.congr h k
 | .map ..,⟨e,h',hm⟩=>⟨e,h.trans h',hm⟩
 | .pmap ..,⟨e,h',hm⟩=>⟨e,h.trans h',hm⟩
 | .cE ..,⟨h0,h'⟩=>⟨h0,h.trans h'⟩
 | .mapIter ..,⟨h0,h'⟩=>⟨h0,h'.imp (λ⟨a,b⟩=>⟨a,h.trans b⟩) λ⟨a,y,h1,h2,h3⟩=>⟨a,y,h1,h2,h.trans h3⟩⟩
 | .loop ..,⟨t,f,r,h',he⟩=>⟨t,f,r,h.trans h',he⟩
def aI (ρ:Ren) (s:AS) (b:Nat):Prop:=∃a k x,s.h.get a=some k∧ρ a=some x∧x.b=b
def DB (P:Program):Value:=match P.cutTypes.find? (·.1== "internal/reflectlite.rtype"),(List.range P.types.size).find? (λt=>P.rowNamed t [101,114,114,111,114])with|some u,some t=> .iface u.2 (.agg #[typeHandle P t])|_,_=> .nilIface
def uR (P:Program) (n:String):Option (List Value):=match gW n with|some vs=>some vs|none=>bif n== "errors.errorType" then some [DB P]else none
theorem Gh {P:Program} {n:String} {vs:List Value} (h:gW n=some vs):uR P n=some vs:=by unfold uR;rw[h]
def Jv (P:Program) (ρ:Ren) (s:AS) (w:World):Prop:=∀g gl vs,P.globals[g]? =some gl->uR P gl.name=some vs->g<w.heap.size∧¬aI ρ s g∧∀(i:Nat) (v:Value),vs[i]? =some v->w.cell? ⟨g,i,none⟩=some v
theorem Jv.of {P:Program} {ρ aj:Ren} {s s':AS} {w w':World} (h:Jv P ρ s w) (hsz:w.heap.size<=w'.heap.size) (hf:∀b,b<w.heap.size->¬aI ρ s b->w'.heap[b]? =w.heap[b]?∧¬aI aj s' b):Jv P aj s' w':= λg gl vs h1 h2=>
 let⟨a,b,c⟩:=h g gl vs h1 h2
 let⟨e,n⟩:=hf g a b
 ⟨Nat.lt_of_lt_of_le a hsz,n,λi v hv=>by rw[dW e];exact c i v hv⟩
theorem wh {n:String} {vs:List Value} (h:gW n=some vs):∃v,vs[0]? =some v:=by
 unfold gW at h;cases hb:(n== "internal/strconv.uint64pow10")with
 |false=>rw[hb]at h;cases h
 |true=>rw[hb]at h;cases h;exact⟨_,rfl⟩
theorem BS {P:Program} {n:String} {vs:List Value} (h:uR P n=some vs):∃v,vs[0]? =some v:=by
 unfold uR at h;split at h
 ·rename_i hg;cases h;exact wh hg
 ·cases hb:(n== "errors.errorType")with
  |false=>rw[hb]at h;cases h
  |true=>rw[hb]at h;cases h;exact⟨_,rfl⟩
theorem Jv.ne {P:Program} {ρ:Ren} {s:AS} {w:World} {b g:Nat} {gl:Global} {vs:List Value} (h:Jv P ρ s w) (hb:∀i,w.cell? ⟨b,i,none⟩=none) (h1:P.globals[g]? =some gl) (h2:uR P gl.name=some vs):b≠g:= λe=>by obtain⟨v,hv⟩:=BS h2;have:=(h g gl vs h1 h2).2.2 0 v hv;rw[<-e,hb]at this;cases this
structure Rel (P:Program) (ρ:Ren) (s:AS) (w:World):Prop where
 dM:∀a,s.nx<=a->ρ a=none
 top:∀a,s.nx<=a->s.h.get a=none
 blk:∀a k x,s.h.get a=some k->ρ a=some x->x.b<w.heap.size∧bX P ρ x w k
 ao:s.ao<=s.nx
 aX:∀a a' k k' x x',a≠a'->s.h.get a=some k->s.h.get a'=some k'->ρ a=some x->ρ a'=some x'->x.b=x'.b->dZ k=true∧dZ k'=true
 gl:Jv P ρ s w
structure aR (ρ:Ren) (s:AS) (w:World) (aj:Ren) (s':AS) (w':World):Prop where
 jj:∀a,a<s.nx->aj a=ρ a
 nx:s.nx<=s'.nx
 tape:w'.tape=w.tape
 os:w'.os=w.os
 out:w'.output=w.output
 size:w.heap.size<=w'.heap.size
 frame:∀b,b<w.heap.size->¬aI ρ s b->w'.heap[b]? =w.heap[b]?∧¬aI aj s' b
 ph:∀a,a<s.nx->ρ a=none->s'.h.get a=s.h.get a∨s'.h.get a=none
 lp:∀(b:Nat) (r:Loop),w.heap[b]? =some (Obj.loop r)->∃r',w'.heap[b]? =some (Obj.loop r')
 ao:s'.ao=s.ao
 low:∀a,a<s.ao->s'.h.get a=s.h.get a
 fW:∀a k x,a<s.ao->a<s.nx->s.h.get a=some k->dZ k=false->ρ a=some x->w'.heap[x.b]? =w.heap[x.b]?
def jK:Blk->Bool
 | .loop .. =>true
 |_=>false
theorem n9 {P:Program} {ρ:Ren} {x:Loc} {w:World} {r:Loop} (h:w.heap[x.b]? =some (.loop r)):∀ {k:Blk},bX P ρ x w k->jK k=true
 | .cells ..,k=>by have:=k.shape;unfold World.shape? at this;rw[h]at this;cases this
 | .map ..,⟨_,h',_⟩=>by rw[h]at h';cases h'
 | .pmap ..,⟨_,h',_⟩=>by rw[h]at h';cases h'
 | .cE ..,⟨_,h'⟩=>by rw[h]at h';cases h'
 | .mapIter ..,⟨_,h'⟩=>by
  rcases h' with ⟨_,h'⟩|⟨_,_,_,_,h'⟩
  ·rw[h]at h';cases h'
  ·rw[h]at h';cases h'
 | .loop ..,_=>rfl
theorem BT {P:Program} {ρ:Ren} {x:Loc} {w:World}:∀ {k:Blk},jK k=true->bX P ρ x w k->∃r,w.heap[x.b]? =some (.loop r)
 | .loop ..,_,⟨_,_,_,h,_⟩=>⟨_,h⟩
theorem aR.refl (ρ:Ren) (s:AS) (w:World):aR ρ s w ρ s w:=⟨λ_ _=>rfl,Nat.le_refl _,rfl,rfl,rfl,Nat.le_refl _,λ_ _ h=>⟨rfl,h⟩,λ_ _ _=> .inl rfl,λ_ r h=>⟨r,h⟩,rfl,λ_ _=>rfl,λ_ _ _ _ _ _ _ _=>rfl⟩
theorem aR.trans {ρ aj CO:Ren} {s s' PW:AS} {w w' w'':World} (h:aR ρ s w aj s' w') (h':aR aj s' w' CO PW w''):aR ρ s w CO PW w'':=
  ⟨λa ha=>by rw[h'.jj a (Nat.lt_of_lt_of_le ha h.nx),h.jj a ha],Nat.le_trans h.nx h'.nx,by rw[h'.tape,h.tape],by rw[h'.os,h.os],by rw[h'.out,h.out],Nat.le_trans h.size h'.size,
   λb hb hn=>let⟨e1,n1⟩:=h.frame b hb hn;let⟨e2,n2⟩:=h'.frame b (Nat.lt_of_lt_of_le hb h.size) n1;⟨e2.trans e1,n2⟩,
   λa ha hn=>by
     rcases h'.ph a (Nat.lt_of_lt_of_le ha h.nx) (by rw[h.jj a ha];exact hn)with e|e
     · rw[e];exact h.ph a ha hn
     · exact .inr e,λb r hb=>let⟨r1,h1⟩:=h.lp b r hb;h'.lp b r1 h1,h'.ao.trans h.ao,λa ha=>by rw[h'.low a (by rw[h.ao];exact ha),h.low a ha],
   λa k x ha hn hk hro hx=>by rw[h'.fW a k x (by rw[h.ao];exact ha) (Nat.lt_of_lt_of_le hn h.nx) (by rw[h.low a ha];exact hk) hro (by rw[h.jj a hn];exact hx),h.fW a k x ha hn hk hro hx]⟩
theorem aR.le {P:Program} {ρ aj:Ren} {s s':AS} {w w':World} (h:aR ρ s w aj s' w') (hr:Rel P ρ s w):aK ρ aj:= λa x e=>by
 have:a<s.nx:=by
  rcases Nat.lt_or_ge a s.nx with h|h
  ·exact h
  ·rw[hr.dM a h]at e;cases e
 rw[h.jj a this];exact e
theorem Rel.of_heap {P:Program} {ρ:Ren} {s:AS} {w w':World} (h:Rel P ρ s w) (hh:w'.heap=w.heap):Rel P ρ s w':=
 ⟨h.dM,h.top,λa k x e e'=>let⟨h1,h2⟩:=h.blk a k x e e';⟨by rw[hh];exact h1,h2.congr (by rw[hh])⟩,h.ao,h.aX,h.gl.of (by rw[hh];exact Nat.le_refl _) λb _ hn=>⟨by rw[hh],hn⟩⟩
theorem aR.of_heap {ρ:Ren} {s:AS} {w w':World} (hh:w'.heap=w.heap) (ht:w'.tape=w.tape) (ho:w'.os=w.os) (hu:w'.output=w.output):aR ρ s w ρ s w':=
 ⟨λ_ _=>rfl,Nat.le_refl _,ht,ho,hu,by rw[hh];exact Nat.le_refl _,λ_ _ h=>⟨by rw[hh],h⟩,λ_ _ _=> .inl rfl,λ_ r h=>⟨r,by rw[hh];exact h⟩,rfl,λ_ _=>rfl,λ_ _ _ _ _ _ _ _=>by rw[hh]⟩
theorem AS.gZ {s s':AS} {k:Blk} (h:s.new k=some s'):s'.ao=s.ao:=by
 have h':Option.rec (motive:= λ_=>Option AS) none (λh=>ar (Nat.succ s.nx) λn=>ar s.ao λl=>some ⟨h,n,l⟩) (T.put (some k) s.h s.nx)=some s':=h;cases hp:T.put (some k) s.h s.nx with
 |none=>rw[hp]at h';cases h'
 |some t=>rw[hp]at h';simp only[ak]at h';cases h';rfl
theorem AS.dO {s s':AS} {k:Blk} (h:s.new k=some s'):s'.nx=s.nx+1∧∀j,s'.h.get j=if j=s.nx then some k else s.h.get j:=by
 have h':Option.rec (motive:= λ_=>Option AS) none (λh=>ar (Nat.succ s.nx) λn=>ar s.ao λl=>some ⟨h,n,l⟩) (T.put (some k) s.h s.nx)=some s':=h;cases hp:T.put (some k) s.h s.nx with
 |none=>rw[hp]at h';cases h'
 |some t=>rw[hp]at h';simp only[ak]at h';cases h';exact⟨rfl,λj=>T.bu _ _ _ _ hp j⟩
theorem AS.pW {s s':AS} {i:Nat} {k:Option Blk} (h:s.set i k=some s'):s'.nx=s.nx∧(∀j,s'.h.get j=if j=i then k else s.h.get j)∧s'.ao=s.ao∧s.ao<=i:=by
 have h':Bool.rec (motive:= λ_=>Option AS) (Option.rec (motive:= λ_=>Option AS) none (λh=>ar s.nx λn=>ar s.ao λl=>some ⟨h,n,l⟩) (T.put k s.h i)) none (Nat.blt i s.ao)=some s':=h;cases hb:Nat.blt i s.ao with
 |true=>rw[hb]at h';cases h'
 |false=>
  rw[hb]at h';cases hp:T.put k s.h i with
  |none=>rw[hp]at h';cases h'
  |some t=>
   rw[hp]at h';simp only[ak]at h';cases h';exact⟨rfl,λj=>T.bu _ _ _ _ hp j,rfl,Nat.le_of_not_lt λhlt=>by have:Nat.blt i s.ao=true:=Nat.ble_eq_true_of_le hlt;rw[hb]at this;cases this⟩
theorem AS.cD {s s':AS} {i:Nat} {k:Option Blk} (h:s.set i k=some s'):s'.nx=s.nx∧∀j,s'.h.get j=if j=i then k else s.h.get j:=
 ⟨(AS.pW h).1,(AS.pW h).2.1⟩
theorem AS.aT {s s':AS} {i:Nat} {k:Option Blk} (h:s.set i k=some s'):s'.ao=s.ao∧s.ao<=i:=⟨(AS.pW h).2.2.1,(AS.pW h).2.2.2⟩
theorem AS.vO {s s':AS} {k:Blk} (h:s.new k=some s') (hl:s.ao<=s.nx):∀a,a<s.ao->s'.h.get a=s.h.get a:= λa ha=>by rw[(AS.dO h).2,if_neg (by omega)]
theorem AS.pX {s s':AS} {i:Nat} {k:Option Blk} (h:s.set i k=some s'):∀a,a<s.ao->s'.h.get a=s.h.get a:= λa ha=>by rw[(AS.cD h).2,if_neg (by have:=(AS.aT h).2;omega)]
def Ren.put (ρ:Ren) (a:Nat) (x:Loc):Ren:= λj=>if j=a then some x else ρ j
theorem Rel.alloc {P:Program} {ρ:Ren} {s s':AS} {w w':World} {k:Blk} {x:Loc} (hr:Rel P ρ s w) (hs:s.new k=some s')
  (hx:x.b=w.heap.size) (hsz:w'.heap.size=w.heap.size+1) (hold:∀b,b<w.heap.size->w'.heap[b]? =w.heap[b]?)
  (ht:w'.tape=w.tape) (ho:w'.os=w.os) (hu:w'.output=w.output)
  (hb:bX P (ρ.put s.nx x) x w' k):Rel P (ρ.put s.nx x) s' w'∧aR ρ s w (ρ.put s.nx x) s' w':=by
 obtain⟨hnx,hg⟩:=AS.dO hs;have hle:aK ρ (ρ.put s.nx x):= λa y e=>by
  unfold Ren.put;by_cases ha:a=s.nx
  ·rw[ha,hr.dM _ (Nat.le_refl _)]at e;cases e
  ·rw[if_neg ha];exact e
 have bA:∀a,a≠s.nx->(ρ.put s.nx x) a=ρ a:= λa ha=>by unfold Ren.put;rw[if_neg ha]
 have eK:(ρ.put s.nx x) s.nx=some x:=by unfold Ren.put;rw[if_pos rfl]
 refine(λ(hS:aR ρ s w (ρ.put s.nx x) s' w')=>⟨⟨λa ha=>?_,λa ha=>?_,λa k' y e e'=>?_,by rw[AS.gZ hs];have:=hr.ao;omega,λa a' k1 k2 x1 x2 hne e1 e2 r1 r2 jE=>?_,hr.gl.of hS.size hS.frame⟩,hS⟩) ⟨λa ha=>?_,by omega,ht,ho,hu,by omega,λb cr hn=>?_,λa ha hn=>?_,λb r cr=>⟨r,by rw[hold b (Array.getElem?_eq_some_iff.1 cr).1];exact cr⟩,AS.gZ hs,AS.vO hs hr.ao,λa k' y _ _ fE _ hy=>hold _ (hr.blk a k' y fE hy).1⟩
 ·rw[bA a (by omega)]
 ·refine⟨hold b cr,?_⟩;rintro⟨a,k',y,e,e',rfl⟩;rw[hg]at e;by_cases ha:a=s.nx
  ·rw[ha,eK]at e';cases e';omega
  ·rw[if_neg ha]at e;rw[bA a ha]at e';exact hn ⟨a,k',y,e,e',rfl⟩
 ·exact .inl (by rw[hg,if_neg (by omega)])
 ·rw[bA a (by omega)];exact hr.dM a (by omega)
 ·rw[hg,if_neg (by omega)];exact hr.top a (by omega)
 ·rw[hg]at e;by_cases ha:a=s.nx
  ·rw[if_pos ha]at e;cases e;rw[ha,eK]at e';cases e';exact⟨by omega,hb⟩
  ·rw[if_neg ha]at e;rw[bA a ha]at e';obtain⟨h1,h2⟩:=hr.blk a k' y e e';exact⟨by omega,(h2.congr (hold _ h1)).mono hle⟩
 ·rw[hg]at e1 e2;by_cases ha:a=s.nx
  ·rw[ha,eK]at r1;cases r1;have dp:a'≠s.nx:= λe=>hne (ha.trans e.symm);rw[if_neg dp]at e2;rw[bA a' dp]at r2;have:=(hr.blk a' k2 x2 e2 r2).1;omega
  ·rw[if_neg ha]at e1;rw[bA a ha]at r1;by_cases dp:a'=s.nx
   ·rw[dp,eK]at r2;cases r2;have:=(hr.blk a k1 x1 e1 r1).1;omega
   ·rw[if_neg dp]at e2;rw[bA a' dp]at r2;exact hr.aX a a' k1 k2 x1 x2 hne e1 e2 r1 r2 jE
theorem Rel.write {P:Program} {ρ:Ren} {s s':AS} {w w':World} {a:Nat} {k k':Blk} {x:Loc} (hr:Rel P ρ s w) (hs:s.set a (some k')=some s')
  (hk:s.h.get a=some k) (hro:dZ k=false) (hx:ρ a=some x) (hsz:w'.heap.size=w.heap.size) (hold:∀b,b≠x.b->w'.heap[b]? =w.heap[b]?)
  (ht:w'.tape=w.tape) (ho:w'.os=w.os) (hu:w'.output=w.output)
  (hb:bX P ρ x w' k') (hlk:jK k=true->jK k'=true:=by intro h;cases h):Rel P ρ s' w'∧aR ρ s w ρ s' w':=by
 obtain⟨hnx,hg⟩:=AS.cD hs;have halt:a<s.nx:=by
  rcases Nat.lt_or_ge a s.nx with h|h
  ·exact h
  ·rw[hr.dM a h]at hx;cases hx
 have hne:∀a' k2 x2,a'≠a->s.h.get a'=some k2->ρ a'=some x2->x2.b≠x.b:= λa' k2 x2 h e r cr=>by have:=(hr.aX a' a k2 k x2 x h e hk r hx cr).2;rw[hro]at this;cases this
 refine(λ(hS:aR ρ s w ρ s' w')=>⟨⟨λa ha=>hr.dM a (by omega),λb hb=>?_,λb k2 y e e'=>?_,by rw[(AS.aT hs).1,hnx];exact hr.ao,λb b' k1 k2 x1 x2 cK e1 e2 r1 r2 jE=>?_,hr.gl.of hS.size hS.frame⟩,hS⟩) ⟨λ_ _=>rfl,by omega,ht,ho,hu,by omega,λb cr hn=>?_,λb cr hn=>?_,λb r cr=>?_,(AS.aT hs).1,AS.pX hs,λb k2 y hl _ yD _ hy=>hold _ (hne b k2 y (by have:=(AS.aT hs).2;omega) yD hy)⟩
 ·have ir:b≠x.b:= λe=>hn ⟨a,k,x,hk,hx,e.symm⟩;refine⟨hold b ir,?_⟩;rintro⟨c,k2,y,e,e',rfl⟩;rw[hg]at e;by_cases hc:c=a
  ·rw[hc,hx]at e';cases e';exact ir rfl
  ·rw[if_neg hc]at e;exact hn ⟨c,k2,y,e,e',rfl⟩
 ·exact .inl (by rw[hg,if_neg (λe=>by rw[e,hx]at hn;cases hn)])
 ·by_cases ir:b=x.b
  ·subst ir;exact BT (hlk (n9 cr (hr.blk a k x hk hx).2)) hb
  ·exact⟨r,by rw[hold b ir];exact cr⟩
 ·rw[hg,if_neg (by omega)];exact hr.top b (by omega)
 ·rw[hg]at e;by_cases cr:b=a
  ·subst cr;rw[if_pos rfl]at e;cases e;rw[hx]at e';cases e';exact⟨by rw[hsz];exact(hr.blk b k x hk hx).1,hb⟩
  ·rw[if_neg cr]at e;obtain⟨h1,h2⟩:=hr.blk b k2 y e e';exact⟨by omega,h2.congr (hold _ (hne b k2 y cr e e'))⟩
 ·rw[hg]at e1 e2;by_cases wX:b=a
  ·by_cases Fm:b'=a
   ·exact(cK (wX.trans Fm.symm)).elim
   ·rw[if_neg Fm]at e2;rw[wX,hx]at r1;cases r1;exact(hne b' k2 x2 Fm e2 r2 jE.symm).elim
  ·rw[if_neg wX]at e1;by_cases Fm:b'=a
   ·rw[Fm,hx]at r2;cases r2;exact(hne b k1 x1 wX e1 r1 jE).elim
   ·rw[if_neg Fm]at e2;exact hr.aX b b' k1 k2 x1 x2 cK e1 e2 r1 r2 jE
theorem Rel.forget {P:Program} {ρ:Ren} {s s':AS} {w:World} {a:Nat} {x:Loc} (hr:Rel P ρ s w) (hs:s.set a none=some s') (hx:ρ a=some x):Rel P ρ s' w∧aR ρ s w ρ s' w:=by
 obtain⟨hnx,hg⟩:=AS.cD hs;have yU:∀ {b k},s'.h.get b=some k->s.h.get b=some k:= λ {b k} e=>by
  rw[hg]at e;by_cases h:b=a
  ·rw[if_pos h]at e;cases e
  ·rw[if_neg h]at e;exact e
 refine(λ(hS:aR ρ s w ρ s' w)=>⟨⟨λa ha=>hr.dM a (by omega),λb hb=>?_,λb k2 y e e'=>hr.blk b k2 y (yU e) e',by rw[(AS.aT hs).1,hnx];exact hr.ao,λb b' k1 k2 x1 x2 cK e1 e2 r1 r2 jE=>hr.aX b b' k1 k2 x1 x2 cK (yU e1) (yU e2) r1 r2 jE,hr.gl.of hS.size hS.frame⟩,hS⟩)
  ⟨λ_ _=>rfl,by omega,rfl,rfl,rfl,Nat.le_refl _,λb cr hn=>⟨rfl,?_⟩,λb cr hn=>?_,λ_ r h=>⟨r,h⟩,(AS.aT hs).1,AS.pX hs,λ_ _ _ _ _ _ _ _=>rfl⟩
 ·rintro⟨c,k2,y,e,e',rfl⟩;exact hn ⟨c,k2,y,yU e,e',rfl⟩
 ·exact .inl (by rw[hg,if_neg (λe=>by rw[e,hx]at hn;cases hn)])
 ·rw[hg];split
  ·rfl
  ·exact hr.top b (by omega)
end Go.Eng
namespace Go.Eng
open Go
theorem Ey:∀ {k k':IntKind},FH k=FH k'->k=k':=by intro k k' h;cases k<;>cases k'<;>first|rfl|(exact absurd h (by decide))
theorem jd {k k':IntKind}:sd k k'=true↔k=k':=by
 constructor
 ·intro h;exact Ey (Nat.eq_of_beq_eq_true h)
 ·rintro rfl;exact Nat.beq_refl _
theorem di (k:IntKind) (n:Int):gM k n=some (.int k n):=by
 cases n with
 |ofNat m=>exact ak m (λm=>some (Value.int k (.ofNat m)))
 |negSucc m=>exact ak m (λm=>some (Value.int k (.negSucc m)))
theorem wrap_small {k:IntKind} {n:Int} (h:k.min<=n∧n<=k.max):k.wrap n=n:=by cases k<;>simp[IntKind.wrap,IntKind.min,IntKind.max,IntKind.bits,IntKind.signed]at* <;>omega
theorem gu (k:IntKind) (n:Int):fJ k n=some (.int k (k.wrap n)):=by
 cases n with
 |ofNat m=>
  show ab (Nat.blt m (ao k)) (ar m λm=>some (.int k (.ofNat m))) (gM k (k.wrap (.ofNat m)))=_;cases hb:Nat.blt m (ao k)with
  |false=>exact di _ _
  |true=>
   have hlt:m<ao k:=by simpa[Nat.blt_eq]using hb
   rw[bF,ak,wrap_small];cases k<;>simp[ao,IntKind.min,IntKind.max,IntKind.bits,IntKind.signed]at* <;>omega
 |negSucc m=>
  show ab (Nat.blt m (CB k)) (ar m λm=>some (.int k (.negSucc m))) (gM k (k.wrap (.negSucc m)))=_;cases hb:Nat.blt m (CB k)with
  |false=>exact di _ _
  |true=>
   have hlt:m<CB k:=by simpa[Nat.blt_eq]using hb
   rw[bF,ak,wrap_small];cases k<;>simp[CB,IntKind.min,IntKind.max,IntKind.bits,IntKind.signed]at* <;>omega
theorem nQ (a b:Int):yC a b=decide (a=b):=by
 cases a<;>cases b<;>rename_i m n
 ·show Nat.beq m n=_;rw[Bool.eq_iff_iff];simp;omega
 ·show false=_;simp
 ·show false=_;simp
 ·show Nat.beq m n=_;rw[Bool.eq_iff_iff];simp
theorem lA (a b:Int):u3 a b=decide (a<b):=by
 cases a<;>cases b<;>rename_i m n
 ·show Nat.blt m n=_;rw[Bool.eq_iff_iff];simp[Nat.blt_eq]
 ·show false=_;symm;simp;omega
 ·show true=_;symm;simp;omega
 ·show Nat.blt n m=_;rw[Bool.eq_iff_iff];simp[Nat.blt_eq];omega
theorem bP (b:Bool):bw b=some (.bool b):=by cases b<;>rfl
theorem g6 (b:Bool):dz b=!b:=by cases b<;>rfl
theorem eX {b:Int} {n:Nat} (h:jv b=some n):b=(n:Int):=by
 cases b with
 |ofNat m=>cases h;rfl
 |negSucc m=>cases h
theorem ai {β:Type} (b:Bool) (t e:β):ab b t e=if b then t else e:=by cases b<;>rfl
theorem DC {x y:UInt8}:Nat.beq x.toNat y.toNat=true↔x=y:=by
 constructor
 ·intro h;exact UInt8.toNat_inj.1 (Nat.eq_of_beq_eq_true h)
 ·rintro rfl;exact Nat.beq_refl _
theorem qx:∀(a b:List UInt8),Cn a b=(a==b):=by
 intro a;induction a with
 |nil=>intro b;cases b<;>rfl
 |cons x a ih=>
  intro b;cases b with
  |nil=>rfl
  |cons y b=>
   show ab (Nat.beq x.toNat y.toNat) (Cn a b) false=_;cases h:Nat.beq x.toNat y.toNat with
   |true=>have:=DC.1 h;subst this;rw[bF,ih];simp
   |false=>
    have:x≠y:= λe=>by rw[DC.2 e]at h;cases h
    show false=_;symm;simp[this]
theorem qy:∀(a b:List UInt8),Co a b=Op.bytesLess a b:=by
 intro a;induction a with
 |nil=>intro b;cases b<;>rfl
 |cons x a ih=>
  intro b;cases b with
  |nil=>rfl
  |cons y b=>
   show ab (Nat.blt x.toNat y.toNat) true (ab (Nat.beq x.toNat y.toNat) (Co a b) false)=(decide (x<y)||(x==y&&Op.bytesLess a b))
   have e1:Nat.blt x.toNat y.toNat=decide (x<y):=by rw[Bool.eq_iff_iff];simp[Nat.blt_eq,UInt8.lt_iff_toNat_lt]
   have e2:Nat.beq x.toNat y.toNat=(x==y):=by rw[Bool.eq_iff_iff,DC];simp
   rw[e1,e2,ih];cases decide (x<y)<;>cases(x==y)<;>rfl
theorem lR:∀(a b:List UInt8),Op.bytesLess a b=true->(a==b)=false∧Op.bytesLess b a=false:=by
 intro a;induction a with
 |nil=>intro b h;cases b with|nil=>cases h|cons y b=>exact⟨rfl,rfl⟩
 |cons x a ih=>
  intro b h;cases b with
  |nil=>cases h
  |cons y b=>
   simp only[Op.bytesLess,Bool.or_eq_true,decide_eq_true_eq,Bool.and_eq_true,beq_iff_eq]at h;rcases h with h|⟨rfl,h⟩
   ·have hne:x≠y:= λe=>by subst e;exact absurd h (by simp[UInt8.lt_irrefl])
    have hn:¬y<x:= λe=>absurd (UInt8.lt_trans h e) (by simp[UInt8.lt_irrefl]);have cK:y≠x:= λe=>hne e.symm;exact⟨by simp[hne],by simp[Op.bytesLess,hn,cK]⟩
   ·obtain⟨h1,h2⟩:=ih b h;refine⟨?_,?_⟩
    ·simp at h1⊢;exact h1
    ·simp[Op.bytesLess,h2,UInt8.lt_irrefl]
theorem pI:∀(a b:List UInt8),Op.bytesLess a b=false->(a==b)=false->Op.bytesLess b a=true:=by
 intro a;induction a with
 |nil=>intro b h1 h2;cases b with|nil=>cases h2|cons y b=>cases h1
 |cons x a ih=>
  intro b h1 h2;cases b with
  |nil=>rfl
  |cons y b=>
   simp only[Op.bytesLess,Bool.or_eq_false_iff,decide_eq_false_iff_not]at h1;obtain⟨hn,h3⟩:=h1;by_cases e:x=y
   ·subst e;simp at h3;have:=ih b h3 (by simpa using h2);simp[Op.bytesLess,this]
   ·have:y<x:=by
     rw[UInt8.lt_iff_toNat_lt]at hn⊢;have:x.toNat≠y.toNat:= λh=>e (UInt8.toNat_inj.1 h);omega
    simp[Op.bytesLess,this]
theorem tY (a b:List UInt8):(Op.bytesLess a b||(a==b))=!Op.bytesLess b a:=by
 cases h:Op.bytesLess a b with
 |true=>rw[(lR a b h).2];rfl
 |false=>
  cases h2:(a==b)with
  |true=>
   have:a=b:=by simpa using h2
   subst this;rw[h];rfl
  |false=>rw[pI a b h h2];rfl
variable {P:Program} {ρ:Ren}
theorem nc {op:BinOp} {k:IntKind} {a b:Int} {v:Value} {t:TypeId} (w:World) (hs:AL op=false) (h:iZ op k a b=some v):
  ∃n,(binOp op t (.int k a) (.int k b)).run P w= .ok v w∧(v= .int k n∨∃c,v= .bool c):=by
 cases op
 case shl=>cases hs
 case shr=>cases hs
 case add=>have h':fJ k (Int.add a b)=some v:=h;rw[gu]at h';cases h';exact⟨_,by simp[binOp,Op.intArith]<;>rfl,.inl rfl⟩
 case sub=>have h':fJ k (Int.sub a b)=some v:=h;rw[gu]at h';cases h';exact⟨_,by simp[binOp,Op.intArith]<;>rfl,.inl rfl⟩
 case mul=>have h':fJ k (Int.mul a b)=some v:=h;rw[gu]at h';cases h';exact⟨_,by simp[binOp,Op.intArith]<;>rfl,.inl rfl⟩
 case quo=>
  have h':ab (yC b (.ofNat 0)) none (fJ k (Int.tdiv a b))=some v:=h;obtain⟨hz,h'⟩:=bh h';rw[nQ]at hz;rw[gu]at h';cases h';have hb:¬b=0:=by simpa using hz
  exact⟨_,by simp[binOp,Op.intDiv,hb],.inl rfl⟩
 case rem=>
  have h':ab (yC b (.ofNat 0)) none (gM k (Int.tmod a b))=some v:=h;obtain⟨hz,h'⟩:=bh h';rw[nQ]at hz;rw[di]at h';cases h';have hb:¬b=0:=by simpa using hz
  exact⟨_,by simp[binOp,Op.intDiv,hb],.inl rfl⟩
 case and=>have h':gM k (k.wrap (BitVec.ofInt k.bits a&&&BitVec.ofInt k.bits b).toNat)=some v:=h;rw[di]at h';cases h';exact⟨_,by simp[binOp,Op.intBits],.inl rfl⟩
 case or=>have h':gM k (k.wrap (BitVec.ofInt k.bits a|||BitVec.ofInt k.bits b).toNat)=some v:=h;rw[di]at h';cases h';exact⟨_,by simp[binOp,Op.intBits],.inl rfl⟩
 case xor=>have h':gM k (k.wrap (BitVec.ofInt k.bits a^^^BitVec.ofInt k.bits b).toNat)=some v:=h;rw[di]at h';cases h';exact⟨_,by simp[binOp,Op.intBits],.inl rfl⟩
 case andNot=>have h':gM k (k.wrap (BitVec.ofInt k.bits a&&& ~~~BitVec.ofInt k.bits b).toNat)=some v:=h;rw[di]at h';cases h';exact⟨_,by simp[binOp,Op.intBits],.inl rfl⟩
 case eql=>have h':bw (yC a b)=some v:=h;rw[bP,nQ]at h';cases h';exact⟨0,by simp[binOp,Op.intCmp]<;>(rw[Bool.eq_iff_iff];simp),.inr ⟨_,rfl⟩⟩
 case neq=>have h':bw (dz (yC a b))=some v:=h;rw[bP,g6,nQ]at h';cases h';exact⟨0,by simp[binOp,Op.intCmp]<;>(rw[Bool.eq_iff_iff];simp),.inr ⟨_,rfl⟩⟩
 case lss=>have h':bw (u3 a b)=some v:=h;rw[bP,lA]at h';cases h';exact⟨0,by simp[binOp,Op.intCmp],.inr ⟨_,rfl⟩⟩
 case leq=>have h':bw (dz (u3 b a))=some v:=h;rw[bP,g6,lA]at h';cases h';exact⟨0,by simp[binOp,Op.intCmp]<;>(rw[Bool.eq_iff_iff];simp),.inr ⟨_,rfl⟩⟩
 case gtr=>have h':bw (u3 b a)=some v:=h;rw[bP,lA]at h';cases h';exact⟨0,by simp[binOp,Op.intCmp],.inr ⟨_,rfl⟩⟩
 case geq=>have h':bw (dz (u3 a b))=some v:=h;rw[bP,g6,lA]at h';cases h';exact⟨0,by simp[binOp,Op.intCmp]<;>(rw[Bool.eq_iff_iff];simp),.inr ⟨_,rfl⟩⟩
theorem x7 {op:BinOp} {k k':IntKind} {a:Int} {n:Nat} {v:Value} {t:TypeId} (w:World) (h:Ad op k a n=some v):
  ∃m,(binOp op t (.int k a) (.int k' (n:Int))).run P w= .ok v w∧v= .int k m:=by
 have hn:¬((n:Int)<0):=by omega
 cases op
 case shl=>have h':fJ k (Int.mul a (.ofNat (Nat.pow 2 (Nat.min n k.bits))))=some v:=h;rw[gu]at h';cases h';refine⟨_,?_,rfl⟩;simp only[binOp,Op.shift,if_neg hn];rfl
 case shr=>have h':gM k (Int.fdiv a (.ofNat (Nat.pow 2 (Nat.min n k.bits))))=some v:=h;rw[di]at h';cases h';refine⟨_,?_,rfl⟩;simp only[binOp,Op.shift,if_neg hn];rfl
 all_goals cases h
theorem wi {op:BinOp} {a b:ByteArray} {v:Value} {t:TypeId} (w:World) (h:DY op a.data.toList b.data.toList=some v):
  (binOp op t (.string a) (.string b)).run P w= .ok v w∧ag ρ v v:=by
 have ha:a.toList=a.data.toList:=ByteArray.toList_eq a;have hb:b.toList=b.data.toList:=ByteArray.toList_eq b;cases op
 case add=>
  have h':ob (sy a.data.toList b.data.toList) (λl=>ab (Nat.ble (len l) 1000000000) (some (Value.string ⟨⟨l⟩⟩)) none)=some v:=h;rw[pV]at h';obtain⟨hl,h'⟩:=ae (show ab (Nat.ble (len (a.data.toList++b.data.toList)) 1000000000) (some (Value.string ⟨⟨a.data.toList++b.data.toList⟩⟩)) none=some v from h');rw[aZ]at hl;have hsz:a.size+b.size<=1000000000:=by have:=Nat.le_of_ble_eq_true hl;simpa using this
  cases h';have e:(⟨⟨a.data.toList++b.data.toList⟩⟩:ByteArray)=a++b:=by apply ByteArray.ext;apply Array.ext';simp
  refine⟨?_,.string _⟩;have hm:¬(((a.size+b.size:Nat):Int)>IntKind.i64.max):=by simp[IntKind.max,IntKind.bits,IntKind.signed];omega
  rw[e];simp only[binOp,Op.stringOp];rw[if_neg hm];rfl
 case eql=>have h':bw (Cn a.data.toList b.data.toList)=some v:=h;rw[bP,qx]at h';cases h';exact⟨by simp only[binOp,Op.stringOp,ha,hb];rfl,.bool _⟩
 case neq=>have h':bw (dz (Cn a.data.toList b.data.toList))=some v:=h;rw[bP,g6,qx]at h';cases h';exact⟨by simp only[binOp,Op.stringOp,ha,hb];rfl,.bool _⟩
 case lss=>have h':bw (Co a.data.toList b.data.toList)=some v:=h;rw[bP,qy]at h';cases h';exact⟨by simp only[binOp,Op.stringOp,ha,hb];rfl,.bool _⟩
 case leq=>have h':bw (dz (Co b.data.toList a.data.toList))=some v:=h;rw[bP,g6,qy,<-tY]at h';cases h';exact⟨by simp only[binOp,Op.stringOp,ha,hb];rfl,.bool _⟩
 case gtr=>have h':bw (Co b.data.toList a.data.toList)=some v:=h;rw[bP,qy]at h';cases h';have:=tY a.data.toList b.data.toList;refine⟨?_,.bool _⟩;simp only[binOp,Op.stringOp,ha,hb];rw[this];simp
 case geq=>have h':bw (dz (Co a.data.toList b.data.toList))=some v:=h;rw[bP,g6,qy]at h';cases h';exact⟨by simp only[binOp,Op.stringOp,ha,hb];rfl,.bool _⟩
 all_goals cases h
end Go.Eng
namespace Go.Eng
open Go
variable {P:Program} {ρ:Ren}
theorem jm {t:TypeId} {b:Bool} (h:Eng.isAgg P t=some b) (w:World):(Go.isAgg t).run P w= .ok b w:=by
 unfold Eng.isAgg at h;split at h
 ·rename_i hu;cases h;simp[Go.isAgg,run_underlying hu]
 ·rename_i hu;cases h;simp[Go.isAgg,run_underlying hu]
 ·rename_i d h1 h2 hu;cases h;simp only[Go.isAgg,Sem.run_bind,run_underlying hu,Result.andThen_ok];cases d<;>first|rfl|exact(h1 _ rfl).elim|exact(h2 _ _ rfl).elim
 ·cases h
theorem ax {t:TypeId} {n:Nat} (h:aO P t=some n) (w:World):(sizeOf t).run P w= .ok n w:=by
 unfold aO at h;cases hi:P.info? t with
 |none=>rw[hi]at h;cases h
 |some i=>rw[hi]at h;cases h;simp[sizeOf,typeInfo,hi]
theorem BU {β:Type} {b:Bool} {o:Option β} {v:β} (h:Bool.rec (motive:= λ_=>Option β) none o b=some v):b=true∧o=some v:=by
 cases b with
 |false=>cases h
 |true=>exact⟨rfl,h⟩
theorem g9 {t:TypeId} {z:Value} (h:fF P t=some z):vc z=true∧∃i,P.info? t=some i∧i.zero=some z:=by
 unfold fF at h;cases hi:P.info? t with
 |none=>rw[hi]at h;cases h
 |some i=>
  rw[hi]at h;simp only at h;cases hz:i.zero with
  |none=>rw[hz]at h;cases h
  |some z'=>rw[hz]at h;obtain⟨h1,h2⟩:=BU h;cases h2;exact⟨h1,i,rfl,hz⟩
theorem bU {t:TypeId} {z:Value} (h:fF P t=some z) (w:World):(zeroValue t).run P w= .ok z w:=by obtain⟨_,i,hi,hz⟩:=g9 h;simp[zeroValue,typeInfo,hi,hz]
theorem lH {t:TypeId} {l:List Value} (h:xf P t=some l):∃z,fF P t=some z∧l=z.cells.toList:=by
 unfold xf at h;cases hz:fF P t with
 |none=>rw[hz]at h;cases h
 |some z=>rw[hz]at h;cases h;exact⟨z,rfl,rfl⟩
theorem rp {v:Value} (h:nL v=true):ag ρ v v∧cy v=true:=by
 unfold nL at h;split at h
 ·exact⟨.bool _,rfl⟩
 ·exact⟨.int _ _,rfl⟩
 ·exact⟨.string _,rfl⟩
 ·exact⟨.eO,rfl⟩
 ·exact⟨.ba,rfl⟩
 ·exact⟨.ij,rfl⟩
 ·exact⟨.nilFunc,rfl⟩
 ·exact⟨.nilIface,rfl⟩
 ·cases h
theorem x8 {l:List Value} (h:vE l=true):af ρ l l∧∀v∈l,cy v=true:=by
 induction l with
 |nil=>exact⟨.nil,λv hv=>by cases hv⟩
 |cons v l ih=>
  have h':Bool.rec (motive:= λ_=>Bool) false (vE l) (nL v)=true:=h;cases hv:nL v with
  |false=>rw[hv]at h';cases h'
  |true=>rw[hv]at h';obtain⟨h1,h2⟩:=rp (ρ:=ρ) hv;obtain⟨h3,h4⟩:=ih h';exact⟨.cons h1 h3,λu hu=>by rcases List.mem_cons.1 hu with rfl|hu;exact h2;exact h4 u hu⟩
theorem zx {v:Value} (h:vc v=true):ag ρ v v:=by
 unfold vc at h;split at h
 ·exact .agg (x8 h).1
 ·exact(rp h).1
theorem eY {t:TypeId} {z:Value} (h:fF P t=some z):ag ρ z z:=zx (g9 h).1
theorem zy {p q:Addr} {b:Bool} (h:Dd p q=some b):b=true∧p=q∧p.spot=none:=by
 unfold Dd at h;rw[ai]at h;split at h
 ·rename_i h1;rw[ai]at h;split at h
  ·rename_i h2;split at h
   ·rename_i e1 e2;cases h;refine⟨rfl,?_,e1⟩;cases p;cases q;simp at h1 h2 e1 e2;simp[h1,h2,e1,e2]
   ·cases h
  ·cases h
 ·cases h
def cz (x' y':Value) (lT:Bool):Prop:=(∀k a k' c,¬(x'= .int k a∧y'= .int k' c))∧(∀a c,¬(x'= .string a∧y'= .string c))∧(∀k a k' c,¬(x'= .float k a∧y'= .float k' c))∧(∀k a d k' c e,¬(x'= .complex k a d∧y'= .complex k' c e))∧
   ((x'= .nilIface∧y'= .nilIface)->lT=true)∧(∀a c,¬(x'= .agg a∧y'= .agg c))
theorem Ez {t:TypeId} (h:lh P t= .ptr):∃e i,P.underlying t=some (.pointer e)∧P.info? e=some i:=by
 unfold lh at h;split at h<;>try (cases h)
 rename_i e hu;split at h
 ·rename_i i hi;exact⟨e,i,hu,hi⟩
 ·cases h
theorem BV {t:TypeId} (h:lh P t= .bool):P.underlying t=some .bool:=by unfold lh at h;split at h<;>first|assumption|(cases h;done)|(split at h<;>cases h)
theorem zA {t:TypeId} (h:lh P t= .slice):∃e,P.underlying t=some (.slice e):=by unfold lh at h;split at h<;>first|exact⟨_,by assumption⟩|(cases h;done)|(split at h<;>cases h)
theorem EA {t:TypeId} (h:lh P t= .map):∃k e,P.underlying t=some (.map k e):=by unfold lh at h;split at h<;>first|exact⟨_,_,by assumption⟩|(cases h;done)|(split at h<;>cases h)
theorem oc {t:TypeId} (h:lh P t= .func):∃a b c,P.underlying t=some (.func a b c):=by unfold lh at h;split at h<;>first|exact⟨_,_,_,by assumption⟩|(cases h;done)|(split at h<;>cases h)
theorem lI {t:TypeId} (h:lh P t= .iface):∃ms,P.underlying t=some (.interface ms):=by unfold lh at h;split at h<;>first|exact⟨_,by assumption⟩|(cases h;done)|(split at h<;>cases h)
theorem BW {t:TypeId} {x y x' y':Value} {lT b:Bool} {ek:EK} (w:World) (EW:lh P t=ek) (h:M8 ek lT x y=some b) (hx:ag ρ x x') (hy:ag ρ y y'):
  (∀d,(Op.equalIn (d+1) t x' y').run P w= .ok b w)∧cz x' y' lT:=by
 unfold M8 at h;split at h
 ·cases hx;cases hy;rename_i a c;refine⟨λd=>?_,by simp[cz]⟩;simp only[Op.equalIn,Sem.run_bind,run_underlying (BV EW),Result.andThen_ok];cases h;cases a<;>cases c<;>rfl
 ·obtain⟨e,i,hu,hi⟩:=Ez EW;split at h
  ·cases hx;cases hy;cases h;exact⟨λd=>by simp[Op.equalIn,run_underlying hu],by simp[cz]⟩
  ·cases hx;cases hy;rename_i a1 x1 S0 r1 a2 x2 S3 r2;obtain⟨rfl,Jw,_⟩:=zy h;simp only[Addr.mk.injEq]at Jw;obtain⟨rfl,rfl,_⟩:=Jw;rw[r1]at r2;cases r2;refine⟨λd=>?_,by simp[cz]⟩;have hsz:(sizeOf e).run P w= .ok i.size w:=by simp[sizeOf,typeInfo,hi]
   simp only[Op.equalIn,Sem.run_bind,run_underlying hu,Result.andThen_ok,hsz];by_cases h0:i.size=0
   ·simp[h0]
   ·simp[h0,sameAddr]
  ·cases hx;cases hy;cases h;exact⟨λd=>by simp[Op.equalIn,run_underlying hu],by simp[cz]⟩
  ·cases hx;cases hy;cases h;exact⟨λd=>by simp[Op.equalIn,run_underlying hu],by simp[cz]⟩
 ·obtain⟨e,hu⟩:=zA EW;split at h
  ·cases hx;cases hy;cases h;exact⟨λd=>by simp[Op.equalIn,run_underlying hu],by simp[cz]⟩
  ·cases hx;cases hy;cases h;exact⟨λd=>by simp[Op.equalIn,run_underlying hu],by simp[cz]⟩
  ·cases hx;cases hy;cases h;exact⟨λd=>by simp[Op.equalIn,run_underlying hu],by simp[cz]⟩
  ·cases h
 ·obtain⟨k,e,hu⟩:=EA EW;split at h
  ·cases hx;cases hy;cases h;exact⟨λd=>by simp[Op.equalIn,run_underlying hu],by simp[cz]⟩
  ·cases hx;cases hy;cases h;exact⟨λd=>by simp[Op.equalIn,run_underlying hu],by simp[cz]⟩
  ·cases hx;cases hy;cases h;exact⟨λd=>by simp[Op.equalIn,run_underlying hu],by simp[cz]⟩
  ·cases h
 ·obtain⟨ms,hu⟩:=lI EW;obtain⟨hc,h'⟩:=ae h;cases h';cases hx;cases hy;exact⟨λd=>by simp[Op.equalIn,run_underlying hu],by simp[cz,hc]⟩
 ·obtain⟨ms,hu⟩:=lI EW;cases hx;cases hy;cases h;exact⟨λd=>by simp[Op.equalIn,run_underlying hu],by simp[cz]⟩
 ·obtain⟨ms,hu⟩:=lI EW;cases hx;cases hy;cases h;exact⟨λd=>by simp[Op.equalIn,run_underlying hu],by simp[cz]⟩
 ·obtain⟨a,b',c,hu⟩:=oc EW;cases hx;cases hy;cases h;exact⟨λd=>by simp[Op.equalIn,run_underlying hu],by simp[cz]⟩
 ·obtain⟨a,b',c,hu⟩:=oc EW;cases hx;cases hy<;>cases h<;>exact⟨λd=>by simp[Op.equalIn,run_underlying hu],by simp[cz]⟩
 ·obtain⟨a,b',c,hu⟩:=oc EW;cases hy;cases hx<;>cases h<;>exact⟨λd=>by simp[Op.equalIn,run_underlying hu],by simp[cz]⟩
 ·cases h
theorem zB {op:BinOp} {o:Option Bool} {v:Value} (h:Dc op o=some v):∃b,o=some b∧((op= .eql∧v= .bool b)∨(op= .neq∧v= .bool (!b))):=by
 cases op<;>simp only[Dc]at h<;>try (cases h)
 ·obtain⟨b,rfl,hv⟩:=U h;rw[bP]at hv;cases hv;exact⟨b,rfl,.inl ⟨rfl,rfl⟩⟩
 ·obtain⟨b,rfl,hv⟩:=U h;rw[bP,g6]at hv;cases hv;exact⟨b,rfl,.inr ⟨rfl,rfl⟩⟩
theorem binOp_eql {t:TypeId} {x' y':Value} {lT:Bool} (h:cz x' y' lT):binOp .eql t x' y'=(do pure (.bool (<-Op.equal t x' y'))):=by
 obtain⟨n1,n2,n3,n4,_,_⟩:=h;cases x'<;>cases y'<;>first
  |rfl
  |exact(n1 _ _ _ _ ⟨rfl,rfl⟩).elim
  |exact(n2 _ _ ⟨rfl,rfl⟩).elim
  |exact(n3 _ _ _ _ ⟨rfl,rfl⟩).elim
  |exact(n4 _ _ _ _ _ _ ⟨rfl,rfl⟩).elim
theorem binOp_neq {t:TypeId} {x' y':Value} {lT:Bool} (h:cz x' y' lT):binOp .neq t x' y'=(do pure (.bool (!(<-Op.equal t x' y')))):=by
 obtain⟨n1,n2,n3,n4,_,_⟩:=h;cases x'<;>cases y'<;>first
  |rfl
  |exact(n1 _ _ _ _ ⟨rfl,rfl⟩).elim
  |exact(n2 _ _ ⟨rfl,rfl⟩).elim
  |exact(n3 _ _ _ _ ⟨rfl,rfl⟩).elim
  |exact(n4 _ _ _ _ _ _ ⟨rfl,rfl⟩).elim
theorem x9 {op:BinOp} {t:TypeId} {ox oy:Operand} {x' y':Value} {lT:Bool} (w:World) (hc:lT=true->(tF ox=true∨tF oy=true))
  (h1:(x'= .nilIface∧y'= .nilIface)->lT=true) (h2:∀a c,¬(x'= .agg a∧y'= .agg c)):(eqGuard op t ox oy x' y').run P w= .ok () w:=by
 by_cases hn:x'= .nilIface∧y'= .nilIface
 ·have QO:=hc (h1 hn);obtain⟨rfl,rfl⟩:=hn;unfold eqGuard;rcases QO with h|h
  ·cases ox<;>first|(cases h;done)|(cases op<;>rfl)
  ·cases oy<;>first|(cases h;done)|(cases ox<;>cases op<;>rfl)
 ·unfold eqGuard;cases op<;>first|rfl|(cases x'<;>cases y'<;>first|rfl|exact(hn ⟨rfl,rfl⟩).elim|exact(h2 _ _ ⟨rfl,rfl⟩).elim)
theorem zC {op:BinOp} {t:TypeId} {ox oy:Operand} {x y x' y' v:Value} {lT:Bool} (w:World) (hc:lT=true->(tF ox=true∨tF oy=true))
  (h:Bg op (lh P t) lT y x=some v) (hx:ag ρ x x') (hy:ag ρ y y'):
  ((do eqGuard op t ox oy x' y';binOp op t x' y'):Sem Value).run P w= .ok v w∧ag ρ v v:=by
 have vq:∀(x' y':Value),((x'= .nilIface∧y'= .nilIface)->lT=true)->(∀a c,¬(x'= .agg a∧y'= .agg c))->(eqGuard op t ox oy x' y').run P w= .ok () w:=
  λx' y' h1 h2=>x9 w hc h1 h2
 unfold Bg at h;split at h
 ·rename_i k a k' b;cases hx;cases hy;rw[ai]at h;have hg:=vq (.int k a) (.int k' b) (by simp) (by simp);split at h
  ·rename_i hs;obtain⟨n,hn,h⟩:=U h;have hb:=eX hn;subst hb;obtain⟨m,hm,rfl⟩:=x7 (P:=P) (t:=t) (k':=k') w h;exact⟨by simp[hg,hm],.int _ _⟩
  ·rename_i hs;obtain⟨hk,hb⟩:=ae h;have fE:=jd.1 hk;subst fE;obtain⟨n,hr,hv⟩:=nc (P:=P) (t:=t) w (by simpa using hs) hb;refine⟨by simp[hg,hr],?_⟩;rcases hv with rfl|⟨c,rfl⟩
   ·exact .int _ _
   ·exact .bool _
 ·rename_i a b;cases hx;cases hy;have hg:=vq (.string a) (.string b) (by simp) (by simp);obtain⟨hr,hv⟩:=wi (P:=P) (ρ:=ρ) (t:=t) w h;exact⟨by simp[hg,hr],hv⟩
 ·rename_i k a L;unfold DZ at h;split at h
  ·rename_i a0;obtain⟨hle,h⟩:=ae h;cases h;cases hx;cases hy with
   |junk _ _ _ _ hj=>
    obtain⟨c,rfl,hc⟩:=hj rfl;have hle:a0<=L:=Nat.le_of_ble_eq_true hle;have hg:=vq (.int .i64 (.ofNat a0)) (.int .i64 (c:Int)) (by simp) (by simp);have hb:iZ .gtr .i64 (.ofNat a0) (c:Int)=some (.bool false):=by
     show bw (Nat.blt c a0)=_;have:Nat.blt c a0=false:=by
      cases e:Nat.blt c a0 with
      |false=>rfl
      |true=>have:c<a0:=Nat.le_of_ble_eq_true e;omega
     rw[this];rfl
    obtain⟨n,hr,_⟩:=nc (P:=P) (t:=t) w rfl hb;exact⟨by simp only[Sem.run_bind,hg,Result.andThen_ok,hr],.bool _⟩
  ·cases h
 ·rename_i h1 h2;obtain⟨b,hb,hv⟩:=zB h;obtain⟨yV,hev⟩:=BW (P:=P) (ρ:=ρ) w rfl hb hx hy;have hr:(Op.equal t x' y').run P w= .ok b w:=yV 9999;have hg:=vq x' y' hev.2.2.2.2.1 hev.2.2.2.2.2;rcases hv with ⟨rfl,rfl⟩|⟨rfl,rfl⟩
  ·exact⟨by simp[hg,binOp_eql hev,hr],.bool _⟩
  ·exact⟨by simp[hg,binOp_neq hev,hr],.bool _⟩
end Go.Eng
namespace Go.Eng
open Go
variable {P:Program} {ρ:Ren}
theorem BX {op:UnOp} {x x' v:Value} (w:World) (h:Nb op x=some v) (hx:ag ρ x x'):(Op.unary op x').run P w= .ok v w∧ag ρ v v:=by
 unfold Nb at h;split at h
 ·cases hx;rw[bP,g6]at h;cases h;exact⟨rfl,.bool _⟩
 ·cases hx;rw[gu]at h;cases h;rename_i k n;exact⟨by simp only[Op.unary,Op.intArith,Sem.run_pure];rfl,.int _ _⟩
 ·cases hx;rw[di]at h;cases h;exact⟨by simp[Op.unary,Op.intBits],.int _ _⟩
 ·cases h
theorem oW {t:TypeId} {cs yE:List Value} {off:Nat} {v:Value} (w:World) (h:Ae P t cs off=some v) (hc:af ρ cs yE):
  ∃u,(part t ⟨yE⟩ off).run P w= .ok u w∧ag ρ v u:=by
 unfold Ae at h;obtain⟨b,hb,h⟩:=U h;rw[ai]at h;have hA:=jm hb w;split at h
 ·rename_i JV;subst JV;obtain⟨k,hk,h⟩:=U h;obtain⟨l,hl,h⟩:=U h;obtain⟨r,hr,h⟩:=U h;cases h;obtain⟨rfl,h1⟩:=iF _ _ _ hl;obtain⟨rfl,h2⟩:=mT _ _ _ hr;refine⟨.agg ((⟨yE⟩:Array Value).extract off (off+k)),by simp[part,hA,ax hk w],.agg ?_⟩;simp only[Array.toList_extract,List.extract_eq_take_drop];have:=(hc.drop off).take k;simpa using this
 ·rename_i Cp;have Cp:b=false:=by simpa using Cp
  subst Cp;obtain⟨l,hl,h⟩:=U h;obtain⟨rfl,h1⟩:=iF _ _ _ hl;cases hd:cs.drop off with
  |nil=>rw[hd]at h;cases h
  |cons a r=>
   rw[hd]at h;injection h with h
   subst h;have fN:cs[off]? =some a:=by have:=congrArg (λl=>l[0]?) hd;simpa using this
   obtain⟨u,hu,hr⟩:=hc.get fN;exact⟨u,by simp[part,hA,hu],hr⟩
theorem wj {t:TypeId} {f:Nat} {x x' v:Value} (w:World) (h:zc P t f x=some v) (hx:ag ρ x x'):∃u,(Instr.field t x' f).run P w= .ok u w∧ag ρ v u:=by
 unfold zc at h;split at h
 ·rename_i cs;obtain⟨fl,hf,h⟩:=U h;cases hx;rename_i yE hc;unfold fieldsOf at hf;split at hf
  ·rename_i fs hu;obtain⟨u,hr,hv⟩:=oW (P:=P) (ρ:=ρ) w h hc;refine⟨u,?_,hv⟩;have:(⟨yE.toList⟩:Array Value)=yE:=rfl;rw[this]at hr;simp[Instr.field,run_underlying hu,hf,asAgg,hr]
  ·cases hf
 ·cases h
theorem oC {t:TypeId} {f:Nat} {x x' v:Value} (w:World) (h:lE P t f x=some v) (hx:ag ρ x x'):∃u,(Instr.fieldAt t x' f).run P w= .ok u w∧ag ρ v u:=by
 unfold lE at h;split at h
 ·rename_i a;obtain⟨fl,hf,h⟩:=U h;obtain⟨n,hn,h⟩:=U h;obtain⟨h0,h⟩:=bh h;rw[ak]at h;cases h;cases hx with| @ptr a x off hx=>?_
  have Nh:¬n=0:=Nat.ne_of_beq_eq_false h0;unfold fieldsOf at hf;split at hf
  ·rename_i fs hu;refine⟨.pointer (some ⟨x.b,x.base+(off+fl.offset),none⟩),?_,.ptr _ hx⟩;simp only[Instr.fieldAt,Sem.run_bind,run_underlying hu,Result.andThen_ok,hf,Instr.sureAddr,Sem.run_pure,fieldPlace,ax hn w,Sem.run_ite,if_neg Nh];congr 4;unfold Addr.add;split
   ·rename_i e;rw[e];simp
   ·simp[Nat.add_assoc]
  ·cases hf
 ·cases h
theorem fU {i:Int} {n m:Nat} (h:indexOf i n=some m):i=(m:Int)∧m<n:=by
 cases i with
 |ofNat k=>obtain⟨hb,h⟩:=ae (show ab (Nat.blt k n) (some k) none=some m from h);cases h;exact⟨rfl,by simpa[Nat.blt_eq]using hb⟩
 |negSucc k=>cases h
theorem cL (b o n:Nat):(⟨b,o,none⟩:Addr).add n=⟨b,o+n,none⟩:=by
 unfold Addr.add;split
 ·rename_i e;rw[e];rfl
 ·rfl
theorem oD {t:TypeId} {x x' i i' v:Value} (w:World) (h:jk P (P.underlying t) x i=some v) (hx:ag ρ x x') (hi:ag ρ i i'):
  ∃u,(Instr.indexAt t x' i').run P w= .ok u w∧ag ρ v u:=by
 unfold jk at h;split at h
 ·rename_i k i;cases hi;split at h
  ·rename_i a n c;split at h
   ·rename_i e hu;unfold elemAt at h;obtain⟨m,hm,h⟩:=U h;obtain⟨sz,hs,h⟩:=U h;rw[ak]at h;cases h;obtain⟨rfl,hlt⟩:=fU hm;cases hx with| @slice a x off n c cap ad hx h1 h2 h3 h4 h5=>?_
    have oQ:cap≠0:=by omega
    have h4:=h4.resolve_right oQ;subst h4;refine⟨.pointer (some ⟨x.b,x.base+(off+m*sz),none⟩),?_,.ptr _ hx⟩;have hle:(0:Int)<=(m:Int)∧(m:Int)<(n:Int):=⟨by omega,by omega⟩
    simp only[Instr.indexAt,Sem.run_bind,asIntOf,Sem.run_pure,Result.andThen_ok,run_underlying hu,if_pos hle,ax hs w,Sem.run_ite];rw[cL];simp[Nat.add_assoc]
   ·cases h
  ·rename_i a;split at h
   ·rename_i n e hu;unfold elemAt at h;obtain⟨m,hm,h⟩:=U h;obtain⟨sz,hs,h⟩:=U h;rw[ak]at h;cases h;obtain⟨rfl,hlt⟩:=fU hm;cases hx with| @ptr a x off hx=>?_
    refine⟨.pointer (some ⟨x.b,x.base+(off+m*sz),none⟩),?_,.ptr _ hx⟩;have hle:(0:Int)<=(m:Int)∧(m:Int)<(n:Int):=⟨by omega,by omega⟩
    simp only[Instr.indexAt,Sem.run_bind,asIntOf,Sem.run_pure,Result.andThen_ok,run_underlying hu,Instr.sureAddr,if_pos hle,ax hs w,Sem.run_ite];rw[cL];simp[Nat.add_assoc]
   ·cases h
  ·rename_i g off;split at h
   ·rename_i n e hu;unfold GX at h;obtain⟨m,hm,h⟩:=U h;obtain⟨sz,hs,h⟩:=U h;rw[ak]at h;cases h;obtain⟨rfl,hlt⟩:=fU hm;cases hx with| @lY g off=>?_
    refine⟨.pointer (some ⟨g,off+m*sz,none⟩),?_,.lY _ _⟩;have hle:(0:Int)<=(m:Int)∧(m:Int)<(n:Int):=⟨by omega,by omega⟩
    simp only[Instr.indexAt,Sem.run_bind,asIntOf,Sem.run_pure,Result.andThen_ok,run_underlying hu,Instr.sureAddr,if_pos hle,ax hs w,Sem.run_ite];rw[cL];simp
   ·cases h
  ·cases h
 ·cases h
theorem zD:∀ {n:Nat} {l:List UInt8} {v:Value},GS l n=some v->∃b,l[n]? =some b∧v= .int .u8 b.toNat:=by
 intro n;induction n with
 |zero=>
  intro l v h;cases l with
  |nil=>cases h
  |cons b l=>have h':ar b.toNat (λn=>some (Value.int .u8 (.ofNat n)))=some v:=h;rw[ak]at h';cases h';exact⟨b,rfl,rfl⟩
 |succ n ih=>
  intro l v h;cases l with
  |nil=>cases h
  |cons b l=>obtain⟨c,hc,hv⟩:=ih (l:=l) h;exact⟨c,by simpa using hc,hv⟩
theorem wk {t:TypeId} {x x' i i' v:Value} (w:World) (h:zd P (P.underlying t) x i=some v) (hx:ag ρ x x') (hi:ag ρ i i'):
  ∃u,(Instr.index t x' i').run P w= .ok u w∧ag ρ v u:=by
 unfold zd at h;split at h
 ·rename_i k i;cases hi;split at h
  ·rename_i b;split at h
   case h_2=>cases h
   rename_i hu;obtain⟨m,hm,h⟩:=U h;have:=eX hm;subst this;obtain⟨c,hc,rfl⟩:=zD h;cases hx;refine⟨_,?_,.int _ _⟩;have hle:(0:Int)<=(m:Int):=by omega
   have fN:b[((m:Int)).toNat]? =some c:=by rw[Int.toNat_natCast];rw[<-hc];simp[getElem?_def];rfl
   simp only[Instr.index,Sem.run_bind,asIntOf,Sem.run_pure,Result.andThen_ok,run_underlying hu,if_pos hle,fN]
  ·rename_i cs;split at h
   ·rename_i n e hu;obtain⟨m,hm,h⟩:=U h;obtain⟨sz,hs,hp⟩:=U h;obtain⟨rfl,hlt⟩:=fU hm;cases hx;rename_i yE hc;obtain⟨u,hr,hv⟩:=oW (P:=P) (ρ:=ρ) w hp hc;refine⟨u,?_,hv⟩;have hle:(0:Int)<=(m:Int)∧(m:Int)<(n:Int):=⟨by omega,by omega⟩
    have:(⟨yE.toList⟩:Array Value)=yE:=rfl;rw[this]at hr;simp only[Instr.index,Sem.run_bind,asIntOf,Sem.run_pure,Result.andThen_ok,run_underlying hu,if_pos hle,ax hs w,Sem.run_ite];simpa using hr
   ·cases h
  ·cases h
 ·cases h
theorem sf {i:Nat} {x x' v:Value} (w:World) (h:qG i x=some v) (hx:ag ρ x x'):∃u,(Instr.extract x' i).run P w= .ok u w∧ag ρ v u:=by
 unfold qG at h;split at h
 ·rename_i vs;unfold KQ at h;obtain⟨l,hl,h⟩:=U h;obtain⟨rfl,h1⟩:=iF _ _ _ hl;cases hd:vs.toList.drop i with
  |nil=>rw[hd]at h;cases h
  |cons a r=>
   rw[hd]at h;injection h with h
   subst h;have fN:vs.toList[i]? =some a:=by have:=congrArg (λl=>l[0]?) hd;simpa using this
   cases hx;rename_i Hw hc;obtain⟨u,hu,hr⟩:=hc.get fN;refine⟨u,?_,hr⟩;have lU:Hw[i]? =some u:=by simpa using hu
   simp[Instr.extract,lU]
 ·cases h
theorem zE {ts:Array TypeId} {ty:TypeId} {l l':List Value} {v:Value} (w:World) (h:H3 P (lj P ts 0) l=some v) (hl:af ρ l l'):
  (Builtin.len_ ts ty ⟨l'⟩).run P w= .ok v w∧ag ρ v v:=by
 unfold H3 lj at h;cases ht:ts[0]? with
 |none=>rw[ht]at h;cases h
 |some t=>
  rw[ht]at h;simp only at h;split at h
  ·rename_i e a n c hu;cases h;cases hl with|cons hx hs=>cases hs;cases hx<;>exact⟨by simp[Builtin.len_,ht,run_underlying hu,goInt],.int _ _⟩
  ·rename_i b hu;rw[ak,aZ]at h;cases h;cases hl with|cons hx hs=>cases hs;cases hx;exact⟨by simp[Builtin.len_,ht,run_underlying hu,goInt],.int _ _⟩
  ·rename_i n e x hu;cases h;cases hl with|cons hx hs=>cases hs;exact⟨by simp[Builtin.len_,ht,run_underlying hu,goInt],.int _ _⟩
  ·rename_i arr x hu;split at h
   ·rename_i n e GB;cases h;cases hl with|cons hx hs=>cases hs;exact⟨by simp[Builtin.len_,ht,run_underlying hu,run_underlying GB,goInt],.int _ _⟩
   ·cases h
  ·cases h
theorem zF {ts:Array TypeId} {ty:TypeId} {l l':List Value} {v:Value} (w:World) (h:H5 (lj P ts 0) l=some v) (hl:af ρ l l'):
  ∃u,(Builtin.cap_ ts ty ⟨l'⟩).run P w= .ok u w∧ag ρ v u:=by
 unfold H5 lj at h;cases ht:ts[0]? with
 |none=>rw[ht]at h;cases h
 |some t=>
  rw[ht]at h;simp only at h;split at h
  ·rename_i e a n c hu;rw[ai]at h;split at h
   ·rename_i he;rw[ak]at h;cases h;cases hl with
    |cons hx hs=>
     cases hs;cases hx with
     |ba=>exact⟨_,by simp[Builtin.cap_,ht,run_underlying hu,goInt,ef],.int _ _⟩
     |slice off n c cap ad hx h1 h2 h3 h4 h5=>have:c%2=1:=Nat.eq_of_beq_eq_true (show Nat.beq (Nat.mod c 2) 1=true from he);have hc:=h3 this;subst hc;exact⟨_,by simp[Builtin.cap_,ht,run_underlying hu,goInt,ef];rfl,.int _ _⟩
   ·rw[ak]at h;cases h;cases hl with
    |cons hx hs=>
     cases hs;cases hx with
     |ba=>rename_i he;exact(he rfl).elim
     |slice off n c cap ad hx h1 h2 h3 h4 h5=>exact⟨.int .i64 cap,by simp[Builtin.cap_,ht,run_underlying hu,goInt],.junk _ _ _ rfl λ_=>⟨cap,rfl,h2⟩⟩
  ·cases h
theorem oX {f:Value->Value->Option Value} {g:Value->Value->Sem Value} (w:World) (QP:∀x y x' y' v,f x y=some v->ag ρ x x'->ag ρ y y'->∃u,(g x' y').run P w= .ok u w∧ag ρ v u):
  ∀ {l l':List Value} {x x' v:Value},Dh f l x=some v->af ρ l l'->ag ρ x x'->∃u,(l'.foldlM g x').run P w= .ok u w∧ag ρ v u:=by
 intro l;induction l with
 |nil=>intro l' x x' v h hl hx;cases h;cases hl;exact⟨x',rfl,hx⟩
 |cons y l ih=>
  intro l' x x' v h hl hx;cases hl with
  |cons hy hs=>obtain⟨z,hz,h⟩:=U (show ob (f x y) (Dh f l)=some v from h);obtain⟨u,hu,hr⟩:=QP _ _ _ _ _ hz hx hy;obtain⟨q,hq,er⟩:=ih h hs hr;exact⟨q,by simp[List.foldlM,hu,hq],er⟩
theorem BY {ts:Array TypeId} {ty:TypeId} {l l':List Value} {v:Value} (w:World) (h:Ah Df l=some v) (hl:af ρ l l'):
  ∃u,(Builtin.max_ ts ty ⟨l'⟩).run P w= .ok u w∧ag ρ v u:=by
 cases hl with
 |nil=>cases h
 |cons hx hs=>
  refine oX (P:=P) w ?_ h hs hx;intro x y x' y' v h hx hy;unfold Df at h;split at h
  ·cases h;cases hx;cases hy;rename_i k a k' b;rw[ai,lA];refine⟨_,?_,.int _ _⟩;by_cases hlt:a<b<;>simp[Builtin.max2,hlt]
  ·cases h
theorem BZ {ts:Array TypeId} {ty:TypeId} {l l':List Value} {v:Value} (w:World) (h:Ah Dg l=some v) (hl:af ρ l l'):
  ∃u,(Builtin.min_ ts ty ⟨l'⟩).run P w= .ok u w∧ag ρ v u:=by
 cases hl with
 |nil=>cases h
 |cons hx hs=>
  refine oX (P:=P) w ?_ h hs hx;intro x y x' y' v h hx hy;unfold Dg at h;split at h
  ·cases h;cases hx;cases hy;rename_i k a k' b;rw[ai,lA];refine⟨_,?_,.int _ _⟩;by_cases hlt:b<a<;>simp[Builtin.min2,hlt]
  ·cases h
end Go.Eng
namespace Go.Eng
open Go
variable {P:Program} {ρ:Ren}
inductive gh (ρ:Ren):Option Value->Option Value->Prop where
 |none:gh ρ none none
 |some {v u:Value} (h:ag ρ v u):gh ρ (some v) (some u)
theorem fC {d l:Nat} {o o':Option Value} (h:ew d o=some l) (ho:gh ρ o o'):(o'=none∧l=d)∨∃k,o'=some (.int k (l:Int)):=by
 unfold ew at h;split at h
 ·cases h;cases ho;exact .inl ⟨rfl,rfl⟩
 ·rename_i k n;have:=eX h;subst this;cases ho with|some hv=>cases hv;exact .inr ⟨_,rfl⟩
 ·cases h
theorem bl {k:IntKind} {l y:Nat} {code:BoundsCode} (w:World) (h:l<=y):(Instr.sliceBound (.int k (l:Int)) y code).run P w= .ok l w:=by
 have hle:(0:Int)<=(l:Int)∧(l:Int)<=(y:Int):=⟨by omega,by omega⟩
 simp only[Instr.sliceBound,Sem.run_bind,asIntOf,Sem.run_pure,Result.andThen_ok,if_pos hle,Int.toNat_natCast]
theorem cN {isS:Bool} {n cap l h:Nat} {lo hi eQ pG:Option Value} (w:World) (hl:ew 0 lo=some l) (hh:ew n hi=some h) (rl:gh ρ lo eQ) (rh:gh ρ hi pG) (h1:l<=h) (h2:h<=cap):
  (Instr.sliceBounds isS n cap eQ pG none).run P w= .ok (l,h,cap) w:=by
 rcases fC hl rl with ⟨rfl,rfl⟩|⟨k,rfl⟩<;>rcases fC hh rh with ⟨rfl,rfl⟩|⟨k',rfl⟩
 ·simp[Instr.sliceBounds]
 ·simp[Instr.sliceBounds,bl w h2]
 ·simp[Instr.sliceBounds,bl w h1]
 ·simp[Instr.sliceBounds,bl w h1,bl w h2]
theorem iT {isS:Bool} {n cap l h m:Nat} {lo hi mx eQ pG Cq:Option Value} {v u:Value} (w:World) (hl:ew 0 lo=some l) (hh:ew n hi=some h) (hm:ew 0 mx=some m) (rl:gh ρ lo eQ) (rh:gh ρ hi pG) (rm:gh ρ mx Cq)
  (e1:hi=some v) (e2:mx=some u) (h1:l<=h) (h2:h<=m) (h3:m<=cap):(Instr.sliceBounds isS n cap eQ pG Cq).run P w= .ok (l,h,m) w:=by
 subst e1;subst e2;rcases fC hm rm with ⟨rfl,_⟩|⟨k3,rfl⟩
 ·cases rm
 rcases fC hh rh with ⟨rfl,_⟩|⟨k2,rfl⟩
 ·cases rh
 rcases fC hl rl with ⟨rfl,rfl⟩|⟨k,rfl⟩
 ·simp[Instr.sliceBounds,bl w h3,bl w h2]
 ·simp[Instr.sliceBounds,bl w h3,bl w h2,bl w h1]
theorem eG {l h m:Nat} {β:Type} {o:Option β} {v:β} (e:ab (mz l h m) o none=some v):l<=h∧h<=m∧o=some v:=by
 obtain⟨hb,e⟩:=ae e;have cr:ab (Nat.ble l h) (Nat.ble h m) false=true:=hb;rw[ai]at cr;split at cr
 ·rename_i h1;exact⟨Nat.le_of_ble_eq_true h1,Nat.le_of_ble_eq_true cr,e⟩
 ·cases cr
theorem eH {a:Addr} {off n c:Nat} {v:Value} (h:mkSlice a off n c=some v):v= .slice (some ⟨a.block,off,none⟩) n c:=by unfold mkSlice at h;simp only[ak]at h;exact(Option.some.inj h).symm
theorem s8 {t e:TypeId} {sz:Nat} {base:Option Addr} {n c:Nat} {x' v:Value} {lo hi mx eQ pG Cq:Option Value} (w:World) (hu:P.underlying t=some (.slice e)) (hs:aO P e=some sz)
  (h:pR sz base n c lo hi mx=some v) (hx:ag ρ (.slice base n c) x') (rl:gh ρ lo eQ) (rh:gh ρ hi pG) (rm:gh ρ mx Cq):
  ∃u,(Instr.sliceAt t x' eQ pG Cq).run P w= .ok u w∧ag ρ v u:=by
 unfold pR at h;obtain⟨l,hl,h⟩:=U h;obtain⟨hh,BI,h⟩:=U h;have red:(Instr.sliceAt t x' eQ pG Cq).run P w=(Instr.slice t x' eQ pG Cq).run P w:=by simp only[Instr.sliceAt,Sem.run_bind,run_underlying hu,Result.andThen_ok]
 rw[red];split at h
 ·cases rm;obtain⟨h1,h2,h⟩:=eG h;cases hx with
  |ba=>
   have QQ:hh=0:=by have:ef none 0=0:=rfl;omega
   subst QQ;have hl0:l=0:=by omega
   subst hl0;cases h;have hb:=cN (P:=P) (ρ:=ρ) (isS:=true) (cap:=0) w hl BI rl rh (Nat.le_refl _) (Nat.le_refl _);exact⟨_,by simp[Instr.slice,run_underlying hu,hb,ax hs w],.ba⟩
  | @slice a x off n c cap ad hx k1 k2 k3 k4 k5=>
   have EX:ef (some (⟨a,off,none⟩:Addr)) c=c/512:=rfl;rw[EX]at h2;have QR:hh<=cap:=by omega
   have hb:=cN (P:=P) (ρ:=ρ) (isS:=true) (cap:=cap) w hl BI rl rh h1 QR;have hrun:(Instr.slice t (.slice (some ad) n cap) eQ pG none).run P w= .ok (.slice (if cap=l then some ad else some (ad.add (l*sz))) (hh-l) (cap-l)) w:=by simp only[Instr.slice,Sem.run_bind,run_underlying hu,Result.andThen_ok,hb,ax hs w,Sem.run_pure,Option.map_some]
   rw[hrun];have Ii:∃EY:Addr,(if cap=l then some ad else some (ad.add (l*sz)))=some EY∧(EY=⟨x.b,x.base+(off+l*sz),none⟩∨cap-l=0):=by
    by_cases e:cap=l
    ·exact⟨ad,by rw[if_pos e],.inr (by omega)⟩
    ·refine⟨ad.add (l*sz),by rw[if_neg e],.inl ?_⟩;have:=k4.resolve_right (by omega);subst this;rw[cL];simp[Nat.add_assoc]
   obtain⟨EY,e2,hd⟩:=Ii;rw[e2];simp only at h;rw[ai]at h;split at h
   ·rename_i hex;have Ik:c%2=1:=Nat.eq_of_beq_eq_true (show Nat.beq (Nat.mod c 2) 1=true from hex);have oQ:=k3 Ik;rw[eH h];have lZ:codeEx (Nat.sub (Nat.div c 512) l)/512=cap-l:=by
     show(512*(c/512-l)+1)/512=cap-l;rw[oQ];omega
    have Cr:codeEx (Nat.sub (Nat.div c 512) l)%2=1:=by show(512*(c/512-l)+1)%2=1;omega
    refine⟨_,rfl,ag.slice _ _ _ _ EY hx ?_ ?_ ?_ hd ?_⟩
    ·rw[lZ];show hh-l<=cap-l;omega
    ·rw[lZ];exact Nat.le_refl _
    ·intro _;rw[lZ]
    ·intro he;rw[Cr]at he;cases he
   ·rename_i hex;have Ik:c%2=0:=by
     have hf:jw (some (⟨a,off,none⟩:Addr)) c=false:=by simpa using hex
     have:=Nat.ne_of_beq_eq_false (show Nat.beq (c%2) 1=false from hf);omega
    obtain⟨hsz,h⟩:=ae h;have yP:c%512/2=sz:=Nat.eq_of_beq_eq_true hsz;rw[eH h];have hlt:sz<256:=by omega
    have lZ:codeLB (Nat.sub (Nat.div c 512) l) sz/512=c/512-l:=by show(512*(c/512-l)+2*sz)/512=_;omega
    have Cr:codeLB (Nat.sub (Nat.div c 512) l) sz%2=0:=by show(512*(c/512-l)+2*sz)%2=0;omega
    have es:codeLB (Nat.sub (Nat.div c 512) l) sz%512/2=sz:=by show(512*(c/512-l)+2*sz)%512/2=sz;omega
    refine⟨_,rfl,ag.slice _ _ _ _ EY hx ?_ ?_ ?_ hd ?_⟩
    ·rw[lZ];show hh-l<=c/512-l;omega
    ·rw[lZ];omega
    ·intro he;rw[Cr]at he;cases he
    ·intro _;rw[es];have:=k5 Ik;rw[yP]at this;show x.base+(off+l*sz)+(cap-l)*sz<=x.ao;have hle:l<=cap:=by omega
     have:(cap-l)*sz+l*sz=cap*sz:=by rw[<-Nat.add_mul];congr 1;omega
     omega
 ·rename_i m;obtain⟨mm,hm,h⟩:=U h;obtain⟨h1,h2,h⟩:=eG h;obtain⟨h3,h⟩:=ae h;have QS:=Nat.le_of_ble_eq_true h3;cases hx with
  |ba=>
   have QT:mm=0:=by have:ef none 0=0:=rfl;omega
   subst QT;have QU:hh=0:=by omega
   subst QU;have hl0:l=0:=by omega
   subst hl0;cases hi with
   |none=>cases h
   |some hv=>cases h;have hb:=iT (P:=P) (ρ:=ρ) (isS:=true) (cap:=0) w hl BI hm rl rh rm rfl rfl (Nat.le_refl _) (Nat.le_refl _) (Nat.le_refl _);exact⟨_,by simp[Instr.slice,run_underlying hu,hb,ax hs w],.ba⟩
  | @slice a x off n c cap ad hx k1 k2 k3 k4 k5=>
   have EX:ef (some (⟨a,off,none⟩:Addr)) c=c/512:=rfl;rw[EX]at QS;have Oq:mm<=cap:=by omega
   cases hi with
   |none=>cases h
   |some hv=>
    simp only at h;have hb:=iT (P:=P) (ρ:=ρ) (isS:=true) (cap:=cap) w hl BI hm rl rh rm rfl rfl h1 h2 Oq;have hrun:(Instr.slice t (.slice (some ad) n cap) eQ pG Cq).run P w= .ok (.slice (if mm=l then some ad else some (ad.add (l*sz))) (hh-l) (mm-l)) w:=by simp only[Instr.slice,Sem.run_bind,run_underlying hu,Result.andThen_ok,hb,ax hs w,Sem.run_pure,Option.map_some]
    rw[hrun];have Ii:∃EY:Addr,(if mm=l then some ad else some (ad.add (l*sz)))=some EY∧(EY=⟨x.b,x.base+(off+l*sz),none⟩∨mm-l=0):=by
     by_cases e:mm=l
     ·exact⟨ad,by rw[if_pos e],.inr (by omega)⟩
     ·refine⟨ad.add (l*sz),by rw[if_neg e],.inl ?_⟩;have:=k4.resolve_right (by omega);subst this;rw[cL];simp[Nat.add_assoc]
    obtain⟨EY,e2,hd⟩:=Ii;rw[e2,eH h];have lZ:codeEx (Nat.sub mm l)/512=mm-l:=by show(512*(mm-l)+1)/512=mm-l;omega
    have Cr:codeEx (Nat.sub mm l)%2=1:=by show(512*(mm-l)+1)%2=1;omega
    refine⟨_,rfl,ag.slice _ _ _ _ EY hx ?_ ?_ ?_ hd ?_⟩
    ·rw[lZ];show hh-l<=mm-l;omega
    ·rw[lZ];exact Nat.le_refl _
    ·intro _;rw[lZ]
    ·intro he;rw[Cr]at he;cases he
theorem nd {sz n l h:Nat} {a:Nat} {x:Loc} {off:Nat} (hx:ρ a=some x) (h1:l<=h) (h2:h<=n):
  ag ρ (.slice (some ⟨a,off+l*sz,none⟩) (h-l) (codeEx (n-l))) (.slice (some (if n=l then⟨x.b,x.base+off,none⟩else(⟨x.b,x.base+off,none⟩:Addr).add (l*sz))) (h-l) (n-l)):=by
 have lZ:codeEx (n-l)/512=n-l:=by show(512*(n-l)+1)/512=_;omega
 have Cr:codeEx (n-l)%2=1:=by show(512*(n-l)+1)%2=1;omega
 refine ag.slice _ _ _ _ _ hx ?_ ?_ ?_ ?_ ?_
 ·rw[lZ];omega
 ·rw[lZ];exact Nat.le_refl _
 ·intro _;rw[lZ]
 ·by_cases e:n=l
  ·exact .inr (by omega)
  ·left;rw[if_neg e,cL];simp[Nat.add_assoc]
 ·intro he;rw[Cr]at he;cases he
theorem wm {t:TypeId} {x x' v:Value} {lo hi mx eQ pG Cq:Option Value} (w:World) (h:y7 P (P.underlying t) x lo hi mx=some v) (hx:ag ρ x x') (rl:gh ρ lo eQ) (rh:gh ρ hi pG) (rm:gh ρ mx Cq):
  ∃u,(Instr.sliceAt t x' eQ pG Cq).run P w= .ok u w∧ag ρ v u:=by
 unfold y7 at h;split at h
 ·rename_i s;generalize hu:P.underlying t=d at h;rcases d with _|d
  ·cases h
  cases d<;>first|(cases h;done)|skip
  ·replace h:qC s.data.toList lo hi mx=some v:=h;unfold qC at h;split at h
   ·cases rm;obtain⟨l,hl,h⟩:=U h;obtain⟨hh,BI,h⟩:=U h;obtain⟨h1,h2,h⟩:=eG h;obtain⟨s1,gE,h⟩:=U h;obtain⟨s2,hs2,h⟩:=U h;cases h;obtain⟨rfl,_⟩:=Ep _ _ _ gE;obtain⟨rfl,_⟩:=xB _ _ _ hs2;cases hx;rw[aZ]at BI h2;have hsz:s.data.toList.length=s.size:=by simp
    rw[hsz]at BI h2;have hb:=cN (P:=P) (ρ:=ρ) (isS:=false) (cap:=s.size) w hl BI rl rh h1 h2;refine⟨.string (s.extract l hh),?_,?_⟩
    ·simp only[Instr.sliceAt,Instr.slice,Sem.run_bind,run_underlying hu,Result.andThen_ok,hb,Sem.run_pure,Option.isSome_none,Bool.false_eq_true,if_false]
    ·have e:(⟨⟨List.take (Nat.sub hh l) (List.drop l s.data.toList)⟩⟩:ByteArray)=s.extract l hh:=by
      apply ByteArray.ext;apply Array.ext';rw[ByteArray.data_extract,Array.toList_extract,List.extract_eq_take_drop];rfl
     rw[e];exact .string _
   ·cases h
 ·rename_i base n c;generalize hu:P.underlying t=d at h;rcases d with _|d
  ·cases h
  cases d<;>first|(cases h;done)|skip
  ·rename_i e;replace h:ob (aO P e) (λsz=>pR sz base n c lo hi mx)=some v:=h;obtain⟨sz,hs,h⟩:=U h;exact s8 w hu hs h hx rl rh rm
 ·rename_i a;generalize hu:P.underlying t=d at h;rcases d with _|d
  ·cases h
  cases d<;>first|(cases h;done)|skip
  rotate_left
  ·rename_i n e;replace h:ob (aO P e) (λsz=>fw sz a n lo hi mx)=some v:=h;obtain⟨sz,hs,h⟩:=U h;unfold fw at h;split at h
   ·cases rm;obtain⟨l,hl,h⟩:=U h;obtain⟨hh,BI,h⟩:=U h;obtain⟨h1,h2,h⟩:=eG h;rw[eH h];cases hx with| @ptr a x off hx=>?_
    have hb:=cN (P:=P) (ρ:=ρ) (isS:=false) (cap:=n) w hl BI rl rh h1 h2;refine⟨_,?_,nd hx h1 h2⟩;simp only[Instr.sliceAt,Sem.run_bind,run_underlying hu,Result.andThen_ok,Instr.sureAddr,Sem.run_pure,hb,ax hs w]
   ·cases h
  ·rename_i arr;generalize GB:P.underlying arr=d at h;rcases d with _|d
   ·replace h:(match P.underlying arr with|some (.array n e)=> λlo hi mx=>ob (aO P e) λsz=>fw sz a n lo hi mx|_=> λ_ _ _=>none) lo hi mx=some v:=h;rw[GB]at h;cases h
   replace h:(match P.underlying arr with|some (.array n e)=> λlo hi mx=>ob (aO P e) λsz=>fw sz a n lo hi mx|_=> λ_ _ _=>none) lo hi mx=some v:=h;rw[GB]at h;cases d<;>first|(cases h;done)|skip
   ·rename_i n e;replace h:ob (aO P e) (λsz=>fw sz a n lo hi mx)=some v:=h;obtain⟨sz,hs,h⟩:=U h;unfold fw at h;split at h
    ·cases rm;obtain⟨l,hl,h⟩:=U h;obtain⟨hh,BI,h⟩:=U h;obtain⟨h1,h2,h⟩:=eG h;rw[eH h];cases hx with| @ptr a x off hx=>?_
     have hb:=cN (P:=P) (ρ:=ρ) (isS:=false) (cap:=n) w hl BI rl rh h1 h2;refine⟨_,?_,nd hx h1 h2⟩;simp only[Instr.sliceAt,Instr.slice,Sem.run_bind,run_underlying hu,run_underlying GB,Result.andThen_ok,asAddr,Sem.run_pure,hb,ax hs w]
    ·cases h
 ·cases h
end Go.Eng
namespace Go.Eng
open Go
variable {P:Program} {ρ:Ren}
theorem AX {f:Nat->Option Value}:∀(l:List Value),(∀(j:Nat) (v:Value),l[j]? =some v->∃u,f j=some u∧ag ρ v u)->∃m,af ρ l m∧∀(j:Nat) (u:Value),m[j]? =some u->f j=some u:=by
 intro l;induction l generalizing f with
 |nil=>intro _;exact⟨[],.nil,λj u h=>by simp at h⟩
 |cons v l ih=>
  intro h;obtain⟨u,hu,hr⟩:=h 0 v rfl;obtain⟨m,hm,hg⟩:=ih (f:= λj=>f (j+1)) (λj w hw=>h (j+1) w (by simpa using hw));refine⟨u::m,.cons hr hm,λj x hx=>?_⟩;cases j with
  |zero=>cases hx;exact hu
  |succ j=>exact hg j x (by simpa using hx)
theorem bN {β:Type} {b:Option Blk} {k:T (List Value)->Nat->Nat->Bool->TypeId->Option β} {v:β} (h:dC b k=some v):∃c sz n ro et,b=some (.cells c sz n ro et)∧k c sz n ro et=some v:=by
 cases b with
 |none=>cases h
 |some b=>cases b<;>first|(cases h;done)|exact⟨_,_,_,_,_,rfl,h⟩
theorem bj {β:Type} {b:Option Blk} {k:TypeId->List (Value×Value×Nat)->Nat->Option β} {v:β} (h:mapOf b k=some v):∃kt es ck,b=some (.map kt es ck)∧k kt es ck=some v:=by
 cases b with
 |none=>cases h
 |some b=>cases b<;>first|(cases h;done)|exact⟨_,_,_,rfl,h⟩
theorem aB {α β:Type} {o:Option α} {k:α->Option β} {v:β} (h:Option.rec (motive:= λ_=>Option β) none k o=some v):∃a,o=some a∧k a=some v:=U h
theorem kd {s:AS} {w:World} {a off k:Nat} {x:Loc} {l:List Value} (hr:Rel P ρ s w) (hx:ρ a=some x) (h:tD s a off k=some l):
  l.length=k∧∃m,af ρ l m∧∀(j:Nat) (u:Value),m[j]? =some u->w.cell? ⟨x.b,x.base+off+j,none⟩=some u:=by
 obtain⟨c,sz,n,ro,et,hb,h⟩:=bN h;obtain⟨e,he,h⟩:=aB h;obtain⟨_,hC⟩:=hr.blk a _ x hb hx;have hC:aL P ρ x w c sz n ro et:=hC;obtain⟨hi,hlen,hcell⟩:=hC.cell _ _ he;have Mp:off/sz*sz+off%sz=off:=by rw[Nat.mul_comm];exact Nat.div_add_mod off sz
 have key:∀(l':List Value) (j0:Nat),(∀j v,l'[j]? =some v->e[off%sz+j]? =some v)->∃m,af ρ l' m∧∀(j:Nat) (u:Value),m[j]? =some u->w.cell? ⟨x.b,x.base+off+j,none⟩=some u:=by
  intro l' _ Fo;refine AX (f:= λj=>w.cell? ⟨x.b,x.base+off+j,none⟩) l' (λj v hv=>?_);obtain⟨u,hu,er⟩:=hcell _ v (Fo j v hv);refine⟨u,?_,er⟩;have e2:x.base+(Nat.div off sz*sz+(off%sz+j))=x.base+off+j:=by have:Nat.div off sz=off/sz:=rfl;rw[this];omega
  rw[e2]at hu;exact hu
 rw[ai]at h;split at h
 ·rename_i hk;have fE:=Nat.eq_of_beq_eq_true hk;obtain⟨h0,h⟩:=ae h;cases h;have Nh:off%sz=0:=Nat.eq_of_beq_eq_true h0;exact⟨by omega,key _ 0 (λj v hv=>by rw[Nh,Nat.zero_add];exact hv)⟩
 ·obtain⟨l1,h1,h⟩:=aB h;obtain⟨rfl,hd⟩:=iF _ _ _ h1;obtain⟨rfl,ht⟩:=mT _ _ _ h;have e0:Nat.mod off sz=off%sz:=rfl;rw[e0]at ht hd;refine⟨by simp at ht⊢;rw[e0];omega,key _ 0 (λj v hv=>?_)⟩;rw[e0]at hv;rw[List.getElem?_take]at hv;split at hv
  ·rwa[List.getElem?_drop]at hv
  ·cases hv
theorem ya {n:String} {vs:List Value} {i:Nat} {v:Value} (h:gW n=some vs) (hv:vs[i]? =some v):ag ρ v v:=by
 unfold gW at h;cases hb:(n== "internal/strconv.uint64pow10")with
 |false=>rw[hb]at h;cases h
 |true=>rw[hb]at h;cases h;obtain⟨j,_,rfl⟩:=List.mem_map.1 (List.mem_of_getElem? hv);exact .int _ _
theorem yb {s:AS} {w:World} {t:TypeId} {a a' v:Value} (hr:Rel P ρ s w) (h:xh P t a=some v) (ha:ag ρ a a'):∃u,(Instr.loadAt t a').run P w= .ok u w∧ag ρ v u:=by
 unfold xh at h;split at h
 ·rename_i g off;cases ha with| @lY g off=>?_
  obtain⟨b,hb,h⟩:=U h;have hA:=jm hb w;rw[ai]at h;split at h
  ·cases h
  ·rename_i Cp;have Cp:b=false:=by simpa using Cp
   subst Cp;obtain⟨gl,hg,h⟩:=U h;obtain⟨vs,wY,h⟩:=U h;obtain⟨_,_,hc⟩:=hr.gl g gl vs hg (Gh wY);have hc:=hc off v h;refine⟨v,?_,ya wY h⟩;simp only[Instr.loadAt,Instr.sureAddr,Sem.run_bind,Sem.run_pure,Result.andThen_ok,loadVar,hA,Bool.false_eq_true,if_false,run_load,hc]
 ·cases h
theorem oY {s:AS} {w:World} {t:TypeId} {a a' v:Value} (hr:Rel P ρ s w) (h:tG P t s a=some v) (ha:ag ρ a a'):∃u,(Instr.loadAt t a').run P w= .ok u w∧ag ρ v u:=by
 unfold tG at h;split at h
 ·rename_i ad;cases ha with| @ptr a x off hx=>?_
  obtain⟨b,hb,h⟩:=U h;have hA:=jm hb w;rw[ai]at h;split at h
  ·rename_i JV;subst JV;obtain⟨n,hn,h⟩:=U h;obtain⟨l,hl,h⟩:=U h;cases h;obtain⟨hlen,m,hm,hg⟩:=kd hr hx hl;have QV:m.length=n:=by rw[<-hm.length,hlen]
   have hrun:=run_loadCells_list (P:=P) w ⟨x.b,x.base+off,none⟩ m (λj v hv=>by rw[cL];exact hg j v hv);rw[QV]at hrun;exact⟨.agg m.toArray,by simp only[Instr.loadAt,Instr.sureAddr,Sem.run_bind,Sem.run_pure,Result.andThen_ok,loadVar,hA,if_true,ax hn w,hrun],.agg hm⟩
  ·rename_i Cp;have Cp:b=false:=by simpa using Cp
   subst Cp;obtain⟨l,hl,h⟩:=U h;obtain⟨hlen,m,hm,hg⟩:=kd hr hx hl;cases l with
   |nil=>cases h
   |cons v0 r=>
    injection h with h
    subst h;cases hm with
    |cons hv hs=>rename_i u ms;have hc:=hg 0 u rfl;rw[Nat.add_zero]at hc;refine⟨u,?_,hv⟩;simp only[Instr.loadAt,Instr.sureAddr,Sem.run_bind,Sem.run_pure,Result.andThen_ok,loadVar,hA,Bool.false_eq_true,if_false,run_load,hc]
 ·exact yb hr h ha
theorem fq (b:Nat):∀(vs:List Value) (o:Nat) (w:World),(w.setCells b o vs).heap.size=w.heap.size
 | [],_,_=>rfl
 |v::r,o,w=>by rw[World.setCells,fq b r];simp[World.setCell]
theorem gH (b:Nat):∀(vs:List Value) (o:Nat) (w:World) (k:Nat),k≠b->(w.setCells b o vs).heap[k]? =w.heap[k]?
 | [],_,_,_,_=>rfl
 |v::r,o,w,k,h=>by rw[World.setCells,gH b r _ _ k h];simp[World.setCell,Array.getElem?_modify,Ne.symm h]
theorem im (b:Nat):∀(vs:List Value) (o:Nat) (w:World),(w.setCells b o vs).tape=w.tape∧(w.setCells b o vs).os=w.os∧(w.setCells b o vs).output=w.output∧(w.setCells b o vs).drawn=w.drawn
 | [],_,_=>⟨rfl,rfl,rfl,rfl⟩
 |v::r,o,w=>by rw[World.setCells];exact im b r (o+1) _
theorem sg (w:World) (a:Addr) (v:Value) (r:Nat):(w.setCell a v).shape? r=w.shape? r:=by
 simp only[World.shape?,World.setCell,Array.getElem?_modify];by_cases h:a.block=r
 ·rw[if_pos h];subst h;cases hk:w.heap[a.block]? with
  |none=>rfl
  |some o=>cases o<;>simp;split<;>simp
 ·rw[if_neg h]
theorem dP (b:Nat):∀(vs:List Value) (o:Nat) (w:World) (r:Nat),(w.setCells b o vs).shape? r=w.shape? r
 | [],_,_,_=>rfl
 |v::rs,o,w,r=>by rw[World.setCells,dP b rs,sg]
theorem ng:∀ {l:List Value},jN l=true->∀v∈l,cy v=true:=by
 intro l;induction l with
 |nil=>intro _ v hv;cases hv
 |cons a l ih=>
  intro h v hv;have h':ab (cy a) (jN l) false=true:=h;rw[ai]at h';split at h'
  ·rename_i ha;rcases List.mem_cons.1 hv with rfl|hv
   ·exact ha
   ·exact ih h' v hv
  ·cases h'
theorem Gi (v:Value):v.oneCell'=cy v:=by cases v<;>rfl
theorem af.KT {l m:List Value} (h:af ρ l m) (h1:∀v∈l,cy v=true):∀v∈m,v.oneCell'=true:=by
 induction l generalizing m with
 |nil=>cases h;intro v hv;cases hv
 |cons a l ih=>
  cases h with
  |cons h hs=>
   intro v hv;rcases List.mem_cons.1 hv with rfl|hv
   ·rw[Gi];exact h.one (h1 _ (by simp))
   ·exact ih hs (λv hv=>h1 v (by simp[hv])) v hv
theorem js {s s':AS} {w:World} {a off:Nat} {x:Loc} {vs us:List Value} (hr:Rel P ρ s w) (hx:ρ a=some x) (h:hU s a off vs=some s') (hv:af ρ vs us):
  ∃w',(storeCells ⟨x.b,x.base+off,none⟩ us).run P w= .ok () w'∧w'=w.setCells x.b (x.base+off) us∧Rel P ρ s' w'∧aR ρ s w ρ s' w':=by
 unfold hU at h;obtain⟨lk,h⟩:=ae h;obtain⟨c,sz,n,ro,et,hb,h⟩:=bN h;obtain⟨hro,h⟩:=bh h;subst hro;obtain⟨e,he,h⟩:=aB h;obtain⟨e',fP,h⟩:=aB h;obtain⟨c',p9,h⟩:=aB h;obtain⟨hlt,hC⟩:=hr.blk a _ x hb hx;have hC:aL P ρ x w c sz n false et:=hC;obtain⟨hi,hlen,hcell⟩:=hC.cell _ _ he;obtain⟨Cs,hle⟩:=vN _ _ _ _ fP;have e0:Nat.mod off sz=off%sz:=rfl;have e1:Nat.div off sz=off/sz:=rfl;rw[e0]at Cs hle;rw[e1]at he hcell p9 hi;have Mp:off/sz*sz+off%sz=off:=by rw[Nat.mul_comm];exact Nat.div_add_mod off sz
 have Jx:=hv.length;have hcs:∀j,j<us.length->(w.cell? ⟨x.b,x.base+off+j,none⟩).isSome=true:=by
  intro j hj;have PX:off%sz+j<e.length:=by omega
  obtain⟨u,hu,_⟩:=hcell (off%sz+j) _ (List.getElem?_eq_getElem PX);have e2:x.base+(off/sz*sz+(off%sz+j))=x.base+off+j:=by omega
  rw[e2]at hu;rw[hu];rfl
 have GC:∀j,j<us.length->w.frozen? ⟨x.b,x.base+off+j,none⟩=false:=by
  intro j hj;cases hf:w.frozen? ⟨x.b,x.base+off+j,none⟩with
  |false=>rfl
  |true=>have:=(hC.free rfl _ hf).1;have:=hcs j hj;rw[‹w.cell? _=none›]at this;cases this
 have hrun:=run_storeCells_cells (P:=P) x.b (x.base+off) us 0 w (by simpa using hcs) (by simpa using GC) (hv.KT (ng lk));rw[Nat.add_zero]at hrun;obtain⟨ht,ho,hu,_⟩:=im x.b us (x.base+off) w;refine⟨_,hrun,rfl,Rel.write hr h hb rfl hx (fq _ _ _ _) (λb cr=>gH _ _ _ _ _ cr) ht ho hu ?_⟩;refine⟨λi l hl=>?_,λo fT=>?_,λ_ o fT=>?_,by rw[dP];exact hC.shape,hC.mult⟩
 ·have hg:=T.bu _ _ _ _ p9 i;rw[hg]at hl;by_cases JW:i=off/sz
  ·rw[if_pos JW]at hl;cases hl;have Ot:e'.length=sz:=by rw[Cs];simp;omega
   refine⟨by rw[JW];exact hi,Ot,λj v eu=>?_⟩;subst JW;have Ni:j<sz:=by
    rcases Nat.lt_or_ge j sz with h|h
    ·exact h
    ·rw[List.getElem?_eq_none (by omega)]at eu;cases eu
   rw[Cs]at eu;by_cases JX:j<off%sz
   ·have wM:e[j]? =some v:=by
     rw[List.append_assoc,List.getElem?_append_left (by simp;omega),List.getElem?_take_of_lt JX]at eu;exact eu
    obtain⟨u,hu,er⟩:=hcell j v wM;refine⟨u,?_,er⟩;rw[World.cell?_setCells_out _ _ _ _ _ (λ_ _=> .inl (by show x.base+(off/sz*sz+j)<x.base+off;omega))];exact hu
   ·by_cases PX:j<off%sz+vs.length
    ·have wM:vs[j-off%sz]? =some v:=by
      rw[List.getElem?_append_left (by simp;omega),List.getElem?_append_right (by simp;omega)]at eu;have:(List.take (off%sz) e).length=off%sz:=by simp;omega
      rw[this]at eu;exact eu
     obtain⟨u,hu,er⟩:=hv.get wM;refine⟨u,?_,er⟩;obtain⟨Nj,Nk⟩:=List.getElem?_eq_some_iff.1 hu;have:=World.cell?_setCells_in x.b us (x.base+off) w hcs (j-off%sz) Nj;have e2:x.base+off+(j-off%sz)=x.base+(off/sz*sz+j):=by omega
     rw[e2]at this;rw[this,Nk]
    ·have wM:e[j]? =some v:=by
      rw[List.getElem?_append_right (by simp;omega)]at eu;have:(List.take (off%sz) e++vs).length=off%sz+vs.length:=by simp;omega
      rw[this,List.getElem?_drop]at eu;have e3:off%sz+vs.length+(j-(off%sz+vs.length))=j:=by omega
      rw[e3]at eu;exact eu
     obtain⟨u,hu,er⟩:=hcell j v wM;refine⟨u,?_,er⟩;rw[World.cell?_setCells_out _ _ _ _ _ (λ_ _=> .inr (by show x.base+off+us.length<=x.base+(off/sz*sz+j);omega))];exact hu
  ·rw[if_neg JW]at hl;obtain⟨h1,h2,h3⟩:=hC.cell i l hl;refine⟨h1,h2,λj v eu=>?_⟩;obtain⟨u,hu,er⟩:=h3 j v eu;refine⟨u,?_,er⟩;have Ni:j<sz:=by
    rcases Nat.lt_or_ge j sz with h|h
    ·exact h
    ·rw[List.getElem?_eq_none (by omega)]at eu;cases eu
   rw[World.cell?_setCells_out _ _ _ _ _ (λ_ _=>?_)]
   ·exact hu
   ·show x.base+(i*sz+j)<x.base+off∨x.base+off+us.length<=x.base+(i*sz+j);rcases Nat.lt_or_gt_of_ne JW with h|h
    ·left;have:(i+1)*sz<=off/sz*sz:=Nat.mul_le_mul_right _ h;rw[Nat.add_mul]at this;omega
    ·right;have:(off/sz+1)*sz<=i*sz:=Nat.mul_le_mul_right _ h;rw[Nat.add_mul]at this;omega
 ·by_cases hin:x.base+off<=o∧o<x.base+off+us.length
  ·have:=World.cell?_setCells_in x.b us (x.base+off) w hcs (o-(x.base+off)) (by omega);rw[show x.base+off+(o-(x.base+off))=o by omega]at this;rw[this];rfl
  ·rw[World.cell?_setCells_out _ _ _ _ _ (λ_ _=>by show o<x.base+off∨x.base+off+us.length<=o;omega)];exact hC.all o fT
 ·rw[World.frozen?_setCells]at fT;obtain⟨hn,wZ⟩:=hC.free rfl o fT;refine⟨?_,wZ⟩;by_cases hin:x.base+off<=o∧o<x.base+off+us.length
  ·have:=hcs (o-(x.base+off)) (by omega);rw[show x.base+off+(o-(x.base+off))=o by omega,hn]at this;cases this
  ·rw[World.cell?_setCells_out _ _ _ _ _ (λ_ _=>by show o<x.base+off∨x.base+off+us.length<=o;omega)];exact hn
end Go.Eng
namespace Go.Eng
open Go
variable {P:Program} {ρ:Ren}
theorem qI:∀(ls:List (List Value)) (i:Nat) (t t':T (List Value)),uL ls i t=some t'->∀j,t'.get j=if i<=j∧j<i+ls.length then ls[j-i]? else t.get j:=by
 intro ls;induction ls with
 |nil=>intro i t t' h j;cases h;rw[if_neg (by simp)]
 |cons l ls ih=>
  intro i t t' h j;have h':Option.rec (motive:= λ_=>Option (T (List Value))) none (λt1=>uL ls (Nat.succ i) t1) (T.put (some l) t i)=some t':=h;obtain⟨t1,h1,h2⟩:=aB h';rw[ih _ _ _ h2 j,T.bu _ _ _ _ h1 j];simp only[List.length_cons];by_cases hj:j=i
  ·subst hj;rw[if_neg (by omega),if_pos rfl,if_pos (by omega),Nat.sub_self];rfl
  ·by_cases hc:i<=j∧j<i+(ls.length+1)
   ·rw[if_pos (by omega),if_pos hc];have:j-i=(j-(i+1))+1:=by omega
    rw[this];rfl
   ·rw[if_neg (by omega),if_neg hj,if_neg hc]
theorem fD {sz:Nat}:∀ {ls:List (List Value)},pQ sz ls=true->∀l∈ls,l.length=sz:=by
 intro ls;induction ls with
 |nil=>intro _ l hl;cases hl
 |cons a ls ih=>
  intro h l hl;have h':ab (Nat.beq (len a) sz) (pQ sz ls) false=true:=h;rw[ai]at h';split at h'
  ·rename_i ha;rcases List.mem_cons.1 hl with rfl|hl
   ·rw[<-aZ];exact Nat.eq_of_beq_eq_true ha
   ·exact ih h' l hl
  ·cases h'
theorem gw {sz:Nat}:∀ {ls:List (List Value)},(∀l∈ls,l.length=sz)->ls.flatten.length=ls.length*sz:=by
 intro ls;induction ls with
 |nil=>intro _;simp
 |cons a ls ih=>intro h;rw[List.flatten_cons,List.length_append,ih (λl hl=>h l (by simp[hl])),h a (by simp),List.length_cons,Nat.add_mul];omega
theorem flat_get {sz:Nat}:∀ {ls:List (List Value)},(∀l∈ls,l.length=sz)->∀ {i:Nat} {l:List Value},ls[i]? =some l->∀j,j<sz->ls.flatten[i*sz+j]? =l[j]?:=by
 intro ls;induction ls with
 |nil=>intro _ i l h;cases h
 |cons a ls ih=>
  intro h i l hl j hj;have ha:=h a (by simp);cases i with
  |zero=>cases hl;rw[List.flatten_cons,Nat.zero_mul,Nat.zero_add,List.getElem?_append_left (by omega)]
  |succ i=>have:=ih (λl hl=>h l (by simp[hl])) (i:=i) (by simpa using hl) j hj;rw[List.flatten_cons,List.getElem?_append_right (by rw[Nat.add_mul];omega),<-this];congr 1;rw[Nat.add_mul];omega
theorem da (w:World) (C:Array Value) (t:TypeId) (fr:Nat×Nat) (w':World) (hh:w'.heap=w.heap.push (.cells C t fr)) (j:Nat):w'.cell? ⟨w.heap.size,j,none⟩=C[j]?:=by simp[World.cell?,hh]
theorem kg (w:World) (C:Array Value) (t:TypeId) (fr:Nat×Nat) (w':World) (hh:w'.heap=w.heap.push (.cells C t fr)):w'.shape? w.heap.size=some (t,C.size):=by simp[World.shape?,hh]
theorem jt (w:World) (C:Array Value) (t:TypeId) (lo hi:Nat) (w':World) (hh:w'.heap=w.heap.push (.cells C t (lo,hi))) (j:Nat):w'.frozen? ⟨w.heap.size,j,none⟩=(decide (lo<=j)&&decide (j<hi)):=by simp[World.frozen?,hh]
theorem zG {β:Type} {s:AS} {w w':World} {et:TypeId} {sz n:Nat} {els:List (List Value)} {k:Nat->AS->Option β} {r:β} {cs rest:List Value} {lo hi:Nat}
  (hr:Rel P ρ s w) (h:i9 s et sz els n k=some r) (hc:af ρ els.flatten cs) (yF:∀o,lo<=o->o<hi->cs.length+rest.length<=o∧P.underlying et=some (.int .u8))
  (hh:w'.heap=w.heap.push (.cells (cs++rest).toArray et (lo,hi))) (ht:w'.tape=w.tape) (ho:w'.os=w.os) (hu:w'.output=w.output):
  els.length=n∧cs.length=n*sz∧∃s1,k s.nx s1=some r∧Rel P (ρ.put s.nx ⟨w.heap.size,0,cs.length+rest.length,[]⟩) s1 w'∧aR ρ s w (ρ.put s.nx ⟨w.heap.size,0,cs.length+rest.length,[]⟩) s1 w':=by
 unfold i9 at h;obtain⟨hn,h⟩:=ae h;obtain⟨hl,h⟩:=ae h;obtain⟨t,wN,h⟩:=aB h;obtain⟨s1,gE,h⟩:=aB h;have hn:els.length=n:=by rw[<-aZ];exact Nat.eq_of_beq_eq_true hn
 have hl:=fD hl;have Mq:=gw hl;have EX:=hc.length;rw[Mq,hn]at EX;refine⟨hn,EX.symm,s1,h,?_⟩;have hle:aK ρ (ρ.put s.nx ⟨w.heap.size,0,cs.length+rest.length,[]⟩):= λa y e=>by
  unfold Ren.put;by_cases ha:a=s.nx
  ·rw[ha,hr.dM _ (Nat.le_refl _)]at e;cases e
  ·rw[if_neg ha];exact e
 refine Rel.alloc hr gE rfl (by rw[hh];simp) (λb hb=>by rw[hh];simp[Array.getElem?_push,Nat.ne_of_lt hb]) ht ho hu ?_;refine⟨λi l lV=>?_,λo fT=>?_,λ_ o fT=>?_,?_,⟨0,by simp⟩⟩
 ·rw[qI _ _ _ _ wN i]at lV;by_cases p9:0<=i∧i<0+els.length
  ·rw[if_pos p9,Nat.sub_zero]at lV;refine⟨by omega,hl l (List.mem_of_getElem? lV),λj v hv=>?_⟩;have hj:j<sz:=by
    rw[<-hl l (List.mem_of_getElem? lV)];exact(List.getElem?_eq_some_iff.1 hv).1
   have hf:=flat_get hl lV j hj;rw[hv]at hf;obtain⟨u,lU,er⟩:=hc.get hf;refine⟨u,?_,er.mono hle⟩;rw[da w _ _ _ _ hh];simp only[Nat.zero_add,List.getElem?_toArray];rw[List.getElem?_append_left (List.getElem?_eq_some_iff.1 lU).1];exact lU
  ·rw[if_neg p9]at lV;cases lV
 ·rw[da w _ _ _ _ hh];have Hx:o<(cs++rest).length:=by simpa using fT
  simp only[List.getElem?_toArray];rw[List.getElem?_eq_getElem Hx];rfl
 ·rw[jt w _ _ _ _ _ hh]at fT;simp only[Bool.and_eq_true,decide_eq_true_eq]at fT;obtain⟨this,DD⟩:=yF o fT.1 fT.2;refine⟨?_,DD⟩;rw[da w _ _ _ _ hh];simp only[List.getElem?_toArray];exact List.getElem?_eq_none (by simp;omega)
 ·rw[kg w _ _ _ _ hh];simp
theorem iL {b n c:Nat} {s:AS} {r:Value×AS} (h:CC b n c s=some r):r=(.slice (some ⟨b,0,none⟩) n c,s):=by unfold CC at h;simp only[ak]at h;cases h;rfl
theorem lJ (n:Nat):codeEx n/512=n:=by show(512*n+1)/512=n;omega
theorem zH (n:Nat):codeEx n%2=1:=by show(512*n+1)%2=1;omega
theorem cI {n sz:Nat} (h:sz<256):codeLB n sz/512=n:=by show(512*n+2*sz)/512=n;omega
theorem gB (n sz:Nat):codeLB n sz%2=0:=by show(512*n+2*sz)%2=0;omega
theorem iM {n sz:Nat} (h:sz<256):codeLB n sz%512/2=sz:=by show(512*n+2*sz)%512/2=sz;omega
theorem bC (ρ:Ren) (a:Nat) (x:Loc):(ρ.put a x) a=some x:=by unfold Ren.put;rw[if_pos rfl]
theorem oZ {s:AS} {w w':World} {et:TypeId} {sz n cap lo hi:Nat} {els:List (List Value)} {r:Value×AS} {cs rest:List Value}
  (hr:Rel P ρ s w) (h:gf s et sz els n=some r) (hc:af ρ els.flatten cs) (oQ:n<=cap) (G4:cs.length+rest.length=cap*sz) (yF:∀o,lo<=o->o<hi->cs.length+rest.length<=o∧P.underlying et=some (.int .u8))
  (hh:w'.heap=w.heap.push (.cells (cs++rest).toArray et (lo,hi))) (ht:w'.tape=w.tape) (ho:w'.os=w.os) (hu:w'.output=w.output):
  ∃aj,ag aj r.1 (.slice (some ⟨w.heap.size,0,none⟩) n cap)∧Rel P aj r.2 w'∧aR ρ s w aj r.2 w':=by
 unfold gf at h;obtain⟨hsz,h⟩:=ae h;have hsz:sz<256:=Nat.le_of_ble_eq_true hsz;obtain⟨hn,EX,s1,hk,hR,hS⟩:=zG hr h hc yF hh ht ho hu;rw[iL hk];refine⟨_,?_,hR,hS⟩;have e:(⟨w.heap.size,0,none⟩:Addr)=⟨(⟨w.heap.size,0,cs.length+rest.length,[]⟩:Loc).b,(⟨w.heap.size,0,cs.length+rest.length,[]⟩:Loc).base+0,none⟩:=rfl;refine .slice 0 n (codeLB n sz) cap _ (bC _ _ _) (by rw[cI hsz];exact Nat.le_refl _) (by rw[cI hsz];exact oQ) (λh=>by rw[gB]at h;cases h) (.inl e) (λ_=>?_);rw[iM hsz];show 0+0+cap*sz<=cs.length+rest.length;omega
def Made (P:Program) (ρ:Ren) (w:World) (a:Nat) (m:Sem Value) (v:Value) (k:Blk):Prop:=
 ∃x u w',m.run P w= .ok u w'∧x.b=w.heap.size∧w'.heap.size=w.heap.size+1∧(∀b,b<w.heap.size->w'.heap[b]? =w.heap[b]?)∧w'.tape=w.tape∧w'.os=w.os∧w'.output=w.output∧
  ag (ρ.put a x) v u∧bX P (ρ.put a x) x w' k
theorem ik {ρ:Ren} {a:Nat} (h:ρ a=none) (x:Loc):aK ρ (ρ.put a x):= λb y e=>by
 unfold Ren.put;by_cases ha:b=a
 ·rw[ha,h]at e;cases e
 ·rw[if_neg ha];exact e
theorem tZ {els:List (List Value)} {t:T (List Value)} (ht:uL els 0 .e=some t) (i:Nat):t.get i=els[i]?:=by
 rw[qI _ _ _ _ ht i];by_cases h:0<=i∧i<0+els.length
 ·rw[if_pos h,Nat.sub_zero]
 ·rw[if_neg h,T.get_e,List.getElem?_eq_none (by omega)]
theorem ua {w w':World} {et:TypeId} {sz n:Nat} {els:List (List Value)} {cs rest:List Value} {lo hi:Nat} {t:T (List Value)} (ht:∀i,t.get i=els[i]?) (hl:∀l∈els,l.length=sz) (hn:els.length=n)
  (hc:af ρ els.flatten cs) (yF:∀o,lo<=o->o<hi->cs.length+rest.length<=o∧P.underlying et=some (.int .u8)) (hh:w'.heap=w.heap.push (.cells (cs++rest).toArray et (lo,hi))):bX P ρ ⟨w.heap.size,0,cs.length+rest.length,[]⟩ w' (.cells t sz n false et):=by
 refine⟨λi l lV=>?_,λo fT=>?_,λ_ o fT=>?_,?_,⟨0,by simp⟩⟩
 ·rw[ht i]at lV;refine⟨by rw[<-hn];exact(List.getElem?_eq_some_iff.1 lV).1,hl l (List.mem_of_getElem? lV),λj v hv=>?_⟩;have hj:j<sz:=by
   rw[<-hl l (List.mem_of_getElem? lV)];exact(List.getElem?_eq_some_iff.1 hv).1
  have hf:=flat_get hl lV j hj;rw[hv]at hf;obtain⟨u,lU,er⟩:=hc.get hf;refine⟨u,?_,er⟩;rw[da w _ _ _ _ hh];simp only[Nat.zero_add,List.getElem?_toArray];rw[List.getElem?_append_left (List.getElem?_eq_some_iff.1 lU).1];exact lU
 ·rw[da w _ _ _ _ hh];have Hx:o<(cs++rest).length:=by simpa using fT
  simp only[List.getElem?_toArray];rw[List.getElem?_eq_getElem Hx];rfl
 ·rw[jt w _ _ _ _ _ hh]at fT;simp only[Bool.and_eq_true,decide_eq_true_eq]at fT;obtain⟨this,DD⟩:=yF o fT.1 fT.2;refine⟨?_,DD⟩;rw[da w _ _ _ _ hh];simp only[List.getElem?_toArray];exact List.getElem?_eq_none (by simp;omega)
 ·rw[kg w _ _ _ _ hh];simp
theorem mU {w w':World} {et:TypeId} {sz n:Nat} {els:List (List Value)} {cs rest:List Value} {lo hi:Nat} {t:T (List Value)} (ht:uL els 0 .e=some t) (hl:∀l∈els,l.length=sz) (hn:els.length=n)
  (hc:af ρ els.flatten cs) (yF:∀o,lo<=o->o<hi->cs.length+rest.length<=o∧P.underlying et=some (.int .u8)) (hh:w'.heap=w.heap.push (.cells (cs++rest).toArray et (lo,hi))):bX P ρ ⟨w.heap.size,0,cs.length+rest.length,[]⟩ w' (.cells t sz n false et):=ua (tZ ht) hl hn hc yF hh
theorem rq {s:AS} {et:TypeId} {sz l n:Nat} {els:List (List Value)} {r:Value×AS} (h:Ag s et sz els l n=some r) (JY:l<=n):
  ∃k,s.new k=some r.2∧∀ {ρ:Ren} {w w':World} {m:Sem Value} {cs:List Value},ρ s.nx=none->af ρ els.flatten cs->m.run P w= .ok (.slice (some ⟨w.heap.size,0,none⟩) l n) w'->
   w'.heap=w.heap.push (.cells cs.toArray et)->w'.tape=w.tape->w'.os=w.os->w'.output=w.output->Made P ρ w s.nx m r.1 k:=by
 unfold Ag i9 at h;obtain⟨hn,h⟩:=ae h;obtain⟨hl,h⟩:=ae h;obtain⟨t,wN,h⟩:=aB h;obtain⟨s1,gE,h⟩:=aB h;have hn:els.length=n:=by rw[<-aZ];exact Nat.eq_of_beq_eq_true hn
 rw[iL h];refine⟨_,gE,λ {ρ w w' m cs} nz hc hrun hh ht ho hu=>?_⟩;have hle:=ik nz ⟨w.heap.size,0,cs.length+([]:List Value).length,[]⟩;refine⟨⟨w.heap.size,0,cs.length+([]:List Value).length,[]⟩,_,w',hrun,rfl,by rw[hh];simp,λb hb=>by rw[hh];simp[Array.getElem?_push,Nat.ne_of_lt hb],ht,ho,hu,?_,?_⟩
 ·have e:(⟨w.heap.size,0,none⟩:Addr)=⟨(⟨w.heap.size,0,cs.length+([]:List Value).length,[]⟩:Loc).b,(⟨w.heap.size,0,cs.length+([]:List Value).length,[]⟩:Loc).base+0,none⟩:=rfl;exact .slice 0 l (codeEx n) n _ (bC _ _ _) (by rw[lJ];exact JY) (by rw[lJ];exact Nat.le_refl _) (λ_=>(lJ n).symm) (.inl e) (λh=>by rw[zH]at h;cases h)
 ·exact mU (rest:= []) (lo:=0) (hi:=0) wN (fD hl) hn (hc.mono hle) (λo h1 h2=>by omega) (by simpa using hh)
theorem zI {s:AS} {et:TypeId} {sz n:Nat} {els:List (List Value)} {r:Value×AS} (h:gf s et sz els n=some r):
  ∃k,s.new k=some r.2∧∀ {ρ:Ren} {w w':World} {m:Sem Value} {cs rest:List Value} {cap lo hi:Nat},ρ s.nx=none->af ρ els.flatten cs->n<=cap->cs.length+rest.length=cap*sz->(∀o,lo<=o->o<hi->cs.length+rest.length<=o∧P.underlying et=some (.int .u8))->
   m.run P w= .ok (.slice (some ⟨w.heap.size,0,none⟩) n cap) w'->w'.heap=w.heap.push (.cells (cs++rest).toArray et (lo,hi))->w'.tape=w.tape->w'.os=w.os->w'.output=w.output->Made P ρ w s.nx m r.1 k:=by
 unfold gf at h;obtain⟨hsz,h⟩:=ae h;have hsz:sz<256:=Nat.le_of_ble_eq_true hsz;unfold i9 at h;obtain⟨hn,h⟩:=ae h;obtain⟨hl,h⟩:=ae h;obtain⟨t,wN,h⟩:=aB h;obtain⟨s1,gE,h⟩:=aB h;have hn:els.length=n:=by rw[<-aZ];exact Nat.eq_of_beq_eq_true hn
 rw[iL h];refine⟨_,gE,λ {ρ w w' m cs rest cap lo hi} nz hc oQ G4 yF hrun hh ht ho hu=>?_⟩;have hle:=ik nz ⟨w.heap.size,0,cs.length+rest.length,[]⟩;refine⟨⟨w.heap.size,0,cs.length+rest.length,[]⟩,_,w',hrun,rfl,by rw[hh];simp,λb hb=>by rw[hh];simp[Array.getElem?_push,Nat.ne_of_lt hb],ht,ho,hu,?_,?_⟩
 ·have e:(⟨w.heap.size,0,none⟩:Addr)=⟨(⟨w.heap.size,0,cs.length+rest.length,[]⟩:Loc).b,(⟨w.heap.size,0,cs.length+rest.length,[]⟩:Loc).base+0,none⟩:=rfl;refine .slice 0 n (codeLB n sz) cap _ (bC _ _ _) (by rw[cI hsz];exact Nat.le_refl _) (by rw[cI hsz];exact oQ) (λh=>by rw[gB]at h;cases h) (.inl e) (λ_=>?_);rw[iM hsz];show 0+0+cap*sz<=cs.length+rest.length;omega
 ·exact mU wN (fD hl) hn (hc.mono hle) yF hh
theorem nh {s:AS} {et:TypeId} {vs:List Value} {r:Value×AS} (h:pP s et vs=some r):
  ∃k,s.new k=some r.2∧∀ {ρ:Ren} {w w':World} {m:Sem Value} {us:List Value},ρ s.nx=none->af ρ vs us->m.run P w= .ok (.pointer (some ⟨w.heap.size,0,none⟩)) w'->
   w'.heap=w.heap.push (.cells us.toArray et)->w'.tape=w.tape->w'.os=w.os->w'.output=w.output->Made P ρ w s.nx m r.1 k:=by
 unfold pP at h;rw[ak]at h;obtain⟨s',fu,h⟩:=aB h;cases h;refine⟨_,fu,λ {ρ w w' m us} nz hv hrun hh ht ho hu=>?_⟩;have hle:=ik nz ⟨w.heap.size,0,us.length,[]⟩;refine⟨⟨w.heap.size,0,us.length,[]⟩,_,w',hrun,rfl,by rw[hh];simp,λb hb=>by rw[hh];simp[Array.getElem?_push,Nat.ne_of_lt hb],ht,ho,hu,ag.ptr (x:=⟨w.heap.size,0,us.length,[]⟩) 0 (bC _ _ _),?_⟩;refine⟨λi l lV=>?_,λo fT=>?_,λ_ o fT=>?_,?_,⟨0,by simp⟩⟩
 ·rcases aA i with rfl|⟨m,rfl⟩|⟨m,rfl⟩
  ·rw[T.bp]at lV;cases lV;refine⟨by omega,by rw[aZ],λj v hj=>?_⟩;obtain⟨u,lU,er⟩:=hv.get hj;refine⟨u,?_,er.mono hle⟩;rw[da w _ _ _ _ hh];simp only[Nat.zero_mul,Nat.zero_add,List.getElem?_toArray];exact lU
  ·rw[T.aH,T.get_e]at lV;cases lV
  ·rw[T.ay,T.get_e]at lV;cases lV
 ·rw[da w _ _ _ _ hh];have Hx:o<us.length:=fT;simp only[List.getElem?_toArray];rw[List.getElem?_eq_getElem Hx];rfl
 ·rw[jt w _ _ _ _ _ hh]at fT;simp at fT
 ·rw[kg w _ _ _ _ hh];simp
end Go.Eng
namespace Go.Eng
open Go
variable {P:Program} {ρ:Ren}
theorem oe {c:T (List Value)}:∀(n i:Nat) (els:List (List Value)),elems c n i=some els->els.length=n∧∀j l,els[j]? =some l->c.get (i+j)=some l:=by
 intro n;induction n with
 |zero=>intro i els h;cases h;exact⟨rfl,λj l h=>by simp at h⟩
 |succ n ih=>
  intro i els h;have h':Option.rec (motive:= λ_=>Option (List (List Value))) none (λl=>Option.rec (motive:= λ_=>Option (List (List Value))) none (λr=>some (l::r)) (elems c n (Nat.succ i))) (c.get i)=some els:=h;obtain⟨l,hl,h'⟩:=aB h';obtain⟨r,hr,h'⟩:=aB h';cases h';obtain⟨h1,h2⟩:=ih _ _ hr;refine⟨by simp[h1],λj m hm=>?_⟩;cases j with
  |zero=>cases hm;exact hl
  |succ j=>rw[show i+(j+1)=Nat.succ i+j by omega];exact h2 j m (by simpa using hm)
theorem EB {sz:Nat}:∀(n:Nat) (l:List Value) (els:List (List Value)),chunk sz n l=some els->els.length=n∧n*sz<=l.length∧els.flatten=l.take (n*sz)∧∀e∈els,e.length=sz:=by
 intro n;induction n with
 |zero=>intro l els h;cases h;exact⟨rfl,by omega,by simp,λe he=>by cases he⟩
 |succ n ih=>
  intro l els h;have h':Option.rec (motive:= λ_=>Option (List (List Value))) none
   (λa=>Option.rec (motive:= λ_=>Option (List (List Value))) none
    (λb=>Option.rec (motive:= λ_=>Option (List (List Value))) none (λr=>some (a::r)) (chunk sz n b)) (oI sz l)) (oH sz l)=some els:=h
  obtain⟨a,ha,h'⟩:=aB h';obtain⟨b,hb,h'⟩:=aB h';obtain⟨r,hr,h'⟩:=aB h';cases h';obtain⟨rfl,Mr⟩:=mT _ _ _ ha;obtain⟨rfl,_⟩:=iF _ _ _ hb;obtain⟨h1,h2,h3,h4⟩:=ih _ _ hr;rw[List.length_drop]at h2;refine⟨by simp[h1],by rw[Nat.add_mul];omega,?_,λe he=>?_⟩
  ·rw[List.flatten_cons,h3,Nat.add_mul,Nat.one_mul,Nat.add_comm (n*sz) sz,List.take_add]
  ·rcases List.mem_cons.1 he with rfl|he
   ·simp;omega
   ·exact h4 e he
theorem ub {sz:Nat} {ls:List (List Value)} (h:∀l∈ls,l.length=sz) {j:Nat} {v:Value} (hv:ls.flatten[j]? =some v):0<sz∧∃l,ls[j/sz]? =some l∧l[j%sz]? =some v:=by
 have hlt:=(List.getElem?_eq_some_iff.1 hv).1;rw[gw h]at hlt;have hsz:0<sz:=by
  rcases Nat.eq_zero_or_pos sz with rfl|h
  ·simp at hlt
  ·exact h
 have hi:j/sz<ls.length:=Nat.div_lt_of_lt_mul (by rw[Nat.mul_comm];exact hlt);refine⟨hsz,_,List.getElem?_eq_getElem hi,?_⟩;have:=flat_get h (List.getElem?_eq_getElem hi) (j%sz) (Nat.mod_lt _ hsz);rw[<-this,Nat.mul_comm,Nat.div_add_mod];exact hv
theorem kv {s:AS} {w:World} {a off sz n:Nat} {x:Loc} {els:List (List Value)} (hr:Rel P ρ s w) (hx:ρ a=some x) (h:jO (s.h.get a) sz off n=some els):
  els.length=n∧(∀l∈els,l.length=sz)∧∃cs,af ρ els.flatten cs∧cs.length=n*sz∧∀(j:Nat) (u:Value),cs[j]? =some u->w.cell? ⟨x.b,x.base+off+j,none⟩=some u:=by
 obtain⟨c,iX,m,ro,et,hb,h⟩:=bN h;obtain⟨_,hC⟩:=hr.blk a _ x hb hx;have hC:aL P ρ x w c iX m ro et:=hC;obtain⟨h0,hq⟩:=bh h;clear h;rw[ai]at hq;have fin:els.length=n->(∀l∈els,l.length=sz)->(∀j v,els.flatten[j]? =some v->∃u,w.cell? ⟨x.b,x.base+off+j,none⟩=some u∧ag ρ v u)->
   els.length=n∧(∀l∈els,l.length=sz)∧∃cs,af ρ els.flatten cs∧cs.length=n*sz∧∀(j:Nat) (u:Value),cs[j]? =some u->w.cell? ⟨x.b,x.base+off+j,none⟩=some u:=by
  intro hn hl hf;obtain⟨cs,hcs,hg⟩:=AX (f:= λj=>w.cell? ⟨x.b,x.base+off+j,none⟩) els.flatten hf;exact⟨hn,hl,cs,hcs,by rw[<-hcs.length,gw hl,hn],hg⟩
 split at hq
 ·rename_i hs;have hs:=Nat.eq_of_beq_eq_true hs;subst hs;obtain⟨hm,h⟩:=ae hq;have hm:off%sz=0:=Nat.eq_of_beq_eq_true hm;obtain⟨hn,hg⟩:=oe _ _ _ h;have hl:∀l∈els,l.length=sz:= λl hl=>by
   obtain⟨i,hi⟩:=List.mem_iff_getElem?.1 hl;exact(hC.cell _ _ (hg i l hi)).2.1
  refine fin hn hl (λj v hv=>?_);obtain⟨hsz,l,h1,h2⟩:=ub hl hv;obtain⟨u,hu,er⟩:=(hC.cell _ _ (hg _ l h1)).2.2 _ v h2;refine⟨u,?_,er⟩;have e1:Nat.div off sz*sz=off:=by show off/sz*sz=off;have:=Nat.div_add_mod off sz;rw[hm,Nat.mul_comm]at this;simpa using this
  have e2:j/sz*sz+j%sz=j:=by rw[Nat.mul_comm];exact Nat.div_add_mod j sz
  have e3:x.base+((Nat.div off sz+j/sz)*sz+j%sz)=x.base+off+j:=by rw[Nat.add_mul,e1];omega
  rw[e3]at hu;exact hu
 ·obtain⟨e,he,h⟩:=U hq;obtain⟨e1,AG,h⟩:=U h;obtain⟨e2,Ms,h⟩:=U h;obtain⟨rfl,hd⟩:=iF _ _ _ AG;obtain⟨rfl,ht⟩:=mT _ _ _ Ms;obtain⟨h1,h2,h3,h4⟩:=EB _ _ _ h;refine fin h1 h4 (λj v hv=>?_);rw[h3]at hv;have eu:e[off%iX+j]? =some v:=by
   rw[List.getElem?_take]at hv;split at hv
   ·rw[List.getElem?_take]at hv;split at hv
    ·rw[List.getElem?_drop]at hv;exact hv
    ·cases hv
   ·cases hv
  obtain⟨u,hu,er⟩:=(hC.cell _ _ he).2.2 _ v eu;refine⟨u,?_,er⟩;have e1:off/iX*iX+off%iX=off:=by rw[Nat.mul_comm];exact Nat.div_add_mod off iX
  have e3:x.base+(Nat.div off iX*iX+(off%iX+j))=x.base+off+j:=by show x.base+(off/iX*iX+(off%iX+j))=x.base+off+j;omega
  rw[e3]at hu;exact hu
theorem ni:∀ {l:List UInt8} {els:List (List Value)},byteCells l=some els->els=l.map (λb=> [Value.int .u8 (b.toNat:Int)]):=by
 intro l;induction l with
 |nil=>intro els h;cases h;rfl
 |cons b l ih=>intro els h;have h':ar b.toNat (λn=>ob (byteCells l) λr=>some ([Value.int .u8 (.ofNat n)]::r))=some els:=h;rw[ak]at h';obtain⟨r,hr,h'⟩:=U h';cases h';rw[ih hr];rfl
theorem xC (l:List UInt8):af ρ (l.map (λb=> [Value.int .u8 (b.toNat:Int)])).flatten (l.map λb=>Value.int .u8 (b.toNat:Int)):=by
 induction l with
 |nil=>exact .nil
 |cons b l ih=>exact .cons (.int _ _) ih
theorem yc (s:ByteArray) (n:Nat):((s.extract 0 n).data.map λb=>Value.int .u8 b.toNat).toList=(s.data.toList.take n).map λb=>Value.int .u8 (b.toNat:Int):=by simp
theorem lS (a:Addr) (w:World):(loadCells a 0).run P w= .ok #[] w:=by have:=run_loadCells_list (P:=P) w a [] (λj v h=>by simp at h);simpa using this
theorem bt {s:AS} {w:World} {sz n:Nat} {v v':Value} {els:List (List Value)} (hr:Rel P ρ s w) (h:br s sz v n=some els) (hv:ag ρ v v') (hn:∀b m c,v= .slice b m c->n<=m):
  (∀l∈els,l.length=sz)∧els.length=n∧∃cs:List Value,af ρ els.flatten cs∧cs.length=n*sz∧(Builtin.firstCells sz n v').run P w= .ok cs.toArray w:=by
 unfold br at h;split at h
 ·rename_i m c;cases h;cases hv;have:=hn _ _ _ rfl;have eR:n=0:=by omega
  subst eR;exact⟨λl hl=>(by cases hl),rfl,[],.nil,by simp,by simp[Builtin.firstCells]⟩
 ·rename_i a m c;cases hv with| @slice a x off m c cap ad hx h1 h2 h3 h4 h5=>?_
  have QW:=hn _ _ _ rfl;cases n with
  |zero=>cases h;exact⟨λl hl=>(by cases hl),rfl,[],.nil,by simp,by simp[Builtin.firstCells,lS]⟩
  |succ n=>
   have h:jO (s.h.get a) sz off (n+1)=some els:=h;have Ct:ad=⟨x.b,x.base+off,none⟩:=by
    rcases h4 with h4|h4
    ·exact h4
    ·omega
   subst Ct;obtain⟨hl,h4,cs,hcs,hlen,hg⟩:=kv hr hx h;refine⟨h4,hl,cs,hcs,hlen,?_⟩;have hrun:=run_loadCells_list (P:=P) w ⟨x.b,x.base+off,none⟩ cs (λj v hv=>by rw[cL];exact hg j v hv);rw[hlen]at hrun;simp only[Builtin.firstCells];exact hrun
 ·rename_i b;obtain⟨hsz,h⟩:=ae h;have hsz:=Nat.eq_of_beq_eq_true hsz;subst hsz;obtain⟨l,hl,h⟩:=U h;obtain⟨rfl,hle⟩:=xB _ _ _ hl;have he:=ni h;subst he;cases hv;refine⟨λl hl=>?_,by simp at hle⊢;omega,_,xC _,by simp at hle⊢;omega,?_⟩
  ·obtain⟨b,_,rfl⟩:=List.mem_map.1 hl;rfl
  ·simp only[Builtin.firstCells,Sem.run_pure];congr 1;apply Array.ext';rw[yc]
 ·cases h
theorem eP (a:Addr) (l2:List Value):∀(l1:List Value) (i:Nat) (w:World),(storeCells a (l1++l2) i).run P w=((storeCells a l1 i).run P w).andThen λ_ w'=>(storeCells a l2 (i+l1.length)).run P w'
 | [],i,w=>by simp[storeCells]
 |v::l1,i,w=>by
  simp only[List.cons_append,storeCells,Sem.run_bind];cases h:(store (a.add i) v).run P w with
  |ok x w'=>simp only[Result.andThen_ok];rw[eP a l2 l1 (i+1) w'];simp only[List.length_cons];rw[show i+1+l1.length=i+(l1.length+1) by omega]
  |halt e w'=>rfl
theorem iU (b o k:Nat):∀(l:List Value) (i:Nat),storeCells ⟨b,o,none⟩ l (k+i)=storeCells ⟨b,o+k,none⟩ l i
 | [],i=>rfl
 |v::l,i=>by simp only[storeCells,cL];rw[show k+i+1=k+(i+1) by omega,iU b o k l (i+1),Nat.add_assoc]
theorem fj {sz a:Nat} {x:Loc} (hx:ρ a=some x):∀ {els:List (List Value)} {s s':AS} {w:World} {off:Nat} {us:List Value},Rel P ρ s w->gz sz a els s off=some s'->af ρ els.flatten us->(∀l∈els,l.length=sz)->
  ∃w',(storeCells ⟨x.b,x.base+off,none⟩ us).run P w= .ok () w'∧Rel P ρ s' w'∧aR ρ s w ρ s' w':=by
 intro els;induction els with
 |nil=>intro s s' w off us hr h hv _;cases h;cases hv;exact⟨w,rfl,hr,.refl _ _ _⟩
 |cons l els ih=>intro s s' w off us hr h hv hl;have h':ob (hU s a off l) (λs'=>gz sz a els s' (Nat.add off sz))=some s':=h;obtain⟨s1,h1,h2⟩:=U h';rw[List.flatten_cons]at hv;have hlen:=hl l (by simp);have Nl:=hv.take l.length;have GB:=hv.drop l.length;rw[List.take_left]at Nl;rw[List.drop_left]at GB;obtain⟨w1,LB,_,de,dq⟩:=js hr hx h1 Nl;obtain⟨w2,G5,eS,fI⟩:=ih de h2 GB (λl Fo=>hl l (by simp[Fo]));refine⟨w2,?_,eS,dq.trans fI⟩;have e:us=us.take l.length++us.drop l.length:=(List.take_append_drop _ _).symm;rw[e,eP,LB,Result.andThen_ok,<-Nl.length];have:=iU x.b (x.base+off) l.length (us.drop l.length) 0;rw[Nat.add_zero]at this;rw[Nat.zero_add,this,hlen];rw[hlen]at G5;have e4:x.base+off+sz=x.base+off.add sz:=Nat.add_assoc _ _ _;rw[e4];exact G5
theorem pY (z:List Value):∀(n:Nat) (els:List (List Value)),uN z n=some els->els=List.replicate n z:=by
 intro n;induction n with
 |zero=>intro els h;cases h;rfl
 |succ n ih=>intro els h;have h':ob (uN z n) (λr=>some (z::r))=some els:=h;obtain⟨r,hr,h'⟩:=U h';cases h';rw[ih _ hr];rfl
theorem lK (z:List Value) (n:Nat):((Array.range (n*z.length)).map λi=>z.toArray[i%z.length]!).toList=(List.replicate n z).flatten:=by
 have hall:∀l∈List.replicate n z,l.length=z.length:= λl hl=>by rw[(List.mem_replicate.1 hl).2]
 apply List.ext_getElem?;intro j;rw[Array.toList_map,List.getElem?_map,Array.toList_range];by_cases hj:j<n*z.length
 ·have hz:0<z.length:=by
   rcases Nat.eq_zero_or_pos z.length with h|h
   ·rw[h]at hj;simp at hj
   ·exact h
  rw[List.getElem?_range hj];have hi:j/z.length<n:=Nat.div_lt_of_lt_mul (by rw[Nat.mul_comm];exact hj);have hm:=Nat.mod_lt j hz;have hg:=flat_get hall (i:=j/z.length) (l:=z) (by rw[List.getElem?_replicate,if_pos hi]) (j%z.length) hm;rw[show j/z.length*z.length+j%z.length=j by rw[Nat.mul_comm];exact Nat.div_add_mod j _]at hg;rw[hg];simp[getElem!_def,hm]
 ·rw[List.getElem?_eq_none (by simp;omega),List.getElem?_eq_none (by rw[gw hall];simp;omega)];rfl
theorem af.replicate {z u:List Value} (h:af ρ z u):∀n,af ρ (List.replicate n z).flatten (List.replicate n u).flatten
 |0=> .nil
 |n+1=>by rw[List.replicate_succ,List.replicate_succ,List.flatten_cons,List.flatten_cons];exact h.append (af.replicate h n)
end Go.Eng
namespace Go.Eng
open Go
variable {P:Program} {ρ:Ren}
def jx (P:Program) (ρ:Ren) (s:AS) (w:World) (m:Sem Value) (r:Value×AS):Prop:=
 ∃aj u w',m.run P w= .ok u w'∧ag aj r.1 u∧Rel P aj r.2 w'∧aR ρ s w aj r.2 w'
theorem dF {e:TypeId} {sz:Nat} {z:List Value} (h:gq P e=some (sz,z)):∃i v,P.info? e=some i∧i.zero=some v∧z=v.cells.toList∧i.size=sz∧i.bytes<=1000000∧z.length=sz∧aO P e=some sz∧af ρ z z∧fF P e=some v:=by unfold gq at h;obtain⟨iX,hs,h⟩:=U h;obtain⟨z',hz,h⟩:=U h;obtain⟨b,hb,h⟩:=U h;obtain⟨h1,h⟩:=ae h;obtain⟨h2,h⟩:=ae h;cases h;obtain⟨v,hv,rfl⟩:=lH hz;obtain⟨_,i,hi,Cu⟩:=g9 hv;unfold aO at hs;unfold D1 at hb;rw[hi]at hs hb;cases hs;cases hb;exact⟨i,v,hi,Cu,rfl,rfl,Nat.le_of_ble_eq_true h1,by rw[<-aZ];exact Nat.eq_of_beq_eq_true h2,by unfold aO;rw[hi];rfl,(eY hv).cells,hv⟩
theorem o0 {ts:Array TypeId} (h:vf P ts=true):ts[1]? =none∨∃t d,ts[1]? =some t∧P.underlying t=some d∧(∀k,d≠.int k):=by
 unfold vf at h;split at h
 ·rename_i ht;exact .inl ht
 ·rename_i t ht;split at h
  ·cases h
  ·rename_i d hne hd;exact .inr ⟨t,d,ht,hd,λk e=>hne k (e▸rfl)⟩
  ·cases h
section
variable {ts:Array TypeId} {t0 ty e:TypeId} {i:TypeInfo} {z x':Value} {base:Option Addr} {n m cap:Nat} (w:World) (fQ:ts[0]? =some t0) (hu:P.underlying t0=some (.slice e)) (hi:P.info? e=some i)
 (yG:vf P ts=true) (hlen:(Builtin.lenOf x').run P w= .ok m w)
include fQ hu hi yG hlen
theorem ll {new:Array Value} (hf:(Builtin.firstCells i.size m x').run P w= .ok new w) (hle:n+m<=cap):
  (Builtin.append_ ts ty #[.slice base n cap,x']).run P w=(match base with
   |none=> .ok (.slice none (n+m) cap) w
   |some a=>((storeCells (a.add (n*i.size)) new.toList).run P w).andThen λ_ w'=> .ok (.slice (some a) (n+m) cap) w'):=by
 have h0:(#[Value.slice base n cap,x']:Array Value)[0]? =some (.slice base n cap):=rfl;have h1:(#[Value.slice base n cap,x']:Array Value)[1]? =some x':=rfl;unfold Builtin.append_;rcases o0 yG with sL|⟨t1,d,sL,hd,hne⟩
 ·simp only[fQ,sL,h0,h1,Sem.run_bind,run_underlying hu,Result.andThen_ok,sizeOf,typeInfo,hi,run_program,Sem.run_pure,Bool.false_eq_true,if_false,hlen,Bool.not_false,if_true,if_pos hle,hf];cases base<;>simp
 ·cases d<;>first
   |exact(hne _ rfl).elim
   |(simp only[fQ,sL,h0,h1,Sem.run_bind,run_underlying hu,run_underlying hd,Result.andThen_ok,sizeOf,typeInfo,hi,run_program,Sem.run_pure,Bool.false_eq_true,if_false,hlen,Bool.not_false,if_true,if_pos hle,hf];cases base<;>simp)
theorem si {z:Value} {new old:Array Value} (Mu:i.zero=some z) (yH:(Builtin.firstCells i.size n (.slice base n cap)).run P w.drew= .ok old w.drew) (hf:(Builtin.firstCells i.size m x').run P w.drew= .ok new w.drew)
  (hle:cap<n+m) (hm:n+m<=1000000) (hb:i.bytes<=1000000):
  (Builtin.append_ ts ty #[.slice base n cap,x']).run P w= .ok (.slice (some ⟨w.heap.size,0,none⟩) (n+m) (grownCap w (n+m) cap e))
   (w.drew.alloc (.cells (old++new++Builtin.zeroCells z.cells (grownCap w (n+m) cap e-(n+m))) e)):=by
 have h0:(#[Value.slice base n cap,x']:Array Value)[0]? =some (.slice base n cap):=rfl;have h1:(#[Value.slice base n cap,x']:Array Value)[1]? =some x':=rfl;have hn:¬(n+m<=cap):=by omega
 have Ou:¬(9223372036854775807<((n+m:Nat):Int)):=by omega
 have hmul:(n+m)*i.bytes<=1000000*1000000:=Nat.mul_le_mul hm hb;have Nm:=growslice_fits (bytes:=i.bytes) hle (by omega);have FQ:¬(Builtin.nextslicecap (n+m) cap*i.bytes>2^48):=by simpa using Nm
 have CP:IntKind.i64.max=9223372036854775807:=rfl;have FR:¬(((n+m:Nat):Int)>IntKind.i64.max):=by rw[CP];exact Ou
 have At:({w with drawn:=w.drawn+1}:World)=w.drew:=rfl;unfold Builtin.append_;rcases o0 yG with sL|⟨t1,d,sL,hd,hne⟩
 ·simp only[fQ,sL,h0,h1,Sem.run_bind,run_underlying hu,Result.andThen_ok,sizeOf,typeInfo,hi,run_program,Sem.run_pure,Bool.false_eq_true,if_false,hlen,Bool.not_false,if_true,if_neg hn,Bool.not_true,
   FR,false_and,FQ,run_choose,Question.forced,run_askRoom,At,yH,hf,zeroValue,Mu,newRow,run_newObj_alloc]
  rfl
 ·cases d<;>first
   |exact(hne _ rfl).elim
   |(simp only[fQ,sL,h0,h1,Sem.run_bind,run_underlying hu,run_underlying hd,Result.andThen_ok,sizeOf,typeInfo,hi,run_program,Sem.run_pure,Bool.false_eq_true,if_false,hlen,Bool.not_false,if_true,if_neg hn,Bool.not_true,
     FR,false_and,FQ,run_choose,Question.forced,run_askRoom,At,yH,hf,zeroValue,Mu,newRow,run_newObj_alloc];rfl)
end
theorem ye {ts:Array TypeId} (h:zg P ts=true):∃t k,ts[1]? =some t∧P.underlying t=some (.int k):=by
 unfold zg at h;split at h
 ·cases h
 ·rename_i t ht;split at h
  ·rename_i k hk;exact⟨t,k,ht,hk⟩
  ·cases h
theorem pJ {ts:Array TypeId} {t0 t1 ty e:TypeId} {i:TypeInfo} {z:Value} {base:Option Addr} {n m cap:Nat} {kk:IntKind} {old:Array Value} (w:World) (fQ:ts[0]? =some t0) (hu:P.underlying t0=some (.slice e)) (hi:P.info? e=some i)
  (sL:ts[1]? =some t1) (hd:P.underlying t1=some (.int kk)) (Mu:i.zero=some z) (yH:(Builtin.firstCells i.size n (.slice base n cap)).run P w.drew= .ok old w.drew) (Jy:0<m*i.size)
  (hle:cap<n+m) (hm:n+m<=1000000) (hb:i.bytes<=1000000):
  (Builtin.append_ ts ty #[.slice base n cap,.int .i64 (m:Int)]).run P w= .ok (.slice (some ⟨w.heap.size,0,none⟩) (n+m) (grownCap w (n+m) cap e))
   (w.drew.alloc (.cells (old++Builtin.zeroCells z.cells m++Builtin.zeroCells z.cells (grownCap w (n+m) cap e-(n+m))) e)):=by
 have h0:(#[Value.slice base n cap,.int .i64 (m:Int)]:Array Value)[0]? =some (.slice base n cap):=rfl;have h1:(#[Value.slice base n cap,.int .i64 (m:Int)]:Array Value)[1]? =some (.int .i64 (m:Int)):=rfl;have hn:¬(n+m<=cap):=by omega
 have hmul:(n+m)*i.bytes<=1000000*1000000:=Nat.mul_le_mul hm hb;have Nm:=growslice_fits (bytes:=i.bytes) hle (by omega);have FQ:¬(Builtin.nextslicecap (n+m) cap*i.bytes>2^48):=by simpa using Nm
 have CP:IntKind.i64.max=9223372036854775807:=rfl;have FR:¬(((n+m:Nat):Int)>IntKind.i64.max):=by rw[CP];omega
 have At:({w with drawn:=w.drawn+1}:World)=w.drew:=rfl;have LC:IntKind.i64.wrap (m:Int)=(m:Int):=by
  have:(m:Int)<9223372036854775808:=by omega
  unfold IntKind.wrap;simp[IntKind.signed,IntKind.bits];omega
 have Ov:¬((m:Int)<0):=by omega
 have EZ:m*i.bytes<=1000000*1000000:=Nat.mul_le_mul (by omega) hb;have CQ:¬((m:Int)*(i.bytes:Int)>2^48):=by
  have:(m:Int)*(i.bytes:Int)=((m*i.bytes:Nat):Int):=by simp
  rw[this];omega
 have QX:¬(m*i.size=0):=by omega
 have JZ:(m:Int).toNat=m:=by simp
 have QY:(asInt (.int .i64 (m:Int))).run P w= .ok (m:Int) w:=rfl;unfold Builtin.append_;simp only[fQ,sL,h0,h1,Sem.run_bind,run_underlying hu,run_underlying hd,Result.andThen_ok,sizeOf,typeInfo,hi,run_program,Sem.run_pure,if_true,QY,LC,Ov,if_false,CQ,JZ,Bool.not_true,Bool.false_eq_true,QX,if_neg hn,
  FR,false_and,FQ,run_choose,Question.forced,run_askRoom,At,yH,zeroValue,Mu,newRow,run_newObj_alloc]
 rfl
theorem qJ {base:Option Addr} {n c:Nat} {x':Value} (h:ag ρ (.slice base n c) x'):∃tM cap,x'= .slice tM n cap∧ef base c<=cap∧n<=ef base c∧(jw base c=true->cap=ef base c):=by
 cases h with
 |ba=>exact⟨none,0,rfl,Nat.le_refl _,Nat.le_refl _,λ_=>rfl⟩
 |slice off n c cap ad hx h1 h2 h3 h4 h5=>exact⟨some ad,cap,rfl,h2,h1,λh=>h3 (Nat.eq_of_beq_eq_true h)⟩
theorem grownCap_le (w:World) {need:Nat} (old:Nat) (e:TypeId):need<=grownCap w need old e:=by show need<=need+_%_;omega
theorem uc {v v':Value} {n:Nat} (w:World) (h:lenOf v=some n) (hv:ag ρ v v'):(Builtin.lenOf v').run P w= .ok n w∧∀b m c,v= .slice b m c->n<=m:=by
 unfold lenOf at h;split at h
 ·cases h;obtain⟨b,c,rfl,_⟩:=qJ hv;exact⟨rfl,λb m c e=>by cases e;exact Nat.le_refl _⟩
 ·cases h;cases hv;refine⟨?_,λb m c e=>by cases e⟩;rw[aZ];rfl
 ·cases h
theorem gI (z:Array Value) (n:Nat):(Builtin.zeroCells z n).toList=(List.replicate n z.toList).flatten:=by have:=lK z.toList n;unfold Builtin.zeroCells;simpa using this
theorem qK {s:AS} {w:World} (h:Rel P ρ s w):Rel P ρ s w.drew:=h.of_heap rfl
theorem B3 {t:T (List Value)} {ls:List (List Value)} {sz n b base:Nat} {cs:List Value} {w:World} (ht:∀i,t.get i=ls[i]?) (hl:∀l∈ls,l.length=sz) (hn:ls.length=n) (hc:af ρ ls.flatten cs)
  (hg:∀(j:Nat) (u:Value),cs[j]? =some u->w.cell? ⟨b,base+j,none⟩=some u):
  ∀i l,t.get i=some l->i<n∧l.length=sz∧∀(j:Nat) (v:Value),l[j]? =some v->∃u,w.cell? ⟨b,base+(i*sz+j),none⟩=some u∧ag ρ v u:=by
 intro i l lV;rw[ht i]at lV;refine⟨by rw[<-hn];exact(List.getElem?_eq_some_iff.1 lV).1,hl l (List.mem_of_getElem? lV),λj v hv=>?_⟩;have hj:j<sz:=by rw[<-hl l (List.mem_of_getElem? lV)];exact(List.getElem?_eq_some_iff.1 hv).1
 have hf:=flat_get hl lV j hj;rw[hv]at hf;obtain⟨u,lU,er⟩:=hc.get hf;exact⟨u,hg _ _ lU,er⟩
theorem Rel.again {s s1 s2:AS} {w w':World} {a:Nat} {k k':Blk} {x y:Loc} (hr:Rel P ρ s w) (hs:s.set a none=some s1) (hs2:s1.new k'=some s2)
  (hk:s.h.get a=some k) (hro:dZ k=false) (hx:ρ a=some x) (hy:y.b=x.b) (hsz:w'.heap.size=w.heap.size) (hold:∀b,b≠x.b->w'.heap[b]? =w.heap[b]?)
  (ht:w'.tape=w.tape) (ho:w'.os=w.os) (hu:w'.output=w.output) (hb:bX P (ρ.put s.nx y) y w' k') (hlk:jK k=false):
  Rel P (ρ.put s.nx y) s2 w'∧aR ρ s w (ρ.put s.nx y) s2 w':=by
 obtain⟨hnx,hg⟩:=AS.cD hs;obtain⟨S4,hg2⟩:=AS.dO hs2;have halt:a<s.nx:=by
  rcases Nat.lt_or_ge a s.nx with h|h
  ·exact h
  ·rw[hr.dM a h]at hx;cases hx
 have hlt:=(hr.blk a k x hk hx).1;have hne:∀a' k2 x2,a'≠a->s.h.get a'=some k2->ρ a'=some x2->x2.b≠x.b:= λa' k2 x2 h e r cr=>by have:=(hr.aX a' a k2 k x2 x h e hk r hx cr).2;rw[hro]at this;cases this
 have hle:aK ρ (ρ.put s.nx y):= λb z e=>by
  unfold Ren.put;by_cases ha:b=s.nx
  ·rw[ha,hr.dM _ (Nat.le_refl _)]at e;cases e
  ·rw[if_neg ha];exact e
 have bA:∀b,b≠s.nx->(ρ.put s.nx y) b=ρ b:= λa ha=>by unfold Ren.put;rw[if_neg ha]
 have fN:∀ {b k2},s2.h.get b=some k2->(b=s.nx∧k2=k')∨(b≠s.nx∧b≠a∧s.h.get b=some k2):= λ {b k2} e=>by
  rw[hg2,hnx]at e;by_cases hb:b=s.nx
  ·rw[if_pos hb]at e;cases e;exact .inl ⟨hb,rfl⟩
  ·rw[if_neg hb,hg]at e;by_cases ha:b=a
   ·rw[if_pos ha]at e;cases e
   ·rw[if_neg ha]at e;exact .inr ⟨hb,ha,e⟩
 have xa:s2.ao=s.ao:=(AS.gZ hs2).trans (AS.aT hs).1;refine(λ(hS:aR ρ s w (ρ.put s.nx y) s2 w')=>⟨⟨λb cr=>?_,λb cr=>?_,λb k2 z e e'=>?_,by rw[xa];have:=hr.ao;omega,λb b' k1 k2 x1 x2 cK e1 e2 r1 r2 jE=>?_,hr.gl.of hS.size hS.frame⟩,hS⟩) ⟨λb cr=>?_,by omega,ht,ho,hu,by omega,λb cr hn=>?_,λb cr hn=>?_,λb r cr=>?_,xa,λb cr=>by rw[hg2,hnx,if_neg (by have:=hr.ao;omega),AS.pX hs b cr],λb k2 z hl _ yD _ hz=>hold _ (hne b k2 z (by have:=(AS.aT hs).2;omega) yD hz)⟩
 ·rw[bA b (by omega)]
 ·have ir:b≠x.b:= λe=>hn ⟨a,k,x,hk,hx,e.symm⟩;refine⟨hold b ir,?_⟩;rintro⟨c,k2,z,e,e',rfl⟩;rcases fN e with ⟨rfl,rfl⟩|⟨h1,h2,h3⟩
  ·rw[bC]at e';cases e';exact ir hy
  ·rw[bA c h1]at e';exact hn ⟨c,k2,z,h3,e',rfl⟩
 ·exact .inl (by rw[hg2,hnx,if_neg (by omega),hg,if_neg (λe=>by rw[e,hx]at hn;cases hn)])
 ·by_cases ir:b=x.b
  ·subst ir;have:=n9 cr (hr.blk a k x hk hx).2;rw[hlk]at this;cases this
  ·exact⟨r,by rw[hold b ir];exact cr⟩
 ·rw[bA b (by omega)];exact hr.dM b (by omega)
 ·rw[hg2,hnx,if_neg (by omega),hg,if_neg (by omega)];exact hr.top b (by omega)
 ·rcases fN e with ⟨rfl,rfl⟩|⟨h1,h2,h3⟩
  ·rw[bC]at e';cases e';exact⟨by rw[hy];omega,hb⟩
  ·rw[bA b h1]at e';obtain⟨q1,q2⟩:=hr.blk b k2 z h3 e';exact⟨by omega,(q2.congr (hold _ (hne b k2 z h2 h3 e'))).mono hle⟩
 ·rcases fN e1 with ⟨rfl,rfl⟩|⟨h1,h2,h3⟩
  ·rcases fN e2 with ⟨rfl,rfl⟩|⟨h1,h2,h3⟩
   ·exact(cK rfl).elim
   ·rw[bC]at r1;cases r1;rw[bA b' h1]at r2;exact(hne b' k2 x2 h2 h3 r2 (by rw[<-jE,hy])).elim
  ·rw[bA b h1]at r1;rcases fN e2 with ⟨rfl,rfl⟩|⟨h4,h5,h6⟩
   ·rw[bC]at r2;cases r2;exact(hne b k1 x1 h2 h3 r1 (by rw[jE,hy])).elim
   ·rw[bA b' h4]at r2;exact hr.aX b b' k1 k2 x1 x2 cK h3 h6 r1 r2 jE
end Go.Eng
namespace Go.Eng
open Go
variable {P:Program} {ρ:Ren}
theorem oE {s:AS} {w:World} {sz n off c a:Nat} {x:Loc} {els:List (List Value)} (hr:Rel P ρ s w) (hx:ρ a=some x) (h:br s sz (.slice (some ⟨a,off,none⟩) n c) n=some els):
  (∀l∈els,l.length=sz)∧els.length=n∧∃cs,af ρ els.flatten cs∧cs.length=n*sz∧∀(j:Nat) (u:Value),cs[j]? =some u->w.cell? ⟨x.b,x.base+off+j,none⟩=some u:=by
 cases n with
 |zero=>cases h;exact⟨λl hl=>(by cases hl),rfl,[],.nil,by simp,λj u h=>by simp at h⟩
 |succ n=>have h:jO (s.h.get a) sz off (n+1)=some els:=h;obtain⟨hl,h4,r⟩:=kv hr hx h;exact⟨h4,hl,r⟩
theorem af.two {a b:Value} {l:List Value} (h:af ρ [a,b] l):∃a' b',l= [a',b']∧ag ρ a a'∧ag ρ b b':=by
 cases h with
 |cons h1 h=>
  cases h with
  |cons h2 h=>cases h;exact⟨_,_,rfl,h1,h2⟩
theorem af.uS {a:Value} {l:List Value} (h:af ρ [a] l):∃a',l= [a']∧ag ρ a a':=by
 cases h with
 |cons h1 h=>cases h;exact⟨_,rfl,h1⟩
theorem s9:∀ {l:List (List Value)},dU l=true->∀v∈l.flatten,cy v=true:=by
 intro l;induction l with
 |nil=>intro _ v hv;simp at hv
 |cons a l ih=>
  intro h v hv;have h':ab (jN a) (dU l) false=true:=h;rw[ai]at h';split at h'
  ·rename_i ha;rw[List.flatten_cons,List.mem_append]at hv;rcases hv with hv|hv
   ·exact ng ha v hv
   ·exact ih h' v hv
  ·cases h'
theorem ru {s:AS} {et:TypeId} {sz n:Nat} {els:List (List Value)} {r:Value×AS} (h:gf s et sz els n=some r):
  sz<256∧els.length=n∧(∀l∈els,l.length=sz)∧∃t s',uL els 0 .e=some t∧s.new (.cells t sz n false et)=some s'∧r=(.slice (some ⟨s.nx,0,none⟩) n (codeLB n sz),s'):=by
 unfold gf at h;replace h:=ae h;obtain⟨hsz,h⟩:=h;unfold i9 at h;replace h:=ae h;obtain⟨hn,h⟩:=h;replace h:=ae h;obtain⟨hl,h⟩:=h;replace h:=aB h;obtain⟨t,wN,h⟩:=h;replace h:=aB h;obtain⟨s1,gE,h⟩:=h;exact⟨Nat.le_of_ble_eq_true hsz,by rw[<-aZ];exact Nat.eq_of_beq_eq_true hn,fD hl,t,s1,wN,gE,iL h⟩
def qA (s:AS) (et:TypeId) (sz:Nat) (els:List (List Value)) (n:Nat) (r:Value×AS):Prop:=
 sz<256∧els.length=n∧(∀l∈els,l.length=sz)∧∃t s',(∀i,t.get i=els[i]?)∧s.new (.cells t sz n false et)=some s'∧r=(.slice (some ⟨s.nx,0,none⟩) n (codeLB n sz),s')
theorem ud {s:AS} {et:TypeId} {sz n:Nat} {els:List (List Value)} {r:Value×AS} (h:gf s et sz els n=some r):qA s et sz els n r:=by obtain⟨a,b,c,t,s',h1,h2,h3⟩:=ru h;exact⟨a,b,c,t,s',tZ h1,h2,h3⟩
theorem wo {s:AS} {w w':World} {et:TypeId} {sz n cap lo hi:Nat} {els:List (List Value)} {r:Value×AS} {cs rest:List Value}
  (hr:Rel P ρ s w) (h:qA s et sz els n r) (hc:af ρ els.flatten cs) (oQ:n<=cap) (G4:cs.length+rest.length=cap*sz) (yF:∀o,lo<=o->o<hi->cs.length+rest.length<=o∧P.underlying et=some (.int .u8))
  (hh:w'.heap=w.heap.push (.cells (cs++rest).toArray et (lo,hi))) (ht:w'.tape=w.tape) (ho:w'.os=w.os) (hu:w'.output=w.output):
  ∃aj,ag aj r.1 (.slice (some ⟨w.heap.size,0,none⟩) n cap)∧Rel P aj r.2 w'∧aR ρ s w aj r.2 w':=by
 obtain⟨hsz,hn,hl,t,s1,wN,gE,rfl⟩:=h;have hle:=ik (hr.dM _ (Nat.le_refl _)) ⟨w.heap.size,0,cs.length+rest.length,[]⟩;obtain⟨hR,hS⟩:=Rel.alloc hr gE rfl (by rw[hh];simp) (λb hb=>by rw[hh];simp[Array.getElem?_push,Nat.ne_of_lt hb]) ht ho hu (ua wN hl hn (hc.mono hle) yF hh);refine⟨_,?_,hR,hS⟩;have e:(⟨w.heap.size,0,none⟩:Addr)=⟨(⟨w.heap.size,0,cs.length+rest.length,[]⟩:Loc).b,(⟨w.heap.size,0,cs.length+rest.length,[]⟩:Loc).base+0,none⟩:=rfl;refine .slice 0 n (codeLB n sz) cap _ (bC _ _ _) (by rw[cI hsz];exact Nat.le_refl _) (by rw[cI hsz];exact oQ) (λh=>by rw[gB]at h;cases h) (.inl e) (λ_=>?_);rw[iM hsz];show 0+0+cap*sz<=cs.length+rest.length;omega
def dj:T (List Value)->List Nat
 | .e=> []
 | .n v l r=>(match v with|some _=> [0]|none=> [])++(dj l).map (λm=>2*m+1)++(dj r).map (λm=>2*m+2)
theorem oh:∀c:T (List Value),(dj c).length=Bh c
 | .e=>rfl
 | .n v l r=>by have h:Bh (.n v l r)=Option.rec (motive:= λ_=>Nat) 0 (λ_=>1) v+(Bh l+Bh r):=rfl;rw[h,<-oh l,<-oh r];cases v<;>simp[dj]<;>omega
theorem kN:∀(c:T (List Value)) (i:Nat),i∈dj c↔ ∃l,c.get i=some l
 | .e,i=>by simp[dj,T.get_e]
 | .n v l r,i=>by
  have e:i∈dj (.n v l r)↔(i=0∧v.isSome=true)∨(∃m,m∈dj l∧2*m+1=i)∨∃m,m∈dj r∧2*m+2=i:=by cases v<;>simp[dj]
  rw[e];rcases aA i with rfl|⟨m,rfl⟩|⟨m,rfl⟩
  ·rw[T.bp];constructor
   ·rintro(⟨_,h⟩|⟨m,_,h⟩|⟨m,_,h⟩)
    ·exact Option.isSome_iff_exists.1 h
    ·omega
    ·omega
   ·exactλh=> .inl ⟨rfl,Option.isSome_iff_exists.2 h⟩
  ·rw[T.aH,<-kN l m];constructor
   ·rintro(⟨h,_⟩|⟨m',h,he⟩|⟨m',_,he⟩)
    ·omega
    ·have:m'=m:=by omega
     rw[<-this];exact h
    ·omega
   ·exactλh=> .inr (.inl ⟨m,h,rfl⟩)
  ·rw[T.ay,<-kN r m];constructor
   ·rintro(⟨h,_⟩|⟨m',_,he⟩|⟨m',h,he⟩)
    ·omega
    ·omega
    ·have:m'=m:=by omega
     rw[<-this];exact h
   ·exactλh=> .inr (.inr ⟨m,h,rfl⟩)
theorem kh:∀c:T (List Value),(dj c).Nodup
 | .e=> .nil
 | .n v l r=>by
  have h1:((dj l).map (λm=>2*m+1)).Nodup:=List.Pairwise.map _ (λa b h=>by omega) (kh l);have h2:((dj r).map (λm=>2*m+2)).Nodup:=List.Pairwise.map _ (λa b h=>by omega) (kh r);have h3:((dj l).map (λm=>2*m+1)++(dj r).map (λm=>2*m+2)).Nodup:=by refine List.nodup_append.2 ⟨h1,h2,λa ha b hb=>?_⟩;obtain⟨x,_,rfl⟩:=List.mem_map.1 ha;obtain⟨y,_,rfl⟩:=List.mem_map.1 hb;omega
  cases v with
  |none=>simpa[dj]using h3
  |some v=>
   have e:dj (.n (some v) l r)=0::((dj l).map (λm=>2*m+1)++(dj r).map (λm=>2*m+2)):=by simp[dj]
   rw[e];refine List.nodup_cons.2 ⟨λh=>?_,h3⟩;rcases List.mem_append.1 h with h|h
   ·obtain⟨x,_,hx⟩:=List.mem_map.1 h;omega
   ·obtain⟨x,_,hx⟩:=List.mem_map.1 h;omega
theorem nj:∀(n:Nat) (l:List Nat),l.Nodup->(∀x∈l,x<n)->l.length<=n
 |0,[],_,_=>Nat.le_refl _
 |0,x::l,_,h=>absurd (h x (by simp)) (Nat.not_lt_zero _)
 |n+1,l,hn,h=>by
  have h1:=nj n (l.erase n) (hn.erase n) (λx hx=>by
   have:=(hn.mem_erase_iff).1 hx;have:=h x this.2;have:x≠n:=by have:=(hn.mem_erase_iff).1 hx;exact this.1
   omega)
  have h2:l.length<=(l.erase n).length+1:=by
   by_cases hm:n∈l
   ·rw[List.length_erase_of_mem hm];omega
   ·rw[List.erase_of_not_mem hm];omega
  omega
theorem B4 {c:T (List Value)} {n:Nat} (h:Bh c=n) (hb:∀i l,c.get i=some l->i<n) (i:Nat) (hi:i<n):∃l,c.get i=some l:=by
 rw[<-kN];refine Classical.byContradiction λyG=>?_;have hlt:∀x∈i::dj c,x<n:= λx hx=>by
  rcases List.mem_cons.1 hx with rfl|hx
  ·exact hi
  ·obtain⟨l,hl⟩:=(kN c x).1 hx;exact hb x l hl
 have:=nj n (i::dj c) (List.nodup_cons.2 ⟨yG,kh c⟩) hlt;rw[List.length_cons,oh,h]at this;omega
theorem rv {c:T (List Value)}:∀(n i:Nat),(∀j,i<=j->j<i+n->∃l,c.get j=some l)->∃els,elems c n i=some els
 |0,i,_=>⟨[],rfl⟩
 |n+1,i,h=>by obtain⟨l,hl⟩:=h i (Nat.le_refl _) (by omega);obtain⟨els,he⟩:=rv n (i+1) (λj h1 h2=>h j (by omega) (by omega));refine⟨l::els,?_⟩;show Option.rec (motive:= λ_=>Option (List (List Value))) none (λl=>Option.rec (motive:= λ_=>Option (List (List Value))) none (λr=>some (l::r)) (elems c n (Nat.succ i))) (c.get i)=_;rw[hl];show Option.rec (motive:= λ_=>Option (List (List Value))) none (λr=>some (l::r)) (elems c n (Nat.succ i))=_;rw[he]
theorem pK {s:AS} {w:World} {et:TypeId} {sz m n c:Nat} {els:List (List Value)} {a:Addr} {x:Loc} {r:Value×AS} (hr:Rel P ρ s w) (hx:ρ a.block=some x) (iu:a.spot=none) (h:gA s et sz m els (some a) n c=some r):
  jw (some a) c=false∧dU els=true∧Nat.beq (xg c) sz=true∧a.off=0∧∃cc s1 old,s.h.get a.block=some (.cells cc sz n false et)∧s.set a.block none=some s1∧br s sz (.slice (some a) n c) n=some old∧qA s1 et sz (old++els) (n+m) r:=by
 unfold gA at h;replace h:=bh h;obtain⟨hex,h⟩:=h;replace h:=ae h;obtain⟨hcs,h⟩:=h;replace h:=ae h;obtain⟨ma,h⟩:=h;replace h:=bh h;obtain⟨hz,h⟩:=h;replace h:=ae h;obtain⟨Ow,h⟩:=h;replace h:=bN h;obtain⟨cc,iX,cnt,ro,tz,hb,h⟩:=h;replace h:=bh h;obtain⟨hro,h⟩:=h;replace h:=ae h;obtain⟨Fp,h⟩:=h;replace h:=ae h;obtain⟨het,h⟩:=h;replace h:=ae h;obtain⟨Hy,h⟩:=h;replace h:=ae h;obtain⟨Nn,h⟩:=h;replace h:=ae h;obtain⟨lk,h⟩:=h;replace h:=ae h;obtain⟨Mv,h⟩:=h;replace h:=ae h;obtain⟨No,h⟩:=h;replace h:=U h;obtain⟨t,ht,h⟩:=h;replace h:=U h;obtain⟨s1,gE,h⟩:=h;rw[ak]at h;replace h:=U h;obtain⟨s2,hs2,h⟩:=h;replace Fp:=Nat.eq_of_beq_eq_true Fp;replace het:=Nat.eq_of_beq_eq_true het;replace Hy:=Nat.eq_of_beq_eq_true Hy;replace Nn:=Nat.eq_of_beq_eq_true Nn;replace ma:=Nat.eq_of_beq_eq_true ma;have No:els.length=m:=by rw[<-aZ];exact Nat.eq_of_beq_eq_true No
 subst Fp het Hy hro;obtain⟨_,hC⟩:=hr.blk a.block _ x hb hx;have hC:aL P ρ x w cc sz cnt false et:=hC;have hlt:∀i l,cc.get i=some l->i<cnt:= λi l e=>(hC.cell i l e).1;have LD:=B4 Nn hlt;obtain⟨old,hold⟩:=rv (c:=cc) cnt 0 (λj _ h2=>LD j (by omega));obtain⟨Mw,yW⟩:=oe cnt 0 old hold;have Ox:∀j,j<cnt->cc.get j=old[j]?:= λj hj=>by
  have Np:j<old.length:=by rw[Mw];exact hj
  have:=yW j old[j] (by simp[Np]);rw[Nat.zero_add]at this;rw[this];simp[Np]
 refine⟨hex,lk,hcs,ma,cc,s1,old,hb,gE,?_,?_⟩
 ·have Nq:Nat.beq sz 0=false:=hz;cases cnt with
  |zero=>have:old= []:=List.length_eq_zero_iff.1 Mw;rw[this];rfl
  |succ k=>show jO (s.h.get a.block) sz a.off (k+1)=some old;rw[hb];show ab (Nat.beq sz 0) none (ab (Nat.beq sz sz) (ab (Nat.beq (Nat.mod a.off sz) 0) (elems cc (k+1) (Nat.div a.off sz)) none) _)=some old;have hm:Nat.mod 0 sz=0:=Nat.zero_mod sz;have hd:Nat.div 0 sz=0:=Nat.zero_div sz;rw[Nq,bS,show Nat.beq sz sz=true from Nat.beq_refl sz,bF,ma,hm,hd,show Nat.beq 0 0=true from rfl,bF];exact hold
 ·refine⟨Nat.le_of_ble_eq_true Ow,by rw[List.length_append,Mw,No],λl hl=>?_,t,s2,λi=>?_,hs2,?_⟩
  ·rcases List.mem_append.1 hl with hl|hl
   ·obtain⟨j,hj,rfl⟩:=List.mem_iff_getElem.1 hl;have:=yW j old[j] (by simp[hj]);rw[Nat.zero_add]at this;exact(hC.cell _ _ this).2.1
   ·exact fD Mv l hl
  ·rw[qI _ _ _ _ ht i];by_cases hc:cnt<=i∧i<cnt+els.length
   ·rw[if_pos hc,List.getElem?_append_right (by omega),Mw]
   ·rw[if_neg hc];by_cases hi:i<cnt
    ·rw[List.getElem?_append_left (by omega)];exact Ox i hi
    ·rw[List.getElem?_append_right (by omega),List.getElem?_eq_none (by omega)];cases e:cc.get i with
     |none=>rfl
     |some l=>have:=hlt i l e;omega
  ·exact iL h
theorem aL.ro {x:Loc} {w:World} {c sz n ro et} (h:aL P ρ x w c sz n ro et):aL P ρ x w c sz n true et:=⟨h.cell,h.all,λe=>(by cases e),h.shape,h.mult⟩
theorem ue {aj:Ren} {s s1 s2:AS} {w w':World} {i nm cd sz m:Nat} {et:TypeId} {x:Loc} {cc t:T (List Value)} {r:Value×AS} {u:Value} (yV:Rel P ρ s w) (hx:ρ i=some x) (hb:s.h.get i=some (.cells cc sz m false et)) (gE:s.set i none=some s1) (hnew:s1.new (.cells t sz nm false et)=some s2)
  (hR:Rel P aj s2 w') (hS:aR ρ s w aj s2 w') (hC:aL P ρ x w' cc sz m false et) (QZ:x.b<w'.heap.size) (hv:ag aj (.slice (some ⟨s1.nx,0,none⟩) nm cd) u) (h:qE i cc sz m et (.slice (some ⟨s1.nx,0,none⟩) nm cd,s2)=some r):ag aj r.1 u∧Rel P aj r.2 w'∧aR ρ s w aj r.2 w':=by
 have h:(dC (s2.h.get s1.nx) λM9 Na m2 _ Mm=>ob (s2.set s1.nx (some (.cells M9 Na m2 true Mm))) λs3=>ob (s3.set i (some (.cells cc sz m true et))) λs4=>some ((.slice (some ⟨s1.nx,0,none⟩) nm cd:Value),s4))=some r:=h;obtain⟨Ta,yI⟩:=AS.cD gE;obtain⟨PY,hg2⟩:=AS.dO hnew;obtain⟨GD,Tb⟩:=AS.aT gE;have xa:=AS.gZ hnew;have xo:s2.h.get s1.nx=some (.cells t sz nm false et):=by rw[hg2,if_pos rfl]
 rw[xo]at h;have h:(ob (s2.set s1.nx (some (.cells t sz nm true et))) λs3=>ob (s3.set i (some (.cells cc sz m true et))) λs4=>some ((.slice (some ⟨s1.nx,0,none⟩) nm cd:Value),s4))=some r:=h;replace h:=U h;obtain⟨s3,hs3,h⟩:=h;replace h:=U h;obtain⟨s4,PZ,h⟩:=h;cases h;obtain⟨Hz,Mx⟩:=AS.cD hs3;obtain⟨Q0,My⟩:=AS.cD PZ;have P0:=(AS.aT hs3).1;have P1:=(AS.aT PZ).1;have Oy:i<s.nx:=Nat.lt_of_not_le λhle=>by rw[yV.dM i hle]at hx;cases hx
 have S5:i≠s1.nx:=by omega
 have eJ:aj i=some x:=by rw[hS.jj i Oy];exact hx
 have hle:=hS.le yV;have fN:∀ {j k},s4.h.get j=some k->(j=i∧k= .cells cc sz m true et)∨(j=s1.nx∧k= .cells t sz nm true et)∨(j≠i∧j≠s1.nx∧s2.h.get j=some k∧s.h.get j=some k):= λ {j k} e=>by
  rw[My]at e;by_cases h1:j=i
  ·rw[if_pos h1]at e;cases e;exact .inl ⟨h1,rfl⟩
  ·rw[if_neg h1,Mx]at e;by_cases h2:j=s1.nx
   ·rw[if_pos h2]at e;cases e;exact .inr (.inl ⟨h2,rfl⟩)
   ·rw[if_neg h2]at e;refine .inr (.inr ⟨h1,h2,e,?_⟩);rw[hg2,if_neg h2,yI,if_neg h1]at e;exact e
 have other:∀ {j k z},j≠i->j≠s1.nx->s.h.get j=some k->aj j=some z->z.b≠x.b:= λ {j k z} h1 h2 e e' hz=>by
  have hj:j<s.nx:=Nat.lt_of_not_le λhle=>by rw[yV.top j hle]at e;cases e
  rw[hS.jj j hj]at e';have:=(yV.aX j i k _ z x h1 e hb e' hx hz).2;cases this
 show ag aj (.slice (some ⟨s1.nx,0,none⟩) nm cd) u∧Rel P aj s4 w'∧aR ρ s w aj s4 w';refine(λ(aS:aR ρ s w aj s4 w')=>⟨hv,⟨λa ha=>hR.dM a (by omega),λa ha=>?_,λa k z e e'=>?_,by rw[P1,P0,Q0,Hz];exact hR.ao,λa a' k k' z z' hne e1 e2 r1 r2 jE=>?_,yV.gl.of aS.size aS.frame⟩,aS⟩) ⟨hS.jj,by have:=hS.nx;omega,hS.tape,hS.os,hS.out,hS.size,λb cr hn=>?_,λa ha hn=>?_,hS.lp,by rw[P1,P0];exact hS.ao,λa ha=>?_,hS.fW⟩
 ·obtain⟨q1,q2⟩:=hS.frame b cr hn;refine⟨q1,?_⟩;rintro⟨a,k,z,e,e',rfl⟩;rcases fN e with ⟨rfl,rfl⟩|⟨rfl,rfl⟩|⟨_,_,h2,_⟩
  ·rw[eJ]at e';cases e';exact hn ⟨a,_,x,hb,hx,rfl⟩
  ·exact q2 ⟨_,_,z,xo,e',rfl⟩
  ·exact q2 ⟨a,k,z,h2,e',rfl⟩
 ·have h1:a≠i:= λe=>by rw[e,hx]at hn;cases hn
  rw[My,if_neg h1,Mx,if_neg (by omega)];exact hS.ph a ha hn
 ·have:=yV.ao;rw[My,if_neg (by omega),Mx,if_neg (by omega)];exact hS.low a ha
 ·rw[My,if_neg (by omega),Mx,if_neg (by omega)];exact hR.top a (by omega)
 ·rcases fN e with ⟨rfl,rfl⟩|⟨rfl,rfl⟩|⟨_,_,h2,_⟩
  ·rw[eJ]at e';cases e';exact⟨QZ,(hC.mono hle).ro⟩
  ·obtain⟨q1,q2⟩:=hR.blk _ _ z xo e';have q2:aL P aj z w' t sz nm false et:=q2;exact⟨q1,q2.ro⟩
  ·exact hR.blk a k z h2 e'
 ·rcases fN e1 with ⟨rfl,rfl⟩|⟨rfl,rfl⟩|⟨p1,p2,p3,p4⟩
  ·rcases fN e2 with ⟨rfl,rfl⟩|⟨rfl,rfl⟩|⟨q1,q2,q3,q4⟩
   ·exact⟨rfl,rfl⟩
   ·exact⟨rfl,rfl⟩
   ·rw[eJ]at r1;cases r1;exact(other q1 q2 q4 r2 jE.symm).elim
  ·rcases fN e2 with ⟨rfl,rfl⟩|⟨rfl,rfl⟩|⟨q1,q2,q3,q4⟩
   ·exact⟨rfl,rfl⟩
   ·exact⟨rfl,rfl⟩
   ·have:=(hR.aX _ a' _ k' z z' hne xo q3 r1 r2 jE).1;cases this
  ·rcases fN e2 with ⟨rfl,rfl⟩|⟨rfl,rfl⟩|⟨q1,q2,q3,q4⟩
   ·rw[eJ]at r2;cases r2;exact(other p1 p2 p4 r1 jE).elim
   ·have:=(hR.aX a _ k _ z z' hne p3 xo r1 r2 jE).2;cases this
   ·exact hR.aX a a' k k' z z' hne p3 q3 r1 r2 jE
theorem xD {z:List Value}:∀ {n:Nat} {els:List (List Value)},uN z n=some els->els=List.replicate n z
 |0,els,h=>by cases h;rfl
 |n+1,els,h=>by have h:ob (uN z n) (λr=>some (z::r))=some els:=h;obtain⟨r,hr,h⟩:=U h;cases h;rw[xD hr];rfl
theorem ta {ts:Array TypeId} {t0 t1 ty e:TypeId} {kk:IntKind} {sz:Nat} {z:List Value} {s:AS} {w:World} {l l':List Value} {r:Value×AS} (hr:Rel P ρ s w) (E4:gq P e=some (sz,z)) (fQ:ts[0]? =some t0) (hu:P.underlying t0=some (.slice e))
  (sL:ts[1]? =some t1) (hd:P.underlying t1=some (.int kk)) (h:vG s e sz z l=some r) (hl:af ρ l l'):jx P ρ s w (Builtin.append_ ts ty l'.toArray) r:=by
 obtain⟨i,zv,hi,Cu,hz,hsz,lB,BJ,xb,Nr,_⟩:=dF (ρ:=ρ) E4;unfold vG at h;split at h
 case h_2=>cases h
 rename_i base n c m;replace h:=ae h;obtain⟨hex,h⟩:=h;replace h:=ae h;obtain⟨hlt,h⟩:=h;replace h:=ae h;obtain⟨E5,h⟩:=h;replace h:=ae h;obtain⟨Jy,h⟩:=h;replace h:=U h;obtain⟨old,hold,h⟩:=h;replace h:=U h;obtain⟨els,ea,h⟩:=h;replace h:=U h;obtain⟨all,hall,h⟩:=h;rw[pV]at hall;replace hall:all=old++els:=(Option.some.inj hall).symm;obtain⟨x',y',rfl,hx,hy⟩:=af.two hl;cases hy;have eh:([x',.int .i64 (m:Int)]:List Value).toArray= #[x',.int .i64 (m:Int)]:=rfl;show jx P ρ s w (Builtin.append_ ts ty ([x',.int .i64 (m:Int)]:List Value).toArray) r;rw[eh];obtain⟨tM,cap,rfl,Q1,J0,Ns⟩:=qJ hx;have oQ:=Ns hex;have hlt:ef base c<n+m:=by have:=Nat.le_of_ble_eq_true hlt;exact this
 have E5:n+m<=1000000:=Nat.le_of_ble_eq_true E5;have Jy:0<m*sz:=by have:=Nat.le_of_ble_eq_true Jy;exact this
 obtain⟨b1,b2,os,HA,Bs,yH⟩:=bt (qK hr) hold hx (λb m c e=>by cases e;exact Nat.le_refl _);rw[<-hsz]at yH;have hrun:=pJ (P:=P) (ty:=ty) w fQ hu hi sL hd Cu yH (by rw[hsz];exact Jy) (show cap<n+m by omega) E5 lB;have wM:=grownCap_le w (need:=n+m) cap e;have LF:=xD ea;have LG:∀q,af ρ (List.replicate q z).flatten (List.replicate q z).flatten:= λq=>by
  induction q with
  |zero=>exact .nil
  |succ q ih=>rw[List.replicate_succ,List.flatten_cons];exact Nr.append ih
 have G6:∀q,(List.replicate q z).flatten.length=q*sz:= λq=>by rw[gw (sz:=sz) (λl hl=>by rw[(List.mem_replicate.1 hl).2,BJ]),List.length_replicate]
 have hcell:os.toArray++Builtin.zeroCells zv.cells m++Builtin.zeroCells zv.cells (grownCap w (n+m) cap e-(n+m))=((os++(List.replicate m z).flatten)++(List.replicate (grownCap w (n+m) cap e-(n+m)) z).flatten).toArray:=by apply Array.ext';rw[hz];simp only[Array.toList_append,gI]
 rw[hcell]at hrun;have hrel:af ρ all.flatten (os++(List.replicate m z).flatten):=by rw[hall,List.flatten_append,LF];exact HA.append (LG m)
 obtain⟨aj,hv,hR,hS⟩:=oZ (rest:=(List.replicate (grownCap w (n+m) cap e-(n+m)) z).flatten) (lo:=0) (hi:=0) (cap:=grownCap w (n+m) cap e)
  (w':=w.drew.alloc (.cells ((os++(List.replicate m z).flatten)++(List.replicate (grownCap w (n+m) cap e-(n+m)) z).flatten).toArray e)) hr h hrel wM
  (by rw[List.length_append,Bs,G6,G6,<-Nat.add_mul,<-Nat.add_mul];congr 1;omega) (λo h1 h2=>by omega) rfl rfl rfl rfl
 exact⟨aj,_,_,hrun,hv,hR,hS⟩
theorem tb {sh:Bool} {ts:Array TypeId} {ty:TypeId} {s:AS} {w:World} {l l':List Value} {r:Value×AS} (hr:Rel P ρ s w) (h:vH P sh ts s l=some r) (hl:af ρ l l'):
  jx P ρ s w (Builtin.append_ ts ty l'.toArray) r:=by
 unfold vH at h;replace h:=U h;obtain⟨e,he,h⟩:=h;replace h:=U h;obtain⟨⟨sz,z⟩,E4,h⟩:=h;obtain⟨i,zv,hi,Cu,hz,hsz,lB,BJ,xb,_⟩:=dF (ρ:=ρ) E4;have Q2:∃t0,ts[0]? =some t0∧P.underlying t0=some (.slice e):=by
  unfold qq lj at he;split at he
  ·rename_i e' fP;cases he;split at fP
   ·rename_i t ht;exact⟨t,ht,fP⟩
   ·cases fP
  ·cases he
 obtain⟨t0,fQ,hu⟩:=Q2;rw[ai]at h;split at h
 case isFalse=>replace h:=ae h;obtain⟨HB,h⟩:=h;obtain⟨t1,kk,sL,hd⟩:=ye HB;exact ta hr E4 fQ hu sL hd h hl
 rename_i yG;split at h
 case h_2=>cases h
 rename_i x y;replace h:=U h;obtain⟨m,hm,h⟩:=h;replace h:=U h;obtain⟨els,ea,h⟩:=h;obtain⟨x',y',rfl,hx,hy⟩:=af.two hl;have eh:([x',y']:List Value).toArray= #[x',y']:=rfl;rw[eh];obtain⟨hlen,Il⟩:=uc w hm hy;unfold AM at h;split at h
 case h_2=>cases h
 rename_i base n c;change ab (Nat.ble (Nat.add n m) (ef base c)) (qD s sz base n m c els)
   (ab (Nat.ble (Nat.add n m) 1000000) (KM (ab sh none (gA s e sz m els base n c)) (ob (br s sz (.slice base n c) n) λold=>ob (sy old els) λall=>ab (jw base c) (gf s e sz all (Nat.add n m)) (ab (dU els) (mO sh s e sz base n (Nat.add n m) c all) none))) none)=some r at h
 obtain⟨tM,cap,rfl,Q1,J0,Ns⟩:=qJ hx;have hnew:cap<n+m->n+m<=1000000->∀ {s1:AS} {all old:List (List Value)} {r:Value×AS},Rel P ρ s1 w->br s sz (.slice base n c) n=some old->all=old++els->qA s1 e sz all (n+m) r->
   ∃aj u w',(Builtin.append_ ts ty #[.slice tM n cap,y']).run P w= .ok u w'∧ag aj r.1 u∧Rel P aj r.2 w'∧aR ρ s1 w aj r.2 w'∧(∀b,b<w.heap.size->w'.heap[b]? =w.heap[b]?):=by
  intro oQ E5 s1 all old r wO hold hall jz;obtain⟨a1,a2,cs,hcs,mc,hf⟩:=bt (qK hr) ea hy Il;obtain⟨b1,b2,os,HA,Bs,yH⟩:=bt (qK hr) hold hx (λb m c e=>by cases e;exact Nat.le_refl _);rw[<-hsz]at hf yH;have hrun:=si (P:=P) (ty:=ty) w fQ hu hi yG hlen Cu yH hf oQ E5 lB;have Nr:=gI zv.cells (grownCap w (n+m) cap e-(n+m));have hcell:os.toArray++cs.toArray++Builtin.zeroCells zv.cells (grownCap w (n+m) cap e-(n+m))=((os++cs)++(List.replicate (grownCap w (n+m) cap e-(n+m)) z).flatten).toArray:=by apply Array.ext';rw[hz];simp only[Array.toList_append,Nr]
  rw[hcell]at hrun;have wM:=grownCap_le w (need:=n+m) cap e;have hrel:af ρ all.flatten (os++cs):=by rw[hall,List.flatten_append];exact HA.append hcs
  have Oz:(List.replicate (grownCap w (n+m) cap e-(n+m)) z).flatten.length=(grownCap w (n+m) cap e-(n+m))*sz:=by rw[gw (sz:=sz) (λl hl=>by rw[(List.mem_replicate.1 hl).2,BJ]),List.length_replicate]
  obtain⟨aj,hv,hR,hS⟩:=wo (rest:=(List.replicate (grownCap w (n+m) cap e-(n+m)) z).flatten) (lo:=0) (hi:=0) (cap:=grownCap w (n+m) cap e)
   (w':=w.drew.alloc (.cells ((os++cs)++(List.replicate (grownCap w (n+m) cap e-(n+m)) z).flatten).toArray e)) wO jz hrel wM
   (by rw[List.length_append,Bs,mc,Oz,<-Nat.add_mul,<-Nat.add_mul];congr 1;omega) (λo h1 h2=>by omega) rfl rfl rfl rfl
  exact⟨aj,_,_,hrun,hv,hR,hS,λb hb=>by show(w.heap.push _)[b]? =_;rw[Array.getElem?_push,if_neg (Nat.ne_of_lt hb)]⟩
 rw[ai]at h;split at h
 ·rename_i CR;replace CR:n+m<=ef base c:=Nat.le_of_ble_eq_true CR;obtain⟨a1,a2,cs,hcs,mc,hf⟩:=bt hr ea hy Il;rw[<-hsz]at hf;have hrun:=ll (P:=P) (ty:=ty) (base:=tM) w fQ hu hi yG hlen hf (show n+m<=cap by omega);unfold qD at h;split at h
  ·cases h;cases hx;have:m=0:=by have:0+m<=0:=CR;omega
   subst this;exact⟨ρ,_,w,hrun,.ba,hr,.refl _ _ _⟩
  ·rename_i a;replace h:=U h;obtain⟨s',fu,h⟩:=h;rw[ak]at h;cases h;cases hx with| @slice a x off n c cap ad hx h1 h2 h3 h4 h5=>?_
   have CS:ag ρ (.slice (some ⟨a,off,none⟩) (n+m) c) (.slice (some ad) (n+m) cap):= .slice off (n+m) c cap ad hx CR h2 h3 h4 h5;cases m with
   |zero=>have:els= []:=List.length_eq_zero_iff.1 a2;subst this;cases fu;have:cs= []:=List.length_eq_zero_iff.1 (by rw[mc];simp);subst this;exact⟨ρ,_,w,hrun,CS,hr,.refl _ _ _⟩
   |succ m=>
    have Ct:ad=⟨x.b,x.base+off,none⟩:=by
     rcases h4 with h4|h4
     ·exact h4
     ·have:n+(m+1)<=c/512:=CR;omega
    subst Ct;obtain⟨w',kU,hR,hS⟩:=fj hx hr fu hcs a1;refine⟨ρ,_,w',?_,CS,hR,hS⟩;rw[hrun];have e1:(⟨x.b,x.base+off,none⟩:Addr).add (n*i.size)=⟨x.b,x.base+Nat.add off (Nat.mul n sz),none⟩:=by
     rw[cL,hsz];show(⟨x.b,x.base+off+n*sz,none⟩:Addr)=⟨x.b,x.base+(off+n*sz),none⟩
     rw[Nat.add_assoc]
    simp only[e1,kU,Result.andThen_ok]
 ·rename_i wZ;replace h:=ae h;obtain⟨E5,h⟩:=h;replace E5:n+m<=1000000:=Nat.le_of_ble_eq_true E5;replace wZ:¬(n+m<=ef base c):= λh=>wZ (Nat.ble_eq_true_of_le h);have AY:∀(a:Addr) (cc:T (List Value)) (n0:Nat) (s1:AS) (old all:List (List Value)) (r0:Value×AS),base=some a->¬jw base c=true->dU els=true->Nat.beq (xg c) sz=true->s.h.get a.block=some (.cells cc sz n0 false e)->Nat.beq (Nat.mod a.off sz) 0=true->
    s.set a.block none=some s1->br s sz (.slice base n c) n=some old->all=old++els->qA s1 e sz all (n+m) r0->ab sh (ab (Nat.beq (Nat.add (Nat.div a.off sz) n) n0) (qE a.block cc sz n0 e r0) none) (some r0)=some r->
    ∃aj u w',(Builtin.append_ ts ty #[.slice tM n cap,y']).run P w= .ok u w'∧ag aj r.1 u∧Rel P aj r.2 w'∧aR ρ s w aj r.2 w':=by
   clear h;intro a cc n0 s1 old all r0 xp hex lk Im hb ma gE hold hall h lW;subst xp;cases hx with| @slice a x off n c cap ad hx h1 h2 h3 h4 h5=>?_
   have OA:c%512/2=sz:=Nat.eq_of_beq_eq_true Im;have ma:off%sz=0:=Nat.eq_of_beq_eq_true ma;by_cases hin:n+m<=cap
   ·have QJ:n+m>c/512:=Nat.lt_of_not_le wZ;have Ct:ad=⟨x.b,x.base+off,none⟩:=by
     rcases h4 with h4|h4
     ·exact h4
     ·omega
    subst Ct;have fX:c%2=0:=by have:jw (some (⟨a,off,none⟩:Addr)) c=Nat.beq (c%2) 1:=rfl;rw[this]at hex;have:c%2≠1:= λe=>hex (by rw[e];rfl);omega
    have Mz:=h5 fX;rw[OA]at Mz;obtain⟨a1,a2,cs,hcs,mc,hf⟩:=bt hr ea hy Il;rw[<-hsz]at hf;obtain⟨b1,b2,os,HA,Bs,yW⟩:=oE hr hx hold;replace mc:cs.length=m*sz:=mc;replace Bs:os.length=n*sz:=Bs;have hrun:=ll (P:=P) (ty:=ty) (base:=some ⟨x.b,x.base+off,none⟩) w fQ hu hi yG hlen hf hin;obtain⟨hlt,hC⟩:=hr.blk a _ x hb hx;have hC:aL P ρ x w cc sz n0 false e:=hC;have hmul:(n+m)*sz<=cap*sz:=Nat.mul_le_mul_right _ hin;rw[Nat.add_mul]at hmul;have lC:∀j,j<cs.length->(w.cell? ⟨x.b,x.base+off+n*sz+j,none⟩).isSome=true:= λj hj=>hC.all _ (by rw[mc]at hj;omega);have GC:∀j,j<cs.length->w.frozen? ⟨x.b,x.base+off+n*sz+j,none⟩=false:=by
     intro j hj;cases hf:w.frozen? ⟨x.b,x.base+off+n*sz+j,none⟩with
     |false=>rfl
     |true=>have:=(hC.free rfl _ hf).1;have:=lC j hj;rw[‹w.cell? _=none›]at this;cases this
    have kU:=run_storeCells_cells (P:=P) x.b (x.base+off+n*sz) cs 0 w (by simpa using lC) (by simpa using GC) (hcs.KT (s9 lk));rw[Nat.add_zero]at kU;obtain⟨g1,g2,g3,t,s2,MA,Au,CT⟩:=h;have sM:s1.nx=s.nx:=(AS.cD gE).1;have CS:ag (ρ.put s.nx ⟨x.b,x.base+off,x.ao,[]⟩) (.slice (some ⟨s1.nx,0,none⟩) (Nat.add n m) (codeLB (Nat.add n m) sz)) (.slice (some ⟨x.b,x.base+off,none⟩) (n+m) cap):=by rw[sM];refine .slice 0 (n+m) (codeLB (n+m) sz) cap _ (bC _ _ _) (by rw[cI g1];exact Nat.le_refl _) (by rw[cI g1];exact hin) (λh=>by rw[gB]at h;cases h) (.inl rfl) (λ_=>?_);rw[iM g1];exact Mz
    obtain⟨q1,q2,q3,_⟩:=im x.b cs (x.base+off+n*sz) w;have bA:aK ρ (ρ.put s.nx ⟨x.b,x.base+off,x.ao,[]⟩):= λb z e=>by
     unfold Ren.put;by_cases ha:b=s.nx
     ·rw[ha,hr.dM _ (Nat.le_refl _)]at e;cases e
     ·rw[if_neg ha];exact e
    have hA:=Rel.again (P:=P) (y:=⟨x.b,x.base+off,x.ao,[]⟩) (w':=w.setCells x.b (x.base+off+n*sz) cs) hr gE Au hb rfl hx rfl (fq _ _ _ _) (λb cr=>gH _ _ _ _ _ cr) q1 q2 q3 (by
     refine⟨?_,λo fT=>?_,λ_ o fT=>?_,?_,?_⟩
     ·have hrel:af ρ all.flatten (os++cs):=by rw[hall,List.flatten_append];exact HA.append hcs
      refine B3 MA g3 g2 (hrel.mono bA) (λj u hj=>?_);show World.cell? _ ⟨x.b,x.base+off+j,none⟩=some u;by_cases Q3:j<os.length
      ·rw[List.getElem?_append_left Q3]at hj;rw[World.cell?_setCells_out _ _ _ _ _ (λ_ _=> .inl (by show x.base+off+j<x.base+off+n*sz;omega))];exact yW j u hj
      ·rw[List.getElem?_append_right (by omega)]at hj;obtain⟨Nj,Nk⟩:=List.getElem?_eq_some_iff.1 hj;have:=World.cell?_setCells_in x.b cs (x.base+off+n*sz) w lC (j-os.length) Nj;rw[show x.base+off+n*sz+(j-os.length)=x.base+off+j by omega]at this;rw[this,Nk]
     ·by_cases Io:x.base+off+n*sz<=o∧o<x.base+off+n*sz+cs.length
      ·have:=World.cell?_setCells_in x.b cs (x.base+off+n*sz) w lC (o-(x.base+off+n*sz)) (by omega);rw[show x.base+off+n*sz+(o-(x.base+off+n*sz))=o by omega]at this;show(World.cell? _ ⟨x.b,o,none⟩).isSome=true;rw[this];rfl
      ·show(World.cell? _ ⟨x.b,o,none⟩).isSome=true;rw[World.cell?_setCells_out _ _ _ _ _ (λ_ _=>by show o<x.base+off+n*sz∨x.base+off+n*sz+cs.length<=o;omega)];exact hC.all o fT
     ·have fT:World.frozen? (w.setCells x.b (x.base+off+n*sz) cs) ⟨x.b,o,none⟩=true:=fT;rw[World.frozen?_setCells]at fT;obtain⟨hn,wZ⟩:=hC.free rfl o fT;refine⟨?_,wZ⟩;show World.cell? _ ⟨x.b,o,none⟩=none;by_cases Io:x.base+off+n*sz<=o∧o<x.base+off+n*sz+cs.length
      ·have:=lC (o-(x.base+off+n*sz)) (by omega);rw[show x.base+off+n*sz+(o-(x.base+off+n*sz))=o by omega,hn]at this;cases this
      ·rw[World.cell?_setCells_out _ _ _ _ _ (λ_ _=>by show o<x.base+off+n*sz∨x.base+off+n*sz+cs.length<=o;omega)];exact hn
     ·show World.shape? _ x.b=some (e,x.ao);rw[dP];exact hC.shape
     ·obtain⟨q,hq⟩:=hC.mult;refine⟨q+off/sz,?_⟩;show x.base+off=(q+off/sz)*sz;have:=Nat.div_add_mod off sz;rw[ma,Nat.mul_comm]at this;rw[Nat.add_mul];omega) rfl
    have G7:(Builtin.append_ ts ty #[.slice (some ⟨x.b,x.base+off,none⟩) n cap,y']).run P w= .ok (.slice (some ⟨x.b,x.base+off,none⟩) (n+m) cap) (w.setCells x.b (x.base+off+n*sz) cs):=by
     rw[hrun];have e1:(⟨x.b,x.base+off,none⟩:Addr).add (n*i.size)=⟨x.b,x.base+off+n*sz,none⟩:=by rw[cL,hsz]
     simp only[e1,kU,Result.andThen_ok]
    subst CT;cases sh with
    |false=>cases lW;exact⟨_,_,_,G7,CS,hA.1,hA.2⟩
    |true=>
     replace lW:=ae lW;obtain⟨Bt,lW⟩:=lW;replace Bt:off/sz+n=n0:=Nat.eq_of_beq_eq_true Bt;have HA:x.base+off+n*sz=x.base+n0*sz:=by have:=Nat.div_add_mod off sz;rw[ma,Nat.mul_comm]at this;rw[<-Bt,Nat.add_mul];omega
     have Q4:aL P ρ x (w.setCells x.b (x.base+off+n*sz) cs) cc sz n0 false e:=by
      refine⟨λk l hk=>?_,λo fT=>?_,λ_ o fT=>?_,by rw[dP];exact hC.shape,hC.mult⟩
      ·obtain⟨a1,a2,a3⟩:=hC.cell k l hk;refine⟨a1,a2,λj v hv=>?_⟩;obtain⟨u,hu,Nt⟩:=a3 j v hv;refine⟨u,?_,Nt⟩;have hj:j<sz:=by rw[<-a2];exact(List.getElem?_eq_some_iff.1 hv).1
       have Q5:(k+1)*sz<=n0*sz:=Nat.mul_le_mul_right _ a1;rw[Nat.add_mul]at Q5;rw[World.cell?_setCells_out _ _ _ _ _ (λ_ _=> .inl (by show x.base+(k*sz+j)<x.base+off+n*sz;rw[HA];omega))];exact hu
      ·by_cases Io:x.base+off+n*sz<=o∧o<x.base+off+n*sz+cs.length
       ·have:=World.cell?_setCells_in x.b cs (x.base+off+n*sz) w lC (o-(x.base+off+n*sz)) (by omega);rw[show x.base+off+n*sz+(o-(x.base+off+n*sz))=o by omega]at this;rw[this];rfl
       ·rw[World.cell?_setCells_out _ _ _ _ _ (λ_ _=>by show o<x.base+off+n*sz∨x.base+off+n*sz+cs.length<=o;omega)];exact hC.all o fT
      ·rw[World.frozen?_setCells]at fT;obtain⟨hn,wZ⟩:=hC.free rfl o fT;refine⟨?_,wZ⟩;by_cases Io:x.base+off+n*sz<=o∧o<x.base+off+n*sz+cs.length
       ·have:=lC (o-(x.base+off+n*sz)) (by omega);rw[show x.base+off+n*sz+(o-(x.base+off+n*sz))=o by omega,hn]at this;cases this
       ·rw[World.cell?_setCells_out _ _ _ _ _ (λ_ _=>by show o<x.base+off+n*sz∨x.base+off+n*sz+cs.length<=o;omega)];exact hn
     obtain⟨v1,v2,v3⟩:=ue hr hx hb gE Au hA.1 hA.2 Q4 (by rw[fq];exact hlt) CS lW;exact⟨_,_,_,G7,v1,v2,v3⟩
   ·obtain⟨de,dq⟩:=Rel.forget hr gE hx;obtain⟨aj,u,w',h1,h2,h3,h4,Mz⟩:=hnew (by omega) E5 de hold hall h;cases sh with
    |false=>cases lW;exact⟨aj,u,w',h1,h2,h3,dq.trans h4⟩
    |true=>replace lW:=ae lW;obtain⟨Bt,lW⟩:=lW;obtain⟨g1,g2,g3,t,s2,MA,Au,CT⟩:=h;subst CT;obtain⟨hlt,hC⟩:=hr.blk a _ x hb hx;have hC:aL P ρ x w cc sz n0 false e:=hC;have hS:=dq.trans h4;obtain⟨v1,v2,v3⟩:=ue hr hx hb gE Au h3 hS (hC.congr (Mz _ hlt)) (Nat.lt_of_lt_of_le hlt hS.size) h2 lW;exact⟨aj,u,w',h1,v1,v2,v3⟩
  rcases xc:ab sh none (gA s e sz m els base n c)with _|r1
  ·rw[xc]at h;replace h:(ob (br s sz (.slice base n c) n) λold=>ob (sy old els) λall=>
    ab (jw base c) (gf s e sz all (Nat.add n m)) (ab (dU els) (mO sh s e sz base n (Nat.add n m) c all) none))=some r:=h
   replace h:=U h;obtain⟨old,hold,h⟩:=h;replace h:=U h;obtain⟨all,hall,h⟩:=h;rw[pV]at hall;replace hall:all=old++els:=(Option.some.inj hall).symm;rw[ai]at h;split at h
   ·rename_i hex;have:=Ns hex;obtain⟨aj,u,w',h1,h2,h3,h4,_⟩:=hnew (by omega) E5 hr hold hall (ud h);exact⟨aj,u,w',h1,h2,h3,h4⟩
   ·rename_i hex;replace h:=ae h;obtain⟨lk,h⟩:=h;unfold mO at h;split at h
    ·cases h
    rename_i a;replace h:=ae h;obtain⟨Im,h⟩:=h;replace h:=bN h;obtain⟨cc,iX,n0,ro,tz,hb,h⟩:=h;replace h:=bh h;obtain⟨hro,h⟩:=h;replace h:=ae h;obtain⟨Fp,h⟩:=h;replace h:=ae h;obtain⟨het,h⟩:=h;replace h:=ae h;obtain⟨ma,h⟩:=h;replace h:=U h;obtain⟨s1,gE,h⟩:=h;replace h:=U h;obtain⟨r0,jz,lW⟩:=h;replace Fp:=Nat.eq_of_beq_eq_true Fp;replace het:=Nat.eq_of_beq_eq_true het;subst Fp het hro;exact AY a cc n0 s1 old all r0 rfl hex lk Im hb ma gE hold hall (ud jz) lW
  ·rw[xc]at h;replace h:some r1=some r:=h;cases h;replace xc:=bh xc;obtain⟨lW,xc⟩:=xc;cases base with
   |none=>cases xc
   |some a=>
    have Fq:∃x,ρ a.block=some x∧a.spot=none:=by cases hx with|slice off n c cap ad hx h1 h2 h3 h4 h5=>exact⟨_,hx,rfl⟩
    obtain⟨x,Q6,iu⟩:=Fq;obtain⟨f1,f2,f3,f4,cc,s1,old,f5,f6,f7,f8⟩:=pK hr Q6 iu xc;refine AY a cc n s1 old _ r rfl (by rw[f1];exact Bool.false_ne_true) f2 f3 f5 (by rw[f4];show Nat.beq (Nat.mod 0 sz) 0=true;rw[show Nat.mod 0 sz=0 from Nat.zero_mod sz];rfl) f6 f7 rfl f8 ?_;rw[lW,bS]
end Go.Eng
namespace Go.Eng
open Go
variable {P:Program} {ρ:Ren}
def vr (P:Program) (ρ:Ren) (s:AS) (w:World) (m:Sem Unit) (r:Value×AS):Prop:=
 r.1= .tuple #[]∧∃aj w',m.run P w= .ok () w'∧Rel P aj r.2 w'∧aR ρ s w aj r.2 w'
theorem Made.LH {s s':AS} {w:World} {m:Sem Value} {v:Value} {k:Blk} (h:Made P ρ w s.nx m v k) (hr:Rel P ρ s w) (hs:s.new k=some s'):jx P ρ s w m (v,s'):=by obtain⟨x,u,w',h1,h2,h3,h4,h5,h6,h7,h8,h9⟩:=h;obtain⟨q1,q2⟩:=Rel.alloc hr hs h2 h3 h4 h5 h6 h7 h9;exact⟨_,u,w',h1,h8,q1,q2⟩
theorem yf {t:TypeId} {s:AS} {r:Value×AS} (h:y8 P t s=some r):∃k,s.new k=some r.2∧∀ {ρ:Ren} {w:World},ρ s.nx=none->Made P ρ w s.nx (Instr.alloc t true (.tuple #[])) r.1 k:=by unfold y8 at h;obtain⟨l,hl,h⟩:=U h;obtain⟨z,hz,rfl⟩:=lH hl;obtain⟨k,hk,hm⟩:=nh (P:=P) h;exact⟨k,hk,λ {ρ w} nz=>hm (w':=w.alloc (.cells z.cells t)) nz (eY hz).cells (by simp only[Instr.alloc,Sem.run_bind,bU hz w,Result.andThen_ok,newVar,newRow,run_newObj_alloc,Sem.run_pure]) rfl rfl rfl rfl⟩
theorem B5 {t:TypeId} {s:AS} {v:Value} {r:Value×AS} (h:KN t s v=some r):∃k,s.new k=some r.2∧∀ {ρ:Ren} {w:World} {v':Value},ρ s.nx=none->ag ρ v v'->Made P ρ w s.nx (Instr.box t v') r.1 k:=by obtain⟨k,hk,hm⟩:=nh (P:=P) h;exact⟨k,hk,λ {ρ w v'} nz hv=>hm (w':=w.alloc (.cells v'.cells t)) nz hv.cells (by simp only[Instr.box,Sem.run_bind,Result.andThen_ok,newVar,newRow,run_newObj_alloc,Sem.run_pure]) rfl rfl rfl rfl⟩
theorem wq {t:TypeId} {s:AS} {w:World} {a a' v v':Value} {r:Value×AS} (hr:Rel P ρ s w) (h:zb P t s a v=some r) (ha:ag ρ a a') (hv:ag ρ v v'):vr P ρ s w (Instr.storeAt t a' v') r:=by
 unfold zb at h;split at h
 ·rename_i ad;replace h:=U h;obtain⟨n,hn,h⟩:=h;replace h:=ae h;obtain⟨hl,h⟩:=h;replace h:=U h;obtain⟨s',hs,h⟩:=h;cases h;have hl:v.cells.toList.length=n:=by rw[<-aZ];exact Nat.eq_of_beq_eq_true hl
  cases ha with| @ptr a x off hx=>?_
  obtain⟨w',hrun,_,hR,hS⟩:=js hr hx hs hv.cells;have hsz:v'.cells.size=n:=by rw[<-hl,hv.cells.length];simp
  refine⟨rfl,ρ,w',?_,hR,hS⟩;simp only[Instr.storeAt,Instr.sureAddr,Sem.run_bind,Sem.run_pure,Result.andThen_ok,storeVar,ax hn w,hsz,ne_eq,not_true_eq_false,if_false,hrun]
 ·cases h
theorem kO (w:World) (k:IntKind) (n:Int):(asInt (.int k n)).run P w= .ok n w:=by simp[asInt,asIntOf]
theorem pL {t:TypeId} {s:AS} {l c:Value} {r:Value×AS} (h:lD P t s l c=some r):
  ∃k,s.new k=some r.2∧∀ {ρ:Ren} {w:World} {l' c':Value},ρ s.nx=none->ag ρ l l'->ag ρ c c'->Made P ρ w s.nx (Instr.makeSlice t l' c') r.1 k:=by
 unfold lD at h;split at h
 ·rename_i k1 l k2 c;replace h:=U h;obtain⟨e,he,h⟩:=h;replace h:=U h;obtain⟨ln,JY,h⟩:=h;replace h:=U h;obtain⟨cn,Hy,h⟩:=h;replace h:=ae h;obtain⟨Nu,h⟩:=h;replace h:=ae h;obtain⟨J1,h⟩:=h;replace h:=U h;obtain⟨⟨sz,z⟩,E4,h⟩:=h;replace h:=U h;obtain⟨els,ea,h⟩:=h;have JY:=eX JY;have Hy:=eX Hy;subst JY Hy;have Nu:ln<=cn:=Nat.le_of_ble_eq_true Nu;have J1:cn<=1000000:=Nat.le_of_ble_eq_true J1;have ea:=pY _ _ _ ea;subst ea;obtain⟨k,hk,mq⟩:=rq (P:=P) h Nu;refine⟨k,hk,λ {ρ w l' c'} nz hl hc=>?_⟩;obtain⟨i,zv,hi,Cu,hz,hsz,lB,BJ,xb,GF,_⟩:=dF (ρ:=ρ) E4;have hu:P.underlying t=some (.slice e):=by
   unfold pS at he;split at he
   ·rename_i hu;cases he;exact hu
   ·cases he
  cases hl;cases hc;have Nv:zv.cells.size=sz:=by rw[<-BJ,hz];simp
  have jz:((Array.range (cn*sz)).map (zv.cells[·%zv.cells.size]!))=((List.replicate cn z).flatten).toArray:=by apply Array.ext';have:=lK z cn;rw[BJ,hz]at this;rw[Nv];simpa[hz]using this
  refine mq (w':=w.alloc (.cells ((List.replicate cn z).flatten).toArray e)) nz (af.replicate GF cn) ?_ rfl rfl rfl rfl;have Jz:IntKind.i64.wrap (ln:Int)=(ln:Int):=wrap_small ⟨by show(-9223372036854775808:Int)<=_;omega,by show _<=(9223372036854775807:Int);omega⟩;have Q7:IntKind.i64.wrap (cn:Int)=(cn:Int):=wrap_small ⟨by show(-9223372036854775808:Int)<=_;omega,by show _<=(9223372036854775807:Int);omega⟩;have hmul:i.bytes*cn<=1000000*1000000:=Nat.mul_le_mul lB J1;have CQ:¬((i.bytes:Int)*(cn:Int)>2^48):=by
   have:((i.bytes:Int)*(cn:Int))=((i.bytes*cn:Nat):Int):=by simp
   rw[this];have:(2:Int)^48=281474976710656:=by decide
   omega
  have hc0:¬((cn:Int)<0):=by omega
  have hl0:¬((ln:Int)<0):=by omega
  have OB:¬((ln:Int)>(cn:Int)):=by omega
  have d1:decide ((cn:Int)<0)=false:=decide_eq_false hc0;have d2:decide ((i.bytes:Int)*(cn:Int)>2^48)=false:=decide_eq_false CQ;have d3:decide ((ln:Int)<0)=false:=decide_eq_false hl0;have d4:decide ((ln:Int)>(cn:Int))=false:=decide_eq_false OB;simp only[Instr.makeSlice,Sem.run_bind,run_underlying hu,Result.andThen_ok,kO,typeInfo,hi,run_program,Sem.run_pure,Jz,Q7,d1,d2,d3,d4,Bool.or_self,Bool.false_eq_true,if_false,run_askRoom,sizeOf,Int.toNat_natCast,hsz,newRow];by_cases hn:cn*sz=0
  ·have yV:((List.replicate cn z).flatten).toArray= #[]:=by
    rw[<-jz,hn];simp
   have wO:Array.range 0= #[]:=by apply Array.ext';simp
   rw[if_pos hn,yV,hn,wO];simp
  ·rw[if_neg hn];simp only[Sem.run_bind,bU ‹fF P e=some zv› w,Sem.run_pure,Result.andThen_ok,run_newObj_alloc,jz]
 ·cases h
end Go.Eng
