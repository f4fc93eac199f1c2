import GoSem.Dispatch
import GoSem.Machine.Frame
set_option linter.unusedVariables false
set_option linter.unusedSimpArgs false
/- An evaluator of the code of the model, proved: what it answers, the program does, whatever the world. Part of the proof of ArrowKnown. -/
noncomputable section
namespace Go.Eng
inductive T (α:Type)where
 |e
 |n (v:Option α) (l r:T α)
def T.get {α:Type} (t:T α):Nat->Option α:=
 T.rec (motive:= λ_=>Nat->Option α) (λ_=>none)
  (λv _ _ lZ uQ k=>Nat.rec (motive:= λ_=>Option α) v
   (λm _=>Bool.rec (motive:= λ_=>Option α) (uQ (Nat.div m 2)) (lZ (Nat.div m 2)) (Nat.beq (Nat.mod m 2) 0)) k) t
def T.put {α:Type} (x:Option α) (t:T α):Nat->Option (T α):=
 T.rec (motive:= λ_=>Nat->Option (T α))
  (λk=>Nat.rec (motive:= λ_=>Option (T α)) (some (.n x .e .e)) (λ_ _=>none) k)
  (λv l r lZ uQ k=>Nat.rec (motive:= λ_=>Option (T α)) (some (.n x l r))
   (λm _=>Bool.rec (motive:= λ_=>Option (T α))
    (Option.rec (motive:= λ_=>Option (T α)) none (λr'=>some (.n v l r')) (uQ (Nat.div m 2)))
    (Option.rec (motive:= λ_=>Option (T α)) none (λl'=>some (.n v l' r)) (lZ (Nat.div m 2)))
    (Nat.beq (Nat.mod m 2) 0)) k) t
def mkT {α:Type} (n:Nat):Option (T α):=
 Nat.rec (motive:= λ_=>Option (T α)) (some .e) (λn ih=>Option.rec (motive:= λ_=>Option (T α)) none (λt=>T.put none t n) ih) n
inductive Blk where
 |cells (c:T (List Value)) (s n:Nat) (ro:Bool) (et:TypeId)
 |map (kt:TypeId) (es:List (Value×Value×Nat)) (ck:Nat)
 |cQ (s:ByteArray) (pos:Nat)
 |mapIter (r:Option Nat) (ck:Nat)
 |loop (state:LoopState) (fU:Option Code) (fn nt aa:Nat) (tm:T Value) (ps:List Tmp) (assign body:Code)
 |pmap (kt:TypeId) (es:List (Value×Value×Nat)) (ck:Nat)
inductive R (α:Type):Bool->Type where
 |mk (a0 a1 a2 a3 a4 a5 a6 a7 a8 a9 a10 a11 a12 a13 a14 a15:α):R α true
abbrev H1:=R (Option Blk) true
abbrev H2:=R H1 true
abbrev H3:=R H2 true
abbrev H4:=R H3 true
abbrev H5:=R H4 true
abbrev Hp:Type:=H5
abbrev MF (α:Type):=(α->(α->Option Hp)->Option Hp)->R α true->(R α true->Option Hp)->Option Hp
def q0 {α:Type} (r:R α true):α:=R.rec (motive:= λ_ _=>α) (λa0 a1 a2 a3 a4 a5 a6 a7 a8 a9 a10 a11 a12 a13 a14 a15=>a0) r
def w0 {α:Type}:MF α:= λf r k=>R.rec (motive:= λ_ _=>Option Hp) (λa0 a1 a2 a3 a4 a5 a6 a7 a8 a9 a10 a11 a12 a13 a14 a15=>f a0 λy=>k (.mk y a1 a2 a3 a4 a5 a6 a7 a8 a9 a10 a11 a12 a13 a14 a15)) r
def q1 {α:Type} (r:R α true):α:=R.rec (motive:= λ_ _=>α) (λa0 a1 a2 a3 a4 a5 a6 a7 a8 a9 a10 a11 a12 a13 a14 a15=>a1) r
def w1 {α:Type}:MF α:= λf r k=>R.rec (motive:= λ_ _=>Option Hp) (λa0 a1 a2 a3 a4 a5 a6 a7 a8 a9 a10 a11 a12 a13 a14 a15=>f a1 λy=>k (.mk a0 y a2 a3 a4 a5 a6 a7 a8 a9 a10 a11 a12 a13 a14 a15)) r
def q2 {α:Type} (r:R α true):α:=R.rec (motive:= λ_ _=>α) (λa0 a1 a2 a3 a4 a5 a6 a7 a8 a9 a10 a11 a12 a13 a14 a15=>a2) r
def w2 {α:Type}:MF α:= λf r k=>R.rec (motive:= λ_ _=>Option Hp) (λa0 a1 a2 a3 a4 a5 a6 a7 a8 a9 a10 a11 a12 a13 a14 a15=>f a2 λy=>k (.mk a0 a1 y a3 a4 a5 a6 a7 a8 a9 a10 a11 a12 a13 a14 a15)) r
def q3 {α:Type} (r:R α true):α:=R.rec (motive:= λ_ _=>α) (λa0 a1 a2 a3 a4 a5 a6 a7 a8 a9 a10 a11 a12 a13 a14 a15=>a3) r
def w3 {α:Type}:MF α:= λf r k=>R.rec (motive:= λ_ _=>Option Hp) (λa0 a1 a2 a3 a4 a5 a6 a7 a8 a9 a10 a11 a12 a13 a14 a15=>f a3 λy=>k (.mk a0 a1 a2 y a4 a5 a6 a7 a8 a9 a10 a11 a12 a13 a14 a15)) r
def q4 {α:Type} (r:R α true):α:=R.rec (motive:= λ_ _=>α) (λa0 a1 a2 a3 a4 a5 a6 a7 a8 a9 a10 a11 a12 a13 a14 a15=>a4) r
def w4 {α:Type}:MF α:= λf r k=>R.rec (motive:= λ_ _=>Option Hp) (λa0 a1 a2 a3 a4 a5 a6 a7 a8 a9 a10 a11 a12 a13 a14 a15=>f a4 λy=>k (.mk a0 a1 a2 a3 y a5 a6 a7 a8 a9 a10 a11 a12 a13 a14 a15)) r
def q5 {α:Type} (r:R α true):α:=R.rec (motive:= λ_ _=>α) (λa0 a1 a2 a3 a4 a5 a6 a7 a8 a9 a10 a11 a12 a13 a14 a15=>a5) r
def w5 {α:Type}:MF α:= λf r k=>R.rec (motive:= λ_ _=>Option Hp) (λa0 a1 a2 a3 a4 a5 a6 a7 a8 a9 a10 a11 a12 a13 a14 a15=>f a5 λy=>k (.mk a0 a1 a2 a3 a4 y a6 a7 a8 a9 a10 a11 a12 a13 a14 a15)) r
def q6 {α:Type} (r:R α true):α:=R.rec (motive:= λ_ _=>α) (λa0 a1 a2 a3 a4 a5 a6 a7 a8 a9 a10 a11 a12 a13 a14 a15=>a6) r
def w6 {α:Type}:MF α:= λf r k=>R.rec (motive:= λ_ _=>Option Hp) (λa0 a1 a2 a3 a4 a5 a6 a7 a8 a9 a10 a11 a12 a13 a14 a15=>f a6 λy=>k (.mk a0 a1 a2 a3 a4 a5 y a7 a8 a9 a10 a11 a12 a13 a14 a15)) r
def q7 {α:Type} (r:R α true):α:=R.rec (motive:= λ_ _=>α) (λa0 a1 a2 a3 a4 a5 a6 a7 a8 a9 a10 a11 a12 a13 a14 a15=>a7) r
def w7 {α:Type}:MF α:= λf r k=>R.rec (motive:= λ_ _=>Option Hp) (λa0 a1 a2 a3 a4 a5 a6 a7 a8 a9 a10 a11 a12 a13 a14 a15=>f a7 λy=>k (.mk a0 a1 a2 a3 a4 a5 a6 y a8 a9 a10 a11 a12 a13 a14 a15)) r
def q8 {α:Type} (r:R α true):α:=R.rec (motive:= λ_ _=>α) (λa0 a1 a2 a3 a4 a5 a6 a7 a8 a9 a10 a11 a12 a13 a14 a15=>a8) r
def w8 {α:Type}:MF α:= λf r k=>R.rec (motive:= λ_ _=>Option Hp) (λa0 a1 a2 a3 a4 a5 a6 a7 a8 a9 a10 a11 a12 a13 a14 a15=>f a8 λy=>k (.mk a0 a1 a2 a3 a4 a5 a6 a7 y a9 a10 a11 a12 a13 a14 a15)) r
def q9 {α:Type} (r:R α true):α:=R.rec (motive:= λ_ _=>α) (λa0 a1 a2 a3 a4 a5 a6 a7 a8 a9 a10 a11 a12 a13 a14 a15=>a9) r
def w9 {α:Type}:MF α:= λf r k=>R.rec (motive:= λ_ _=>Option Hp) (λa0 a1 a2 a3 a4 a5 a6 a7 a8 a9 a10 a11 a12 a13 a14 a15=>f a9 λy=>k (.mk a0 a1 a2 a3 a4 a5 a6 a7 a8 y a10 a11 a12 a13 a14 a15)) r
def Td {α:Type} (r:R α true):α:=R.rec (motive:= λ_ _=>α) (λa0 a1 a2 a3 a4 a5 a6 a7 a8 a9 a10 a11 a12 a13 a14 a15=>a10) r
def w10 {α:Type}:MF α:= λf r k=>R.rec (motive:= λ_ _=>Option Hp) (λa0 a1 a2 a3 a4 a5 a6 a7 a8 a9 a10 a11 a12 a13 a14 a15=>f a10 λy=>k (.mk a0 a1 a2 a3 a4 a5 a6 a7 a8 a9 y a11 a12 a13 a14 a15)) r
def Te {α:Type} (r:R α true):α:=R.rec (motive:= λ_ _=>α) (λa0 a1 a2 a3 a4 a5 a6 a7 a8 a9 a10 a11 a12 a13 a14 a15=>a11) r
def w11 {α:Type}:MF α:= λf r k=>R.rec (motive:= λ_ _=>Option Hp) (λa0 a1 a2 a3 a4 a5 a6 a7 a8 a9 a10 a11 a12 a13 a14 a15=>f a11 λy=>k (.mk a0 a1 a2 a3 a4 a5 a6 a7 a8 a9 a10 y a12 a13 a14 a15)) r
def Tf {α:Type} (r:R α true):α:=R.rec (motive:= λ_ _=>α) (λa0 a1 a2 a3 a4 a5 a6 a7 a8 a9 a10 a11 a12 a13 a14 a15=>a12) r
def w12 {α:Type}:MF α:= λf r k=>R.rec (motive:= λ_ _=>Option Hp) (λa0 a1 a2 a3 a4 a5 a6 a7 a8 a9 a10 a11 a12 a13 a14 a15=>f a12 λy=>k (.mk a0 a1 a2 a3 a4 a5 a6 a7 a8 a9 a10 a11 y a13 a14 a15)) r
def Tg {α:Type} (r:R α true):α:=R.rec (motive:= λ_ _=>α) (λa0 a1 a2 a3 a4 a5 a6 a7 a8 a9 a10 a11 a12 a13 a14 a15=>a13) r
def w13 {α:Type}:MF α:= λf r k=>R.rec (motive:= λ_ _=>Option Hp) (λa0 a1 a2 a3 a4 a5 a6 a7 a8 a9 a10 a11 a12 a13 a14 a15=>f a13 λy=>k (.mk a0 a1 a2 a3 a4 a5 a6 a7 a8 a9 a10 a11 a12 y a14 a15)) r
def Th {α:Type} (r:R α true):α:=R.rec (motive:= λ_ _=>α) (λa0 a1 a2 a3 a4 a5 a6 a7 a8 a9 a10 a11 a12 a13 a14 a15=>a14) r
def w14 {α:Type}:MF α:= λf r k=>R.rec (motive:= λ_ _=>Option Hp) (λa0 a1 a2 a3 a4 a5 a6 a7 a8 a9 a10 a11 a12 a13 a14 a15=>f a14 λy=>k (.mk a0 a1 a2 a3 a4 a5 a6 a7 a8 a9 a10 a11 a12 a13 y a15)) r
def Ti {α:Type} (r:R α true):α:=R.rec (motive:= λ_ _=>α) (λa0 a1 a2 a3 a4 a5 a6 a7 a8 a9 a10 a11 a12 a13 a14 a15=>a15) r
def w15 {α:Type}:MF α:= λf r k=>R.rec (motive:= λ_ _=>Option Hp) (λa0 a1 a2 a3 a4 a5 a6 a7 a8 a9 a10 a11 a12 a13 a14 a15=>f a15 λy=>k (.mk a0 a1 a2 a3 a4 a5 a6 a7 a8 a9 a10 a11 a12 a13 a14 y)) r
def rep {α:Type} (x:α):R α true:= .mk x x x x x x x x x x x x x x x x
inductive D where
 |d0|d1|d2|d3|d4|d5|d6|d7|d8|d9|d10|d11|d12|d13|d14|d15
def NH (m:Nat):D:=Bool.rec (motive:= λ_=>D) .d1 .d0 (Nat.ble m 0)
def NI (m:Nat):D:=Bool.rec (motive:= λ_=>D) .d3 .d2 (Nat.ble m 2)
def NJ (m:Nat):D:=Bool.rec (motive:= λ_=>D) (NI m) (NH m) (Nat.ble m 1)
def NK (m:Nat):D:=Bool.rec (motive:= λ_=>D) .d5 .d4 (Nat.ble m 4)
def NL (m:Nat):D:=Bool.rec (motive:= λ_=>D) .d7 .d6 (Nat.ble m 6)
def NM (m:Nat):D:=Bool.rec (motive:= λ_=>D) (NL m) (NK m) (Nat.ble m 5)
def NN (m:Nat):D:=Bool.rec (motive:= λ_=>D) (NM m) (NJ m) (Nat.ble m 3)
def K1 (m:Nat):D:=Bool.rec (motive:= λ_=>D) .d9 .d8 (Nat.ble m 8)
def HZ (m:Nat):D:=Bool.rec (motive:= λ_=>D) .d11 .d10 (Nat.ble m 10)
def K2 (m:Nat):D:=Bool.rec (motive:= λ_=>D) (HZ m) (K1 m) (Nat.ble m 9)
def H6 (m:Nat):D:=Bool.rec (motive:= λ_=>D) .d13 .d12 (Nat.ble m 12)
def H7 (m:Nat):D:=Bool.rec (motive:= λ_=>D) .d15 .d14 (Nat.ble m 14)
def H8 (m:Nat):D:=Bool.rec (motive:= λ_=>D) (H7 m) (H6 m) (Nat.ble m 13)
def K3 (m:Nat):D:=Bool.rec (motive:= λ_=>D) (H8 m) (K2 m) (Nat.ble m 11)
def jq (m:Nat):D:=Bool.rec (motive:= λ_=>D) (K3 m) (NN m) (Nat.ble m 7)
def dS {α β:Type} (d:D) (k:(R α true->α)->MF α->β):β:=D.rec (motive:= λ_=>β) (k q0 w0) (k q1 w1) (k q2 w2) (k q3 w3) (k q4 w4) (k q5 w5) (k q6 w6) (k q7 w7) (k q8 w8) (k q9 w9) (k Td w10) (k Te w11) (k Tf w12) (k Tg w13) (k Th w14) (k Ti w15) d
structure P4 where
 (g2:H2->H1) (u2:MF H1) (g3:H3->H2) (u3:MF H2) (g4:H4->H3) (u4:MF H3) (g5:H5->H4) (u5:MF H4)
inductive PP where
 |no
 |mk (g1:H1->Option Blk) (u1:MF (Option Blk)) (g2:H2->H1) (u2:MF H1) (g3:H3->H2) (u3:MF H2) (g4:H4->H3) (u4:MF H3) (g5:H5->H4) (u5:MF H4)
def IM (q:Nat):P4:=
 dS (jq (Nat.mod q 16)) λg2 u2=>dS (jq (Nat.mod (Nat.div q 16) 16)) λg3 u3=>dS (jq (Nat.mod (Nat.div q 256) 16)) λg4 u4=>dS (jq (Nat.mod (Nat.div q 4096) 16)) λg5 u5=>⟨g2,u2,g3,u3,g4,u4,g5,u5⟩
def IP (n:Nat) (k:Nat->PP):PP:=Nat.rec (motive:= λ_=>PP) (k 0) (λm _=>k (Nat.succ m)) n
def path (k:Nat):PP:=
 Bool.rec (motive:= λ_=>PP) .no (IP (Nat.div k 16) λq=>P4.rec (motive:= λ_=>PP) (λg2 u2 g3 u3 g4 u4 g5 u5=>dS (jq (Nat.mod k 16)) λg1 u1=> .mk g1 u1 g2 u2 g3 u3 g4 u4 g5 u5) (IM q)) (Nat.ble k 1048575)
def Hp.get (h:Hp) (k:Nat):Option Blk:=PP.rec (motive:= λ_=>Option Blk) none (λg1 _ g2 _ g3 _ g4 _ g5 _=>g1 (g2 (g3 (g4 (g5 h))))) (path k)
def Hp.put (x:Option Blk) (h:Hp) (k:Nat):Option Hp:=PP.rec (motive:= λ_=>Option Hp) none (λ_ u1 _ u2 _ u3 _ u4 _ u5=>u5 (u4 (u3 (u2 (u1 λ_ c=>c x)))) h some) (path k)
def Hp.emp:Hp:=rep (rep (rep (rep (rep none))))
structure AS where
 h:Hp
 nx:Nat
 lim:Nat
inductive cm where
 |normal|exit (id:Nat)|goto (l:Nat)|ret
inductive Out where
 |no
 |code (x:cm) (tm:T Value) (s:AS)
 |val (v:Value) (s:AS)
abbrev Ev:=Value->List Value->AS->Out
def iw (n:String):Option (List Value):=bif n== "internal/strconv.uint64pow10" then some ((List.range 20).map λi=> .int .u64 (10^i:Nat))else none
inductive VI where
 |no
 |mk (k:IntKind) (n:Int)
def ON (v:Value):VI:=Value.rec (motive_1:= λ_=>VI) (motive_2:= λ_=>Unit) (motive_3:= λ_=>Unit) (λ_=> .no) (λk n=> .mk k n) (λ_ _=> .no) (λ_ _ _=> .no) (λ_=> .no) (λ_=> .no) (λ_ _ _=> .no) (λ_=> .no) (λ_=> .no) (λ_ _ _ _ _=> .no) .no (λ_ _ _=> .no) .no (λ_ _=> .no) (λ_ _=> .no) (λ_ _=>()) () (λ_ _ _ _=>()) v
inductive VB where
 |no
 |mk (b:Bool)
def Sd (v:Value):VB:=Value.rec (motive_1:= λ_=>VB) (motive_2:= λ_=>Unit) (motive_3:= λ_=>Unit) (λb=> .mk b) (λ_ _=> .no) (λ_ _=> .no) (λ_ _ _=> .no) (λ_=> .no) (λ_=> .no) (λ_ _ _=> .no) (λ_=> .no) (λ_=> .no) (λ_ _ _ _ _=> .no) .no (λ_ _ _=> .no) .no (λ_ _=> .no) (λ_ _=> .no) (λ_ _=>()) () (λ_ _ _ _=>()) v
inductive VA where
 |no
 |mk (a:Addr)
def Pw (v:Value):VA:=Value.rec (motive_1:= λ_=>VA) (motive_2:= λ_=>Unit) (motive_3:= λ_=>Unit) (λ_=> .no) (λ_ _=> .no) (λ_ _=> .no) (λ_ _ _=> .no) (λ_=> .no) (λa=>Option.rec (motive:= λ_=>VA) .no (λa=> .mk a) a) (λ_ _ _=> .no) (λ_=> .no) (λ_=> .no) (λ_ _ _ _ _=> .no) .no (λ_ _ _=> .no) .no (λ_ _=> .no) (λ_ _=> .no) (λ_ _=>()) () (λ_ _ _ _=>()) v
inductive VS where
 |no
 |mk (a:Addr) (n c:Nat)
def toS (v:Value):VS:=Value.rec (motive_1:= λ_=>VS) (motive_2:= λ_=>Unit) (motive_3:= λ_=>Unit) (λ_=> .no) (λ_ _=> .no) (λ_ _=> .no) (λ_ _ _=> .no) (λ_=> .no) (λ_=> .no) (λa n c=>Option.rec (motive:= λ_=>VS) .no (λa=> .mk a n c) a) (λ_=> .no) (λ_=> .no) (λ_ _ _ _ _=> .no) .no (λ_ _ _=> .no) .no (λ_ _=> .no) (λ_ _=> .no) (λ_ _=>()) () (λ_ _ _ _=>()) v
def isAgg (P:Program) (t:TypeId):Option Bool:=
 match P.underlying t with
 |some (.struct _)|some (.array ..)=>some true
 |some _=>some false
 |none=>none
def aK (P:Program) (t:TypeId):Option Nat:=(P.info? t).map (·.size)
def oH (v:Value):Bool:=match v with| .bool _=>true| .int _ _=>true| .string _=>true| .pointer none=>true| .slice none 0 0=>true| .map none=>true| .nilFunc=>true| .nilIface=>true|_=>false
def wY (l:List Value):Bool:=List.rec (motive:= λ_=>Bool) true (λv _ ih=>Bool.rec (motive:= λ_=>Bool) false ih (oH v)) l
def wy (v:Value):Bool:=match v with| .agg a=>wY a.toList|v=>oH v
def gf (P:Program) (t:TypeId):Option Value:=match P.info? t with|some i=>(match i.zero with|some v=>Bool.rec (motive:= λ_=>Option Value) none (some v) (wy v)|none=>none)|none=>none
def yt (P:Program) (t:TypeId):Option (List Value):=(gf P t).map (λv=>v.cells.toList)
def pA (n:Nat):List Value->Option (List Value):=
 Nat.rec (motive:= λ_=>List Value->Option (List Value)) (λ_=>some [])
  (λ_ ih l=>List.rec (motive:= λ_=>Option (List Value)) none (λv l _=>Option.rec (motive:= λ_=>Option (List Value)) none (λr=>some (v::r)) (ih l)) l) n
def pC (n:Nat):List Value->Option (List Value):=
 Nat.rec (motive:= λ_=>List Value->Option (List Value)) (λl=>some l)
  (λ_ ih l=>List.rec (motive:= λ_=>Option (List Value)) none (λ_ l _=>ih l) l) n
def BF (vs:List Value):List Value->Option (List Value):=
 List.rec (motive:= λ_=>List Value->Option (List Value)) (λl=>some l)
  (λv _ ih l=>List.rec (motive:= λ_=>Option (List Value)) none (λ_ l _=>Option.rec (motive:= λ_=>Option (List Value)) none (λr=>some (v::r)) (ih l)) l) vs
def CP (vs:List Value) (l:List Value) (j:Nat):Option (List Value):=
 Nat.rec (motive:= λ_=>List Value->Option (List Value)) (λl=>BF vs l)
  (λ_ ih l=>List.rec (motive:= λ_=>Option (List Value)) none (λv l _=>Option.rec (motive:= λ_=>Option (List Value)) none (λr=>some (v::r)) (ih l)) l) j l
def len {α:Type} (l:List α):Nat:=List.rec (motive:= λ_=>Nat) 0 (λ_ _ ih=>Nat.succ ih) l
def app {α:Type} (l m:List α):List α:=List.rec (motive:= λ_=>List α) m (λa _ ih=>a::ih) l
def tT {α:Type} (l m:List α):Option (List α):=List.rec (motive:= λ_=>Option (List α)) (some m) (λa _ ih=>Option.rec (motive:= λ_=>Option (List α)) none (λr=>some (a::r)) ih) l
def aq {β:Type} (n:Nat) (k:Nat->Option β):Option β:=Nat.rec (motive:= λ_=>Option β) (k 0) (λm _=>k (Nat.succ m)) n
def ki (n:Nat) (k:Nat->Out):Out:=Nat.rec (motive:= λ_=>Out) (k 0) (λm _=>k (Nat.succ m)) n
def AS.new (s:AS) (b:Blk):Option AS:=
 AS.rec (motive:= λ_=>Option AS) (λh nx lm=>Option.rec (motive:= λ_=>Option AS) none (λh=>aq (Nat.succ nx) λn=>some ⟨h,n,lm⟩) (Hp.put (some b) h nx)) s
def AS.set (s:AS) (i:Nat) (b:Option Blk):Option AS:=
 AS.rec (motive:= λ_=>Option AS) (λh nx lm=>Bool.rec (motive:= λ_=>Option AS) (Option.rec (motive:= λ_=>Option AS) none (λh=>some ⟨h,nx,lm⟩) (Hp.put b h i)) none (Nat.blt i lm)) s
def dV {β:Type} (b:Option Blk) (k:T (List Value)->Nat->Nat->Bool->TypeId->Option β):Option β:=
 Option.rec (motive:= λ_=>Option β) none (λb=>Blk.rec (motive:= λ_=>Option β) k (λ_ _ _=>none) (λ_ _=>none) (λ_ _=>none) (λ_ _ _ _ _ _ _ _ _=>none) (λ_ _ _=>none) b) b
def ab {β:Type} (b:Bool) (t e:β):β:=Bool.rec (motive:= λ_=>β) e t b
def uV (s:AS) (b off k:Nat):Option (List Value):=
 dV (s.h.get b) λc sz _ _ _=>
  Option.rec (motive:= λ_=>Option (List Value)) none
   (λl=>ab (Nat.beq k sz) (ab (Nat.beq (Nat.mod off sz) 0) (some l) none)
    (Option.rec (motive:= λ_=>Option (List Value)) none (λl'=>pA k l') (pC (Nat.mod off sz) l)))
   (c.get (Nat.div off sz))
def cF (v:Value):Bool:=match v with| .agg _=>false| .tuple _=>false|_=>true
def kz (l:List Value):Bool:=List.rec (motive:= λ_=>Bool) true (λv _ ih=>ab (cF v) ih false) l
def iH (s:AS) (b off:Nat) (vs:List Value):Option AS:=
 ab (kz vs) (dV (s.h.get b) λc sz n ro et=>
  ab ro none
   (Option.rec (motive:= λ_=>Option AS) none
    (λl=>Option.rec (motive:= λ_=>Option AS) none
     (λl'=>Option.rec (motive:= λ_=>Option AS) none
      (λc'=>AS.set s b (some (.cells c' sz n false et)))
      (T.put (some l') c (Nat.div off sz)))
     (CP vs l (Nat.mod off sz)))
    (c.get (Nat.div off sz)))) none
def qG (s:AS) (et:TypeId) (vs:List Value):Option (Value×AS):=
 aq (len vs) λsz=>aq s.nx λa=>Option.rec (motive:= λ_=>Option (Value×AS)) none (λs'=>some (.pointer (some ⟨a,0,none⟩),s')) (s.new (.cells (.n (some vs) .e .e) sz 1 false et))
def vY (ls:List (List Value)):Nat->T (List Value)->Option (T (List Value)):=
 List.rec (motive:= λ_=>Nat->T (List Value)->Option (T (List Value))) (λ_ t=>some t)
  (λl _ ih i t=>Option.rec (motive:= λ_=>Option (T (List Value))) none (λt'=>ih (Nat.succ i) t') (T.put (some l) t i)) ls
def chunk (sz n:Nat):List Value->Option (List (List Value)):=
 Nat.rec (motive:= λ_=>List Value->Option (List (List Value))) (λ_=>some [])
  (λ_ ih l=>Option.rec (motive:= λ_=>Option (List (List Value))) none
   (λa=>Option.rec (motive:= λ_=>Option (List (List Value))) none
    (λb=>Option.rec (motive:= λ_=>Option (List (List Value))) none (λr=>some (a::r)) (ih b)) (pC sz l)) (pA sz l)) n
def qH (sz:Nat) (ls:List (List Value)):Bool:=List.rec (motive:= λ_=>Bool) true (λl _ ih=>ab (Nat.beq (len l) sz) ih false) ls
def jv {β:Type} (s:AS) (et:TypeId) (sz:Nat) (els:List (List Value)) (n:Nat) (k:Nat->AS->Option β):Option β:=
 ab (Nat.beq (len els) n) (ab (qH sz els) (Option.rec (motive:= λ_=>Option β) none
  (λt=>aq s.nx λa=>Option.rec (motive:= λ_=>Option β) none (λs'=>k a s') (s.new (.cells t sz n false et))) (vY els 0 .e)) none) none
def elems (c:T (List Value)) (n:Nat):Nat->Option (List (List Value)):=
 Nat.rec (motive:= λ_=>Nat->Option (List (List Value))) (λ_=>some [])
  (λ_ ih i=>Option.rec (motive:= λ_=>Option (List (List Value))) none
   (λl=>Option.rec (motive:= λ_=>Option (List (List Value))) none (λr=>some (l::r)) (ih (Nat.succ i))) (c.get i)) n
def ia (k:IntKind) (n:Int):Option Value:=
 Int.rec (motive:= λ_=>Option Value) (λm=>aq m λm=>some (.int k (.ofNat m))) (λm=>aq m λm=>some (.int k (.negSucc m))) n
def cT (v:Value):Option Value:=
 match v with
 | .bool b=>some (.bool b)
 | .int k n=>some (.int k n)
 | .string s=>some (.string s)
 | .pointer none=>some (.pointer none)
 | .slice none 0 0=>some (.slice none 0 0)
 | .map none=>some (.map none)
 | .nilFunc=>some .nilFunc
 | .nilIface=>some .nilIface
 |_=>none
def ob {α β:Type} (o:Option α) (k:α->Option β):Option β:=Option.rec (motive:= λ_=>Option β) none k o
def Hn (k:IntKind):Nat:=IntKind.rec (motive:= λ_=>Nat) 0 1 2 3 4 5 6 7 k
def tF (k k':IntKind):Bool:=Nat.beq (Hn k) (Hn k')
def lim (k:IntKind):Nat:=IntKind.rec (motive:= λ_=>Nat) 128 32768 2147483648 9223372036854775808 256 65536 4294967296 18446744073709551616 k
def Eg (k:IntKind):Nat:=IntKind.rec (motive:= λ_=>Nat) 128 32768 2147483648 9223372036854775808 0 0 0 0 k
def gi (k:IntKind) (n:Int):Option Value:=
 Int.rec (motive:= λ_=>Option Value)
  (λm=>ab (Nat.blt m (lim k)) (aq m λm=>some (.int k (.ofNat m))) (ia k (k.wrap (.ofNat m))))
  (λm=>ab (Nat.blt m (Eg k)) (aq m λm=>some (.int k (.negSucc m))) (ia k (k.wrap (.negSucc m)))) n
def zX (a b:Int):Bool:=
 Int.rec (motive:= λ_=>Bool) (λa=>Int.rec (motive:= λ_=>Bool) (λb=>Nat.beq a b) (λ_=>false) b) (λa=>Int.rec (motive:= λ_=>Bool) (λ_=>false) (λb=>Nat.beq a b) b) a
def wo (a b:Int):Bool:=
 Int.rec (motive:= λ_=>Bool) (λa=>Int.rec (motive:= λ_=>Bool) (λb=>Nat.blt a b) (λ_=>false) b) (λa=>Int.rec (motive:= λ_=>Bool) (λ_=>true) (λb=>Nat.blt b a) b) a
def DZ (a:List UInt8):List UInt8->Bool:=
 List.rec (motive:= λ_=>List UInt8->Bool) (λb=>List.rec (motive:= λ_=>Bool) true (λ_ _ _=>false) b)
  (λx _ ih b=>List.rec (motive:= λ_=>Bool) false (λy b _=>ab (Nat.beq x.toNat y.toNat) (ih b) false) b) a
def D2 (a:List UInt8):List UInt8->Bool:=
 List.rec (motive:= λ_=>List UInt8->Bool) (λb=>List.rec (motive:= λ_=>Bool) false (λ_ _ _=>true) b)
  (λx _ ih b=>List.rec (motive:= λ_=>Bool) false (λy b _=>ab (Nat.blt x.toNat y.toNat) true (ab (Nat.beq x.toNat y.toNat) (ih b) false)) b) a
def bz (b:Bool):Option Value:=Bool.rec (motive:= λ_=>Option Value) (some (.bool false)) (some (.bool true)) b
def dR (b:Bool):Bool:=Bool.rec (motive:= λ_=>Bool) true false b
def jr (op:BinOp):IntKind->Int->Int->Option Value:=
 BinOp.rec (motive:= λ_=>IntKind->Int->Int->Option Value)
  (λk a b=>gi k (Int.add a b)) (λk a b=>gi k (Int.sub a b)) (λk a b=>gi k (Int.mul a b))
  (λk a b=>ab (zX b (.ofNat 0)) none (gi k (Int.tdiv a b))) (λk a b=>ab (zX b (.ofNat 0)) none (ia k (Int.tmod a b)))
  (λk a b=>ia k (k.wrap (BitVec.ofInt k.bits a&&&BitVec.ofInt k.bits b).toNat))
  (λk a b=>ia k (k.wrap (BitVec.ofInt k.bits a|||BitVec.ofInt k.bits b).toNat))
  (λk a b=>ia k (k.wrap (BitVec.ofInt k.bits a^^^BitVec.ofInt k.bits b).toNat))
  (λ_ _ _=>none) (λ_ _ _=>none)
  (λk a b=>ia k (k.wrap (BitVec.ofInt k.bits a&&& ~~~BitVec.ofInt k.bits b).toNat))
  (λ_ a b=>bz (zX a b)) (λ_ a b=>bz (dR (zX a b))) (λ_ a b=>bz (wo a b)) (λ_ a b=>bz (dR (wo b a))) (λ_ a b=>bz (wo b a)) (λ_ a b=>bz (dR (wo a b))) op
def BG (op:BinOp):IntKind->Int->Nat->Option Value:=
 match op with
 | .shl=> λk a n=>gi k (Int.mul a (.ofNat (Nat.pow 2 (Nat.min n k.bits))))
 | .shr=> λk a n=>ia k (Int.fdiv a (.ofNat (Nat.pow 2 (Nat.min n k.bits))))
 |_=> λ_ _ _=>none
def Cm (op:BinOp):Bool:=match op with| .shl| .shr=>true|_=>false
def jQ (b:Int):Option Nat:=Int.rec (motive:= λ_=>Option Nat) (λn=>some n) (λ_=>none) b
inductive VL where
 |no
 |mk (l:List Value)
def toL (v:Value):VL:=Value.rec (motive_1:= λ_=>VL) (motive_2:= λ_=>Unit) (motive_3:= λ_=>Unit) (λ_=> .no) (λ_ _=> .no) (λ_ _=> .no) (λ_ _ _=> .no) (λ_=> .no) (λ_=> .no) (λ_ _ _=> .no) (λ_=> .no) (λ_=> .no) (λ_ _ _ _ _=> .no) .no (λ_ _ _=> .no) .no (λa _=> .mk a.toList) (λ_ _=> .no) (λ_ _=>()) () (λ_ _ _ _=>()) v
inductive VT where
 |no
 |mk (s:ByteArray)
def toT (v:Value):VT:=Value.rec (motive_1:= λ_=>VT) (motive_2:= λ_=>Unit) (motive_3:= λ_=>Unit) (λ_=> .no) (λ_ _=> .no) (λ_ _=> .no) (λ_ _ _=> .no) (λs=> .mk s) (λ_=> .no) (λ_ _ _=> .no) (λ_=> .no) (λ_=> .no) (λ_ _ _ _ _=> .no) .no (λ_ _ _=> .no) .no (λ_ _=> .no) (λ_ _=> .no) (λ_ _=>()) () (λ_ _ _ _=>()) v
abbrev Mt:=Value->Option Bool
def mI (k:IntKind) (n:Int):Mt:= λb=>VI.rec (motive:= λ_=>Option Bool) none (λk' m=>ab (tF k k') (some (zX n m)) none) (ON b)
def mB (x:Bool):Mt:= λb=>VB.rec (motive:= λ_=>Option Bool) none (λy=>some (ab x y (dR y))) (Sd b)
def mS (l:List UInt8):Mt:= λb=>VT.rec (motive:= λ_=>Option Bool) none (λm=>some (DZ l m.data.toList)) (toT b)
def andM (o:Option Bool) (k:Option Bool):Option Bool:=Option.rec (motive:= λ_=>Option Bool) none (λb=>ab b k (some false)) o
def mL (ms:List Mt):List Value->Option Bool:=
 List.rec (motive:= λ_=>List Value->Option Bool) (λl=>List.rec (motive:= λ_=>Option Bool) (some true) (λ_ _ _=>none) l) (λm _ ih l=>List.rec (motive:= λ_=>Option Bool) none (λv l _=>andM (m v) (ih l)) l) ms
def mA (ms:List Mt):Mt:= λb=>VL.rec (motive:= λ_=>Option Bool) none (λl=>mL ms l) (toL b)
def mapM' (f:Value->Mt) (l:List Value):List Mt:=List.rec (motive:= λ_=>List Mt) [] (λv _ ih=>f v::ih) l
def uS (d:Nat):Value->Mt:=Nat.rec (motive:= λ_=>Value->Mt) (λ_ _=>none) (λ_ f v=>Value.rec (motive_1:= λ_=>Mt) (motive_2:= λ_=>Unit) (motive_3:= λ_=>Unit) (λx=>mB x) (λk n=>mI k n) (λ_ _ _=>none) (λ_ _ _ _=>none) (λs=>mS s.data.toList) (λ_ _=>none) (λ_ _ _ _=>none) (λ_ _=>none) (λ_ _=>none) (λ_ _ _ _ _ _=>none) (λ_=>none) (λ_ _ _ _=>none) (λ_=>none) (λa _=>mA (mapM' f a.toList)) (λ_ _ _=>none) (λ_ _=>()) () (λ_ _ _ _=>()) v) d
abbrev an:=Value×Value×Nat
def uW (m:Mt) (es:List (Value×Value×Nat)):Option (Option (Value×Nat)):=
 List.rec (motive:= λ_=>Option (Option (Value×Nat))) (some none) (λe _ ih=>Option.rec (motive:= λ_=>Option (Option (Value×Nat))) none (λb=>ab b (some (some e.2)) ih) (m e.1)) es
def hB (l:List UInt8):Nat:=List.rec (motive:= λ_=>Nat) 7 (λb _ ih=>Nat.add (Nat.mul ih 256) b.toNat) l
def hI (n:Int):Nat:=Int.rec (motive:= λ_=>Nat) (λm=>Nat.mul 2 m) (λm=>Nat.succ (Nat.mul 2 m)) n
def hV (v:Value):Nat:=Value.rec (motive_1:= λ_=>Nat) (motive_2:= λ_=>Nat) (motive_3:= λ_=>Nat) (λ_=>1) (λ_ n=>hI n) (λ_ _=>0) (λ_ _ _=>0) (λs=>hB s.data.toList) (λ_=>0) (λ_ _ _=>0) (λ_=>0) (λ_=>0) (λ_ _ _ _ _=>0) 0 (λ_ _ _=>0) 0 (λ_ n=>n) (λ_ _=>0) (λ_ n=>n) 0 (λ_ _ a b=>Nat.add (Nat.mul b 1009) a) v
def LY (v:Value):Nat:=Nat.mod (hV v) 1021
def ll (d:Nat):T (List an):=Nat.rec (motive:= λ_=>T (List an)) .e (λ_ ih=> .n none ih ih) d
def bucket (t:T (List an)) (i:Nat):List an:=Option.rec (motive:= λ_=>List an) [] (λl=>l) (T.get t i)
def EV (e:an) (t:T (List an)):Option (T (List an)):=aq (LY e.1) λi=>T.put (some (e::bucket t i)) t i
def idx (es:List an):Option (T (List an)):=List.rec (motive:= λ_=>Option (T (List an))) (some (ll 11)) (λe _ ih=>Option.rec (motive:= λ_=>Option (T (List an))) none (λt=>EV e t) ih) es
def EW (k:Value) (es:List an):Option (Option (Value×Nat)):=aq (LY k) λi=>ob (idx es) λt=>uW (uS 8 k) (bucket t i)
def pD (k:Value) (es:List (Value×Value×Nat)):Option (Option (Value×Nat)):=VL.rec (motive:= λ_=>Option (Option (Value×Nat))) (uW (uS 8 k) es) (λ_=>EW k es) (toL k)
def vZ (k v:Value) (ck:Nat) (es:List (Value×Value×Nat)):Option (List (Value×Value×Nat)):=
 List.rec (motive:= λ_=>Option (List (Value×Value×Nat))) (some [(k,v,ck)])
  (λe es ih=>Option.rec (motive:= λ_=>Option (List (Value×Value×Nat))) none (λb=>ab b (some ((k,v,e.2.2)::es)) (ob ih λr=>some (e::r))) (uS 8 k e.1)) es
def Ho (k:Value) (es:List (Value×Value×Nat)):Option (List (Value×Value×Nat)):=
 List.rec (motive:= λ_=>Option (List (Value×Value×Nat))) (some [])
  (λe es ih=>Option.rec (motive:= λ_=>Option (List (Value×Value×Nat))) none (λb=>ab b (some es) (ob ih λr=>some (e::r))) (uS 8 k e.1)) es
def Hq (b:Nat) (x:Value):List (Value×Value×Nat)->Option (List (Value×Value×Nat))
 | []=>none
 |(k',v',b')::es=>ab (Nat.beq b' b) (some ((k',x,b')::es)) (match Hq b x es with|some r=>some ((k',v',b')::r)|none=>none)
def FM (op:BinOp):List UInt8->List UInt8->Option Value:=
 match op with
 | .add=> λa b=>ob (tT a b) λl=>ab (Nat.ble (len l) 1000000000) (some (.string ⟨⟨l⟩⟩)) none
 | .eql=> λa b=>bz (DZ a b)
 | .neq=> λa b=>bz (dR (DZ a b))
 | .lss=> λa b=>bz (D2 a b)
 | .leq=> λa b=>bz (dR (D2 b a))
 | .gtr=> λa b=>bz (D2 b a)
 | .geq=> λa b=>bz (dR (D2 a b))
 |_=> λ_ _=>none
def EX (op:BinOp):Option Bool->Option Value:=
 match op with
 | .eql=> λo=>ob o bz
 | .neq=> λo=>ob o λb=>bz (dR b)
 |_=> λ_=>none
def EY (p q:Addr):Option Bool:=ab (Nat.beq p.block q.block) (ab (Nat.beq p.off q.off) (match p.spot,q.spot with|none,none=>some true|_,_=>none) none) none
inductive EK where
 |bool|ptr|slice|map|func|iface|other
def lQ (P:Program) (t:TypeId):EK:=
 match P.underlying t with
 |some .bool=> .bool
 |some (.pointer e)=>(match P.info? e with|some _=> .ptr|none=> .other)
 |some (.slice _)=> .slice
 |some (.map _ _)=> .map
 |some (.func _ _ _)=> .func
 |some (.interface _)=> .iface
 |_=> .other
def uX (x:Operand):Bool:=match x with| .const _=>true|_=>false
def Px (k:EK) (pJ:Bool) (x y:Value):Option Bool:=
 match k,x,y with
 | .bool,.bool a,.bool b=>some (ab a b (dR b))
 | .ptr,.pointer a,.pointer b=>(match a,b with|none,none=>some true|some p,some q=>EY p q|none,some _=>some false|some _,none=>some false)
 | .slice,.slice a _ _,.slice b _ _=>(match a,b with|none,none=>some true|none,some _=>some false|some _,none=>some false|_,_=>none)
 | .map,.map a,.map b=>(match a,b with|none,none=>some true|none,some _=>some false|some _,none=>some false|_,_=>none)
 | .iface,.nilIface,.nilIface=>ab pJ (some true) none
 | .iface,.nilIface,.iface _ _=>some false
 | .iface,.iface _ _,.nilIface=>some false
 | .func,.nilFunc,.nilFunc=>some true
 | .func,.nilFunc,.func _ _ _=>some false
 | .func,.func _ _ _,.nilFunc=>some false
 |_,_,_=>none
def FN (op:BinOp) (k:IntKind) (a:Int) (L:Nat):Option Value:=
 match op,k,a with
 | .gtr,.i64,.ofNat a=>ab (Nat.ble a L) (some (.bool false)) none
 |_,_,_=>none
def CQ (op:BinOp) (k:EK) (pJ:Bool) (y:Value) (x:Value):Option Value:=
 match x,y with
 | .int k a,.int k' b=>ab (Cm op) (ob (jQ b) λn=>BG op k a n) (ab (tF k k') (jr op k a b) none)
 | .string a,.string b=>FM op a.data.toList b.data.toList
 | .int k a,.complex .f32 1 L=>FN op k a L
 |x,y=>EX op (Px k pJ x y)
def Lw (f:IntKind->Int->Int->Option Value):IntKind->IntKind->Int->Int->Option Value:= λk k' a b=>ab (tF k k') (f k a b) none
def IQ (op:BinOp):IntKind->IntKind->Int->Int->Option Value:=
 BinOp.rec (motive:= λ_=>IntKind->IntKind->Int->Int->Option Value)
  (λk k' a b=>ab (tF k k') (gi k (Int.add a b)) none) (λk k' a b=>ab (tF k k') (gi k (Int.sub a b)) none) (λk k' a b=>ab (tF k k') (gi k (Int.mul a b)) none)
  (Lw (jr .quo)) (Lw (jr .rem)) (Lw (jr .and)) (Lw (jr .or)) (Lw (jr .xor))
  (λk _ a b=>ob (jQ b) λn=>BG .shl k a n) (λk _ a b=>ob (jQ b) λn=>BG .shr k a n)
  (Lw (jr .andNot))
  (λk k' a b=>ab (tF k k') (bz (zX a b)) none) (λk k' a b=>ab (tF k k') (bz (dR (zX a b))) none) (λk k' a b=>ab (tF k k') (bz (wo a b)) none) (λk k' a b=>ab (tF k k') (bz (dR (wo b a))) none) (λk k' a b=>ab (tF k k') (bz (wo b a)) none) (λk k' a b=>ab (tF k k') (bz (dR (wo a b))) none) op
def IS (op:BinOp) (k:EK) (pJ:Bool) (y x:Value):Option Value:=
 VI.rec (motive:= λ_=>Option Value) (CQ op k pJ y x) (λka a=>VI.rec (motive:= λ_=>Option Value) (CQ op k pJ y x) (λkb b=>IQ op ka kb a b) (ON y)) (ON x)
def eO (base:Option Addr) (c:Nat):Nat:=Option.rec (motive:= λ_=>Nat) 0 (λ_=>Nat.div c 512) base
def jR (base:Option Addr) (c:Nat):Bool:=Option.rec (motive:= λ_=>Bool) true (λ_=>Nat.beq (Nat.mod c 2) 1) base
def yu (c:Nat):Nat:=Nat.div (Nat.mod c 512) 2
def codeEx (n:Nat):Nat:=Nat.add (Nat.mul 512 n) 1
def codeLB (n sz:Nat):Nat:=Nat.add (Nat.mul 512 n) (Nat.mul 2 sz)
def EZ (place:Nat->Option (Nat×Nat)) (ps:List (Nat×Value)):List Value->Option (List Value):=
 List.rec (motive:= λ_=>List Value->Option (List Value)) (λl=>some l)
  (λp _ ih cells=>ob (place p.1) λq=>ab (Nat.beq (len p.2.cells.toList) q.2) (ob (CP p.2.cells.toList cells q.1) ih) none) ps
def BH (P:Program) (t:TypeId) (cs:List Value) (off:Nat):Option Value:=
 ob (isAgg P t) λb=>ab b
  (ob (aK P t) λk=>ob (pC off cs) λl=>ob (pA k l) λr=>some (.agg ⟨r⟩))
  (ob (pC off cs) λl=>List.rec (motive:= λ_=>Option Value) none (λv _ _=>some v) l)
def indexOf (i:Int) (n:Nat):Option Nat:=Int.rec (motive:= λ_=>Option Nat) (λm=>ab (Nat.blt m n) (some m) none) (λ_=>none) i
def IT (l:List UInt8) (n:Nat):Option Value:=
 Nat.rec (motive:= λ_=>List UInt8->Option Value) (λl=>List.rec (motive:= λ_=>Option Value) none (λb _ _=>aq b.toNat λn=>some (.int .u8 (.ofNat n))) l)
  (λ_ ih l=>List.rec (motive:= λ_=>Option Value) none (λ_ r _=>ih r) l) n l
def BI (n:Nat):List UInt8->Option (List UInt8):=
 Nat.rec (motive:= λ_=>List UInt8->Option (List UInt8)) (λ_=>some [])
  (λ_ ih l=>List.rec (motive:= λ_=>Option (List UInt8)) none (λv l _=>ob (ih l) λr=>some (v::r)) l) n
def IU (n:Nat):List UInt8->Option (List UInt8):=
 Nat.rec (motive:= λ_=>List UInt8->Option (List UInt8)) (λl=>some l)
  (λ_ ih l=>List.rec (motive:= λ_=>Option (List UInt8)) none (λ_ l _=>ih l) l) n
def eS (d:Nat) (o:Option Value):Option Nat:=
 match o with
 |none=>some d
 |some (.int _ n)=>jQ n
 |_=>none
def nh (l h m:Nat):Bool:=ab (Nat.ble l h) (Nat.ble h m) false
def mkSlice (a:Addr) (off n c:Nat):Option Value:=aq off λoff=>aq n λn=>aq c λc=>some (.slice (some ⟨a.block,off,none⟩) n c)
def qI (sz:Nat) (base:Option Addr) (n c:Nat) (lo hi mx:Option Value):Option Value:=
 ob (eS 0 lo) λl=>ob (eS n hi) λh=>
  match mx with
  |none=>ab (nh l h (eO base c))
    (match base with
     |none=>some (.slice none 0 0)
     |some a=>ab (jR base c) (mkSlice a (Nat.add a.off (Nat.mul l sz)) (Nat.sub h l) (codeEx (Nat.sub (Nat.div c 512) l)))
       (ab (Nat.beq (yu c) sz) (mkSlice a (Nat.add a.off (Nat.mul l sz)) (Nat.sub h l) (codeLB (Nat.sub (Nat.div c 512) l) sz)) none)) none
  |some m=>ob (eS 0 (some m)) λm=>ab (nh l h m) (ab (Nat.ble m (eO base c))
    (match hi,base with|none,_=>none|_,none=>some (.slice none 0 0)|_,some a=>mkSlice a (Nat.add a.off (Nat.mul l sz)) (Nat.sub h l) (codeEx (Nat.sub m l))) none) none
def fS (sz:Nat) (a:Addr) (n:Nat) (lo hi mx:Option Value):Option Value:=
 match mx with
 |none=>ob (eS 0 lo) λl=>ob (eS n hi) λh=>ab (nh l h n) (mkSlice a (Nat.add a.off (Nat.mul l sz)) (Nat.sub h l) (codeEx (Nat.sub n l))) none
 |some _=>none
def rR (s:List UInt8) (lo hi mx:Option Value):Option Value:=
 match mx with
 |none=>ob (eS 0 lo) λl=>ob (eS (len s) hi) λh=>ab (nh l h (len s)) (ob (IU l s) λs=>ob (BI (Nat.sub h l) s) λs=>some (.string ⟨⟨s⟩⟩)) none
 |some _=>none
def AB (P:Program) (d:Option TypeDesc) (x:Value):Option Value->Option Value->Option Value->Option Value:=
 match x with
 | .string s=>match d with
  |some .string=>rR s.data.toList
  |_=> λ_ _ _=>none
 | .slice base n c=>match d with
  |some (.slice e)=> λlo hi mx=>ob (aK P e) λsz=>qI sz base n c lo hi mx
  |_=> λ_ _ _=>none
 | .pointer (some a)=>match d with
  |some (.array n e)=> λlo hi mx=>ob (aK P e) λsz=>fS sz a n lo hi mx
  |some (.pointer arr)=>match P.underlying arr with
   |some (.array n e)=> λlo hi mx=>ob (aK P e) λsz=>fS sz a n lo hi mx
   |_=> λ_ _ _=>none
  |_=> λ_ _ _=>none
 |_=> λ_ _ _=>none
def byteCells (l:List UInt8):Option (List (List Value)):=
 List.rec (motive:= λ_=>Option (List (List Value))) (some []) (λb _ ih=>aq b.toNat λn=>ob ih λr=>some ([.int .u8 (.ofNat n)]::r)) l
def kA (b:Option Blk) (sz off n:Nat):Option (List (List Value)):=
 dV b λc jn _ _ _=>
  ab (Nat.beq sz 0) none (ab (Nat.beq sz jn) (ab (Nat.beq (Nat.mod off sz) 0) (elems c n (Nat.div off sz)) none)
   (ob (c.get (Nat.div off jn)) λl=>ob (pC (Nat.mod off jn) l) λl=>ob (pA (Nat.mul n sz) l) λr=>chunk sz n r))
def bu (s:AS) (sz:Nat) (v:Value) (n:Nat):Option (List (List Value)):=
 match v with
 | .slice none _ _=>some []
 | .slice (some a) _ _=>Nat.rec (motive:= λ_=>Option (List (List Value))) (some []) (λ_ _=>kA (s.h.get a.block) sz a.off n) n
 | .string b=>ab (Nat.beq sz 1) (ob (BI n b.data.toList) byteCells) none
 |_=>none
def gU (sz b:Nat) (els:List (List Value)):AS->Nat->Option AS:=
 List.rec (motive:= λ_=>AS->Nat->Option AS) (λs _=>some s)
  (λl _ ih s off=>ob (iH s b off l) λs'=>ih s' (Nat.add off sz)) els
def Eh (b n c:Nat) (s:AS):Option (Value×AS):=aq n λn=>aq c λc=>some (.slice (some ⟨b,0,none⟩) n c,s)
def gJ (s:AS) (et:TypeId) (sz:Nat) (els:List (List Value)) (n:Nat):Option (Value×AS):=
 ab (Nat.blt sz 256) (jv s et sz els n λb s'=>Eh b n (codeLB n sz) s') none
def BJ (s:AS) (et:TypeId) (sz:Nat) (els:List (List Value)) (l n:Nat):Option (Value×AS):=
 jv s et sz els n λb s'=>Eh b l (codeEx n) s'
def rS (s:AS) (sz:Nat) (base:Option Addr) (n m c:Nat) (els:List (List Value)):Option (Value×AS):=
 match base with
 |none=>some (.slice none 0 0,s)
 |some a=>ob (gU sz a.block els s (Nat.add a.off (Nat.mul n sz))) λs'=>aq (Nat.add n m) λnm=>some (.slice (some a) nm c,s')
def rT (i:Nat) (cc:T (List Value)) (sz m:Nat) (et:TypeId) (r:Value×AS):Option (Value×AS):=
 match r.1 with
 | .slice (some b) _ _=>dV (r.2.h.get b.block) λPy Pz m2 _ OO=>ob (r.2.set b.block (some (.cells Py Pz m2 true OO))) λs1=>ob (s1.set i (some (.cells cc sz m true et))) λs2=>some (r.1,s2)
 |_=>none
def nD (sh:Bool) (s:AS) (et:TypeId) (sz:Nat) (base:Option Addr) (n nm c:Nat) (all:List (List Value)):Option (Value×AS):=
 match base with
 |none=>none
 |some a=>ab (Nat.beq (yu c) sz) (dV (s.h.get a.block) λcc jn m ro uT=>
   ab ro none (ab (Nat.beq sz jn) (ab (Nat.beq et uT) (ab (Nat.beq (Nat.mod a.off sz) 0) (ob (s.set a.block none) λs1=>ob (gJ s1 et sz all nm) λr=>ab sh (ab (Nat.beq (Nat.add (Nat.div a.off sz) n) m) (rT a.block cc sz m et r) none) (some r)) none) none) none)) none
def eC (l:List (List Value)):Bool:=List.rec (motive:= λ_=>Bool) true (λv _ ih=>ab (kz v) ih false) l
def MZ (a b:Option (Value×AS)):Option (Value×AS):=Option.rec (motive:= λ_=>Option (Value×AS)) b (λp=>some p) a
def CR (t:T (List Value)):Nat:=T.rec (motive:= λ_=>Nat) 0 (λv _ _ a b=>Nat.add (Option.rec (motive:= λ_=>Nat) 0 (λ_=>1) v) (Nat.add a b)) t
def gV (s:AS) (et:TypeId) (sz m:Nat) (els:List (List Value)) (base:Option Addr) (n c:Nat):Option (Value×AS):=
 match base with
 |none=>none
 |some a=>ab (jR base c) none (ab (Nat.beq (yu c) sz) (ab (Nat.beq a.off 0) (ab (Nat.beq sz 0) none (ab (Nat.blt sz 256) (dV (s.h.get a.block) λcc jn cnt ro uT=>
   ab ro none (ab (Nat.beq sz jn) (ab (Nat.beq et uT) (ab (Nat.beq cnt n) (ab (Nat.beq (CR cc) n) (ab (eC els) (ab (qH sz els) (ab (Nat.beq (len els) m)
    (ob (vY els n cc) λt=>ob (s.set a.block none) λs1=>aq (Nat.add n m) λnm=>ob (s1.new (.cells t sz nm false et)) λs2=>Eh s1.nx nm (codeLB nm sz) s2) none) none) none) none) none) none) none)) none)) none) none)
def Cn (sh:Bool) (s:AS) (et:TypeId) (sz m:Nat) (els:List (List Value)) (sl:Value):Option (Value×AS):=
 match sl with
 | .slice base n c=>ab (Nat.ble (Nat.add n m) (eO base c)) (rS s sz base n m c els)
   (ab (Nat.ble (Nat.add n m) 1000000) (MZ (ab sh none (gV s et sz m els base n c)) (ob (bu s sz (.slice base n c) n) λold=>ob (tT old els) λall=>ab (jR base c) (gJ s et sz all (Nat.add n m)) (ab (eC els) (nD sh s et sz base n (Nat.add n m) c all) none))) none)
 |_=>none
def lenOf (v:Value):Option Nat:=match v with| .slice _ n _=>some n| .string b=>some (len b.data.toList)|_=>none
def E2 (x y:Value):Option Value:=match x,y with| .int k a,.int _ b=>some (.int k (ab (wo a b) b a))|_,_=>none
def E3 (x y:Value):Option Value:=match x,y with| .int k a,.int _ b=>some (.int k (ab (wo b a) b a))|_,_=>none
def E4 (f:Value->Value->Option Value) (l:List Value):Value->Option Value:=
 List.rec (motive:= λ_=>Value->Option Value) (λx=>some x) (λy _ ih x=>ob (f x y) ih) l
def lx (l:List (List Value)):Option (List UInt8):=
 List.rec (motive:= λ_=>Option (List UInt8)) (some []) (λc _ ih=>match c with
  | [.int k n]=>ab (tF k .u8) (ob (jQ n) λn=>ab (Nat.blt n 256) (ob ih λr=>some (UInt8.ofNat n::r)) none) none
  |_=>none) l
def mapOf {β:Type} (b:Option Blk) (k:TypeId->List (Value×Value×Nat)->Nat->Option β):Option β:=
 Option.rec (motive:= λ_=>Option β) none (λb=>Blk.rec (motive:= λ_=>Option β) (λ_ _ _ _ _=>none) k (λ_ _=>none) (λ_ _=>none) (λ_ _ _ _ _ _ _ _ _=>none) (λ_ _ _=>none) b) b
def wz {β:Type} (b:Option Blk) (k:TypeId->List (Value×Value×Nat)->Nat->Option β):Option β:=
 match b with|some (.pmap kt es ck)=>k kt es ck|_=>none
def JZ {β:Type} (a b:Option β):Option β:=Option.rec (motive:= λ_=>Option β) b (λx=>some x) a
def jw (P:Program) (e:TypeId) (ok:Bool) (r:Option (Value×Nat)):Option Value:=
 match r with
 |some (v,_)=>some (ab ok (.tuple #[v,.bool true]) v)
 |none=>ob (gf P e) λz=>some (ab ok (.tuple #[z,.bool false]) z)
inductive KK where
 |int (k:IntKind)
 |str
 |bool
def mg (k:KK) (v:Value):Bool:=match k,v with| .int k,.int k' _=>tF k k'| .str,.string _=>true| .bool,.bool _=>true|_,_=>false
def aJ (ks:List KK):List Value->Bool:=
 List.rec (motive:= λ_=>List Value->Bool) (λl=>match l with| []=>true|_=>false) (λk _ ih l=>match l with|v::l=>ab (mg k v) (ih l) false| []=>false) ks
def ey (P:Program) (pl:TypeId->Option (List KK)):List Field->Nat->Option (List KK)
 | [],_=>some []
 |f::fs,off=>if f.name== "_"||f.offset !=off then none else match pl f.type with
  |some l=>if aK P f.type==some l.length then(match ey P pl fs (off+l.length)with|some r=>some (l++r)|none=>none)else none
  |none=>none
def dp (P:Program):Nat->TypeId->Option (List KK)
 |0,_=>none
 |d+1,t=>match P.underlying t with
  |some .bool=>some [.bool]
  |some (.int k)=>some [.int k]
  |some .string=>some [.str]
  |some (.struct fs)=>if P.stoodInHeld t then none else ey P (dp P d) fs.toList 0
  |some (.array n e)=>match dp P d e with
   |some l=>if aK P e==some l.length then some (List.replicate n l).flatten else none
   |none=>none
  |_=>none
def fO (a:Option Bool) (ks:List KK) (v:Value):Bool:=
 match a with
 |some true=>(match v with| .agg cs=>aJ ks cs.toList|_=>false)
 |some false=>(match v with| .agg _=>false|v=>aJ ks [v])
 |none=>false
def aC (P:Program) (kt:TypeId) (v:Value):Bool:=match dp P 5 kt with|some ks=>fO (isAgg P kt) ks v|none=>false
def keyOf (P:Program) (t:TypeId):Option (TypeId×TypeId):=match P.underlying t with|some (.map k e)=>some (k,e)|_=>none
def wZ (P:Program) (s:AS) (t:TypeId) (ok:Bool) (k x:Value):Option Value:=
 ob (keyOf P t) λke=>ab (aC P ke.1 k)
  (match x with
  | .map none=>jw P ke.2 ok none
  | .map (some r)=>JZ (mapOf (s.h.get r) λkt es _=>ab (Nat.beq kt ke.1) (ob (pD k es) λr=>jw P ke.2 ok r) none)
    (wz (s.h.get r) λkt es _=>ab (Nat.beq kt ke.1) (ob (pD k es) λr=>ob r λq=>jw P ke.2 ok (some q)) none)
  |_=>none) none
inductive Lo where
 |nil
 |cons (t:Nat) (v:Value) (r:Lo)
def Lo.get (t:Nat) (l:Lo):Option Value:=
 Lo.rec (motive:= λ_=>Option Value) none (λt' v _ ih=>ab (Nat.beq t t') (some v) ih) l
def rq {β:Type} (n:Nat):Nat->((T Value->Option Value)->Option β)->Option β:=
 Nat.rec (motive:= λ_=>Nat->((T Value->Option Value)->Option β)->Option β) (λt k=>k λtm=>T.get tm t)
  (λ_ ih t k=>Nat.rec (motive:= λ_=>Option β) (k λtm=>T.rec (motive:= λ_=>Option Value) none (λv _ _ _ _=>v) tm)
   (λm _=>Bool.rec (motive:= λ_=>Option β) (ih (Nat.div m 2) λg=>k λtm=>T.rec (motive:= λ_=>Option Value) none (λ_ _ r _ _=>g r) tm)
    (ih (Nat.div m 2) λg=>k λtm=>T.rec (motive:= λ_=>Option Value) none (λ_ l _ _ _=>g l) tm) (Nat.beq (Nat.mod m 2) 0)) t) n
abbrev J0:=Value->T Value->(T Value->Out)->Out
def kj {β:Type} (n:Nat):Nat->(J0->Option β)->Option β:=
 Nat.rec (motive:= λ_=>Nat->(J0->Option β)->Option β) (λt k=>k λx tm c=>Option.rec (motive:= λ_=>Out) .no c (T.put (some x) tm t))
  (λ_ ih t k=>Nat.rec (motive:= λ_=>Option β) (k λx tm c=>T.rec (motive:= λ_=>Out) (c (.n (some x) .e .e)) (λ_ l r _ _=>c (.n (some x) l r)) tm)
   (λm _=>Bool.rec (motive:= λ_=>Option β) (ih (Nat.div m 2) λp=>k λx tm c=>T.rec (motive:= λ_=>Out) .no (λv l r _ _=>p x r λr'=>c (.n v l r')) tm)
    (ih (Nat.div m 2) λp=>k λx tm c=>T.rec (motive:= λ_=>Out) .no (λv l r _ _=>p x l λl'=>c (.n v l' r)) tm) (Nat.beq (Nat.mod m 2) 0)) t) n
abbrev cI:=Lo->T Value->Option Value
def OP (t:Nat):cI:= λ_ tm=>T.get tm t
def PA (t:Nat):cI:= λlo _=>Lo.get t lo
def LZ (v:Value):cI:= λ_ _=>some v
def pK (xs:List cI):Lo->T Value->Option (List Value):=
 List.rec (motive:= λ_=>Lo->T Value->Option (List Value)) (λ_ _=>some [])
  (λx _ ih lo tm=>Option.rec (motive:= λ_=>Option (List Value)) none (λv=>Option.rec (motive:= λ_=>Option (List Value)) none (λr=>some (v::r)) (ih lo tm)) (x lo tm)) xs
abbrev VF:=Lo->T Value->AS->Option Value
abbrev SF:=Lo->T Value->AS->Option (Value×AS)
def v1 (x:cI) (k:Value->Option Value):VF:= λlo tm _=>ob (x lo tm) k
def v2 (x y:cI) (k:Value->Value->Option Value):VF:= λlo tm _=>ob (x lo tm) λa=>ob (y lo tm) λb=>k a b
def r1 (x:cI) (k:AS->Value->Option Value):VF:= λlo tm s=>ob (x lo tm) (k s)
def r2 (x y:cI) (k:AS->Value->Value->Option Value):VF:= λlo tm s=>ob (x lo tm) λa=>ob (y lo tm) λb=>k s a b
def s1 (x:cI) (k:AS->Value->Option (Value×AS)):SF:= λlo tm s=>ob (x lo tm) (k s)
def s2 (x y:cI) (k:AS->Value->Value->Option (Value×AS)):SF:= λlo tm s=>ob (x lo tm) λa=>ob (y lo tm) λb=>k s a b
def s3 (x y z:cI) (k:AS->Value->Value->Value->Option (Value×AS)):SF:= λlo tm s=>ob (x lo tm) λa=>ob (y lo tm) λb=>ob (z lo tm) λc=>k s a b c
def vl (xs:List cI) (k:List Value->Option Value):VF:= λlo tm _=>ob (pK xs lo tm) k
def rl (xs:List cI) (k:AS->List Value->Option Value):VF:= λlo tm s=>ob (pK xs lo tm) (k s)
def sl (xs:List cI) (k:AS->List Value->Option (Value×AS)):SF:= λlo tm s=>ob (pK xs lo tm) (k s)
def IV (a b:cI) (c:Value) (lo:Lo) (tm:T Value):Option Value:=match c with| .bool x=>ab x (a lo tm) (b lo tm)|_=>none
def NO (c a b:cI):VF:= λlo tm _=>ob (c lo tm) λc=>IV a b c lo tm
def AD (P:Program) (t:TypeId) (s:AS):Option (Value×AS):=ob (yt P t) λz=>qG s t z
def M3 (t:TypeId) (s:AS) (v:Value):Option (Value×AS):=qG s t v.cells.toList
def tU (is:List Nat):List Value->List (Nat×Value):=List.rec (motive:= λ_=>List Value->List (Nat×Value)) (λ_=> []) (λi _ ih l=>List.rec (motive:= λ_=>List (Nat×Value)) [] (λv l _=>(i,v)::ih l) l) is
def AE (P:Program) (t:TypeId) (i:Nat):Option (Nat×Nat):=
 match P.underlying t with
 |some (.struct fs)=>match fs[i]? with|some f=>ob (aK P f.type) λn=>some (f.offset,n)|none=>none
 |some (.array _ e)=>ob (aK P e) λn=>some (Nat.mul i n,n)
 |_=>none
def iV (P:Program) (t:TypeId):Bool:=
 match P.underlying t with
 |some (.struct fs)=>List.rec (motive:= λ_=>Bool) true (λf _ ih=>match P.info? f.type with|some _=>ih|none=>false) fs.toList
 |some (.array _ e)=>(match P.info? e with|some _=>true|none=>false)
 |_=>false
def AF (P:Program) (t:TypeId) (is:List Nat) (vs:List Value):Option Value:=
 ab (iV P t) (ob (yt P t) λz=>ob (EZ (AE P t) (tU is vs) z) λr=>some (.agg ⟨r⟩)) none
def wB (x:List Value) (i:Nat):List (List Value)->Option (List (List Value)):=
 Nat.rec (motive:= λ_=>List (List Value)->Option (List (List Value))) (λl=>List.rec (motive:= λ_=>Option (List (List Value))) none (λ_ r _=>some (x::r)) l)
  (λ_ ih l=>List.rec (motive:= λ_=>Option (List (List Value))) none (λa r _=>ob (ih r) λr=>some (a::r)) l) i
def rU (n:Nat) (ps:List (Nat×Value)):List (List Value)->Option (List (List Value)):=
 List.rec (motive:= λ_=>List (List Value)->Option (List (List Value))) (λl=>some l)
  (λp _ ih els=>ab (Nat.beq (len p.2.cells.toList) n) (ob (wB p.2.cells.toList p.1 els) ih) none) ps
def wa (z:List Value) (n:Nat):Option (List (List Value)):=Nat.rec (motive:= λ_=>Option (List (List Value))) (some []) (λ_ ih=>ob ih λr=>some (z::r)) n
def qJ (P:Program) (t:TypeId):Option TypeId:=match P.underlying t with|some (.slice e)=>some e|_=>none
def FO (P:Program) (t:TypeId):Option Nat:=(P.info? t).map (·.bytes)
def gP (P:Program) (e:TypeId):Option (Nat×List Value):=ob (aK P e) λsz=>ob (yt P e) λz=>ob (FO P e) λb=>ab (Nat.ble b 1000000) (ab (Nat.beq (len z) sz) (some (sz,z)) none) none
def kO (P:Program) (t:TypeId) (n:Nat) (is:List Nat) (s:AS) (vs:List Value):Option (Value×AS):=
 ob (qJ P t) λe=>ob (gP P e) λi=>ab (Nat.ble (Nat.mul n i.1) 16000000) (ob (wa i.2 n) λM4=>ob (rU i.1 (tU is vs) M4) λels=>BJ s e i.1 els n n) none
def yv (P:Program) (t:TypeId) (a:Value):Option Value:=
 match a with
 | .complex .f64 g off=>ob (isAgg P t) λb=>ab b none (ob P.globals[g]? λgl=>ob (iw gl.name) λvs=>vs[off]?)
 |_=>none
def uY (P:Program) (t:TypeId) (s:AS) (a:Value):Option Value:=
 match a with
 | .pointer (some a)=>ob (isAgg P t) λb=>ab b (ob (aK P t) λn=>ob (uV s a.block a.off n) λl=>some (.agg ⟨l⟩))
   (ob (uV s a.block a.off 1) λl=>List.rec (motive:= λ_=>Option Value) none (λv _ _=>some v) l)
 |a=>yv P t a
def AG (P:Program) (t:TypeId) (s:AS) (a v:Value):Option (Value×AS):=
 match a with
 | .pointer (some a)=>ob (aK P t) λn=>ab (Nat.beq (len v.cells.toList) n) (ob (iH s a.block a.off v.cells.toList) λs'=>some (.tuple #[],s')) none
 |_=>none
def IW (P:Program) (t:TypeId) (s:AS) (a:Value):Option Value:=
 VA.rec (motive:= λ_=>Option Value) (yv P t a) (λa=>ob (isAgg P t) λb=>ab b (ob (aK P t) λn=>ob (uV s a.block a.off n) λl=>some (.agg ⟨l⟩))
  (ob (uV s a.block a.off 1) λl=>List.rec (motive:= λ_=>Option Value) none (λv _ _=>some v) l)) (Pw a)
def FP (P:Program) (t:TypeId) (s:AS) (a v:Value):Option (Value×AS):=
 VA.rec (motive:= λ_=>Option (Value×AS)) none (λa=>ob (aK P t) λn=>ab (Nat.beq (len v.cells.toList) n) (ob (iH s a.block a.off v.cells.toList) λs'=>some (.tuple #[],s')) none) (Pw a)
def E5 (v:Value):Option Value:=match v with
 | .pointer (some a)=>some (.pointer (some a))
 | .iface t v=>some (.iface t v)
 | .func (.func f) a b=>some (.func (.func f) a b)
 | .func (.yield l) a b=>some (.func (.yield l) a b)
 |_=>none
def PB (op:UnOp) (v:Value):Option Value:=match op,v with
 | .not,.bool b=>bz (dR b)
 | .neg,.int k n=>gi k (Int.sub (.ofNat 0) n)
 | .xor,.int k n=>ia k (k.wrap (BitVec.ofInt k.bits (if k.signed then-1 else k.max)^^^BitVec.ofInt k.bits n).toNat)
 |_,_=>none
def ml (P:Program) (t:TypeId) (s:AS) (l c:Value):Option (Value×AS):=
 match l,c with
 | .int _ l,.int _ c=>ob (qJ P t) λe=>ob (jQ l) λl=>ob (jQ c) λc=>ab (Nat.ble l c) (ab (Nat.ble c 1000000) (ob (gP P e) λi=>ob (wa i.2 c) λels=>BJ s e i.1 els l c) none) none
 |_,_=>none
def Hr (o:Option cI) (lo:Lo) (tm:T Value):Option (Option Value):=match o with|none=>some none|some x=>ob (x lo tm) λv=>some (some v)
def FQ (P:Program) (t:TypeId) (x:cI) (l h m:Option cI):VF:= λlo tm _=>ob (x lo tm) λx=>ob (Hr l lo tm) λl=>ob (Hr h lo tm) λh=>ob (Hr m lo tm) λm=>AB P (P.underlying t) x l h m
def fieldsOf (P:Program) (t:TypeId) (f:Nat):Option Field:=match P.underlying t with|some (.struct fs)=>fs[f]?|_=>none
def mo (P:Program) (t:TypeId) (f:Nat) (v:Value):Option Value:=
 match v with
 | .pointer (some a)=>ob (fieldsOf P t f) λfl=>ob (aK P fl.type) λn=>ab (Nat.beq n 0) none (aq (Nat.add a.off fl.offset) λo=>some (.pointer (some ⟨a.block,o,none⟩)))
 |_=>none
def sM (P:Program) (t:TypeId) (f:Nat) (v:Value):Option Value:=
 VA.rec (motive:= λ_=>Option Value) none (λa=>ob (fieldsOf P t f) λfl=>ob (aK P fl.type) λn=>ab (Nat.beq n 0) none (aq (Nat.add a.off fl.offset) λo=>some (.pointer (some ⟨a.block,o,none⟩)))) (Pw v)
def AH (P:Program) (t:TypeId) (f:Nat) (v:Value):Option Value:=
 match v with
 | .agg cs=>ob (fieldsOf P t f) λfl=>BH P fl.type cs.toList fl.offset
 |_=>none
def elemAt (P:Program) (a:Addr) (e:TypeId) (n:Nat) (i:Int):Option Value:=
 ob (indexOf i n) λi=>ob (aK P e) λsz=>aq (Nat.add a.off (Nat.mul i sz)) λo=>some (.pointer (some ⟨a.block,o,none⟩))
def IX (P:Program) (g off:Nat) (e:TypeId) (n:Nat) (i:Int):Option Value:=
 ob (indexOf i n) λi=>ob (aK P e) λsz=>aq (Nat.add off (Nat.mul i sz)) λo=>some (.complex .f64 g o)
def jG (P:Program) (d:Option TypeDesc) (x i:Value):Option Value:=
 match i with
 | .int _ i=>match x with
  | .slice (some a) n _=>match d with|some (.slice e)=>elemAt P a e n i|_=>none
  | .pointer (some a)=>match d with|some (.array n e)=>elemAt P a e n i|_=>none
  | .complex .f64 g off=>match d with|some (.array n e)=>IX P g off e n i|_=>none
  |_=>none
 |_=>none
def sN (d:Option TypeDesc):Option TypeId:=match d with|some (.slice e)=>some e|_=>none
def sO (P:Program) (d:Option TypeDesc) (x i:Value):Option Value:=
 VI.rec (motive:= λ_=>Option Value) none (λ_ n=>VS.rec (motive:= λ_=>Option Value) (jG P d x i) (λa m _=>ob (sN d) λe=>elemAt P a e m n) (toS x)) (ON i)
def AI (P:Program) (d:Option TypeDesc) (x i:Value):Option Value:=
 match i with
 | .int _ i=>match x with
  | .string b=>match d with|some .string=>ob (jQ i) λi=>IT b.data.toList i|_=>none
  | .agg cs=>match d with|some (.array n e)=>ob (indexOf i n) λi=>ob (aK P e) λsz=>BH P e cs.toList (Nat.mul i sz)|_=>none
  |_=>none
 |_=>none
def jH (P:Program) (t:TypeId) (s:AS) (m i x:Value):Option (Value×AS):=
 ob (keyOf P t) λke=>ab (aC P ke.1 i) (match m with
 | .map (some r)=>JZ (mapOf (s.h.get r) λkt es ck=>ab (Nat.beq kt ke.1) (ob (pD i es) λo=>match o with
   |some _=>ob (vZ i x (Nat.succ ck) es) λbf=>ob (s.set r (some (.map kt bf ck))) λs'=>some (.tuple #[],s')
   |none=>aq (Nat.succ ck) λck'=>ob (s.set r (some (.map kt ((i,x,ck')::es) ck'))) λs'=>some (.tuple #[],s')) none)
   (wz (s.h.get r) λkt es ck=>ab (Nat.beq kt ke.1) (ob (pD i es) λo=>ob o λ_=>ob (vZ i x (Nat.succ ck) es) λbf=>ob (s.set r (some (.pmap kt bf ck))) λs'=>some (.tuple #[],s')) none)
 |_=>none) none
def oR (P:Program) (t:TypeId) (s:AS) (m i:Value):Option (Value×AS):=
 ob (keyOf P t) λke=>ab (aC P ke.1 i) (match m with
 | .map (some r)=>mapOf (s.h.get r) λkt es ck=>ab (Nat.beq kt ke.1) (ob (pD i es) λo=>match o with
   |some (v,b)=>Nat.rec (motive:= λ_=>Option (Value×AS)) none (λb _=>ob (s.set r (some (.map kt es ck))) λs'=>some (.tuple #[v,.int .i64 (.ofNat b)],s')) b
   |none=>ob (gf P ke.2) λz=>aq (Nat.succ ck) λck'=>ob (s.set r (some (.map kt ((i,z,ck')::es) ck'))) λs'=>some (.tuple #[z,.int .i64 (.ofNat ck)],s')) none
 |_=>none) none
def kP (s:AS) (m st x:Value):Option (Value×AS):=
 match m,st with
 | .map (some r),.int _ n=>ob (jQ n) λb=>mapOf (s.h.get r) λkt es ck=>ob (Hq (Nat.succ b) x es) λbf=>ob (s.set r (some (.map kt bf ck))) λs'=>some (.tuple #[],s')
 |_,_=>none
def AJ (P:Program) (t:TypeId) (s:AS) (x:Value):Option (Value×AS):=
 match x,P.underlying t with
 | .string b,some .string=>ob (s.new (.cQ b 0)) λs'=>some (.pointer (some ⟨s.nx,0,none⟩),s')
 | .map none,some (.map _ _)=>ob (s.new (.mapIter none 0)) λs'=>some (.pointer (some ⟨s.nx,0,none⟩),s')
 | .map (some r),some (.map _ _)=>mapOf (s.h.get r) λ_ _ ck=>ob (s.new (.mapIter (some r) ck)) λs'=>some (.pointer (some ⟨s.nx,0,none⟩),s')
 |_,_=>none
def E6 (s:AS) (it:Value):Option (Value×AS):=
 match it with
 | .pointer (some ⟨r,0,_⟩)=>match s.h.get r with
  |some (.cQ b pos)=>ab (Nat.blt pos (len b.data.toList))
    (ob (s.set r (some (.cQ b (Nat.add pos (Utf8.decode b pos).2)))) λs'=>some (.tuple #[.bool true,.int .i64 (.ofNat pos),.int .i32 (.ofNat (Utf8.decode b pos).1)],s'))
    (some (.tuple #[.bool false],s))
  |_=>none
 |_=>none
def M5 (l:List Value) (i:Nat):Option Value:=ob (pC i l) λl=>List.rec (motive:= λ_=>Option Value) none (λv _ _=>some v) l
def rV (i:Nat) (x:Value):Option Value:=match x with| .tuple vs=>M5 vs.toList i|_=>none
def lR (P:Program) (ts:Array TypeId) (i:Nat):Option TypeDesc:=match ts[i]? with|some t=>P.underlying t|none=>none
def J1 (P:Program) (d:Option TypeDesc) (l:List Value):Option Value:=match d,l with
  |some (.slice _),[.slice _ n _]=>some (.int .i64 (.ofNat n))
  |some .string,[.string b]=>aq (len b.data.toList) λn=>some (.int .i64 (.ofNat n))
  |some (.array n _),[_]=>some (.int .i64 (.ofNat n))
  |some (.pointer arr),[_]=>match P.underlying arr with|some (.array n _)=>some (.int .i64 (.ofNat n))|_=>none
  |_,_=>none
def J2 (s:AS) (l:List Value):Option Value:=match l with
  | [.map none]=>some (.int .i64 (.ofNat 0))
  | [.map (some r)]=>mapOf (s.h.get r) λ_ es _=>aq (len es) λn=>some (.int .i64 (.ofNat n))
  |_=>none
def AK (d:Option TypeDesc):Bool:=match d with|some (.map _ _)=>true|_=>false
def J3 (d:Option TypeDesc) (l:List Value):Option Value:=match d,l with
  |some (.slice _),[.slice b _ n]=>ab (jR b n) (aq (eO b n) λn=>some (.int .i64 (.ofNat n))) (aq (eO b n) λn=>some (.complex .f32 1 n))
  |_,_=>none
def rF (P:Program) (ts:Array TypeId):Option TypeId:=match lR P ts 0 with|some (.slice e)=>some e|_=>none
def wC (P:Program) (ts:Array TypeId):Bool:=match ts[1]? with|none=>true|some t=>match P.underlying t with|some (.int _)=>false|some _=>true|none=>false
def AL (P:Program) (ts:Array TypeId):Bool:=match ts[1]? with|none=>false|some t=>match P.underlying t with|some (.int _)=>true|_=>false
def xa (s:AS) (e:TypeId) (sz:Nat) (z:List Value) (l:List Value):Option (Value×AS):=match l with
 | [.slice base n c,.int .i64 (.ofNat m)]=>ab (jR base c) (ab (Nat.blt (eO base c) (Nat.add n m)) (ab (Nat.ble (Nat.add n m) 1000000) (ab (Nat.blt 0 (Nat.mul m sz))
   (ob (bu s sz (.slice base n c) n) λold=>ob (wa z m) λels=>ob (tT old els) λall=>gJ s e sz all (Nat.add n m)) none) none) none) none
 |_=>none
def xb (P:Program) (sh:Bool) (ts:Array TypeId) (s:AS) (l:List Value):Option (Value×AS):=
 ob (rF P ts) λe=>ob (gP P e) λi=>ab (wC P ts) (match l with
  | [x,y]=>ob (lenOf y) λn=>ob (bu s i.1 y n) λels=>Cn sh s e i.1 n els x
  |_=>none) (ab (AL P ts) (xa s e i.1 i.2 l) none)
def copyA (P:Program) (ts:Array TypeId) (s:AS) (l:List Value):Option (Value×AS):=
 ob (rF P ts) λe=>ob (aK P e) λsz=>match l with
  | [.slice base dl _,y]=>ob (lenOf y) λn=>aq (Nat.min n dl) λm=>ob (bu s sz y m) λels=>match base with
   |none=>some (.int .i64 (.ofNat m),s)
   |some a=>ob (gU sz a.block els s a.off) λs'=>some (.int .i64 (.ofNat m),s')
  |_=>none
def xc (P:Program) (ts:Array TypeId) (s:AS) (l:List Value):Option (Value×AS):=match ts[0]?,l with
  |some t,[.map (some r),i]=>ob (keyOf P t) λke=>ab (aC P ke.1 i) (mapOf (s.h.get r) λkt es ck=>ab (Nat.beq kt ke.1) (ob (Ho i es) λbf=>ob (s.set r (some (.map kt bf ck))) λs'=>some (.tuple #[],s')) none) none
  |_,_=>none
def AM (P:Program) (ts:Array TypeId) (s:AS) (l:List Value):Option (Value×AS):=match lR P ts 0,l with
  |some (.slice _),[.slice none _ _]=>some (.tuple #[],s)
  |some (.slice e),[.slice (some a) n _]=>ob (gP P e) λi=>ob (wa i.2 n) λels=>ob (gU i.1 a.block els s a.off) λs'=>some (.tuple #[],s')
  |some (.map _ _),[.map (some r)]=>mapOf (s.h.get r) λkt _ ck=>ob (s.set r (some (.map kt [] ck))) λs'=>some (.tuple #[],s')
  |_,_=>none
def BK (f:Value->Value->Option Value) (l:List Value):Option Value:=match l with|x::l=>E4 f l x|_=>none
def J4 (P:Program) (ts:Array TypeId) (s:AS) (l:List Value):Option (Value×AS):=match lR P ts 0,l with
   |some (.pointer _),[.pointer none,.int _ (.ofNat 0)]=>some (.string ⟨⟨[]⟩⟩,s)
   |some (.pointer u),[.pointer (some a),.int _ (.ofNat n)]=>dV (s.h.get a.block) λc sz m _ et=>
     ab (Nat.beq et u) (ab (Nat.beq sz 1) (ab (Nat.beq ((aK P u).getD 0) 1) (ab (Nat.blt n 1000000) (ob (elems c n a.off) λels=>ob (lx els) λl=>ob (s.set a.block (some (.cells c sz m true et))) λs'=>some (.string ⟨⟨l⟩⟩,s')) none) none) none) none
   |_,_=>none
def E7 (l:List Value):Option Value:=match l with
   | [.slice none _ _]=>some (.pointer none)
   | [.slice (some a) n c]=>ab (Nat.blt 0 (Nat.div c 512)) (some (.pointer (some a))) none
   |_=>none
def Fa (d:TypeDesc) (x:Value):Option Value:=
 match d,x with
 | .int k,.int _ n=>gi k n
 | .string,.int _ n=>some (.string (Utf8.encode n))
 | .string,.string b=>some (.string b)
 |_,_=>none
def BM (P:Program) (e:TypeId) (back:Bool) (s:AS) (x:Value):Option Value:=
 match x with
 | .pointer none=>some (.pointer none)
 | .pointer (some a)=>ob (aK P e) λn=>dV (s.h.get a.block) λc sz _ _ et=>ab (Nat.blt 0 n) (ab (Nat.beq (Nat.mod a.off sz) 0) (ab (Nat.beq n sz) (ob (c.get (Nat.div a.off sz)) λ_=>ab (ab back (Nat.beq et e) true) (some (.pointer (some a))) none) none) none) none
 |_=>none
def Fb (s:AS) (x:Value):Option Value:=
 match x with
 | .slice base n c=>ob (bu s 1 (.slice base n c) n) λels=>ob (lx els) λl=>some (.string ⟨⟨l⟩⟩)
 |_=>none
def Fc (e:TypeId) (s:AS) (x:Value):Option (Value×AS):=
 match x with
 | .string b=>ab (Nat.ble (len b.data.toList) 1000000) (ob (byteCells b.data.toList) λels=>gJ s e 1 els (len b.data.toList)) none
 |_=>none
def kept (aa t:Nat):Bool:=Nat.beq (Nat.land (Nat.shiftRight aa t) 1) 1
abbrev Al:=List (Nat×Operand)
def uZ (t:Nat) (al:Al):Option Operand:=List.rec (motive:= λ_=>Option Operand) none (λp _ ih=>ab (Nat.beq p.1 t) (some p.2) ih) al
def BN (aa:Nat) (x:Operand):Option cI:=
 match x with
 | .tmp t=>ab (kept aa t) (rq 12 t λg=>some λ_ tm=>g tm) (some (PA t))
 | .const v=>(match cT v with|some v=>some (LZ v)|none=>some (λ_ _=>none))
 | .global g=>some (LZ (.complex .f64 g 0))
 | .func f=>some (LZ (.func (.func f) #[] #[]))
def ef (al:Al) (x:Operand):Operand:=match x with| .tmp t=>(match uZ t al with|some y=>y|none=> .tmp t)|x=>x
def bA (aa:Nat) (al:Al) (x:Operand):Option cI:=BN aa (ef al x)
def iT (aa:Nat) (al:Al) (xs:List Operand):Option (List cI):=List.rec (motive:= λ_=>Option (List cI)) (some []) (λx _ ih=>ob (bA aa al x) λx=>ob ih λr=>some (x::r)) xs
def ru (aa:Nat) (al:Al) (x:Option Operand):Option (Option cI):=match x with|some x=>ob (bA aa al x) λx=>some (some x)|none=>some none
inductive Rd where
 |p (f:VF)
 |r (f:VF)
 |a (f:SF)
 |w (f:SF)
 |c (f:cI) (args:List cI)
def c1 (aa:Nat) (al:Al) (x:Operand) (k:cI->Rd):Option Rd:=ob (bA aa al x) λx=>some (k x)
def c2 (aa:Nat) (al:Al) (x y:Operand) (k:cI->cI->Rd):Option Rd:=ob (bA aa al x) λx=>ob (bA aa al y) λy=>some (k x y)
def c3 (aa:Nat) (al:Al) (x y z:Operand) (k:cI->cI->cI->Rd):Option Rd:=ob (bA aa al x) λx=>ob (bA aa al y) λy=>ob (bA aa al z) λz=>some (k x y z)
def cl (aa:Nat) (al:Al) (xs:List Operand) (k:List cI->Rd):Option Rd:=ob (iT aa al xs) λxs=>some (k xs)
def ly (P:Program) (sh:Bool) (b:Builtin) (ts:Array TypeId) (Lv:List cI):Option Rd:=
 match b with
 | .len=>ab (AK (lR P ts 0)) (some (.r (rl Lv J2))) (some (.p (vl Lv (J1 P (lR P ts 0)))))
 | .cap=>some (.p (vl Lv (J3 (lR P ts 0))))
 | .append=>some (.w (sl Lv (xb P sh ts)))
 | .copy=>some (.w (sl Lv (copyA P ts)))
 | .delete=>some (.w (sl Lv (xc P ts)))
 | .clear=>some (.w (sl Lv (AM P ts)))
 | .max=>some (.p (vl Lv (BK E2)))
 | .min=>some (.p (vl Lv (BK E3)))
 |b=>ab (Nat.beq b.ctorIdx 20) (some (.p (vl Lv E7))) (ab (Nat.beq b.ctorIdx 21) (some (.w (sl Lv (J4 P ts)))) none)
def vj (aa:Nat) (xs:List Operand):Bool:=match xs with| .tmp t::_=>kept aa (Nat.add 4096 t)|_=>false
def wE (d:Option TypeDesc):Bool:=match d with|some d=>Nat.beq d.ctorIdx 6|none=>false
def AN (P:Program) (src dst:TypeId) (x:cI):Option Rd:=
 ab (wE (P.underlying dst)) (match P.underlying src with|some (.pointer e)=>some (.r (r1 x (BM P e false)))|_=>none)
 (ab (wE (P.underlying src)) (match P.underlying dst with|some (.pointer e)=>some (.r (r1 x (BM P e true)))|_=>none)
 (match P.underlying src,P.underlying dst with
 |some (.slice e),some .string=>(match P.underlying e with|some (.int .u8)=>some (.r (r1 x Fb))|_=>none)
 |some .string,some (.slice e)=>(match P.underlying e with|some (.int .u8)=>ab (Nat.beq ((aK P e).getD 0) 1) (some (.a (s1 x (Fc e)))) none|_=>none)
 |some _,some d=>some (.p (v1 x (Fa d)))
 |_,_=>none))
def NP (fn:Fn) (a b:List Value):Option Value:=match fn with| .func f=>some (.func (.func f) ⟨a⟩ ⟨b⟩)|_=>none
def wF (P:Program) (name:String) (t:TypeId) (v:Value):Option Value:=
 match P.info? t with
 |some i=>(match i.methods.find? (·.name==name)with
  |some m=>(match m.path.toList,m.func with
   | [],some (f,p)=>(match P.underlying t,p with
    |some (.pointer _),true=>some (.func (.func f) #[v] #[])
    |some (.pointer _),false=>none
    |some _,false=>some (.func (.func f) #[v] #[])
    |_,_=>none)
   |_,_=>none)
  |none=>none)
 |none=>none
def FR (P:Program) (name:String) (v:Value):Option Value:=match v with| .iface t v=>wF P name t v|_=>none
def Co (P:Program) (name:String) (r:cI):cI:= λlo tm=>ob (r lo tm) (FR P name)
def tV (P:Program) (aa:Nat) (al:Al) (op:Op):Option Rd:=
 match op with
 | .move x=>c1 aa al x λx=> .p (v1 x some)
 | .assign x=>c1 aa al x λx=> .p (v1 x some)
 | .pick c a b=>c3 aa al c a b λc a b=> .p (NO c a b)
 | .alloc t=>some (.a (λ_ _ s=>AD P t s))
 | .box t x=>c1 aa al x λx=> .a (s1 x (M3 t))
 | .build t ps=>cl aa al (ps.toList.map (·.2)) λxs=> .p (vl xs (AF P t (ps.toList.map (·.1))))
 | .buildSlice t n ps=>cl aa al (ps.toList.map (·.2)) λxs=> .a (sl xs (kO P t n (ps.toList.map (·.1))))
 | .load t a=>c1 aa al a λa=> .r (r1 a (IW P t))
 | .store t a x=>c2 aa al a x λa x=> .w (s2 a x (FP P t))
 | .nilCheck x=>c1 aa al x λx=> .p (v1 x E5)
 | .binOp op t x y _=>c2 aa al x y λx' y'=> .p (v2 x' y' λa b=>IS op (lQ P t) (ab (uX x) true (uX y)) b a)
 | .unOp op _ x=>c1 aa al x λx=> .p (v1 x (PB op))
 | .convert a b x=>ob (bA aa al x) λx=>AN P a b x
 | .makeInterface t x=>(match P.underlying t with|some (.interface _)=>none|some _=>c1 aa al x λx=> .p (v1 x λv=>some (.iface t v))|none=>none)
 | .makeFunc fn a b=>ob (iT aa al a.toList) λa=>ob (iT aa al b.toList) λb=>some (.p (λlo tm _=>ob (pK a lo tm) λa=>ob (pK b lo tm) λb=>NP fn a b))
 | .makeMap t none=>ob (keyOf P t) λke=>some (.a (λ_ _ s=>aq s.nx λa=>ob (s.new (.map ke.1 [] 0)) λs'=>some (.map (some a),s')))
 | .makeSlice t l c=>c2 aa al l c λl c=> .a (s2 l c (ml P t))
 | .slice t x lo hi mx=>ob (bA aa al x) λx=>ob (ru aa al lo) λlo=>ob (ru aa al hi) λhi=>ob (ru aa al mx) λmx=>some (.p (FQ P t x lo hi mx))
 | .fieldAddr t x f=>c1 aa al x λx=> .p (v1 x (sM P t f))
 | .field t x f=>c1 aa al x λx=> .p (v1 x (AH P t f))
 | .indexAddr t x i=>c2 aa al x i λx i=> .p (v2 x i λx i=>sO P (P.underlying t) x i)
 | .index t x i=>c2 aa al x i λx i=> .p (v2 x i λx i=>AI P (P.underlying t) x i)
 | .lookup t x i ok=>c2 aa al x i λx i=> .r (r2 x i λs x i=>wZ P s t ok i x)
 | .mapUpdate t m i x=>c3 aa al m i x λm i x=> .w (s3 m i x (jH P t))
 | .insert t m i x=>c3 aa al m i x λm i x=> .w (s3 m i x (jH P t))
 | .mapEntry t m i=>c2 aa al m i λm i=> .w (s2 m i (oR P t))
 | .entryStore _ m st x=>c3 aa al m st x λm st x=> .w (s3 m st x kP)
 | .range t x=>c1 aa al x λx=> .w (s1 x (AJ P t))
 | .next x true=>c1 aa al x λx=> .w (s1 x E6)
 | .extract x i=>c1 aa al x λx=> .p (v1 x (rV i))
 | .call c=>match c.callee with
  | .value f=>ob (bA aa al f) λf=>cl aa al c.args.toList λLv=> .c f Lv
  | .builtin b=>ob (iT aa al c.args.toList) λLv=>ly P (vj aa c.args.toList) b c.argTypes Lv
  | .invoke r name=>ob (bA aa al r) λr=>cl aa al c.args.toList λLv=> .c (Co P name r) Lv
 |_=>none
inductive DI where
 |no
 |l (t:Nat)
 |t (t:Nat)
def lL (aa nt:Nat) (d:Option Tmp):Option DI:=match d with|none=>some .no|some t=>ab (Nat.blt t nt) (ab (kept aa t) (some (.t t)) (some (.l t))) none
inductive CI where
 |v (f:VF) (d:DI)
 |s (f:SF) (d:DI)
 |c (f:cI) (args:List cI) (d:DI)
 |gd (g:cI) (want:Bool) (d:DI) (c:CI)
def oC (r:Rd) (d:DI):CI:=match r with| .p f=> .v f d| .r f=> .v f d| .a f=> .s f d| .w f=> .s f d| .c f Lv=> .c f Lv d
abbrev K:=Lo->T Value->AS->Out
def ei (d:DI) (v:Value) (k:K) (lo:Lo) (tm:T Value) (s:AS):Out:=
 DI.rec (motive:= λ_=>Out) (k lo tm s) (λt=>k (.cons t v lo) tm s) (λt=>Option.rec (motive:= λ_=>Out) .no (λtm'=>k lo tm' s) (T.put (some v) tm t)) d
def oS (d:DI) (k:K) (lo:Lo) (tm:T Value) (o:Out):Out:=
 Out.rec (motive:= λ_=>Out) .no (λ_ _ _=> .no) (λv s=>ei d v k lo tm s) o
def ej (want:Bool) (o:Option Value):Option Bool:=match o with|some (.bool b)=>some (ab want b (dR b))|some (.tuple _)=>some false|_=>none
def D3 (o:Option Bool) (a b:Out):Out:=Option.rec (motive:= λ_=>Out) .no (λy=>ab y a b) o
def dw (ev:Ev) (c:CI):K->K:=
 CI.rec (motive:= λ_=>K->K)
  (λf d k lo tm s=>Option.rec (motive:= λ_=>Out) .no (λv=>ei d v k lo tm s) (f lo tm s))
  (λf d k lo tm s=>Option.rec (motive:= λ_=>Out) .no (λp=>ei d p.1 k lo tm p.2) (f lo tm s))
  (λf Lv d k lo tm s=>Option.rec (motive:= λ_=>Out) .no (λl=>Option.rec (motive:= λ_=>Out) .no (λf=>oS d k lo tm (ev f l s)) (f lo tm)) (pK Lv lo tm))
  (λg want d _ ih k lo tm s=>D3 (ej want (g lo tm)) (ih k lo tm s) (ei d (.tuple #[]) k lo tm s)) c
def js (ev:Ev) (l:List CI) (k:K):K:=
 List.rec (motive:= λ_=>K) k (λc _ ih lo tm s=>dw ev c ih lo tm s) l
def iW (aa:Nat) (al:Al) (all:List Oper) (j:Nat):Option cI:=match all[j]? with|some o=>(match o.dst with|some d=>bA aa al (.tmp d)|none=>none)|none=>none
def de (aa:Nat) (al:Al) (all:List Oper) (o:Oper) (d:DI) (c:CI):Option CI:=
 match o.guard with
 |none=>some c
 |some (j,want)=>ob (iW aa al all j) λg=>some (.gd g want d c)
def yb (P:Program) (aa nt:Nat) (al:Al) (all:List Oper) (o:Oper):Option CI:=
 ob (tV P aa al o.op) λr=>ob (lL aa nt o.dst) λd=>de aa al all o d (oC r d)
def wG (o:Oper):Option (Nat×Operand):=
 match o.guard,o.dst,o.op with
 |none,some d,.move (.tmp x)=>some (d,.tmp x)
 |none,some d,.move (.const v)=>some (d,.const v)
 |_,_,_=>none
def m7 (d:Nat) (x:Operand):Bool:=match x with| .tmp t=>Nat.beq t d|_=>false
def cO (d:Nat) (al:Al):Al:=List.rec (motive:= λ_=>Al) [] (λp _ ih=>ab (Nat.beq p.1 d) ih (ab (m7 d p.2) ((p.1,.const (.complex .f32 0 0))::ih) (p::ih))) al
def ix (o:Oper) (al:Al):Al:=match o.dst with|some d=>cO d al|none=>al
def NQ (l:List Oper):Nat:=List.rec (motive:= λ_=>Nat) 0 (λo _ ih=>match o.dst with|some d=>Nat.lor (Nat.shiftLeft 1 d) ih|none=>ih) l
def writes (x:Operand) (l:List Oper):Bool:=match x with| .tmp t=>kept (NQ l) t|_=>false
def dC (P:Program) (aa nt:Nat) (all rest:List Oper):Al->Option (List CI):=
 List.rec (motive:= λ_=>Al->Option (List CI)) (λ_=>some [])
  (λo tl ih al=>match wG o with
   |some (d,x)=>ab (ab (kept aa d) true (ab (Nat.ble nt d) true (ab (m7 d (ef al x)) true (writes (ef al x) tl)))) (ob (yb P aa nt al all o) λc=>ob (ih (ix o al)) λr=>some (c::r)) (ih ((d,ef al x)::cO d al))
   |none=>ob (yb P aa nt al all o) λc=>ob (ih (ix o al)) λr=>some (c::r)) rest
def jT (f:Value->Value->Bool) (a:List Value):List Value->Bool:=
 List.rec (motive:= λ_=>List Value->Bool) (λb=>match b with| []=>true|_=>false) (λx _ ih b=>match b with|y::b=>ab (f x y) (ih b) false| []=>false) a
def xd (a b:Addr):Bool:=match a.spot,b.spot with|none,none=>ab (Nat.beq a.block b.block) (Nat.beq a.off b.off) false|_,_=>false
def iX (a b:Option Addr):Bool:=match a,b with|none,none=>true|some a,some b=>xd a b|_,_=>false
def nE (a b:Option Nat):Bool:=match a,b with|none,none=>true|some a,some b=>Nat.beq a b|_,_=>false
def wH (a b:Fn):Bool:=match a,b with| .func f,.func g=>Nat.beq f g| .yield f,.yield g=>Nat.beq f g|_,_=>false
def jX (n:Nat):Value->Value->Bool:=
 Nat.rec (motive:= λ_=>Value->Value->Bool) (λ_ _=>false) (λ_ ih x y=>match x,y with
  | .bool a,.bool b=>ab a b (dR b)
  | .int k a,.int k' b=>ab (tF k k') (zX a b) false
  | .string a,.string b=>DZ a.data.toList b.data.toList
  | .pointer a,.pointer b=>iX a b
  | .slice a n c,.slice b m d=>ab (iX a b) (ab (Nat.beq n m) (Nat.beq c d) false) false
  | .map a,.map b=>nE a b
  | .func f a b,.func g c d=>ab (wH f g) (ab (jT ih a.toList c.toList) (jT ih b.toList d.toList) false) false
  | .nilFunc,.nilFunc=>true
  | .nilIface,.nilIface=>true
  | .iface t a,.iface u b=>ab (Nat.beq t u) (ih a b) false
  | .agg a,.agg b=>jT ih a.toList b.toList
  | .tuple a,.tuple b=>jT ih a.toList b.toList
  |_,_=>false) n
def tW (v:Value) (o:Option Value):Bool:=Option.rec (motive:= λ_=>Bool) false (λu=>jX 12 v u) o
abbrev ig:=Nat×(AS->Bool)
def bq (k:Nat) (s:AS) (l:List ig):Bool:=List.rec (motive:= λ_=>Bool) true (λc _ ih=>ab (Nat.ble k c.1) (ab (c.2 s) ih false) ih) l
inductive DR where
 |pa (c:CI)
 |rd (f:VF) (d:DI) (hi:Nat)
 |gr (g:cI) (want:Bool) (f:VF) (d:DI) (hi:Nat)
abbrev KC:=List ig->K
def rdStep (f:VF) (d:DI) (hi:Nat) (k:KC) (cs:List ig) (lo:Lo) (tm:T Value) (s:AS):Out:=
 Option.rec (motive:= λ_=>Out) .no (λv=>ei d v (k ((hi,λs'=>tW v (f lo tm s'))::cs)) lo tm s) (f lo tm s)
def BO (ev:Ev) (x:DR) (k:KC) (cs:List ig):K:=
 DR.rec (motive:= λ_=>K) (λc lo tm s=>dw ev c (k cs) lo tm s) (λf d hi lo tm s=>rdStep f d hi k cs lo tm s)
  (λg want f d hi lo tm s=>D3 (ej want (g lo tm)) (rdStep f d hi k cs lo tm s) (ei d (.tuple #[]) (k cs) lo tm s)) x
def bM (ev:Ev) (l:List DR) (k:KC):KC:=
 List.rec (motive:= λ_=>KC) k (λx _ ih cs lo tm s=>BO ev x ih cs lo tm s) l
structure iU where
 pre:List DR
 w:CI
def dW (n:Nat) (k:KC):KC:= λcs lo tm s=>ab (bq n s cs) (k cs lo tm s) .no
def bR (ev:Ev) (l:List iU) (last:List DR) (k:K):Nat->KC:=
 List.rec (motive:= λ_=>Nat->KC) (λn=>bM ev last (dW n λ_=>k))
  (λst _ ih n=>bM ev st.pre (dW n λcs=>dw ev st.w (ih (Nat.succ n) cs))) l
def iI (ms:List Nat) (es:List Edge):Nat:=
 List.rec (motive:= λ_=>Nat) 0 (λe _ ih=>ab (Region.binds .any e) (Nat.lor (Nat.lor (Nat.shiftLeft 1 e.on) (ms.getD e.on 0)) ih) ih) es
def rv (l:List Oper):List Nat->Option (List Nat):=
 List.rec (motive:= λ_=>List Nat->Option (List Nat)) (λms=>some ms) (λo _ ih ms=>aq (iI ms o.after.toList) λm=>ob (tT ms [m]) ih) l
def av (m i:Nat):Bool:=Nat.beq (Nat.land (Nat.shiftRight m i) 1) 1
def lI (r:Rd):Bool:=match r with| .w _=>true| .c _ _=>true|_=>false
structure aE where
 i:Nat
 m:Nat
 o:Oper
 r:Rd
def CS (P:Program) (aa:Nat) (l:List Oper):Nat->List Nat->Option (List aE):=
 List.rec (motive:= λ_=>Nat->List Nat->Option (List aE)) (λ_ _=>some [])
  (λo _ ih i ms=>match ms with
   |m::ms=>ab (Nat.blt m (Nat.pow 2 i)) (ob (tV P aa [] o.op) λr=>aq i λi=>ob (ih (Nat.succ i) ms) λl=>some (⟨i,m,o,r⟩::l)) none
   | []=>none) l
def aF (l:List aE):List aE:=List.rec (motive:= λ_=>List aE) [] (λx _ ih=>ab (lI x.r) (x::ih) ih) l
def jx (l:List aE):Option Nat->Bool:=
 List.rec (motive:= λ_=>Option Nat->Bool) (λ_=>true) (λx _ ih p=>match p with|none=>ih (some x.i)|some p=>ab (av x.m p) (ih (some x.i)) false) l
def level (m:Nat) (ws:List aE):Nat:=List.rec (motive:= λ_=>Nat) 0 (λx _ ih=>ab (av m x.i) (Nat.succ ih) ih) ws
def dq (i:Nat) (ws:List aE):Nat:=List.rec (motive:= λ_=>Nat) 0 (λx _ ih=>ab (av x.m i) ih (Nat.succ ih)) ws
def eU (all:List Oper) (o:Oper):List Nat:=
 app (o.op.operands.toList.filterMap λx=>match x with| .tmp t=>some t|_=>none)
  (match o.guard with|some (j,_)=>(match all[j]? with|some g=>g.dst.toList|none=> [])|none=> [])
def tX {α:Type} (f:α->Bool) (l:List α):Bool:=List.rec (motive:= λ_=>Bool) true (λx _ ih=>ab (f x) ih false) l
def emptyT {α:Type} (d:Nat):T α:=Nat.rec (motive:= λ_=>T α) .e (λ_ ih=> .n none ih ih) d
def Ei (l:List aE):Option (T aE):=
 List.rec (motive:= λ_=>Option (T aE)) (some (emptyT 12)) (λx _ ih=>match x.o.dst with
  |none=>ih
  |some d=>ob ih λt=>Option.rec (motive:= λ_=>Option (T aE)) (T.put (some x) t d) (λ_=>none) (T.get t d)) l
def BP (x y:aE):Bool:=ab (Nat.beq x.i y.i) false (ab (Nat.blt y.i x.i) (av x.m y.i) (av y.m x.i))
def lq (all:List Oper) (l:List aE):Bool:=
 Option.rec (motive:= λ_=>Bool) false (λt=>tX (λx=>tX (λu=>Option.rec (motive:= λ_=>Bool) true (λy=>BP x y) (T.get t u)) (eU all x.o)) l) (Ei l)
def J5 (aa nt:Nat) (all:List Oper) (ws:List aE) (x:aE):Option DR:=
 ob (lL aa nt x.o.dst) λd=>match x.r with
 | .r f=>(match x.o.guard with
  |none=>aq (dq x.i ws) λh=>some (.rd f d h)
  |some (j,want)=>ob (iW aa [] all j) λg=>aq (dq x.i ws) λh=>some (.gr g want f d h))
 |r=>ob (de aa [] all x.o d (oC r d)) λc=>some (.pa c)
def cr (aa nt:Nat) (all:List Oper) (ws:List aE) (n:Nat) (l:List aE):Option (List DR):=
 List.rec (motive:= λ_=>Option (List DR)) (some [])
  (λx _ ih=>ab (lI x.r) ih (ab (Nat.beq (level x.m ws) n) (ob (J5 aa nt all ws x) λd=>ob ih λr=>some (d::r)) ih)) l
def ko (aa nt:Nat) (all:List Oper) (ws l:List aE) (todo:List aE):Nat->Option (List iU):=
 List.rec (motive:= λ_=>Nat->Option (List iU)) (λ_=>some [])
  (λw _ ih n=>ob (cr aa nt all ws n l) λpre=>ob (lL aa nt w.o.dst) λd=>ob (de aa [] all w.o d (oC w.r d)) λc=>aq (Nat.succ n) λn=>ob (ih n) λr=>some (⟨pre,c⟩::r)) todo
def rG {β:Type} (P:Program) (aa nt:Nat) (all:List Oper) (k:List iU->List DR->Option β):Option β:=
 ob (rv all []) λms=>ob (CS P aa all 0 ms) λl=>
  ab (jx (aF l) none) (ab (lq all l)
   (ob (ko aa nt all (aF l) l (aF l) 0) λst=>ob (cr aa nt all (aF l) (len (aF l)) l) λlast=>k st last) none) none
def ba (o:Oper):Bool:=match o.op with| .insert _ _ _ _=>true|_=>false
structure wb where
 t:TypeId
 m:Nat
 k:Value
 v:cI
def dy (aa:Nat) (o:Oper):Option wb:=match o.guard,o.dst,o.op with
 |none,none,.insert t (.tmp m) (.const k) v=>ob (cT k) λk=>ob (bA aa [] v) λv=>some ⟨t,m,k,v⟩
 |_,_,_=>none
def az (aa:Nat) (x:aE):aE:=match dy aa x.o with|some q=>⟨x.i,x.m,x.o,.p (λlo tm _=>ob (q.v lo tm) λ_=>some (.tuple #[]))⟩|none=>x
def rb (f:aE->aE) (l:List aE):List aE:=List.rec (motive:= λ_=>List aE) [] (λx _ ih=>f x::ih) l
def bg (aa:Nat) (l:List aE):List wb:=List.rec (motive:= λ_=>List wb) [] (λx _ ih=>match dy aa x.o with|some q=>q::ih|none=>ih) l
def yw (o:Oper):Option (TypeId×Nat):=match o.guard,o.dst,o.op with|none,some d,.makeMap t none=>some (t,d)|_,_,_=>none
def AO (l:List aE):Option (aE×TypeId×Nat):=List.rec (motive:= λ_=>Option (aE×TypeId×Nat)) none (λx _ ih=>match yw x.o with|some q=>some (x,q.1,q.2)|none=>ih) l
def Cp (l:List aE) (x:aE):Bool:=match x.o.op with
 | .insert _ _ _ (.tmp t)=>tX (λy=>match y.o.dst with|some d=>ab (Nat.beq d t) (av x.m y.i) true|none=>true) l
 |_=>true
def xe (P:Program) (aa:Nat) (kt t:TypeId) (m i0:Nat) (l:List aE) (x:aE):Bool:=match dy aa x.o with
 |some q=>ab (Nat.beq q.t t) (ab (Nat.beq q.m m) (ab (aC P kt q.k) (ab (av x.m i0) (Cp l x) false) false) false) false
 |none=>dR (ba x.o)
def Fe (o:Option Bool):Bool:=match o with|some false=>true|_=>false
def oT (l:List wb):Bool:=List.rec (motive:= λ_=>Bool) true (λx t ih=>ab (tX (λy=>Fe (uS 8 x.k y.k)) t) ih false) l
def BQ (l:List wb) (lo:Lo) (tm:T Value):Option (List (Value×Value×Nat)):=
 List.rec (motive:= λ_=>Option (List (Value×Value×Nat))) (some []) (λx _ ih=>ob (x.v lo tm) λv=>ob ih λr=>some ((x.k,v,0)::r)) l
def jy (m:cI) (Iv:Nat) (k:KC):KC:= λcs lo tm s=>match m lo tm with
 |some (.map (some b))=>ab (Nat.ble Iv b) (Option.rec (motive:= λ_=>Out) .no (λs'=>k cs lo tm s') (s.set b none)) .no
 |_=> .no
def J6 (m:cI) (kt:TypeId) (il:List wb):K:= λlo tm s=>match m lo tm with
 |some (.map (some b))=>Option.rec (motive:= λ_=>Out) .no (λes=>Option.rec (motive:= λ_=>Out) .no (λs'=> .code .normal tm s') (s.set b (some (.map kt es (len il))))) (BQ il lo tm)
 |_=> .no
def mq (ev:Ev) (l:List iU) (last:List DR) (k:K) (M6:KC->KC):KC:=
 match l with
 | []=>bM ev last (M6 (dW 0 λ_=>k))
 |st::r=>bM ev st.pre (M6 (dW 0 λcs=>dw ev st.w (bR ev r last k 1 cs)))
def K4 (m:cI) (kt:TypeId) (il:List wb) (st:List iU) (last:List DR):Ev->T Value->AS->Out:= λev tm s=>mq ev st last (J6 m kt il) (jy m s.nx) [] .nil tm s
def ni (P:Program) (aa nt:Nat) (all:List Oper):Option (Ev->T Value->AS->Out):=
 ob (rv all []) λms=>ob (CS P aa all 0 ms) λl0=>ob (AO l0) λpl=>ob (keyOf P pl.2.1) λke=>
  ab (tX (xe P aa ke.1 pl.2.1 pl.2.2 pl.1.i l0) l0) (ab (oT (bg aa l0)) (ab (Nat.beq (level pl.1.m (aF (rb (az aa) l0))) 0)
   (ab (jx (aF (rb (az aa) l0)) none) (ab (lq all (rb (az aa) l0))
    (ob (ko aa nt all (aF (rb (az aa) l0)) (rb (az aa) l0) (aF (rb (az aa) l0)) 0) λst=>ob (cr aa nt all (aF (rb (az aa) l0)) (len (aF (rb (az aa) l0))) (rb (az aa) l0)) λlast=>ob (bA aa [] (.tmp pl.2.2)) λm=>some (K4 m ke.1 (bg aa l0) st last)) none) none) none) none) none
inductive Ext where
 |same|cmp|makeNoZero (et:TypeId)|indexByteString|overlaps (et:TypeId)
inductive Sum where
 |copy (kt:TypeId)
 |sorted (g:Nat) (et kt:TypeId)
 |BR (te tp:TypeId)
 |guard (fill tY sm t:Nat)
 |alt (a b:Sum)
structure Entry where
 f:Nat
 nx:Nat
 args:List Value
 hin:List (Nat×Blk)
 v:Value
 add:List (Nat×Blk)
 del:List Nat
 wq:Nat
structure Cfg where
 ext:List (Nat×Ext)
 sum:List (Nat×Sum)
 tab:List Entry
 aa:T Nat
def fw (X:Cfg) (fn:Nat):Nat:=match X.aa.get fn with|some n=>n|none=>0
abbrev CF:=Ev->T Value->AS->Out
abbrev KO:=T Value->AS->Out
def gN (k:KO) (o:Out):Out:=
 Out.rec (motive:= λ_=>Out) .no (λx tm s=>cm.rec (motive:= λ_=>Out) (k tm s) (λi=> .code (.exit i) tm s) (λl=> .code (.goto l) tm s) (.code .ret tm s) x) (λ_ _=> .no) o
def tZ (x:cm):CF:= λ_ tm s=> .code x tm s
def lS:K:= λ_ tm s=> .code .normal tm s
def xf (l:List CI):CF:= λev tm s=>js ev l lS .nil tm s
def wc {β:Type} (d:DI) (cont:(Value->K->K)->Option β):Option β:=
 DI.rec (motive:= λ_=>Option β) (cont λ_ k=>k) (λt=>cont λv k lo tm s=>k (.cons t v lo) tm s) (λt=>kj 12 t λp=>cont λv k lo tm s=>p v tm λtm'=>k lo tm' s) d
def GL {β:Type} (c:CI):((Ev->K->K)->Option β)->Option β:=
 CI.rec (motive:= λ_=>((Ev->K->K)->Option β)->Option β)
  (λf d cont=>DI.rec (motive:= λ_=>Option β) (cont λ_ k lo tm s=>Option.rec (motive:= λ_=>Out) .no (λ_=>k lo tm s) (f lo tm s))
   (λt=>cont λ_ k lo tm s=>Option.rec (motive:= λ_=>Out) .no (λv=>k (.cons t v lo) tm s) (f lo tm s))
   (λt=>kj 12 t λp=>cont λ_ k lo tm s=>Option.rec (motive:= λ_=>Out) .no (λv=>p v tm λtm'=>k lo tm' s) (f lo tm s)) d)
  (λf d cont=>DI.rec (motive:= λ_=>Option β) (cont λ_ k lo tm s=>Option.rec (motive:= λ_=>Out) .no (λp=>k lo tm p.2) (f lo tm s))
   (λt=>cont λ_ k lo tm s=>Option.rec (motive:= λ_=>Out) .no (λp=>k (.cons t p.1 lo) tm p.2) (f lo tm s))
   (λt=>kj 12 t λq=>cont λ_ k lo tm s=>Option.rec (motive:= λ_=>Out) .no (λp=>q p.1 tm λtm'=>k lo tm' p.2) (f lo tm s)) d)
  (λf Lv d cont=>wc d λp=>cont λev k lo tm s=>Option.rec (motive:= λ_=>Out) .no (λl=>Option.rec (motive:= λ_=>Out) .no (λf=>Out.rec (motive:= λ_=>Out) .no (λ_ _ _=> .no) (λv s=>p v k lo tm s) (ev f l s)) (f lo tm)) (pK Lv lo tm))
  (λg want d _ ih cont=>wc d λp=>ih λF=>cont λev k lo tm s=>Option.rec (motive:= λ_=>K->K) (λ_ _ _ _=> .no) (λy=>Bool.rec (motive:= λ_=>K->K) (p (.tuple #[])) (F ev) y) (ej want (g lo tm)) k lo tm s) c
def xg (l:List CI):Option (Ev->K->K):=
 List.rec (motive:= λ_=>Option (Ev->K->K)) (some λ_ k=>k) (λc _ ih=>ob ih λR=>GL c λF=>some λev k lo tm s=>F ev (R ev k) lo tm s) l
def BS (l:List CI):Option CF:=ob (xg l) λR=>some λev tm s=>R ev lS .nil tm s
def NR (st:List iU) (last:List DR):CF:= λev tm s=>bR ev st last lS 0 [] .nil tm s
def uc (n:Nat) (s:AS) (l:List ig):Option (List ig):=
 List.rec (motive:= λ_=>Option (List ig)) (some []) (λc _ ih=>Bool.rec (motive:= λ_=>Option (List ig)) ih
  (Bool.rec (motive:= λ_=>Option (List ig)) none (Bool.rec (motive:= λ_=>Option (List ig)) (Option.rec (motive:= λ_=>Option (List ig)) none (λr=>some (c::r)) ih) ih (Nat.ble c.1 n)) (c.2 s)) (Nat.ble n c.1)) l
def Ae (n:Nat) (k:KC):KC:= λcs lo tm s=>Option.rec (motive:= λ_=>Out) .no (λcs=>k cs lo tm s) (uc n s cs)
def OQ {β:Type} (x:DR) (cont:(Ev->KC->KC)->Option β):Option β:=
 DR.rec (motive:= λ_=>Option β) (λc=>GL c λF=>cont λev k cs lo tm s=>F ev (k cs) lo tm s)
  (λf d hi=>wc d λp=>cont λ_ k cs lo tm s=>Option.rec (motive:= λ_=>Out) .no (λv=>p v (k ((hi,λs'=>tW v (f lo tm s'))::cs)) lo tm s) (f lo tm s))
  (λg want f d hi=>wc d λp=>cont λ_ k cs lo tm s=>Option.rec (motive:= λ_=>KC->K) (λ_ _ _ _=> .no) (λy=>Bool.rec (motive:= λ_=>KC->K) (λk=>p (.tuple #[]) (k cs))
   (λk lo tm s=>Option.rec (motive:= λ_=>Out) .no (λv=>p v (k ((hi,λs'=>tW v (f lo tm s'))::cs)) lo tm s) (f lo tm s)) y) (ej want (g lo tm)) k lo tm s) x
def CT (l:List DR):Option (Ev->KC->KC):=
 List.rec (motive:= λ_=>Option (Ev->KC->KC)) (some λ_ k=>k) (λx _ ih=>ob ih λR=>OQ x λF=>some λev k cs lo tm s=>F ev (R ev k) cs lo tm s) l
def jz (l:List iU) (last:List DR):Nat->Option (Ev->KC):=
 List.rec (motive:= λ_=>Nat->Option (Ev->KC)) (λn=>ob (CT last) λR=>some λev=>R ev (Ae n λ_=>lS))
  (λst _ ih n=>ob (CT st.pre) λR=>GL st.w λW=>aq (Nat.succ n) λm=>ob (ih m) λN=>some λev=>R ev (Ae n λcs=>W ev (N ev cs))) l
def kq (st:List iU) (last:List DR):Option CF:=ob (jz st last 0) λN=>some λev tm s=>N ev [] .nil tm s
def Ej (a b:CF):CF:= λev tm s=>gN (b ev) (a ev tm s)
def Cq (v:Option Value) (a b:Out):Out:=match v with|some (.bool x)=>ab x a b|_=> .no
def Ff (v:Option Value) (a b:Out):Out:=Option.rec (motive:= λ_=>Out) .no (λv=>VB.rec (motive:= λ_=>Out) .no (λx=>ab x a b) (Sd v)) v
def yx (c:cI) (a b:CF):CF:= λev tm s=>Ff (c .nil tm) (a ev tm s) (b ev tm s)
def iY (id:Nat) (o:Out):Out:=
 Out.rec (motive:= λ_=>Out) .no (λx tm s=>cm.rec (motive:= λ_=>Out) (.code .normal tm s) (λi=>ab (Nat.beq i id) (.code .normal tm s) (.code (.exit i) tm s)) (λl=> .code (.goto l) tm s) (.code .ret tm s) x) (λ_ _=> .no) o
def rH (id:Nat) (a:CF):CF:= λev tm s=>iY id (a ev tm s)
def yO (o:Out):Out:=
 Out.rec (motive:= λ_=>Out) .no (λx tm s=>cm.rec (motive:= λ_=>Out) (.code .normal tm s) (λi=> .code (.exit i) tm s) (λ_=> .no) (.code .ret tm s) x) (λ_ _=> .no) o
def rI (a:CF):CF:= λev tm s=>yO (a ev tm s)
def Fg (a:KO) (n:Nat):KO:=Nat.rec (motive:= λ_=>KO) (λ_ _=> .no) (λ_ ih tm s=>gN ih (a tm s)) n
def Fh (a:CF):CF:= λev tm s=>Fg (a ev) 1000000 tm s
def lz (b:Option Blk) (k:Option Nat->Nat->Out):Out:=
 match b with|some (.mapIter r ck)=>k r ck|_=> .no
def rJ (s:AS) (r:Option Nat) (ck:Nat):Option (List (Value×Value×Nat)):=
 match r with
 |none=>some []
 |some r=>mapOf (s.h.get r) λ_ es ck'=>ab (Nat.beq ck ck') (some es) none
def yy (ws:List Nat):T Value->Option (T Value):=List.rec (motive:= λ_=>T Value->Option (T Value)) (λt=>some t) (λw _ ih t=>ob (T.put none t w) ih) ws
def pN (a:T Value):T Value->Bool:=
 T.rec (motive:= λ_=>T Value->Bool) (λ_=>true)
  (λv l r lZ uQ b=>match b with
   | .e=>match v with|none=>ab (lZ .e) (uQ .e) false|some _=>false
   | .n v' l' r'=>ab (match v with|none=>true|some v=>tW v v') (ab (lZ l') (uQ r') false) false) a
structure cy where
 b0:Nat
 b1:Nat
 it:cI
 t9:Nat
 c:CF
 l2:List CI
 d2:Nat
 ws:List Nat
def bT (m:cy) (ev:Ev) (e:Value×Value) (tm:T Value) (s:AS):Out:=
 Option.rec (motive:= λ_=>Out) .no (λaw=>iY m.b1 (gN (m.c ev) (js ev m.l2 lS (.cons m.d2 (.tuple #[e.1,e.2]) .nil) aw s))) (T.put (some (.bool true)) tm m.t9)
def iy (m:cy) (tm:T Value) (s:AS):Out:=Option.rec (motive:= λ_=>Out) .no (λaw=> .code (.exit m.b0) aw s) (T.put (some (.bool false)) tm m.t9)
def kC (ee:T Value) (o:Out):Bool:=match o with| .code .normal tm _=>pN ee tm|_=>false
def dK (m:cy) (ev:Ev) (tm:T Value) (s:AS) (es:List (Value×Value×Nat)):Option Out->Option (Option Out):=
 List.rec (motive:= λ_=>Option Out->Option (Option Out)) (λfound=>some found)
  (λe _ ih found=>
   match bT m ev (e.1,e.2.1) tm s with
   | .code .normal _ _=>ab (kC tm (bT m ev (e.1,e.2.1) tm ⟨s.h,s.nx,s.nx⟩)) (ih found) none
   | .code x aw s1=>match found with|none=>ih (some (.code x aw s1))|some _=>none
   |_=>none) es
def bS (r:Value->Option Value) (l:List Value):Option (List Value):=
 List.rec (motive:= λ_=>Option (List Value)) (some []) (λv _ ih=>ob (r v) λv'=>ob ih λl'=>some (v'::l')) l
def aD (φ:Nat->Option Nat) (n:Nat):Value->Option Value:=
 Nat.rec (motive:= λ_=>Value->Option Value) (λ_=>none) (λ_ ih v=>match v with
  | .bool b=>ab b (some (.bool true)) (some (.bool false))
  | .int k n=>ia k n
  | .string s=>some (.string s)
  | .complex k a b=>some (.complex k a b)
  | .pointer none=>some (.pointer none)
  | .pointer (some ⟨b,o,none⟩)=>ob (φ b) λb'=>aq o λo'=>some (.pointer (some ⟨b',o',none⟩))
  | .slice none 0 0=>some (.slice none 0 0)
  | .slice (some ⟨b,o,none⟩) m c=>ob (φ b) λb'=>aq o λo'=>aq m λm'=>aq c λc'=>some (.slice (some ⟨b',o',none⟩) m' c')
  | .map none=>some (.map none)
  | .map (some b)=>ob (φ b) λb'=>some (.map (some b'))
  | .func (.func f) a b=>ob (bS ih a.toList) λa'=>ob (bS ih b.toList) λb'=>some (.func (.func f) ⟨a'⟩ ⟨b'⟩)
  | .nilFunc=>some .nilFunc
  | .nilIface=>some .nilIface
  | .iface t x=>ob (ih x) λx'=>some (.iface t x')
  | .agg a=>ob (bS ih a.toList) λa'=>some (.agg ⟨a'⟩)
  | .tuple a=>ob (bS ih a.toList) λa'=>some (.tuple ⟨a'⟩)
  |_=>none) n
def bp (l:List Nat):Bool:=List.rec (motive:= λ_=>Bool) true (λx t ih=>ab (List.rec (motive:= λ_=>Bool) false (λy _ i=>ab (Nat.beq x y) true i) t) false ih) l
def pE (n:Nat) (l:List Nat):Bool:=List.rec (motive:= λ_=>Bool) true (λx _ ih=>ab (Nat.blt x n) ih false) l
def km (n:Nat) (l:List Nat):Bool:=List.rec (motive:= λ_=>Bool) true (λx _ ih=>ab (Nat.ble n x) ih false) l
def OR (a:T (List Value)):T (List Value)->Bool:=
 T.rec (motive:= λ_=>T (List Value)->Bool) (λb=>T.rec (motive:= λ_=>Bool) true (λ_ _ _ _ _=>false) b)
  (λv l r lZ uQ b=>T.rec (motive:= λ_=>Bool) false (λv' l' r' _ _=>ab (Option.rec (motive:= λ_=>Bool) (Option.rec (motive:= λ_=>Bool) true (λ_=>false) v') (λx=>Option.rec (motive:= λ_=>Bool) false (λy=>jT (jX 12) x y) v') v) (ab (lZ l') (uQ r') false) false) b) a
def Ht (a:List (Value×Value×Nat)):List (Value×Value×Nat)->Bool:=
 List.rec (motive:= λ_=>List (Value×Value×Nat)->Bool) (λb=>List.rec (motive:= λ_=>Bool) true (λ_ _ _=>false) b)
  (λp _ ih b=>List.rec (motive:= λ_=>Bool) false (λq b _=>ab (jX 12 p.1 q.1) (ab (jX 12 p.2.1 q.2.1) (ab (Nat.beq p.2.2 q.2.2) (ih b) false) false) false) b) a
def lM (a b:Blk):Bool:=
 match a,b with
 | .cells c sz n ro et,.cells c' jn n' Am uT=>ab (Nat.beq sz jn) (ab (Nat.beq n n') (ab (Nat.beq et uT) (ab (ab ro Am (dR Am)) (OR c c') false) false) false) false
 | .map kt es ck,.map ud bf ck'=>ab (Nat.beq kt ud) (ab (Nat.beq ck ck') (Ht es bf) false) false
 |_,_=>false
def An (N:Nat) (π:List (Nat×Nat)) (a:Nat):Option Nat:=
 ab (Nat.blt a N) (aq a λa=>some a) (List.rec (motive:= λ_=>Option Nat) none (λp _ ih=>ab (Nat.beq p.1 a) (some p.2) ih) π)
abbrev dz:=List (Nat×Nat)
def J7 (N a b:Nat) (l:dz):Option dz:=
 ab (Nat.blt a N) (some l) (List.rec (motive:= λ_=>Option dz) (aq a λa=>aq b λb=>some [(a,b)]) (λp t ih=>ab (Nat.beq p.1 a) (some (p::t)) (ob ih λr=>some (p::r))) l)
def yz (f:Value->Value->dz->Option dz) (x:List Value):List Value->dz->Option dz:=
 List.rec (motive:= λ_=>List Value->dz->Option dz) (λ_ l=>some l) (λv _ ih y l=>List.rec (motive:= λ_=>Option dz) (some l) (λu t _=>ob (f v u l) λl=>ih t l) y) x
def BT (N n:Nat):Value->Value->dz->Option dz:=
 Nat.rec (motive:= λ_=>Value->Value->dz->Option dz) (λ_ _ _=>none) (λ_ ih x y l=>match x,y with
  | .pointer (some a),.pointer (some b)=>J7 N a.block b.block l
  | .slice (some a) _ _,.slice (some b) _ _=>J7 N a.block b.block l
  | .map (some a),.map (some b)=>J7 N a b l
  | .func _ a b,.func _ c d=>ob (yz ih a.toList c.toList l) λl=>yz ih b.toList d.toList l
  | .iface _ a,.iface _ b=>ih a b l
  | .agg a,.agg b=>yz ih a.toList b.toList l
  | .tuple a,.tuple b=>yz ih a.toList b.toList l
  |_,_=>some l) n
def NS (f:Value->Value->dz->Option dz) (x y:Option (List Value)) (l:dz):Option dz:=
 Option.rec (motive:= λ_=>Option dz) (some l) (λx=>Option.rec (motive:= λ_=>Option dz) (some l) (λy=>yz f x y l) y) x
def NT (f:Value->Value->dz->Option dz) (a:T (List Value)):T (List Value)->dz->Option dz:=
 T.rec (motive:= λ_=>T (List Value)->dz->Option dz) (λ_ l=>some l) (λv _ _ lZ uQ b l=>T.rec (motive:= λ_=>Option dz) (some l) (λv' l' r' _ _=>ob (NS f v v' l) λl=>ob (lZ l' l) λl=>uQ r' l) b) a
def NU (f:Value->Value->dz->Option dz) (es bf:List an):dz->Option dz:=
 List.rec (motive:= λ_=>dz->Option dz) (λl=>some l) (λe _ ih l=>ob (pD e.1 es) λo=>Option.rec (motive:= λ_=>Option dz) none (λp=>ob (f p.1 e.2.1 l) ih) o) bf
def IY (f:Value->Value->dz->Option dz) (x y:Option Blk) (l:dz):Option dz:=match x,y with
 |some (.cells c _ _ _ _),some (.cells c' _ _ _ _)=>NT f c c' l
 |some (.map _ es _),some (.map _ bf _)=>NU f es bf l
 |_,_=>some l
def IZ (f:Value->Value->dz->Option dz) (g h:Hp) (n:Nat):Nat->dz->Option dz:=
 Nat.rec (motive:= λ_=>Nat->dz->Option dz) (λ_ l=>some l) (λ_ ih a l=>ob (IY f (g.get a) (h.get a) l) λl=>ih (Nat.succ a) l) n
def QO (i:Nat):dz->Option (Nat×Nat):=
 Nat.rec (motive:= λ_=>dz->Option (Nat×Nat)) (λl=>List.rec (motive:= λ_=>Option (Nat×Nat)) none (λx _ _=>some x) l)
  (λ_ ih l=>List.rec (motive:= λ_=>Option (Nat×Nat)) none (λ_ t _=>ih t) l) i
def I0 (f:Value->Value->dz->Option dz) (g h:Hp) (fuel:Nat):Nat->dz->Option dz:=
 Nat.rec (motive:= λ_=>Nat->dz->Option dz) (λ_ _=>none) (λ_ ih i l=>Option.rec (motive:= λ_=>Option dz) (some l) (λp=>ob (IY f (g.get p.1) (h.get p.2) l) λl=>ih (Nat.succ i) l) (QO i l)) fuel
def Se (φ:Nat->Option Nat) (x y:Option (List Value)):Bool:=
 Option.rec (motive:= λ_=>Bool) true (λy=>Option.rec (motive:= λ_=>Bool) false (λx=>Option.rec (motive:= λ_=>Bool) false (λx'=>jT (jX 12) x' y) (bS (aD φ 12) x)) x) y
def Lx (φ:Nat->Option Nat) (c':T (List Value)):T (List Value)->Bool:=
 T.rec (motive:= λ_=>T (List Value)->Bool) (λ_=>true) (λv' _ _ lZ uQ c=>T.rec (motive:= λ_=>Bool) (ab (Option.rec (motive:= λ_=>Bool) true (λ_=>false) v') (ab (lZ .e) (uQ .e) false) false) (λv l r _ _=>ab (Se φ v v') (ab (lZ l) (uQ r) false) false) c) c'
def yA (k:Value) (es:List an):Option (an×List an):=
 List.rec (motive:= λ_=>Option (an×List an)) none (λe t ih=>ab (jX 12 e.1 k) (some (e,t)) (ob ih λq=>some (q.1,e::q.2))) es
def J8 (φ:Nat->Option Nat) (p q:an):Bool:=
 ab (Option.rec (motive:= λ_=>Bool) false (λv'=>jX 12 v' q.2.1) (aD φ 12 p.2.1)) (ab (Nat.beq q.2.2 0) true (Nat.beq p.2.2 q.2.2)) false
def Fi (φ:Nat->Option Nat) (bf:List an):List an->Bool:=
 List.rec (motive:= λ_=>List an->Bool) (λes=>List.rec (motive:= λ_=>Bool) true (λ_ _ _=>false) es) (λe _ ih es=>Option.rec (motive:= λ_=>Bool) false (λq=>ab (J8 φ q.1 e) (ih q.2) false) (yA e.1 es)) bf
def Hu (φ:Nat->Option Nat) (x y:Blk):Bool:=match x,y with
 | .cells c sz n ro et,.cells c' jn n' Am uT=>ab (Nat.beq sz jn) (ab (Nat.beq n n') (ab (Nat.beq et uT) (ab (ab ro Am (dR Am)) (Lx φ c' c) false) false) false) false
 | .map kt es ck,.map ud bf ck'=>ab (Nat.beq kt ud) (ab (Nat.beq ck ck') (Fi φ bf es) false) false
 |_,_=>false
def ri (φ:Nat->Option Nat) (x y:Option Blk):Bool:=Option.rec (motive:= λ_=>Bool) true (λy=>Option.rec (motive:= λ_=>Bool) false (λx=>Hu φ x y) x) y
def J9 (φ:Nat->Option Nat) (f g:Hp) (n:Nat):Nat->Bool:=Nat.rec (motive:= λ_=>Nat->Bool) (λ_=>true) (λ_ ih a=>ab (ri φ (f.get a) (g.get a)) (ih (Nat.succ a)) false) n
def Ka (φ:Nat->Option Nat) (f g:Hp) (l:dz):Bool:=List.rec (motive:= λ_=>Bool) true (λp _ ih=>ab (ri φ (f.get p.1) (g.get p.2)) ih false) l
def CU (l:dz):List Nat:=List.rec (motive:= λ_=>List Nat) [] (λp _ ih=>p.1::ih) l
def CV (l:dz):List Nat:=List.rec (motive:= λ_=>List Nat) [] (λp _ ih=>p.2::ih) l
def hX (v:Value):Nat:=Value.rec (motive_1:= λ_=>Nat) (motive_2:= λ_=>Nat) (motive_3:= λ_=>Nat) (λb=>ab b 2 1) (λ_ n=>hI n) (λ_ _=>0) (λ_ _ _=>0) (λs=>hB s.data.toList) (λa=>Option.rec (motive:= λ_=>Nat) 3 (λa=>Nat.add (Nat.mul a.block 7) a.off) a) (λa n _=>Option.rec (motive:= λ_=>Nat) 4 (λa=>Nat.add (Nat.mul a.block 7) (Nat.add a.off (Nat.mul n 31))) a) (λa=>Option.rec (motive:= λ_=>Nat) 5 (λa=>Nat.mul a 11) a) (λ_=>0) (λ_ _ _ _ _=>0) 0 (λ_ _ n=>n) 0 (λ_ n=>n) (λ_ n=>n) (λ_ n=>n) 0 (λ_ _ a b=>Nat.add (Nat.mul b 1009) a) v
def Tj (l:List Value):Nat:=List.rec (motive:= λ_=>Nat) 7 (λv _ ih=>Nat.add (Nat.mul ih 1009) (hX v)) l
def Tk (c:T (List Value)):Nat:=T.rec (motive:= λ_=>Nat) 0 (λv _ _ a b=>Nat.add (Option.rec (motive:= λ_=>Nat) 0 (λl=>Tj l) v) (Nat.add (Nat.mul a 3) (Nat.mul b 5))) c
def Sf (es:List an):Nat:=List.rec (motive:= λ_=>Nat) 1 (λe _ ih=>Nat.add ih (Nat.add (Nat.mul (Nat.succ (hX e.1)) (Nat.add (hX e.2.1) 17)) 1)) es
def Js (b:Option Blk):Nat:=match b with|some (.cells c _ _ _ _)=>Tk c|some (.map _ es _)=>Sf es|some (.pmap _ es _)=>Sf es|_=>0
def BU (f h:Hp) (l:List Nat):Bool:=List.rec (motive:= λ_=>Bool) true (λa _ ih=>ab (Nat.beq (Js (f.get a)) (Js (h.get a))) false ih) l
def Fj (x y:Option Blk):Bool:=Option.rec (motive:= λ_=>Bool) (Option.rec (motive:= λ_=>Bool) true (λ_=>false) y) (λx=>Option.rec (motive:= λ_=>Bool) false (λy=>lM x y) y) x
def Af (h g:Hp) (n:Nat):Nat->Option (List Nat):=Nat.rec (motive:= λ_=>Nat->Option (List Nat)) (λ_=>some []) (λ_ ih a=>ob (ih (Nat.succ a)) λl=>ab (Fj (h.get a) (g.get a)) (some l) (aq a λa=>some (a::l))) n
def u6 (N L n wt:Nat) (h f g:Hp) (ch:List Nat) (π:dz):Bool:=
 ab (bp (CU π)) (ab (bp (CV π)) (ab (km N (CU π)) (ab (km N (CV π)) (ab (pE wt (CV π)) (ab (BU f h ch) (ab (J9 (An N π) f g n L) (Ka (An N π) f g π) false) false) false) false) false) false) false
def Ek (N L n wt:Nat) (h g:Hp) (ch:List Nat) (s:AS):Bool:=
 Option.rec (motive:= λ_=>Bool) false (λπ=>u6 N L n wt h s.h g ch π) (ob (IZ (BT N 12) s.h g n L []) λl=>I0 (BT N 12) s.h g 1000 0 l)
def iJ (m:cy) (ev:Ev) (tm:T Value) (e:an) (s:AS):Option AS:=
 match bT m ev (e.1,e.2.1) tm s with
 | .code .normal tm' s'=>ab (pN tm tm') (some s') none
 |_=>none
def fy (m:cy) (ev:Ev) (tm:T Value) (s:AS) (p:an):Bool:=kC tm (bT m ev (p.1,p.2.1) tm ⟨s.h,s.nx,s.nx⟩)
def I1 (e:an) (l:List (an×List an)):List (an×List an):=List.rec (motive:= λ_=>List (an×List an)) [] (λq _ ih=>(q.1,e::q.2)::ih) l
def Fk (l:List an):List (an×List an):=List.rec (motive:= λ_=>List (an×List an)) [] (λe t ih=>(e,t)::I1 e ih) l
def pO {α:Type} (f:α->Bool) (l:List α):Bool:=List.rec (motive:= λ_=>Bool) true (λx _ ih=>ab (f x) ih false) l
def Ly (m:cy) (ev:Ev) (tm:T Value) (N:List an) (leaf:AS->Bool) (n:Nat):List an->AS->Bool:=
 Nat.rec (motive:= λ_=>List an->AS->Bool) (λ_ s=>ab (pO (fy m ev tm s) N) (leaf s) false)
  (λ_ ih W s=>ab (pO (fy m ev tm s) N) (pO (λq=>Option.rec (motive:= λ_=>Bool) false (λs'=>ih q.2 s') (iJ m ev tm q.1 s)) (Fk W)) false) n
def K5 (m:cy) (ev:Ev) (tm:T Value) (W:List an):AS->Option AS:=List.rec (motive:= λ_=>AS->Option AS) (λs=>some s) (λe _ ih s=>ob (iJ m ev tm e s) ih) W
def ry (l:List Nat):AS->Option AS:=List.rec (motive:= λ_=>AS->Option AS) (λs=>some s) (λa _ ih s=>ob (s.set a none) ih) l
def Kb (b:Option Blk):Bool:=match b with|some (.cells ..)=>false|some (.map ..)=>false|none=>false|some _=>true
def CW (h:Hp) (n:Nat):Nat->Option (List Nat):=Nat.rec (motive:= λ_=>Nat->Option (List Nat)) (λ_=>some []) (λ_ ih a=>ob (ih (Nat.succ a)) λl=>ab (Kb (h.get a)) (aq a λa=>some (a::l)) (some l)) n
def m8 (h0:Hp) (l:List Nat):Hp->Option (Hp):=List.rec (motive:= λ_=>Hp->Option (Hp)) (λh=>some h) (λa _ ih h=>ob (Option.rec (motive:= λ_=>Option (Hp)) (Hp.put none h a) (λk=>Hp.put (some k) h a) (h0.get a)) ih) l
def NV (ck:Nat) (es:List an):Option (List an):=List.rec (motive:= λ_=>Option (List an)) (some []) (λe _ ih=>ob ih λr=>ab (Nat.ble e.2.2 ck) (some (e::r)) (some ((e.1,e.2.1,0)::r))) es
def I2 (x y:Option Blk):Option (Option Blk):=match x,y with
 |some (.map _ _ Sg),some (.map kt es ck)=>ab (Nat.beq ck Sg) (some (some (.map kt es ck))) (ob (NV Sg es) λbf=>some (some (.map kt bf ck)))
 |_,y=>some y
def Hv (h0 f:Hp) (n:Nat):Nat->Hp->Option (Hp):=Nat.rec (motive:= λ_=>Nat->Hp->Option (Hp)) (λ_ h=>some h) (λ_ ih a h=>ob (I2 (h0.get a) (f.get a)) λb=>ob (Option.rec (motive:= λ_=>Option (Hp)) (Hp.put none h a) (λk=>Hp.put (some k) h a) b) λh'=>ih (Nat.succ a) h') n
def oI (f:an->Bool) (es:List an):Option (List an×List an):=List.rec (motive:= λ_=>Option (List an×List an)) (some ([],[])) (λe _ ih=>ob ih λq=>ab (f e) (some (e::q.1,q.2)) (some (q.1,e::q.2))) es
def u7 (m:cy) (ev:Ev) (tm:T Value) (s1:AS) (mb:Nat) (es:List an) (L:Nat):Option AS:=
 ab (ab (Nat.ble s1.lim L) (Nat.ble L s1.nx) false) (aq (Nat.sub s1.nx L) λn=>ob (CW s1.h n L) λod=>ob (ry (mb::od) s1) λs2=>
  ob (oI (fy m ev tm ⟨s2.h,s2.nx,L⟩) es) λq=>ob (K5 m ev tm q.2 ⟨s2.h,s2.nx,L⟩) λf1=>ob (Hv s2.h f1.h (Nat.sub f1.nx L) L s2.h) λg=>ob (Af s2.h g n L) λch=>
   ab (Nat.ble s1.nx f1.nx) (ab (Ly m ev tm q.1 (Ek s1.nx L n f1.nx s2.h g ch) (len q.2) q.2 ⟨s2.h,s2.nx,L⟩)
    (ob (m8 s1.h (mb::od) g) λh=>aq f1.nx λnx=>aq s1.lim λlm=>some ⟨h,nx,lm⟩) none) none) none
structure WD where
 e:an
 i:Nat
 k:Value
 v:Value
 v':Value
 n:Nat
 own:List Nat
 S:AS
 R:AS
def El (a:Nat) (l:List Nat):Bool:=List.rec (motive:= λ_=>Bool) false (λx _ ih=>ab (Nat.beq x a) true ih) l
def Em (l m:List Nat):Bool:=List.rec (motive:= λ_=>Bool) true (λx _ ih=>ab (El x m) ih false) l
def Fl (a:Nat) (l:List Nat):List Nat:=List.rec (motive:= λ_=>List Nat) [] (λx _ ih=>ab (Nat.beq x a) ih (x::ih)) l
def H9 (l m:List Nat):Option Nat:=List.rec (motive:= λ_=>Option Nat) none (λx _ ih=>ab (El x m) (aq x λx=>some x) ih) l
def NW (es:List an):List an->Nat->Option (Nat×an):=
 List.rec (motive:= λ_=>List an->Nat->Option (Nat×an)) (λ_ _=>none) (λp _ ih fs i=>List.rec (motive:= λ_=>Option (Nat×an)) none (λq fs _=>ab (jX 12 p.2.1 q.2.1) (ih fs (Nat.succ i)) (aq i λi=>some (i,p))) fs) es
def NX (m:cy) (ev:Ev) (tm:T Value) (s2:AS) (n L:Nat) (W:List an):Option (List (an×List Nat×AS)):=
 List.rec (motive:= λ_=>Option (List (an×List Nat×AS))) (some []) (λe _ ih=>ob (iJ m ev tm e s2) λs'=>ob (Af s2.h s'.h n L) λch=>ob ih λr=>some ((e,ch,s')::r)) W
def wI (m:Nat) (l:List (an×List Nat×AS)):List Nat:=List.rec (motive:= λ_=>List Nat) [] (λp _ ih=>app (Fl m p.2.1) ih) l
def QP (R:AS) (m:Nat):Option Value:=match R.h.get m with|some (.pmap _ [(_,v',_)] _)=>some v'|_=>none
def En (m:cy) (ev:Ev) (tm:T Value) (h2:Hp) (sB:AS) (mm kt ck:Nat) (es:List an) (p:an×List Nat×AS):Option WD:=
 ob (mapOf (p.2.2.h.get mm) λ_ fs _=>NW es fs 0) λq=>ob (m8 h2 (Fl mm p.2.1) sB.h) λh=>ob (Hp.put (some (.pmap kt [q.2] ck)) h mm) λh=>ob (iJ m ev tm p.1 ⟨h,sB.nx,sB.lim⟩) λR=>ob (QP R mm) λv'=>some ⟨p.1,q.1,q.2.1,q.2.2.1,v',q.2.2.2,Fl mm p.2.1,⟨h,sB.nx,sB.lim⟩,R⟩
def BV (m:cy) (ev:Ev) (tm:T Value) (h2:Hp) (sB:AS) (mm kt ck:Nat) (es:List an) (l:List (an×List Nat×AS)):Option (List WD):=
 List.rec (motive:= λ_=>Option (List WD)) (some []) (λp _ ih=>ob (En m ev tm h2 sB mm kt ck es p) λd=>ob ih λr=>some (d::r)) l
def iK (b:Option Blk):Bool:=match b with|some (.cells _ _ _ false _)=>true|some (.map ..)=>true|_=>false
def Fm (N:Nat) (h2 g:Hp) (l:List Nat):Bool:=List.rec (motive:= λ_=>Bool) true (λa _ ih=>ab (ab (iK (h2.get a)) (ab (iK (g.get a)) (ri (An N []) (g.get a) (g.get a)) false) false) ih false) l
def Hw (kt ck:Nat) (k v:Value) (n:Nat) (b:Option Blk):Bool:=match b with
 |some (.pmap ud [(k',v',n')] ck')=>ab (Nat.beq kt ud) (ab (Nat.beq ck ck') (ab (jX 12 k k') (ab (jX 12 v v') (Nat.beq n n') false) false) false) false
 |_=>false
def I3 (es:List an) (i:Nat) (k v:Value) (n:Nat):Bool:=Option.rec (motive:= λ_=>Bool) false (λp=>ab (jX 12 p.1 k) (ab (jX 12 p.2.1 v) (Nat.beq p.2.2 n) false) false) (Nat.rec (motive:= λ_=>List an->Option an) (λl=>List.rec (motive:= λ_=>Option an) none (λx _ _=>some x) l)
 (λ_ ih l=>List.rec (motive:= λ_=>Option an) none (λ_ t _=>ih t) l) i es)
def CX (m:cy) (ev:Ev) (tm:T Value) (N n L:Nat) (h2:Hp) (sB:AS) (mm kt ck:Nat) (es:List an) (d:WD):Bool:=
 ab (I3 es d.i d.k d.v d.n) (ab (Hw kt ck d.k d.v d.n (d.S.h.get mm)) (ab (Hw kt ck d.k d.v' d.n (d.R.h.get mm))
  (ab (Option.rec (motive:= λ_=>Bool) false (λu=>jX 12 u d.v') (aD (An N []) 12 d.v'))
  (ab (Fm N h2 d.R.h d.own) (ab (BU d.R.h d.S.h (mm::d.own)) (Option.rec (motive:= λ_=>Bool) false (λch=>Em ch (mm::d.own)) (Af d.S.h d.R.h n L)) false) false) false) false) false) false
def Eo (l:List WD):List Nat:=List.rec (motive:= λ_=>List Nat) [] (λd _ ih=>d.i::ih) l
def cg (l:List WD):List Nat:=List.rec (motive:= λ_=>List Nat) [] (λd _ ih=>app d.own ih) l
def findD (l:List WD) (i:Nat):Option an:=List.rec (motive:= λ_=>Option an) none (λd _ ih=>ab (Nat.beq d.i i) (some (d.k,d.v',d.n)) ih) l
def Ep (l:List WD) (es:List an):Nat->Option (List an):=List.rec (motive:= λ_=>Nat->Option (List an)) (λ_=>some []) (λp _ ih i=>ob (ih (Nat.succ i)) λr=>Option.rec (motive:= λ_=>Option (List an)) (some (p::r)) (λq=>some (q::r)) (findD l i)) es
def Hx (l:List WD):Hp->Option (Hp):=List.rec (motive:= λ_=>Hp->Option (Hp)) (λh=>some h) (λd _ ih h=>ob (m8 d.R.h d.own h) ih) l
def rz (l:List WD):List an:=List.rec (motive:= λ_=>List an) [] (λd _ ih=>d.e::ih) l
def K6 (a:List an):List an->Bool:= λb=>Ht a b
def va (m:cy) (ev:Ev) (tm:T Value) (s1:AS) (mb:Nat) (es:List an) (L:Nat):Option AS:=
 ab (ab (Nat.ble s1.lim L) (Nat.ble L s1.nx) false) (aq (Nat.sub s1.nx L) λn=>ob (CW s1.h n L) λod=>ob (ry (mb::od) s1) λs2=>
  ob (oI (fy m ev tm ⟨s2.h,s2.nx,L⟩) es) λq=>ob (NX m ev tm ⟨s2.h,s2.nx,L⟩ n L q.2) λfs=>
   ob (match fs with|a::b::_=>H9 a.2.1 b.2.1|_=>none) λmm=>mapOf (s2.h.get mm) λkt me ck=>
    ob (ry (mm::wI mm fs) ⟨s2.h,s2.nx,s1.lim⟩) λG4=>(λsB=>ob (BV m ev tm s2.h sB mm kt ck me fs) λws=>ob (Ep ws me 0) λIw=>
     ab (ab (bp (Eo ws)) (ab (bp (mm::cg ws)) (ab (K6 (rz ws) q.2) (ab (ab (Em (wI mm fs) (cg ws)) (Em (cg ws) (wI mm fs)) false) (ab (km L (mm::cg ws)) (pE s1.nx (mm::cg ws)) false) false) false) false) false)
      (ab (pO (CX m ev tm s1.nx n L s2.h sB mm kt ck me) ws) (ab (pO (fy m ev tm sB) q.1)
       (ob (Hx ws s2.h) λh=>ob (Hp.put (some (.map kt Iw ck)) h mm) λh=>ob (m8 s1.h (mb::od) h) λh=>aq s1.nx λnx=>aq s1.lim λlm=>some ⟨h,nx,lm⟩) none) none) none) ⟨G4.h,G4.nx,L⟩) none
def Lz (a b:Option AS):Option AS:=Option.rec (motive:= λ_=>Option AS) b (λs=>some s) a
def oJ (m:cy) (ev:Ev) (tm:T Value) (s1:AS) (mb:Nat) (es:List an) (ks:List Nat):Option AS:=
 List.rec (motive:= λ_=>Option AS) none (λk _ ih=>Lz (aq (Nat.max s1.lim (Nat.sub s1.nx k)) λL=>u7 m ev tm s1 mb es L) ih) ks
def oK (m:cy) (ev:Ev) (tm:T Value) (s1:AS) (mb:Nat) (es:List an) (ks:List Nat):Option AS:=
 List.rec (motive:= λ_=>Option AS) none (λk _ ih=>Lz (aq (Nat.max s1.lim (Nat.sub s1.nx k)) λL=>va m ev tm s1 mb es L) ih) ks
def M7 (m:cy) (ev:Ev) (tm:T Value) (s1:AS) (r:Option Nat) (es:List an):Out:=
 Option.rec (motive:= λ_=>Out) .no (λmb=>Option.rec (motive:= λ_=>Out) .no (λs2=>iy m tm s2) (Lz (oK m ev tm s1 mb es [256,1024,4096]) (oJ m ev tm s1 mb es [64,256,1024,2048,4096,16384,1000000]))) r
def nj (m:cy) (ev:Ev) (tm:T Value) (s1:AS) (r:Option Nat) (es:List an) (o:Option (Option Out)):Out:=
 Option.rec (motive:= λ_=>Out) (M7 m ev tm s1 r es) (λo=>Option.rec (motive:= λ_=>Out) (iy m tm s1) (λo=>o) o) o
def Gf (m:cy):CF:= λev tm s=>
 Option.rec (motive:= λ_=>Out) .no (λee=>match m.it .nil ee with
  |some (.pointer (some ⟨ib,0,none⟩))=>lz (s.h.get ib) λr ck=>Option.rec (motive:= λ_=>Out) .no (λes=>Option.rec (motive:= λ_=>Out) .no (λs1=>nj m ev ee s1 r es (dK m ev ee s1 es none)) (s.set ib none)) (rJ s r ck)
  |_=> .no) (yy m.ws tm)
def Cr (c:Code):List Nat:=
 Code.rec (motive:= λ_=>List Nat) [] (λ_ ops _=>ops.toList.filterMap λo=>o.dst) (λ_ _ a b=>app a b) (λ_ _ _ a b=>app a b) (λ_ _ a=>a) (λ_ a=>a) (λ_ _ _ _ _ _=> []) (λ_=> []) (λ_ a=>a) (λ_=> []) (λ_=> []) [] (λ_=> []) c
def FT (aa:Nat) (l:List Nat):List Nat:=l.filter λt=>kept aa t
def nk (c:Code) (tm:T Value) (s:AS):Out:=
 match c with
 | .ret=> .code .ret tm s
 | .exit id=> .code (.exit id) tm s
 |_=> .no
def kr (b:Option Blk) (k:LoopState->Option Code->Nat->Nat->Nat->T Value->List Tmp->Code->Code->Out):Out:=
 Option.rec (motive:= λ_=>Out) .no (λb=>Blk.rec (motive:= λ_=>Out) (λ_ _ _ _ _=> .no) (λ_ _ _=> .no) (λ_ _=> .no) (λ_ _=> .no) k (λ_ _ _=> .no) b) b
def eV (s:AS) (i:Nat) (b:Blk) (k:AS->Out):Out:=Option.rec (motive:= λ_=>Out) .no k (s.set i (some b))
def lA (l:Nat) (tm:T Value) (o:Out):Out:=
 Out.rec (motive:= λ_=>Out) .no (λ_ _ _=> .no) (λ_ s2=>kr (s2.h.get l) λst fU fn' PC PD tm' Cc PE PF=>
  match st with
  | .busy=> .no
  |_=>eV s2 l (.loop .exhausted fU fn' PC PD tm' Cc PE PF) λs3=>match fU with
   |none=> .code .normal tm s3
   |some c=>nk c tm s3) o
def lr (P:Program) (v:Value):Bool:=
 match v with
 | .func (.func f) _ _=>(match P.funcs[f]? with|some fn=>(match fn.body with|some _=>true|none=>false)|none=>false)
 |_=>false
def mr (P:Program) (fn nt aa:Nat) (f:cI) (ps:List Tmp) (assign body:Code):CF:= λev tm s=>
 Option.rec (motive:= λ_=>Out) .no (λfv=>ab (lr P fv) (Option.rec (motive:= λ_=>Out) .no
  (λs1=>lA s.nx tm (ev fv [.func (.yield s.nx) #[] #[]] s1)) (s.new (.loop .ready none fn nt aa tm ps assign body))) .no) (f .nil tm)
structure wJ where
 it:Nat
 t9:Nat
 b0:Nat
 b1:Nat
 d1:Nat
 d2:Nat
 r2:List Oper
 t2:List Oper
 body:Code
def FU (l:List Oper):Option (Nat×Nat×Nat):=
 match l with
 | [o,p]=>(match o.guard,o.dst,o.op,p.guard,p.dst,p.op with|none,some d,.next (.tmp it) false,none,some t9,.extract (.tmp d') 0=>ab (Nat.beq d d') (some (d,it,t9)) none|_,_,_,_,_,_=>none)
 |_=>none
def Cs (l:List Oper):Option (Nat×Nat×List Oper):=
 match l with
 |o::t=>(match o.guard,o.dst,o.op with|none,some d,.entry (.tmp it)=>some (d,it,t)|_,_,_=>none)
 | []=>none
def kD (c:Code):Option wJ:=
 match c with
 | .seq (.region _ r1 false) (.seq (.cond (.tmp t) .skip (.exit b0)) (.block b1 (.seq (.region _ r2 false) body)))=>
   (match FU r1.toList,Cs r2.toList with
   |some (d1,it,t9),some (d2,Sh,t2)=>ab (Nat.beq it Sh) (ab (Nat.beq t t9) (some ⟨it,t9,b0,b1,d1,d2,r2.toList,t2,body⟩) none) none
   |_,_=>none)
 |_=>none
def lB (P:Program) (nt aa:Nat) (k:Code->Option CF) (ws:List Nat) (m:wJ):Option CF:=
 ab (ab (kept aa m.d1) true (kept aa m.d2)) none (ab (ab (Nat.blt m.d1 nt) (ab (Nat.blt m.d2 nt) (ab (Nat.blt m.t9 nt) (ab (kept aa m.t9) (ab (kept aa m.it) (dR (Nat.beq m.it m.t9)) false) false) false) false) false)
  (ob (dC P aa nt m.r2 m.t2 []) λl2=>ob (k m.body) λc=>some (Gf ⟨m.b0,m.b1,OP m.it,m.t9,c,l2,m.d2,FT aa ws⟩)) none)
def Kc (a b:Option CF):Option CF:=match a with|some f=>some f|none=>b
def Kd (o:Option CF):Option CF:=match o with|some f=>some f|none=>some (λ_ _ _=> .no)
def fN (P:Program) (fn nt aa:Nat) (n:Nat):Code->Option CF:=
 Nat.rec (motive:= λ_=>Code->Option CF) (λ_=>none) (λ_ k c=>
  Code.rec (motive:= λ_=>Option CF)
   (some (tZ .normal)) (λ_ ops draw=>Kd (ab draw (Kc (rG P aa nt ops.toList kq) (ni P aa nt ops.toList)) (ob (dC P aa nt ops.toList ops.toList []) BS)))
   (λa b _ _=>ob (k a) λa=>ob (k b) λb=>some (Ej a b))
   (λc a b _ _=>ob (bA aa [] c) λc=>ob (k a) λa=>ob (k b) λb=>some (yx c a b))
   (λid a _=>ob (k a) λa=>some (rH id a))
   (λa _=>match kD a with
    |some m=>lB P nt aa k (Cr a) m
    |none=>ob (k a) λa=>some (Fh a))
   (λf ps Lv bd _ _=>ob (bA aa [] f) λf=>ab (tX (λp=>Nat.blt p nt) ps.toList) (some (mr P fn nt aa f ps.toList Lv bd)) none)
   (λid=>some (tZ (.exit id))) (λa _=>ob (k a) λa=>some (rI a)) (λ_=>some (tZ .normal)) (λl=>some (tZ (.goto l))) (some (tZ .ret)) (λ_=>some (λ_ _ _=> .no)) c) n
def cG (P:Program) (fn nt aa:Nat) (c:Code):Option CF:=fN P fn nt aa 1000 c
def nF (c:Nat) (l:List UInt8):Nat->Int:=List.rec (motive:= λ_=>Nat->Int) (λ_=> .negSucc 0) (λb _ ih i=>ab (Nat.beq b.toNat c) (.ofNat i) (ih (Nat.succ i))) l
def gm (o:Option (Value×AS)):Out:=Option.rec (motive:= λ_=>Out) .no (λp=> .val p.1 p.2) o
def vk (c:T (List Value)) (i:Nat):Bool:=Option.rec (motive:= λ_=>Bool) false (λl=>List.rec (motive:= λ_=>Bool) false (λ_ _ _=>true) l) (c.get i)
def FV (h:Hp) (et a b o:Nat):Bool:=
 match h.get a,h.get b with
 |some (.cells _ _ _ false e),some (.cells c sz _ false _)=>ab (Nat.beq e et) (ab (Nat.beq sz 1) (vk c o) false) false
 |_,_=>false
def CY (s:AS) (e:Ext) (l:List Value):Option (Value×AS):=
 match e,l with
 | .same,[x]=>some (x,s)
 | .cmp,[.string a,.string b]=>some (.int .i64 (ab (D2 a.data.toList b.data.toList) (.negSucc 0) (ab (DZ a.data.toList b.data.toList) (.ofNat 0) (.ofNat 1))),s)
 | .makeNoZero et,[.int .i64 (.ofNat n)]=>ab (Nat.ble n 1000000) (ob (wa [.complex .f32 0 0] n) λels=>gJ s et 1 els n) none
 | .overlaps et,[.slice (some ⟨a,_,none⟩) n _,.slice (some ⟨b,o,none⟩) m _]=>ab (ab (Nat.beq a b) true (ab (Nat.beq n 0) true (Nat.beq m 0))) none (ab (FV s.h et a b o) (some (.bool false,s)) none)
 | .indexByteString,[.string a,.int .u8 c]=>ob (jQ c) λc=>ab (Nat.blt c 256) (ob (ia .i64 (nF c a.data.toList 0)) λv=>some (v,s)) none
 |_,_=>none
def AP (es:List (Value×Value×Nat)):List (Value×Value×Nat)->Option (List (Value×Value×Nat)):=
 List.rec (motive:= λ_=>List (Value×Value×Nat)->Option (List (Value×Value×Nat))) (λd=>some d) (λe _ ih d=>ob (vZ e.1 e.2.1 0 d) ih) es
def Er (x:Int) (l:List Int):List Int:=List.rec (motive:= λ_=>List Int) [x] (λy l ih=>ab (wo y x) (y::ih) (x::y::l)) l
def pF (l:List Int):List Int:=List.rec (motive:= λ_=>List Int) [] (λx _ ih=>Er x ih) l
def LA (n:Int):Bool:=Int.rec (motive:= λ_=>Bool) (λm=>Nat.blt m 9223372036854775808) (λm=>Nat.blt m 9223372036854775808) n
def BW (es:List (Value×Value×Nat)):Option (List Int):=
 List.rec (motive:= λ_=>Option (List Int)) (some []) (λe _ ih=>match e.1 with| .int k n=>ab (ab (tF k .i64) (LA n) false) (ob ih λl=>some (n::l)) none|_=>none) es
def rK (l:List Int):List (List Value):=List.rec (motive:= λ_=>List (List Value)) [] (λn _ ih=> [.int .i64 n]::ih) l
def sortedA (s:AS) (et:TypeId) (es:List (Value×Value×Nat)):Option (Value×AS):=
 match es with
 | []=>some (.slice none 0 0,s)
 |e::es=>ab (Nat.ble (len (e::es)) 1000000) (ob (BW (e::es)) λl=>gJ s et 1 (rK (pF l)) (len (e::es))) none
def im (s:AS) (e:Sum) (l:List Value):Option (Value×AS):=
 match e,l with
 | .copy _,[.map (some _),.map none]=>some (.tuple #[],s)
 | .copy ud,[.map (some d),.map (some r)]=>ab (Nat.beq d r) none (mapOf (s.h.get r) λkt es _=>ab (Nat.beq kt ud) (mapOf (s.h.get d) λkt bf ck=>ab (Nat.beq kt ud) (ob (AP es bf) λfQ=>aq (Nat.add ck (Nat.sub (len fQ) (len bf))) λck'=>ob (s.set d (some (.map kt fQ ck'))) λs'=>some (.tuple #[],s')) none) none)
 | .sorted g et kt,[.func (.func f) a b]=>ab (Nat.beq f g) (match a.toList,b.toList with
   | [],[.pointer (some ⟨p,0,none⟩)]=>ob (uV s p 0 1) λv=>(match v with
    | [.map none]=>some (.slice none 0 0,s)
    | [.map (some r)]=>mapOf (s.h.get r) λud es _=>ab (Nat.beq ud kt) (sortedA s et es) none
    |_=>none)
   |_,_=>none) none
 | .BR _ _,[.nilIface,_]=>some (.bool false,s)
 | .BR te tp,[.iface t (.pointer (some e)),.iface u (.pointer (some a))]=>ab (Nat.beq t te) (ab (Nat.beq u tp) (ob (iH s a.block a.off [.pointer (some e)]) λs'=>some (.bool true,s')) none) none
 |_,_=>none
def Si (a b:Option (Value×AS)):Option (Value×AS):=Option.rec (motive:= λ_=>Option (Value×AS)) b (λp=>some p) a
def we (s:AS) (e:Sum) (l:List Value):Option (Value×AS):=Sum.rec (motive:= λ_=>Option (Value×AS)) (λk=>im s (.copy k) l) (λg t k=>im s (.sorted g t k) l) (λt u=>im s (.BR t u) l) (λ_ _ _ _=>none) (λa _ _ ih=>Si (im s a l) ih) e
def qK (f:Nat) (l:List (Nat×Sum)):Option Sum:=List.rec (motive:= λ_=>Option Sum) none (λp _ ih=>ab (Nat.beq f p.1) (some p.2) ih) l
def qL (f:Nat) (l:List (Nat×Ext)):Option Ext:=List.rec (motive:= λ_=>Option Ext) none (λp _ ih=>ab (Nat.beq f p.1) (some p.2) ih) l
def nq (aa i:Nat) (v:Value) (t:T Value):Option (T Value):=ab (kept aa i) (T.put (some v) t i) (some t)
def gu (aa:Nat) (l:List Value):Nat->T Value->Option (T Value):=
 List.rec (motive:= λ_=>Nat->T Value->Option (T Value)) (λ_ t=>some t) (λv _ ih i t=>ob (nq aa i v t) λt'=>ih (Nat.succ i) t') l
def nr (P:Program) (s:AS) (tm:T Value) (r:ResultVar):Option Value:=
 match r with
 | .tmp t=>tm.get t
 | .cell a t=>ob (tm.get a) λa=>uY P t s a
def cX (P:Program) (s:AS) (tm:T Value) (l:List ResultVar):Option (List Value):=
 List.rec (motive:= λ_=>Option (List Value)) (some []) (λr _ ih=>ob (nr P s tm r) λv=>ob ih λl=>some (v::l)) l
def jb (aa:Nat) (ps:List Tmp):List Value->T Value->Option (T Value):=
 List.rec (motive:= λ_=>List Value->T Value->Option (T Value)) (λl t=>match l with| []=>some t|_=>none) (λp _ ih l t=>match l with|v::l=>ob (nq aa p v t) λt'=>ih l t'| []=>none) ps
def eW (P:Program) (rs:List ResultVar) (tm:T Value) (s:AS):Out:=
 Option.rec (motive:= λ_=>Out) .no (λvs=>match vs with
  | [v]=> .val v s
  |vs=> .val (.tuple ⟨vs⟩) s) (cX P s tm rs)
def oU (P:Program) (rs:List ResultVar) (o:Out):Out:=
 Out.rec (motive:= λ_=>Out) .no (λx tm s=>cm.rec (motive:= λ_=>Out) (eW P rs tm s) (λ_=> .no) (λ_=> .no) (eW P rs tm s) x) (λ_ _=> .no) o
abbrev FF:=Ev->List Value->AS->Out
def L3 (P:Program) (aa:Nat) (t0:T Value) (rs:List ResultVar) (b:CF):FF:= λev args s=>Option.rec (motive:= λ_=>Out) .no (λtm=>oU P rs (b ev tm s)) (gu aa args 0 t0)
abbrev BL:=List (Nat×Blk)
def pP (x:Option Blk) (h:Hp) (k:Nat):Hp:=Option.rec (motive:= λ_=>Hp) h (λh=>h) (Hp.put x h k)
def ofL (l:BL):Hp:=List.rec (motive:= λ_=>Hp) Hp.emp (λp _ ih=>pP (some p.2) ih p.1) l
def Es (l:BL) (h:Hp):Bool:=List.rec (motive:= λ_=>Bool) true (λp _ ih=>ab (Option.rec (motive:= λ_=>Bool) false (λk=>lM p.2 k) (h.get p.1)) ih false) l
def Hy (l:BL):Bool:=List.rec (motive:= λ_=>Bool) true (λp _ ih=>ab (match p.2 with| .cells _ _ _ ro _=>dR ro| .map .. =>true|_=>false) ih false) l
def Ke (l:List Nat) (h:Hp):Option Hp:=List.rec (motive:= λ_=>Option Hp) (some h) (λa _ ih=>ob ih λh=>Hp.put none h a) l
def Kf (l:BL) (o:Option Hp):Option Hp:=List.rec (motive:= λ_=>Option Hp) o (λp _ ih=>ob ih λh=>Hp.put (some p.2) h p.1) l
def yc (add:BL) (del:List Nat) (h:Hp):Option Hp:=Kf add (Ke del h)
def Hz (l:List Nat) (h:Hp):Hp:=List.rec (motive:= λ_=>Hp) h (λa _ ih=>pP none ih a) l
def Et (l:BL) (h:Hp):Hp:=List.rec (motive:= λ_=>Hp) h (λp _ ih=>pP (some p.2) ih p.1) l
def Ag (add:BL) (del:List Nat) (h:Hp):Hp:=Et add (Hz del h)
def Fo (add:BL) (del:List Nat):Hp:=Et add (List.rec (motive:= λ_=>Hp) Hp.emp (λa _ ih=>pP (some (.mapIter none 0)) ih a) del)
def Fp (l:BL) (sk h:Hp):Bool:=List.rec (motive:= λ_=>Bool) true (λp _ ih=>Bool.rec (motive:= λ_=>Bool) false ih (Option.rec (motive:= λ_=>Bool) (Option.rec (motive:= λ_=>Bool) false (λk=>lM p.2 k) (h.get p.1)) (λ_=>true) (sk.get p.1))) l
def Kg (hin add:BL) (del:List Nat) (h:Hp):Bool:=ab (Es add h) (Fp hin (Fo add del) h) false
def nG (e:Entry) (args:List Value) (s:AS):Bool:=
 ab (Nat.beq e.nx s.nx) (ab (Nat.beq s.lim 0) (ab (jT (jX 12) e.args args) (ab (Hy e.hin) (Es e.hin s.h) false) false) false) false
def rW (e:Entry) (s:AS):Out:=Option.rec (motive:= λ_=>Out) .no (λh=> .val e.v ⟨h,e.wq,0⟩) (yc e.add e.del s.h)
def jt (f:Nat) (l:List Entry):List Entry:=List.rec (motive:= λ_=>List Entry) [] (λe _ ih=>ab (Nat.beq e.f f) (e::ih) ih) l
def pG (es:List Entry) (F:FF):FF:=List.rec (motive:= λ_=>FF) F (λe _ ih ev args s=>ab (nG e args s) (rW e s) (ih ev args s)) es
def outIs (e:Entry) (o:Out):Bool:=Out.rec (motive:= λ_=>Bool) false (λ_ _ _=>false) (λv s=>ab (jX 12 e.v v) (ab (Nat.beq s.nx e.wq) (ab (Nat.beq s.lim 0) (Kg e.hin e.add e.del s.h) false) false) false) o
def wK (a:Nat) (v:Value) (s:AS):Out:=match v with| .pointer p=>gm (ob (iH s a 0 [.pointer p]) λs3=>some (.pointer p,s3))|_=> .no
def FW (ev:Ev) (tY a:Nat) (v:Value) (s:AS):Out:=Out.rec (motive:= λ_=>Out) .no (λ_ _ _=> .no) (λv s=>wK a v s) (ev (.func (.func tY) #[] #[]) [v] s)
def FX (ev:Ev) (fill tY sm a:Nat) (l x:Value) (s:AS):Out:=Out.rec (motive:= λ_=>Out) .no (λ_ _ _=> .no) (λv s=>FW ev tY a v s) (ev (.func (.func fill) #[] #[]) [l,.func (.func sm) #[] #[],x] s)
def Ct (fill tY sm t:Nat):FF:= λev args s=>match args with
 | [l,x]=>Option.rec (motive:= λ_=>Out) .no (λs0=>FX ev fill tY sm s.nx l x s0) (s.new (.cells (.n (some [.pointer none]) .e .e) 1 1 false t))
 |_=> .no
def BX (e:Sum):FF:=Sum.rec (motive:= λ_=>FF) (λk _ args s=>gm (we s (.copy k) args)) (λg t k _ args s=>gm (we s (.sorted g t k) args)) (λt u _ args s=>gm (we s (.BR t u) args)) (λa b c t=>Ct a b c t) (λa b _ _ _ args s=>gm (we s (.alt a b) args)) e
def mkFn (P:Program) (X:Cfg) (f:Nat):Option FF:=
 match qK f X.sum with
 |some e=>some (BX e)
 |none=>match P.funcs[f]? with
  |some fn=>match fn.body with
   |some body=>ob (mkT fn.ntmps) λt0=>ob (cG P f fn.ntmps (fw X f) body) λb=>some (pG (jt f X.tab) (L3 P (fw X f) t0 fn.results.toList b))
   |none=>ob (qL f X.ext) λe=>some (λ_ args s=>gm (CY s e args))
  |none=>none
def K7 (P:Program) (X:Cfg) (ev:Ev) (f:Nat) (args:List Value) (s:AS):Out:=
 Option.rec (motive:= λ_=>Out) .no (λF=>F ev args s) (mkFn P X f)
def endRound (l:Nat) (o:Out):Out:=
 Out.rec (motive:= λ_=>Out) .no (λx _ s4=>kr (s4.h.get l) λ_ _ fn nt kp tm ps assign body=>match x with
   | .normal=>eV s4 l (.loop .ready none fn nt kp tm ps assign body) λs5=> .val (.bool true) s5
   | .ret=>eV s4 l (.loop .done (some .ret) fn nt kp tm ps assign body) λs5=> .val (.bool false) s5
   | .exit id=>eV s4 l (.loop .done (some (.exit id)) fn nt kp tm ps assign body) λs5=> .val (.bool false) s5
   | .goto _=> .no) (λ_ _=> .no) o
def eX (ev:Ev) (o:Option CF) (tm:T Value) (s:AS):Out:=Option.rec (motive:= λ_=>Out) .no (λF=>F ev tm s) o
def beginRound (ev:Ev) (l:Nat) (b:Option CF) (o:Out):Out:=
 Out.rec (motive:= λ_=>Out) .no (λx oO s2=>match x with
  | .normal=>kr (s2.h.get l) λst fU fn nt kp tm ps assign body=>match st with
   | .ready=>eV s2 l (.loop .busy fU fn nt kp tm ps assign body) λs3=>endRound l (eX ev b oO s3)
   |_=> .no
  |_=> .no) (λ_ _=> .no) o
def oV (P:Program) (ev:Ev) (l:Nat) (args:List Value) (s:AS):Out:=
 kr (s.h.get l) λst _ fn nt kp tm ps assign body=>match st with
  | .ready=>Option.rec (motive:= λ_=>Out) .no (λaw=>beginRound ev l (cG P fn nt kp body) (eX ev (cG P fn nt kp assign) aw s)) (jb kp ps args tm)
  |_=> .no
def step (P:Program) (X:Cfg) (ev:Ev) (f:Value) (args:List Value) (s:AS):Out:=
 match f with
 | .func (.func f) first cap=>K7 P X ev f (app first.toList (app args cap.toList)) s
 | .func (.yield l) first _=>oV P ev l (app first.toList args) s
 |_=> .no
def eval (P:Program) (X:Cfg) (n:Nat):Ev:=
 Nat.rec (motive:= λ_=>Ev) (λ_ _ _=> .no) (λ_ ih=>step P X ih) n
end Go.Eng
end
noncomputable section
namespace Go.Eng
open Go
def mZ (r:Value->Option Value) (t:T (List Value)):Option (T (List Value)):=
 T.rec (motive:= λ_=>Option (T (List Value))) (some .e) (λv _ _ lZ uQ=>ob lZ λl=>ob uQ λr'=>Option.rec (motive:= λ_=>Option (T (List Value))) (some (.n none l r')) (λc=>ob (bS r c) λc'=>some (.n (some c') l r')) v) t
def uv (r:Value->Option Value) (b:Blk):Option Blk:=
 match b with
 | .cells c sz n false et=>ob (mZ r c) λc'=>aq sz λjn=>aq n λn'=>aq et λuT=>some (.cells c' jn n' false uT)
 |_=>none
def R3 (b:Nat) (l:List Nat):Option (List Nat):=
 List.rec (motive:= λ_=>Option (List Nat)) (aq b λb=>some [b]) (λx t ih=>ab (Nat.beq x b) (some (x::t)) (ob ih λr=>some (x::r))) l
def KW (k b:Nat) (l:List Nat):Option (List Nat):=ab (Nat.blt b k) (some l) (R3 b l)
def wk (f:Value->List Nat->Option (List Nat)) (vs:List Value):List Nat->Option (List Nat):=
 List.rec (motive:= λ_=>List Nat->Option (List Nat)) (λl=>some l) (λv _ ih l=>ob (f v l) ih) vs
def pX (k n:Nat):Value->List Nat->Option (List Nat):=
 Nat.rec (motive:= λ_=>Value->List Nat->Option (List Nat)) (λ_ _=>none) (λ_ ih v l=>match v with
  | .pointer (some a)=>KW k a.block l
  | .slice (some a) _ _=>KW k a.block l
  | .map (some b)=>KW k b l
  | .func _ a b=>ob (wk ih a.toList l) λl=>wk ih b.toList l
  | .iface _ x=>ih x l
  | .agg a=>wk ih a.toList l
  | .tuple a=>wk ih a.toList l
  |_=>some l) n
def NB (k n:Nat) (t:T (List Value)):List Nat->Option (List Nat):=
 T.rec (motive:= λ_=>List Nat->Option (List Nat)) (λl=>some l) (λv _ _ lZ uQ l=>ob (Option.rec (motive:= λ_=>Option (List Nat)) (some l) (λc=>wk (pX k n) c l) v) λl=>ob (lZ l) uQ) t
def R4 (k n:Nat) (b:Blk) (l:List Nat):Option (List Nat):=match b with| .cells c _ _ false _=>NB k n c l|_=>none
def ES (i:Nat):List Nat->Option Nat:=
 Nat.rec (motive:= λ_=>List Nat->Option Nat) (λl=>List.rec (motive:= λ_=>Option Nat) none (λx _ _=>some x) l)
  (λ_ ih l=>List.rec (motive:= λ_=>Option Nat) none (λ_ t _=>ih t) l) i
def wV (h:Hp) (k n:Nat) (fuel:Nat):Nat->List Nat->Option (List Nat):=
 Nat.rec (motive:= λ_=>Nat->List Nat->Option (List Nat)) (λ_ _=>none) (λ_ ih i l=>
  Option.rec (motive:= λ_=>Option (List Nat)) (some l)
   (λb=>ob (Option.rec (motive:= λ_=>Option (List Nat)) (some l) (λx=>R4 k n x l) (h.get b)) λl=>ih (Nat.succ i) l) (ES i l)) fuel
def gF (l:List Nat) (a:Nat):Nat->Option Nat:=
 List.rec (motive:= λ_=>Nat->Option Nat) (λ_=>none) (λx _ ih i=>ab (Nat.beq x a) (aq i λi=>some i) (ih (Nat.succ i))) l
def er (l m:List Nat) (k nx:Nat) (j:Nat):Option Nat:=ab (Nat.blt j k) (ob (ES j l) λa=>aq a λa=>some a) (gF m j nx)
def wm (r:Value->Option Value) (h:Hp) (l:List Nat):Nat->Hp->Option (Hp):=
 List.rec (motive:= λ_=>Nat->Hp->Option (Hp)) (λ_ t=>some t) (λa _ ih i t=>Option.rec (motive:= λ_=>Option (Hp)) (ob (Hp.put none t i) λt'=>ih (Nat.succ i) t') (λb=>ob (uv r b) λb'=>ob (Hp.put (some b') t i) λt'=>ih (Nat.succ i) t') (h.get a)) l
def xy (s:AS) (l:List Nat) (k:Nat) (o:Out):Out:=
 Out.rec (motive:= λ_=>Out) .no (λ_ _ _=> .no) (λv s'=>
  gm (ob (ob (pX k 12 v []) λm=>wV s'.h k 12 200 0 m) λm=>ab (ab (bp m) (km k m) false)
   (ob (aD (er l m k s.nx) 12 v) λv'=>ob (wm (aD (er l m k s.nx) 12) s'.h m s.nx s.h) λh=>aq (Nat.add s.nx (len m)) λnx=>aq s.lim λlm=>some (v',⟨h,nx,lm⟩)) none)) o
def ny (B:Ev) (f:Nat) (args:List Value) (s:AS):Out:=
 Option.rec (motive:= λ_=>Out) .no (λl=>
  ab (ab (bp l) (pE s.nx l) false)
   (Option.rec (motive:= λ_=>Out) .no (λao=>
    Option.rec (motive:= λ_=>Out) .no (λh=>ki (len l) λk=>xy s l k (B (.func (.func f) #[] #[]) ao ⟨h,k,k⟩))
     (wm (aD (λa=>gF l a 0) 12) s.h l 0 Hp.emp)) (bS (aD (λa=>gF l a 0) 12) args)) .no)
  (ob (wk (pX 0 12) args []) λl=>wV s.h 0 12 200 0 l)
def vh (a b:Out):Out:=Out.rec (motive:= λ_=>Out) b (λ_ _ _=>b) (λv s=> .val v s) a
def Ca (B:Ev) (f:Nat) (F:FF):FF:= λev args s=>vh (ny B f args s) (F ev args s)
def jF (f:Nat) (l:List (Nat×Ev)):Option Ev:=List.rec (motive:= λ_=>Option Ev) none (λp _ ih=>ab (Nat.beq f p.1) (some p.2) ih) l
def Jq (P:Program) (X:Cfg) (L:List (Nat×Ev)) (f:Nat):Option FF:=
 ob (mkFn P X f) λF=>Option.rec (motive:= λ_=>Option FF) (some F) (λB=>some (Ca B f F)) (jF f L)
def lstB (l:List Nat) (B:Ev) (r:List (Nat×Ev)):List (Nat×Ev):=List.rec (motive:= λ_=>List (Nat×Ev)) r (λf _ ih=>(f,B)::ih) l
def uw (r:Value->Option Value) (es:List an):Option (List an):=
 List.rec (motive:= λ_=>Option (List an)) (some []) (λe _ ih=>ob (r e.2.1) λv=>ob ih λl=>some ((e.1,v,e.2.2)::l)) es
def dm (r:Value->Option Value) (b:Blk):Option Blk:=
 match b with
 | .cells c sz n false et=>ob (mZ r c) λc'=>aq sz λjn=>aq n λn'=>aq et λuT=>some (.cells c' jn n' false uT)
 | .map kt es ck=>ob (uw r es) λbf=>aq kt λud=>aq ck λck'=>some (.map ud bf ck')
 |_=>none
def R5 (k n:Nat) (es:List an):List Nat->Option (List Nat):=
 List.rec (motive:= λ_=>List Nat->Option (List Nat)) (λl=>some l) (λe _ ih l=>ob (pX k n e.2.1 l) ih) es
def Jr (k n:Nat) (b:Blk) (l:List Nat):Option (List Nat):=match b with| .cells c _ _ false _=>NB k n c l| .map _ es _=>R5 k n es l|_=>none
def oN (h:Hp) (k n:Nat) (fuel:Nat):Nat->List Nat->Option (List Nat):=
 Nat.rec (motive:= λ_=>Nat->List Nat->Option (List Nat)) (λ_ _=>none) (λ_ ih i l=>
  Option.rec (motive:= λ_=>Option (List Nat)) (some l)
   (λb=>ob (Option.rec (motive:= λ_=>Option (List Nat)) (some l) (λx=>Jr k n x l) (h.get b)) λl=>ih (Nat.succ i) l) (ES i l)) fuel
def NC (h:Hp) (k n:Nat) (j:Nat):List Nat->Option (List Nat):=
 Nat.rec (motive:= λ_=>List Nat->Option (List Nat)) (λl=>some l) (λj ih l=>ob (Option.rec (motive:= λ_=>Option (List Nat)) (some l) (λx=>Jr k n x l) (h.get j)) ih) j
def rp (r:Value->Option Value) (h:Hp) (l:List Nat):Nat->Hp->Option (Hp):=
 List.rec (motive:= λ_=>Nat->Hp->Option (Hp)) (λ_ t=>some t) (λa _ ih i t=>Option.rec (motive:= λ_=>Option (Hp)) (ob (Hp.put none t i) λt'=>ih (Nat.succ i) t') (λb=>ob (dm r b) λb'=>ob (Hp.put (some b') t i) λt'=>ih (Nat.succ i) t') (h.get a)) l
def vi (r:Value->Option Value) (h:Hp) (l:List Nat):Nat->Hp->Option (Hp):=
 List.rec (motive:= λ_=>Nat->Hp->Option (Hp)) (λ_ t=>some t) (λa _ ih i t=>Option.rec (motive:= λ_=>Option (Hp)) (ob (Hp.put none t a) λt'=>ih (Nat.succ i) t') (λb=>ob (dm r b) λb'=>ob (Hp.put (some b') t a) λt'=>ih (Nat.succ i) t') (h.get i)) l
def Az (n:Nat) (l:List Nat):List Nat:=List.rec (motive:= λ_=>List Nat) [] (λx _ ih=>ab (Nat.blt x n) (x::ih) ih) l
def Cj (n:Nat) (l:List Nat):List Nat:=List.rec (motive:= λ_=>List Nat) [] (λx _ ih=>ab (Nat.blt x n) ih (x::ih)) l
def sG (s:AS) (_ l2 l:List Nat) (k1 k:Nat) (o:Out):Out:=
 Out.rec (motive:= λ_=>Out) .no (λ_ _ _=> .no) (λv s'=>
  gm (ob (ob (pX k 12 v []) λm=>ob (NC s'.h k 12 k m) λm=>oN s'.h k 12 400 0 m) λm=>ab (ab (bp m) (km k m) false)
   (ob (aD (er l m k s.nx) 12 v) λv'=>ob (vi (aD (er l m k s.nx) 12) s'.h l2 k1 s.h) λh0=>ob (rp (aD (er l m k s.nx) 12) s'.h m s.nx h0) λh=>aq (Nat.add s.nx (len m)) λnx=>aq s.lim λlm=>some (v',⟨h,nx,lm⟩)) none)) o
def kL (B:Ev) (f:Nat) (args:List Value) (s:AS):Out:=
 Option.rec (motive:= λ_=>Out) .no (λl0=>(λl1 l2=>(λl=>
  ab (ab (bp l) (pE s.nx l) false)
   (Option.rec (motive:= λ_=>Out) .no (λao=>
    Option.rec (motive:= λ_=>Out) .no (λh=>ki (len l) λk=>ki (len l1) λk1=>sG s l1 l2 l k1 k (B (.func (.func f) #[] #[]) ao ⟨h,k,k1⟩))
     (rp (aD (λa=>gF l a 0) 12) s.h l 0 Hp.emp)) (bS (aD (λa=>gF l a 0) 12) args)) .no) (app l1 l2)) (Az s.lim l0) (Cj s.lim l0))
  (ob (wk (pX 0 12) args []) λl=>oN s.h 0 12 400 0 l)
def isoWFF (B:Ev) (f:Nat) (F:FF):FF:= λev args s=>vh (kL B f args s) (F ev args s)
end Go.Eng
end
noncomputable section
namespace Go.Eng
open Go
def JY (L a:Nat):Option Nat:=ab (Nat.blt a L) (some a) none
def rE (L:Nat) (m:List Nat) (nx j:Nat):Option Nat:=ab (Nat.blt j L) (some j) (gF m j nx)
def EU (r:Value->Option Value) (h:Hp) (L:Nat) (l:List Nat):Hp->Option (Hp):=
 List.rec (motive:= λ_=>Hp->Option (Hp)) (λt=>some t) (λa _ ih t=>ab (Nat.blt a L) (Option.rec (motive:= λ_=>Option (Hp)) (ih t) (λb=>ob (dm r b) λb'=>ob (Hp.put (some b') t a) ih) (h.get a)) none) l
def CO (s:AS) (L:Nat) (o:Out):Out:=
 Out.rec (motive:= λ_=>Out) .no (λ_ _ _=> .no) (λv s'=>
  gm (ob (ob (pX L 12 v []) λm=>oN s'.h L 12 400 0 m) λm=>ab (ab (bp m) (km L m) false)
   (ob (aD (rE L m s.nx) 12 v) λv'=>ob (rp (aD (rE L m s.nx) 12) s'.h m s.nx s.h) λh=>aq (Nat.add s.nx (len m)) λnx=>aq s.lim λlm=>some (v',⟨h,nx,lm⟩)) none)) o
def nC (B:Ev) (L:Nat) (F:List Nat) (f:Nat) (args:List Value) (s:AS):Out:=
 ab (Nat.ble L s.nx) (Option.rec (motive:= λ_=>Out) .no (λao=>
  Option.rec (motive:= λ_=>Out) .no (λh=>CO s L (B (.func (.func f) #[] #[]) ao ⟨h,L,L⟩))
   (EU (aD (JY L) 12) s.h L F Hp.emp)) (bS (aD (JY L) 12) args)) .no
structure Foot where
 args:List Value
 L:Nat
 F:List Nat
def memFF (B:Ev) (f:Nat) (l:List Foot) (F:FF):FF:=
 List.rec (motive:= λ_=>FF) F (λe _ ih ev args s=>ab (jT (jX 12) e.args args) (vh (nC B e.L e.F f e.args s) (ih ev args s)) (ih ev args s)) l
end Go.Eng
end
noncomputable section
namespace Go.Eng
open Go
def Cb (P:Program) (aa nt:Nat) (c:Code):Option (VF×Nat×Nat):=match c with
 | .region _ ops false=>match ops.toList with
  | [o1,o2]=>match o1.dst,o1.guard,o1.op,o2.dst,o2.guard,o2.op with
   |some t,none,.makeFunc (.func g) _ _,none,none,.defer c=>match c.callee,c.args.toList with
    | .value (.tmp t'),[]=>ab (Nat.beq t t') (ab (kept aa t) none (match yb P aa nt [] ops.toList o1 with|some (.v f (.l t2))=>ab (Nat.beq t t2) (some (f,g,t)) none|_=>none)) none
    |_,_=>none
   |_,_,_,_,_,_=>none
  |_=>none
 |_=>none
def qY (P:Program) (X:Cfg) (g:Nat):Option (Ev->List Value->AS->Option AS):=match P.funcs[g]? with
 |some fn=>match fn.body with
  |some (.region _ ops false)=>match fn.results.toList with
   | []=>ob (mkT fn.ntmps) λt0=>ob (dC P (fw X g) fn.ntmps ops.toList ops.toList []) λl=>some λev args s=>ob (gu (fw X g) args 0 t0) λtm=>match xf l ev tm s with| .code .normal _ s'=>some s'|_=>none
   |_=>none
  |_=>none
 |none=>none
def wX (G:Ev->List Value->AS->Option AS) (ev:Ev) (l:List Value) (o:Out):Out:=match o with
 | .val r s=>match G ev l s with|some s'=> .val r s'|none=> .no
 |_=> .no
def rP (P:Program) (rs:List ResultVar) (G:Ev->List Value->AS->Option AS) (ev:Ev) (g:Nat) (v:Value) (o:Out):Out:=match v with
 | .func (.func g') a b=>ab (Nat.beq g g') (match o with
  | .code .normal tm s=>wX G ev (app a.toList b.toList) (eW P rs tm s)
  | .code .ret tm s=>wX G ev (app a.toList b.toList) (eW P rs tm s)
  |_=> .no) .no
 |_=> .no
abbrev DF:=Ev->T Value->AS->Out
def K0 (k:T Value->AS->Out) (d:T Value->AS->Out) (o:Out):Out:=match o with
 | .code .normal tm s=>d tm s
 | .code .ret tm s=>k tm s
 |_=> .no
def QM (P:Program) (X:Cfg) (fn nt aa:Nat) (rs:List ResultVar):Nat->Code->Option DF:=
 Nat.rec (motive:= λ_=>Code->Option DF) (λ_=>none) (λ_ ih c=>match c with
  | .seq a b=>match Cb P aa nt a with
   |some q=>ob (cG P fn nt aa b) λB=>ob (qY P X q.2.1) λG=>some λev tm s=>match q.1 .nil tm s with|some v=>rP P rs G ev q.2.1 v (B ev tm s)|none=> .no
   |none=>ob (cG P fn nt aa a) λA=>ob (ih b) λD=>some λev tm s=>K0 (eW P rs) (D ev) (A ev tm s)
  |_=>none)
def NG (r:ResultVar):Bool:=match r with| .tmp _=>true|_=>false
def rQ (rs:List ResultVar):Bool:=rs.all NG
def mkDefer (P:Program) (X:Cfg) (f:Nat):Option FF:=match P.funcs[f]? with
 |some fn=>match fn.body with
  |some body=>ab (rQ fn.results.toList) (ob (mkT fn.ntmps) λt0=>ob (QM P X f fn.ntmps (fw X f) fn.results.toList 100 body) λD=>some λev args s=>match gu (fw X f) args 0 t0 with|some tm=>D ev tm s|none=> .no) none
  |none=>none
 |none=>none
end Go.Eng
end
noncomputable section
namespace Go.Eng
open Go
variable {s:AS} {c:Code} {ev:Ev} {h:Hp} {ds:List Deferred} {f aa nt nx:Nat} {P:Program} {t0 tm:T Value} {w:World}
structure LEntry where
 nx:Nat
 tm:T Value
 hin:BL
 x:cm
 MU:T Value
 add:BL
 del:List Nat
 wq:Nat
def ER (e:LEntry) (tm:T Value) (s:AS):Bool:=
 ab (Nat.beq e.nx s.nx) (ab (Nat.beq s.lim 0) (ab (pN e.tm tm) (ab (Hy e.hin) (Es e.hin s.h) false) false) false) false
def KU (e:LEntry) (s:AS):Out:=Option.rec (motive:= λ_=>Out) .no (λh=> .code e.x e.MU ⟨h,e.wq,0⟩) (yc e.add e.del s.h)
def Dc (es:List LEntry) (F:KO):KO:=List.rec (motive:= λ_=>KO) F (λe _ ih tm s=>ab (ER e tm s) (KU e s) (ih tm s)) es
def vg (es:List LEntry) (a:KO) (n:Nat):KO:=Nat.rec (motive:= λ_=>KO) (λ_ _=> .no) (λ_ ih=>Dc es (λtm s=>gN ih (a tm s))) n
def fLoopT (es:List LEntry) (a:CF):CF:= λev tm s=>vg es (a ev) 1000000 tm s
def QG (a b:cm):Bool:=match a,b with
 | .normal,.normal=>true| .exit i,.exit j=>Nat.beq i j| .ret,.ret=>true|_,_=>false
def lOutIs (e:LEntry) (o:Out):Bool:=Out.rec (motive:= λ_=>Bool) false (λx tm s=>ab (QG e.x x) (ab (pN e.MU tm) (ab (Nat.beq s.nx e.wq) (ab (Nat.beq s.lim 0) (Kg e.hin e.add e.del s.h) false) false) false) false) (λ_ _=>false) o
def rn (P:Program) (fn nt aa:Nat) (lt:Nat->List LEntry) (n:Nat):Code->Nat->Option CF:=
 Nat.rec (motive:= λ_=>Code->Nat->Option CF) (λ_ _=>none) (λ_ k c p=>match c with
  | .seq a b=>ob (k a (2*p+1)) λa=>ob (k b (2*p+2)) λb=>some (Ej a b)
  | .block id a=>ob (k a (2*p+1)) λa=>some (rH id a)
  | .scope a=>ob (k a (2*p+1)) λa=>some (rI a)
  | .cond x a b=>ob (bA aa [] x) λx=>ob (k a (2*p+1)) λa=>ob (k b (2*p+2)) λb=>some (yx x a b)
  | .loop a=>(match lt p with
   | []=>cG P fn nt aa (.loop a)
   |e::es=>ob (k a (2*p+1)) λa=>some (fLoopT (e::es) a))
  |c=>cG P fn nt aa c) n
def bY:Code->Nat->List (Nat×Code)
 | .seq a b,p=>bY a (2*p+1)++bY b (2*p+2)
 | .block _ a,p=>bY a (2*p+1)
 | .scope a,p=>bY a (2*p+1)
 | .cond _ a b,p=>bY a (2*p+1)++bY b (2*p+2)
 | .loop a,p=>(p,a)::bY a (2*p+1)
 |_,_=> []
def rO (P:Program) (f:Nat):Code:=match P.funcs[f]? with|some fn=>(match fn.body with|some c=>c|none=> .skip)|none=> .skip
def Dd (P:Program) (f:Nat):Nat:=match P.funcs[f]? with|some fn=>fn.ntmps|none=>0
def xw (p:Nat) (l:List (Nat×Code)):Code:=List.rec (motive:= λ_=>Code) .skip (λq _ ih=>ab (Nat.beq q.1 p) q.2 ih) l
def wT (p:Nat) (l:List (Nat×Code)):Bool:=List.rec (motive:= λ_=>Bool) true (λq _ ih=>ab (Nat.beq q.1 p) false ih) l
def FE (p:Nat) (l:List (Nat×Code)):Bool:=List.rec (motive:= λ_=>Bool) true (λq t ih=>ab (Nat.beq q.1 p) (wT p t) ih) l
def wU (P:Program) (f p:Nat):Code:=xw p (bY (rO P f) 0)
def loopF (P:Program) (X:Cfg) (f p:Nat):CF:=Option.rec (motive:= λ_=>CF) (λ_ _ _=> .no) (λF=>F) (rn P f (Dd P f) (fw X f) (λ_=> []) 500 (wU P f p) (2*p+1))
def fnL (P:Program) (X:Cfg) (f p:Nat) (es:List LEntry):FF:=match P.funcs[f]? with
 |some fn=>(match mkT fn.ntmps,rn P f fn.ntmps (fw X f) (λq=>ab (Nat.beq q p) es []) 500 (rO P f) 0 with
  |some t0,some b=>L3 P (fw X f) t0 fn.results.toList b
  |_,_=> λ_ _ _=> .no)
 |none=> λ_ _ _=> .no
end Go.Eng
end
noncomputable section
namespace Go.Eng
open Go
variable {f:Nat} {P:Program}
def outV (v:Value) (o:Out):Bool:=Out.rec (motive:= λ_=>Bool) false (λ_ _ _=>false) (λu _=>jX 12 v u) o
def OJ (n:Nat) (k:Nat->BL):BL:=Nat.rec (motive:= λ_=>BL) (k 0) (λm _=>k (Nat.succ m)) n
def fNatL (n:Nat) (k:Nat->List Nat):List Nat:=Nat.rec (motive:= λ_=>List Nat) (k 0) (λm _=>k (Nat.succ m)) n
def mkA (n:Nat) (l:List (Nat×Option Blk)):BL:=
 List.rec (motive:= λ_=>Nat->Hp->BL->BL) (λ_ _ acc=>acc) (λp _ ih n seen acc=>Nat.rec (motive:= λ_=>BL) acc (λm _=>OJ p.1 λa=>
  Option.rec (motive:= λ_=>BL) (Option.rec (motive:= λ_=>BL) [] (λOK=>ih m OK acc) (Hp.put (some (.mapIter none 0)) seen a))
   (λb=>Option.rec (motive:= λ_=>BL) (ih m seen ((a,b)::acc)) (λ_=>ih m seen acc) (Hp.get seen a)) p.2) n) l n Hp.emp []
def mkGo (n:Nat) (l:List (Nat×Option Blk)):List Nat:=
 List.rec (motive:= λ_=>Nat->List Nat) (λ_=> []) (λp _ ih n=>Nat.rec (motive:= λ_=>List Nat) [] (λm _=>Option.rec (motive:= λ_=>List Nat) (fNatL p.1 λa=>a::ih m) (λ_=>ih m) p.2) n) l n
def mkHO (l:List (Nat×Option Blk)):BL:=mkA 1000000 l
def mkK (l:List (Nat×Option Blk)):List Nat:=List.rec (motive:= λ_=>List Nat) [] (λp _ ih=>p.1::ih) (mkHO l)
def bK (r:List Value) (sz et:Nat):Blk:= .cells (.n (some r) .e .e) sz 1 false et
def R0 (l:List (List Value)):List (List Value)->List (List Value):=List.rec (motive:= λ_=>List (List Value)->List (List Value)) (λa=>a) (λx _ ih a=>ih (x::a)) l
def Jp (l:List (List Value)):T (List Value):=Option.rec (motive:= λ_=>T (List Value)) .e (λt=>t) (vY l 0 .e)
def bQ (l:List (List Value)) (sz n et:Nat):Blk:= .cells (Jp (R0 l [])) sz n false et
def zz (k:Nat):Value:= .int .i64 (ab (Nat.beq (Nat.mod k 2) 0) (.ofNat (Nat.div k 2)) (.negSucc (Nat.div k 2)))
def OL (l:List Nat):List (List Value):=List.rec (motive:= λ_=>List (List Value)) [] (λk _ ih=> [zz k]::ih) l
def bI (l:List Nat) (n et:Nat):Blk:= .cells (Jp (OL l)) 1 n false et
def bytesN (l:Nat):Nat->List UInt8->List UInt8:=
 Nat.rec (motive:= λ_=>Nat->List UInt8->List UInt8) (λ_ a=>a) (λ_ ih n a=>Nat.rec (motive:= λ_=>List UInt8) (ih 0 (UInt8.ofNat (Nat.mod n 256)::a)) (λm _=>ih (Nat.succ m) (UInt8.ofNat (Nat.mod n 256)::a)) (Nat.div n 256)) l
end Go.Eng
end
noncomputable section
namespace Go.Eng
open Go
variable {ev:Ev} {L:List (Nat×Ev)} {f:Nat} {P:Program} {pre:T (Option FF)}
structure PreE (P:Program) (X:Cfg)where
 f:Nat
 o:Option FF
 h:mkFn P X f=o
def preT {X:Cfg} (l:List (PreE P X)):Option (T (Option FF)):=
 List.rec (motive:= λ_=>Option (T (Option FF))) (some (emptyT 11)) (λp _ ih=>ob ih λt=>T.put (some p.o) t p.f) l
def yN (P:Program) (X:Cfg) (pre:T (Option FF)) (L:List (Nat×Ev)) (f:Nat):Option FF:=
 Option.rec (motive:= λ_=>Option FF) (Jq P X L f)
  (λo=>Option.rec (motive:= λ_=>Option FF) none (λF=>Option.rec (motive:= λ_=>Option FF) (some (pG (jt f X.tab) F)) (λB=>some (Ca B f (pG (jt f X.tab) F))) (jF f L)) o) (T.get pre f)
def Iu (P:Program) (X:Cfg) (pre:T (Option FF)) (L:List (Nat×Ev)) (ev:Ev) (f:Nat) (args:List Value) (s:AS):Out:=
 Option.rec (motive:= λ_=>Out) .no (λF=>F ev args s) (yN P X pre L f)
def FK (P:Program) (X:Cfg) (pre:T (Option FF)) (L:List (Nat×Ev)) (ev:Ev) (f:Value) (args:List Value) (s:AS):Out:=
 match f with
 | .func (.func f) first cap=>Iu P X pre L ev f (app first.toList (app args cap.toList)) s
 | .func (.yield l) first _=>oV P ev l (app first.toList args) s
 |_=> .no
def evalQ (P:Program) (X:Cfg) (pre:T (Option FF)) (L:List (Nat×Ev)) (n:Nat):Ev:=
 Nat.rec (motive:= λ_=>Ev) (λ_ _ _=> .no) (λ_ ih=>FK P X pre L ih) n
def preWith (f:Nat) (F:FF) (pre:T (Option FF)):T (Option FF):=Option.rec (motive:= λ_=>T (Option FF)) .e (λt=>t) (T.put (some (some F)) pre f)
end Go.Eng
end
