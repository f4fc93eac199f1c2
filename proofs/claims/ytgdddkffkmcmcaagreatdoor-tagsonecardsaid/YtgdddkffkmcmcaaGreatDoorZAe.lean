import Derived.Test.YtgdddkffkmcmcaaGreatDoorZAd
import Derived.Test.YtgdddkffkmcmcaaGreatDoorProg
/- Part of the proof that TagsOne answers true. -/
set_option linter.all false
set_option maxRecDepth 100000
noncomputable section
namespace Go.Eng
open Go Go.Proofs Go.Proofs.Tryz
def TryzF.all:List (TPE):= [TryzF.f2,TryzF.f3,TryzF.f4,TryzF.f5,TryzF.f6,TryzF.f7,TryzF.f8,TryzF.f9,TryzF.f10,TryzF.f11,TryzF.f12,TryzF.f13,TryzF.f14,TryzF.f15,TryzF.f16,TryzF.f17,TryzF.f18,TryzF.f19,TryzF.f20,TryzF.f21,TryzF.f22,TryzF.f23,TryzF.f24,TryzF.f25,TryzF.f26,TryzF.f27,TryzF.f28,TryzF.f29,TryzF.f30,TryzF.f31,TryzF.f32,TryzF.f33,TryzF.f34,TryzF.f35,TryzF.f36,TryzF.f37,TryzF.f38,TryzF.f39,TryzF.f40,TryzF.f41,TryzF.f42,TryzF.f43,TryzF.f44,TryzF.f45,TryzF.f46,TryzF.f47,TryzF.f48,TryzF.f49,TryzF.f50,TryzF.f51,TryzF.f52,TryzF.f53,TryzF.f54,TryzF.f55,TryzF.f56,TryzF.f57,TryzF.f58,TryzF.f59,TryzF.f60,TryzF.f61,TryzF.f62,TryzF.f63,TryzF.f64,TryzF.f65,TryzF.f66,TryzF.f67,TryzF.f68,TryzF.f69,TryzF.f70,TryzF.f71,TryzF.f72,TryzF.f73,TryzF.f74,TryzF.f75,TryzF.f76,TryzF.f77,TryzF.f78,TryzF.f79,TryzF.f80,TryzF.f81,TryzF.f82,TryzF.f83,TryzF.f84,TryzF.f85,TryzF.f86,TryzF.f87,TryzF.f88,TryzF.f89,TryzF.f90,TryzF.f91,TryzF.f92,TryzF.f93,TryzF.f94,TryzF.f95,TryzF.f96,TryzF.f97,TryzF.f98,TryzF.f99,TryzF.f100,TryzF.f101,TryzF.f102,TryzF.f103,TryzF.f104,TryzF.f105,TryzF.f106,TryzF.f107,TryzF.f108,TryzF.f109,TryzF.f110,TryzF.f111,TryzF.f112,TryzF.f113,TryzF.f114,TryzF.f115,TryzF.f116,TryzF.f117,TryzF.f118,TryzF.f119,TryzF.f120,TryzF.f121,TryzF.f122,TryzF.f123,TryzF.f124,TryzF.f125,TryzF.f126,TryzF.f127,TryzF.f128,TryzF.f129,TryzF.f130,TryzF.f131,TryzF.f132,TryzF.f133,TryzF.f134,TryzF.f135,TryzF.f136,TryzF.f137,TryzF.f138,TryzF.f139,TryzF.f140,TryzF.f141,TryzF.f142,TryzF.f143,TryzF.f144,TryzF.f145,TryzF.f146,TryzF.f147,TryzF.f148,TryzF.f149,TryzF.f150,TryzF.f151,TryzF.f152,TryzF.f153,TryzF.f154,TryzF.f155,TryzF.f156,TryzF.f157,TryzF.f158,TryzF.f159,TryzF.f160,TryzF.f161,TryzF.f162,TryzF.f163,TryzF.f164,TryzF.f165,TryzF.f166,TryzF.f167,TryzF.f168,TryzF.f169,TryzF.f170,TryzF.f171,TryzF.f172,TryzF.f173,TryzF.f174,TryzF.f175,TryzF.f176,TryzF.f177,TryzF.f178,TryzF.f179,TryzF.f180,TryzF.f181,TryzF.f182,TryzF.f183,TryzF.f184,TryzF.f185,TryzF.f186,TryzF.f187,TryzF.f188,TryzF.f189,TryzF.f190,TryzF.f191,TryzF.f192,TryzF.f193,TryzF.f194,TryzF.f195,TryzF.f196,TryzF.f197,TryzF.f198,TryzF.f199,TryzF.f200,TryzF.f201,TryzF.f202,TryzF.f203,TryzF.f204,TryzF.f205,TryzF.f206,TryzF.f207,TryzF.f208,TryzF.f209,TryzF.f210,TryzF.f211,TryzF.f212,TryzF.f213,TryzF.f214,TryzF.f215,TryzF.f216,TryzF.f217,TryzF.f218,TryzF.f219,TryzF.f220,TryzF.f221,TryzF.f222,TryzF.f223,TryzF.f224,TryzF.f225,TryzF.f226,TryzF.f227,TryzF.f228,TryzF.f229,TryzF.f230,TryzF.f231,TryzF.f232,TryzF.f233,TryzF.f234,TryzF.f235,TryzF.f236,TryzF.f237,TryzF.f238,TryzF.f239,TryzF.f240,TryzF.f241,TryzF.f242,TryzF.f243,TryzF.f244,TryzF.f245,TryzF.f246,TryzF.f247,TryzF.f248,TryzF.f249,TryzF.f250,TryzF.f251,TryzF.f252,TryzF.f253,TryzF.f254,TryzF.f255,TryzF.f256,TryzF.f257,TryzF.f258,TryzF.f259,TryzF.f260,TryzF.f261,TryzF.f262,TryzF.f263,TryzF.f264,TryzF.f265,TryzF.f266,TryzF.f267,TryzF.f268,TryzF.f269,TryzF.f270,TryzF.f271,TryzF.f272,TryzF.f273,TryzF.f274,TryzF.f275,TryzF.f276,TryzF.f277,TryzF.f278,TryzF.f279,TryzF.f280,TryzF.f281,TryzF.f282,TryzF.f283,TryzF.f284,TryzF.f285,TryzF.f286,TryzF.f287,TryzF.f288,TryzF.f289,TryzF.f290,TryzF.f291,TryzF.f292,TryzF.f293,TryzF.f294,TryzF.f295,TryzF.f296,TryzF.f297,TryzF.f298,TryzF.f299,TryzF.f300,TryzF.f301,TryzF.f302,TryzF.f303,TryzF.f304,TryzF.f305,TryzF.f307,TryzF.f308,TryzF.f335]
set_option maxHeartbeats 4000000 in
noncomputable def TryzF.tr:{t:Option (T (Option FF))//anZ TryzF.all=t}:=by
 apply Subtype.mk
 conv=>lhs;whnf
def TryzF.pre:T (Option FF):=oR (T (Option FF)) .e (λt=>t) TryzF.tr.1
def TryzF.UB:∀f o,T.get TryzF.pre f=some o->iN prog ai f=o:= λf o h=>by
 cases e:TryzF.tr.1 with
 |none=>unfold TryzF.pre at h;rw[e]at h;rw[T.ur]at h;cases h
 |some t=>unfold TryzF.pre at h;rw[e]at h;exact VR (TryzF.tr.2.trans e) f o h
def cC:QJ:=ai
def ajQ:Ev:=On prog ai TryzF.pre [] 60
def Hf:List (Nat×Ev):=NL ael ajQ []
def ajR:Ev:=On prog ai TryzF.pre Hf 60
def Hg:List (Nat×Ev):=NL aem ajR Hf
def qP:Ev:=On prog ai TryzF.pre Hg 100
def PH:List (Nat×Ev):=NL aen qP Hg
def B7:Ev:=On prog ai TryzF.pre PH 200
def ga:List (Nat×Ev):=NL [56,57,116] (eval prog cC 60) (NL [4] B7 (NL [16,43,44,45,46,50,52,53,54,77,84,85,106,108,160] qP []))
def aE (n:Nat):Ev:=jH prog cC ga n
abbrev jf (f an nt:Nat) (rs:List ResultVar) (c:CF):Prop:=∀(n:Nat) (args:LVal) (s:AS),aE (n+1) (.func (.func f) #[] #[]) args s=fFn prog an ((IN nt).getD .e) rs c (aE n) args s
def bX {f an nt:Nat} {rs:List ResultVar} {b:CF} {fn:Func} (hf:prog.funcs[f]? =some fn)
  (h:(lr f ga,qN f cC.sum,fn.ntmps,Df cC f,fn.results.toList,fn.body.bind λc=>il prog f nt an c)=(none,none,nt,an,rs,some b)):jf f an nt rs b:=by
 injection h with h1 h
 injection h with h2 h
 injection h with h3 h
 injection h with h4 h
 injection h with h5 h6
 obtain⟨c,hc,h6⟩:=Option.bind_eq_some_iff.1 h6;exactλn args s=>G6 h1 (agH h2 hf hc h3 h4 h5 h6) args s
def azt:=aa [.v (v1 (bq (aw (.ofNat 0))) some) (.t 2)]
def azu:=aa [.v (v2 (aK 0) (bq (.pointer none)) (b2 .eql .ptr true)) (.t 4)]
def azv:=aa [.v (v1 (bq (aw (.ofNat 0))) some) (.t 2)]
def azw:=aa [kO 0 dt 6,
 ei 6 (ct 0) 7,
 gM 7 (aM prog 116) 8,
 .v (vl [(aH 8)] dH) (.l 9),
 bz 9 2]
def c28:=(ah azt (ah (ah azu (bw (aK 4) (ah azv (aQ .ret)) (aQ .normal))) (ah azw (aQ .ret))))
def aJz:jf 28 21 10 [.tmp 2] c28:=bX func28 (by kernel_rfl)
def azx:=aa [.s (tB 125 [(aw (.ofNat 0)),(aw (.ofNat 0)),(aw (.ofNat 0)),(aw (.ofNat 0)),(aw (.ofNat 0)),(.string ⟨⟨[]⟩⟩),(aw (.ofNat 0)),(.bool false),(.string ⟨⟨[]⟩⟩),(.string ⟨⟨[]⟩⟩),(.slice none 0 0),(.slice none 0 0),(aw (.ofNat 0)),(aw (.ofNat 0)),(aw (.ofNat 0)),(.map none)]) (.t 4)]
def azy:=aa [cN (aK 0) (bq (.pointer none)) (b2 .eql .ptr true) 7,
 bz 7 5]
def azz:=aa [.v (vl [] (cA prog 125 [])) (.l 8),
 .s (s2 (aK 4) (aH 8) (jK 16)) .no]
def azA:=aa [cN (aK 1) (bq (aw (.ofNat 0))) (b2 .lss .other true) 11,
 .gd (aH 11) false (.l 13) (bT 1 13),
 .gd (aH 11) false (.l 14) (bT 0 14),
 .gd (aH 11) false (.l 15) (ei 14 dt 15),
 .gd (aH 11) false (.l 16) (ei 15 (ct 0) 16),
 .gd (aH 11) false (.l 17) (gM 16 (aM prog 116) 17),
 .gd (aH 11) false (.l 18) (.v (vl [(aH 17)] dH) (.l 18)),
 .gd (aH 11) false (.l 19) (cN (aH 13) (aH 18) (b2 .geq .other false) 19),
 .v (iS (aH 11) (bq (.bool true)) (aH 19)) (.l 20),
 bz 20 9]
def azB:=aa [dF 141 [] 21,
 .s (s2 (aK 4) (aH 21) (jK 16)) .no]
def azC:=aa [kO 0 dt 23,
 ei 23 (ct 0) 24,
 gM 24 (aM prog 116) 25,
 cN (aH 25) (aK 1) (ki prog 116 16) 27,
 gM 27 (aM prog 125) 28,
 .s (s2 (aK 4) (aH 28) (jK 16)) .no]
def c79:=(ah azx (ah (bP 0 (ah azy (bw (aK 5) (ah azz (aQ .ret)) (ah azA (bw (aK 9) (ah azB (aQ .ret)) (aQ .normal)))))) (ah azC (aQ .ret))))
def aJA:jf 79 563 29 [.cell 4 125] c79:=bX func79 (by kernel_rfl)
def azD:=aa [.v (v1 (bq (aw (.ofNat 0))) some) (.t 4)]
def azE:=aa [dF 79 [(aK 0),(aK 1)] 7,
 ei 7 (an0 0 6) 8,
 ei 8 (WG 0) 9,
 bz 9 4]
def c34:=(ah azD (ah azE (aQ .ret)))
def aJB:jf 34 19 10 [.tmp 4] c34:=bX func34 (by kernel_rfl)
def akQ:=aa [.s (s1 (aK 1) (ia 90)) (.t 5),
 .s (s1 (aK 2) (ia 33)) (.t 6),
 .v (v1 (bq (aw (.ofNat 0))) some) (.t 8)]
def akR:=aa [kO 5 (ct 2) 14,
 .v (vy prog 88 (aH 14) none none none) (.l 15),
 .s (sl [(aH 15),(aK 3)] (xH prog #[38,38])) (.l 17)]
def azF:=fe [] [.pa (bT 0 19),.pa (ei 19 dt 20),.pa (ei 20 (ct 1) 21),.rd (r1 (aH 21) (aM prog 115)) (.l 22) 0,.rd (r1 (aK 5) (aM prog 90)) (.l 23) 0,.rd (r2 (aH 22) (aH 23) (λs x i=>jR prog s 115 true i x)) (.l 24) 0,.pa (NM 24 18),.pa (ei 18 (fB 0) 25),.pa (ei 18 (fB 1) 26),.pa (bz 25 9),.pa (bz 26 10)]
def azG:=aa [jP 10 27]
def azH:=aa [jP 9 8]
def akS:=aa [oN 5 (aM prog 90) 29,
 oN 6 (aM prog 33) 30,
 .v (vl [(aK 3)] dH) (.l 32),
 .s (AH 3) (.l 33),
 .v (vl [(aH 29),(aH 30),(aH 32),(bq (aw (.ofNat 1))),(aH 33)] (cA prog 125 [0,1,2,3,4])) (.l 34),
 .s (tB 125 [(aw (.ofNat 0)),(aw (.ofNat 0)),(aw (.ofNat 0)),(aw (.ofNat 0)),(aw (.ofNat 0)),(.string ⟨⟨[]⟩⟩),(aw (.ofNat 0)),(.bool false),(.string ⟨⟨[]⟩⟩),(.string ⟨⟨[]⟩⟩),(.slice none 0 0),(.slice none 0 0),(aw (.ofNat 0)),(aw (.ofNat 0)),(aw (.ofNat 0)),(.map none)]) (.t 11),
 .s (s2 (aK 11) (aH 34) (jK 16)) .no]
def akT:=aa [kO 5 (ct 0) 35,
 gM 35 (aM prog 3) 36,
 .v (v2 (aH 36) (bq (aw (.ofNat 0))) (b2 .eql .other true)) (.t 37)]
def akU:=aa [kO 11 (ct 15) 38,
 gM 38 (aM prog 73) 39,
 kO 5 (ct 1) 40,
 gM 40 (aM prog 3) 41,
 .s (s3 (aH 39) (aH 41) (bq (aw (.ofNat 1))) (iF prog 73)) .no]
def akV:=aa [jP 3 42,
 .v (vl [(aK 42)] dH) (.t 43),
 .v (v1 (bq (aw (.ofNat 0))) some) (.t 44)]
def akW:=aa [.v (v2 (aK 44) (aK 43) (b2 .lss .other false)) (.t 45)]
def abV:=aa [cN (aK 42) (aK 44) (ki prog 38 1) 46,
 gM 46 (aM prog 3) 47,
 bz 47 13]
def abW:=fe [⟨[.pa (kO 11 (ct 14) 48),.rd (r1 (aH 48) (aM prog 3)) (.l 49) 0,.pa (bT 0 50),.pa (ei 50 dt 51),.pa (ei 51 (ct 0) 52),.rd (r1 (aH 52) (aM prog 116)) (.l 53) 0,.pa (bT 13 54),.pa (cN (aH 53) (aH 54) (ki prog 116 16) 55),.pa (ei 55 (ct 14) 56),.rd (r1 (aH 56) (aM prog 3)) (.l 57) 0,.pa (cN (aH 49) (aH 57) (b2 .add .other false) 58),.pa (.v (vl [(aH 58),(bq (aw (.ofNat 4097)))] (Eo Gn)) (.l 59)),.pa (kO 11 (ct 14) 60)],.s (s2 (aH 60) (aH 59) (jK 1)) .no⟩] []
def abX:=fe [⟨[.pa (kO 11 (ct 15) 61),.rd (r1 (aH 61) (aM prog 73)) (.l 62) 0,.pa (bT 0 63),.pa (ei 63 dt 64),.pa (ei 64 (ct 0) 65),.rd (r1 (aH 65) (aM prog 116)) (.l 66) 0,.pa (bT 13 67),.pa (cN (aH 66) (aH 67) (ki prog 116 16) 68),.pa (ei 68 (ct 15) 69),.rd (r1 (aH 69) (aM prog 73)) (.l 70) 0],dF 83 [(aH 62),(aH 70)] 71⟩] []
def abY:=aa [cN (aK 44) (bq (aw (.ofNat 1))) (b2 .add .other true) 72,
 bz 72 44]
def abZ:=fe [⟨[.pa (bT 0 73),.pa (bT 0 74),.pa (ei 74 dt 75),.pa (ei 75 (ct 0) 76),.rd (r1 (aH 76) (aM prog 116)) (.l 77) 0,.rd (r1 (aK 11) (aM prog 125)) (.l 78) 0,.pa (.s (sl [(aH 78)] (bF prog 116 1 [0])) (.l 79))],.s (sl [(aH 77),(aH 79)] (vj 125 16)) (.l 80)⟩,⟨[.pa (ei 73 dt 81),.pa (ei 81 (ct 0) 82)],.s (s2 (aH 82) (aH 80) (jK 1)) .no⟩] []
def ab0:=fe [⟨[.pa (bT 0 83),.pa (ei 83 dt 84),.pa (ei 84 (ct 1) 85),.rd (r1 (aH 85) (aM prog 115)) (.l 86) 0,.rd (r1 (aK 5) (aM prog 90)) (.l 87) 0,.pa (bT 0 88),.pa (ei 88 dt 89),.pa (ei 89 (ct 0) 90),.rd (r1 (aH 90) (aM prog 116)) (.l 91) 0,.pa (.v (vl [(aH 91)] dH) (.l 92)),.pa (cN (aH 92) (bq (aw (.ofNat 1))) (b2 .sub .other true) 93)],.s (s3 (aH 86) (aH 87) (aH 93) (iF prog 115)) .no⟩] []
def ab1:=aa [kO 0 dt 95,
 ei 95 (ct 0) 96,
 gM 96 (aM prog 116) 97,
 .v (vl [(aH 97)] dH) (.l 98),
 cN (aH 98) (bq (aw (.ofNat 1))) (b2 .sub .other true) 99,
 bz 99 8]
def c41:=(ah akQ (ah akR (ah (ah azF (ah azG (bw (aK 27) (ah azH (aQ .ret)) (aQ .normal)))) (ah akS (ah (ah akT (bw (aK 37) akU (aQ .normal))) (ah (ah akV (bP 0 (fM (ah akW (ah (bw (aK 45) (aQ .normal) (aQ (.exit 0))) (ah (bP 1 (ah abV (ah abW abX))) abY)))))) (ah abZ (ah ab0 (ah ab1 (aQ .ret))))))))))
def awN:jf 41 66108270849903 100 [.tmp 8] c41:=bX func41 (by kernel_rfl)
def azI:=aa [.v (v1 (bq (aw (.ofNat 0))) some) (.t 4)]
def azJ:=aa [.v (v2 (aK 0) (bq (.pointer none)) (b2 .eql .ptr true)) (.t 6)]
def azK:=aa [.v (v1 (bq (aw (.ofNat 0))) some) (.t 4)]
def azL:=aa [.v (vl [(bq (aw (.ofNat 0))),(aK 1)] (cA prog 90 [0,1])) (.l 9),
 .v (vl [] (cA prog 33 [])) (.l 10),
 dF 41 [(aK 0),(aH 9),(aH 10),(bq (.slice none 0 0))] 11,
 bz 11 4]
def c14:=(ah azI (ah (ah azJ (bw (aK 6) (ah azK (aQ .ret)) (aQ .normal))) (ah azL (aQ .ret))))
def aJC:jf 14 83 12 [.tmp 4] c14:=bX func14 (by kernel_rfl)
def azM:=aa [.v (v1 (bq (.slice none 0 0)) some) (.t 4)]
def azN:=aa [dF 28 [(aK 0)] 10,
 bz 10 5]
def azO:=aa [dF 39 [(aK 1)] 12,
 bz 12 6]
def azP:=aa [jP 6 13,
 .v (vl [(aK 13)] dH) (.t 14),
 .v (v1 (bq (aw (.ofNat 0))) some) (.t 15)]
def azQ:=aa [.v (v2 (aK 15) (aK 14) (b2 .lss .other false)) (.t 16)]
def azR:=aa [cN (aK 13) (aK 15) (ki prog 38 1) 18,
 gM 18 (aM prog 3) 19,
 jP 15 7,
 bz 19 8]
def azS:=aa [cN (aK 8) (bq (aw (.ofNat 0))) (b2 .lss .other true) 21,
 .gd (aH 21) false (.l 23) (bT 8 23),
 .gd (aH 21) false (.l 24) (bT 5 24),
 .gd (aH 21) false (.l 25) (cN (aH 23) (aH 24) (b2 .geq .other false) 25),
 .v (iS (aH 21) (bq (.bool true)) (aH 25)) (.t 26)]
def azT:=aa [.v (vl [] (cA prog 33 [])) (.l 30),
 dF 17 [(aK 0),(aH 30)] 31,
 cN (aK 6) (aK 7) (ki prog 38 1) 32,
 .s (s2 (aH 32) (aH 31) (jK 1)) .no]
def azU:=aa [cN (aK 15) (bq (aw (.ofNat 1))) (b2 .add .other true) 33,
 bz 33 15]
def azV:=aa [jP 6 4]
def c71:=(ah azM (ah azN (ah azO (ah (ah azP (bP 0 (fM (ah azQ (ah (bw (aK 16) (aQ .normal) (aQ (.exit 0))) (ah (bP 1 (ah azR (ah azS (bw (aK 26) azT (aQ .normal))))) azU)))))) (ah azV (aQ .ret))))))
def aJD:jf 71 67232243 35 [.tmp 4] c71:=bX func71 (by kernel_rfl)
def azW:=aa [.v (v1 (bq (aw (.ofNat 0))) some) (.t 6)]
def azX:=aa [.v (v2 (aK 0) (bq (.pointer none)) (b2 .eql .ptr true)) (.t 8)]
def azY:=aa [.v (v1 (bq (aw (.ofNat 0))) some) (.t 6)]
def azZ:=aa [.v (vl [(bq (aw (.ofNat 3)))] (cA prog 90 [0])) (.l 10),
 .v (vl [] (cA prog 33 [])) (.l 11),
 .s (sl [(aK 1),(aK 2)] (bF prog 38 2 [0,1])) (.l 15),
 dF 71 [(aK 0),(aH 15)] 16,
 dF 41 [(aK 0),(aH 10),(aH 11),(aH 16)] 17,
 bz 17 6]
def c24:=(ah azW (ah (ah azX (bw (aK 8) (ah azY (aQ .ret)) (aQ .normal))) (ah azZ (aQ .ret))))
def aJE:jf 24 327 18 [.tmp 6] c24:=bX func24 (by kernel_rfl)
def az0:=aa [.v (v1 (bq (aw (.ofNat 0))) some) (.t 8)]
def az1:=aa [.v (v2 (aK 0) (bq (.pointer none)) (b2 .eql .ptr true)) (.t 10)]
def az2:=aa [.v (v1 (bq (aw (.ofNat 0))) some) (.t 8)]
def az3:=aa [.v (vl [(bq (aw (.ofNat 4)))] (cA prog 90 [0])) (.l 12),
 .v (vl [] (cA prog 33 [])) (.l 13),
 .s (sl [(aK 1),(aK 2),(aK 3)] (bF prog 38 3 [0,1,2])) (.l 18),
 dF 71 [(aK 0),(aH 18)] 19,
 dF 41 [(aK 0),(aH 12),(aH 13),(aH 19)] 20,
 bz 20 8]
def c25:=(ah az0 (ah (ah az1 (bw (aK 10) (ah az2 (aQ .ret)) (aQ .normal))) (ah az3 (aQ .ret))))
def aJF:jf 25 1295 21 [.tmp 8] c25:=bX func25 (by kernel_rfl)
def az4:=aa [.s (s1 (aK 1) (ia 33)) (.t 3),
 .v (v1 (bq (aw (.ofNat 0))) some) (.t 4)]
def az5:=aa [.v (v2 (aK 0) (bq (.pointer none)) (b2 .eql .ptr true)) (.t 6)]
def az6:=aa [.v (v1 (bq (aw (.ofNat 0))) some) (.t 4)]
def az7:=aa [oN 3 (aM prog 33) 7,
 dF 56 [(aH 7)] 8,
 ei 8 (JI .not) 9,
 .gd (aH 9) false (.l 11) (kO 3 (ct 0) 11),
 .gd (aH 9) false (.l 12) (gM 11 (aM prog 3) 12),
 .gd (aH 9) false (.l 13) (cN (aH 12) (bq (aw (.ofNat 5))) (b2 .eql .other true) 13),
 .v (iS (aH 9) (bq (.bool true)) (aH 13)) (.l 14),
 .gd (aH 14) false (.l 16) (kO 3 (ct 4) 16),
 .gd (aH 14) false (.l 17) (gM 16 (aM prog 30) 17),
 .gd (aH 14) false (.l 18) (.v (vl [(aH 17)] dH) (.l 18)),
 .gd (aH 14) false (.l 19) (cN (aH 18) (bq (aw (.ofNat 0))) (b2 .gtr .other true) 19),
 .v (iS (aH 14) (bq (.bool true)) (aH 19)) (.t 20)]
def az8:=aa [.v (vl [] (cA prog 33 [])) (.l 21),
 .s (s2 (aK 3) (aH 21) (jK 7)) .no]
def az9:=fe [⟨[.pa (bT 0 22),.rd (r1 (aK 3) (aM prog 33)) (.l 23) 0,.rd (r1 (aK 3) (aM prog 33)) (.l 26) 1],dF 57 [(aH 23)] 24⟩,⟨[.pa (.v (vl [(bq (aw (.ofNat 2))),(aH 24)] (cA prog 90 [0,3])) (.l 25))],dF 41 [(aH 22),(aH 25),(aH 26),(bq (.slice none 0 0))] 27⟩] [.pa (bz 27 4)]
def c17:=(ah az4 (ah (ah az5 (bw (aK 6) (ah az6 (aQ .ret)) (aQ .normal))) (ah (ah az7 (bw (aK 20) az8 (aQ .normal))) (ah az9 (aQ .ret)))))
def aJG:jf 17 1048667 28 [.tmp 4] c17:=bX func17 (by kernel_rfl)
def aAa:=aa [.v (v1 (bq (.slice none 0 0)) some) (.t 2)]
def aAb:=aa [.v (v2 (aK 0) (bq (.slice none 0 0)) (b2 .eql .slice true)) (.t 4)]
def aAc:=aa [.v (v1 (bq (.slice none 0 0)) some) (.t 2)]
def aAd:=aa [.s (sl [] (bF prog 38 0 [])) (.l 5),
 .s (sl [(aH 5),(aK 0)] (vj 3 1)) (.l 7),
 bz 7 2]
def c39:=(ah aAa (ah (ah aAb (bw (aK 4) (ah aAc (aQ .ret)) (aQ .normal))) (ah aAd (aQ .ret))))
def aJH:jf 39 21 8 [.tmp 2] c39:=bX func39 (by kernel_rfl)
def aAe:=aa [.v (v1 (bq (aw (.ofNat 0))) some) (.t 4)]
def aAf:=aa [dF 79 [(aK 0),(aK 1)] 7,
 ei 7 (WG 14) 8,
 bz 8 4]
def c81:=(ah aAe (ah aAf (aQ .ret)))
def aJI:jf 81 19 9 [.tmp 4] c81:=bX func81 (by kernel_rfl)
def aAg:=aa [.v (v1 (bq (.string ⟨⟨[]⟩⟩)) some) (.t 4)]
def aAh:=aa [dF 79 [(aK 0),(aK 1)] 12,
 .s (tB 125 [(aw (.ofNat 0)),(aw (.ofNat 0)),(aw (.ofNat 0)),(aw (.ofNat 0)),(aw (.ofNat 0)),(.string ⟨⟨[]⟩⟩),(aw (.ofNat 0)),(.bool false),(.string ⟨⟨[]⟩⟩),(.string ⟨⟨[]⟩⟩),(.slice none 0 0),(.slice none 0 0),(aw (.ofNat 0)),(aw (.ofNat 0)),(aw (.ofNat 0)),(.map none)]) (.t 5),
 .s (s2 (aK 5) (aH 12) (jK 16)) .no]
def aAi:=aa [cN (aK 0) (bq (.pointer none)) (b2 .eql .ptr true) 14,
 .gd (aH 14) false (.l 16) (kO 5 (ct 14) 16),
 .gd (aH 14) false (.l 17) (gM 16 (aM prog 3) 17),
 .gd (aH 14) false (.l 18) (cN (aH 17) (bq (aw (.ofNat 4096))) (b2 .gtr .other true) 18),
 .v (iS (aH 14) (bq (.bool true)) (aH 18)) (.t 19)]
def aAj:=aa [.v (v1 (bq (.string ⟨⟨[]⟩⟩)) some) (.t 4)]
def aAk:=aa [.v (v1 (bq (.string ⟨⟨[40,115,101,116]⟩⟩)) some) (.t 6)]
def aAl:=aa [kO 5 (ct 0) 20,
 ei 20 (ct 0) 21,
 .v (r1 (aH 21) (aM prog 3)) (.t 22)]
def aAm:=aa [cN (aK 22) (bq (aw (.ofNat 0))) (b2 .eql .other true) 24,
 bz 24 23]
def aAn:=aa [kO 5 (ct 0) 25,
 ei 25 (ct 1) 26,
 gM 26 (aM prog 3) 27,
 dF 116 [(aH 27)] 28,
 cN (bq (.string ⟨⟨[120]⟩⟩)) (aH 28) (b2 .add .other true) 29,
 bz 29 4]
def aAo:=aa [cN (aK 22) (bq (aw (.ofNat 1))) (b2 .eql .other true) 31,
 bz 31 30]
def aAp:=aa [kO 5 (ct 0) 32,
 ei 32 (ct 1) 33,
 gM 33 (aM prog 3) 34,
 dF 116 [(aH 34)] 35,
 cN (bq (.string ⟨⟨[98]⟩⟩)) (aH 35) (b2 .add .other true) 36,
 bz 36 4]
def apY:=aa [cN (aK 22) (bq (aw (.ofNat 2))) (b2 .eql .other true) 38,
 bz 38 37]
def apZ:=aa [kO 5 (ct 0) 39,
 ei 39 (ct 5) 40,
 gM 40 (aM prog 9) 41,
 bz 41 4]
def ap0:=aa [cN (aK 22) (bq (aw (.ofNat 3))) (b2 .eql .other true) 43,
 bz 43 42]
def ap1:=aa [.v (v1 (bq (.string ⟨⟨[40,103,101,116]⟩⟩)) some) (.t 6)]
def ap2:=aa [.s (sl [(aK 6)] (bF prog 30 1 [0])) (.l 45),
 bz 45 7]
def ap3:=aa [kO 5 (ct 0) 46,
 ei 46 (ct 2) 47,
 kO 5 (ct 13) 48,
 gM 48 (aM prog 3) 49,
 .v (vy prog 88 (aH 47) none (some (aH 49)) none) (.t 50),
 .v (vl [(aK 50)] dH) (.t 51),
 .v (v1 (bq (aw (.ofNat 0))) some) (.t 52)]
def ap4:=aa [.v (v2 (aK 52) (aK 51) (b2 .lss .other false)) (.t 53)]
def ap5:=aa [cN (aK 50) (aK 52) (ki prog 38 1) 54,
 gM 54 (aM prog 3) 55,
 bz 55 9]
def ap6:=aa [bT 7 56,
 dF 82 [(aK 0),(aK 9)] 59,
 .s (sl [(aH 59)] (bF prog 30 1 [0])) (.l 60),
 .s (sl [(aH 56),(aH 60)] (vj 9 1)) (.l 61),
 bz 61 7]
def ap7:=aa [cN (aK 52) (bq (aw (.ofNat 1))) (b2 .add .other true) 62,
 bz 62 52]
def ap8:=aa [.c (bq (dJ 138)) [(aK 7),(bq (.string ⟨⟨[32]⟩⟩))] (.l 64),
 cN (aH 64) (bq (.string ⟨⟨[41]⟩⟩)) (b2 .add .other true) 65,
 bz 65 4]
def c82:=(ah aAg (ah aAh (ah (ah aAi (bw (aK 19) (ah aAj (aQ .ret)) (aQ .normal))) (ah aAk (ah (ah aAl (bP 0 (ah aAm (bw (aK 23) (ah aAn (aQ .ret)) (ah aAo (bw (aK 30) (ah aAp (aQ .ret)) (ah apY (bw (aK 37) (ah apZ (aQ .ret)) (ah ap0 (bw (aK 42) ap1 (aQ .normal))))))))))) (ah ap2 (ah (ah ap3 (bP 1 (fM (ah ap4 (ah (bw (aK 53) (aQ .normal) (aQ (.exit 1))) (ah (bP 2 (ah ap5 ap6)) ap7)))))) (ah ap8 (aQ .ret)))))))))
def aJJ:jf 82 16893035174953715 66 [.tmp 4] c82:=bX func82 (by kernel_rfl)
def ap9:=aa [.v (v1 (bq (.string ⟨⟨[]⟩⟩)) some) (.t 4)]
def aqa:=aa [.v (vl [(aK 0)] dH) (.t 12)]
def aqb:=aa [cN (aK 12) (bq (aw (.ofNat 0))) (b2 .eql .other true) 14,
 bz 14 13]
def aqc:=aa [.v (v1 (bq (.string ⟨⟨[]⟩⟩)) some) (.t 4)]
def aqd:=aa [cN (aK 12) (bq (aw (.ofNat 1))) (b2 .eql .other true) 16,
 bz 16 15]
def aqe:=aa [cN (aK 0) (bq (aw (.ofNat 0))) (ki prog 30 1) 18,
 gM 18 (aM prog 9) 19,
 bz 19 4]
def aqf:=aa [.v (v1 (bq (aw (.ofNat 0))) some) (.t 5)]
def aqg:=aa [.v (vl [(aK 1)] Gw) (.l 21),
 .v (v2 (aH 21) (bq (aw (.ofNat 0))) (b2 .gtr .other true)) (.t 22)]
def aqh:=aa [.v (vl [(aK 1)] Gw) (.l 24),
 .v (vl [(aK 0)] dH) (.l 26),
 cN (aH 26) (bq (aw (.ofNat 1))) (b2 .sub .other true) 27,
 cN (bq (aw (.ofNat 9223372036854775807))) (aH 27) (b2 .quo .other true) 28,
 .v (v2 (aH 24) (aH 28) (b2 .geq .other false)) (.t 29)]
def aqi:=aa [bT 5 31,
 .v (vl [(aK 1)] Gw) (.l 33),
 .v (vl [(aK 0)] dH) (.l 35),
 cN (aH 35) (bq (aw (.ofNat 1))) (b2 .sub .other true) 36,
 cN (aH 33) (aH 36) (b2 .mul .other false) 37,
 cN (aH 31) (aH 37) (b2 .add .other false) 38,
 bz 38 5]
def ag6:=aa [jP 0 39,
 .v (vl [(aK 39)] dH) (.t 40),
 .v (v1 (bq (aw (.ofNat 0))) some) (.t 41)]
def ag7:=aa [.v (v2 (aK 41) (aK 40) (b2 .lss .other false)) (.t 42)]
def ag8:=aa [cN (aK 39) (aK 41) (ki prog 30 1) 43,
 gM 43 (aM prog 9) 44,
 bz 44 7]
def aha:=aa [.v (vl [(aK 7)] Gw) (.l 46),
 cN (bq (aw (.ofNat 9223372036854775807))) (aK 5) (b2 .sub .other true) 48,
 .v (v2 (aH 46) (aH 48) (b2 .gtr .other false)) (.t 49)]
def ahb:=aa [bT 5 51,
 .v (vl [(aK 7)] Gw) (.l 53),
 cN (aH 51) (aH 53) (b2 .add .other false) 54,
 bz 54 5]
def ahc:=aa [cN (aK 41) (bq (aw (.ofNat 1))) (b2 .add .other true) 55,
 bz 55 41]
def ahd:=aa [.s (tB 164 [(.pointer none),(.slice none 0 0)]) (.t 8)]
def ahe:=aa [dF 191 [(aK 8),(aK 5)] 57]
def ahf:=aa [cN (aK 0) (bq (aw (.ofNat 0))) (ki prog 30 1) 59,
 gM 59 (aM prog 9) 60,
 dF 115 [(aK 8),(aH 60)] 61]
def ahg:=aa [.v (vy prog 30 (aK 0) (some (bq (aw (.ofNat 1)))) none none) (.t 63),
 .v (vl [(aK 63)] dH) (.t 64),
 .v (v1 (bq (aw (.ofNat 0))) some) (.t 65)]
def ahh:=aa [.v (v2 (aK 65) (aK 64) (b2 .lss .other false)) (.t 66)]
def ahi:=aa [cN (aK 63) (aK 65) (ki prog 30 1) 67,
 gM 67 (aM prog 9) 68,
 bz 68 10]
def ahj:=aa [dF 115 [(aK 8),(aK 1)] 70]
def ahk:=aa [dF 115 [(aK 8),(aK 10)] 72]
def ahl:=aa [cN (aK 65) (bq (aw (.ofNat 1))) (b2 .add .other true) 73,
 bz 73 65]
def ahm:=aa [dF 117 [(aK 8)] 74,
 bz 74 4]
def awO:=(ah ap9 (ah (ah aqa (bP 0 (ah aqb (bw (aK 13) (ah aqc (aQ .ret)) (ah aqd (bw (aK 15) (ah aqe (aQ .ret)) (aQ .normal))))))) (ah aqf (ah (ah aqg (bw (aK 22) (ah (ah aqh (bw (aK 29) (λ_ _ _=> .no) (aQ .normal))) aqi) (aQ .normal))) (ah (ah ag6 (bP 1 (fM (ah ag7 (ah (bw (aK 42) (aQ .normal) (aQ (.exit 1))) (ah (bP 2 (ah ag8 (ah (ah aha (bw (aK 49) (λ_ _ _=> .no) (aQ .normal))) ahb))) ahc)))))) (ah ahd (ah ahe (ah ahf (ah (ah ahg (bP 3 (fM (ah ahh (ah (bw (aK 66) (aQ .normal) (aQ (.exit 3))) (ah (bP 4 (ah ahi (ah ahj ahk))) ahl)))))) (ah ahm (aQ .ret)))))))))))
def aAq:jf 138 138351151749653378483 75 [.tmp 4] awO:=bX func138 (by kernel_rfl)
def aqj:=aa [dF 177 [(aK 0)] 5]
def aqk:=aa [.v (v2 (aK 1) (bq (aw (.ofNat 0))) (b2 .lss .other true)) (.t 7)]
def aql:=fe [] [.pa (bT 0 9),.pa (ei 9 dt 10),.pa (ei 10 (ct 1) 11),.rd (r1 (aH 11) (aM prog 22)) (.l 12) 0,.pa (.v (vl [(aH 12)] (Wo (sj prog #[22] 0))) (.l 13)),.pa (bT 0 14),.pa (ei 14 dt 15),.pa (ei 15 (ct 1) 16),.rd (r1 (aH 16) (aM prog 22)) (.l 17) 0,.pa (.v (vl [(aH 17)] dH) (.l 18)),.pa (cN (aH 13) (aH 18) (b2 .sub .other false) 19),.pa (bT 1 20),.pa (.v (v2 (aH 19) (aH 20) (b2 .lss .other false)) (.t 21))]
def aqm:=aa [dF 234 [(aK 0),(aK 1)] 24]
def awP:=(ah aqj (ah (ah aqk (bw (aK 7) (λ_ _ _=> .no) (aQ .normal))) (ah aql (bw (aK 21) aqm (aQ .normal)))))
def aAr:jf 191 2097283 25 [] awP:=bX func191 (by kernel_rfl)
def aqn:=fe [⟨[.pa (bT 0 5),.pa (ei 5 dt 6),.pa (ei 6 (ct 1) 7),.rd (r1 (aH 7) (aM prog 22)) (.l 8) 0,.pa (.v (vl [(aH 8)] (Wo (sj prog #[22] 0))) (.l 9)),.pa (cN (bq (aw (.ofNat 2))) (aH 9) (b2 .mul .other true) 10),.pa (bT 1 11),.pa (cN (aH 10) (aH 11) (b2 .add .other false) 12),.pa (bT 0 14),.pa (ei 14 dt 15),.pa (ei 15 (ct 1) 16),.rd (r1 (aH 16) (aM prog 22)) (.l 17) 1,.pa (.v (vl [(aH 17)] dH) (.l 18))],dF 271 [(aH 12)] 13⟩] [.pa (.v (vy prog 22 (aH 13) none (some (aH 18)) none) (.l 19)),.pa (bz 19 4)]
def aqo:=aa [kO 0 dt 22,
 ei 22 (ct 1) 23,
 gM 23 (aM prog 22) 24,
 .s (sl [(aK 4),(aH 24)] (xH prog #[22,22])) (.l 25)]
def aqp:=aa [kO 0 dt 28,
 ei 28 (ct 1) 29,
 .s (s2 (aH 29) (aK 4) (jK 1)) .no]
def awQ:=(ah aqn (ah aqo aqp))
def aAs:jf 234 19 30 [] awQ:=bX func234 (by kernel_rfl)
def aqq:=aa [kO 0 dt 3,
 ei 3 (ct 0) 4,
 gM 4 (aM prog 162) 5,
 .v (v2 (aH 5) (bq (.pointer none)) (b2 .eql .ptr true)) (.t 6)]
def aqr:=aa [oN 0 (Gp prog 164 false) 9,
 dF 219 [(aH 9)] 10,
 gM 10 (Gp prog 164 true) 11,
 kO 0 dt 12,
 ei 12 (ct 0) 13,
 .s (s2 (aH 13) (aH 11) (jK 1)) .no]
def aqs:=aa [kO 0 dt 15,
 ei 15 (ct 0) 16,
 gM 16 (aM prog 162) 17,
 .v (v2 (aH 17) (aK 0) (b2 .neq .ptr false)) (.t 19)]
def awR:=(ah aqq (bw (aK 6) aqr (ah aqs (bw (aK 19) (λ_ _ _=> .no) (aQ .normal)))))
def aAt:jf 177 524353 20 [] awR:=bX func177 (by kernel_rfl)
def aqt:=aa [.v (v1 (bq (aw (.ofNat 0))) some) (.t 4),
 .v (v1 (bq .nilIface) some) (.t 5)]
def aqu:=aa [dF 177 [(aK 0)] 7]
def aqv:=aa [kO 0 dt 10,
 ei 10 (ct 1) 11,
 gM 11 (aM prog 22) 12,
 .s (sl [(aH 12),(aK 1)] (vj 5 1)) (.l 14),
 kO 0 dt 15,
 ei 15 (ct 1) 16,
 .s (s2 (aH 16) (aH 14) (jK 1)) .no]
def aqw:=aa [.v (vl [(aK 1)] Gw) (.l 18),
 bz 18 4,
 .v (v1 (bq .nilIface) some) (.t 5)]
def awS:=(ah aqt (ah aqu (ah aqv (ah aqw (aQ .ret)))))
def aAu:jf 115 51 19 [.tmp 4,.tmp 5] awS:=bX func115 (by kernel_rfl)
def aqx:=aa [.v (v1 (bq (.string ⟨⟨[]⟩⟩)) some) (.t 2)]
def aqy:=fe [⟨[.pa (bT 0 3),.pa (ei 3 dt 4),.pa (ei 4 (ct 1) 5),.rd (r1 (aH 5) (aM prog 22)) (.l 6) 0,.pa (.v (vl [(aH 6)] Og) (.l 7)),.pa (bT 0 8),.pa (ei 8 dt 9),.pa (ei 9 (ct 1) 10),.rd (r1 (aH 10) (aM prog 22)) (.l 11) 0,.pa (.v (vl [(aH 11)] dH) (.l 12))],.s (sl [(aH 7),(aH 12)] (Wp prog #[222,3])) (.l 13)⟩] [.pa (bz 13 2)]
def awT:=(ah aqx (ah aqy (aQ .ret)))
def aAv:jf 117 5 14 [.tmp 2] awT:=bX func117 (by kernel_rfl)
def aAw:=aa [.s (tB 33 [(aw (.ofNat 0)),(.bool false),(.string ⟨⟨[]⟩⟩),(.string ⟨⟨[]⟩⟩),(.slice none 0 0),(.slice none 0 0),(aw (.ofNat 0))]) (.t 4)]
def aAx:=aa [dF 79 [(aK 0),(aK 1)] 7,
 ei 7 (an0 6 7) 8,
 .s (s2 (aK 4) (aH 8) (jK 7)) .no]
def c35:=(ah aAw (ah aAx (aQ .ret)))
def aJK:jf 35 19 9 [.cell 4 33] c35:=bX func35 (by kernel_rfl)
def aAy:=aa [.s (s1 (aK 1) (ia 77)) (.t 5),
 .s (s1 (aK 2) (ia 79)) (.t 6),
 .v (v1 (bq (aw (.ofNat 0))) some) (.t 8)]
def aAz:=fe [] [.pa (bT 0 12),.pa (ei 12 dt 13),.pa (ei 13 (ct 2) 14),.rd (r1 (aH 14) (aM prog 59)) (.l 15) 0,.rd (r1 (aK 5) (aM prog 77)) (.l 16) 0,.rd (r2 (aH 15) (aH 16) (λs x i=>jR prog s 59 true i x)) (.l 17) 0,.pa (NM 17 11),.pa (ei 11 (fB 0) 18),.pa (ei 11 (fB 1) 19),.pa (bz 18 9),.pa (bz 19 10)]
def aAA:=aa [jP 10 20]
def aAB:=aa [jP 9 8]
def aAC:=aa [oN 5 (aM prog 77) 22,
 kO 6 (ct 0) 23,
 .s (s2 (aH 23) (aH 22) (jK 5)) .no]
def aAD:=aa [.c (aK 3) [] (.l 26),
 ei 26 (fB 0) 27,
 ei 26 (fB 1) 28,
 kO 6 (ct 11) 29,
 .s (s2 (aH 29) (aH 27) (jK 1)) .no,
 kO 6 (ct 12) 30,
 .s (s2 (aH 30) (aH 28) (jK 1)) .no]
def aAE:=aa [kO 6 (ct 11) 31,
 gM 31 (aM prog 3) 32,
 .v (v2 (aH 32) (bq (aw (.ofNat 4096))) (b2 .gtr .other true)) (.t 33)]
def aAF:=aa [kO 6 (ct 11) 34,
 .s (s2 (aH 34) (bq (aw (.ofNat 4097))) (jK 1)) .no,
 kO 6 (ct 12) 35,
 .s (s2 (aH 35) (bq (.string ⟨⟨[]⟩⟩)) (jK 1)) .no]
def aAG:=fe [⟨[.pa (bT 0 36),.pa (bT 0 37),.pa (ei 37 dt 38),.pa (ei 38 (ct 1) 39),.rd (r1 (aH 39) (aM prog 61)) (.l 40) 0,.rd (r1 (aK 6) (aM prog 79)) (.l 41) 0,.pa (.s (sl [(aH 41)] (bF prog 61 1 [0])) (.l 42))],.s (sl [(aH 40),(aH 42)] (vj 79 13)) (.l 43)⟩,⟨[.pa (ei 36 dt 44),.pa (ei 44 (ct 1) 45)],.s (s2 (aH 45) (aH 43) (jK 1)) .no⟩] []
def aAH:=fe [⟨[.pa (bT 0 46),.pa (ei 46 dt 47),.pa (ei 47 (ct 2) 48),.rd (r1 (aH 48) (aM prog 59)) (.l 49) 0,.rd (r1 (aK 5) (aM prog 77)) (.l 50) 0,.pa (bT 0 51),.pa (ei 51 dt 52),.pa (ei 52 (ct 1) 53),.rd (r1 (aH 53) (aM prog 61)) (.l 54) 0,.pa (.v (vl [(aH 54)] dH) (.l 55)),.pa (cN (aH 55) (bq (aw (.ofNat 1))) (b2 .sub .other true) 56)],.s (s3 (aH 49) (aH 50) (aH 56) (iF prog 59)) .no⟩] []
def aqz:=aa [kO 0 dt 58,
 ei 58 (ct 1) 59,
 gM 59 (aM prog 61) 60,
 .v (vl [(aH 60)] dH) (.l 61),
 cN (aH 61) (bq (aw (.ofNat 1))) (b2 .sub .other true) 62,
 bz 62 8]
def c66:=(ah aAy (ah (ah aAz (ah aAA (bw (aK 20) (ah aAB (aQ .ret)) (aQ .normal)))) (ah aAC (ah aAD (ah (ah aAE (bw (aK 33) aAF (aQ .normal))) (ah aAG (ah aAH (ah aqz (aQ .ret)))))))))
def awU:jf 66 8590985071 63 [.tmp 8] c66:=bX func66 (by kernel_rfl)
def aAI:=aa [.v (v1 (bq (aw (.ofNat 0))) some) (.t 4)]
def aAJ:=aa [cN (aK 1) (bq (aw (.ofNat 0))) (b2 .lss .other true) 6,
 .gd (aH 6) false (.l 8) (bT 1 8),
 .gd (aH 6) false (.l 9) (bT 0 9),
 .gd (aH 6) false (.l 10) (ei 9 dt 10),
 .gd (aH 6) false (.l 11) (ei 10 (ct 0) 11),
 .gd (aH 6) false (.l 12) (gM 11 (aM prog 44) 12),
 .gd (aH 6) false (.l 13) (dF 28 [(aH 12)] 13),
 .gd (aH 6) false (.l 14) (cN (aH 8) (aH 13) (b2 .geq .other false) 14),
 .v (iS (aH 6) (bq (.bool true)) (aH 14)) (.t 15)]
def aAK:=aa [kO 0 dt 17,
 ei 17 (ct 0) 18,
 gM 18 (aM prog 44) 19,
 .v (vl [] (cA prog 33 [])) (.l 20),
 dF 17 [(aH 19),(aH 20)] 21,
 bz 21 4]
def aAL:=aa [jP 1 4]
def c33:=(ah aAI (ah (ah aAJ (bw (aK 15) (ah aAK (aQ .ret)) (aQ .normal))) (ah aAL (aQ .ret))))
def aJL:jf 33 32787 23 [.tmp 4] c33:=bX func33 (by kernel_rfl)
def aAM:=aa [.s (s1 (aK 0) (ia 24)) (.t 5),
 .s (s1 (aK 3) (ia 9)) (.t 8),
 .s (s1 (aK 4) (ia 38)) (.t 9),
 .v (v1 (bq (aw (.ofNat 0))) some) (.t 10)]
def aAN:=aa [.v (vl [(bq (aw (.negSucc 0))),(bq (aw (.negSucc 0)))] (cA prog 75 [0,1])) (.l 14),
 .v (vl [(aK 1),(aK 2),(aH 14)] (cA prog 77 [0,1,2])) (.l 15),
 .s (tB 77 [(aw (.ofNat 0)),(aw (.ofNat 0)),(aw (.ofNat 0)),(aw (.ofNat 0)),(.string ⟨⟨[]⟩⟩)]) (.t 11),
 .s (s2 (aK 11) (aH 15) (jK 5)) .no]
def aAO:=fe [⟨[.pa (kO 11 (ct 2) 16),.pa (.v (vy prog 75 (aH 16) none none none) (.l 17)),.rd (r1 (aK 9) (aM prog 38)) (.l 18) 0],.s (sl [(aH 17),(aH 18)] (xH prog #[38,38])) (.l 19)⟩] []
def aAP:=aa [oN 5 (aM prog 24) 20,
 oN 11 (aM prog 77) 21,
 .v (vl [] (cA prog 79 [])) (.l 22),
 .v (mh 80 [] [(aK 8),(aK 9),(aK 5)]) (.l 23),
 dF 66 [(aH 20),(aH 21),(aH 22),(aH 23)] 24,
 bz 24 10]
def c36:=(ah aAM (ah aAN (ah aAO (ah aAP (aQ .ret)))))
def aJM:jf 36 3903 25 [.tmp 10] c36:=bX func36 (by kernel_rfl)
def aAQ:=aa [.v (v1 (bq (aw (.ofNat 0))) some) (.t 3),
 .v (v1 (bq (.string ⟨⟨[]⟩⟩)) some) (.t 4)]
def aAR:=fe [] [.rd (r1 (aK 0) (aM prog 9)) (.l 7) 0,.pa (cN (bq (.string ⟨⟨[40]⟩⟩)) (aH 7) (b2 .add .other true) 8),.pa (.v (v1 (bq (aw (.ofNat 1))) some) (.t 3)),.pa (bz 8 4)]
def aAS:=aa [.v (r1 (aK 1) (aM prog 38)) (.t 9),
 .v (vl [(aK 9)] dH) (.t 10),
 .v (v1 (bq (aw (.ofNat 0))) some) (.t 11)]
def aAT:=aa [.v (v2 (aK 11) (aK 10) (b2 .lss .other false)) (.t 12)]
def aAU:=aa [cN (aK 9) (aK 11) (ki prog 38 1) 13,
 gM 13 (aM prog 3) 14,
 bz 14 6]
def aAV:=aa [bT 3 15,
 oN 2 (aM prog 24) 16,
 ei 16 dt 17,
 ei 17 (ct 0) 18,
 gM 18 (aM prog 44) 19,
 dF 81 [(aH 19),(aK 6)] 21,
 cN (aH 15) (aH 21) (b2 .add .other false) 22,
 bz 22 3]
def aAW:=aa [bT 4 23,
 oN 2 (aM prog 24) 24,
 ei 24 dt 25,
 ei 25 (ct 0) 26,
 gM 26 (aM prog 44) 27,
 dF 82 [(aH 27),(aK 6)] 29,
 cN (bq (.string ⟨⟨[32]⟩⟩)) (aH 29) (b2 .add .other true) 30,
 cN (aH 23) (aH 30) (b2 .add .other false) 31,
 bz 31 4]
def aAX:=aa [cN (aK 11) (bq (aw (.ofNat 1))) (b2 .add .other true) 32,
 bz 32 11]
def aAY:=aa [bT 3 33,
 bT 4 34,
 cN (aH 34) (bq (.string ⟨⟨[41]⟩⟩)) (b2 .add .other true) 35,
 bz 33 3,
 bz 35 4]
def c80:=(ah aAQ (ah aAR (ah (ah aAS (bP 0 (fM (ah aAT (ah (bw (aK 12) (aQ .normal) (aQ (.exit 0))) (ah (bP 1 (ah aAU (ah aAV aAW))) aAX)))))) (ah aAY (aQ .ret)))))
def aJN:jf 80 7775 36 [.tmp 3,.tmp 4] c80:=bX func80 (by kernel_rfl)
def aAZ:=aa [.v (v1 (bq (aw (.ofNat 0))) some) (.t 6)]
def aA0:=aa [.v (v2 (aK 0) (bq (.pointer none)) (b2 .eql .ptr true)) (.t 9)]
def aA1:=aa [.v (v1 (bq (aw (.ofNat 0))) some) (.t 6)]
def aA2:=aa [.v (vl [(bq (.string ⟨⟨[110,117,108,108,63]⟩⟩)),(bq (.string ⟨⟨[98,111,111,108,63]⟩⟩)),(bq (.string ⟨⟨[105,110,116,63]⟩⟩)),(bq (.string ⟨⟨[115,116,114,63]⟩⟩)),(bq (.string ⟨⟨[100,105,99,116,63]⟩⟩)),(bq (.string ⟨⟨[102,117,110,63]⟩⟩))] (cA prog 81 [0,1,2,3,4,5])) (.l 10),
 .s (tB 81 [(.string ⟨⟨[]⟩⟩),(.string ⟨⟨[]⟩⟩),(.string ⟨⟨[]⟩⟩),(.string ⟨⟨[]⟩⟩),(.string ⟨⟨[]⟩⟩),(.string ⟨⟨[]⟩⟩)]) (.t 7),
 .s (s2 (aK 7) (aH 10) (jK 6)) .no]
def aA3:=aa [cN (aK 1) (bq (aw (.ofNat 0))) (b2 .lss .other true) 12,
 .gd (aH 12) false (.l 14) (bT 1 14),
 .gd (aH 12) false (.l 15) (cN (aH 14) (bq (aw (.ofNat 6))) (b2 .geq .other true) 15),
 .v (iS (aH 12) (bq (.bool true)) (aH 15)) (.t 16)]
def aA4:=aa [.v (v1 (bq (aw (.ofNat 0))) some) (.t 1)]
def aA5:=aa [bT 2 18,
 dF 33 [(aK 0),(aH 18)] 19,
 bz 19 2]
def aA6:=aa [kO 0 dt 21,
 ei 21 (ct 0) 22,
 gM 22 (aM prog 44) 23,
 dF 34 [(aH 23),(aK 2)] 25,
 .v (v2 (aH 25) (bq (aw (.ofNat 2))) (b2 .eql .other true)) (.t 26)]
def aA7:=aa [kO 0 dt 29,
 ei 29 (ct 0) 30,
 gM 30 (aM prog 44) 31,
 dF 35 [(aH 31),(aK 2)] 33,
 ei 33 (WG 0) 34,
 cN (aH 34) (aK 1) (b2 .eql .other false) 36,
 dF 22 [(aK 0),(aH 36)] 37,
 bz 37 6]
def aA8:=aa [cN (aK 7) (aK 1) (λx i=>wa prog (prog.underlying 81) x i) 41,
 gM 41 (aM prog 9) 42,
 .s (sl [(aK 2)] (bF prog 38 1 [0])) (.l 44),
 dF 36 [(aK 0),(bq (aw (.ofNat 7))),(aK 1),(aH 42),(aH 44)] 45,
 bz 45 6]
def c10:=(ah aAZ (ah (ah aA0 (bw (aK 9) (ah aA1 (aQ .ret)) (aQ .normal))) (ah aA2 (ah (ah aA3 (bw (aK 16) aA4 (aQ .normal))) (ah aA5 (ah (ah aA6 (bw (aK 26) (ah aA7 (aQ .ret)) (aQ .normal))) (ah aA8 (aQ .ret))))))))
def awV:jf 10 67175111 46 [.tmp 6] c10:=bX func10 (by kernel_rfl)
def aA9:=aa [.v (v1 (bq (aw (.ofNat 0))) some) (.t 4)]
def aBa:=aa [cN (aK 1) (bq (aw (.ofNat 0))) (b2 .lss .other true) 6,
 .gd (aH 6) false (.l 8) (bT 1 8),
 .gd (aH 6) false (.l 9) (bT 0 9),
 .gd (aH 6) false (.l 10) (ei 9 dt 10),
 .gd (aH 6) false (.l 11) (ei 10 (ct 1) 11),
 .gd (aH 6) false (.l 12) (gM 11 (aM prog 61) 12),
 .gd (aH 6) false (.l 13) (.v (vl [(aH 12)] dH) (.l 13)),
 .gd (aH 6) false (.l 14) (cN (aH 8) (aH 13) (b2 .geq .other false) 14),
 .v (iS (aH 6) (bq (.bool true)) (aH 14)) (.t 15)]
def aBb:=aa [.v (v1 (bq (aw (.ofNat 0))) some) (.t 4)]
def aBc:=aa [jP 1 4]
def c65:=(ah aA9 (ah (ah aBa (bw (aK 15) (ah aBb (aQ .ret)) (aQ .normal))) (ah aBc (aQ .ret))))
def aJO:jf 65 32787 17 [.tmp 4] c65:=bX func65 (by kernel_rfl)
def aBd:=aa [.s (s1 (aK 0) (ia 24)) (.t 2),
 .s (s1 (aK 1) (ia 3)) (.t 3),
 .v (v1 (bq (aw (.ofNat 0))) some) (.t 4)]
def aBe:=aa [oN 2 (aM prog 24) 6,
 .v (v2 (aH 6) (bq (.pointer none)) (b2 .eql .ptr true)) (.t 7)]
def aBf:=aa [.v (v1 (bq (aw (.ofNat 0))) some) (.t 4)]
def aBg:=aa [oN 2 (aM prog 24) 8,
 oN 3 (aM prog 3) 9,
 dF 65 [(aH 8),(aH 9)] 10,
 .s (s2 (aK 3) (aH 10) (jK 1)) .no]
def aBh:=fe [⟨[.rd (r1 (aK 2) (aM prog 24)) (.l 11) 0,.pa (ei 11 dt 12),.pa (ei 12 (ct 1) 13),.rd (r1 (aH 13) (aM prog 61)) (.l 14) 0,.rd (r1 (aK 3) (aM prog 3)) (.l 15) 0,.pa (cN (aH 14) (aH 15) (ki prog 61 13) 16),.rd (r1 (aH 16) (aM prog 79)) (.l 17) 0,.pa (.s (tB 79 [(aw (.ofNat 0)),(aw (.ofNat 0)),(aw (.ofNat 0)),(aw (.ofNat 0)),(.string ⟨⟨[]⟩⟩),(.slice none 0 0),(.bool false),(.slice none 0 0),(.slice none 0 0),(.slice none 0 0),(.slice none 0 0),(aw (.ofNat 0)),(.string ⟨⟨[]⟩⟩)]) (.t 5))],.s (s2 (aK 5) (aH 17) (jK 13)) .no⟩] []
def aBi:=aa [kO 5 (ct 0) 18,
 ei 18 (ct 0) 19,
 .v (r1 (aH 19) (aM prog 3)) (.t 20)]
def aBj:=aa [cN (aK 20) (bq (aw (.ofNat 0))) (b2 .eql .other true) 22,
 bz 22 21]
def aBk:=aa [cN (aK 20) (bq (aw (.ofNat 1))) (b2 .eql .other true) 23,
 bz 23 21]
def aaP:=aa [oN 2 (aM prog 24) 24,
 kO 5 (ct 0) 25,
 ei 25 (ct 0) 26,
 gM 26 (aM prog 3) 27,
 cN (aH 27) (bq (aw (.ofNat 1))) (b2 .eql .other true) 28,
 dF 22 [(aH 24),(aH 28)] 29,
 bz 29 4]
def aBl:=aa [cN (aK 20) (bq (aw (.ofNat 4))) (b2 .eql .other true) 31,
 bz 31 30]
def aqA:=aa [kO 5 (ct 5) 32,
 gM 32 (aM prog 38) 33,
 cN (aH 33) (bq (aw (.ofNat 0))) (ki prog 38 1) 34,
 gM 34 (aM prog 3) 35,
 bz 35 4]
def ab2:=fe [⟨[.rd (r1 (aK 2) (aM prog 24)) (.l 36) 1,.rd (r1 (aK 3) (aM prog 3)) (.l 37) 0,.pa (.s (sl [(aH 37)] (bF prog 38 1 [0])) (.l 38)),.rd (r1 (aK 3) (aM prog 3)) (.l 41) 1,.pa (.s (sl [(aH 41)] (bF prog 38 1 [0])) (.l 42)),.pa (.v (vl [(aH 42)] (cA prog 79 [1])) (.l 43)),.pa (.v (mh 68 [] [(aK 2),(aK 3)]) (.l 44))],dF 67 [(aH 38)] 39⟩,⟨[.pa (.v (vl [(bq (aw (.ofNat 4))),(aH 39)] (cA prog 77 [0,3])) (.l 40))],dF 66 [(aH 36),(aH 40),(aH 43),(aH 44)] 45⟩] [.pa (bz 45 4)]
def c20:=(ah aBd (ah (ah aBe (bw (aK 7) (ah aBf (aQ .ret)) (aQ .normal))) (ah aBg (ah (ah aBh (ah aBi (bP 0 (ah (ah aBj (bw (aK 21) (aQ .normal) aBk)) (bw (aK 21) (ah aaP (aQ .ret)) (ah aBl (bw (aK 30) (ah aqA (aQ .ret)) (aQ .normal)))))))) (ah ab2 (aQ .ret))))))
def awW:jf 20 1076887743 46 [.tmp 4] c20:=bX func20 (by kernel_rfl)
def aBm:=aa [.v (v1 (bq (aw (.ofNat 0))) some) (.t 2),
 .v (v1 (bq (.string ⟨⟨[]⟩⟩)) some) (.t 3)]
def aBn:=fe [] [.rd (r1 (aK 0) (aM prog 24)) (.l 4) 0,.pa (ei 4 dt 5),.pa (ei 5 (ct 1) 6),.rd (r1 (aH 6) (aM prog 61)) (.l 7) 0,.rd (r1 (aK 1) (aM prog 3)) (.l 8) 0,.pa (cN (aH 7) (aH 8) (ki prog 61 13) 9),.pa (ei 9 (ct 11) 10),.rd (r1 (aH 10) (aM prog 3)) (.l 11) 0,.pa (cN (bq (aw (.ofNat 1))) (aH 11) (b2 .add .other true) 12),.rd (r1 (aK 0) (aM prog 24)) (.l 13) 0,.pa (ei 13 dt 14),.pa (ei 14 (ct 1) 15),.rd (r1 (aH 15) (aM prog 61)) (.l 16) 0,.rd (r1 (aK 1) (aM prog 3)) (.l 17) 0,.pa (cN (aH 16) (aH 17) (ki prog 61 13) 18),.pa (ei 18 (ct 12) 19),.rd (r1 (aH 19) (aM prog 9)) (.l 20) 0,.pa (cN (bq (.string ⟨⟨[40,110,111,116,32]⟩⟩)) (aH 20) (b2 .add .other true) 21),.pa (cN (aH 21) (bq (.string ⟨⟨[41]⟩⟩)) (b2 .add .other true) 22),.pa (bz 12 2),.pa (bz 22 3)]
def c68:=(ah aBm (ah aBn (aQ .ret)))
def aJP:jf 68 15 23 [.tmp 2,.tmp 3] c68:=bX func68 (by kernel_rfl)
def aBo:=aa [.s (s1 (aK 1) (ia 4)) (.t 3),
 .v (v1 (bq (aw (.ofNat 0))) some) (.t 4)]
def aBp:=aa [.v (v2 (aK 0) (bq (.pointer none)) (b2 .eql .ptr true)) (.t 7)]
def aBq:=aa [.v (v1 (bq (aw (.ofNat 0))) some) (.t 4)]
def aBr:=aa [.v (v1 (bq (aw (.ofNat 1))) some) (.t 5)]
def aBs:=aa [.v (r1 (aK 3) (aM prog 4)) (.t 8)]
def aBt:=aa [.v (v1 (bq (aw (.ofNat 0))) some) (.t 5)]
def aBu:=aa [.v (vl [(aK 5)] (cA prog 77 [0])) (.l 11),
 .v (vl [] (cA prog 79 [])) (.l 12),
 .v (mh 69 [] [(aK 3)]) (.l 13),
 dF 66 [(aK 0),(aH 11),(aH 12),(aH 13)] 14,
 bz 14 4]
def c22:=(ah aBo (ah (ah aBp (bw (aK 7) (ah aBq (aQ .ret)) (aQ .normal))) (ah aBr (ah (ah aBs (bw (aK 8) aBt (aQ .normal))) (ah aBu (aQ .ret))))))
def aJQ:jf 22 443 15 [.tmp 4] c22:=bX func22 (by kernel_rfl)
def aBv:=aa [.v (v1 (bq (aw (.ofNat 0))) some) (.t 1),
 .v (v1 (bq (.string ⟨⟨[]⟩⟩)) some) (.t 2)]
def aBw:=aa [oN 0 (aM prog 4) 3,
 dF 70 [(aH 3)] 4,
 .v (v1 (bq (aw (.ofNat 1))) some) (.t 1),
 bz 4 2]
def c69:=(ah aBv (ah aBw (aQ .ret)))
def aJR:jf 69 7 5 [.tmp 1,.tmp 2] c69:=bX func69 (by kernel_rfl)
def aBx:=aa [.v (v1 (bq (.string ⟨⟨[]⟩⟩)) some) (.t 2)]
def aBy:=aa [dF 139 [(aK 0)] 4,
 bz 4 2]
def c70:=(ah aBx (ah aBy (aQ .ret)))
def aJS:jf 70 5 5 [.tmp 2] c70:=bX func70 (by kernel_rfl)
def aqB:=aa [.v (v1 (bq (.string ⟨⟨[]⟩⟩)) some) (.t 2)]
def aqC:=aa [jP 0 3]
def aqD:=aa [.v (v1 (bq (.string ⟨⟨[116,114,117,101]⟩⟩)) some) (.t 2)]
def aqE:=aa [.v (v1 (bq (.string ⟨⟨[102,97,108,115,101]⟩⟩)) some) (.t 2)]
def awX:=(ah aqB (ah (ah aqC (bw (aK 3) (ah aqD (aQ .ret)) (aQ .normal))) (ah aqE (aQ .ret))))
def aBz:jf 139 13 4 [.tmp 2] awX:=bX func139 (by kernel_rfl)
def aBA:=aa [.v (v1 (bq (.string ⟨⟨[]⟩⟩)) some) (.t 2)]
def aBB:=aa [.s (tB 164 [(.pointer none),(.slice none 0 0)]) (.t 3)]
def aBC:=aa [jP 0 6,
 .v (vl [(aK 6)] dH) (.t 7),
 .v (v1 (bq (aw (.ofNat 0))) some) (.t 8)]
def aBD:=aa [.v (v2 (aK 8) (aK 7) (b2 .lss .other false)) (.t 9)]
def aBE:=aa [cN (aK 6) (aK 8) (ki prog 38 1) 10,
 gM 10 (aM prog 3) 11,
 bz 11 5]
def aBF:=aa [dF 116 [(aK 5)] 13,
 cN (aH 13) (bq (.string ⟨⟨[32]⟩⟩)) (b2 .add .other true) 14,
 dF 115 [(aK 3),(aH 14)] 15]
def aBG:=aa [cN (aK 8) (bq (aw (.ofNat 1))) (b2 .add .other true) 16,
 bz 16 8]
def aBH:=aa [dF 117 [(aK 3)] 17,
 bz 17 2]
def c67:=(ah aBA (ah aBB (ah (ah aBC (bP 0 (fM (ah aBD (ah (bw (aK 9) (aQ .normal) (aQ (.exit 0))) (ah (bP 1 (ah aBE aBF)) aBG)))))) (ah aBH (aQ .ret)))))
def aJT:jf 67 1005 18 [.tmp 2] c67:=bX func67 (by kernel_rfl)
def akX:=aa [.v (v1 (bq (.pointer none)) some) (.t 2)]
def akY:=aa [.v (v2 (aK 0) (bq (.pointer none)) (b2 .eql .ptr true)) (.t 4)]
def aBI:=aa [.v (v1 (bq (.pointer none)) some) (.t 2)]
def akZ:=aa [kO 0 dt 6,
 ei 6 (ct 0) 7,
 gM 7 (aM prog 44) 8,
 bz 8 2]
def c13:=(ah akX (ah (ah akY (bw (aK 4) (ah aBI (aQ .ret)) (aQ .normal))) (ah akZ (aQ .ret))))
def aJU:jf 13 21 9 [.tmp 2] c13:=bX func13 (by kernel_rfl)
def awY:=aa [.v (v1 (bq (.pointer none)) some) (.t 0)]
def awZ:=aa [dF 21 [] 2,
 .s (AH 77) (.l 3),
 .s (AH 292) (.l 4),
 .v (vl [(aH 2),(aH 3),(aH 4)] (cA prog 64 [0,2,4])) (.l 5),
 .s (s1 (aH 5) (ia 64)) (.l 6),
 bz 6 1]
def aw0:=aa [dF 22 [(aK 1),(bq (.bool true))] 8]
def aw1:=aa [dF 22 [(aK 1),(bq (.bool false))] 10]
def aw2:=aa [jP 1 0]
def c5:=(ah awY (ah awZ (ah aw0 (ah aw1 (ah aw2 (aQ .ret))))))
def ev5:jf 5 3 12 [.tmp 0] c5:=bX func5 (by kernel_rfl)
def aJV:=aa [.v (v1 (bq (aw (.ofNat 0))) some) (.t 4)]
def aJW:=aa [dF 31 [(aK 0),(aK 1),(bq (dJ 32))] 7,
 bz 7 4]
def c9:=(ah aJV (ah aJW (aQ .ret)))
def ev9:jf 9 19 8 [.tmp 4] c9:=bX func9 (by kernel_rfl)
def aBJ:=aa [.v (v1 (bq (aw (.ofNat 0))) some) (.t 6)]
def aBK:=aa [.v (v2 (aK 0) (bq (.pointer none)) (b2 .neq .ptr true)) (.t 8)]
def aBL:=aa [dF 78 [(aK 0),(aK 1)] 12,
 .c (aK 2) [(aH 12)] (.l 13),
 bz 13 6]
def aBM:=aa [bT 6 14,
 bz 14 6]
def c31:=(ah aBJ (ah (ah aBK (bw (aK 8) aBL (aQ .normal))) (ah aBM (aQ .ret))))
def aJX:jf 31 327 15 [.tmp 6] c31:=bX func31 (by kernel_rfl)
def aBN:=aa [.s (s1 (aK 0) (ia 79)) (.t 1),
 .v (v1 (bq (aw (.ofNat 0))) some) (.t 2)]
def aBO:=aa [kO 1 (ct 0) 3,
 ei 3 (ct 0) 4,
 gM 4 (aM prog 3) 5,
 bz 5 2]
def c32:=(ah aBN (ah aBO (aQ .ret)))
def aJY:jf 32 7 6 [.tmp 2] c32:=bX func32 (by kernel_rfl)
def aBP:=aa [.s (tB 79 [(aw (.ofNat 0)),(aw (.ofNat 0)),(aw (.ofNat 0)),(aw (.ofNat 0)),(.string ⟨⟨[]⟩⟩),(.slice none 0 0),(.bool false),(.slice none 0 0),(.slice none 0 0),(.slice none 0 0),(.slice none 0 0),(aw (.ofNat 0)),(.string ⟨⟨[]⟩⟩)]) (.t 4)]
def aBQ:=aa [cN (aK 1) (bq (aw (.ofNat 0))) (b2 .lss .other true) 6,
 .gd (aH 6) false (.l 8) (bT 1 8),
 .gd (aH 6) false (.l 9) (bT 0 9),
 .gd (aH 6) false (.l 10) (ei 9 dt 10),
 .gd (aH 6) false (.l 11) (ei 10 (ct 1) 11),
 .gd (aH 6) false (.l 12) (gM 11 (aM prog 61) 12),
 .gd (aH 6) false (.l 13) (.v (vl [(aH 12)] dH) (.l 13)),
 .gd (aH 6) false (.l 14) (cN (aH 8) (aH 13) (b2 .geq .other false) 14),
 .v (iS (aH 6) (bq (.bool true)) (aH 14)) (.t 15)]
def aBR:=aa [.v (v1 (bq (aw (.ofNat 0))) some) (.t 1)]
def aBS:=aa [kO 0 dt 17,
 ei 17 (ct 1) 18,
 gM 18 (aM prog 61) 19,
 cN (aH 19) (aK 1) (ki prog 61 13) 21,
 gM 21 (aM prog 79) 22,
 .s (s2 (aK 4) (aH 22) (jK 13)) .no]
def c78:=(ah aBP (ah (ah aBQ (bw (aK 15) aBR (aQ .normal))) (ah aBS (aQ .ret))))
def aJZ:jf 78 32787 23 [.cell 4 79] c78:=bX func78 (by kernel_rfl)
def aBT:=aa [.v (v1 (bq (aw (.ofNat 0))) some) (.t 4)]
def aBU:=aa [dF 31 [(aK 0),(aK 1),(bq (dJ 40))] 7,
 bz 7 4]
def c12:=(ah aBT (ah aBU (aQ .ret)))
def aJ0:jf 12 19 8 [.tmp 4] c12:=bX func12 (by kernel_rfl)
def aBV:=aa [.s (s1 (aK 0) (ia 79)) (.t 1),
 .v (v1 (bq (aw (.ofNat 0))) some) (.t 2)]
def aBW:=aa [kO 1 (ct 0) 3,
 ei 3 (ct 1) 4,
 gM 4 (aM prog 3) 5,
 bz 5 2]
def c40:=(ah aBV (ah aBW (aQ .ret)))
def aJ1:jf 40 7 6 [.tmp 2] c40:=bX func40 (by kernel_rfl)
def aBX:=aa [.v (v1 (bq (.slice none 0 0)) some) (.t 4)]
def aBY:=aa [dF 37 [(aK 0),(aK 1),(bq (dJ 38))] 7,
 bz 7 4]
def c11:=(ah aBX (ah aBY (aQ .ret)))
def aJ2:jf 11 19 8 [.tmp 4] c11:=bX func11 (by kernel_rfl)
def aBZ:=aa [.v (v1 (bq (.slice none 0 0)) some) (.t 6)]
def aB0:=aa [.v (v2 (aK 0) (bq (.pointer none)) (b2 .neq .ptr true)) (.t 8)]
def aB1:=aa [dF 78 [(aK 0),(aK 1)] 12,
 .c (aK 2) [(aH 12)] (.l 13),
 bz 13 6]
def aB2:=aa [bT 6 14,
 bz 14 6]
def c37:=(ah aBZ (ah (ah aB0 (bw (aK 8) aB1 (aQ .normal))) (ah aB2 (aQ .ret))))
def aJ3:jf 37 327 15 [.tmp 6] c37:=bX func37 (by kernel_rfl)
def aB3:=aa [.s (s1 (aK 0) (ia 79)) (.t 1),
 .v (v1 (bq (.slice none 0 0)) some) (.t 2)]
def aB4:=aa [kO 1 (ct 5) 3,
 gM 3 (aM prog 38) 4,
 dF 39 [(aH 4)] 5,
 bz 5 2]
def c38:=(ah aB3 (ah aB4 (aQ .ret)))
def aJ4:jf 38 7 6 [.tmp 2] c38:=bX func38 (by kernel_rfl)
def ak0:=aa [.s (s1 (aK 0) (ia 24)) (.t 4),
 .s (s1 (aK 3) (ia 9)) (.t 7),
 .s (tB 3 [(aw (.ofNat 0))]) (.t 8)]
def ak1:=fe [⟨[.rd (r1 (aK 4) (aM prog 24)) (.l 18) 0,.pa (bT 2 19),.pa (cN (aH 19) (bq (aw (.ofNat 2))) (b2 .eql .other true) 20),.rd (r1 (aK 4) (aM prog 24)) (.l 22) 1,.pa (bT 2 23),.pa (cN (aH 23) (bq (aw (.ofNat 2))) (b2 .neq .other true) 24),.pa (.s (tB 3 [(aw (.ofNat 0))]) (.t 9)),.pa (.s (tB 3 [(aw (.ofNat 0))]) (.t 10))],dF 22 [(aH 18),(aH 20)] 21⟩,⟨[],dF 22 [(aH 22),(aH 24)] 25⟩,⟨[],.s (s2 (aK 9) (aH 21) (jK 1)) .no⟩,⟨[],.s (s2 (aK 10) (aH 25) (jK 1)) .no⟩] []
def ak2:=aa [.s (AH 3) (.l 26),
 .s (tB 178 [(.map none)]) (.t 11),
 .s (s2 (aK 11) (aH 26) (jK 1)) .no]
def ak3:=aa [oN 4 (aM prog 24) 27,
 .c (bq (dJ 132)) [(aH 27),(aK 1),(aK 2)] (.t 30)]
def ti:Code:=EO [1,1,1,0,1,0,0] (Tryz.f64.body.getD .skip)
def tj:Code:=EO [1,1,1,0,1,0,1] (Tryz.f64.body.getD .skip)
def aB5:=aa [jP 31 12]
def ak4:CF:=aB5
def ahn:il prog 64 122 385682695119438939564835770466207 ti=some ak4:=by kernel_rfl
def aB6:=aa [oN 10 (aM prog 3) 33,
 .v (v2 (aK 12) (aH 33) (b2 .eql .other false)) (.t 34)]
def aB7:=aa [oN 10 (aM prog 3) 35,
 .s (s2 (aK 8) (aH 35) (jK 1)) .no]
def aB8:=aa [oN 9 (aM prog 3) 37,
 .v (v2 (aK 12) (aH 37) (b2 .neq .other false)) (.t 38)]
def aB9:=aa [oN 11 (aM prog 178) 39,
 .v (vl [] (cA prog 180 [])) (.l 41),
 .s (s3 (aH 39) (aK 12) (aH 41) (iF prog 178)) .no]
def ak5:CF:=(bP 1 (ah (ah aB6 (bw (aK 34) (ah aB7 (aQ .ret)) (aQ .normal))) (ah aB8 (bw (aK 38) aB9 (aQ .normal)))))
def aho:il prog 64 122 385682695119438939564835770466207 tj=some ak5:=by kernel_rfl
def ak6:=aa [oN 11 (aM prog 178) 42,
 .s (s1 (aH 42) (De prog 178)) (.t 43)]
def Sw:List CI:= [ei 46 (fB 0) 47,
 bz 47 13]
def ab3:=aa [oN 4 (aM prog 24) 48,
 ei 48 dt 49,
 ei 49 (ct 1) 50,
 gM 50 (aM prog 61) 51,
 cN (aH 51) (aK 13) (ki prog 61 13) 53,
 ei 53 (ct 0) 54,
 ei 54 (ct 0) 55,
 gM 55 (aM prog 3) 56,
 .v (v2 (aH 56) (bq (aw (.ofNat 4))) (b2 .neq .other true)) (.t 57)]
def ab4:=aa [oN 4 (aM prog 24) 58,
 ei 58 dt 59,
 ei 59 (ct 1) 60,
 gM 60 (aM prog 61) 61,
 cN (aH 61) (aK 13) (ki prog 61 13) 63,
 ei 63 (ct 5) 64,
 gM 64 (aM prog 38) 65,
 cN (aH 65) (bq (aw (.ofNat 0))) (ki prog 38 1) 66,
 gM 66 (aM prog 3) 67,
 bz 67 14]
def ab5:=aa [.v (mh 133 [] [(aK 11)]) (.l 68),
 .s (tB 110 [.nilFunc]) (.t 15),
 .s (s2 (aK 15) (aH 68) (jK 1)) .no]
def ab6:=aa [oN 4 (aM prog 24) 69,
 ei 69 dt 70,
 ei 70 (ct 1) 71,
 gM 71 (aM prog 61) 72,
 cN (aH 72) (aK 14) (ki prog 61 13) 74,
 ei 74 (ct 5) 75,
 gM 75 (aM prog 38) 76,
 bz 76 16]
def ab7:=aa [oN 15 (aM prog 110) 77,
 .c (aH 77) [(aK 14)] (.l 79),
 .gd (aH 79) false (.l 81) (oN 4 (aM prog 24) 81),
 .gd (aH 79) false (.l 82) (ei 81 dt 82),
 .gd (aH 79) false (.l 83) (ei 82 (ct 1) 83),
 .gd (aH 79) false (.l 84) (gM 83 (aM prog 61) 84),
 .gd (aH 79) false (.l 85) (bT 14 85),
 .gd (aH 79) false (.l 86) (cN (aH 84) (aH 85) (ki prog 61 13) 86),
 .gd (aH 79) false (.l 87) (ei 86 (ct 0) 87),
 .gd (aH 79) false (.l 88) (ei 87 (ct 0) 88),
 .gd (aH 79) false (.l 89) (gM 88 (aM prog 3) 89),
 .gd (aH 79) false (.l 90) (bT 2 90),
 .gd (aH 79) false (.l 91) (cN (aH 89) (aH 90) (b2 .eql .other false) 91),
 .gd (aH 79) false (.l 92) (NM 91 92),
 .gd (aH 92) true (.l 93) (bT 16 93),
 .gd (aH 92) true (.l 94) (.v (mh 134 [] [(aK 15)]) (.l 94)),
 .gd (aH 92) true (.l 95) (dF 61 [(aH 93),(aH 94)] 95),
 .gd (aH 92) true (.l 96) (ei 95 (JI .not) 96),
 .gd (aH 79) false (.l 97) (.v (iS (aH 92) (aH 96) (bq (.bool false))) (.l 97)),
 .v (iS (aH 79) (bq (.bool true)) (aH 97)) (.t 98)]
def ab8:=aa [oN 10 (aM prog 3) 99,
 .s (s2 (aK 8) (aH 99) (jK 1)) .no]
def Sx:CF:=GM ⟨2,3,aK 43,45,(ah (ah ab3 (bw (aK 57) (aQ (.exit 3)) (aQ .normal))) (ah ab4 (ah ab5 (ah ab6 (ah ab7 (bw (aK 98) (ah ab8 (aQ .ret)) (aQ .normal))))))),Sw,46,[45,13,57,14,15,16,98]⟩
def aqF:=aa [oN 11 (aM prog 178) 100,
 dF 135 [(aH 100)] 101,
 dF 130 [(aH 101)] 102,
 .s (tB 38 [(.slice none 0 0)]) (.t 17),
 .s (s2 (aK 17) (aH 102) (jK 1)) .no]
def aqG:=aa [oN 17 (aM prog 38) 103,
 .v (vl [(aH 103)] dH) (.t 104)]
def aqH:=aa [cN (aK 104) (bq (aw (.ofNat 0))) (b2 .eql .other true) 106,
 bz 106 105]
def aqI:=aa [oN 9 (aM prog 3) 107,
 .s (s2 (aK 8) (aH 107) (jK 1)) .no]
def aqJ:=aa [cN (aK 104) (bq (aw (.ofNat 1))) (b2 .eql .other true) 109,
 bz 109 108]
def aqK:=aa [oN 17 (aM prog 38) 110,
 cN (aH 110) (bq (aw (.ofNat 0))) (ki prog 38 1) 111,
 gM 111 (aM prog 3) 112,
 .s (s2 (aK 8) (aH 112) (jK 1)) .no]
def aqL:=fe [⟨[.rd (r1 (aK 4) (aM prog 24)) (.l 113) 1,.pa (bT 2 114),.rd (r1 (aK 17) (aM prog 38)) (.l 115) 0,.rd (r1 (aK 17) (aM prog 38)) (.l 118) 1,.pa (.v (vl [(aH 118)] (cA prog 79 [1])) (.l 119)),.pa (.v (mh 136 [] [(aK 17),(aK 4),(aK 7)]) (.l 120))],dF 67 [(aH 115)] 116⟩,⟨[.pa (.v (vl [(aH 114),(aH 116)] (cA prog 77 [0,3])) (.l 117))],dF 66 [(aH 113),(aH 117),(aH 119),(aH 120)] 121⟩,⟨[],.s (s2 (aK 8) (aH 121) (jK 1)) .no⟩] []
def c64:=(ah ak0 (ah ak1 (ah ak2 (ah (ah ak3 (bP 0 (lJ prog 64 122 385682695119438939564835770466207 (aK 30) [31] ti tj))) (ah (ah ak6 (bP 2 Sx)) (ah aqF (ah (ah aqG (bP 4 (ah aqH (bw (aK 105) (ah aqI (aQ .ret)) (ah aqJ (bw (aK 108) (ah aqK (aQ .ret)) (aQ .normal))))))) (ah aqL (aQ .ret)))))))))
def aw3:jf 64 385682695119438939564835770466207 122 [.cell 8 3] c64:=bX func64 (by kernel_rfl)
def aqM:=aa [.s (s1 (aK 0) (ia 24)) (.t 3),
 .s (s1 (aK 1) (ia 38)) (.t 4),
 .s (s1 (aK 2) (ia 3)) (.t 5),
 .v (v1 (bq .nilFunc) some) (.t 6)]
def aqN:=aa [.v (mh 188 [] [(aK 4),(aK 3),(aK 5)]) (.l 7),
 bz 7 6]
def aw4:=(ah aqM (ah aqN (aQ .ret)))
def aCa:jf 132 127 8 [.tmp 6] aw4:=bX func132 (by kernel_rfl)
def aqO:=aa [.v (v1 (bq (.bool false)) some) (.t 3)]
def aqP:=aa [oN 1 (aM prog 178) 7,
 .v (r2 (aH 7) (aK 0) (λs x i=>jR prog s 178 true i x)) (.l 9),
 ei 9 (fB 0) 10,
 ei 9 (fB 1) 11,
 .s (tB 180 []) (.l 4),
 .s (s2 (aH 4) (aH 10) (jK 0)) .no,
 bz 11 5]
def aqQ:=aa [jP 5 3]
def aw5:=(ah aqO (ah aqP (ah aqQ (aQ .ret))))
def aCb:jf 133 43 13 [.tmp 3] aw5:=bX func133 (by kernel_rfl)
def aqR:=aa [.s (s1 (aK 0) (ia 178)) (.t 1),
 .v (v1 (bq .nilFunc) some) (.t 2)]
def aqS:=aa [.v (mh 189 [] [(aK 1)]) (.l 3),
 bz 3 2]
def aw6:=(ah aqR (ah aqS (aQ .ret)))
def aCc:jf 135 7 4 [.tmp 2] aw6:=bX func135 (by kernel_rfl)
def aqT:=aa [.v (v1 (bq (aw (.ofNat 0))) some) (.t 3),
 .v (v1 (bq (.string ⟨⟨[]⟩⟩)) some) (.t 4)]
def aqU:=aa [.v (v1 (bq (.slice none 0 0)) some) (.t 5)]
def aqV:=aa [.v (v1 (bq (aw (.ofNat 1))) some) (.t 3)]
def aqW:=aa [.v (r1 (aK 0) (aM prog 38)) (.t 8),
 .v (vl [(aK 8)] dH) (.t 9),
 .v (v1 (bq (aw (.ofNat 0))) some) (.t 10)]
def aqX:=aa [.v (v2 (aK 10) (aK 9) (b2 .lss .other false)) (.t 11)]
def aqY:=aa [cN (aK 8) (aK 10) (ki prog 38 1) 12,
 gM 12 (aM prog 3) 13,
 bz 13 7]
def aqZ:=aa [bT 3 14,
 oN 1 (aM prog 24) 15,
 ei 15 dt 16,
 ei 16 (ct 1) 17,
 gM 17 (aM prog 61) 18,
 cN (aH 18) (aK 7) (ki prog 61 13) 20,
 ei 20 (ct 11) 21,
 gM 21 (aM prog 3) 22,
 cN (aH 14) (aH 22) (b2 .add .other false) 23,
 bz 23 3]
def aq0:=aa [bT 5 24,
 oN 1 (aM prog 24) 25,
 ei 25 dt 26,
 ei 26 (ct 1) 27,
 gM 27 (aM prog 61) 28,
 cN (aH 28) (aK 7) (ki prog 61 13) 30,
 ei 30 (ct 12) 31,
 gM 31 (aM prog 9) 32,
 .s (sl [(aH 32)] (bF prog 30 1 [0])) (.l 33),
 .s (sl [(aH 24),(aH 33)] (vj 9 1)) (.l 34),
 bz 34 5]
def aq1:=aa [cN (aK 10) (bq (aw (.ofNat 1))) (b2 .add .other true) 35,
 bz 35 10]
def aq2:=aa [dF 137 [(aK 5)] 37]
def ahp:=fe [⟨[.pa (bT 3 38),.rd (r1 (aK 2) (aM prog 9)) (.l 39) 1,.pa (cN (bq (.string ⟨⟨[40]⟩⟩)) (aH 39) (b2 .add .other true) 40),.pa (cN (aH 40) (bq (.string ⟨⟨[32]⟩⟩)) (b2 .add .other true) 41),.pa (bT 5 42)],.c (bq (dJ 138)) [(aH 42),(bq (.string ⟨⟨[32]⟩⟩))] (.l 43)⟩] [.pa (cN (aH 41) (aH 43) (b2 .add .other false) 44),.pa (cN (aH 44) (bq (.string ⟨⟨[41]⟩⟩)) (b2 .add .other true) 45),.pa (bz 38 3),.pa (bz 45 4)]
def aw7:=(ah aqT (ah aqU (ah aqV (ah (ah aqW (bP 0 (fM (ah aqX (ah (bw (aK 11) (aQ .normal) (aQ (.exit 0))) (ah (bP 1 (ah aqY (ah aqZ aq0))) aq1)))))) (ah aq2 (ah ahp (aQ .ret)))))))
def aCd:jf 136 4031 46 [.tmp 3,.tmp 4] aw7:=bX func136 (by kernel_rfl)
def aq3:=aa [.v (r1 (aK 1) (aM prog 38)) (.t 10),
 .v (vl [(aK 10)] dH) (.t 11),
 .v (v1 (bq (aw (.ofNat 0))) some) (.t 12)]
def aq4:=aa [.v (v2 (aK 12) (aK 11) (b2 .lss .other false)) (.t 13)]
def aq5:=aa [cN (aK 10) (aK 12) (ki prog 38 1) 14,
 gM 14 (aM prog 3) 15,
 bz 15 6]
def aq6:=aa [oN 2 (aM prog 24) 16,
 bT 6 17,
 dF 65 [(aH 16),(aH 17)] 18,
 bz 18 6]
def aq7:=aa [.s (sl [(aK 6)] (bF prog 38 1 [0])) (.l 20),
 bz 20 7]
def aq8:=fe [] [.rd (r1 (aK 2) (aM prog 24)) (.l 21) 0,.pa (ei 21 dt 22),.pa (ei 22 (ct 1) 23),.rd (r1 (aH 23) (aM prog 61)) (.l 24) 0,.pa (bT 6 25),.pa (cN (aH 24) (aH 25) (ki prog 61 13) 26),.pa (ei 26 (ct 0) 27),.pa (ei 27 (ct 0) 28),.rd (r1 (aH 28) (aM prog 3)) (.l 29) 0,.rd (r1 (aK 3) (aM prog 3)) (.l 30) 0,.pa (.v (v2 (aH 29) (aH 30) (b2 .eql .other false)) (.t 31))]
def aq9:=aa [oN 2 (aM prog 24) 32,
 ei 32 dt 33,
 ei 33 (ct 1) 34,
 gM 34 (aM prog 61) 35,
 cN (aH 35) (aK 6) (ki prog 61 13) 37,
 ei 37 (ct 5) 38,
 gM 38 (aM prog 38) 39,
 bz 39 7]
def ara:=aa [jP 7 40,
 .v (vl [(aK 40)] dH) (.t 41),
 .v (v1 (bq (aw (.ofNat 0))) some) (.t 42)]
def arb:=aa [.v (v2 (aK 42) (aK 41) (b2 .lss .other false)) (.t 43)]
def arc:=aa [cN (aK 40) (aK 42) (ki prog 38 1) 44,
 gM 44 (aM prog 3) 45,
 bz 45 9]
def ahq:=aa [.c (aK 0) [(aK 9)] (.l 48),
 .v (v1 (aH 48) (JI .not)) (.t 49)]
def ahr:=aa [cN (aK 42) (bq (aw (.ofNat 1))) (b2 .add .other true) 50,
 bz 50 42]
def ahs:=aa [cN (aK 12) (bq (aw (.ofNat 1))) (b2 .add .other true) 51,
 bz 51 12]
def aw8:=(ah aq3 (bP 0 (fM (ah aq4 (ah (bw (aK 13) (aQ .normal) (aQ (.exit 0))) (ah (bP 1 (ah aq5 (ah aq6 (ah aq7 (ah (ah aq8 (bw (aK 31) aq9 (aQ .normal))) (ah ara (bP 2 (fM (ah arb (ah (bw (aK 43) (aQ .normal) (aQ (.exit 2))) (ah (bP 3 (ah arc (ah ahq (bw (aK 49) (aQ .ret) (aQ .normal))))) ahr))))))))))) ahs))))))
def aCe:jf 188 579444775337679 52 [] aw8:=bX func188 (by kernel_rfl)
def ard:=aa [.v (vl [(aK 0)] dH) (.l 4),
 bz 4 2]
def are:=aa [kO 2 (xI (.int .u64)) 8,
 dF 160 [(aH 8)] 9,
 dF 190 [(aK 0),(bq (aw (.ofNat 0))),(aK 2),(aH 9)] 10]
def aw9:=(ah ard are)
def aCf:jf 137 5 11 [] aw9:=bX func137 (by kernel_rfl)
def arf:=aa [.v (v1 (bq (.bool true)) some) (.t 8)]
def arh:=aa [.v (v1 (bq (.bool true)) some) (.t 9)]
def ari:=aa [cN (aK 2) (aK 1) (b2 .sub .other false) 21,
 bz 21 10]
def arj:=aa [.v (v2 (aK 10) (bq (aw (.ofNat 12))) (b2 .leq .other true)) (.t 23)]
def ark:=aa [dF 225 [(aK 0),(aK 1),(aK 2)] 27]
def arl:=aa [.v (v2 (aK 3) (bq (aw (.ofNat 0))) (b2 .eql .other true)) (.t 29)]
def arn:=aa [dF 226 [(aK 0),(aK 1),(aK 2)] 33]
def aro:=aa [.v (v1 (aK 8) (JI .not)) (.t 35)]
def arp:=aa [dF 227 [(aK 0),(aK 1),(aK 2)] 39]
def arq:=aa [bT 3 40,
 cN (aH 40) (bq (aw (.ofNat 1))) (b2 .sub .other true) 41,
 bz 41 3]
def aht:=aa [dF 228 [(aK 0),(aK 1),(aK 2)] 46,
 ei 46 (fB 0) 47,
 ei 46 (fB 1) 48,
 bz 47 11,
 bz 48 12]
def ahu:=aa [.v (v2 (aK 12) (bq (aw (.ofNat 2))) (b2 .eql .other true)) (.t 50)]
def ahv:=aa [dF 229 [(aK 0),(aK 1),(aK 2)] 54]
def ahw:=aa [cN (aK 2) (bq (aw (.ofNat 1))) (b2 .sub .other true) 56,
 bT 11 57,
 cN (aH 57) (aK 1) (b2 .sub .other false) 59,
 cN (aH 56) (aH 59) (b2 .sub .other false) 60,
 bz 60 11]
def ahx:=aa [.v (v1 (bq (aw (.ofNat 1))) some) (.t 12)]
def ahy:=aa [.gd (aK 8) true (.l 63) (bT 9 63),
 .v (iS (aK 8) (aH 63) (bq (.bool false))) (.l 64),
 .gd (aH 64) true (.l 66) (bT 12 66),
 .gd (aH 64) true (.l 67) (cN (aH 66) (bq (aw (.ofNat 1))) (b2 .eql .other true) 67),
 .v (iS (aH 64) (aH 67) (bq (.bool false))) (.t 68)]
def ahz:=aa [.c (bq (dJ 230)) [(aK 0),(aK 1),(aK 2)] (.t 72)]
def ahA:=fe [⟨[.pa (bT 1 73),.pa (cN (aH 73) (bq (aw (.ofNat 0))) (b2 .gtr .other true) 74),.pa (NM 74 75),.pa (.gd (aH 75) true (.l 76) (bT 0 76)),.pa (.gd (aH 75) true (.l 77) (bT 1 77)),.pa (.gd (aH 75) true (.l 78) (cN (aH 77) (bq (aw (.ofNat 1))) (b2 .sub .other true) 78)),.pa (.gd (aH 75) true (.l 79) (cN (aH 76) (aH 78) (ki prog 30 1) 79)),.gr (aH 75) true (r1 (aH 79) (aM prog 9)) (.l 80) 0,.pa (.gd (aH 75) true (.l 81) (bT 0 81)),.pa (.gd (aH 75) true (.l 82) (bT 11 82)),.pa (.gd (aH 75) true (.l 83) (cN (aH 81) (aH 82) (ki prog 30 1) 83)),.gr (aH 75) true (r1 (aH 83) (aM prog 9)) (.l 84) 0],.gd (aH 75) true (.l 85) (dF 231 [(aH 80),(aH 84)] 85)⟩] [.pa (.gd (aH 75) true (.l 86) (ei 85 (JI .not) 86)),.pa (.v (iS (aH 75) (aH 86) (bq (.bool false))) (.t 87))]
def ahB:=aa [dF 232 [(aK 0),(aK 1),(aK 2),(aK 11)] 92,
 bz 92 13]
def ahC:=aa [jP 13 1]
def ahD:=aa [dF 233 [(aK 0),(aK 1),(aK 2),(aK 11)] 99,
 ei 99 (fB 0) 100,
 ei 99 (fB 1) 101,
 bz 100 14,
 bz 101 15]
def ahE:=aa [jP 15 9]
def ahF:=aa [cN (aK 14) (aK 1) (b2 .sub .other false) 105,
 cN (aK 2) (aK 14) (b2 .sub .other false) 108,
 bz 105 16,
 bz 108 17]
def ahG:=aa [cN (aK 10) (bq (aw (.ofNat 8))) (b2 .quo .other true) 110,
 bz 110 18]
def ahH:=aa [.v (v2 (aK 16) (aK 17) (b2 .lss .other false)) (.t 113)]
def ahI:=aa [cN (aK 16) (aK 18) (b2 .geq .other false) 116,
 bz 116 8]
def ahJ:=aa [dF 190 [(aK 0),(aK 1),(aK 14),(aK 3)] 121]
def ahK:=aa [cN (aK 14) (bq (aw (.ofNat 1))) (b2 .add .other true) 123,
 bz 123 1]
def ahL:=aa [cN (aK 17) (aK 18) (b2 .geq .other false) 126,
 bz 126 8]
def ahM:=aa [cN (aK 14) (bq (aw (.ofNat 1))) (b2 .add .other true) 129,
 dF 190 [(aK 0),(aH 129),(aK 2),(aK 3)] 132]
def ahN:=aa [jP 14 2]
def axa:=(ah arf (ah arh (bP 0 (fM (bP 1 (ah ari (ah (ah arj (bw (aK 23) (ah ark (aQ .ret)) (aQ .normal))) (ah (ah arl (bw (aK 29) (ah arn (aQ .ret)) (aQ .normal))) (ah (ah aro (bw (aK 35) (ah arp arq) (aQ .normal))) (ah aht (ah (ah ahu (bw (aK 50) (ah ahv (ah ahw ahx)) (aQ .normal))) (ah (ah ahy (bw (aK 68) (ah ahz (bw (aK 72) (aQ .ret) (aQ .normal))) (aQ .normal))) (ah (ah ahA (bw (aK 87) (ah ahB (ah ahC (aQ (.exit 1)))) (aQ .normal))) (ah ahD (ah ahE (ah ahF (ah ahG (ah ahH (bw (aK 113) (ah ahI (ah ahJ ahK)) (ah ahL (ah ahM ahN)))))))))))))))))))))
def aCg:jf 190 10384593871817177683247510831234831 134 [] axa:=bX func190 (by kernel_rfl)
def ars:=aa [cN (aK 1) (bq (aw (.ofNat 1))) (b2 .add .other true) 9,
 bz 9 6]
def art:=aa [.v (v2 (aK 6) (aK 2) (b2 .lss .other false)) (.t 12)]
def aru:=aa [jP 6 7]
def arv:=fe [⟨[.pa (bT 7 16),.pa (bT 1 17),.pa (cN (aH 16) (aH 17) (b2 .gtr .other false) 18),.pa (NM 18 19),.pa (.gd (aH 19) true (.l 20) (bT 0 20)),.pa (.gd (aH 19) true (.l 21) (bT 7 21)),.pa (.gd (aH 19) true (.l 22) (cN (aH 20) (aH 21) (ki prog 30 1) 22)),.gr (aH 19) true (r1 (aH 22) (aM prog 9)) (.l 23) 0,.pa (.gd (aH 19) true (.l 24) (bT 0 24)),.pa (.gd (aH 19) true (.l 25) (bT 7 25)),.pa (.gd (aH 19) true (.l 26) (cN (aH 25) (bq (aw (.ofNat 1))) (b2 .sub .other true) 26)),.pa (.gd (aH 19) true (.l 27) (cN (aH 24) (aH 26) (ki prog 30 1) 27)),.gr (aH 19) true (r1 (aH 27) (aM prog 9)) (.l 28) 0],.gd (aH 19) true (.l 29) (dF 231 [(aH 23),(aH 28)] 29)⟩] [.pa (.v (iS (aH 19) (aH 29) (bq (.bool false))) (.t 30))]
def arw:=fe [⟨[.pa (bT 0 33),.pa (bT 7 34),.pa (bT 0 35),.pa (bT 7 36),.pa (cN (aH 36) (bq (aw (.ofNat 1))) (b2 .sub .other true) 37),.pa (bT 0 38),.pa (bT 7 39),.pa (cN (aH 39) (bq (aw (.ofNat 1))) (b2 .sub .other true) 40),.pa (cN (aH 38) (aH 40) (ki prog 30 1) 41),.rd (r1 (aH 41) (aM prog 9)) (.l 42) 0,.pa (bT 0 43),.pa (bT 7 44),.pa (cN (aH 43) (aH 44) (ki prog 30 1) 45),.rd (r1 (aH 45) (aM prog 9)) (.l 46) 0,.pa (cN (aH 33) (aH 34) (ki prog 30 1) 47)],.s (s2 (aH 47) (aH 42) (jK 1)) .no⟩,⟨[.pa (cN (aH 35) (aH 37) (ki prog 30 1) 48)],.s (s2 (aH 48) (aH 46) (jK 1)) .no⟩] []
def arx:=aa [bT 7 31,
 cN (aH 31) (bq (aw (.ofNat 1))) (b2 .sub .other true) 32,
 bz 32 7]
def ary:=aa [bT 6 13,
 cN (aH 13) (bq (aw (.ofNat 1))) (b2 .add .other true) 14,
 bz 14 6]
def axb:=(ah ars (bP 0 (fM (ah (ah art (bw (aK 12) (aQ .normal) (aQ (.exit 0)))) (ah (bP 1 (ah aru (bP 2 (fM (ah (ah arv (bw (aK 30) (aQ .normal) (aQ (.exit 2)))) (ah (bP 3 arw) arx)))))) ary)))))
def aCh:jf 225 1073746119 49 [] axb:=bX func225 (by kernel_rfl)
def arz:=aa [.v (v1 (bq (.bool false)) some) (.t 4)]
def arA:=aa [dF 270 [(aK 0)] 6,
 .gd (aH 6) true (.l 8) (bT 1 8),
 .gd (aH 6) true (.l 9) (dF 270 [(aH 8)] 9),
 .gd (aH 6) true (.l 10) (ei 9 (JI .not) 10),
 .v (iS (aH 6) (aH 10) (bq (.bool false))) (.l 11),
 .gd (aH 11) false (.l 13) (bT 0 13),
 .gd (aH 11) false (.l 14) (bT 1 14),
 .gd (aH 11) false (.l 15) (cN (aH 13) (aH 14) (b2 .lss .other false) 15),
 .v (iS (aH 11) (bq (.bool true)) (aH 15)) (.l 16),
 bz 16 4]
def axc:=(ah arz (ah arA (aQ .ret)))
def aCi:jf 231 19 17 [.tmp 4] axc:=bX func231 (by kernel_rfl)
def arB:=aa [.v (v1 (bq (.bool false)) some) (.t 2)]
def arC:=aa [cN (aK 0) (aK 0) (b2 .neq .other false) 5,
 bz 5 2]
def axd:=(ah arB (ah arC (aQ .ret)))
def aCj:jf 270 5 6 [.tmp 2] axd:=bX func270 (by kernel_rfl)
def aCk:=aa [.v (v1 (bq (aw (.ofNat 0))) some) (.t 4)]
def aCl:=aa [.v (v2 (aK 0) (bq (.pointer none)) (b2 .eql .ptr true)) (.t 6)]
def aCm:=aa [.v (v1 (bq (aw (.ofNat 0))) some) (.t 4)]
def aCn:=aa [.c (bq (dJ 64)) [(aK 0),(aK 1),(bq (aw (.ofNat 3))),(bq (.string ⟨⟨[111,114]⟩⟩))] (.l 9),
 bz 9 4]
def c19:=(ah aCk (ah (ah aCl (bw (aK 6) (ah aCm (aQ .ret)) (aQ .normal))) (ah aCn (aQ .ret))))
def aJ5:jf 19 83 10 [.tmp 4] c19:=bX func19 (by kernel_rfl)
def aCo:=aa [.v (v1 (bq (aw (.ofNat 0))) some) (.t 6)]
def aCp:=aa [.v (v2 (aK 0) (bq (.pointer none)) (b2 .eql .ptr true)) (.t 9)]
def aCq:=aa [.v (v1 (bq (aw (.ofNat 0))) some) (.t 6)]
def aCr:=aa [bT 1 11,
 dF 33 [(aK 0),(aH 11)] 12,
 bT 2 14,
 dF 33 [(aK 0),(aH 14)] 15,
 bz 12 1,
 bz 15 2]
def aCs:=aa [kO 0 dt 17,
 ei 17 (ct 0) 18,
 gM 18 (aM prog 44) 19,
 dF 34 [(aH 19),(aK 1)] 21,
 cN (aH 21) (bq (aw (.ofNat 2))) (b2 .eql .other true) 22,
 .gd (aH 22) true (.l 24) (bT 0 24),
 .gd (aH 22) true (.l 25) (ei 24 dt 25),
 .gd (aH 22) true (.l 26) (ei 25 (ct 0) 26),
 .gd (aH 22) true (.l 27) (gM 26 (aM prog 44) 27),
 .gd (aH 22) true (.l 28) (bT 2 28),
 .gd (aH 22) true (.l 29) (dF 34 [(aH 27),(aH 28)] 29),
 .gd (aH 22) true (.l 30) (cN (aH 29) (bq (aw (.ofNat 2))) (b2 .eql .other true) 30),
 .v (iS (aH 22) (aH 30) (bq (.bool false))) (.l 31),
 bz 31 7]
def aCt:=aa [cN (aK 1) (aK 2) (b2 .eql .other false) 35,
 bz 35 32]
def aCu:=aa [dF 22 [(aK 0),(bq (.bool true))] 37,
 bz 37 6]
def aCv:=aa [jP 7 38]
def aCw:=aa [dF 22 [(aK 0),(bq (.bool false))] 41,
 bz 41 6]
def aCx:=aa [dF 49 [(aK 0),(aK 2),(aK 1)] 46,
 cN (aH 46) (bq (aw (.ofNat 0))) (b2 .lss .other true) 47,
 bz 47 42]
def arD:=aa [bT 2 48,
 bT 1 49,
 bz 48 1,
 bz 49 2]
def arE:=aa [.s (sl [(aK 1),(aK 2)] (bF prog 38 2 [0,1])) (.l 53),
 .c (bq (dJ 36)) [(aK 0),(bq (aw (.ofNat 6))),(bq (aw (.ofNat 0))),(bq (.string ⟨⟨[61]⟩⟩)),(aH 53)] (.l 54),
 bz 54 6]
def c75:=(ah aCo (ah (ah aCp (bw (aK 9) (ah aCq (aQ .ret)) (aQ .normal))) (ah aCr (ah aCs (ah (bP 0 (ah aCt (bw (aK 32) (ah aCu (aQ .ret)) (ah aCv (bw (aK 38) (ah aCw (aQ .ret)) (ah aCx (bw (aK 42) arD (aQ .normal)))))))) (ah arE (aQ .ret)))))))
def axe:jf 75 4677219386055 55 [.tmp 6] c75:=bX func75 (by kernel_rfl)
def aCy:=aa [.v (v1 (bq (aw (.ofNat 0))) some) (.t 6)]
def aCz:=fe [⟨[.pa (bT 0 7),.pa (ei 7 dt 8),.pa (ei 8 (ct 0) 9),.rd (r1 (aH 9) (aM prog 44)) (.l 10) 0,.pa (bT 1 11),.pa (bT 0 13),.pa (ei 13 dt 14),.pa (ei 14 (ct 0) 15),.rd (r1 (aH 15) (aM prog 44)) (.l 16) 1,.pa (bT 2 17),.pa (bT 1 20),.pa (bT 2 21)],dF 82 [(aH 10),(aH 11)] 12⟩,⟨[],dF 82 [(aH 16),(aH 17)] 18⟩,⟨[],dF 102 [(aH 12),(aH 18)] 19⟩,⟨[],dF 103 [(aH 20),(aH 21)] 22⟩,⟨[.pa (.s (sl [(aH 19),(aH 22)] (bF prog 38 2 [0,1])) (.l 23))],dF 101 [(aH 23)] 24⟩] [.pa (bz 24 6)]
def c49:=(ah aCy (ah aCz (aQ .ret)))
def aJ6:jf 49 71 25 [.tmp 6] c49:=bX func49 (by kernel_rfl)
def arF:=aa [.v (v1 (bq (aw (.ofNat 0))) some) (.t 2)]
def arG:=aa [.v (v1 (bq (aw (.ofNat 0))) some) (.t 3)]
def arH:=aa [jP 0 6,
 .v (vl [(aK 6)] dH) (.t 7),
 .v (v1 (bq (aw (.ofNat 0))) some) (.t 8)]
def arI:=aa [.v (v2 (aK 8) (aK 7) (b2 .lss .other false)) (.t 9)]
def arJ:=aa [cN (aK 6) (aK 8) (ki prog 38 1) 10,
 gM 10 (aM prog 3) 11,
 bz 11 5]
def arK:=aa [.v (v2 (aK 5) (aK 3) (b2 .neq .other false)) (.t 14)]
def arL:=aa [jP 5 2]
def arM:=aa [cN (aK 8) (bq (aw (.ofNat 1))) (b2 .add .other true) 16,
 bz 16 8]
def arN:=aa [jP 3 2]
def axf:=(ah arF (ah arG (ah (ah arH (bP 0 (fM (ah arI (ah (bw (aK 9) (aQ .normal) (aQ (.exit 0))) (ah (bP 1 (ah arJ (ah arK (bw (aK 14) (ah arL (aQ .ret)) (aQ .normal))))) arM)))))) (ah arN (aQ .ret)))))
def aCA:jf 101 17389 18 [.tmp 2] axf:=bX func101 (by kernel_rfl)
def arO:=aa [.v (v1 (bq (aw (.ofNat 0))) some) (.t 4)]
def arP:=aa [dF 161 [(aK 0),(aK 1)] 7,
 bz 7 4]
def axg:=(ah arO (ah arP (aQ .ret)))
def aCB:jf 102 19 8 [.tmp 4] axg:=bX func102 (by kernel_rfl)
def arQ:=aa [.v (v1 (bq (aw (.ofNat 0))) some) (.t 4)]
def arR:=aa [dF 162 [(aK 0)] 8,
 bz 8 5]
def arS:=aa [dF 162 [(aK 1)] 10,
 bz 10 6]
def arT:=aa [jP 5 11]
def arU:=aa [jP 6 12]
def arV:=aa [.v (v1 (bq (aw (.ofNat 0))) some) (.t 4)]
def arW:=aa [.v (v1 (bq (aw (.negSucc 0))) some) (.t 4)]
def arX:=aa [jP 6 13]
def arY:=aa [.v (v1 (bq (aw (.ofNat 1))) some) (.t 4)]
def arZ:=aa [.v (v2 (aK 0) (aK 1) (b2 .lss .other false)) (.t 16)]
def ahO:=aa [.v (v1 (bq (aw (.negSucc 0))) some) (.t 4)]
def ahP:=aa [.v (v2 (aK 0) (aK 1) (b2 .gtr .other false)) (.t 19)]
def ahQ:=aa [.v (v1 (bq (aw (.ofNat 1))) some) (.t 4)]
def ahR:=aa [.v (v1 (bq (aw (.ofNat 0))) some) (.t 4)]
def axh:=(ah arQ (ah arR (ah arS (ah (ah arT (bw (aK 11) (ah (ah arU (bw (aK 12) (ah arV (aQ .ret)) (aQ .normal))) (ah arW (aQ .ret))) (aQ .normal))) (ah (ah arX (bw (aK 13) (ah arY (aQ .ret)) (aQ .normal))) (ah (ah arZ (bw (aK 16) (ah ahO (aQ .ret)) (aQ .normal))) (ah (ah ahP (bw (aK 19) (ah ahQ (aQ .ret)) (aQ .normal))) (ah ahR (aQ .ret)))))))))
def aCC:jf 103 604275 20 [.tmp 4] axh:=bX func103 (by kernel_rfl)
def ar0:=aa [.v (v1 (bq (aw (.ofNat 0))) some) (.t 4)]
def ar1:=aa [dF 209 [(aK 0),(aK 1)] 7,
 bz 7 4]
def axi:=(ah ar0 (ah ar1 (aQ .ret)))
def aCD:jf 161 19 8 [.tmp 4] axi:=bX func161 (by kernel_rfl)
def ar2:=aa [.v (v1 (bq (.bool false)) some) (.t 2)]
def ar3:=aa [cN (aK 0) (aK 0) (b2 .neq .other false) 5,
 bz 5 2]
def axj:=(ah ar2 (ah ar3 (aQ .ret)))
def aCE:jf 162 5 6 [.tmp 2] axj:=bX func162 (by kernel_rfl)
def aCF:=aa [.s (s1 (aK 1) (ia 54)) (.t 3),
 .v (v1 (bq (aw (.ofNat 0))) some) (.t 4)]
def aCG:=aa [.v (v2 (aK 0) (bq (.pointer none)) (b2 .eql .ptr true)) (.t 7)]
def aCH:=aa [.v (v1 (bq (aw (.ofNat 0))) some) (.t 4)]
def aCI:=aa [oN 3 (aM prog 54) 9,
 dF 42 [(aK 0),(aH 9)] 10,
 .s (s2 (aK 3) (aH 10) (jK 5)) .no]
def aCJ:=aa [kO 3 (ct 3) 11,
 gM 11 (aM prog 38) 12,
 .v (vl [(aH 12)] dH) (.l 13),
 .v (v2 (aH 13) (bq (aw (.ofNat 0))) (b2 .eql .other true)) (.t 14)]
def aCK:=aa [kO 3 (ct 0) 16,
 gM 16 (aM prog 51) 17,
 dF 43 [(aH 17)] 18,
 cN (aH 18) (bq (aw (.ofNat 0))) (b2 .leq .other true) 19,
 dF 22 [(aK 0),(aH 19)] 20,
 bz 20 4]
def aCL:=aa [oN 3 (aM prog 54) 21,
 dF 44 [(aH 21)] 22,
 .s (s2 (aK 3) (aH 22) (jK 5)) .no]
def aCM:=aa [kO 3 (ct 0) 23,
 gM 23 (aM prog 51) 24,
 dF 46 [(aH 24)] 25,
 dF 45 [(aH 25)] 26,
 kO 3 (ct 0) 27,
 .s (s2 (aH 27) (aH 26) (jK 3)) .no]
def aCN:=aa [kO 3 (ct 3) 28,
 gM 28 (aM prog 38) 29,
 dF 48 [(aH 29)] 30,
 .v (mh 49 [(aK 0)] []) (.l 32),
 dF 47 [(aH 30),(aH 32)] 33,
 bz 33 5]
def aCO:=fe [⟨[.rd (r1 (aK 3) (aM prog 54)) (.l 34) 0,.pa (bT 5 35),.pa (cN (aH 35) (bq (aw (.ofNat 0))) (ki prog 38 1) 36),.rd (r1 (aH 36) (aM prog 3)) (.l 37) 0],dF 50 [(aH 34),(aH 37)] 38⟩,⟨[],dF 43 [(aH 38)] 39⟩] [.pa (.v (v2 (aH 39) (bq (aw (.ofNat 0))) (b2 .lss .other true)) (.t 40))]
def ar4:=fe [⟨[.pa (bT 0 41),.pa (bT 0 42),.rd (r1 (aK 3) (aM prog 54)) (.l 45) 2,.pa (bT 5 47)],dF 54 [(bq (aw (.ofNat 1)))] 43⟩,⟨[],dF 53 [(aH 43)] 44⟩,⟨[],dF 52 [(aH 44),(aH 45)] 46⟩,⟨[],dF 51 [(aH 42),(aH 46),(aH 47)] 48⟩,⟨[],dF 20 [(aH 41),(aH 48)] 49⟩] [.pa (bz 49 4)]
def ar5:=aa [oN 3 (aM prog 54) 51,
 dF 51 [(aK 0),(aH 51),(aK 5)] 53,
 bz 53 4]
def c15:=(ah aCF (ah (ah aCG (bw (aK 7) (ah aCH (aQ .ret)) (aQ .normal))) (ah aCI (ah (ah aCJ (bw (aK 14) (ah aCK (aQ .ret)) (aQ .normal))) (ah aCL (ah aCM (ah aCN (ah (ah aCO (bw (aK 40) (ah ar4 (aQ .ret)) (aQ .normal))) (ah ar5 (aQ .ret))))))))))
def axk:jf 15 1099511644347 54 [.tmp 4] c15:=bX func15 (by kernel_rfl)
def aCP:=aa [.s (s1 (aK 1) (ia 54)) (.t 3),
 .s (tB 54 [(.bool false),(.slice none 0 0),(.slice none 0 0),(.slice none 0 0),(.slice none 0 0)]) (.t 4)]
def aCQ:=aa [kO 3 (ct 0) 9,
 gM 9 (aM prog 51) 10,
 dF 53 [(aH 10)] 11,
 .s (tB 54 [(.bool false),(.slice none 0 0),(.slice none 0 0),(.slice none 0 0),(.slice none 0 0)]) (.t 5),
 .s (s2 (aK 5) (aH 11) (jK 5)) .no]
def aCR:=aa [kO 3 (ct 3) 12,
 gM 12 (aM prog 38) 13,
 .v (vl [(aH 13)] dH) (.l 14),
 kO 3 (ct 4) 15,
 gM 15 (aM prog 52) 16,
 .v (vl [(aH 16)] dH) (.l 17),
 .v (vl [(aH 14),(aH 17)] (Eo Gn)) (.t 18),
 .v (v1 (bq (aw (.ofNat 0))) some) (.t 19)]
def aCS:=aa [.v (v2 (aK 19) (aK 18) (b2 .lss .other false)) (.t 20)]
def aCT:=aa [jP 19 6]
def aCU:=aa [kO 3 (ct 3) 23,
 gM 23 (aM prog 38) 24,
 cN (aH 24) (aK 6) (ki prog 38 1) 26,
 gM 26 (aM prog 3) 27,
 dF 33 [(aK 0),(aH 27)] 28,
 bz 28 7]
def aCV:=aa [dF 16 [(aK 7)] 30,
 .s (tB 54 [(.bool false),(.slice none 0 0),(.slice none 0 0),(.slice none 0 0),(.slice none 0 0)]) (.t 8),
 .s (s2 (aK 8) (aH 30) (jK 5)) .no]
def aCW:=aa [kO 0 dt 32,
 ei 32 (ct 0) 33,
 gM 33 (aM prog 44) 34,
 dF 34 [(aH 34),(aK 7)] 36,
 .v (v2 (aH 36) (bq (aw (.ofNat 2))) (b2 .eql .other true)) (.t 37)]
def aCX:=aa [kO 0 dt 39,
 ei 39 (ct 0) 40,
 gM 40 (aM prog 44) 41,
 dF 35 [(aH 41),(aK 7)] 43,
 dF 84 [(aH 43)] 44,
 dF 45 [(aH 44)] 45,
 dF 53 [(aH 45)] 46,
 .s (s2 (aK 8) (aH 46) (jK 5)) .no]
def aCY:=fe [⟨[.rd (r1 (aK 5) (aM prog 54)) (.l 47) 1,.rd (r1 (aK 8) (aM prog 54)) (.l 48) 0,.pa (kO 3 (ct 4) 49),.rd (r1 (aH 49) (aM prog 52)) (.l 50) 0,.pa (bT 6 51),.pa (cN (aH 50) (aH 51) (ki prog 52 3) 52),.rd (r1 (aH 52) (aM prog 51)) (.l 53) 0],dF 77 [(aH 48),(aH 53)] 54⟩,⟨[.pa (.s (sl [(aH 47),(aH 54)] (bF prog 190 2 [0,1])) (.l 55))],dF 85 [(aH 55)] 56⟩,⟨[],.s (s2 (aK 5) (aH 56) (jK 5)) .no⟩] []
def ar6:=aa [cN (aK 19) (bq (aw (.ofNat 1))) (b2 .add .other true) 57,
 bz 57 19]
def ar7:=aa [oN 5 (aM prog 54) 58,
 .s (s2 (aK 4) (aH 58) (jK 5)) .no]
def c42:=(ah aCP (ah aCQ (ah (ah aCR (bP 0 (fM (ah aCS (ah (bw (aK 20) (aQ .normal) (aQ (.exit 0))) (ah (bP 1 (ah aCT (ah aCU (ah aCV (ah (ah aCW (bw (aK 37) aCX (aQ .normal))) aCY))))) ar6)))))) (ah ar7 (aQ .ret)))))
def axl:jf 42 137440788987 59 [.cell 4 54] c42:=bX func42 (by kernel_rfl)
def aCZ:=aa [.s (s1 (aK 0) (ia 24)) (.t 3),
 .s (s1 (aK 1) (ia 54)) (.t 4),
 .s (s1 (aK 2) (ia 38)) (.t 5),
 .v (v1 (bq (aw (.ofNat 0))) some) (.t 6)]
def aC0:=fe [⟨[.rd (r1 (aK 3) (aM prog 24)) (.l 7) 1,.rd (r1 (aK 4) (aM prog 54)) (.l 8) 0,.rd (r1 (aK 4) (aM prog 54)) (.l 11) 1,.pa (.v (vl [(aH 11)] (cA prog 79 [2])) (.l 12)),.pa (.v (mh 107 [] [(aK 5),(aK 3),(aK 4)]) (.l 13))],dF 106 [(aH 8)] 9⟩,⟨[.pa (.v (vl [(bq (aw (.ofNat 5))),(aH 9)] (cA prog 77 [0,3])) (.l 10))],dF 66 [(aH 7),(aH 10),(aH 12),(aH 13)] 14⟩] [.pa (bz 14 6)]
def c51:=(ah aCZ (ah aC0 (aQ .ret)))
def aJ7:jf 51 127 15 [.tmp 6] c51:=bX func51 (by kernel_rfl)
def ar8:=aa [.v (v1 (bq (aw (.ofNat 0))) some) (.t 3),
 .v (v1 (bq (.string ⟨⟨[]⟩⟩)) some) (.t 4)]
def ar9:=aa [.v (v1 (bq (aw (.ofNat 1))) some) (.t 3),
 .v (v1 (bq (.string ⟨⟨[40,108,101]⟩⟩)) some) (.t 4)]
def asa:=aa [.v (r1 (aK 0) (aM prog 38)) (.t 7),
 .v (vl [(aK 7)] dH) (.t 8),
 .v (v1 (bq (aw (.ofNat 0))) some) (.t 9)]
def asb:=aa [.v (v2 (aK 9) (aK 8) (b2 .lss .other false)) (.t 10)]
def asc:=aa [cN (aK 7) (aK 9) (ki prog 38 1) 11,
 gM 11 (aM prog 3) 12,
 bz 12 6]
def asd:=aa [bT 3 13,
 oN 1 (aM prog 24) 14,
 ei 14 dt 15,
 ei 15 (ct 0) 16,
 gM 16 (aM prog 44) 17,
 dF 81 [(aH 17),(aK 6)] 19,
 cN (aH 13) (aH 19) (b2 .add .other false) 20,
 bz 20 3]
def ase:=fe [⟨[.pa (bT 4 21),.rd (r1 (aK 2) (aM prog 54)) (.l 22) 0,.pa (bT 6 23),.rd (r1 (aK 1) (aM prog 24)) (.l 28) 2,.pa (ei 28 dt 29),.pa (ei 29 (ct 0) 30),.rd (r1 (aH 30) (aM prog 44)) (.l 31) 2,.pa (bT 6 32)],dF 50 [(aH 22),(aH 23)] 24⟩,⟨[],dF 108 [(aH 24)] 25⟩,⟨[.pa (cN (bq (.string ⟨⟨[32]⟩⟩)) (aH 25) (b2 .add .other true) 26),.pa (cN (aH 26) (bq (.string ⟨⟨[32]⟩⟩)) (b2 .add .other true) 27)],dF 82 [(aH 31),(aH 32)] 33⟩] [.pa (cN (aH 27) (aH 33) (b2 .add .other false) 34),.pa (cN (aH 21) (aH 34) (b2 .add .other false) 35),.pa (bz 35 4)]
def asf:=aa [cN (aK 9) (bq (aw (.ofNat 1))) (b2 .add .other true) 36,
 bz 36 9]
def asg:=aa [bT 3 37,
 bT 4 38,
 cN (aH 38) (bq (.string ⟨⟨[32]⟩⟩)) (b2 .add .other true) 39,
 kO 2 (ct 0) 40,
 gM 40 (aM prog 51) 41,
 dF 108 [(aH 41)] 42,
 cN (aH 39) (aH 42) (b2 .add .other false) 43,
 cN (aH 43) (bq (.string ⟨⟨[41]⟩⟩)) (b2 .add .other true) 44,
 bz 37 3,
 bz 44 4]
def axn:=(ah ar8 (ah ar9 (ah (ah asa (bP 0 (fM (ah asb (ah (bw (aK 10) (aQ .normal) (aQ (.exit 0))) (ah (bP 1 (ah asc (ah asd ase))) asf)))))) (ah asg (aQ .ret)))))
def aC1:jf 107 2015 45 [.tmp 3,.tmp 4] axn:=bX func107 (by kernel_rfl)
def aC2:=aa [.v (v1 (bq (.slice none 0 0)) some) (.t 4)]
def aC3:=aa [dF 59 [(aK 0)] 7,
 bz 7 5]
def aC4:=aa [dF 99 [(aK 5),(aK 1)] 10]
def aC5:=aa [jP 5 4]
def c47:=(ah aC2 (ah aC3 (ah aC4 (ah aC5 (aQ .ret)))))
def aJ8:jf 47 51 12 [.tmp 4] c47:=bX func47 (by kernel_rfl)
def aC6:=aa [.s (s1 (aK 0) (ia 38)) (.t 1),
 .v (v1 (bq .nilFunc) some) (.t 2)]
def aC7:=aa [.v (mh 100 [] [(aK 1)]) (.l 3),
 bz 3 2]
def c48:=(ah aC6 (ah aC7 (aQ .ret)))
def aJ9:jf 48 7 4 [.tmp 2] c48:=bX func48 (by kernel_rfl)
def aC8:=aa [.v (v1 (bq (.slice none 0 0)) some) (.t 2)]
def aC9:=aa [dF 119 [(bq (.slice none 0 0)),(aK 0)] 4,
 bz 4 2]
def c59:=(ah aC8 (ah aC9 (aQ .ret)))
def aKa:jf 59 5 5 [.tmp 2] c59:=bX func59 (by kernel_rfl)
def ash:=aa [.v (r1 (aK 1) (aM prog 38)) (.t 5),
 .v (vl [(aK 5)] dH) (.t 6),
 .v (v1 (bq (aw (.ofNat 0))) some) (.t 7)]
def asi:=aa [.v (v2 (aK 7) (aK 6) (b2 .lss .other false)) (.t 8)]
def asj:=aa [cN (aK 5) (aK 7) (ki prog 38 1) 9,
 gM 9 (aM prog 3) 10,
 bz 10 4]
def asl:=aa [.c (aK 0) [(aK 4)] (.l 13),
 .v (v1 (aH 13) (JI .not)) (.t 14)]
def asm:=aa [cN (aK 7) (bq (aw (.ofNat 1))) (b2 .add .other true) 15,
 bz 15 7]
def axo:=(ah ash (bP 0 (fM (ah asi (ah (bw (aK 8) (aQ .normal) (aQ (.exit 0))) (ah (bP 1 (ah asj (ah asl (bw (aK 14) (aQ .ret) (aQ .normal))))) asm))))))
def aDa:jf 100 16883 16 [] axo:=bX func100 (by kernel_rfl)
def asn:=aa [.s (s1 (aK 0) (ia 38)) (.t 2),
 .v (v1 (bq (.slice none 0 0)) some) (.t 4)]
def aso:=aa [jP 1 6]
def yj:Code:=EO [1,0,1,0,0] (Tryz.f119.body.getD .skip)
def yk:Code:=EO [1,0,1,0,1] (Tryz.f119.body.getD .skip)
def asp:=aa [jP 7 5]
def ab9:CF:=asp
def adp:il prog 119 13 247 yj=some ab9:=by kernel_rfl
def asq:=aa [oN 2 (aM prog 38) 8,
 .s (sl [(aK 5)] (bF prog 38 1 [0])) (.l 10),
 .s (sl [(aH 8),(aH 10)] (vj 3 1)) (.l 11),
 .s (s2 (aK 2) (aH 11) (jK 1)) .no]
def aca:CF:=(bP 1 asq)
def adq:il prog 119 13 247 yk=some aca:=by kernel_rfl
def acb:=aa [oN 2 (aM prog 38) 12,
 bz 12 4]
def axp:=(ah asn (ah (ah aso (bP 0 (lJ prog 119 13 247 (aK 6) [7] yj yk))) (ah acb (aQ .ret))))
def aDb:jf 119 247 13 [.tmp 4] axp:=bX func119 (by kernel_rfl)
def aDc:=aa [.v (vl [(aK 0)] dH) (.l 6),
 bz 6 4]
def aDd:=aa [kO 4 (xI (.int .u64)) 10,
 dF 160 [(aH 10)] 11,
 dF 159 [(aK 0),(bq (aw (.ofNat 0))),(aK 4),(aH 11),(aK 1)] 13]
def c99:=(ah aDc aDd)
def aKb:jf 99 19 14 [] c99:=bX func99 (by kernel_rfl)
def asr:=aa [.v (v1 (bq (.bool true)) some) (.t 10)]
def ass:=aa [.v (v1 (bq (.bool true)) some) (.t 11)]
def ast:=aa [cN (aK 2) (aK 1) (b2 .sub .other false) 23,
 bz 23 12]
def asu:=aa [.v (v2 (aK 12) (bq (aw (.ofNat 12))) (b2 .leq .other true)) (.t 25)]
def asv:=aa [dF 199 [(aK 0),(aK 1),(aK 2),(aK 4)] 30]
def asw:=aa [.v (v2 (aK 3) (bq (aw (.ofNat 0))) (b2 .eql .other true)) (.t 32)]
def asx:=aa [dF 200 [(aK 0),(aK 1),(aK 2),(aK 4)] 37]
def asy:=aa [.v (v1 (aK 10) (JI .not)) (.t 39)]
def asz:=aa [dF 201 [(aK 0),(aK 1),(aK 2),(aK 4)] 44]
def asA:=aa [bT 3 45,
 cN (aH 45) (bq (aw (.ofNat 1))) (b2 .sub .other true) 46,
 bz 46 3]
def ahS:=aa [dF 202 [(aK 0),(aK 1),(aK 2),(aK 4)] 52,
 ei 52 (fB 0) 53,
 ei 52 (fB 1) 54,
 bz 53 13,
 bz 54 14]
def ahT:=aa [.v (v2 (aK 14) (bq (aw (.ofNat 2))) (b2 .eql .other true)) (.t 56)]
def ahU:=aa [dF 203 [(aK 0),(aK 1),(aK 2),(aK 4)] 61]
def ahV:=aa [cN (aK 2) (bq (aw (.ofNat 1))) (b2 .sub .other true) 63,
 bT 13 64,
 cN (aH 64) (aK 1) (b2 .sub .other false) 66,
 cN (aH 63) (aH 66) (b2 .sub .other false) 67,
 bz 67 13]
def ahW:=aa [.v (v1 (bq (aw (.ofNat 1))) some) (.t 14)]
def ahX:=aa [.gd (aK 10) true (.l 70) (bT 11 70),
 .v (iS (aK 10) (aH 70) (bq (.bool false))) (.l 71),
 .gd (aH 71) true (.l 73) (bT 14 73),
 .gd (aH 71) true (.l 74) (cN (aH 73) (bq (aw (.ofNat 1))) (b2 .eql .other true) 74),
 .v (iS (aH 71) (aH 74) (bq (.bool false))) (.t 75)]
def ahY:=aa [.c (bq (dJ 204)) [(aK 0),(aK 1),(aK 2),(aK 4)] (.t 80)]
def ahZ:=fe [⟨[.pa (bT 1 81),.pa (cN (aH 81) (bq (aw (.ofNat 0))) (b2 .gtr .other true) 82),.pa (NM 82 83),.pa (.gd (aH 83) true (.l 84) (bT 4 84)),.pa (.gd (aH 83) true (.l 85) (bT 0 85)),.pa (.gd (aH 83) true (.l 86) (bT 1 86)),.pa (.gd (aH 83) true (.l 87) (cN (aH 86) (bq (aw (.ofNat 1))) (b2 .sub .other true) 87)),.pa (.gd (aH 83) true (.l 88) (cN (aH 85) (aH 87) (ki prog 38 1) 88)),.gr (aH 83) true (r1 (aH 88) (aM prog 3)) (.l 89) 0,.pa (.gd (aH 83) true (.l 90) (bT 0 90)),.pa (.gd (aH 83) true (.l 91) (bT 13 91)),.pa (.gd (aH 83) true (.l 92) (cN (aH 90) (aH 91) (ki prog 38 1) 92)),.gr (aH 83) true (r1 (aH 92) (aM prog 3)) (.l 93) 0],.gd (aH 83) true (.l 94) (.c (aH 84) [(aH 89),(aH 93)] (.l 94))⟩] [.pa (.gd (aH 83) true (.l 95) (cN (aH 94) (bq (aw (.ofNat 0))) (b2 .lss .other true) 95)),.pa (.gd (aH 83) true (.l 96) (ei 95 (JI .not) 96)),.pa (.v (iS (aH 83) (aH 96) (bq (.bool false))) (.t 97))]
def ah0:=aa [dF 205 [(aK 0),(aK 1),(aK 2),(aK 13),(aK 4)] 103,
 bz 103 15]
def ah1:=aa [jP 15 1]
def ah2:=aa [dF 206 [(aK 0),(aK 1),(aK 2),(aK 13),(aK 4)] 111,
 ei 111 (fB 0) 112,
 ei 111 (fB 1) 113,
 bz 112 16,
 bz 113 17]
def ah3:=aa [jP 17 11]
def ah4:=aa [cN (aK 16) (aK 1) (b2 .sub .other false) 117,
 cN (aK 2) (aK 16) (b2 .sub .other false) 120,
 bz 117 18,
 bz 120 19]
def ah5:=aa [cN (aK 12) (bq (aw (.ofNat 8))) (b2 .quo .other true) 122,
 bz 122 20]
def ah6:=aa [.v (v2 (aK 18) (aK 19) (b2 .lss .other false)) (.t 125)]
def ah7:=aa [cN (aK 18) (aK 20) (b2 .geq .other false) 128,
 bz 128 10]
def ah8:=aa [dF 159 [(aK 0),(aK 1),(aK 16),(aK 3),(aK 4)] 134]
def ah9:=aa [cN (aK 16) (bq (aw (.ofNat 1))) (b2 .add .other true) 136,
 bz 136 1]
def aia:=aa [cN (aK 19) (aK 20) (b2 .geq .other false) 139,
 bz 139 10]
def aib:=aa [cN (aK 16) (bq (aw (.ofNat 1))) (b2 .add .other true) 142,
 dF 159 [(aK 0),(aH 142),(aK 2),(aK 3),(aK 4)] 146]
def aic:=aa [jP 16 2]
def axq:=(ah asr (ah ass (bP 0 (fM (bP 1 (ah ast (ah (ah asu (bw (aK 25) (ah asv (aQ .ret)) (aQ .normal))) (ah (ah asw (bw (aK 32) (ah asx (aQ .ret)) (aQ .normal))) (ah (ah asy (bw (aK 39) (ah asz asA) (aQ .normal))) (ah ahS (ah (ah ahT (bw (aK 56) (ah ahU (ah ahV ahW)) (aQ .normal))) (ah (ah ahX (bw (aK 75) (ah ahY (bw (aK 80) (aQ .ret) (aQ .normal))) (aQ .normal))) (ah (ah ahZ (bw (aK 97) (ah ah0 (ah ah1 (aQ (.exit 1)))) (aQ .normal))) (ah ah2 (ah ah3 (ah ah4 (ah ah5 (ah ah6 (bw (aK 125) (ah ah7 (ah ah8 ah9)) (ah aia (ah aib aic)))))))))))))))))))))
def aDe:jf 159 42535296023574879666274036850519702559 148 [] axq:=bX func159 (by kernel_rfl)
def asB:=aa [cN (aK 1) (bq (aw (.ofNat 1))) (b2 .add .other true) 11,
 bz 11 8]
def asC:=aa [.v (v2 (aK 8) (aK 2) (b2 .lss .other false)) (.t 14)]
def asD:=aa [jP 8 9]
def asE:=fe [⟨[.pa (bT 9 18),.pa (bT 1 19),.pa (cN (aH 18) (aH 19) (b2 .gtr .other false) 20),.pa (NM 20 21),.pa (.gd (aH 21) true (.l 22) (bT 3 22)),.pa (.gd (aH 21) true (.l 23) (bT 0 23)),.pa (.gd (aH 21) true (.l 24) (bT 9 24)),.pa (.gd (aH 21) true (.l 25) (cN (aH 23) (aH 24) (ki prog 38 1) 25)),.gr (aH 21) true (r1 (aH 25) (aM prog 3)) (.l 26) 0,.pa (.gd (aH 21) true (.l 27) (bT 0 27)),.pa (.gd (aH 21) true (.l 28) (bT 9 28)),.pa (.gd (aH 21) true (.l 29) (cN (aH 28) (bq (aw (.ofNat 1))) (b2 .sub .other true) 29)),.pa (.gd (aH 21) true (.l 30) (cN (aH 27) (aH 29) (ki prog 38 1) 30)),.gr (aH 21) true (r1 (aH 30) (aM prog 3)) (.l 31) 0],.gd (aH 21) true (.l 32) (.c (aH 22) [(aH 26),(aH 31)] (.l 32))⟩] [.pa (.gd (aH 21) true (.l 33) (cN (aH 32) (bq (aw (.ofNat 0))) (b2 .lss .other true) 33)),.pa (.v (iS (aH 21) (aH 33) (bq (.bool false))) (.t 34))]
def asF:=fe [⟨[.pa (bT 0 37),.pa (bT 9 38),.pa (bT 0 39),.pa (bT 9 40),.pa (cN (aH 40) (bq (aw (.ofNat 1))) (b2 .sub .other true) 41),.pa (bT 0 42),.pa (bT 9 43),.pa (cN (aH 43) (bq (aw (.ofNat 1))) (b2 .sub .other true) 44),.pa (cN (aH 42) (aH 44) (ki prog 38 1) 45),.rd (r1 (aH 45) (aM prog 3)) (.l 46) 0,.pa (bT 0 47),.pa (bT 9 48),.pa (cN (aH 47) (aH 48) (ki prog 38 1) 49),.rd (r1 (aH 49) (aM prog 3)) (.l 50) 0,.pa (cN (aH 37) (aH 38) (ki prog 38 1) 51)],.s (s2 (aH 51) (aH 46) (jK 1)) .no⟩,⟨[.pa (cN (aH 39) (aH 41) (ki prog 38 1) 52)],.s (s2 (aH 52) (aH 50) (jK 1)) .no⟩] []
def asG:=aa [bT 9 35,
 cN (aH 35) (bq (aw (.ofNat 1))) (b2 .sub .other true) 36,
 bz 36 9]
def asH:=aa [bT 8 15,
 cN (aH 15) (bq (aw (.ofNat 1))) (b2 .add .other true) 16,
 bz 16 8]
def axr:=(ah asB (bP 0 (fM (ah (ah asC (bw (aK 14) (aQ .normal) (aQ (.exit 0)))) (ah (bP 1 (ah asD (bP 2 (fM (ah (ah asE (bw (aK 34) (aQ .normal) (aQ (.exit 2)))) (ah (bP 3 asF) asG)))))) asH)))))
def aDf:jf 199 17179886351 53 [] axr:=bX func199 (by kernel_rfl)
def ak7:=aa [.s (s1 (aK 0) (ia 24)) (.t 3),
 .s (s1 (aK 1) (ia 3)) (.t 4),
 .s (s1 (aK 2) (ia 4)) (.t 5),
 .v (v1 (bq .nilFunc) some) (.t 6)]
def ak8:=aa [oN 3 (aM prog 24) 11,
 dF 13 [(aH 11)] 12,
 .s (tB 44 [(.pointer none)]) (.t 7),
 .s (s2 (aK 7) (aH 12) (jK 1)) .no]
def ak9:=aa [.v (mh 72 [] [(aK 3),(aK 4)]) (.l 13),
 .s (tB 120 [.nilFunc]) (.t 8),
 .s (s2 (aK 8) (aH 13) (jK 1)) .no]
def ala:=aa [.v (mh 73 [] [(aK 3),(aK 4)]) (.l 14),
 .s (tB 40 [.nilFunc]) (.t 9),
 .s (s2 (aK 9) (aH 14) (jK 1)) .no]
def alb:=aa [.v (mh 74 [] [(aK 3),(aK 4),(aK 7)]) (.l 15),
 .s (tB 56 [.nilFunc]) (.t 10),
 .s (s2 (aK 10) (aH 15) (jK 1)) .no]
def alc:=aa [.v (mh 76 [] [(aK 3),(aK 8),(aK 9),(aK 10),(aK 5),(aK 4)]) (.l 16),
 bz 16 6]
def c30:=(ah ak7 (ah ak8 (ah ak9 (ah ala (ah alb (ah alc (aQ .ret)))))))
def aKc:jf 30 2047 17 [.tmp 6] c30:=bX func30 (by kernel_rfl)
def ald:=aa [.v (v1 (bq (.slice none 0 0)) some) (.t 4)]
def ale:=aa [jP 0 7,
 .v (vl [(aK 7)] dH) (.t 8),
 .v (v1 (bq (aw (.ofNat 0))) some) (.t 9)]
def alf:=aa [.v (v2 (aK 9) (aK 8) (b2 .lss .other false)) (.t 10)]
def alg:=aa [cN (aK 7) (aK 9) (ki prog 38 1) 11,
 gM 11 (aM prog 3) 12,
 bz 12 6]
def alh:=aa [bT 4 13,
 oN 1 (aM prog 24) 14,
 oN 2 (aM prog 3) 16,
 dF 10 [(aH 14),(aK 6),(aH 16)] 17,
 .s (sl [(aH 17)] (bF prog 38 1 [0])) (.l 18),
 .s (sl [(aH 13),(aH 18)] (vj 3 1)) (.l 19),
 bz 19 4]
def ali:=aa [cN (aK 9) (bq (aw (.ofNat 1))) (b2 .add .other true) 20,
 bz 20 9]
def alj:=aa [bT 4 21,
 bz 21 4]
def c72:=(ah ald (ah (ah ale (bP 0 (fM (ah alf (ah (bw (aK 10) (aQ .normal) (aQ (.exit 0))) (ah (bP 1 (ah alg alh)) ali)))))) (ah alj (aQ .ret))))
def aKd:jf 72 2007 22 [.tmp 4] c72:=bX func72 (by kernel_rfl)
def alk:=aa [.v (v1 (bq (aw (.ofNat 0))) some) (.t 4)]
def alm:=fe [⟨[.rd (r1 (aK 1) (aM prog 24)) (.l 5) 1,.rd (r1 (aK 1) (aM prog 24)) (.l 6) 0,.pa (bT 0 7),.rd (r1 (aK 2) (aM prog 3)) (.l 8) 0],dF 10 [(aH 6),(aH 7),(aH 8)] 9⟩,⟨[],dF 20 [(aH 5),(aH 9)] 10⟩] [.pa (bz 10 4)]
def c73:=(ah alk (ah alm (aQ .ret)))
def aKe:jf 73 23 11 [.tmp 4] c73:=bX func73 (by kernel_rfl)
def aln:=aa [.s (s1 (aK 0) (ia 33)) (.t 4),
 .v (v1 (bq (aw (.ofNat 0))) some) (.t 5)]
def alo:=fe [⟨[.rd (r1 (aK 1) (aM prog 24)) (.l 6) 1,.rd (r1 (aK 2) (aM prog 3)) (.l 7) 1,.rd (r1 (aK 3) (aM prog 44)) (.l 8) 0,.rd (r1 (aK 4) (aM prog 33)) (.l 9) 0],dF 17 [(aH 8),(aH 9)] 10⟩,⟨[],dF 75 [(aH 6),(aH 7),(aH 10)] 11⟩] [.pa (bz 11 5)]
def c74:=(ah aln (ah alo (aQ .ret)))
def aKf:jf 74 63 12 [.tmp 5] c74:=bX func74 (by kernel_rfl)
def aaQ:=fe [⟨[.pa (bT 0 15),.rd (r1 (aK 1) (aM prog 24)) (.l 16) 1,.rd (r1 (aK 2) (aM prog 120)) (.l 17) 0,.pa (.s (sl [(bq (aw (.ofNat 0))),(bq (aw (.ofNat 1))),(bq (aw (.ofNat 2))),(bq (aw (.ofNat 3))),(bq (aw (.ofNat 4))),(bq (aw (.ofNat 5)))] (bF prog 38 6 [0,1,2,3,4,5])) (.l 18))],.c (aH 17) [(aH 18)] (.l 19)⟩,⟨[],dF 19 [(aH 16),(aH 19)] 20⟩,⟨[],.c (aH 15) [(aH 20)] (.l 21)⟩] [.pa (.v (v1 (aH 21) (JI .not)) (.t 22))]
def alp:=aa [.v (v1 (bq (aw (.ofNat 0))) some) (.t 23)]
def aaR:=aa [.v (v2 (aK 23) (bq (aw (.ofNat 6))) (b2 .lss .other true)) (.t 24)]
def aaS:=aa [jP 23 8]
def aaT:=aa [cN (aK 8) (bq (aw (.ofNat 1))) (b2 .add .other true) 27,
 bz 27 9]
def aaU:=aa [.v (v2 (aK 9) (bq (aw (.ofNat 6))) (b2 .lss .other true)) (.t 29)]
def UC:=fe [⟨[.pa (bT 0 32),.rd (r1 (aK 1) (aM prog 24)) (.l 33) 2,.rd (r1 (aK 3) (aM prog 40)) (.l 34) 0,.pa (bT 8 35),.rd (r1 (aK 3) (aM prog 40)) (.l 37) 1,.pa (bT 9 38)],.c (aH 34) [(aH 35)] (.l 36)⟩,⟨[],.c (aH 37) [(aH 38)] (.l 39)⟩,⟨[.pa (.s (sl [(aH 36),(aH 39)] (bF prog 38 2 [0,1])) (.l 40))],dF 19 [(aH 33),(aH 40)] 41⟩,⟨[],.c (aH 32) [(aH 41)] (.l 42)⟩] [.pa (.v (v1 (aH 42) (JI .not)) (.t 43))]
def aaV:=aa [bT 9 30,
 cN (aH 30) (bq (aw (.ofNat 1))) (b2 .add .other true) 31,
 bz 31 9]
def aaW:=aa [cN (aK 23) (bq (aw (.ofNat 1))) (b2 .add .other true) 44,
 bz 44 23]
def aaX:=fe [⟨[.rd (r1 (aK 1) (aM prog 24)) (.l 45) 2,.rd (r1 (aK 3) (aM prog 40)) (.l 46) 0,.rd (r1 (aK 4) (aM prog 56)) (.l 48) 1,.pa (.v (vl [] (cA prog 33 [])) (.l 49)),.rd (r1 (aK 1) (aM prog 24)) (.l 53) 6,.rd (r1 (aK 3) (aM prog 40)) (.l 54) 3,.rd (r1 (aK 4) (aM prog 56)) (.l 56) 4,.pa (.v (vl [(bq (aw (.ofNat 1))),(bq (.bool true))] (cA prog 33 [0,1])) (.l 57)),.rd (r1 (aK 4) (aM prog 56)) (.l 59) 5,.pa (.v (vl [(bq (aw (.ofNat 1)))] (cA prog 33 [0])) (.l 60))],.c (aH 46) [(bq (aw (.ofNat 0)))] (.l 47)⟩,⟨[],.c (aH 48) [(aH 49)] (.l 50)⟩,⟨[.pa (.s (sl [(aH 47),(aH 50)] (bF prog 38 2 [0,1])) (.l 51))],dF 19 [(aH 45),(aH 51)] 52⟩,⟨[],.c (aH 54) [(bq (aw (.ofNat 1)))] (.l 55)⟩,⟨[],.c (aH 56) [(aH 57)] (.l 58)⟩,⟨[],.c (aH 59) [(aH 60)] (.l 61)⟩,⟨[.pa (.s (sl [(aH 55),(aH 58),(aH 61)] (bF prog 38 3 [0,1,2])) (.l 62))],dF 19 [(aH 53),(aH 62)] 63⟩] [.pa (.s (sl [(aH 52),(aH 63)] (bF prog 38 2 [0,1])) (.l 64)),.pa (bz 64 10)]
def Sy:=aa [.s (sl [(bq (aw (.ofNat 1))),(bq (aw (.negSucc 0)))] (bF prog 121 2 [0,1])) (.t 65),
 .v (vl [(aK 65)] dH) (.t 66),
 .v (v1 (bq (aw (.ofNat 0))) some) (.t 67)]
def SA:=aa [.v (v2 (aK 67) (aK 66) (b2 .lss .other false)) (.t 68)]
def SB:=aa [cN (aK 65) (aK 67) (ki prog 121 1) 69,
 gM 69 (aM prog 2) 70,
 bz 70 12]
def SC:=aa [oN 5 (aM prog 4) 71,
 .v (v1 (aH 71) (JI .not)) (.t 72)]
def LW:=fe [⟨[.pa (bT 10 73),.rd (r1 (aK 1) (aM prog 24)) (.l 74) 5,.rd (r1 (aK 1) (aM prog 24)) (.l 75) 0,.rd (r1 (aK 6) (aM prog 3)) (.l 76) 0,.rd (r1 (aK 1) (aM prog 24)) (.l 78) 4,.rd (r1 (aK 6) (aM prog 3)) (.l 79) 1,.pa (bT 12 81)],dF 10 [(aH 75),(bq (aw (.ofNat 2))),(aH 76)] 77⟩,⟨[],dF 16 [(aH 79)] 80⟩,⟨[],dF 54 [(aH 81)] 82⟩,⟨[],dF 77 [(aH 80),(aH 82)] 83⟩,⟨[],dF 15 [(aH 78),(aH 83)] 84⟩,⟨[.pa (.s (sl [(aH 77),(aH 84)] (bF prog 38 2 [0,1])) (.l 85))],dF 19 [(aH 74),(aH 85)] 86⟩,⟨[.pa (.s (sl [(aH 86)] (bF prog 38 1 [0])) (.l 87))],.s (sl [(aH 73),(aH 87)] (vj 3 1)) (.l 88)⟩] [.pa (bz 88 10)]
def SD:=aa [cN (aK 67) (bq (aw (.ofNat 1))) (b2 .add .other true) 89,
 bz 89 67]
def SE:=aa [jP 10 90,
 .v (vl [(aK 90)] dH) (.t 91),
 .v (v1 (bq (aw (.ofNat 0))) some) (.t 92)]
def SH:=aa [.v (v2 (aK 92) (aK 91) (b2 .lss .other false)) (.t 93)]
def SI:=aa [cN (aK 90) (aK 92) (ki prog 38 1) 94,
 gM 94 (aM prog 3) 95,
 bz 95 14]
def SJ:=aa [.c (aK 0) [(aK 14)] (.l 98),
 .v (v1 (aH 98) (JI .not)) (.t 99)]
def SK:=aa [cN (aK 92) (bq (aw (.ofNat 1))) (b2 .add .other true) 100,
 bz 100 92]
def c76:=(ah (ah aaQ (bw (aK 22) (aQ .ret) (aQ .normal))) (ah (ah alp (bP 0 (fM (ah aaR (ah (bw (aK 24) (aQ .normal) (aQ (.exit 0))) (ah (bP 1 (ah aaS (ah aaT (bP 2 (fM (ah (ah aaU (bw (aK 29) (aQ .normal) (aQ (.exit 2)))) (ah (bP 3 (ah UC (bw (aK 43) (aQ .ret) (aQ .normal)))) aaV))))))) aaW)))))) (ah aaX (ah (ah Sy (bP 4 (fM (ah SA (ah (bw (aK 68) (aQ .normal) (aQ (.exit 4))) (ah (bP 5 (ah SB (ah (ah SC (bw (aK 72) (aQ (.exit 4)) (aQ .normal))) LW))) SD)))))) (ah SE (bP 6 (fM (ah SH (ah (bw (aK 93) (aQ .normal) (aQ (.exit 6))) (ah (bP 7 (ah SI (ah SJ (bw (aK 99) (aQ .ret) (aQ .normal))))) SK))))))))))
def aKg:jf 76 652394405979164218749429503871 101 [] c76:=bX func76 (by kernel_rfl)
def alq:=aa [.s (s1 (aK 0) (ia 24)) (.t 3),
 .s (s1 (aK 2) (ia 73)) (.t 5),
 .s (tB 38 [(.slice none 0 0)]) (.t 6)]
def alr:=aa [jP 1 8]
def BZ:Code:=EO [1,0,1,0,0] (Tryz.f29.body.getD .skip)
def B0:Code:=EO [1,0,1,0,1] (Tryz.f29.body.getD .skip)
def als:=aa [jP 9 7]
def alu:CF:=als
def aid:il prog 29 29 8389615 BZ=some alu:=by kernel_rfl
def alv:=aa [oN 5 (aM prog 73) 10,
 .v (r2 (aH 10) (aK 7) (λs x i=>jR prog s 73 false i x)) (.l 12),
 cN (aH 12) (bq (aw (.ofNat 1))) (b2 .add .other true) 13,
 .s (s3 (aH 10) (aK 7) (aH 13) (iF prog 73)) .no]
def alw:=aa [oN 5 (aM prog 73) 14,
 .v (r2 (aH 14) (aK 7) (λs x i=>jR prog s 73 false i x)) (.l 16),
 cN (aH 16) (bq (aw (.ofNat 1))) (b2 .eql .other true) 17,
 .gd (aH 17) true (.l 19) (oN 3 (aM prog 24) 19),
 .gd (aH 17) true (.l 20) (bT 7 20),
 .gd (aH 17) true (.l 21) (dF 9 [(aH 19),(aH 20)] 21),
 .gd (aH 17) true (.l 22) (cN (aH 21) (bq (aw (.ofNat 0))) (b2 .neq .other true) 22),
 .v (iS (aH 17) (aH 22) (bq (.bool false))) (.t 23)]
def alx:=aa [oN 6 (aM prog 38) 24,
 .s (sl [(aK 7)] (bF prog 38 1 [0])) (.l 26),
 .s (sl [(aH 24),(aH 26)] (vj 3 1)) (.l 27),
 .s (s2 (aK 6) (aH 27) (jK 1)) .no]
def aly:CF:=(bP 1 (ah alv (ah alw (bw (aK 23) alx (aQ .normal)))))
def aie:il prog 29 29 8389615 B0=some aly:=by kernel_rfl
def alz:=aa [oN 6 (aM prog 38) 28,
 .s (s2 (aK 6) (aH 28) (jK 1)) .no]
def c29:=(ah alq (ah (ah alr (bP 0 (lJ prog 29 29 8389615 (aK 8) [9] BZ B0))) (ah alz (aQ .ret))))
def aKh:jf 29 8389615 29 [.cell 6 38] c29:=bX func29 (by kernel_rfl)
def axs:=aa [.v (v1 (bq (.slice none 0 0)) some) (.t 4)]
def axt:=aa [cN (aK 0) (bq (.pointer none)) (b2 .eql .ptr true) 6,
 .gd (aH 6) false (.l 8) (bT 1 8),
 .gd (aH 6) false (.l 9) (cN (aH 8) (bq (aw (.ofNat 0))) (b2 .lss .other true) 9),
 .v (iS (aH 6) (bq (.bool true)) (aH 9)) (.l 10),
 .gd (aH 10) false (.l 12) (bT 1 12),
 .gd (aH 10) false (.l 13) (bT 0 13),
 .gd (aH 10) false (.l 14) (dF 13 [(aH 13)] 14),
 .gd (aH 10) false (.l 15) (dF 28 [(aH 14)] 15),
 .gd (aH 10) false (.l 16) (cN (aH 12) (aH 15) (b2 .geq .other false) 16),
 .v (iS (aH 10) (bq (.bool true)) (aH 16)) (.t 17)]
def aKi:=aa [.v (v1 (bq (.slice none 0 0)) some) (.t 4)]
def axu:=aa [dF 30 [(aK 0),(aK 1),(bq (.bool true))] 21,
 .s (AH 3) (.l 22),
 dF 29 [(aK 0),(aH 21),(aH 22)] 23,
 bz 23 4]
def c8:=(ah axs (ah (ah axt (bw (aK 17) (ah aKi (aQ .ret)) (aQ .normal))) (ah axu (aQ .ret))))
def ev8:jf 8 131091 24 [.tmp 4] c8:=bX func8 (by kernel_rfl)
def alA:=aa [.v (v1 (bq (.pointer none)) some) (.t 0)]
def alB:=aa [.s (AH 90) (.l 1),
 .v (vl [(aH 1)] (cA prog 118 [1])) (.l 2),
 .s (s1 (aH 2) (ia 118)) (.l 3),
 bz 3 0]
def c21:=(ah alA (ah alB (aQ .ret)))
def aKj:jf 21 1 4 [.tmp 0] c21:=bX func21 (by kernel_rfl)
def alC:=aa [.v (v1 (bq (aw (.ofNat 0))) some) (.t 4)]
def alD:=aa [kO 0 dt 6,
 ei 6 (ct 0) 7,
 gM 7 (aM prog 22) 8,
 .v (vl [(aH 8)] dH) (.l 9),
 .v (v2 (aH 9) (bq (aw (.ofNat 0))) (b2 .eql .other true)) (.t 10)]
def alE:=aa [.v (v1 (bq (aw (.ofNat 0))) some) (.t 4)]
def alF:=aa [kO 0 dt 12,
 ei 12 (ct 1) 13,
 gM 13 (aM prog 3) 14,
 cN (aH 14) (bq (aw (.ofNat 1))) (b2 .add .other true) 15,
 kO 0 dt 16,
 ei 16 (ct 1) 17,
 .s (s2 (aH 17) (aH 15) (jK 1)) .no]
def alG:=fe [] [.pa (bT 0 18),.pa (ei 18 dt 19),.pa (ei 19 (ct 0) 20),.rd (r1 (aH 20) (aM prog 22)) (.l 21) 0,.pa (bT 0 22),.pa (ei 22 dt 23),.pa (ei 23 (ct 1) 24),.rd (r1 (aH 24) (aM prog 3)) (.l 25) 0,.pa (cN (aH 25) (bq (aw (.ofNat 1))) (b2 .sub .other true) 26),.pa (bT 0 27),.pa (ei 27 dt 28),.pa (ei 28 (ct 0) 29),.rd (r1 (aH 29) (aM prog 22)) (.l 30) 0,.pa (.v (vl [(aH 30)] dH) (.l 31)),.pa (cN (aH 26) (aH 31) (b2 .rem .other false) 32),.pa (cN (aH 21) (aH 32) (ki prog 22 1) 33),.rd (r1 (aH 33) (aM prog 5)) (.l 34) 0,.pa (bT 0 35),.pa (ei 35 dt 36),.pa (ei 36 (ct 1) 37),.rd (r1 (aH 37) (aM prog 3)) (.l 38) 0,.pa (cN (aH 38) (bq (aw (.ofNat 1))) (b2 .sub .other true) 39),.pa (bT 0 40),.pa (ei 40 dt 41),.pa (ei 41 (ct 0) 42),.rd (r1 (aH 42) (aM prog 22)) (.l 43) 0,.pa (.v (vl [(aH 43)] dH) (.l 44)),.pa (cN (aH 39) (aH 44) (b2 .quo .other false) 45),.pa (ei 45 (xI (.int .u8)) 46),.pa (cN (aH 34) (aH 46) (b2 .add .other false) 47),.pa (ei 47 (xI (.int .i64)) 48),.pa (bT 1 49),.pa (cN (aH 48) (aH 49) (b2 .rem .other false) 50),.pa (bz 50 4)]
def c26:=(ah alC (ah (ah alD (bw (aK 10) (ah alE (aQ .ret)) (aQ .normal))) (ah alF (ah alG (aQ .ret)))))
def aKk:jf 26 1043 51 [.tmp 4] c26:=bX func26 (by kernel_rfl)
def alH:=aa [.s (tB 33 [(aw (.ofNat 0)),(.bool false),(.string ⟨⟨[]⟩⟩),(.string ⟨⟨[]⟩⟩),(.slice none 0 0),(.slice none 0 0),(aw (.ofNat 0))]) (.t 2)]
def alI:=aa [.c (bq (dJ 26)) [(aK 0),(bq (aw (.ofNat 8)))] (.t 4)]
def alJ:=aa [cN (aK 4) (bq (aw (.ofNat 0))) (b2 .eql .other true) 6,
 bz 6 5]
def alK:=aa [.v (vl [] (cA prog 33 [])) (.l 7),
 .s (s2 (aK 2) (aH 7) (jK 7)) .no]
def alL:=aa [cN (aK 4) (bq (aw (.ofNat 1))) (b2 .eql .other true) 9,
 bz 9 8]
def alM:=aa [dF 26 [(aK 0),(bq (aw (.ofNat 2)))] 11,
 cN (aH 11) (bq (aw (.ofNat 1))) (b2 .eql .other true) 12,
 .v (vl [(bq (aw (.ofNat 1))),(aH 12)] (cA prog 33 [0,1])) (.l 13),
 .s (s2 (aK 2) (aH 13) (jK 7)) .no]
def alN:=aa [cN (aK 4) (bq (aw (.ofNat 2))) (b2 .eql .other true) 15,
 bz 15 14]
def alO:=aa [cN (aK 4) (bq (aw (.ofNat 3))) (b2 .eql .other true) 16,
 bz 16 14]
def aaY:=aa [.s (sl [(bq (.string ⟨⟨[97]⟩⟩)),(bq (.string ⟨⟨[98]⟩⟩))] (bF prog 30 2 [0,1])) (.l 17),
 dF 26 [(aK 0),(bq (aw (.ofNat 2)))] 19,
 cN (aH 17) (aH 19) (ki prog 30 1) 20,
 gM 20 (aM prog 9) 21,
 .v (vl [(bq (aw (.ofNat 3))),(aH 21)] (cA prog 33 [0,3])) (.l 22),
 .s (s2 (aK 2) (aH 22) (jK 7)) .no]
def alP:=aa [cN (aK 4) (bq (aw (.ofNat 4))) (b2 .eql .other true) 24,
 bz 24 23]
def acd:=aa [.v (vl [(bq (aw (.ofNat 4)))] (cA prog 33 [0])) (.l 25),
 .s (s2 (aK 2) (aH 25) (jK 7)) .no]
def SL:=aa [.s (sl [(bq (.string ⟨⟨[48]⟩⟩)),(bq (.string ⟨⟨[49]⟩⟩)),(bq (.string ⟨⟨[45,49]⟩⟩)),(bq (.string ⟨⟨[50]⟩⟩)),(bq (.string ⟨⟨[53]⟩⟩))] (bF prog 30 5 [0,1,2,3,4])) (.l 26),
 dF 26 [(aK 0),(bq (aw (.ofNat 5)))] 28,
 cN (aH 26) (aH 28) (ki prog 30 1) 29,
 gM 29 (aM prog 9) 30,
 .v (vl [(bq (aw (.ofNat 2))),(aH 30)] (cA prog 33 [0,2])) (.l 31),
 .s (s2 (aK 2) (aH 31) (jK 7)) .no]
def c27:=(ah alH (ah (ah alI (bP 0 (ah alJ (bw (aK 5) (ah alK (aQ .ret)) (ah alL (bw (aK 8) (ah alM (aQ .ret)) (ah (ah alN (bw (aK 14) (aQ .normal) alO)) (bw (aK 14) (ah aaY (aQ .ret)) (ah alP (bw (aK 23) (ah acd (aQ .ret)) (aQ .normal))))))))))) (ah SL (aQ .ret))))
def aKl:jf 27 8405301 32 [.cell 2 33] c27:=bX func27 (by kernel_rfl)
def axv:=aa [.s (tB 36 [(aw (.ofNat 0)),(aw (.ofNat 0)),(aw (.ofNat 0)),(.bool false),(.string ⟨⟨[]⟩⟩),(.string ⟨⟨[]⟩⟩),(.slice none 0 0),(.slice none 0 0),(aw (.ofNat 0)),(.slice none 0 0)]) (.t 6)]
def axw:=aa [dF 26 [(aK 0),(bq (aw (.ofNat 8)))] 9,
 bz 9 7]
def axx:=aa [cN (aK 7) (bq (aw (.ofNat 3))) (b2 .lss .other true) 12,
 bz 12 10]
def axy:=aa [dF 26 [(aK 0),(bq (aw (.ofNat 4)))] 14,
 cN (bq (aw (.ofNat 1))) (aH 14) (b2 .add .other true) 15,
 .v (vl [(aH 15)] (cA prog 36 [1])) (.l 16),
 .s (s2 (aK 6) (aH 16) (jK 10)) .no]
def axz:=aa [cN (aK 7) (bq (aw (.ofNat 4))) (b2 .lss .other true) 19,
 .gd (aH 19) true (.l 21) (bT 0 21),
 .gd (aH 19) true (.l 22) (ei 21 dt 22),
 .gd (aH 19) true (.l 23) (ei 22 (ct 2) 23),
 .gd (aH 19) true (.l 24) (gM 23 (aM prog 3) 24),
 .gd (aH 19) true (.l 25) (bT 2 25),
 .gd (aH 19) true (.l 26) (cN (aH 24) (aH 25) (b2 .add .other false) 26),
 .gd (aH 19) true (.l 27) (cN (aH 26) (bq (aw (.ofNat 0))) (b2 .gtr .other true) 27),
 .v (iS (aH 19) (aH 27) (bq (.bool false))) (.l 28),
 bz 28 17]
def aKm:=aa [kO 0 dt 31,
 ei 31 (ct 2) 32,
 gM 32 (aM prog 3) 33,
 cN (aH 33) (aK 2) (b2 .add .other false) 35,
 dF 26 [(aK 0),(aH 35)] 36,
 .v (vl [(bq (aw (.ofNat 1))),(aH 36)] (cA prog 36 [0,1])) (.l 37),
 .s (s2 (aK 6) (aH 37) (jK 10)) .no]
def an4:=aa [cN (aK 7) (bq (aw (.ofNat 6))) (b2 .lss .other true) 40,
 .gd (aH 40) false (.l 42) (bT 1 42),
 .gd (aH 40) false (.l 43) (cN (aH 42) (bq (aw (.ofNat 1))) (b2 .lss .other true) 43),
 .v (iS (aH 40) (bq (.bool true)) (aH 43)) (.l 44),
 bz 44 38]
def afS:=aa [dF 27 [(aK 0)] 46,
 .v (vl [(bq (aw (.ofNat 2))),(aH 46)] (cA prog 36 [0,2])) (.l 47),
 .s (s2 (aK 6) (aH 47) (jK 10)) .no]
def an5:=aa [cN (aK 7) (bq (aw (.ofNat 7))) (b2 .lss .other true) 50,
 bz 50 48]
def an6:=aa [cN (aK 1) (bq (aw (.ofNat 1))) (b2 .sub .other true) 53,
 dF 7 [(aK 0),(aH 53),(aK 2)] 55,
 cN (aK 1) (bq (aw (.ofNat 1))) (b2 .sub .other true) 58,
 dF 7 [(aK 0),(aH 58),(aK 2)] 60,
 .s (sl [(aH 55),(aH 60)] (bF prog 34 2 [0,1])) (.l 61),
 .v (vl [(bq (aw (.ofNat 3))),(aH 61)] (cA prog 36 [0,3])) (.l 62),
 .s (s2 (aK 6) (aH 62) (jK 10)) .no]
def UD:=aa [cN (aK 1) (bq (aw (.ofNat 1))) (b2 .sub .other true) 65,
 dF 7 [(aK 0),(aH 65),(aK 2)] 67,
 cN (aK 1) (bq (aw (.ofNat 1))) (b2 .sub .other true) 70,
 dF 7 [(aK 0),(aH 70),(aK 2)] 72,
 cN (aK 1) (bq (aw (.ofNat 1))) (b2 .sub .other true) 75,
 dF 7 [(aK 0),(aH 75),(aK 2)] 77,
 .s (sl [(aH 67),(aH 72),(aH 77)] (bF prog 34 3 [0,1,2])) (.l 78),
 .v (vl [(bq (aw (.ofNat 4))),(aH 78)] (cA prog 36 [0,3])) (.l 79),
 .s (s2 (aK 6) (aH 79) (jK 10)) .no]
def c7:=(ah axv (ah (ah axw (bP 0 (ah axx (bw (aK 10) (ah axy (aQ .ret)) (ah axz (bw (aK 17) (ah aKm (aQ .ret)) (ah an4 (bw (aK 38) (ah afS (aQ .ret)) (ah an5 (bw (aK 48) (ah an6 (aQ .ret)) (aQ .normal))))))))))) (ah UD (aQ .ret))))
def ev7:jf 7 281749854749895 80 [.cell 6 36] c7:=bX func7 (by kernel_rfl)
def axA:=aa [.s (s1 (aK 1) (ia 36)) (.t 3),
 .v (v1 (bq (aw (.ofNat 0))) some) (.t 4)]
def axB:=aa [.v (v1 (bq (.slice none 0 0)) some) (.t 5)]
def an7:=aa [.v (v1 (bq (aw (.ofNat 0))) some) (.t 6)]
def an8:=aa [kO 3 (ct 9) 9,
 gM 9 (aM prog 34) 10,
 .v (vl [(aH 10)] dH) (.l 11),
 .v (v2 (aK 6) (aH 11) (b2 .lss .other false)) (.t 12)]
def an9:=aa [bT 5 15,
 kO 3 (ct 9) 17,
 gM 17 (aM prog 34) 18,
 cN (aH 18) (aK 6) (ki prog 34 10) 20,
 gM 20 (aM prog 36) 21,
 dF 6 [(aK 0),(aH 21)] 22,
 .s (sl [(aH 22)] (bF prog 38 1 [0])) (.l 23),
 .s (sl [(aH 15),(aH 23)] (vj 3 1)) (.l 24),
 bz 24 5]
def aoa:=aa [bT 6 13,
 cN (aH 13) (bq (aw (.ofNat 1))) (b2 .add .other true) 14,
 bz 14 6]
def aob:=aa [dF 13 [(aK 0)] 26,
 bz 26 7]
def ZG:=aa [kO 3 (ct 0) 27,
 .v (r1 (aH 27) (aM prog 3)) (.t 28)]
def ZH:=aa [cN (aK 28) (bq (aw (.ofNat 0))) (b2 .eql .other true) 30,
 bz 30 29]
def axC:=aa [kO 3 (ct 1) 32,
 gM 32 (aM prog 3) 33,
 dF 14 [(aK 7),(aH 33)] 34,
 bz 34 4]
def UE:=aa [cN (aK 28) (bq (aw (.ofNat 1))) (b2 .eql .other true) 36,
 bz 36 35]
def aDg:=aa [kO 3 (ct 1) 38,
 gM 38 (aM prog 3) 39,
 dF 23 [(aK 7),(aH 39)] 40,
 bz 40 4]
def UF:=aa [cN (aK 28) (bq (aw (.ofNat 2))) (b2 .eql .other true) 42,
 bz 42 41]
def alQ:=aa [kO 3 (ct 2) 44,
 gM 44 (aM prog 33) 45,
 dF 17 [(aK 7),(aH 45)] 46,
 bz 46 4]
def aaZ:=aa [cN (aK 28) (bq (aw (.ofNat 3))) (b2 .eql .other true) 48,
 bz 48 47]
def alR:=fe [⟨[.pa (bT 7 49),.pa (bT 5 50),.pa (cN (aH 50) (bq (aw (.ofNat 0))) (ki prog 38 1) 51),.rd (r1 (aH 51) (aM prog 3)) (.l 52) 0,.pa (bT 5 53),.pa (cN (aH 53) (bq (aw (.ofNat 1))) (ki prog 38 1) 54),.rd (r1 (aH 54) (aM prog 3)) (.l 55) 0],dF 24 [(aH 49),(aH 52),(aH 55)] 56⟩] [.pa (bz 56 4)]
def alS:=fe [⟨[.pa (bT 7 57),.pa (bT 5 58),.pa (cN (aH 58) (bq (aw (.ofNat 0))) (ki prog 38 1) 59),.rd (r1 (aH 59) (aM prog 3)) (.l 60) 0,.pa (bT 5 61),.pa (cN (aH 61) (bq (aw (.ofNat 1))) (ki prog 38 1) 62),.rd (r1 (aH 62) (aM prog 3)) (.l 63) 0,.pa (bT 5 64),.pa (cN (aH 64) (bq (aw (.ofNat 2))) (ki prog 38 1) 65),.rd (r1 (aH 65) (aM prog 3)) (.l 66) 0],dF 25 [(aH 57),(aH 60),(aH 63),(aH 66)] 67⟩] [.pa (bz 67 4)]
def c6:=(ah axA (ah axB (ah (ah an7 (bP 0 (fM (ah (ah an8 (bw (aK 12) (aQ .normal) (aQ (.exit 0)))) (ah (bP 1 an9) aoa))))) (ah aob (ah (ah ZG (bP 2 (ah ZH (bw (aK 29) (ah axC (aQ .ret)) (ah UE (bw (aK 35) (ah aDg (aQ .ret)) (ah UF (bw (aK 41) (ah alQ (aQ .ret)) (ah aaZ (bw (aK 47) (ah alR (aQ .ret)) (aQ .normal))))))))))) (ah alS (aQ .ret)))))))
def ev6:jf 6 142971676659963 68 [.tmp 4] c6:=bX func6 (by kernel_rfl)
def axD:=aa [.v (v1 (bq (.bool false)) some) (.t 4)]
def axE:=aa [dF 4 [] 18,
 .v (v1 (aH 18) (JI .not)) (.t 19)]
def aKn:=aa [.v (v1 (bq (.bool false)) some) (.t 4)]
def axF:=aa [dF 5 [] 20,
 bz 20 5]
def axG:=aa [.v (v2 (aK 5) (bq (.pointer none)) (b2 .eql .ptr true)) (.t 22)]
def aKo:=aa [.v (v1 (bq (.bool false)) some) (.t 4)]
def axH:=aa [.v (vl [(aK 0)] dH) (.l 25),
 .v (vl [(aH 25),(bq (aw (.ofNat 60)))] (Eo Gn)) (.l 26),
 .v (vy prog 22 (aK 0) none (some (aH 26)) none) (.l 27),
 .v (vl [(aH 27)] (cA prog 28 [0])) (.l 28),
 .s (s1 (aH 28) (ia 28)) (.l 29),
 bz 29 6]
def axI:=aa [dF 7 [(aK 6),(bq (aw (.ofNat 2))),(bq (aw (.ofNat 0)))] 32,
 dF 6 [(aK 5),(aH 32)] 33,
 bz 33 7]
def axJ:=aa [dF 8 [(aK 5),(aK 7)] 36,
 bz 36 8]
def aoc:=aa [.v (vl [(aK 8)] dH) (.l 38),
 .v (v2 (aH 38) (bq (aw (.ofNat 0))) (b2 .eql .other true)) (.t 39)]
def alT:=aa [dF 10 [(aK 5),(bq (aw (.ofNat 2))),(aK 7)] 43,
 dF 9 [(aK 5),(aH 43)] 44,
 cN (aH 44) (bq (aw (.ofNat 5))) (b2 .lss .other true) 45,
 bz 45 4]
def alU:=aa [.v (v1 (bq (aw (.ofNat 0))) some) (.t 9),
 .v (v1 (bq (.bool false)) some) (.t 10)]
def aa0:=aa [.v (v1 (bq (aw (.ofNat 0))) some) (.t 11)]
def aa1:=aa [.v (v2 (aK 11) (bq (aw (.ofNat 6))) (b2 .lss .other true)) (.t 47)]
def aa2:=aa [bT 9 50,
 cN (aK 1) (aK 11) (b2 .shr .other false) 53,
 cN (aH 53) (bq (.int .u8 (.ofNat 1))) (b2 .and .other true) 54,
 ei 54 (xI (.int .i64)) 55,
 cN (aH 50) (aH 55) (b2 .add .other false) 56,
 bz 56 9]
def aa3:=aa [bT 11 48,
 cN (aH 48) (bq (aw (.ofNat 1))) (b2 .add .other true) 49,
 bz 49 11]
def aa4:=aa [.v (v1 (bq (aw (.ofNat 0))) some) (.t 12)]
def aa5:=aa [.v (v2 (aK 12) (bq (aw (.ofNat 16))) (b2 .lss .other true)) (.t 58)]
def aa6:=aa [cN (aK 8) (aK 12) (ki prog 38 1) 64,
 gM 64 (aM prog 3) 65,
 dF 11 [(aK 5),(aH 65)] 66,
 bz 66 13]
def aa7:=aa [.v (v1 (bq (.bool false)) some) (.t 14)]
def UG:=aa [.v (v1 (bq (aw (.ofNat 0))) some) (.t 15)]
def UH:=aa [.v (vl [(aK 13)] dH) (.l 69),
 .v (v2 (aK 15) (aH 69) (b2 .lss .other false)) (.t 70)]
def UI:=aa [cN (aK 13) (aK 15) (ki prog 38 1) 75,
 gM 75 (aM prog 3) 76,
 bz 76 16,
 .v (v1 (bq (.int .u8 (.ofNat 1))) some) (.t 17)]
def UJ:=aa [dF 9 [(aK 5),(aK 16)] 79,
 .v (v2 (aH 79) (bq (aw (.ofNat 4))) (b2 .eql .other true)) (.t 80)]
def UK:=aa [bT 16 82,
 dF 11 [(aK 5),(aH 82)] 83,
 cN (aH 83) (bq (aw (.ofNat 0))) (ki prog 38 1) 84,
 gM 84 (aM prog 3) 85,
 bz 85 16]
def UL:=aa [.v (v1 (bq (.int .u8 (.ofNat 0))) some) (.t 17)]
def J2:=aa [bT 14 86,
 .gd (aH 86) false (.l 88) (bT 5 88),
 .gd (aH 86) false (.l 89) (bT 16 89),
 .gd (aH 86) false (.l 90) (dF 9 [(aH 88),(aH 89)] 90),
 .gd (aH 86) false (.l 91) (cN (aH 90) (bq (aw (.ofNat 7))) (b2 .eql .other true) 91),
 .gd (aH 86) false (.l 92) (NM 91 92),
 .gd (aH 92) true (.l 93) (bT 1 93),
 .gd (aH 92) true (.l 94) (bT 5 94),
 .gd (aH 92) true (.l 95) (bT 16 95),
 .gd (aH 92) true (.l 96) (dF 12 [(aH 94),(aH 95)] 96),
 .gd (aH 92) true (.l 97) (cN (aH 93) (aH 96) (b2 .shr .other false) 97),
 .gd (aH 92) true (.l 98) (cN (aH 97) (bq (.int .u8 (.ofNat 1))) (b2 .and .other true) 98),
 .gd (aH 92) true (.l 99) (bT 17 99),
 .gd (aH 92) true (.l 100) (cN (aH 98) (aH 99) (b2 .eql .other false) 100),
 .gd (aH 86) false (.l 101) (.v (iS (aH 92) (aH 100) (bq (.bool false))) (.l 101)),
 .v (iS (aH 86) (bq (.bool true)) (aH 101)) (.l 102),
 bz 102 14]
def Oq:=aa [bT 15 71,
 cN (aH 71) (bq (aw (.ofNat 1))) (b2 .add .other true) 72,
 bz 72 15]
def aa8:=aa [bT 10 103,
 .gd (aH 103) false (.l 105) (bT 14 105),
 .gd (aH 103) false (.l 106) (ei 105 (JI .not) 106),
 .v (iS (aH 103) (bq (.bool true)) (aH 106)) (.l 107),
 bz 107 10]
def UM:=aa [bT 12 59,
 cN (aH 59) (bq (aw (.ofNat 1))) (b2 .add .other true) 60,
 bz 60 12]
def alV:=aa [cN (aK 9) (bq (aw (.ofNat 1))) (b2 .neq .other true) 110,
 cN (aK 10) (aH 110) (b2 .eql .bool false) 111,
 bz 111 4]
def c3f:=(ah axD (ah (ah axE (bw (aK 19) (ah aKn (aQ .ret)) (aQ .normal))) (ah axF (ah (ah axG (bw (aK 22) (ah aKo (aQ .ret)) (aQ .normal))) (ah axH (ah axI (ah axJ (ah (ah aoc (bw (aK 39) (ah alT (aQ .ret)) (aQ .normal))) (ah alU (ah (ah aa0 (bP 0 (fM (ah (ah aa1 (bw (aK 47) (aQ .normal) (aQ (.exit 0)))) (ah (bP 1 aa2) aa3))))) (ah (ah aa4 (bP 2 (fM (ah (ah aa5 (bw (aK 58) (aQ .normal) (aQ (.exit 2)))) (ah (bP 3 (ah aa6 (ah aa7 (ah (ah UG (bP 4 (fM (ah (ah UH (bw (aK 70) (aQ .normal) (aQ (.exit 4)))) (ah (bP 5 (ah UI (ah (ah UJ (bw (aK 80) (ah UK UL) (aQ .normal))) J2))) Oq))))) aa8)))) UM))))) (ah alV (aQ .ret)))))))))))))
def ev3:jf 3 1210106699607009986871283 112 [.tmp 4] c3f:=bX func3 (by kernel_rfl)
