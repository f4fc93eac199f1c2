import Derived.Test.YtnfejffknenkeaaGreatDoorCfg
import Derived.Test.YtnfejffknenkeaaGreatDoorProg
/- Part of the proof of ShareKnown. -/
namespace Go.Proofs
open Go Go.Eng
set_option maxRecDepth 10000000
set_option maxHeartbeats 4000000 in
noncomputable def TryzF.f2 : PreE Tryz.prog Go.Eng.Tryz.X0 := by
  apply PreE.mk 2
  conv => lhs; whnf
set_option maxHeartbeats 4000000 in
noncomputable def TryzF.f6 : PreE Tryz.prog Go.Eng.Tryz.X0 := by
  apply PreE.mk 6
  conv => lhs; whnf
set_option maxHeartbeats 4000000 in
noncomputable def TryzF.f10 : PreE Tryz.prog Go.Eng.Tryz.X0 := by
  apply PreE.mk 10
  conv => lhs; whnf
set_option maxHeartbeats 4000000 in
noncomputable def TryzF.f14 : PreE Tryz.prog Go.Eng.Tryz.X0 := by
  apply PreE.mk 14
  conv => lhs; whnf
set_option maxHeartbeats 4000000 in
noncomputable def TryzF.f18 : PreE Tryz.prog Go.Eng.Tryz.X0 := by
  apply PreE.mk 18
  conv => lhs; whnf
set_option maxHeartbeats 4000000 in
noncomputable def TryzF.f22 : PreE Tryz.prog Go.Eng.Tryz.X0 := by
  apply PreE.mk 22
  conv => lhs; whnf
set_option maxHeartbeats 4000000 in
noncomputable def TryzF.f26 : PreE Tryz.prog Go.Eng.Tryz.X0 := by
  apply PreE.mk 26
  conv => lhs; whnf
set_option maxHeartbeats 4000000 in
noncomputable def TryzF.f30 : PreE Tryz.prog Go.Eng.Tryz.X0 := by
  apply PreE.mk 30
  conv => lhs; whnf
set_option maxHeartbeats 4000000 in
noncomputable def TryzF.f34 : PreE Tryz.prog Go.Eng.Tryz.X0 := by
  apply PreE.mk 34
  conv => lhs; whnf
set_option maxHeartbeats 4000000 in
noncomputable def TryzF.f38 : PreE Tryz.prog Go.Eng.Tryz.X0 := by
  apply PreE.mk 38
  conv => lhs; whnf
set_option maxHeartbeats 4000000 in
noncomputable def TryzF.f42 : PreE Tryz.prog Go.Eng.Tryz.X0 := by
  apply PreE.mk 42
  conv => lhs; whnf
set_option maxHeartbeats 4000000 in
noncomputable def TryzF.f46 : PreE Tryz.prog Go.Eng.Tryz.X0 := by
  apply PreE.mk 46
  conv => lhs; whnf
set_option maxHeartbeats 4000000 in
noncomputable def TryzF.f50 : PreE Tryz.prog Go.Eng.Tryz.X0 := by
  apply PreE.mk 50
  conv => lhs; whnf
set_option maxHeartbeats 4000000 in
noncomputable def TryzF.f54 : PreE Tryz.prog Go.Eng.Tryz.X0 := by
  apply PreE.mk 54
  conv => lhs; whnf
set_option maxHeartbeats 4000000 in
noncomputable def TryzF.f58 : PreE Tryz.prog Go.Eng.Tryz.X0 := by
  apply PreE.mk 58
  conv => lhs; whnf
set_option maxHeartbeats 4000000 in
noncomputable def TryzF.f62 : PreE Tryz.prog Go.Eng.Tryz.X0 := by
  apply PreE.mk 62
  conv => lhs; whnf
set_option maxHeartbeats 4000000 in
noncomputable def TryzF.f66 : PreE Tryz.prog Go.Eng.Tryz.X0 := by
  apply PreE.mk 66
  conv => lhs; whnf
set_option maxHeartbeats 4000000 in
noncomputable def TryzF.f70 : PreE Tryz.prog Go.Eng.Tryz.X0 := by
  apply PreE.mk 70
  conv => lhs; whnf
set_option maxHeartbeats 4000000 in
noncomputable def TryzF.f74 : PreE Tryz.prog Go.Eng.Tryz.X0 := by
  apply PreE.mk 74
  conv => lhs; whnf
set_option maxHeartbeats 4000000 in
noncomputable def TryzF.f78 : PreE Tryz.prog Go.Eng.Tryz.X0 := by
  apply PreE.mk 78
  conv => lhs; whnf
set_option maxHeartbeats 4000000 in
noncomputable def TryzF.f82 : PreE Tryz.prog Go.Eng.Tryz.X0 := by
  apply PreE.mk 82
  conv => lhs; whnf
set_option maxHeartbeats 4000000 in
noncomputable def TryzF.f86 : PreE Tryz.prog Go.Eng.Tryz.X0 := by
  apply PreE.mk 86
  conv => lhs; whnf
set_option maxHeartbeats 4000000 in
noncomputable def TryzF.f90 : PreE Tryz.prog Go.Eng.Tryz.X0 := by
  apply PreE.mk 90
  conv => lhs; whnf
set_option maxHeartbeats 4000000 in
noncomputable def TryzF.f94 : PreE Tryz.prog Go.Eng.Tryz.X0 := by
  apply PreE.mk 94
  conv => lhs; whnf
set_option maxHeartbeats 4000000 in
noncomputable def TryzF.f98 : PreE Tryz.prog Go.Eng.Tryz.X0 := by
  apply PreE.mk 98
  conv => lhs; whnf
set_option maxHeartbeats 4000000 in
noncomputable def TryzF.f102 : PreE Tryz.prog Go.Eng.Tryz.X0 := by
  apply PreE.mk 102
  conv => lhs; whnf
set_option maxHeartbeats 4000000 in
noncomputable def TryzF.f106 : PreE Tryz.prog Go.Eng.Tryz.X0 := by
  apply PreE.mk 106
  conv => lhs; whnf
set_option maxHeartbeats 4000000 in
noncomputable def TryzF.f110 : PreE Tryz.prog Go.Eng.Tryz.X0 := by
  apply PreE.mk 110
  conv => lhs; whnf
set_option maxHeartbeats 4000000 in
noncomputable def TryzF.f114 : PreE Tryz.prog Go.Eng.Tryz.X0 := by
  apply PreE.mk 114
  conv => lhs; whnf
set_option maxHeartbeats 4000000 in
noncomputable def TryzF.f118 : PreE Tryz.prog Go.Eng.Tryz.X0 := by
  apply PreE.mk 118
  conv => lhs; whnf
set_option maxHeartbeats 4000000 in
noncomputable def TryzF.f122 : PreE Tryz.prog Go.Eng.Tryz.X0 := by
  apply PreE.mk 122
  conv => lhs; whnf
set_option maxHeartbeats 4000000 in
noncomputable def TryzF.f126 : PreE Tryz.prog Go.Eng.Tryz.X0 := by
  apply PreE.mk 126
  conv => lhs; whnf
set_option maxHeartbeats 4000000 in
noncomputable def TryzF.f130 : PreE Tryz.prog Go.Eng.Tryz.X0 := by
  apply PreE.mk 130
  conv => lhs; whnf
set_option maxHeartbeats 4000000 in
noncomputable def TryzF.f134 : PreE Tryz.prog Go.Eng.Tryz.X0 := by
  apply PreE.mk 134
  conv => lhs; whnf
set_option maxHeartbeats 4000000 in
noncomputable def TryzF.f138 : PreE Tryz.prog Go.Eng.Tryz.X0 := by
  apply PreE.mk 138
  conv => lhs; whnf
set_option maxHeartbeats 4000000 in
noncomputable def TryzF.f142 : PreE Tryz.prog Go.Eng.Tryz.X0 := by
  apply PreE.mk 142
  conv => lhs; whnf
set_option maxHeartbeats 4000000 in
noncomputable def TryzF.f146 : PreE Tryz.prog Go.Eng.Tryz.X0 := by
  apply PreE.mk 146
  conv => lhs; whnf
set_option maxHeartbeats 4000000 in
noncomputable def TryzF.f150 : PreE Tryz.prog Go.Eng.Tryz.X0 := by
  apply PreE.mk 150
  conv => lhs; whnf
set_option maxHeartbeats 4000000 in
noncomputable def TryzF.f154 : PreE Tryz.prog Go.Eng.Tryz.X0 := by
  apply PreE.mk 154
  conv => lhs; whnf
set_option maxHeartbeats 4000000 in
noncomputable def TryzF.f158 : PreE Tryz.prog Go.Eng.Tryz.X0 := by
  apply PreE.mk 158
  conv => lhs; whnf
set_option maxHeartbeats 4000000 in
noncomputable def TryzF.f162 : PreE Tryz.prog Go.Eng.Tryz.X0 := by
  apply PreE.mk 162
  conv => lhs; whnf
set_option maxHeartbeats 4000000 in
noncomputable def TryzF.f166 : PreE Tryz.prog Go.Eng.Tryz.X0 := by
  apply PreE.mk 166
  conv => lhs; whnf
set_option maxHeartbeats 4000000 in
noncomputable def TryzF.f170 : PreE Tryz.prog Go.Eng.Tryz.X0 := by
  apply PreE.mk 170
  conv => lhs; whnf
set_option maxHeartbeats 4000000 in
noncomputable def TryzF.f174 : PreE Tryz.prog Go.Eng.Tryz.X0 := by
  apply PreE.mk 174
  conv => lhs; whnf
set_option maxHeartbeats 4000000 in
noncomputable def TryzF.f178 : PreE Tryz.prog Go.Eng.Tryz.X0 := by
  apply PreE.mk 178
  conv => lhs; whnf
set_option maxHeartbeats 4000000 in
noncomputable def TryzF.f182 : PreE Tryz.prog Go.Eng.Tryz.X0 := by
  apply PreE.mk 182
  conv => lhs; whnf
set_option maxHeartbeats 4000000 in
noncomputable def TryzF.f186 : PreE Tryz.prog Go.Eng.Tryz.X0 := by
  apply PreE.mk 186
  conv => lhs; whnf
set_option maxHeartbeats 4000000 in
noncomputable def TryzF.f190 : PreE Tryz.prog Go.Eng.Tryz.X0 := by
  apply PreE.mk 190
  conv => lhs; whnf
set_option maxHeartbeats 4000000 in
noncomputable def TryzF.f194 : PreE Tryz.prog Go.Eng.Tryz.X0 := by
  apply PreE.mk 194
  conv => lhs; whnf
set_option maxHeartbeats 4000000 in
noncomputable def TryzF.f198 : PreE Tryz.prog Go.Eng.Tryz.X0 := by
  apply PreE.mk 198
  conv => lhs; whnf
set_option maxHeartbeats 4000000 in
noncomputable def TryzF.f202 : PreE Tryz.prog Go.Eng.Tryz.X0 := by
  apply PreE.mk 202
  conv => lhs; whnf
set_option maxHeartbeats 4000000 in
noncomputable def TryzF.f206 : PreE Tryz.prog Go.Eng.Tryz.X0 := by
  apply PreE.mk 206
  conv => lhs; whnf
set_option maxHeartbeats 4000000 in
noncomputable def TryzF.f210 : PreE Tryz.prog Go.Eng.Tryz.X0 := by
  apply PreE.mk 210
  conv => lhs; whnf
set_option maxHeartbeats 4000000 in
noncomputable def TryzF.f214 : PreE Tryz.prog Go.Eng.Tryz.X0 := by
  apply PreE.mk 214
  conv => lhs; whnf
set_option maxHeartbeats 4000000 in
noncomputable def TryzF.f218 : PreE Tryz.prog Go.Eng.Tryz.X0 := by
  apply PreE.mk 218
  conv => lhs; whnf
set_option maxHeartbeats 4000000 in
noncomputable def TryzF.f222 : PreE Tryz.prog Go.Eng.Tryz.X0 := by
  apply PreE.mk 222
  conv => lhs; whnf
set_option maxHeartbeats 4000000 in
noncomputable def TryzF.f226 : PreE Tryz.prog Go.Eng.Tryz.X0 := by
  apply PreE.mk 226
  conv => lhs; whnf
set_option maxHeartbeats 4000000 in
noncomputable def TryzF.f230 : PreE Tryz.prog Go.Eng.Tryz.X0 := by
  apply PreE.mk 230
  conv => lhs; whnf
set_option maxHeartbeats 4000000 in
noncomputable def TryzF.f234 : PreE Tryz.prog Go.Eng.Tryz.X0 := by
  apply PreE.mk 234
  conv => lhs; whnf
set_option maxHeartbeats 4000000 in
noncomputable def TryzF.f238 : PreE Tryz.prog Go.Eng.Tryz.X0 := by
  apply PreE.mk 238
  conv => lhs; whnf
set_option maxHeartbeats 4000000 in
noncomputable def TryzF.f242 : PreE Tryz.prog Go.Eng.Tryz.X0 := by
  apply PreE.mk 242
  conv => lhs; whnf
set_option maxHeartbeats 4000000 in
noncomputable def TryzF.f246 : PreE Tryz.prog Go.Eng.Tryz.X0 := by
  apply PreE.mk 246
  conv => lhs; whnf
set_option maxHeartbeats 4000000 in
noncomputable def TryzF.f250 : PreE Tryz.prog Go.Eng.Tryz.X0 := by
  apply PreE.mk 250
  conv => lhs; whnf
set_option maxHeartbeats 4000000 in
noncomputable def TryzF.f254 : PreE Tryz.prog Go.Eng.Tryz.X0 := by
  apply PreE.mk 254
  conv => lhs; whnf
set_option maxHeartbeats 4000000 in
noncomputable def TryzF.f258 : PreE Tryz.prog Go.Eng.Tryz.X0 := by
  apply PreE.mk 258
  conv => lhs; whnf
set_option maxHeartbeats 4000000 in
noncomputable def TryzF.f262 : PreE Tryz.prog Go.Eng.Tryz.X0 := by
  apply PreE.mk 262
  conv => lhs; whnf
set_option maxHeartbeats 4000000 in
noncomputable def TryzF.f266 : PreE Tryz.prog Go.Eng.Tryz.X0 := by
  apply PreE.mk 266
  conv => lhs; whnf
set_option maxHeartbeats 4000000 in
noncomputable def TryzF.f270 : PreE Tryz.prog Go.Eng.Tryz.X0 := by
  apply PreE.mk 270
  conv => lhs; whnf
set_option maxHeartbeats 4000000 in
noncomputable def TryzF.f274 : PreE Tryz.prog Go.Eng.Tryz.X0 := by
  apply PreE.mk 274
  conv => lhs; whnf
set_option maxHeartbeats 4000000 in
noncomputable def TryzF.f278 : PreE Tryz.prog Go.Eng.Tryz.X0 := by
  apply PreE.mk 278
  conv => lhs; whnf
set_option maxHeartbeats 4000000 in
noncomputable def TryzF.f282 : PreE Tryz.prog Go.Eng.Tryz.X0 := by
  apply PreE.mk 282
  conv => lhs; whnf
set_option maxHeartbeats 4000000 in
noncomputable def TryzF.f286 : PreE Tryz.prog Go.Eng.Tryz.X0 := by
  apply PreE.mk 286
  conv => lhs; whnf
set_option maxHeartbeats 4000000 in
noncomputable def TryzF.f290 : PreE Tryz.prog Go.Eng.Tryz.X0 := by
  apply PreE.mk 290
  conv => lhs; whnf
set_option maxHeartbeats 4000000 in
noncomputable def TryzF.f294 : PreE Tryz.prog Go.Eng.Tryz.X0 := by
  apply PreE.mk 294
  conv => lhs; whnf
set_option maxHeartbeats 4000000 in
noncomputable def TryzF.f298 : PreE Tryz.prog Go.Eng.Tryz.X0 := by
  apply PreE.mk 298
  conv => lhs; whnf
set_option maxHeartbeats 4000000 in
noncomputable def TryzF.f302 : PreE Tryz.prog Go.Eng.Tryz.X0 := by
  apply PreE.mk 302
  conv => lhs; whnf
set_option maxHeartbeats 4000000 in
noncomputable def TryzF.f306 : PreE Tryz.prog Go.Eng.Tryz.X0 := by
  apply PreE.mk 306
  conv => lhs; whnf
set_option maxHeartbeats 4000000 in
noncomputable def TryzF.f310 : PreE Tryz.prog Go.Eng.Tryz.X0 := by
  apply PreE.mk 310
  conv => lhs; whnf
set_option maxHeartbeats 4000000 in
noncomputable def TryzF.f314 : PreE Tryz.prog Go.Eng.Tryz.X0 := by
  apply PreE.mk 314
  conv => lhs; whnf
set_option maxHeartbeats 4000000 in
noncomputable def TryzF.f318 : PreE Tryz.prog Go.Eng.Tryz.X0 := by
  apply PreE.mk 318
  conv => lhs; whnf
set_option maxHeartbeats 4000000 in
noncomputable def TryzF.f322 : PreE Tryz.prog Go.Eng.Tryz.X0 := by
  apply PreE.mk 322
  conv => lhs; whnf
set_option maxHeartbeats 4000000 in
noncomputable def TryzF.f326 : PreE Tryz.prog Go.Eng.Tryz.X0 := by
  apply PreE.mk 326
  conv => lhs; whnf
set_option maxHeartbeats 4000000 in
noncomputable def TryzF.f330 : PreE Tryz.prog Go.Eng.Tryz.X0 := by
  apply PreE.mk 330
  conv => lhs; whnf
set_option maxHeartbeats 4000000 in
noncomputable def TryzF.f334 : PreE Tryz.prog Go.Eng.Tryz.X0 := by
  apply PreE.mk 334
  conv => lhs; whnf
set_option maxHeartbeats 4000000 in
noncomputable def TryzF.f338 : PreE Tryz.prog Go.Eng.Tryz.X0 := by
  apply PreE.mk 338
  conv => lhs; whnf
set_option maxHeartbeats 4000000 in
noncomputable def TryzF.f342 : PreE Tryz.prog Go.Eng.Tryz.X0 := by
  apply PreE.mk 342
  conv => lhs; whnf
set_option maxHeartbeats 4000000 in
noncomputable def TryzF.f346 : PreE Tryz.prog Go.Eng.Tryz.X0 := by
  apply PreE.mk 346
  conv => lhs; whnf
set_option maxHeartbeats 4000000 in
noncomputable def TryzF.f350 : PreE Tryz.prog Go.Eng.Tryz.X0 := by
  apply PreE.mk 350
  conv => lhs; whnf
set_option maxHeartbeats 4000000 in
noncomputable def TryzF.f354 : PreE Tryz.prog Go.Eng.Tryz.X0 := by
  apply PreE.mk 354
  conv => lhs; whnf
set_option maxHeartbeats 4000000 in
noncomputable def TryzF.f358 : PreE Tryz.prog Go.Eng.Tryz.X0 := by
  apply PreE.mk 358
  conv => lhs; whnf
set_option maxHeartbeats 4000000 in
noncomputable def TryzF.f362 : PreE Tryz.prog Go.Eng.Tryz.X0 := by
  apply PreE.mk 362
  conv => lhs; whnf
set_option maxHeartbeats 4000000 in
noncomputable def TryzF.f366 : PreE Tryz.prog Go.Eng.Tryz.X0 := by
  apply PreE.mk 366
  conv => lhs; whnf
set_option maxHeartbeats 4000000 in
noncomputable def TryzF.f370 : PreE Tryz.prog Go.Eng.Tryz.X0 := by
  apply PreE.mk 370
  conv => lhs; whnf
set_option maxHeartbeats 4000000 in
noncomputable def TryzF.f375 : PreE Tryz.prog Go.Eng.Tryz.X0 := by
  apply PreE.mk 375
  conv => lhs; whnf
set_option maxHeartbeats 4000000 in
noncomputable def TryzF.f396 : PreE Tryz.prog Go.Eng.Tryz.X0 := by
  apply PreE.mk 396
  conv => lhs; whnf
set_option maxHeartbeats 4000000 in
noncomputable def TryzF.f400 : PreE Tryz.prog Go.Eng.Tryz.X0 := by
  apply PreE.mk 400
  conv => lhs; whnf
set_option maxHeartbeats 4000000 in
noncomputable def TryzF.f404 : PreE Tryz.prog Go.Eng.Tryz.X0 := by
  apply PreE.mk 404
  conv => lhs; whnf
set_option maxHeartbeats 4000000 in
noncomputable def TryzF.f408 : PreE Tryz.prog Go.Eng.Tryz.X0 := by
  apply PreE.mk 408
  conv => lhs; whnf
end Go.Proofs
