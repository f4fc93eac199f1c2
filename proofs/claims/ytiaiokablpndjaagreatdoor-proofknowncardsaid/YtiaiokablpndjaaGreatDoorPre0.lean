import Derived.Test.YtiaiokablpndjaaGreatDoorCfg
import Derived.Test.YtiaiokablpndjaaGreatDoorProg
/- Part of the proof of ProofKnown. -/
namespace Go.Proofs
open Go Go.Eng
set_option maxRecDepth 10000000
set_option maxHeartbeats 4000000 in
noncomputable def TryzF.f2 : PreE Tryz.prog Go.Eng.Tryz.X0 := by
  apply PreE.mk 2
  conv => lhs; whnf
set_option maxHeartbeats 4000000 in
noncomputable def TryzF.f6 : PreE Tryz.prog Go.Eng.Tryz.X0 := by
  apply PreE.mk 6
  conv => lhs; whnf
set_option maxHeartbeats 4000000 in
noncomputable def TryzF.f10 : PreE Tryz.prog Go.Eng.Tryz.X0 := by
  apply PreE.mk 10
  conv => lhs; whnf
set_option maxHeartbeats 4000000 in
noncomputable def TryzF.f14 : PreE Tryz.prog Go.Eng.Tryz.X0 := by
  apply PreE.mk 14
  conv => lhs; whnf
set_option maxHeartbeats 4000000 in
noncomputable def TryzF.f18 : PreE Tryz.prog Go.Eng.Tryz.X0 := by
  apply PreE.mk 18
  conv => lhs; whnf
set_option maxHeartbeats 4000000 in
noncomputable def TryzF.f22 : PreE Tryz.prog Go.Eng.Tryz.X0 := by
  apply PreE.mk 22
  conv => lhs; whnf
set_option maxHeartbeats 4000000 in
noncomputable def TryzF.f26 : PreE Tryz.prog Go.Eng.Tryz.X0 := by
  apply PreE.mk 26
  conv => lhs; whnf
set_option maxHeartbeats 4000000 in
noncomputable def TryzF.f30 : PreE Tryz.prog Go.Eng.Tryz.X0 := by
  apply PreE.mk 30
  conv => lhs; whnf
set_option maxHeartbeats 4000000 in
noncomputable def TryzF.f34 : PreE Tryz.prog Go.Eng.Tryz.X0 := by
  apply PreE.mk 34
  conv => lhs; whnf
set_option maxHeartbeats 4000000 in
noncomputable def TryzF.f38 : PreE Tryz.prog Go.Eng.Tryz.X0 := by
  apply PreE.mk 38
  conv => lhs; whnf
set_option maxHeartbeats 4000000 in
noncomputable def TryzF.f42 : PreE Tryz.prog Go.Eng.Tryz.X0 := by
  apply PreE.mk 42
  conv => lhs; whnf
set_option maxHeartbeats 4000000 in
noncomputable def TryzF.f46 : PreE Tryz.prog Go.Eng.Tryz.X0 := by
  apply PreE.mk 46
  conv => lhs; whnf
set_option maxHeartbeats 4000000 in
noncomputable def TryzF.f50 : PreE Tryz.prog Go.Eng.Tryz.X0 := by
  apply PreE.mk 50
  conv => lhs; whnf
set_option maxHeartbeats 4000000 in
noncomputable def TryzF.f54 : PreE Tryz.prog Go.Eng.Tryz.X0 := by
  apply PreE.mk 54
  conv => lhs; whnf
set_option maxHeartbeats 4000000 in
noncomputable def TryzF.f58 : PreE Tryz.prog Go.Eng.Tryz.X0 := by
  apply PreE.mk 58
  conv => lhs; whnf
set_option maxHeartbeats 4000000 in
noncomputable def TryzF.f65 : PreE Tryz.prog Go.Eng.Tryz.X0 := by
  apply PreE.mk 65
  conv => lhs; whnf
set_option maxHeartbeats 4000000 in
noncomputable def TryzF.f69 : PreE Tryz.prog Go.Eng.Tryz.X0 := by
  apply PreE.mk 69
  conv => lhs; whnf
set_option maxHeartbeats 4000000 in
noncomputable def TryzF.f73 : PreE Tryz.prog Go.Eng.Tryz.X0 := by
  apply PreE.mk 73
  conv => lhs; whnf
set_option maxHeartbeats 4000000 in
noncomputable def TryzF.f77 : PreE Tryz.prog Go.Eng.Tryz.X0 := by
  apply PreE.mk 77
  conv => lhs; whnf
set_option maxHeartbeats 4000000 in
noncomputable def TryzF.f81 : PreE Tryz.prog Go.Eng.Tryz.X0 := by
  apply PreE.mk 81
  conv => lhs; whnf
set_option maxHeartbeats 4000000 in
noncomputable def TryzF.f85 : PreE Tryz.prog Go.Eng.Tryz.X0 := by
  apply PreE.mk 85
  conv => lhs; whnf
set_option maxHeartbeats 4000000 in
noncomputable def TryzF.f89 : PreE Tryz.prog Go.Eng.Tryz.X0 := by
  apply PreE.mk 89
  conv => lhs; whnf
set_option maxHeartbeats 4000000 in
noncomputable def TryzF.f93 : PreE Tryz.prog Go.Eng.Tryz.X0 := by
  apply PreE.mk 93
  conv => lhs; whnf
set_option maxHeartbeats 4000000 in
noncomputable def TryzF.f97 : PreE Tryz.prog Go.Eng.Tryz.X0 := by
  apply PreE.mk 97
  conv => lhs; whnf
set_option maxHeartbeats 4000000 in
noncomputable def TryzF.f104 : PreE Tryz.prog Go.Eng.Tryz.X0 := by
  apply PreE.mk 104
  conv => lhs; whnf
set_option maxHeartbeats 4000000 in
noncomputable def TryzF.f108 : PreE Tryz.prog Go.Eng.Tryz.X0 := by
  apply PreE.mk 108
  conv => lhs; whnf
set_option maxHeartbeats 4000000 in
noncomputable def TryzF.f112 : PreE Tryz.prog Go.Eng.Tryz.X0 := by
  apply PreE.mk 112
  conv => lhs; whnf
set_option maxHeartbeats 4000000 in
noncomputable def TryzF.f116 : PreE Tryz.prog Go.Eng.Tryz.X0 := by
  apply PreE.mk 116
  conv => lhs; whnf
set_option maxHeartbeats 4000000 in
noncomputable def TryzF.f120 : PreE Tryz.prog Go.Eng.Tryz.X0 := by
  apply PreE.mk 120
  conv => lhs; whnf
set_option maxHeartbeats 4000000 in
noncomputable def TryzF.f124 : PreE Tryz.prog Go.Eng.Tryz.X0 := by
  apply PreE.mk 124
  conv => lhs; whnf
set_option maxHeartbeats 4000000 in
noncomputable def TryzF.f128 : PreE Tryz.prog Go.Eng.Tryz.X0 := by
  apply PreE.mk 128
  conv => lhs; whnf
set_option maxHeartbeats 4000000 in
noncomputable def TryzF.f132 : PreE Tryz.prog Go.Eng.Tryz.X0 := by
  apply PreE.mk 132
  conv => lhs; whnf
set_option maxHeartbeats 4000000 in
noncomputable def TryzF.f136 : PreE Tryz.prog Go.Eng.Tryz.X0 := by
  apply PreE.mk 136
  conv => lhs; whnf
set_option maxHeartbeats 4000000 in
noncomputable def TryzF.f140 : PreE Tryz.prog Go.Eng.Tryz.X0 := by
  apply PreE.mk 140
  conv => lhs; whnf
set_option maxHeartbeats 4000000 in
noncomputable def TryzF.f144 : PreE Tryz.prog Go.Eng.Tryz.X0 := by
  apply PreE.mk 144
  conv => lhs; whnf
set_option maxHeartbeats 4000000 in
noncomputable def TryzF.f148 : PreE Tryz.prog Go.Eng.Tryz.X0 := by
  apply PreE.mk 148
  conv => lhs; whnf
set_option maxHeartbeats 4000000 in
noncomputable def TryzF.f152 : PreE Tryz.prog Go.Eng.Tryz.X0 := by
  apply PreE.mk 152
  conv => lhs; whnf
set_option maxHeartbeats 4000000 in
noncomputable def TryzF.f156 : PreE Tryz.prog Go.Eng.Tryz.X0 := by
  apply PreE.mk 156
  conv => lhs; whnf
set_option maxHeartbeats 4000000 in
noncomputable def TryzF.f160 : PreE Tryz.prog Go.Eng.Tryz.X0 := by
  apply PreE.mk 160
  conv => lhs; whnf
set_option maxHeartbeats 4000000 in
noncomputable def TryzF.f164 : PreE Tryz.prog Go.Eng.Tryz.X0 := by
  apply PreE.mk 164
  conv => lhs; whnf
set_option maxHeartbeats 4000000 in
noncomputable def TryzF.f168 : PreE Tryz.prog Go.Eng.Tryz.X0 := by
  apply PreE.mk 168
  conv => lhs; whnf
set_option maxHeartbeats 4000000 in
noncomputable def TryzF.f172 : PreE Tryz.prog Go.Eng.Tryz.X0 := by
  apply PreE.mk 172
  conv => lhs; whnf
set_option maxHeartbeats 4000000 in
noncomputable def TryzF.f176 : PreE Tryz.prog Go.Eng.Tryz.X0 := by
  apply PreE.mk 176
  conv => lhs; whnf
set_option maxHeartbeats 4000000 in
noncomputable def TryzF.f180 : PreE Tryz.prog Go.Eng.Tryz.X0 := by
  apply PreE.mk 180
  conv => lhs; whnf
set_option maxHeartbeats 4000000 in
noncomputable def TryzF.f184 : PreE Tryz.prog Go.Eng.Tryz.X0 := by
  apply PreE.mk 184
  conv => lhs; whnf
set_option maxHeartbeats 4000000 in
noncomputable def TryzF.f188 : PreE Tryz.prog Go.Eng.Tryz.X0 := by
  apply PreE.mk 188
  conv => lhs; whnf
set_option maxHeartbeats 4000000 in
noncomputable def TryzF.f192 : PreE Tryz.prog Go.Eng.Tryz.X0 := by
  apply PreE.mk 192
  conv => lhs; whnf
set_option maxHeartbeats 4000000 in
noncomputable def TryzF.f196 : PreE Tryz.prog Go.Eng.Tryz.X0 := by
  apply PreE.mk 196
  conv => lhs; whnf
set_option maxHeartbeats 4000000 in
noncomputable def TryzF.f200 : PreE Tryz.prog Go.Eng.Tryz.X0 := by
  apply PreE.mk 200
  conv => lhs; whnf
set_option maxHeartbeats 4000000 in
noncomputable def TryzF.f204 : PreE Tryz.prog Go.Eng.Tryz.X0 := by
  apply PreE.mk 204
  conv => lhs; whnf
set_option maxHeartbeats 4000000 in
noncomputable def TryzF.f208 : PreE Tryz.prog Go.Eng.Tryz.X0 := by
  apply PreE.mk 208
  conv => lhs; whnf
set_option maxHeartbeats 4000000 in
noncomputable def TryzF.f212 : PreE Tryz.prog Go.Eng.Tryz.X0 := by
  apply PreE.mk 212
  conv => lhs; whnf
set_option maxHeartbeats 4000000 in
noncomputable def TryzF.f216 : PreE Tryz.prog Go.Eng.Tryz.X0 := by
  apply PreE.mk 216
  conv => lhs; whnf
set_option maxHeartbeats 4000000 in
noncomputable def TryzF.f220 : PreE Tryz.prog Go.Eng.Tryz.X0 := by
  apply PreE.mk 220
  conv => lhs; whnf
set_option maxHeartbeats 4000000 in
noncomputable def TryzF.f224 : PreE Tryz.prog Go.Eng.Tryz.X0 := by
  apply PreE.mk 224
  conv => lhs; whnf
set_option maxHeartbeats 4000000 in
noncomputable def TryzF.f228 : PreE Tryz.prog Go.Eng.Tryz.X0 := by
  apply PreE.mk 228
  conv => lhs; whnf
set_option maxHeartbeats 4000000 in
noncomputable def TryzF.f232 : PreE Tryz.prog Go.Eng.Tryz.X0 := by
  apply PreE.mk 232
  conv => lhs; whnf
set_option maxHeartbeats 4000000 in
noncomputable def TryzF.f236 : PreE Tryz.prog Go.Eng.Tryz.X0 := by
  apply PreE.mk 236
  conv => lhs; whnf
set_option maxHeartbeats 4000000 in
noncomputable def TryzF.f240 : PreE Tryz.prog Go.Eng.Tryz.X0 := by
  apply PreE.mk 240
  conv => lhs; whnf
set_option maxHeartbeats 4000000 in
noncomputable def TryzF.f244 : PreE Tryz.prog Go.Eng.Tryz.X0 := by
  apply PreE.mk 244
  conv => lhs; whnf
set_option maxHeartbeats 4000000 in
noncomputable def TryzF.f248 : PreE Tryz.prog Go.Eng.Tryz.X0 := by
  apply PreE.mk 248
  conv => lhs; whnf
set_option maxHeartbeats 4000000 in
noncomputable def TryzF.f252 : PreE Tryz.prog Go.Eng.Tryz.X0 := by
  apply PreE.mk 252
  conv => lhs; whnf
set_option maxHeartbeats 4000000 in
noncomputable def TryzF.f256 : PreE Tryz.prog Go.Eng.Tryz.X0 := by
  apply PreE.mk 256
  conv => lhs; whnf
set_option maxHeartbeats 4000000 in
noncomputable def TryzF.f260 : PreE Tryz.prog Go.Eng.Tryz.X0 := by
  apply PreE.mk 260
  conv => lhs; whnf
set_option maxHeartbeats 4000000 in
noncomputable def TryzF.f264 : PreE Tryz.prog Go.Eng.Tryz.X0 := by
  apply PreE.mk 264
  conv => lhs; whnf
set_option maxHeartbeats 4000000 in
noncomputable def TryzF.f268 : PreE Tryz.prog Go.Eng.Tryz.X0 := by
  apply PreE.mk 268
  conv => lhs; whnf
set_option maxHeartbeats 4000000 in
noncomputable def TryzF.f272 : PreE Tryz.prog Go.Eng.Tryz.X0 := by
  apply PreE.mk 272
  conv => lhs; whnf
set_option maxHeartbeats 4000000 in
noncomputable def TryzF.f276 : PreE Tryz.prog Go.Eng.Tryz.X0 := by
  apply PreE.mk 276
  conv => lhs; whnf
set_option maxHeartbeats 4000000 in
noncomputable def TryzF.f280 : PreE Tryz.prog Go.Eng.Tryz.X0 := by
  apply PreE.mk 280
  conv => lhs; whnf
set_option maxHeartbeats 4000000 in
noncomputable def TryzF.f284 : PreE Tryz.prog Go.Eng.Tryz.X0 := by
  apply PreE.mk 284
  conv => lhs; whnf
set_option maxHeartbeats 4000000 in
noncomputable def TryzF.f288 : PreE Tryz.prog Go.Eng.Tryz.X0 := by
  apply PreE.mk 288
  conv => lhs; whnf
set_option maxHeartbeats 4000000 in
noncomputable def TryzF.f292 : PreE Tryz.prog Go.Eng.Tryz.X0 := by
  apply PreE.mk 292
  conv => lhs; whnf
set_option maxHeartbeats 4000000 in
noncomputable def TryzF.f296 : PreE Tryz.prog Go.Eng.Tryz.X0 := by
  apply PreE.mk 296
  conv => lhs; whnf
set_option maxHeartbeats 4000000 in
noncomputable def TryzF.f300 : PreE Tryz.prog Go.Eng.Tryz.X0 := by
  apply PreE.mk 300
  conv => lhs; whnf
set_option maxHeartbeats 4000000 in
noncomputable def TryzF.f304 : PreE Tryz.prog Go.Eng.Tryz.X0 := by
  apply PreE.mk 304
  conv => lhs; whnf
set_option maxHeartbeats 4000000 in
noncomputable def TryzF.f308 : PreE Tryz.prog Go.Eng.Tryz.X0 := by
  apply PreE.mk 308
  conv => lhs; whnf
set_option maxHeartbeats 4000000 in
noncomputable def TryzF.f312 : PreE Tryz.prog Go.Eng.Tryz.X0 := by
  apply PreE.mk 312
  conv => lhs; whnf
set_option maxHeartbeats 4000000 in
noncomputable def TryzF.f316 : PreE Tryz.prog Go.Eng.Tryz.X0 := by
  apply PreE.mk 316
  conv => lhs; whnf
set_option maxHeartbeats 4000000 in
noncomputable def TryzF.f320 : PreE Tryz.prog Go.Eng.Tryz.X0 := by
  apply PreE.mk 320
  conv => lhs; whnf
set_option maxHeartbeats 4000000 in
noncomputable def TryzF.f324 : PreE Tryz.prog Go.Eng.Tryz.X0 := by
  apply PreE.mk 324
  conv => lhs; whnf
set_option maxHeartbeats 4000000 in
noncomputable def TryzF.f328 : PreE Tryz.prog Go.Eng.Tryz.X0 := by
  apply PreE.mk 328
  conv => lhs; whnf
set_option maxHeartbeats 4000000 in
noncomputable def TryzF.f332 : PreE Tryz.prog Go.Eng.Tryz.X0 := by
  apply PreE.mk 332
  conv => lhs; whnf
set_option maxHeartbeats 4000000 in
noncomputable def TryzF.f336 : PreE Tryz.prog Go.Eng.Tryz.X0 := by
  apply PreE.mk 336
  conv => lhs; whnf
set_option maxHeartbeats 4000000 in
noncomputable def TryzF.f340 : PreE Tryz.prog Go.Eng.Tryz.X0 := by
  apply PreE.mk 340
  conv => lhs; whnf
set_option maxHeartbeats 4000000 in
noncomputable def TryzF.f344 : PreE Tryz.prog Go.Eng.Tryz.X0 := by
  apply PreE.mk 344
  conv => lhs; whnf
set_option maxHeartbeats 4000000 in
noncomputable def TryzF.f348 : PreE Tryz.prog Go.Eng.Tryz.X0 := by
  apply PreE.mk 348
  conv => lhs; whnf
set_option maxHeartbeats 4000000 in
noncomputable def TryzF.f352 : PreE Tryz.prog Go.Eng.Tryz.X0 := by
  apply PreE.mk 352
  conv => lhs; whnf
set_option maxHeartbeats 4000000 in
noncomputable def TryzF.f356 : PreE Tryz.prog Go.Eng.Tryz.X0 := by
  apply PreE.mk 356
  conv => lhs; whnf
set_option maxHeartbeats 4000000 in
noncomputable def TryzF.f360 : PreE Tryz.prog Go.Eng.Tryz.X0 := by
  apply PreE.mk 360
  conv => lhs; whnf
set_option maxHeartbeats 4000000 in
noncomputable def TryzF.f364 : PreE Tryz.prog Go.Eng.Tryz.X0 := by
  apply PreE.mk 364
  conv => lhs; whnf
set_option maxHeartbeats 4000000 in
noncomputable def TryzF.f368 : PreE Tryz.prog Go.Eng.Tryz.X0 := by
  apply PreE.mk 368
  conv => lhs; whnf
set_option maxHeartbeats 4000000 in
noncomputable def TryzF.f372 : PreE Tryz.prog Go.Eng.Tryz.X0 := by
  apply PreE.mk 372
  conv => lhs; whnf
set_option maxHeartbeats 4000000 in
noncomputable def TryzF.f376 : PreE Tryz.prog Go.Eng.Tryz.X0 := by
  apply PreE.mk 376
  conv => lhs; whnf
set_option maxHeartbeats 4000000 in
noncomputable def TryzF.f380 : PreE Tryz.prog Go.Eng.Tryz.X0 := by
  apply PreE.mk 380
  conv => lhs; whnf
set_option maxHeartbeats 4000000 in
noncomputable def TryzF.f384 : PreE Tryz.prog Go.Eng.Tryz.X0 := by
  apply PreE.mk 384
  conv => lhs; whnf
set_option maxHeartbeats 4000000 in
noncomputable def TryzF.f388 : PreE Tryz.prog Go.Eng.Tryz.X0 := by
  apply PreE.mk 388
  conv => lhs; whnf
set_option maxHeartbeats 4000000 in
noncomputable def TryzF.f392 : PreE Tryz.prog Go.Eng.Tryz.X0 := by
  apply PreE.mk 392
  conv => lhs; whnf
set_option maxHeartbeats 4000000 in
noncomputable def TryzF.f396 : PreE Tryz.prog Go.Eng.Tryz.X0 := by
  apply PreE.mk 396
  conv => lhs; whnf
set_option maxHeartbeats 4000000 in
noncomputable def TryzF.f400 : PreE Tryz.prog Go.Eng.Tryz.X0 := by
  apply PreE.mk 400
  conv => lhs; whnf
set_option maxHeartbeats 4000000 in
noncomputable def TryzF.f404 : PreE Tryz.prog Go.Eng.Tryz.X0 := by
  apply PreE.mk 404
  conv => lhs; whnf
set_option maxHeartbeats 4000000 in
noncomputable def TryzF.f408 : PreE Tryz.prog Go.Eng.Tryz.X0 := by
  apply PreE.mk 408
  conv => lhs; whnf
set_option maxHeartbeats 4000000 in
noncomputable def TryzF.f413 : PreE Tryz.prog Go.Eng.Tryz.X0 := by
  apply PreE.mk 413
  conv => lhs; whnf
set_option maxHeartbeats 4000000 in
noncomputable def TryzF.f417 : PreE Tryz.prog Go.Eng.Tryz.X0 := by
  apply PreE.mk 417
  conv => lhs; whnf
end Go.Proofs
