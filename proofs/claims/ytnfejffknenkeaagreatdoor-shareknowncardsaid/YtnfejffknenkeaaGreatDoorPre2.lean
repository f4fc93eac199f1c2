import Derived.Test.YtnfejffknenkeaaGreatDoorCfg
import Derived.Test.YtnfejffknenkeaaGreatDoorProg
/- Part of the proof of ShareKnown. -/
namespace Go.Proofs
open Go Go.Eng
set_option maxRecDepth 10000000
set_option maxHeartbeats 4000000 in
noncomputable def TryzF.f4 : PreE Tryz.prog Go.Eng.Tryz.X0 := by
  apply PreE.mk 4
  conv => lhs; whnf
set_option maxHeartbeats 4000000 in
noncomputable def TryzF.f8 : PreE Tryz.prog Go.Eng.Tryz.X0 := by
  apply PreE.mk 8
  conv => lhs; whnf
set_option maxHeartbeats 4000000 in
noncomputable def TryzF.f12 : PreE Tryz.prog Go.Eng.Tryz.X0 := by
  apply PreE.mk 12
  conv => lhs; whnf
set_option maxHeartbeats 4000000 in
noncomputable def TryzF.f16 : PreE Tryz.prog Go.Eng.Tryz.X0 := by
  apply PreE.mk 16
  conv => lhs; whnf
set_option maxHeartbeats 4000000 in
noncomputable def TryzF.f20 : PreE Tryz.prog Go.Eng.Tryz.X0 := by
  apply PreE.mk 20
  conv => lhs; whnf
set_option maxHeartbeats 4000000 in
noncomputable def TryzF.f24 : PreE Tryz.prog Go.Eng.Tryz.X0 := by
  apply PreE.mk 24
  conv => lhs; whnf
set_option maxHeartbeats 4000000 in
noncomputable def TryzF.f28 : PreE Tryz.prog Go.Eng.Tryz.X0 := by
  apply PreE.mk 28
  conv => lhs; whnf
set_option maxHeartbeats 4000000 in
noncomputable def TryzF.f32 : PreE Tryz.prog Go.Eng.Tryz.X0 := by
  apply PreE.mk 32
  conv => lhs; whnf
set_option maxHeartbeats 4000000 in
noncomputable def TryzF.f36 : PreE Tryz.prog Go.Eng.Tryz.X0 := by
  apply PreE.mk 36
  conv => lhs; whnf
set_option maxHeartbeats 4000000 in
noncomputable def TryzF.f40 : PreE Tryz.prog Go.Eng.Tryz.X0 := by
  apply PreE.mk 40
  conv => lhs; whnf
set_option maxHeartbeats 4000000 in
noncomputable def TryzF.f44 : PreE Tryz.prog Go.Eng.Tryz.X0 := by
  apply PreE.mk 44
  conv => lhs; whnf
set_option maxHeartbeats 4000000 in
noncomputable def TryzF.f48 : PreE Tryz.prog Go.Eng.Tryz.X0 := by
  apply PreE.mk 48
  conv => lhs; whnf
set_option maxHeartbeats 4000000 in
noncomputable def TryzF.f52 : PreE Tryz.prog Go.Eng.Tryz.X0 := by
  apply PreE.mk 52
  conv => lhs; whnf
set_option maxHeartbeats 4000000 in
noncomputable def TryzF.f56 : PreE Tryz.prog Go.Eng.Tryz.X0 := by
  apply PreE.mk 56
  conv => lhs; whnf
set_option maxHeartbeats 4000000 in
noncomputable def TryzF.f60 : PreE Tryz.prog Go.Eng.Tryz.X0 := by
  apply PreE.mk 60
  conv => lhs; whnf
set_option maxHeartbeats 4000000 in
noncomputable def TryzF.f64 : PreE Tryz.prog Go.Eng.Tryz.X0 := by
  apply PreE.mk 64
  conv => lhs; whnf
set_option maxHeartbeats 4000000 in
noncomputable def TryzF.f68 : PreE Tryz.prog Go.Eng.Tryz.X0 := by
  apply PreE.mk 68
  conv => lhs; whnf
set_option maxHeartbeats 4000000 in
noncomputable def TryzF.f72 : PreE Tryz.prog Go.Eng.Tryz.X0 := by
  apply PreE.mk 72
  conv => lhs; whnf
set_option maxHeartbeats 4000000 in
noncomputable def TryzF.f76 : PreE Tryz.prog Go.Eng.Tryz.X0 := by
  apply PreE.mk 76
  conv => lhs; whnf
set_option maxHeartbeats 4000000 in
noncomputable def TryzF.f80 : PreE Tryz.prog Go.Eng.Tryz.X0 := by
  apply PreE.mk 80
  conv => lhs; whnf
set_option maxHeartbeats 4000000 in
noncomputable def TryzF.f84 : PreE Tryz.prog Go.Eng.Tryz.X0 := by
  apply PreE.mk 84
  conv => lhs; whnf
set_option maxHeartbeats 4000000 in
noncomputable def TryzF.f88 : PreE Tryz.prog Go.Eng.Tryz.X0 := by
  apply PreE.mk 88
  conv => lhs; whnf
set_option maxHeartbeats 4000000 in
noncomputable def TryzF.f92 : PreE Tryz.prog Go.Eng.Tryz.X0 := by
  apply PreE.mk 92
  conv => lhs; whnf
set_option maxHeartbeats 4000000 in
noncomputable def TryzF.f96 : PreE Tryz.prog Go.Eng.Tryz.X0 := by
  apply PreE.mk 96
  conv => lhs; whnf
set_option maxHeartbeats 4000000 in
noncomputable def TryzF.f100 : PreE Tryz.prog Go.Eng.Tryz.X0 := by
  apply PreE.mk 100
  conv => lhs; whnf
set_option maxHeartbeats 4000000 in
noncomputable def TryzF.f104 : PreE Tryz.prog Go.Eng.Tryz.X0 := by
  apply PreE.mk 104
  conv => lhs; whnf
set_option maxHeartbeats 4000000 in
noncomputable def TryzF.f108 : PreE Tryz.prog Go.Eng.Tryz.X0 := by
  apply PreE.mk 108
  conv => lhs; whnf
set_option maxHeartbeats 4000000 in
noncomputable def TryzF.f112 : PreE Tryz.prog Go.Eng.Tryz.X0 := by
  apply PreE.mk 112
  conv => lhs; whnf
set_option maxHeartbeats 4000000 in
noncomputable def TryzF.f116 : PreE Tryz.prog Go.Eng.Tryz.X0 := by
  apply PreE.mk 116
  conv => lhs; whnf
set_option maxHeartbeats 4000000 in
noncomputable def TryzF.f120 : PreE Tryz.prog Go.Eng.Tryz.X0 := by
  apply PreE.mk 120
  conv => lhs; whnf
set_option maxHeartbeats 4000000 in
noncomputable def TryzF.f124 : PreE Tryz.prog Go.Eng.Tryz.X0 := by
  apply PreE.mk 124
  conv => lhs; whnf
set_option maxHeartbeats 4000000 in
noncomputable def TryzF.f128 : PreE Tryz.prog Go.Eng.Tryz.X0 := by
  apply PreE.mk 128
  conv => lhs; whnf
set_option maxHeartbeats 4000000 in
noncomputable def TryzF.f132 : PreE Tryz.prog Go.Eng.Tryz.X0 := by
  apply PreE.mk 132
  conv => lhs; whnf
set_option maxHeartbeats 4000000 in
noncomputable def TryzF.f136 : PreE Tryz.prog Go.Eng.Tryz.X0 := by
  apply PreE.mk 136
  conv => lhs; whnf
set_option maxHeartbeats 4000000 in
noncomputable def TryzF.f140 : PreE Tryz.prog Go.Eng.Tryz.X0 := by
  apply PreE.mk 140
  conv => lhs; whnf
set_option maxHeartbeats 4000000 in
noncomputable def TryzF.f144 : PreE Tryz.prog Go.Eng.Tryz.X0 := by
  apply PreE.mk 144
  conv => lhs; whnf
set_option maxHeartbeats 4000000 in
noncomputable def TryzF.f148 : PreE Tryz.prog Go.Eng.Tryz.X0 := by
  apply PreE.mk 148
  conv => lhs; whnf
set_option maxHeartbeats 4000000 in
noncomputable def TryzF.f152 : PreE Tryz.prog Go.Eng.Tryz.X0 := by
  apply PreE.mk 152
  conv => lhs; whnf
set_option maxHeartbeats 4000000 in
noncomputable def TryzF.f156 : PreE Tryz.prog Go.Eng.Tryz.X0 := by
  apply PreE.mk 156
  conv => lhs; whnf
set_option maxHeartbeats 4000000 in
noncomputable def TryzF.f160 : PreE Tryz.prog Go.Eng.Tryz.X0 := by
  apply PreE.mk 160
  conv => lhs; whnf
set_option maxHeartbeats 4000000 in
noncomputable def TryzF.f164 : PreE Tryz.prog Go.Eng.Tryz.X0 := by
  apply PreE.mk 164
  conv => lhs; whnf
set_option maxHeartbeats 4000000 in
noncomputable def TryzF.f168 : PreE Tryz.prog Go.Eng.Tryz.X0 := by
  apply PreE.mk 168
  conv => lhs; whnf
set_option maxHeartbeats 4000000 in
noncomputable def TryzF.f172 : PreE Tryz.prog Go.Eng.Tryz.X0 := by
  apply PreE.mk 172
  conv => lhs; whnf
set_option maxHeartbeats 4000000 in
noncomputable def TryzF.f176 : PreE Tryz.prog Go.Eng.Tryz.X0 := by
  apply PreE.mk 176
  conv => lhs; whnf
set_option maxHeartbeats 4000000 in
noncomputable def TryzF.f180 : PreE Tryz.prog Go.Eng.Tryz.X0 := by
  apply PreE.mk 180
  conv => lhs; whnf
set_option maxHeartbeats 4000000 in
noncomputable def TryzF.f184 : PreE Tryz.prog Go.Eng.Tryz.X0 := by
  apply PreE.mk 184
  conv => lhs; whnf
set_option maxHeartbeats 4000000 in
noncomputable def TryzF.f188 : PreE Tryz.prog Go.Eng.Tryz.X0 := by
  apply PreE.mk 188
  conv => lhs; whnf
set_option maxHeartbeats 4000000 in
noncomputable def TryzF.f192 : PreE Tryz.prog Go.Eng.Tryz.X0 := by
  apply PreE.mk 192
  conv => lhs; whnf
set_option maxHeartbeats 4000000 in
noncomputable def TryzF.f196 : PreE Tryz.prog Go.Eng.Tryz.X0 := by
  apply PreE.mk 196
  conv => lhs; whnf
set_option maxHeartbeats 4000000 in
noncomputable def TryzF.f200 : PreE Tryz.prog Go.Eng.Tryz.X0 := by
  apply PreE.mk 200
  conv => lhs; whnf
set_option maxHeartbeats 4000000 in
noncomputable def TryzF.f204 : PreE Tryz.prog Go.Eng.Tryz.X0 := by
  apply PreE.mk 204
  conv => lhs; whnf
set_option maxHeartbeats 4000000 in
noncomputable def TryzF.f208 : PreE Tryz.prog Go.Eng.Tryz.X0 := by
  apply PreE.mk 208
  conv => lhs; whnf
set_option maxHeartbeats 4000000 in
noncomputable def TryzF.f212 : PreE Tryz.prog Go.Eng.Tryz.X0 := by
  apply PreE.mk 212
  conv => lhs; whnf
set_option maxHeartbeats 4000000 in
noncomputable def TryzF.f216 : PreE Tryz.prog Go.Eng.Tryz.X0 := by
  apply PreE.mk 216
  conv => lhs; whnf
set_option maxHeartbeats 4000000 in
noncomputable def TryzF.f220 : PreE Tryz.prog Go.Eng.Tryz.X0 := by
  apply PreE.mk 220
  conv => lhs; whnf
set_option maxHeartbeats 4000000 in
noncomputable def TryzF.f224 : PreE Tryz.prog Go.Eng.Tryz.X0 := by
  apply PreE.mk 224
  conv => lhs; whnf
set_option maxHeartbeats 4000000 in
noncomputable def TryzF.f228 : PreE Tryz.prog Go.Eng.Tryz.X0 := by
  apply PreE.mk 228
  conv => lhs; whnf
set_option maxHeartbeats 4000000 in
noncomputable def TryzF.f232 : PreE Tryz.prog Go.Eng.Tryz.X0 := by
  apply PreE.mk 232
  conv => lhs; whnf
set_option maxHeartbeats 4000000 in
noncomputable def TryzF.f236 : PreE Tryz.prog Go.Eng.Tryz.X0 := by
  apply PreE.mk 236
  conv => lhs; whnf
set_option maxHeartbeats 4000000 in
noncomputable def TryzF.f240 : PreE Tryz.prog Go.Eng.Tryz.X0 := by
  apply PreE.mk 240
  conv => lhs; whnf
set_option maxHeartbeats 4000000 in
noncomputable def TryzF.f244 : PreE Tryz.prog Go.Eng.Tryz.X0 := by
  apply PreE.mk 244
  conv => lhs; whnf
set_option maxHeartbeats 4000000 in
noncomputable def TryzF.f248 : PreE Tryz.prog Go.Eng.Tryz.X0 := by
  apply PreE.mk 248
  conv => lhs; whnf
set_option maxHeartbeats 4000000 in
noncomputable def TryzF.f252 : PreE Tryz.prog Go.Eng.Tryz.X0 := by
  apply PreE.mk 252
  conv => lhs; whnf
set_option maxHeartbeats 4000000 in
noncomputable def TryzF.f256 : PreE Tryz.prog Go.Eng.Tryz.X0 := by
  apply PreE.mk 256
  conv => lhs; whnf
set_option maxHeartbeats 4000000 in
noncomputable def TryzF.f260 : PreE Tryz.prog Go.Eng.Tryz.X0 := by
  apply PreE.mk 260
  conv => lhs; whnf
set_option maxHeartbeats 4000000 in
noncomputable def TryzF.f264 : PreE Tryz.prog Go.Eng.Tryz.X0 := by
  apply PreE.mk 264
  conv => lhs; whnf
set_option maxHeartbeats 4000000 in
noncomputable def TryzF.f268 : PreE Tryz.prog Go.Eng.Tryz.X0 := by
  apply PreE.mk 268
  conv => lhs; whnf
set_option maxHeartbeats 4000000 in
noncomputable def TryzF.f272 : PreE Tryz.prog Go.Eng.Tryz.X0 := by
  apply PreE.mk 272
  conv => lhs; whnf
set_option maxHeartbeats 4000000 in
noncomputable def TryzF.f276 : PreE Tryz.prog Go.Eng.Tryz.X0 := by
  apply PreE.mk 276
  conv => lhs; whnf
set_option maxHeartbeats 4000000 in
noncomputable def TryzF.f280 : PreE Tryz.prog Go.Eng.Tryz.X0 := by
  apply PreE.mk 280
  conv => lhs; whnf
set_option maxHeartbeats 4000000 in
noncomputable def TryzF.f284 : PreE Tryz.prog Go.Eng.Tryz.X0 := by
  apply PreE.mk 284
  conv => lhs; whnf
set_option maxHeartbeats 4000000 in
noncomputable def TryzF.f288 : PreE Tryz.prog Go.Eng.Tryz.X0 := by
  apply PreE.mk 288
  conv => lhs; whnf
set_option maxHeartbeats 4000000 in
noncomputable def TryzF.f292 : PreE Tryz.prog Go.Eng.Tryz.X0 := by
  apply PreE.mk 292
  conv => lhs; whnf
set_option maxHeartbeats 4000000 in
noncomputable def TryzF.f296 : PreE Tryz.prog Go.Eng.Tryz.X0 := by
  apply PreE.mk 296
  conv => lhs; whnf
set_option maxHeartbeats 4000000 in
noncomputable def TryzF.f300 : PreE Tryz.prog Go.Eng.Tryz.X0 := by
  apply PreE.mk 300
  conv => lhs; whnf
set_option maxHeartbeats 4000000 in
noncomputable def TryzF.f304 : PreE Tryz.prog Go.Eng.Tryz.X0 := by
  apply PreE.mk 304
  conv => lhs; whnf
set_option maxHeartbeats 4000000 in
noncomputable def TryzF.f308 : PreE Tryz.prog Go.Eng.Tryz.X0 := by
  apply PreE.mk 308
  conv => lhs; whnf
set_option maxHeartbeats 4000000 in
noncomputable def TryzF.f312 : PreE Tryz.prog Go.Eng.Tryz.X0 := by
  apply PreE.mk 312
  conv => lhs; whnf
set_option maxHeartbeats 4000000 in
noncomputable def TryzF.f316 : PreE Tryz.prog Go.Eng.Tryz.X0 := by
  apply PreE.mk 316
  conv => lhs; whnf
set_option maxHeartbeats 4000000 in
noncomputable def TryzF.f320 : PreE Tryz.prog Go.Eng.Tryz.X0 := by
  apply PreE.mk 320
  conv => lhs; whnf
set_option maxHeartbeats 4000000 in
noncomputable def TryzF.f324 : PreE Tryz.prog Go.Eng.Tryz.X0 := by
  apply PreE.mk 324
  conv => lhs; whnf
set_option maxHeartbeats 4000000 in
noncomputable def TryzF.f328 : PreE Tryz.prog Go.Eng.Tryz.X0 := by
  apply PreE.mk 328
  conv => lhs; whnf
set_option maxHeartbeats 4000000 in
noncomputable def TryzF.f332 : PreE Tryz.prog Go.Eng.Tryz.X0 := by
  apply PreE.mk 332
  conv => lhs; whnf
set_option maxHeartbeats 4000000 in
noncomputable def TryzF.f336 : PreE Tryz.prog Go.Eng.Tryz.X0 := by
  apply PreE.mk 336
  conv => lhs; whnf
set_option maxHeartbeats 4000000 in
noncomputable def TryzF.f340 : PreE Tryz.prog Go.Eng.Tryz.X0 := by
  apply PreE.mk 340
  conv => lhs; whnf
set_option maxHeartbeats 4000000 in
noncomputable def TryzF.f344 : PreE Tryz.prog Go.Eng.Tryz.X0 := by
  apply PreE.mk 344
  conv => lhs; whnf
set_option maxHeartbeats 4000000 in
noncomputable def TryzF.f348 : PreE Tryz.prog Go.Eng.Tryz.X0 := by
  apply PreE.mk 348
  conv => lhs; whnf
set_option maxHeartbeats 4000000 in
noncomputable def TryzF.f352 : PreE Tryz.prog Go.Eng.Tryz.X0 := by
  apply PreE.mk 352
  conv => lhs; whnf
set_option maxHeartbeats 4000000 in
noncomputable def TryzF.f356 : PreE Tryz.prog Go.Eng.Tryz.X0 := by
  apply PreE.mk 356
  conv => lhs; whnf
set_option maxHeartbeats 4000000 in
noncomputable def TryzF.f360 : PreE Tryz.prog Go.Eng.Tryz.X0 := by
  apply PreE.mk 360
  conv => lhs; whnf
set_option maxHeartbeats 4000000 in
noncomputable def TryzF.f364 : PreE Tryz.prog Go.Eng.Tryz.X0 := by
  apply PreE.mk 364
  conv => lhs; whnf
set_option maxHeartbeats 4000000 in
noncomputable def TryzF.f368 : PreE Tryz.prog Go.Eng.Tryz.X0 := by
  apply PreE.mk 368
  conv => lhs; whnf
set_option maxHeartbeats 4000000 in
noncomputable def TryzF.f373 : PreE Tryz.prog Go.Eng.Tryz.X0 := by
  apply PreE.mk 373
  conv => lhs; whnf
set_option maxHeartbeats 4000000 in
noncomputable def TryzF.f394 : PreE Tryz.prog Go.Eng.Tryz.X0 := by
  apply PreE.mk 394
  conv => lhs; whnf
set_option maxHeartbeats 4000000 in
noncomputable def TryzF.f398 : PreE Tryz.prog Go.Eng.Tryz.X0 := by
  apply PreE.mk 398
  conv => lhs; whnf
set_option maxHeartbeats 4000000 in
noncomputable def TryzF.f402 : PreE Tryz.prog Go.Eng.Tryz.X0 := by
  apply PreE.mk 402
  conv => lhs; whnf
set_option maxHeartbeats 4000000 in
noncomputable def TryzF.f406 : PreE Tryz.prog Go.Eng.Tryz.X0 := by
  apply PreE.mk 406
  conv => lhs; whnf
end Go.Proofs
