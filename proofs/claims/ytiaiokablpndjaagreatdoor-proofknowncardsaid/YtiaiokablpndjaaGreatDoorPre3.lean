import Derived.Test.YtiaiokablpndjaaGreatDoorCfg
import Derived.Test.YtiaiokablpndjaaGreatDoorProg
/- Part of the proof of ProofKnown. -/
namespace Go.Proofs
open Go Go.Eng
set_option maxRecDepth 10000000
set_option maxHeartbeats 4000000 in
noncomputable def TryzF.f5 : PreE Tryz.prog Go.Eng.Tryz.X0 := by
  apply PreE.mk 5
  conv => lhs; whnf
set_option maxHeartbeats 4000000 in
noncomputable def TryzF.f9 : PreE Tryz.prog Go.Eng.Tryz.X0 := by
  apply PreE.mk 9
  conv => lhs; whnf
set_option maxHeartbeats 4000000 in
noncomputable def TryzF.f13 : PreE Tryz.prog Go.Eng.Tryz.X0 := by
  apply PreE.mk 13
  conv => lhs; whnf
set_option maxHeartbeats 4000000 in
noncomputable def TryzF.f17 : PreE Tryz.prog Go.Eng.Tryz.X0 := by
  apply PreE.mk 17
  conv => lhs; whnf
set_option maxHeartbeats 4000000 in
noncomputable def TryzF.f21 : PreE Tryz.prog Go.Eng.Tryz.X0 := by
  apply PreE.mk 21
  conv => lhs; whnf
set_option maxHeartbeats 4000000 in
noncomputable def TryzF.f25 : PreE Tryz.prog Go.Eng.Tryz.X0 := by
  apply PreE.mk 25
  conv => lhs; whnf
set_option maxHeartbeats 4000000 in
noncomputable def TryzF.f29 : PreE Tryz.prog Go.Eng.Tryz.X0 := by
  apply PreE.mk 29
  conv => lhs; whnf
set_option maxHeartbeats 4000000 in
noncomputable def TryzF.f33 : PreE Tryz.prog Go.Eng.Tryz.X0 := by
  apply PreE.mk 33
  conv => lhs; whnf
set_option maxHeartbeats 4000000 in
noncomputable def TryzF.f37 : PreE Tryz.prog Go.Eng.Tryz.X0 := by
  apply PreE.mk 37
  conv => lhs; whnf
set_option maxHeartbeats 4000000 in
noncomputable def TryzF.f41 : PreE Tryz.prog Go.Eng.Tryz.X0 := by
  apply PreE.mk 41
  conv => lhs; whnf
set_option maxHeartbeats 4000000 in
noncomputable def TryzF.f45 : PreE Tryz.prog Go.Eng.Tryz.X0 := by
  apply PreE.mk 45
  conv => lhs; whnf
set_option maxHeartbeats 4000000 in
noncomputable def TryzF.f49 : PreE Tryz.prog Go.Eng.Tryz.X0 := by
  apply PreE.mk 49
  conv => lhs; whnf
set_option maxHeartbeats 4000000 in
noncomputable def TryzF.f53 : PreE Tryz.prog Go.Eng.Tryz.X0 := by
  apply PreE.mk 53
  conv => lhs; whnf
set_option maxHeartbeats 4000000 in
noncomputable def TryzF.f57 : PreE Tryz.prog Go.Eng.Tryz.X0 := by
  apply PreE.mk 57
  conv => lhs; whnf
set_option maxHeartbeats 4000000 in
noncomputable def TryzF.f64 : PreE Tryz.prog Go.Eng.Tryz.X0 := by
  apply PreE.mk 64
  conv => lhs; whnf
set_option maxHeartbeats 4000000 in
noncomputable def TryzF.f68 : PreE Tryz.prog Go.Eng.Tryz.X0 := by
  apply PreE.mk 68
  conv => lhs; whnf
set_option maxHeartbeats 4000000 in
noncomputable def TryzF.f72 : PreE Tryz.prog Go.Eng.Tryz.X0 := by
  apply PreE.mk 72
  conv => lhs; whnf
set_option maxHeartbeats 4000000 in
noncomputable def TryzF.f76 : PreE Tryz.prog Go.Eng.Tryz.X0 := by
  apply PreE.mk 76
  conv => lhs; whnf
set_option maxHeartbeats 4000000 in
noncomputable def TryzF.f80 : PreE Tryz.prog Go.Eng.Tryz.X0 := by
  apply PreE.mk 80
  conv => lhs; whnf
set_option maxHeartbeats 4000000 in
noncomputable def TryzF.f84 : PreE Tryz.prog Go.Eng.Tryz.X0 := by
  apply PreE.mk 84
  conv => lhs; whnf
set_option maxHeartbeats 4000000 in
noncomputable def TryzF.f88 : PreE Tryz.prog Go.Eng.Tryz.X0 := by
  apply PreE.mk 88
  conv => lhs; whnf
set_option maxHeartbeats 4000000 in
noncomputable def TryzF.f92 : PreE Tryz.prog Go.Eng.Tryz.X0 := by
  apply PreE.mk 92
  conv => lhs; whnf
set_option maxHeartbeats 4000000 in
noncomputable def TryzF.f96 : PreE Tryz.prog Go.Eng.Tryz.X0 := by
  apply PreE.mk 96
  conv => lhs; whnf
set_option maxHeartbeats 4000000 in
noncomputable def TryzF.f103 : PreE Tryz.prog Go.Eng.Tryz.X0 := by
  apply PreE.mk 103
  conv => lhs; whnf
set_option maxHeartbeats 4000000 in
noncomputable def TryzF.f107 : PreE Tryz.prog Go.Eng.Tryz.X0 := by
  apply PreE.mk 107
  conv => lhs; whnf
set_option maxHeartbeats 4000000 in
noncomputable def TryzF.f111 : PreE Tryz.prog Go.Eng.Tryz.X0 := by
  apply PreE.mk 111
  conv => lhs; whnf
set_option maxHeartbeats 4000000 in
noncomputable def TryzF.f115 : PreE Tryz.prog Go.Eng.Tryz.X0 := by
  apply PreE.mk 115
  conv => lhs; whnf
set_option maxHeartbeats 4000000 in
noncomputable def TryzF.f119 : PreE Tryz.prog Go.Eng.Tryz.X0 := by
  apply PreE.mk 119
  conv => lhs; whnf
set_option maxHeartbeats 4000000 in
noncomputable def TryzF.f123 : PreE Tryz.prog Go.Eng.Tryz.X0 := by
  apply PreE.mk 123
  conv => lhs; whnf
set_option maxHeartbeats 4000000 in
noncomputable def TryzF.f127 : PreE Tryz.prog Go.Eng.Tryz.X0 := by
  apply PreE.mk 127
  conv => lhs; whnf
set_option maxHeartbeats 4000000 in
noncomputable def TryzF.f131 : PreE Tryz.prog Go.Eng.Tryz.X0 := by
  apply PreE.mk 131
  conv => lhs; whnf
set_option maxHeartbeats 4000000 in
noncomputable def TryzF.f135 : PreE Tryz.prog Go.Eng.Tryz.X0 := by
  apply PreE.mk 135
  conv => lhs; whnf
set_option maxHeartbeats 4000000 in
noncomputable def TryzF.f139 : PreE Tryz.prog Go.Eng.Tryz.X0 := by
  apply PreE.mk 139
  conv => lhs; whnf
set_option maxHeartbeats 4000000 in
noncomputable def TryzF.f143 : PreE Tryz.prog Go.Eng.Tryz.X0 := by
  apply PreE.mk 143
  conv => lhs; whnf
set_option maxHeartbeats 4000000 in
noncomputable def TryzF.f147 : PreE Tryz.prog Go.Eng.Tryz.X0 := by
  apply PreE.mk 147
  conv => lhs; whnf
set_option maxHeartbeats 4000000 in
noncomputable def TryzF.f151 : PreE Tryz.prog Go.Eng.Tryz.X0 := by
  apply PreE.mk 151
  conv => lhs; whnf
set_option maxHeartbeats 4000000 in
noncomputable def TryzF.f155 : PreE Tryz.prog Go.Eng.Tryz.X0 := by
  apply PreE.mk 155
  conv => lhs; whnf
set_option maxHeartbeats 4000000 in
noncomputable def TryzF.f159 : PreE Tryz.prog Go.Eng.Tryz.X0 := by
  apply PreE.mk 159
  conv => lhs; whnf
set_option maxHeartbeats 4000000 in
noncomputable def TryzF.f163 : PreE Tryz.prog Go.Eng.Tryz.X0 := by
  apply PreE.mk 163
  conv => lhs; whnf
set_option maxHeartbeats 4000000 in
noncomputable def TryzF.f167 : PreE Tryz.prog Go.Eng.Tryz.X0 := by
  apply PreE.mk 167
  conv => lhs; whnf
set_option maxHeartbeats 4000000 in
noncomputable def TryzF.f171 : PreE Tryz.prog Go.Eng.Tryz.X0 := by
  apply PreE.mk 171
  conv => lhs; whnf
set_option maxHeartbeats 4000000 in
noncomputable def TryzF.f175 : PreE Tryz.prog Go.Eng.Tryz.X0 := by
  apply PreE.mk 175
  conv => lhs; whnf
set_option maxHeartbeats 4000000 in
noncomputable def TryzF.f179 : PreE Tryz.prog Go.Eng.Tryz.X0 := by
  apply PreE.mk 179
  conv => lhs; whnf
set_option maxHeartbeats 4000000 in
noncomputable def TryzF.f183 : PreE Tryz.prog Go.Eng.Tryz.X0 := by
  apply PreE.mk 183
  conv => lhs; whnf
set_option maxHeartbeats 4000000 in
noncomputable def TryzF.f187 : PreE Tryz.prog Go.Eng.Tryz.X0 := by
  apply PreE.mk 187
  conv => lhs; whnf
set_option maxHeartbeats 4000000 in
noncomputable def TryzF.f191 : PreE Tryz.prog Go.Eng.Tryz.X0 := by
  apply PreE.mk 191
  conv => lhs; whnf
set_option maxHeartbeats 4000000 in
noncomputable def TryzF.f195 : PreE Tryz.prog Go.Eng.Tryz.X0 := by
  apply PreE.mk 195
  conv => lhs; whnf
set_option maxHeartbeats 4000000 in
noncomputable def TryzF.f199 : PreE Tryz.prog Go.Eng.Tryz.X0 := by
  apply PreE.mk 199
  conv => lhs; whnf
set_option maxHeartbeats 4000000 in
noncomputable def TryzF.f203 : PreE Tryz.prog Go.Eng.Tryz.X0 := by
  apply PreE.mk 203
  conv => lhs; whnf
set_option maxHeartbeats 4000000 in
noncomputable def TryzF.f207 : PreE Tryz.prog Go.Eng.Tryz.X0 := by
  apply PreE.mk 207
  conv => lhs; whnf
set_option maxHeartbeats 4000000 in
noncomputable def TryzF.f211 : PreE Tryz.prog Go.Eng.Tryz.X0 := by
  apply PreE.mk 211
  conv => lhs; whnf
set_option maxHeartbeats 4000000 in
noncomputable def TryzF.f215 : PreE Tryz.prog Go.Eng.Tryz.X0 := by
  apply PreE.mk 215
  conv => lhs; whnf
set_option maxHeartbeats 4000000 in
noncomputable def TryzF.f219 : PreE Tryz.prog Go.Eng.Tryz.X0 := by
  apply PreE.mk 219
  conv => lhs; whnf
set_option maxHeartbeats 4000000 in
noncomputable def TryzF.f223 : PreE Tryz.prog Go.Eng.Tryz.X0 := by
  apply PreE.mk 223
  conv => lhs; whnf
set_option maxHeartbeats 4000000 in
noncomputable def TryzF.f227 : PreE Tryz.prog Go.Eng.Tryz.X0 := by
  apply PreE.mk 227
  conv => lhs; whnf
set_option maxHeartbeats 4000000 in
noncomputable def TryzF.f231 : PreE Tryz.prog Go.Eng.Tryz.X0 := by
  apply PreE.mk 231
  conv => lhs; whnf
set_option maxHeartbeats 4000000 in
noncomputable def TryzF.f235 : PreE Tryz.prog Go.Eng.Tryz.X0 := by
  apply PreE.mk 235
  conv => lhs; whnf
set_option maxHeartbeats 4000000 in
noncomputable def TryzF.f239 : PreE Tryz.prog Go.Eng.Tryz.X0 := by
  apply PreE.mk 239
  conv => lhs; whnf
set_option maxHeartbeats 4000000 in
noncomputable def TryzF.f243 : PreE Tryz.prog Go.Eng.Tryz.X0 := by
  apply PreE.mk 243
  conv => lhs; whnf
set_option maxHeartbeats 4000000 in
noncomputable def TryzF.f247 : PreE Tryz.prog Go.Eng.Tryz.X0 := by
  apply PreE.mk 247
  conv => lhs; whnf
set_option maxHeartbeats 4000000 in
noncomputable def TryzF.f251 : PreE Tryz.prog Go.Eng.Tryz.X0 := by
  apply PreE.mk 251
  conv => lhs; whnf
set_option maxHeartbeats 4000000 in
noncomputable def TryzF.f255 : PreE Tryz.prog Go.Eng.Tryz.X0 := by
  apply PreE.mk 255
  conv => lhs; whnf
set_option maxHeartbeats 4000000 in
noncomputable def TryzF.f259 : PreE Tryz.prog Go.Eng.Tryz.X0 := by
  apply PreE.mk 259
  conv => lhs; whnf
set_option maxHeartbeats 4000000 in
noncomputable def TryzF.f263 : PreE Tryz.prog Go.Eng.Tryz.X0 := by
  apply PreE.mk 263
  conv => lhs; whnf
set_option maxHeartbeats 4000000 in
noncomputable def TryzF.f267 : PreE Tryz.prog Go.Eng.Tryz.X0 := by
  apply PreE.mk 267
  conv => lhs; whnf
set_option maxHeartbeats 4000000 in
noncomputable def TryzF.f271 : PreE Tryz.prog Go.Eng.Tryz.X0 := by
  apply PreE.mk 271
  conv => lhs; whnf
set_option maxHeartbeats 4000000 in
noncomputable def TryzF.f275 : PreE Tryz.prog Go.Eng.Tryz.X0 := by
  apply PreE.mk 275
  conv => lhs; whnf
set_option maxHeartbeats 4000000 in
noncomputable def TryzF.f279 : PreE Tryz.prog Go.Eng.Tryz.X0 := by
  apply PreE.mk 279
  conv => lhs; whnf
set_option maxHeartbeats 4000000 in
noncomputable def TryzF.f283 : PreE Tryz.prog Go.Eng.Tryz.X0 := by
  apply PreE.mk 283
  conv => lhs; whnf
set_option maxHeartbeats 4000000 in
noncomputable def TryzF.f287 : PreE Tryz.prog Go.Eng.Tryz.X0 := by
  apply PreE.mk 287
  conv => lhs; whnf
set_option maxHeartbeats 4000000 in
noncomputable def TryzF.f291 : PreE Tryz.prog Go.Eng.Tryz.X0 := by
  apply PreE.mk 291
  conv => lhs; whnf
set_option maxHeartbeats 4000000 in
noncomputable def TryzF.f295 : PreE Tryz.prog Go.Eng.Tryz.X0 := by
  apply PreE.mk 295
  conv => lhs; whnf
set_option maxHeartbeats 4000000 in
noncomputable def TryzF.f299 : PreE Tryz.prog Go.Eng.Tryz.X0 := by
  apply PreE.mk 299
  conv => lhs; whnf
set_option maxHeartbeats 4000000 in
noncomputable def TryzF.f303 : PreE Tryz.prog Go.Eng.Tryz.X0 := by
  apply PreE.mk 303
  conv => lhs; whnf
set_option maxHeartbeats 4000000 in
noncomputable def TryzF.f307 : PreE Tryz.prog Go.Eng.Tryz.X0 := by
  apply PreE.mk 307
  conv => lhs; whnf
set_option maxHeartbeats 4000000 in
noncomputable def TryzF.f311 : PreE Tryz.prog Go.Eng.Tryz.X0 := by
  apply PreE.mk 311
  conv => lhs; whnf
set_option maxHeartbeats 4000000 in
noncomputable def TryzF.f315 : PreE Tryz.prog Go.Eng.Tryz.X0 := by
  apply PreE.mk 315
  conv => lhs; whnf
set_option maxHeartbeats 4000000 in
noncomputable def TryzF.f319 : PreE Tryz.prog Go.Eng.Tryz.X0 := by
  apply PreE.mk 319
  conv => lhs; whnf
set_option maxHeartbeats 4000000 in
noncomputable def TryzF.f323 : PreE Tryz.prog Go.Eng.Tryz.X0 := by
  apply PreE.mk 323
  conv => lhs; whnf
set_option maxHeartbeats 4000000 in
noncomputable def TryzF.f327 : PreE Tryz.prog Go.Eng.Tryz.X0 := by
  apply PreE.mk 327
  conv => lhs; whnf
set_option maxHeartbeats 4000000 in
noncomputable def TryzF.f331 : PreE Tryz.prog Go.Eng.Tryz.X0 := by
  apply PreE.mk 331
  conv => lhs; whnf
set_option maxHeartbeats 4000000 in
noncomputable def TryzF.f335 : PreE Tryz.prog Go.Eng.Tryz.X0 := by
  apply PreE.mk 335
  conv => lhs; whnf
set_option maxHeartbeats 4000000 in
noncomputable def TryzF.f339 : PreE Tryz.prog Go.Eng.Tryz.X0 := by
  apply PreE.mk 339
  conv => lhs; whnf
set_option maxHeartbeats 4000000 in
noncomputable def TryzF.f343 : PreE Tryz.prog Go.Eng.Tryz.X0 := by
  apply PreE.mk 343
  conv => lhs; whnf
set_option maxHeartbeats 4000000 in
noncomputable def TryzF.f347 : PreE Tryz.prog Go.Eng.Tryz.X0 := by
  apply PreE.mk 347
  conv => lhs; whnf
set_option maxHeartbeats 4000000 in
noncomputable def TryzF.f351 : PreE Tryz.prog Go.Eng.Tryz.X0 := by
  apply PreE.mk 351
  conv => lhs; whnf
set_option maxHeartbeats 4000000 in
noncomputable def TryzF.f355 : PreE Tryz.prog Go.Eng.Tryz.X0 := by
  apply PreE.mk 355
  conv => lhs; whnf
set_option maxHeartbeats 4000000 in
noncomputable def TryzF.f359 : PreE Tryz.prog Go.Eng.Tryz.X0 := by
  apply PreE.mk 359
  conv => lhs; whnf
set_option maxHeartbeats 4000000 in
noncomputable def TryzF.f363 : PreE Tryz.prog Go.Eng.Tryz.X0 := by
  apply PreE.mk 363
  conv => lhs; whnf
set_option maxHeartbeats 4000000 in
noncomputable def TryzF.f367 : PreE Tryz.prog Go.Eng.Tryz.X0 := by
  apply PreE.mk 367
  conv => lhs; whnf
set_option maxHeartbeats 4000000 in
noncomputable def TryzF.f371 : PreE Tryz.prog Go.Eng.Tryz.X0 := by
  apply PreE.mk 371
  conv => lhs; whnf
set_option maxHeartbeats 4000000 in
noncomputable def TryzF.f375 : PreE Tryz.prog Go.Eng.Tryz.X0 := by
  apply PreE.mk 375
  conv => lhs; whnf
set_option maxHeartbeats 4000000 in
noncomputable def TryzF.f379 : PreE Tryz.prog Go.Eng.Tryz.X0 := by
  apply PreE.mk 379
  conv => lhs; whnf
set_option maxHeartbeats 4000000 in
noncomputable def TryzF.f383 : PreE Tryz.prog Go.Eng.Tryz.X0 := by
  apply PreE.mk 383
  conv => lhs; whnf
set_option maxHeartbeats 4000000 in
noncomputable def TryzF.f387 : PreE Tryz.prog Go.Eng.Tryz.X0 := by
  apply PreE.mk 387
  conv => lhs; whnf
set_option maxHeartbeats 4000000 in
noncomputable def TryzF.f391 : PreE Tryz.prog Go.Eng.Tryz.X0 := by
  apply PreE.mk 391
  conv => lhs; whnf
set_option maxHeartbeats 4000000 in
noncomputable def TryzF.f395 : PreE Tryz.prog Go.Eng.Tryz.X0 := by
  apply PreE.mk 395
  conv => lhs; whnf
set_option maxHeartbeats 4000000 in
noncomputable def TryzF.f399 : PreE Tryz.prog Go.Eng.Tryz.X0 := by
  apply PreE.mk 399
  conv => lhs; whnf
set_option maxHeartbeats 4000000 in
noncomputable def TryzF.f403 : PreE Tryz.prog Go.Eng.Tryz.X0 := by
  apply PreE.mk 403
  conv => lhs; whnf
set_option maxHeartbeats 4000000 in
noncomputable def TryzF.f407 : PreE Tryz.prog Go.Eng.Tryz.X0 := by
  apply PreE.mk 407
  conv => lhs; whnf
set_option maxHeartbeats 4000000 in
noncomputable def TryzF.f411 : PreE Tryz.prog Go.Eng.Tryz.X0 := by
  apply PreE.mk 411
  conv => lhs; whnf
set_option maxHeartbeats 4000000 in
noncomputable def TryzF.f416 : PreE Tryz.prog Go.Eng.Tryz.X0 := by
  apply PreE.mk 416
  conv => lhs; whnf
set_option maxHeartbeats 4000000 in
noncomputable def TryzF.f463 : PreE Tryz.prog Go.Eng.Tryz.X0 := by
  apply PreE.mk 463
  conv => lhs; whnf
end Go.Proofs
