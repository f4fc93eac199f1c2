import Derived.Test.YtnfejffknenkeaaGreatDoorCfg
import Derived.Test.YtnfejffknenkeaaGreatDoorProg
/- Part of the proof of ShareKnown. -/
namespace Go.Proofs
open Go Go.Eng
set_option maxRecDepth 10000000
set_option maxHeartbeats 4000000 in
noncomputable def TryzF.f3 : PreE Tryz.prog Go.Eng.Tryz.X0 := by
  apply PreE.mk 3
  conv => lhs; whnf
set_option maxHeartbeats 4000000 in
noncomputable def TryzF.f7 : PreE Tryz.prog Go.Eng.Tryz.X0 := by
  apply PreE.mk 7
  conv => lhs; whnf
set_option maxHeartbeats 4000000 in
noncomputable def TryzF.f11 : PreE Tryz.prog Go.Eng.Tryz.X0 := by
  apply PreE.mk 11
  conv => lhs; whnf
set_option maxHeartbeats 4000000 in
noncomputable def TryzF.f15 : PreE Tryz.prog Go.Eng.Tryz.X0 := by
  apply PreE.mk 15
  conv => lhs; whnf
set_option maxHeartbeats 4000000 in
noncomputable def TryzF.f19 : PreE Tryz.prog Go.Eng.Tryz.X0 := by
  apply PreE.mk 19
  conv => lhs; whnf
set_option maxHeartbeats 4000000 in
noncomputable def TryzF.f23 : PreE Tryz.prog Go.Eng.Tryz.X0 := by
  apply PreE.mk 23
  conv => lhs; whnf
set_option maxHeartbeats 4000000 in
noncomputable def TryzF.f27 : PreE Tryz.prog Go.Eng.Tryz.X0 := by
  apply PreE.mk 27
  conv => lhs; whnf
set_option maxHeartbeats 4000000 in
noncomputable def TryzF.f31 : PreE Tryz.prog Go.Eng.Tryz.X0 := by
  apply PreE.mk 31
  conv => lhs; whnf
set_option maxHeartbeats 4000000 in
noncomputable def TryzF.f35 : PreE Tryz.prog Go.Eng.Tryz.X0 := by
  apply PreE.mk 35
  conv => lhs; whnf
set_option maxHeartbeats 4000000 in
noncomputable def TryzF.f39 : PreE Tryz.prog Go.Eng.Tryz.X0 := by
  apply PreE.mk 39
  conv => lhs; whnf
set_option maxHeartbeats 4000000 in
noncomputable def TryzF.f43 : PreE Tryz.prog Go.Eng.Tryz.X0 := by
  apply PreE.mk 43
  conv => lhs; whnf
set_option maxHeartbeats 4000000 in
noncomputable def TryzF.f47 : PreE Tryz.prog Go.Eng.Tryz.X0 := by
  apply PreE.mk 47
  conv => lhs; whnf
set_option maxHeartbeats 4000000 in
noncomputable def TryzF.f51 : PreE Tryz.prog Go.Eng.Tryz.X0 := by
  apply PreE.mk 51
  conv => lhs; whnf
set_option maxHeartbeats 4000000 in
noncomputable def TryzF.f55 : PreE Tryz.prog Go.Eng.Tryz.X0 := by
  apply PreE.mk 55
  conv => lhs; whnf
set_option maxHeartbeats 4000000 in
noncomputable def TryzF.f59 : PreE Tryz.prog Go.Eng.Tryz.X0 := by
  apply PreE.mk 59
  conv => lhs; whnf
set_option maxHeartbeats 4000000 in
noncomputable def TryzF.f63 : PreE Tryz.prog Go.Eng.Tryz.X0 := by
  apply PreE.mk 63
  conv => lhs; whnf
set_option maxHeartbeats 4000000 in
noncomputable def TryzF.f67 : PreE Tryz.prog Go.Eng.Tryz.X0 := by
  apply PreE.mk 67
  conv => lhs; whnf
set_option maxHeartbeats 4000000 in
noncomputable def TryzF.f71 : PreE Tryz.prog Go.Eng.Tryz.X0 := by
  apply PreE.mk 71
  conv => lhs; whnf
set_option maxHeartbeats 4000000 in
noncomputable def TryzF.f75 : PreE Tryz.prog Go.Eng.Tryz.X0 := by
  apply PreE.mk 75
  conv => lhs; whnf
set_option maxHeartbeats 4000000 in
noncomputable def TryzF.f79 : PreE Tryz.prog Go.Eng.Tryz.X0 := by
  apply PreE.mk 79
  conv => lhs; whnf
set_option maxHeartbeats 4000000 in
noncomputable def TryzF.f83 : PreE Tryz.prog Go.Eng.Tryz.X0 := by
  apply PreE.mk 83
  conv => lhs; whnf
set_option maxHeartbeats 4000000 in
noncomputable def TryzF.f87 : PreE Tryz.prog Go.Eng.Tryz.X0 := by
  apply PreE.mk 87
  conv => lhs; whnf
set_option maxHeartbeats 4000000 in
noncomputable def TryzF.f91 : PreE Tryz.prog Go.Eng.Tryz.X0 := by
  apply PreE.mk 91
  conv => lhs; whnf
set_option maxHeartbeats 4000000 in
noncomputable def TryzF.f95 : PreE Tryz.prog Go.Eng.Tryz.X0 := by
  apply PreE.mk 95
  conv => lhs; whnf
set_option maxHeartbeats 4000000 in
noncomputable def TryzF.f99 : PreE Tryz.prog Go.Eng.Tryz.X0 := by
  apply PreE.mk 99
  conv => lhs; whnf
set_option maxHeartbeats 4000000 in
noncomputable def TryzF.f103 : PreE Tryz.prog Go.Eng.Tryz.X0 := by
  apply PreE.mk 103
  conv => lhs; whnf
set_option maxHeartbeats 4000000 in
noncomputable def TryzF.f107 : PreE Tryz.prog Go.Eng.Tryz.X0 := by
  apply PreE.mk 107
  conv => lhs; whnf
set_option maxHeartbeats 4000000 in
noncomputable def TryzF.f111 : PreE Tryz.prog Go.Eng.Tryz.X0 := by
  apply PreE.mk 111
  conv => lhs; whnf
set_option maxHeartbeats 4000000 in
noncomputable def TryzF.f115 : PreE Tryz.prog Go.Eng.Tryz.X0 := by
  apply PreE.mk 115
  conv => lhs; whnf
set_option maxHeartbeats 4000000 in
noncomputable def TryzF.f119 : PreE Tryz.prog Go.Eng.Tryz.X0 := by
  apply PreE.mk 119
  conv => lhs; whnf
set_option maxHeartbeats 4000000 in
noncomputable def TryzF.f123 : PreE Tryz.prog Go.Eng.Tryz.X0 := by
  apply PreE.mk 123
  conv => lhs; whnf
set_option maxHeartbeats 4000000 in
noncomputable def TryzF.f127 : PreE Tryz.prog Go.Eng.Tryz.X0 := by
  apply PreE.mk 127
  conv => lhs; whnf
set_option maxHeartbeats 4000000 in
noncomputable def TryzF.f131 : PreE Tryz.prog Go.Eng.Tryz.X0 := by
  apply PreE.mk 131
  conv => lhs; whnf
set_option maxHeartbeats 4000000 in
noncomputable def TryzF.f135 : PreE Tryz.prog Go.Eng.Tryz.X0 := by
  apply PreE.mk 135
  conv => lhs; whnf
set_option maxHeartbeats 4000000 in
noncomputable def TryzF.f139 : PreE Tryz.prog Go.Eng.Tryz.X0 := by
  apply PreE.mk 139
  conv => lhs; whnf
set_option maxHeartbeats 4000000 in
noncomputable def TryzF.f143 : PreE Tryz.prog Go.Eng.Tryz.X0 := by
  apply PreE.mk 143
  conv => lhs; whnf
set_option maxHeartbeats 4000000 in
noncomputable def TryzF.f147 : PreE Tryz.prog Go.Eng.Tryz.X0 := by
  apply PreE.mk 147
  conv => lhs; whnf
set_option maxHeartbeats 4000000 in
noncomputable def TryzF.f151 : PreE Tryz.prog Go.Eng.Tryz.X0 := by
  apply PreE.mk 151
  conv => lhs; whnf
set_option maxHeartbeats 4000000 in
noncomputable def TryzF.f155 : PreE Tryz.prog Go.Eng.Tryz.X0 := by
  apply PreE.mk 155
  conv => lhs; whnf
set_option maxHeartbeats 4000000 in
noncomputable def TryzF.f159 : PreE Tryz.prog Go.Eng.Tryz.X0 := by
  apply PreE.mk 159
  conv => lhs; whnf
set_option maxHeartbeats 4000000 in
noncomputable def TryzF.f163 : PreE Tryz.prog Go.Eng.Tryz.X0 := by
  apply PreE.mk 163
  conv => lhs; whnf
set_option maxHeartbeats 4000000 in
noncomputable def TryzF.f167 : PreE Tryz.prog Go.Eng.Tryz.X0 := by
  apply PreE.mk 167
  conv => lhs; whnf
set_option maxHeartbeats 4000000 in
noncomputable def TryzF.f171 : PreE Tryz.prog Go.Eng.Tryz.X0 := by
  apply PreE.mk 171
  conv => lhs; whnf
set_option maxHeartbeats 4000000 in
noncomputable def TryzF.f175 : PreE Tryz.prog Go.Eng.Tryz.X0 := by
  apply PreE.mk 175
  conv => lhs; whnf
set_option maxHeartbeats 4000000 in
noncomputable def TryzF.f179 : PreE Tryz.prog Go.Eng.Tryz.X0 := by
  apply PreE.mk 179
  conv => lhs; whnf
set_option maxHeartbeats 4000000 in
noncomputable def TryzF.f183 : PreE Tryz.prog Go.Eng.Tryz.X0 := by
  apply PreE.mk 183
  conv => lhs; whnf
set_option maxHeartbeats 4000000 in
noncomputable def TryzF.f187 : PreE Tryz.prog Go.Eng.Tryz.X0 := by
  apply PreE.mk 187
  conv => lhs; whnf
set_option maxHeartbeats 4000000 in
noncomputable def TryzF.f191 : PreE Tryz.prog Go.Eng.Tryz.X0 := by
  apply PreE.mk 191
  conv => lhs; whnf
set_option maxHeartbeats 4000000 in
noncomputable def TryzF.f195 : PreE Tryz.prog Go.Eng.Tryz.X0 := by
  apply PreE.mk 195
  conv => lhs; whnf
set_option maxHeartbeats 4000000 in
noncomputable def TryzF.f199 : PreE Tryz.prog Go.Eng.Tryz.X0 := by
  apply PreE.mk 199
  conv => lhs; whnf
set_option maxHeartbeats 4000000 in
noncomputable def TryzF.f203 : PreE Tryz.prog Go.Eng.Tryz.X0 := by
  apply PreE.mk 203
  conv => lhs; whnf
set_option maxHeartbeats 4000000 in
noncomputable def TryzF.f207 : PreE Tryz.prog Go.Eng.Tryz.X0 := by
  apply PreE.mk 207
  conv => lhs; whnf
set_option maxHeartbeats 4000000 in
noncomputable def TryzF.f211 : PreE Tryz.prog Go.Eng.Tryz.X0 := by
  apply PreE.mk 211
  conv => lhs; whnf
set_option maxHeartbeats 4000000 in
noncomputable def TryzF.f215 : PreE Tryz.prog Go.Eng.Tryz.X0 := by
  apply PreE.mk 215
  conv => lhs; whnf
set_option maxHeartbeats 4000000 in
noncomputable def TryzF.f219 : PreE Tryz.prog Go.Eng.Tryz.X0 := by
  apply PreE.mk 219
  conv => lhs; whnf
set_option maxHeartbeats 4000000 in
noncomputable def TryzF.f223 : PreE Tryz.prog Go.Eng.Tryz.X0 := by
  apply PreE.mk 223
  conv => lhs; whnf
set_option maxHeartbeats 4000000 in
noncomputable def TryzF.f227 : PreE Tryz.prog Go.Eng.Tryz.X0 := by
  apply PreE.mk 227
  conv => lhs; whnf
set_option maxHeartbeats 4000000 in
noncomputable def TryzF.f231 : PreE Tryz.prog Go.Eng.Tryz.X0 := by
  apply PreE.mk 231
  conv => lhs; whnf
set_option maxHeartbeats 4000000 in
noncomputable def TryzF.f235 : PreE Tryz.prog Go.Eng.Tryz.X0 := by
  apply PreE.mk 235
  conv => lhs; whnf
set_option maxHeartbeats 4000000 in
noncomputable def TryzF.f239 : PreE Tryz.prog Go.Eng.Tryz.X0 := by
  apply PreE.mk 239
  conv => lhs; whnf
set_option maxHeartbeats 4000000 in
noncomputable def TryzF.f243 : PreE Tryz.prog Go.Eng.Tryz.X0 := by
  apply PreE.mk 243
  conv => lhs; whnf
set_option maxHeartbeats 4000000 in
noncomputable def TryzF.f247 : PreE Tryz.prog Go.Eng.Tryz.X0 := by
  apply PreE.mk 247
  conv => lhs; whnf
set_option maxHeartbeats 4000000 in
noncomputable def TryzF.f251 : PreE Tryz.prog Go.Eng.Tryz.X0 := by
  apply PreE.mk 251
  conv => lhs; whnf
set_option maxHeartbeats 4000000 in
noncomputable def TryzF.f255 : PreE Tryz.prog Go.Eng.Tryz.X0 := by
  apply PreE.mk 255
  conv => lhs; whnf
set_option maxHeartbeats 4000000 in
noncomputable def TryzF.f259 : PreE Tryz.prog Go.Eng.Tryz.X0 := by
  apply PreE.mk 259
  conv => lhs; whnf
set_option maxHeartbeats 4000000 in
noncomputable def TryzF.f263 : PreE Tryz.prog Go.Eng.Tryz.X0 := by
  apply PreE.mk 263
  conv => lhs; whnf
set_option maxHeartbeats 4000000 in
noncomputable def TryzF.f267 : PreE Tryz.prog Go.Eng.Tryz.X0 := by
  apply PreE.mk 267
  conv => lhs; whnf
set_option maxHeartbeats 4000000 in
noncomputable def TryzF.f271 : PreE Tryz.prog Go.Eng.Tryz.X0 := by
  apply PreE.mk 271
  conv => lhs; whnf
set_option maxHeartbeats 4000000 in
noncomputable def TryzF.f275 : PreE Tryz.prog Go.Eng.Tryz.X0 := by
  apply PreE.mk 275
  conv => lhs; whnf
set_option maxHeartbeats 4000000 in
noncomputable def TryzF.f279 : PreE Tryz.prog Go.Eng.Tryz.X0 := by
  apply PreE.mk 279
  conv => lhs; whnf
set_option maxHeartbeats 4000000 in
noncomputable def TryzF.f283 : PreE Tryz.prog Go.Eng.Tryz.X0 := by
  apply PreE.mk 283
  conv => lhs; whnf
set_option maxHeartbeats 4000000 in
noncomputable def TryzF.f287 : PreE Tryz.prog Go.Eng.Tryz.X0 := by
  apply PreE.mk 287
  conv => lhs; whnf
set_option maxHeartbeats 4000000 in
noncomputable def TryzF.f291 : PreE Tryz.prog Go.Eng.Tryz.X0 := by
  apply PreE.mk 291
  conv => lhs; whnf
set_option maxHeartbeats 4000000 in
noncomputable def TryzF.f295 : PreE Tryz.prog Go.Eng.Tryz.X0 := by
  apply PreE.mk 295
  conv => lhs; whnf
set_option maxHeartbeats 4000000 in
noncomputable def TryzF.f299 : PreE Tryz.prog Go.Eng.Tryz.X0 := by
  apply PreE.mk 299
  conv => lhs; whnf
set_option maxHeartbeats 4000000 in
noncomputable def TryzF.f303 : PreE Tryz.prog Go.Eng.Tryz.X0 := by
  apply PreE.mk 303
  conv => lhs; whnf
set_option maxHeartbeats 4000000 in
noncomputable def TryzF.f307 : PreE Tryz.prog Go.Eng.Tryz.X0 := by
  apply PreE.mk 307
  conv => lhs; whnf
set_option maxHeartbeats 4000000 in
noncomputable def TryzF.f311 : PreE Tryz.prog Go.Eng.Tryz.X0 := by
  apply PreE.mk 311
  conv => lhs; whnf
set_option maxHeartbeats 4000000 in
noncomputable def TryzF.f315 : PreE Tryz.prog Go.Eng.Tryz.X0 := by
  apply PreE.mk 315
  conv => lhs; whnf
set_option maxHeartbeats 4000000 in
noncomputable def TryzF.f319 : PreE Tryz.prog Go.Eng.Tryz.X0 := by
  apply PreE.mk 319
  conv => lhs; whnf
set_option maxHeartbeats 4000000 in
noncomputable def TryzF.f323 : PreE Tryz.prog Go.Eng.Tryz.X0 := by
  apply PreE.mk 323
  conv => lhs; whnf
set_option maxHeartbeats 4000000 in
noncomputable def TryzF.f327 : PreE Tryz.prog Go.Eng.Tryz.X0 := by
  apply PreE.mk 327
  conv => lhs; whnf
set_option maxHeartbeats 4000000 in
noncomputable def TryzF.f331 : PreE Tryz.prog Go.Eng.Tryz.X0 := by
  apply PreE.mk 331
  conv => lhs; whnf
set_option maxHeartbeats 4000000 in
noncomputable def TryzF.f335 : PreE Tryz.prog Go.Eng.Tryz.X0 := by
  apply PreE.mk 335
  conv => lhs; whnf
set_option maxHeartbeats 4000000 in
noncomputable def TryzF.f339 : PreE Tryz.prog Go.Eng.Tryz.X0 := by
  apply PreE.mk 339
  conv => lhs; whnf
set_option maxHeartbeats 4000000 in
noncomputable def TryzF.f343 : PreE Tryz.prog Go.Eng.Tryz.X0 := by
  apply PreE.mk 343
  conv => lhs; whnf
set_option maxHeartbeats 4000000 in
noncomputable def TryzF.f347 : PreE Tryz.prog Go.Eng.Tryz.X0 := by
  apply PreE.mk 347
  conv => lhs; whnf
set_option maxHeartbeats 4000000 in
noncomputable def TryzF.f351 : PreE Tryz.prog Go.Eng.Tryz.X0 := by
  apply PreE.mk 351
  conv => lhs; whnf
set_option maxHeartbeats 4000000 in
noncomputable def TryzF.f355 : PreE Tryz.prog Go.Eng.Tryz.X0 := by
  apply PreE.mk 355
  conv => lhs; whnf
set_option maxHeartbeats 4000000 in
noncomputable def TryzF.f359 : PreE Tryz.prog Go.Eng.Tryz.X0 := by
  apply PreE.mk 359
  conv => lhs; whnf
set_option maxHeartbeats 4000000 in
noncomputable def TryzF.f363 : PreE Tryz.prog Go.Eng.Tryz.X0 := by
  apply PreE.mk 363
  conv => lhs; whnf
set_option maxHeartbeats 4000000 in
noncomputable def TryzF.f367 : PreE Tryz.prog Go.Eng.Tryz.X0 := by
  apply PreE.mk 367
  conv => lhs; whnf
set_option maxHeartbeats 4000000 in
noncomputable def TryzF.f372 : PreE Tryz.prog Go.Eng.Tryz.X0 := by
  apply PreE.mk 372
  conv => lhs; whnf
set_option maxHeartbeats 4000000 in
noncomputable def TryzF.f376 : PreE Tryz.prog Go.Eng.Tryz.X0 := by
  apply PreE.mk 376
  conv => lhs; whnf
set_option maxHeartbeats 4000000 in
noncomputable def TryzF.f397 : PreE Tryz.prog Go.Eng.Tryz.X0 := by
  apply PreE.mk 397
  conv => lhs; whnf
set_option maxHeartbeats 4000000 in
noncomputable def TryzF.f401 : PreE Tryz.prog Go.Eng.Tryz.X0 := by
  apply PreE.mk 401
  conv => lhs; whnf
set_option maxHeartbeats 4000000 in
noncomputable def TryzF.f405 : PreE Tryz.prog Go.Eng.Tryz.X0 := by
  apply PreE.mk 405
  conv => lhs; whnf
set_option maxHeartbeats 4000000 in
noncomputable def TryzF.f417 : PreE Tryz.prog Go.Eng.Tryz.X0 := by
  apply PreE.mk 417
  conv => lhs; whnf
end Go.Proofs
