import Derived.Test.YtnfejffknenkeaaGreatDoorCfg
import Derived.Test.YtnfejffknenkeaaGreatDoorProg
/- Part of the proof of ShareKnown. -/
namespace Go.Proofs
open Go Go.Eng
set_option maxRecDepth 10000000
set_option maxHeartbeats 4000000 in
noncomputable def TryzF.f5 : PreE Tryz.prog Go.Eng.Tryz.X0 := by
  apply PreE.mk 5
  conv => lhs; whnf
set_option maxHeartbeats 4000000 in
noncomputable def TryzF.f9 : PreE Tryz.prog Go.Eng.Tryz.X0 := by
  apply PreE.mk 9
  conv => lhs; whnf
set_option maxHeartbeats 4000000 in
noncomputable def TryzF.f13 : PreE Tryz.prog Go.Eng.Tryz.X0 := by
  apply PreE.mk 13
  conv => lhs; whnf
set_option maxHeartbeats 4000000 in
noncomputable def TryzF.f17 : PreE Tryz.prog Go.Eng.Tryz.X0 := by
  apply PreE.mk 17
  conv => lhs; whnf
set_option maxHeartbeats 4000000 in
noncomputable def TryzF.f21 : PreE Tryz.prog Go.Eng.Tryz.X0 := by
  apply PreE.mk 21
  conv => lhs; whnf
set_option maxHeartbeats 4000000 in
noncomputable def TryzF.f25 : PreE Tryz.prog Go.Eng.Tryz.X0 := by
  apply PreE.mk 25
  conv => lhs; whnf
set_option maxHeartbeats 4000000 in
noncomputable def TryzF.f29 : PreE Tryz.prog Go.Eng.Tryz.X0 := by
  apply PreE.mk 29
  conv => lhs; whnf
set_option maxHeartbeats 4000000 in
noncomputable def TryzF.f33 : PreE Tryz.prog Go.Eng.Tryz.X0 := by
  apply PreE.mk 33
  conv => lhs; whnf
set_option maxHeartbeats 4000000 in
noncomputable def TryzF.f37 : PreE Tryz.prog Go.Eng.Tryz.X0 := by
  apply PreE.mk 37
  conv => lhs; whnf
set_option maxHeartbeats 4000000 in
noncomputable def TryzF.f41 : PreE Tryz.prog Go.Eng.Tryz.X0 := by
  apply PreE.mk 41
  conv => lhs; whnf
set_option maxHeartbeats 4000000 in
noncomputable def TryzF.f45 : PreE Tryz.prog Go.Eng.Tryz.X0 := by
  apply PreE.mk 45
  conv => lhs; whnf
set_option maxHeartbeats 4000000 in
noncomputable def TryzF.f49 : PreE Tryz.prog Go.Eng.Tryz.X0 := by
  apply PreE.mk 49
  conv => lhs; whnf
set_option maxHeartbeats 4000000 in
noncomputable def TryzF.f53 : PreE Tryz.prog Go.Eng.Tryz.X0 := by
  apply PreE.mk 53
  conv => lhs; whnf
set_option maxHeartbeats 4000000 in
noncomputable def TryzF.f57 : PreE Tryz.prog Go.Eng.Tryz.X0 := by
  apply PreE.mk 57
  conv => lhs; whnf
set_option maxHeartbeats 4000000 in
noncomputable def TryzF.f61 : PreE Tryz.prog Go.Eng.Tryz.X0 := by
  apply PreE.mk 61
  conv => lhs; whnf
set_option maxHeartbeats 4000000 in
noncomputable def TryzF.f65 : PreE Tryz.prog Go.Eng.Tryz.X0 := by
  apply PreE.mk 65
  conv => lhs; whnf
set_option maxHeartbeats 4000000 in
noncomputable def TryzF.f69 : PreE Tryz.prog Go.Eng.Tryz.X0 := by
  apply PreE.mk 69
  conv => lhs; whnf
set_option maxHeartbeats 4000000 in
noncomputable def TryzF.f73 : PreE Tryz.prog Go.Eng.Tryz.X0 := by
  apply PreE.mk 73
  conv => lhs; whnf
set_option maxHeartbeats 4000000 in
noncomputable def TryzF.f77 : PreE Tryz.prog Go.Eng.Tryz.X0 := by
  apply PreE.mk 77
  conv => lhs; whnf
set_option maxHeartbeats 4000000 in
noncomputable def TryzF.f81 : PreE Tryz.prog Go.Eng.Tryz.X0 := by
  apply PreE.mk 81
  conv => lhs; whnf
set_option maxHeartbeats 4000000 in
noncomputable def TryzF.f85 : PreE Tryz.prog Go.Eng.Tryz.X0 := by
  apply PreE.mk 85
  conv => lhs; whnf
set_option maxHeartbeats 4000000 in
noncomputable def TryzF.f89 : PreE Tryz.prog Go.Eng.Tryz.X0 := by
  apply PreE.mk 89
  conv => lhs; whnf
set_option maxHeartbeats 4000000 in
noncomputable def TryzF.f93 : PreE Tryz.prog Go.Eng.Tryz.X0 := by
  apply PreE.mk 93
  conv => lhs; whnf
set_option maxHeartbeats 4000000 in
noncomputable def TryzF.f97 : PreE Tryz.prog Go.Eng.Tryz.X0 := by
  apply PreE.mk 97
  conv => lhs; whnf
set_option maxHeartbeats 4000000 in
noncomputable def TryzF.f101 : PreE Tryz.prog Go.Eng.Tryz.X0 := by
  apply PreE.mk 101
  conv => lhs; whnf
set_option maxHeartbeats 4000000 in
noncomputable def TryzF.f105 : PreE Tryz.prog Go.Eng.Tryz.X0 := by
  apply PreE.mk 105
  conv => lhs; whnf
set_option maxHeartbeats 4000000 in
noncomputable def TryzF.f109 : PreE Tryz.prog Go.Eng.Tryz.X0 := by
  apply PreE.mk 109
  conv => lhs; whnf
set_option maxHeartbeats 4000000 in
noncomputable def TryzF.f113 : PreE Tryz.prog Go.Eng.Tryz.X0 := by
  apply PreE.mk 113
  conv => lhs; whnf
set_option maxHeartbeats 4000000 in
noncomputable def TryzF.f117 : PreE Tryz.prog Go.Eng.Tryz.X0 := by
  apply PreE.mk 117
  conv => lhs; whnf
set_option maxHeartbeats 4000000 in
noncomputable def TryzF.f121 : PreE Tryz.prog Go.Eng.Tryz.X0 := by
  apply PreE.mk 121
  conv => lhs; whnf
set_option maxHeartbeats 4000000 in
noncomputable def TryzF.f125 : PreE Tryz.prog Go.Eng.Tryz.X0 := by
  apply PreE.mk 125
  conv => lhs; whnf
set_option maxHeartbeats 4000000 in
noncomputable def TryzF.f129 : PreE Tryz.prog Go.Eng.Tryz.X0 := by
  apply PreE.mk 129
  conv => lhs; whnf
set_option maxHeartbeats 4000000 in
noncomputable def TryzF.f133 : PreE Tryz.prog Go.Eng.Tryz.X0 := by
  apply PreE.mk 133
  conv => lhs; whnf
set_option maxHeartbeats 4000000 in
noncomputable def TryzF.f137 : PreE Tryz.prog Go.Eng.Tryz.X0 := by
  apply PreE.mk 137
  conv => lhs; whnf
set_option maxHeartbeats 4000000 in
noncomputable def TryzF.f141 : PreE Tryz.prog Go.Eng.Tryz.X0 := by
  apply PreE.mk 141
  conv => lhs; whnf
set_option maxHeartbeats 4000000 in
noncomputable def TryzF.f145 : PreE Tryz.prog Go.Eng.Tryz.X0 := by
  apply PreE.mk 145
  conv => lhs; whnf
set_option maxHeartbeats 4000000 in
noncomputable def TryzF.f149 : PreE Tryz.prog Go.Eng.Tryz.X0 := by
  apply PreE.mk 149
  conv => lhs; whnf
set_option maxHeartbeats 4000000 in
noncomputable def TryzF.f153 : PreE Tryz.prog Go.Eng.Tryz.X0 := by
  apply PreE.mk 153
  conv => lhs; whnf
set_option maxHeartbeats 4000000 in
noncomputable def TryzF.f157 : PreE Tryz.prog Go.Eng.Tryz.X0 := by
  apply PreE.mk 157
  conv => lhs; whnf
set_option maxHeartbeats 4000000 in
noncomputable def TryzF.f161 : PreE Tryz.prog Go.Eng.Tryz.X0 := by
  apply PreE.mk 161
  conv => lhs; whnf
set_option maxHeartbeats 4000000 in
noncomputable def TryzF.f165 : PreE Tryz.prog Go.Eng.Tryz.X0 := by
  apply PreE.mk 165
  conv => lhs; whnf
set_option maxHeartbeats 4000000 in
noncomputable def TryzF.f169 : PreE Tryz.prog Go.Eng.Tryz.X0 := by
  apply PreE.mk 169
  conv => lhs; whnf
set_option maxHeartbeats 4000000 in
noncomputable def TryzF.f173 : PreE Tryz.prog Go.Eng.Tryz.X0 := by
  apply PreE.mk 173
  conv => lhs; whnf
set_option maxHeartbeats 4000000 in
noncomputable def TryzF.f177 : PreE Tryz.prog Go.Eng.Tryz.X0 := by
  apply PreE.mk 177
  conv => lhs; whnf
set_option maxHeartbeats 4000000 in
noncomputable def TryzF.f181 : PreE Tryz.prog Go.Eng.Tryz.X0 := by
  apply PreE.mk 181
  conv => lhs; whnf
set_option maxHeartbeats 4000000 in
noncomputable def TryzF.f185 : PreE Tryz.prog Go.Eng.Tryz.X0 := by
  apply PreE.mk 185
  conv => lhs; whnf
set_option maxHeartbeats 4000000 in
noncomputable def TryzF.f189 : PreE Tryz.prog Go.Eng.Tryz.X0 := by
  apply PreE.mk 189
  conv => lhs; whnf
set_option maxHeartbeats 4000000 in
noncomputable def TryzF.f193 : PreE Tryz.prog Go.Eng.Tryz.X0 := by
  apply PreE.mk 193
  conv => lhs; whnf
set_option maxHeartbeats 4000000 in
noncomputable def TryzF.f197 : PreE Tryz.prog Go.Eng.Tryz.X0 := by
  apply PreE.mk 197
  conv => lhs; whnf
set_option maxHeartbeats 4000000 in
noncomputable def TryzF.f201 : PreE Tryz.prog Go.Eng.Tryz.X0 := by
  apply PreE.mk 201
  conv => lhs; whnf
set_option maxHeartbeats 4000000 in
noncomputable def TryzF.f205 : PreE Tryz.prog Go.Eng.Tryz.X0 := by
  apply PreE.mk 205
  conv => lhs; whnf
set_option maxHeartbeats 4000000 in
noncomputable def TryzF.f209 : PreE Tryz.prog Go.Eng.Tryz.X0 := by
  apply PreE.mk 209
  conv => lhs; whnf
set_option maxHeartbeats 4000000 in
noncomputable def TryzF.f213 : PreE Tryz.prog Go.Eng.Tryz.X0 := by
  apply PreE.mk 213
  conv => lhs; whnf
set_option maxHeartbeats 4000000 in
noncomputable def TryzF.f217 : PreE Tryz.prog Go.Eng.Tryz.X0 := by
  apply PreE.mk 217
  conv => lhs; whnf
set_option maxHeartbeats 4000000 in
noncomputable def TryzF.f221 : PreE Tryz.prog Go.Eng.Tryz.X0 := by
  apply PreE.mk 221
  conv => lhs; whnf
set_option maxHeartbeats 4000000 in
noncomputable def TryzF.f225 : PreE Tryz.prog Go.Eng.Tryz.X0 := by
  apply PreE.mk 225
  conv => lhs; whnf
set_option maxHeartbeats 4000000 in
noncomputable def TryzF.f229 : PreE Tryz.prog Go.Eng.Tryz.X0 := by
  apply PreE.mk 229
  conv => lhs; whnf
set_option maxHeartbeats 4000000 in
noncomputable def TryzF.f233 : PreE Tryz.prog Go.Eng.Tryz.X0 := by
  apply PreE.mk 233
  conv => lhs; whnf
set_option maxHeartbeats 4000000 in
noncomputable def TryzF.f237 : PreE Tryz.prog Go.Eng.Tryz.X0 := by
  apply PreE.mk 237
  conv => lhs; whnf
set_option maxHeartbeats 4000000 in
noncomputable def TryzF.f241 : PreE Tryz.prog Go.Eng.Tryz.X0 := by
  apply PreE.mk 241
  conv => lhs; whnf
set_option maxHeartbeats 4000000 in
noncomputable def TryzF.f245 : PreE Tryz.prog Go.Eng.Tryz.X0 := by
  apply PreE.mk 245
  conv => lhs; whnf
set_option maxHeartbeats 4000000 in
noncomputable def TryzF.f249 : PreE Tryz.prog Go.Eng.Tryz.X0 := by
  apply PreE.mk 249
  conv => lhs; whnf
set_option maxHeartbeats 4000000 in
noncomputable def TryzF.f253 : PreE Tryz.prog Go.Eng.Tryz.X0 := by
  apply PreE.mk 253
  conv => lhs; whnf
set_option maxHeartbeats 4000000 in
noncomputable def TryzF.f257 : PreE Tryz.prog Go.Eng.Tryz.X0 := by
  apply PreE.mk 257
  conv => lhs; whnf
set_option maxHeartbeats 4000000 in
noncomputable def TryzF.f261 : PreE Tryz.prog Go.Eng.Tryz.X0 := by
  apply PreE.mk 261
  conv => lhs; whnf
set_option maxHeartbeats 4000000 in
noncomputable def TryzF.f265 : PreE Tryz.prog Go.Eng.Tryz.X0 := by
  apply PreE.mk 265
  conv => lhs; whnf
set_option maxHeartbeats 4000000 in
noncomputable def TryzF.f269 : PreE Tryz.prog Go.Eng.Tryz.X0 := by
  apply PreE.mk 269
  conv => lhs; whnf
set_option maxHeartbeats 4000000 in
noncomputable def TryzF.f273 : PreE Tryz.prog Go.Eng.Tryz.X0 := by
  apply PreE.mk 273
  conv => lhs; whnf
set_option maxHeartbeats 4000000 in
noncomputable def TryzF.f277 : PreE Tryz.prog Go.Eng.Tryz.X0 := by
  apply PreE.mk 277
  conv => lhs; whnf
set_option maxHeartbeats 4000000 in
noncomputable def TryzF.f281 : PreE Tryz.prog Go.Eng.Tryz.X0 := by
  apply PreE.mk 281
  conv => lhs; whnf
set_option maxHeartbeats 4000000 in
noncomputable def TryzF.f285 : PreE Tryz.prog Go.Eng.Tryz.X0 := by
  apply PreE.mk 285
  conv => lhs; whnf
set_option maxHeartbeats 4000000 in
noncomputable def TryzF.f289 : PreE Tryz.prog Go.Eng.Tryz.X0 := by
  apply PreE.mk 289
  conv => lhs; whnf
set_option maxHeartbeats 4000000 in
noncomputable def TryzF.f293 : PreE Tryz.prog Go.Eng.Tryz.X0 := by
  apply PreE.mk 293
  conv => lhs; whnf
set_option maxHeartbeats 4000000 in
noncomputable def TryzF.f297 : PreE Tryz.prog Go.Eng.Tryz.X0 := by
  apply PreE.mk 297
  conv => lhs; whnf
set_option maxHeartbeats 4000000 in
noncomputable def TryzF.f301 : PreE Tryz.prog Go.Eng.Tryz.X0 := by
  apply PreE.mk 301
  conv => lhs; whnf
set_option maxHeartbeats 4000000 in
noncomputable def TryzF.f305 : PreE Tryz.prog Go.Eng.Tryz.X0 := by
  apply PreE.mk 305
  conv => lhs; whnf
set_option maxHeartbeats 4000000 in
noncomputable def TryzF.f309 : PreE Tryz.prog Go.Eng.Tryz.X0 := by
  apply PreE.mk 309
  conv => lhs; whnf
set_option maxHeartbeats 4000000 in
noncomputable def TryzF.f313 : PreE Tryz.prog Go.Eng.Tryz.X0 := by
  apply PreE.mk 313
  conv => lhs; whnf
set_option maxHeartbeats 4000000 in
noncomputable def TryzF.f317 : PreE Tryz.prog Go.Eng.Tryz.X0 := by
  apply PreE.mk 317
  conv => lhs; whnf
set_option maxHeartbeats 4000000 in
noncomputable def TryzF.f321 : PreE Tryz.prog Go.Eng.Tryz.X0 := by
  apply PreE.mk 321
  conv => lhs; whnf
set_option maxHeartbeats 4000000 in
noncomputable def TryzF.f325 : PreE Tryz.prog Go.Eng.Tryz.X0 := by
  apply PreE.mk 325
  conv => lhs; whnf
set_option maxHeartbeats 4000000 in
noncomputable def TryzF.f329 : PreE Tryz.prog Go.Eng.Tryz.X0 := by
  apply PreE.mk 329
  conv => lhs; whnf
set_option maxHeartbeats 4000000 in
noncomputable def TryzF.f333 : PreE Tryz.prog Go.Eng.Tryz.X0 := by
  apply PreE.mk 333
  conv => lhs; whnf
set_option maxHeartbeats 4000000 in
noncomputable def TryzF.f337 : PreE Tryz.prog Go.Eng.Tryz.X0 := by
  apply PreE.mk 337
  conv => lhs; whnf
set_option maxHeartbeats 4000000 in
noncomputable def TryzF.f341 : PreE Tryz.prog Go.Eng.Tryz.X0 := by
  apply PreE.mk 341
  conv => lhs; whnf
set_option maxHeartbeats 4000000 in
noncomputable def TryzF.f345 : PreE Tryz.prog Go.Eng.Tryz.X0 := by
  apply PreE.mk 345
  conv => lhs; whnf
set_option maxHeartbeats 4000000 in
noncomputable def TryzF.f349 : PreE Tryz.prog Go.Eng.Tryz.X0 := by
  apply PreE.mk 349
  conv => lhs; whnf
set_option maxHeartbeats 4000000 in
noncomputable def TryzF.f353 : PreE Tryz.prog Go.Eng.Tryz.X0 := by
  apply PreE.mk 353
  conv => lhs; whnf
set_option maxHeartbeats 4000000 in
noncomputable def TryzF.f357 : PreE Tryz.prog Go.Eng.Tryz.X0 := by
  apply PreE.mk 357
  conv => lhs; whnf
set_option maxHeartbeats 4000000 in
noncomputable def TryzF.f361 : PreE Tryz.prog Go.Eng.Tryz.X0 := by
  apply PreE.mk 361
  conv => lhs; whnf
set_option maxHeartbeats 4000000 in
noncomputable def TryzF.f365 : PreE Tryz.prog Go.Eng.Tryz.X0 := by
  apply PreE.mk 365
  conv => lhs; whnf
set_option maxHeartbeats 4000000 in
noncomputable def TryzF.f369 : PreE Tryz.prog Go.Eng.Tryz.X0 := by
  apply PreE.mk 369
  conv => lhs; whnf
set_option maxHeartbeats 4000000 in
noncomputable def TryzF.f374 : PreE Tryz.prog Go.Eng.Tryz.X0 := by
  apply PreE.mk 374
  conv => lhs; whnf
set_option maxHeartbeats 4000000 in
noncomputable def TryzF.f395 : PreE Tryz.prog Go.Eng.Tryz.X0 := by
  apply PreE.mk 395
  conv => lhs; whnf
set_option maxHeartbeats 4000000 in
noncomputable def TryzF.f399 : PreE Tryz.prog Go.Eng.Tryz.X0 := by
  apply PreE.mk 399
  conv => lhs; whnf
set_option maxHeartbeats 4000000 in
noncomputable def TryzF.f403 : PreE Tryz.prog Go.Eng.Tryz.X0 := by
  apply PreE.mk 403
  conv => lhs; whnf
set_option maxHeartbeats 4000000 in
noncomputable def TryzF.f407 : PreE Tryz.prog Go.Eng.Tryz.X0 := by
  apply PreE.mk 407
  conv => lhs; whnf
end Go.Proofs
