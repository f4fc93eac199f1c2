import Derived.Test.YtiaiokablpndjaaGreatDoorCfg
import Derived.Test.YtiaiokablpndjaaGreatDoorProg
/- Part of the proof of ProofKnown. -/
namespace Go.Proofs
open Go Go.Eng
set_option maxRecDepth 10000000
set_option maxHeartbeats 4000000 in
noncomputable def TryzF.f3 : PreE Tryz.prog Go.Eng.Tryz.X0 := by
  apply PreE.mk 3
  conv => lhs; whnf
set_option maxHeartbeats 4000000 in
noncomputable def TryzF.f7 : PreE Tryz.prog Go.Eng.Tryz.X0 := by
  apply PreE.mk 7
  conv => lhs; whnf
set_option maxHeartbeats 4000000 in
noncomputable def TryzF.f11 : PreE Tryz.prog Go.Eng.Tryz.X0 := by
  apply PreE.mk 11
  conv => lhs; whnf
set_option maxHeartbeats 4000000 in
noncomputable def TryzF.f15 : PreE Tryz.prog Go.Eng.Tryz.X0 := by
  apply PreE.mk 15
  conv => lhs; whnf
set_option maxHeartbeats 4000000 in
noncomputable def TryzF.f19 : PreE Tryz.prog Go.Eng.Tryz.X0 := by
  apply PreE.mk 19
  conv => lhs; whnf
set_option maxHeartbeats 4000000 in
noncomputable def TryzF.f23 : PreE Tryz.prog Go.Eng.Tryz.X0 := by
  apply PreE.mk 23
  conv => lhs; whnf
set_option maxHeartbeats 4000000 in
noncomputable def TryzF.f27 : PreE Tryz.prog Go.Eng.Tryz.X0 := by
  apply PreE.mk 27
  conv => lhs; whnf
set_option maxHeartbeats 4000000 in
noncomputable def TryzF.f31 : PreE Tryz.prog Go.Eng.Tryz.X0 := by
  apply PreE.mk 31
  conv => lhs; whnf
set_option maxHeartbeats 4000000 in
noncomputable def TryzF.f35 : PreE Tryz.prog Go.Eng.Tryz.X0 := by
  apply PreE.mk 35
  conv => lhs; whnf
set_option maxHeartbeats 4000000 in
noncomputable def TryzF.f39 : PreE Tryz.prog Go.Eng.Tryz.X0 := by
  apply PreE.mk 39
  conv => lhs; whnf
set_option maxHeartbeats 4000000 in
noncomputable def TryzF.f43 : PreE Tryz.prog Go.Eng.Tryz.X0 := by
  apply PreE.mk 43
  conv => lhs; whnf
set_option maxHeartbeats 4000000 in
noncomputable def TryzF.f47 : PreE Tryz.prog Go.Eng.Tryz.X0 := by
  apply PreE.mk 47
  conv => lhs; whnf
set_option maxHeartbeats 4000000 in
noncomputable def TryzF.f51 : PreE Tryz.prog Go.Eng.Tryz.X0 := by
  apply PreE.mk 51
  conv => lhs; whnf
set_option maxHeartbeats 4000000 in
noncomputable def TryzF.f55 : PreE Tryz.prog Go.Eng.Tryz.X0 := by
  apply PreE.mk 55
  conv => lhs; whnf
set_option maxHeartbeats 4000000 in
noncomputable def TryzF.f59 : PreE Tryz.prog Go.Eng.Tryz.X0 := by
  apply PreE.mk 59
  conv => lhs; whnf
set_option maxHeartbeats 4000000 in
noncomputable def TryzF.f66 : PreE Tryz.prog Go.Eng.Tryz.X0 := by
  apply PreE.mk 66
  conv => lhs; whnf
set_option maxHeartbeats 4000000 in
noncomputable def TryzF.f70 : PreE Tryz.prog Go.Eng.Tryz.X0 := by
  apply PreE.mk 70
  conv => lhs; whnf
set_option maxHeartbeats 4000000 in
noncomputable def TryzF.f74 : PreE Tryz.prog Go.Eng.Tryz.X0 := by
  apply PreE.mk 74
  conv => lhs; whnf
set_option maxHeartbeats 4000000 in
noncomputable def TryzF.f78 : PreE Tryz.prog Go.Eng.Tryz.X0 := by
  apply PreE.mk 78
  conv => lhs; whnf
set_option maxHeartbeats 4000000 in
noncomputable def TryzF.f82 : PreE Tryz.prog Go.Eng.Tryz.X0 := by
  apply PreE.mk 82
  conv => lhs; whnf
set_option maxHeartbeats 4000000 in
noncomputable def TryzF.f86 : PreE Tryz.prog Go.Eng.Tryz.X0 := by
  apply PreE.mk 86
  conv => lhs; whnf
set_option maxHeartbeats 4000000 in
noncomputable def TryzF.f90 : PreE Tryz.prog Go.Eng.Tryz.X0 := by
  apply PreE.mk 90
  conv => lhs; whnf
set_option maxHeartbeats 4000000 in
noncomputable def TryzF.f94 : PreE Tryz.prog Go.Eng.Tryz.X0 := by
  apply PreE.mk 94
  conv => lhs; whnf
set_option maxHeartbeats 4000000 in
noncomputable def TryzF.f101 : PreE Tryz.prog Go.Eng.Tryz.X0 := by
  apply PreE.mk 101
  conv => lhs; whnf
set_option maxHeartbeats 4000000 in
noncomputable def TryzF.f105 : PreE Tryz.prog Go.Eng.Tryz.X0 := by
  apply PreE.mk 105
  conv => lhs; whnf
set_option maxHeartbeats 4000000 in
noncomputable def TryzF.f109 : PreE Tryz.prog Go.Eng.Tryz.X0 := by
  apply PreE.mk 109
  conv => lhs; whnf
set_option maxHeartbeats 4000000 in
noncomputable def TryzF.f113 : PreE Tryz.prog Go.Eng.Tryz.X0 := by
  apply PreE.mk 113
  conv => lhs; whnf
set_option maxHeartbeats 4000000 in
noncomputable def TryzF.f117 : PreE Tryz.prog Go.Eng.Tryz.X0 := by
  apply PreE.mk 117
  conv => lhs; whnf
set_option maxHeartbeats 4000000 in
noncomputable def TryzF.f121 : PreE Tryz.prog Go.Eng.Tryz.X0 := by
  apply PreE.mk 121
  conv => lhs; whnf
set_option maxHeartbeats 4000000 in
noncomputable def TryzF.f125 : PreE Tryz.prog Go.Eng.Tryz.X0 := by
  apply PreE.mk 125
  conv => lhs; whnf
set_option maxHeartbeats 4000000 in
noncomputable def TryzF.f129 : PreE Tryz.prog Go.Eng.Tryz.X0 := by
  apply PreE.mk 129
  conv => lhs; whnf
set_option maxHeartbeats 4000000 in
noncomputable def TryzF.f133 : PreE Tryz.prog Go.Eng.Tryz.X0 := by
  apply PreE.mk 133
  conv => lhs; whnf
set_option maxHeartbeats 4000000 in
noncomputable def TryzF.f137 : PreE Tryz.prog Go.Eng.Tryz.X0 := by
  apply PreE.mk 137
  conv => lhs; whnf
set_option maxHeartbeats 4000000 in
noncomputable def TryzF.f141 : PreE Tryz.prog Go.Eng.Tryz.X0 := by
  apply PreE.mk 141
  conv => lhs; whnf
set_option maxHeartbeats 4000000 in
noncomputable def TryzF.f145 : PreE Tryz.prog Go.Eng.Tryz.X0 := by
  apply PreE.mk 145
  conv => lhs; whnf
set_option maxHeartbeats 4000000 in
noncomputable def TryzF.f149 : PreE Tryz.prog Go.Eng.Tryz.X0 := by
  apply PreE.mk 149
  conv => lhs; whnf
set_option maxHeartbeats 4000000 in
noncomputable def TryzF.f153 : PreE Tryz.prog Go.Eng.Tryz.X0 := by
  apply PreE.mk 153
  conv => lhs; whnf
set_option maxHeartbeats 4000000 in
noncomputable def TryzF.f157 : PreE Tryz.prog Go.Eng.Tryz.X0 := by
  apply PreE.mk 157
  conv => lhs; whnf
set_option maxHeartbeats 4000000 in
noncomputable def TryzF.f161 : PreE Tryz.prog Go.Eng.Tryz.X0 := by
  apply PreE.mk 161
  conv => lhs; whnf
set_option maxHeartbeats 4000000 in
noncomputable def TryzF.f165 : PreE Tryz.prog Go.Eng.Tryz.X0 := by
  apply PreE.mk 165
  conv => lhs; whnf
set_option maxHeartbeats 4000000 in
noncomputable def TryzF.f169 : PreE Tryz.prog Go.Eng.Tryz.X0 := by
  apply PreE.mk 169
  conv => lhs; whnf
set_option maxHeartbeats 4000000 in
noncomputable def TryzF.f173 : PreE Tryz.prog Go.Eng.Tryz.X0 := by
  apply PreE.mk 173
  conv => lhs; whnf
set_option maxHeartbeats 4000000 in
noncomputable def TryzF.f177 : PreE Tryz.prog Go.Eng.Tryz.X0 := by
  apply PreE.mk 177
  conv => lhs; whnf
set_option maxHeartbeats 4000000 in
noncomputable def TryzF.f181 : PreE Tryz.prog Go.Eng.Tryz.X0 := by
  apply PreE.mk 181
  conv => lhs; whnf
set_option maxHeartbeats 4000000 in
noncomputable def TryzF.f185 : PreE Tryz.prog Go.Eng.Tryz.X0 := by
  apply PreE.mk 185
  conv => lhs; whnf
set_option maxHeartbeats 4000000 in
noncomputable def TryzF.f189 : PreE Tryz.prog Go.Eng.Tryz.X0 := by
  apply PreE.mk 189
  conv => lhs; whnf
set_option maxHeartbeats 4000000 in
noncomputable def TryzF.f193 : PreE Tryz.prog Go.Eng.Tryz.X0 := by
  apply PreE.mk 193
  conv => lhs; whnf
set_option maxHeartbeats 4000000 in
noncomputable def TryzF.f197 : PreE Tryz.prog Go.Eng.Tryz.X0 := by
  apply PreE.mk 197
  conv => lhs; whnf
set_option maxHeartbeats 4000000 in
noncomputable def TryzF.f201 : PreE Tryz.prog Go.Eng.Tryz.X0 := by
  apply PreE.mk 201
  conv => lhs; whnf
set_option maxHeartbeats 4000000 in
noncomputable def TryzF.f205 : PreE Tryz.prog Go.Eng.Tryz.X0 := by
  apply PreE.mk 205
  conv => lhs; whnf
set_option maxHeartbeats 4000000 in
noncomputable def TryzF.f209 : PreE Tryz.prog Go.Eng.Tryz.X0 := by
  apply PreE.mk 209
  conv => lhs; whnf
set_option maxHeartbeats 4000000 in
noncomputable def TryzF.f213 : PreE Tryz.prog Go.Eng.Tryz.X0 := by
  apply PreE.mk 213
  conv => lhs; whnf
set_option maxHeartbeats 4000000 in
noncomputable def TryzF.f217 : PreE Tryz.prog Go.Eng.Tryz.X0 := by
  apply PreE.mk 217
  conv => lhs; whnf
set_option maxHeartbeats 4000000 in
noncomputable def TryzF.f221 : PreE Tryz.prog Go.Eng.Tryz.X0 := by
  apply PreE.mk 221
  conv => lhs; whnf
set_option maxHeartbeats 4000000 in
noncomputable def TryzF.f225 : PreE Tryz.prog Go.Eng.Tryz.X0 := by
  apply PreE.mk 225
  conv => lhs; whnf
set_option maxHeartbeats 4000000 in
noncomputable def TryzF.f229 : PreE Tryz.prog Go.Eng.Tryz.X0 := by
  apply PreE.mk 229
  conv => lhs; whnf
set_option maxHeartbeats 4000000 in
noncomputable def TryzF.f233 : PreE Tryz.prog Go.Eng.Tryz.X0 := by
  apply PreE.mk 233
  conv => lhs; whnf
set_option maxHeartbeats 4000000 in
noncomputable def TryzF.f237 : PreE Tryz.prog Go.Eng.Tryz.X0 := by
  apply PreE.mk 237
  conv => lhs; whnf
set_option maxHeartbeats 4000000 in
noncomputable def TryzF.f241 : PreE Tryz.prog Go.Eng.Tryz.X0 := by
  apply PreE.mk 241
  conv => lhs; whnf
set_option maxHeartbeats 4000000 in
noncomputable def TryzF.f245 : PreE Tryz.prog Go.Eng.Tryz.X0 := by
  apply PreE.mk 245
  conv => lhs; whnf
set_option maxHeartbeats 4000000 in
noncomputable def TryzF.f249 : PreE Tryz.prog Go.Eng.Tryz.X0 := by
  apply PreE.mk 249
  conv => lhs; whnf
set_option maxHeartbeats 4000000 in
noncomputable def TryzF.f253 : PreE Tryz.prog Go.Eng.Tryz.X0 := by
  apply PreE.mk 253
  conv => lhs; whnf
set_option maxHeartbeats 4000000 in
noncomputable def TryzF.f257 : PreE Tryz.prog Go.Eng.Tryz.X0 := by
  apply PreE.mk 257
  conv => lhs; whnf
set_option maxHeartbeats 4000000 in
noncomputable def TryzF.f261 : PreE Tryz.prog Go.Eng.Tryz.X0 := by
  apply PreE.mk 261
  conv => lhs; whnf
set_option maxHeartbeats 4000000 in
noncomputable def TryzF.f265 : PreE Tryz.prog Go.Eng.Tryz.X0 := by
  apply PreE.mk 265
  conv => lhs; whnf
set_option maxHeartbeats 4000000 in
noncomputable def TryzF.f269 : PreE Tryz.prog Go.Eng.Tryz.X0 := by
  apply PreE.mk 269
  conv => lhs; whnf
set_option maxHeartbeats 4000000 in
noncomputable def TryzF.f273 : PreE Tryz.prog Go.Eng.Tryz.X0 := by
  apply PreE.mk 273
  conv => lhs; whnf
set_option maxHeartbeats 4000000 in
noncomputable def TryzF.f277 : PreE Tryz.prog Go.Eng.Tryz.X0 := by
  apply PreE.mk 277
  conv => lhs; whnf
set_option maxHeartbeats 4000000 in
noncomputable def TryzF.f281 : PreE Tryz.prog Go.Eng.Tryz.X0 := by
  apply PreE.mk 281
  conv => lhs; whnf
set_option maxHeartbeats 4000000 in
noncomputable def TryzF.f285 : PreE Tryz.prog Go.Eng.Tryz.X0 := by
  apply PreE.mk 285
  conv => lhs; whnf
set_option maxHeartbeats 4000000 in
noncomputable def TryzF.f289 : PreE Tryz.prog Go.Eng.Tryz.X0 := by
  apply PreE.mk 289
  conv => lhs; whnf
set_option maxHeartbeats 4000000 in
noncomputable def TryzF.f293 : PreE Tryz.prog Go.Eng.Tryz.X0 := by
  apply PreE.mk 293
  conv => lhs; whnf
set_option maxHeartbeats 4000000 in
noncomputable def TryzF.f297 : PreE Tryz.prog Go.Eng.Tryz.X0 := by
  apply PreE.mk 297
  conv => lhs; whnf
set_option maxHeartbeats 4000000 in
noncomputable def TryzF.f301 : PreE Tryz.prog Go.Eng.Tryz.X0 := by
  apply PreE.mk 301
  conv => lhs; whnf
set_option maxHeartbeats 4000000 in
noncomputable def TryzF.f305 : PreE Tryz.prog Go.Eng.Tryz.X0 := by
  apply PreE.mk 305
  conv => lhs; whnf
set_option maxHeartbeats 4000000 in
noncomputable def TryzF.f309 : PreE Tryz.prog Go.Eng.Tryz.X0 := by
  apply PreE.mk 309
  conv => lhs; whnf
set_option maxHeartbeats 4000000 in
noncomputable def TryzF.f313 : PreE Tryz.prog Go.Eng.Tryz.X0 := by
  apply PreE.mk 313
  conv => lhs; whnf
set_option maxHeartbeats 4000000 in
noncomputable def TryzF.f317 : PreE Tryz.prog Go.Eng.Tryz.X0 := by
  apply PreE.mk 317
  conv => lhs; whnf
set_option maxHeartbeats 4000000 in
noncomputable def TryzF.f321 : PreE Tryz.prog Go.Eng.Tryz.X0 := by
  apply PreE.mk 321
  conv => lhs; whnf
set_option maxHeartbeats 4000000 in
noncomputable def TryzF.f325 : PreE Tryz.prog Go.Eng.Tryz.X0 := by
  apply PreE.mk 325
  conv => lhs; whnf
set_option maxHeartbeats 4000000 in
noncomputable def TryzF.f329 : PreE Tryz.prog Go.Eng.Tryz.X0 := by
  apply PreE.mk 329
  conv => lhs; whnf
set_option maxHeartbeats 4000000 in
noncomputable def TryzF.f333 : PreE Tryz.prog Go.Eng.Tryz.X0 := by
  apply PreE.mk 333
  conv => lhs; whnf
set_option maxHeartbeats 4000000 in
noncomputable def TryzF.f337 : PreE Tryz.prog Go.Eng.Tryz.X0 := by
  apply PreE.mk 337
  conv => lhs; whnf
set_option maxHeartbeats 4000000 in
noncomputable def TryzF.f341 : PreE Tryz.prog Go.Eng.Tryz.X0 := by
  apply PreE.mk 341
  conv => lhs; whnf
set_option maxHeartbeats 4000000 in
noncomputable def TryzF.f345 : PreE Tryz.prog Go.Eng.Tryz.X0 := by
  apply PreE.mk 345
  conv => lhs; whnf
set_option maxHeartbeats 4000000 in
noncomputable def TryzF.f349 : PreE Tryz.prog Go.Eng.Tryz.X0 := by
  apply PreE.mk 349
  conv => lhs; whnf
set_option maxHeartbeats 4000000 in
noncomputable def TryzF.f353 : PreE Tryz.prog Go.Eng.Tryz.X0 := by
  apply PreE.mk 353
  conv => lhs; whnf
set_option maxHeartbeats 4000000 in
noncomputable def TryzF.f357 : PreE Tryz.prog Go.Eng.Tryz.X0 := by
  apply PreE.mk 357
  conv => lhs; whnf
set_option maxHeartbeats 4000000 in
noncomputable def TryzF.f361 : PreE Tryz.prog Go.Eng.Tryz.X0 := by
  apply PreE.mk 361
  conv => lhs; whnf
set_option maxHeartbeats 4000000 in
noncomputable def TryzF.f365 : PreE Tryz.prog Go.Eng.Tryz.X0 := by
  apply PreE.mk 365
  conv => lhs; whnf
set_option maxHeartbeats 4000000 in
noncomputable def TryzF.f369 : PreE Tryz.prog Go.Eng.Tryz.X0 := by
  apply PreE.mk 369
  conv => lhs; whnf
set_option maxHeartbeats 4000000 in
noncomputable def TryzF.f373 : PreE Tryz.prog Go.Eng.Tryz.X0 := by
  apply PreE.mk 373
  conv => lhs; whnf
set_option maxHeartbeats 4000000 in
noncomputable def TryzF.f377 : PreE Tryz.prog Go.Eng.Tryz.X0 := by
  apply PreE.mk 377
  conv => lhs; whnf
set_option maxHeartbeats 4000000 in
noncomputable def TryzF.f381 : PreE Tryz.prog Go.Eng.Tryz.X0 := by
  apply PreE.mk 381
  conv => lhs; whnf
set_option maxHeartbeats 4000000 in
noncomputable def TryzF.f385 : PreE Tryz.prog Go.Eng.Tryz.X0 := by
  apply PreE.mk 385
  conv => lhs; whnf
set_option maxHeartbeats 4000000 in
noncomputable def TryzF.f389 : PreE Tryz.prog Go.Eng.Tryz.X0 := by
  apply PreE.mk 389
  conv => lhs; whnf
set_option maxHeartbeats 4000000 in
noncomputable def TryzF.f393 : PreE Tryz.prog Go.Eng.Tryz.X0 := by
  apply PreE.mk 393
  conv => lhs; whnf
set_option maxHeartbeats 4000000 in
noncomputable def TryzF.f397 : PreE Tryz.prog Go.Eng.Tryz.X0 := by
  apply PreE.mk 397
  conv => lhs; whnf
set_option maxHeartbeats 4000000 in
noncomputable def TryzF.f401 : PreE Tryz.prog Go.Eng.Tryz.X0 := by
  apply PreE.mk 401
  conv => lhs; whnf
set_option maxHeartbeats 4000000 in
noncomputable def TryzF.f405 : PreE Tryz.prog Go.Eng.Tryz.X0 := by
  apply PreE.mk 405
  conv => lhs; whnf
set_option maxHeartbeats 4000000 in
noncomputable def TryzF.f409 : PreE Tryz.prog Go.Eng.Tryz.X0 := by
  apply PreE.mk 409
  conv => lhs; whnf
set_option maxHeartbeats 4000000 in
noncomputable def TryzF.f414 : PreE Tryz.prog Go.Eng.Tryz.X0 := by
  apply PreE.mk 414
  conv => lhs; whnf
set_option maxHeartbeats 4000000 in
noncomputable def TryzF.f418 : PreE Tryz.prog Go.Eng.Tryz.X0 := by
  apply PreE.mk 418
  conv => lhs; whnf
end Go.Proofs
