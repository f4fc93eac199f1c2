import Derived.Test.YtgdddkffkmcmcaaGreatDoorZBa
/- Part of the proof that TagsOne answers true. -/
set_option linter.all false
set_option maxRecDepth 100000
noncomputable section
namespace Go.Eng
open Go Go.Proofs Go.Proofs.Tryz
set_option maxHeartbeats 4000000 in
theorem adO:nO 10 false=true:=by kernel_rfl
set_option maxHeartbeats 4000000 in
theorem adP:nO 10 true=true:=by kernel_rfl
set_option maxHeartbeats 4000000 in
theorem adQ:nO 11 false=true:=by kernel_rfl
set_option maxHeartbeats 4000000 in
theorem adR:nO 11 true=true:=by kernel_rfl
set_option maxHeartbeats 4000000 in
theorem adS:nO 12 false=true:=by kernel_rfl
set_option maxHeartbeats 4000000 in
theorem adT:nO 12 true=true:=by kernel_rfl
