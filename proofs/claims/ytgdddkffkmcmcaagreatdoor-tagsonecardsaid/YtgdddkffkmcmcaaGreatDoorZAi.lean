import Derived.Test.YtgdddkffkmcmcaaGreatDoorZAh
/- Part of the proof that TagsOne answers true. -/
set_option linter.all false
set_option maxRecDepth 100000
noncomputable section
namespace Go.Eng
open Go Go.Proofs Go.Proofs.Tryz
set_option maxHeartbeats 4000000 in
theorem aiL:nO 0 false=true:=by kernel_rfl
set_option maxHeartbeats 4000000 in
theorem aiM:nO 0 true=true:=by kernel_rfl
set_option maxHeartbeats 4000000 in
theorem aiN:nO 1 false=true:=by kernel_rfl
set_option maxHeartbeats 4000000 in
theorem aiO:nO 1 true=true:=by kernel_rfl
set_option maxHeartbeats 4000000 in
theorem aiP:nO 2 false=true:=by kernel_rfl
set_option maxHeartbeats 4000000 in
theorem aiQ:nO 2 true=true:=by kernel_rfl
set_option maxHeartbeats 4000000 in
theorem aiR:nO 3 false=true:=by kernel_rfl
set_option maxHeartbeats 4000000 in
theorem aiS:nO 3 true=true:=by kernel_rfl
