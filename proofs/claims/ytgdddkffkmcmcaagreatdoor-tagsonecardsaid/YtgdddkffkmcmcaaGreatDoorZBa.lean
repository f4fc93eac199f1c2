import Derived.Test.YtgdddkffkmcmcaaGreatDoorZAj
/- Part of the proof that TagsOne answers true. -/
set_option linter.all false
set_option maxRecDepth 100000
noncomputable section
namespace Go.Eng
open Go Go.Proofs Go.Proofs.Tryz
set_option maxHeartbeats 4000000 in
theorem aiZ:nO 7 false=true:=by kernel_rfl
set_option maxHeartbeats 4000000 in
theorem ai0:nO 7 true=true:=by kernel_rfl
set_option maxHeartbeats 4000000 in
theorem ai1:nO 8 false=true:=by kernel_rfl
set_option maxHeartbeats 4000000 in
theorem ai2:nO 8 true=true:=by kernel_rfl
set_option maxHeartbeats 4000000 in
theorem ai3:nO 9 false=true:=by kernel_rfl
set_option maxHeartbeats 4000000 in
theorem ai4:nO 9 true=true:=by kernel_rfl
