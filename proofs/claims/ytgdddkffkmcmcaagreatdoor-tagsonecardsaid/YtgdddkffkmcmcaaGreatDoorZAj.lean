import Derived.Test.YtgdddkffkmcmcaaGreatDoorZAi
/- Part of the proof that TagsOne answers true. -/
set_option linter.all false
set_option maxRecDepth 100000
noncomputable section
namespace Go.Eng
open Go Go.Proofs Go.Proofs.Tryz
set_option maxHeartbeats 4000000 in
theorem aiT:nO 4 false=true:=by kernel_rfl
set_option maxHeartbeats 4000000 in
theorem aiU:nO 4 true=true:=by kernel_rfl
set_option maxHeartbeats 4000000 in
theorem aiV:nO 5 false=true:=by kernel_rfl
set_option maxHeartbeats 4000000 in
theorem aiW:nO 5 true=true:=by kernel_rfl
set_option maxHeartbeats 4000000 in
theorem aiX:nO 6 false=true:=by kernel_rfl
set_option maxHeartbeats 4000000 in
theorem aiY:nO 6 true=true:=by kernel_rfl
