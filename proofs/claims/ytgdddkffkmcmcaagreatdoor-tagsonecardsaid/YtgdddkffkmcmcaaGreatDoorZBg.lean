import Derived.Test.YtgdddkffkmcmcaaGreatDoorZBf
/- Part of the proof that TagsOne answers true. -/
set_option linter.all false
set_option maxRecDepth 100000
noncomputable section
namespace Go.Eng
open Go Go.Proofs Go.Proofs.Tryz
set_option maxHeartbeats 4000000 in
theorem ajv:p7 false (cu 3 false [] [98]) false=true:=by kernel_rfl
set_option maxHeartbeats 4000000 in
theorem ajw:p7 false (cu 3 false [] [98]) true=true:=by kernel_rfl
set_option maxHeartbeats 4000000 in
theorem ad6:p7 false (cu 4 false [] []) false=true:=by kernel_rfl
set_option maxHeartbeats 4000000 in
theorem ad7:p7 false (cu 4 false [] []) true=true:=by kernel_rfl
