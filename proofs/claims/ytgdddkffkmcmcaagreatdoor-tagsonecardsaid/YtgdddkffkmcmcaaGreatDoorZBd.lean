import Derived.Test.YtgdddkffkmcmcaaGreatDoorZBc
/- Part of the proof that TagsOne answers true. -/
set_option linter.all false
set_option maxRecDepth 100000
noncomputable section
namespace Go.Eng
open Go Go.Proofs Go.Proofs.Tryz
set_option maxHeartbeats 4000000 in
theorem ajd:p7 false (cu 0 false [] []) false=true:=by kernel_rfl
set_option maxHeartbeats 4000000 in
theorem aje:p7 false (cu 0 false [] []) true=true:=by kernel_rfl
set_option maxHeartbeats 4000000 in
theorem ajf:p7 false (cu 1 true [] []) false=true:=by kernel_rfl
set_option maxHeartbeats 4000000 in
theorem ajg:p7 false (cu 1 true [] []) true=true:=by kernel_rfl
set_option maxHeartbeats 4000000 in
theorem ajh:p7 false (cu 1 false [] []) false=true:=by kernel_rfl
set_option maxHeartbeats 4000000 in
theorem aji:p7 false (cu 1 false [] []) true=true:=by kernel_rfl
