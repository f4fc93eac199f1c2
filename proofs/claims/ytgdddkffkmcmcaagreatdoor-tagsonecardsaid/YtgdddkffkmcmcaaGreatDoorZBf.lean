import Derived.Test.YtgdddkffkmcmcaaGreatDoorZBe
/- Part of the proof that TagsOne answers true. -/
set_option linter.all false
set_option maxRecDepth 100000
noncomputable section
namespace Go.Eng
open Go Go.Proofs Go.Proofs.Tryz
set_option maxHeartbeats 4000000 in
theorem ajp:p7 true (cu 2 false [50] []) false=true:=by kernel_rfl
set_option maxHeartbeats 4000000 in
theorem ajq:p7 true (cu 2 false [50] []) true=true:=by kernel_rfl
set_option maxHeartbeats 4000000 in
theorem ajr:p7 true (cu 2 false [53] []) false=true:=by kernel_rfl
set_option maxHeartbeats 4000000 in
theorem ajs:p7 true (cu 2 false [53] []) true=true:=by kernel_rfl
set_option maxHeartbeats 4000000 in
theorem ajt:p7 false (cu 3 false [] [97]) false=true:=by kernel_rfl
set_option maxHeartbeats 4000000 in
theorem aju:p7 false (cu 3 false [] [97]) true=true:=by kernel_rfl
