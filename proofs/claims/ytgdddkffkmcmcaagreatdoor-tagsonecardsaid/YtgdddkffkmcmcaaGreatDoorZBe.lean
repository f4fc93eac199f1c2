import Derived.Test.YtgdddkffkmcmcaaGreatDoorZBd
/- Part of the proof that TagsOne answers true. -/
set_option linter.all false
set_option maxRecDepth 100000
noncomputable section
namespace Go.Eng
open Go Go.Proofs Go.Proofs.Tryz
set_option maxHeartbeats 4000000 in
theorem ajj:p7 true (cu 2 false [48] []) false=true:=by kernel_rfl
set_option maxHeartbeats 4000000 in
theorem ajk:p7 true (cu 2 false [48] []) true=true:=by kernel_rfl
set_option maxHeartbeats 4000000 in
theorem ajl:p7 true (cu 2 false [49] []) false=true:=by kernel_rfl
set_option maxHeartbeats 4000000 in
theorem ajm:p7 true (cu 2 false [49] []) true=true:=by kernel_rfl
set_option maxHeartbeats 4000000 in
theorem ajn:p7 true (cu 2 false [45,49] []) false=true:=by kernel_rfl
set_option maxHeartbeats 4000000 in
theorem ajo:p7 true (cu 2 false [45,49] []) true=true:=by kernel_rfl
