import Derived.Test.YtplbfhhacobghaaGreatDoorCfg
import Derived.Test.YtplbfhhacobghaaGreatDoorSums
import Derived.Test.YtplbfhhacobghaaGreatDoorEngD
/- Part of the proof of EqualKnown. -/
namespace Go.Proofs
open Go.Eng
set_option maxRecDepth 100000
theorem Tryz.ext209 : ExtFits Tryz.prog 209 .same := ⟨_, Tryz.func209, by kernel_rfl, by kernel_rfl, by kernel_rfl⟩
theorem Tryz.ext211 : ExtFits Tryz.prog 211 .cmp := ⟨_, Tryz.func211, by kernel_rfl, by kernel_rfl, by kernel_rfl⟩
theorem Tryz.ext262 : ExtFits Tryz.prog 262 (.makeNoZero 5) := ⟨Tryz.f262, Tryz.f262.params, 123, Tryz.func262, by kernel_rfl, by kernel_rfl, by kernel_rfl, Tryz.underlying123⟩
theorem Tryz.ext332 : ExtFits Tryz.prog 332 .indexByteString := ⟨_, Tryz.func332, by kernel_rfl, by kernel_rfl, by kernel_rfl⟩
theorem Tryz.plainly : Plainly Tryz.prog := plainly_of (by kernel_rfl)
theorem Tryz.cfgOk {tab : List Entry} (h : ∀ e ∈ tab, EntryOk Tryz.prog e) : CfgOk Tryz.prog (Go.Eng.Tryz.mkX tab) :=
  cfg_ok Tryz.plainly (by kernel_rfl)
    (fun p hp => by
      have hp : p ∈ [(209, Ext.same), (211, .cmp), (262, .makeNoZero 5), (332, .indexByteString)] := hp
      simp only [List.mem_cons, List.not_mem_nil, or_false] at hp
      rcases hp with rfl | rfl | rfl | rfl
      · exact Tryz.ext209
      · exact Tryz.ext211
      · exact Tryz.ext262
      · exact Tryz.ext332)
    (fun p hp => by
      have hp : p ∈ [(65, Sum.copy 3), (101, .sorted 157 3 3)] := hp
      simp only [List.mem_cons, List.not_mem_nil, or_false] at hp
      rcases hp with rfl | rfl
      · exact copy_ok Tryz.copyFits
      · exact sorted_ok Tryz.sortFits) h
end Go.Proofs
