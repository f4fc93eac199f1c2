import Derived.Test.YtnfejffknenkeaaGreatDoorPre
import Derived.Test.YtnfejffknenkeaaGreatDoorSums
import Derived.Test.YtnfejffknenkeaaGreatDoorGuard
/- Part of the proof of ShareKnown. -/
namespace Go.Proofs
open Go.Eng
set_option maxRecDepth 100000
theorem Tryz.ext213 : ExtFits Tryz.prog 213 .same := ⟨_, Tryz.func213, by kernel_rfl, by kernel_rfl, by kernel_rfl⟩
theorem Tryz.ext232 : ExtFits Tryz.prog 232 .cmp := ⟨_, Tryz.func232, by kernel_rfl, by kernel_rfl, by kernel_rfl⟩
theorem Tryz.ext316 : ExtFits Tryz.prog 316 (.makeNoZero 5) := ⟨Tryz.f316, Tryz.f316.params, 120, Tryz.func316, by kernel_rfl, by kernel_rfl, by kernel_rfl, Tryz.underlying120⟩
theorem Tryz.ext376 : ExtFits Tryz.prog 376 .indexByteString := ⟨_, Tryz.func376, by kernel_rfl, by kernel_rfl, by kernel_rfl⟩
theorem Tryz.ext365 : ExtFits Tryz.prog 365 (.overlaps 3) := ⟨_, 38, 4, Tryz.func365, by kernel_rfl, by kernel_rfl, by kernel_rfl, Tryz.underlying38, Tryz.underlying3, fun w => by kernel_rfl⟩
theorem Tryz.plainly : Plainly Tryz.prog := plainly_of (by kernel_rfl)
theorem Tryz.cfgOk {tab : List Entry} (h : ∀ e ∈ tab, EntryOk Tryz.prog e) : CfgOk Tryz.prog (Go.Eng.Tryz.mkX tab) :=
  cfg_ok Tryz.plainly (by kernel_rfl)
    (fun p hp => by
      have hp : p ∈ ([(213, Ext.same), (232, Ext.cmp), (316, Ext.makeNoZero 5), (376, Ext.indexByteString), (365, Ext.overlaps 3)] : List (Nat × Ext)) := hp
      simp only [List.mem_cons, List.not_mem_nil, or_false] at hp
      rcases hp with rfl | rfl | rfl | rfl | rfl
      · exact Tryz.ext213
      · exact Tryz.ext232
      · exact Tryz.ext316
      · exact Tryz.ext376
      · exact Tryz.ext365)
    (fun p hp => by
      have hp : p ∈ ([(64, .copy 3), (112, .alt (.sorted 195 3 3) (.alt (.sorted 218 3 3) (.alt (.sorted 254 3 3) (.alt (.sorted 310 3 3) (.alt (.sorted 311 3 3) (.alt (.sorted 341 3 3) (.alt (.sorted 342 3 3) (.alt (.sorted 363 3 3) (.sorted 372 3 3))))))))), (186, .guard 246 245 247 81)] : List (Nat × Sum)) := hp
      simp only [List.mem_cons, List.not_mem_nil, or_false] at hp
      rcases hp with rfl | rfl | rfl
      · exact copy_ok Tryz.copyFits
      · exact alt_ok (sorted_ok Tryz.sortFits113) (alt_ok (sorted_ok Tryz.sortFits158) (alt_ok (sorted_ok Tryz.sortFits196) (alt_ok (sorted_ok Tryz.sortFits249) (alt_ok (sorted_ok Tryz.sortFits251) (alt_ok (sorted_ok Tryz.sortFits300) (alt_ok (sorted_ok Tryz.sortFits301) (alt_ok (sorted_ok Tryz.sortFits344) (sorted_ok Tryz.sortFits360))))))))
      · exact guard_ok TryzG.fits)
    h
theorem Tryz.noEntry : ∀ e ∈ ([] : List Entry), EntryOk Tryz.prog e := fun e h => by cases h
noncomputable def Tryz.B0 : Ev := evalQ Tryz.prog Go.Eng.Tryz.X0 TryzF.pre [] 60
noncomputable def Tryz.L0 : List (Nat × Ev) := lstB Go.Eng.Tryz.fl0 Tryz.B0 []
noncomputable def Tryz.B1 : Ev := evalQ Tryz.prog Go.Eng.Tryz.X0 TryzF.pre Tryz.L0 60
noncomputable def Tryz.L1 : List (Nat × Ev) := lstB Go.Eng.Tryz.fl1 Tryz.B1 Tryz.L0
noncomputable def Tryz.B2 : Ev := evalQ Tryz.prog Go.Eng.Tryz.X0 TryzF.pre Tryz.L1 60
noncomputable def Tryz.L2 : List (Nat × Ev) := lstB Go.Eng.Tryz.fl2 Tryz.B2 Tryz.L1
noncomputable def Tryz.ev (tab : List Entry) : Ev := evalQ Tryz.prog (Go.Eng.Tryz.mkX tab) TryzF.pre Tryz.L2 200
theorem Tryz.ok0 : CfgOk Tryz.prog Go.Eng.Tryz.X0 := Tryz.cfgOk Tryz.noEntry
theorem Tryz.okL0 : ∀ p ∈ Tryz.L0, EvOk Tryz.prog p.2 := lstB_ok (evalQ_ok Tryz.ok0 Tryz.ok0 TryzF.preOk (fun p hp => by cases hp) 60) (fun p hp => by cases hp) _
theorem Tryz.okL1 : ∀ p ∈ Tryz.L1, EvOk Tryz.prog p.2 := lstB_ok (evalQ_ok Tryz.ok0 Tryz.ok0 TryzF.preOk Tryz.okL0 60) Tryz.okL0 _
theorem Tryz.okL2 : ∀ p ∈ Tryz.L2, EvOk Tryz.prog p.2 := lstB_ok (evalQ_ok Tryz.ok0 Tryz.ok0 TryzF.preOk Tryz.okL1 60) Tryz.okL1 _
theorem Tryz.evOk {tab : List Entry} (h : ∀ e ∈ tab, EntryOk Tryz.prog e) : EvOk Tryz.prog (Tryz.ev tab) := evalQ_ok (Tryz.cfgOk h) Tryz.ok0 TryzF.preOk Tryz.okL2 200
end Go.Proofs
