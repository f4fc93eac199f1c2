import Derived.Test.YtplbfhhacobghaaGreatDoorPre
import Derived.Test.YtplbfhhacobghaaGreatDoorSums
/- Part of the proof of EqualKnown. -/
namespace Go.Proofs
open Go.Eng
set_option maxRecDepth 100000
theorem Tryz.ext209 : ExtFits Tryz.prog 209 .same := ⟨_, Tryz.func209, by kernel_rfl, by kernel_rfl, by kernel_rfl⟩
theorem Tryz.ext211 : ExtFits Tryz.prog 211 .cmp := ⟨_, Tryz.func211, by kernel_rfl, by kernel_rfl, by kernel_rfl⟩
theorem Tryz.ext262 : ExtFits Tryz.prog 262 (.makeNoZero 5) := ⟨Tryz.f262, Tryz.f262.params, 123, Tryz.func262, by kernel_rfl, by kernel_rfl, by kernel_rfl, Tryz.underlying123⟩
theorem Tryz.ext332 : ExtFits Tryz.prog 332 .indexByteString := ⟨_, Tryz.func332, by kernel_rfl, by kernel_rfl, by kernel_rfl⟩
theorem Tryz.plainly : Plainly Tryz.prog := plainly_of (by kernel_rfl)
theorem Tryz.cfgOk {tab : List Entry} (h : ∀ e ∈ tab, EntryOk Tryz.prog e) : CfgOk Tryz.prog (Go.Eng.Tryz.mkX tab) :=
  cfg_ok Tryz.plainly (by kernel_rfl)
    (fun p hp => by
      have hp : p ∈ ([(209, Ext.same), (211, Ext.cmp), (262, Ext.makeNoZero 5), (332, Ext.indexByteString)] : List (Nat × Ext)) := hp
      simp only [List.mem_cons, List.not_mem_nil, or_false] at hp
      rcases hp with rfl | rfl | rfl | rfl
      · exact Tryz.ext209
      · exact Tryz.ext211
      · exact Tryz.ext262
      · exact Tryz.ext332)
    (fun p hp => by
      have hp : p ∈ ([(65, .copy 3), (101, .alt (.sorted 157 3 3) (.sorted 271 3 3))] : List (Nat × Sum)) := hp
      simp only [List.mem_cons, List.not_mem_nil, or_false] at hp
      rcases hp with rfl | rfl
      · exact copy_ok Tryz.copyFits
      · exact alt_ok (sorted_ok Tryz.sortFits102) (sorted_ok Tryz.sortFits236))
    h
theorem Tryz.noEntry : ∀ e ∈ ([] : List Entry), EntryOk Tryz.prog e := fun e h => by cases h
noncomputable def Tryz.B0 : Ev := evalQ Tryz.prog Go.Eng.Tryz.X0 TryzF.pre [] 60
noncomputable def Tryz.L0 : List (Nat × Ev) := lstB Go.Eng.Tryz.fl0 Tryz.B0 []
noncomputable def Tryz.B1 : Ev := evalQ Tryz.prog Go.Eng.Tryz.X0 TryzF.pre Tryz.L0 60
noncomputable def Tryz.L1 : List (Nat × Ev) := lstB Go.Eng.Tryz.fl1 Tryz.B1 Tryz.L0
noncomputable def Tryz.B2 : Ev := evalQ Tryz.prog Go.Eng.Tryz.X0 TryzF.pre Tryz.L1 60
noncomputable def Tryz.L2 : List (Nat × Ev) := lstB Go.Eng.Tryz.fl2 Tryz.B2 Tryz.L1
noncomputable def Tryz.ev (tab : List Entry) : Ev := evalQ Tryz.prog (Go.Eng.Tryz.mkX tab) TryzF.pre Tryz.L2 200
theorem Tryz.ok0 : CfgOk Tryz.prog Go.Eng.Tryz.X0 := Tryz.cfgOk Tryz.noEntry
theorem Tryz.okL0 : ∀ p ∈ Tryz.L0, EvOk Tryz.prog p.2 := lstB_ok (evalQ_ok Tryz.ok0 Tryz.ok0 TryzF.preOk (fun p hp => by cases hp) 60) (fun p hp => by cases hp) _
theorem Tryz.okL1 : ∀ p ∈ Tryz.L1, EvOk Tryz.prog p.2 := lstB_ok (evalQ_ok Tryz.ok0 Tryz.ok0 TryzF.preOk Tryz.okL0 60) Tryz.okL0 _
theorem Tryz.okL2 : ∀ p ∈ Tryz.L2, EvOk Tryz.prog p.2 := lstB_ok (evalQ_ok Tryz.ok0 Tryz.ok0 TryzF.preOk Tryz.okL1 60) Tryz.okL1 _
theorem Tryz.evOk {tab : List Entry} (h : ∀ e ∈ tab, EntryOk Tryz.prog e) : EvOk Tryz.prog (Tryz.ev tab) := evalQ_ok (Tryz.cfgOk h) Tryz.ok0 TryzF.preOk Tryz.okL2 200
end Go.Proofs
