import Derived.Test.YtlbdbieoodakeaaGreatDoorCfg
import Derived.Test.YtlbdbieoodakeaaGreatDoorSums
/- Part of the proof of FarkasKnown. -/
namespace Go.Proofs
open Go.Eng
set_option maxRecDepth 100000
theorem Tryz.ext120 : ExtFits Tryz.prog 120 .same := ⟨_, Tryz.func120, by kernel_rfl, by kernel_rfl, by kernel_rfl⟩
theorem Tryz.ext173 : ExtFits Tryz.prog 173 .cmp := ⟨_, Tryz.func173, by kernel_rfl, by kernel_rfl, by kernel_rfl⟩
theorem Tryz.ext214 : ExtFits Tryz.prog 214 (.makeNoZero 5) := ⟨Tryz.f214, Tryz.f214.params, 103, Tryz.func214, by kernel_rfl, by kernel_rfl, by kernel_rfl, Tryz.underlying103⟩
theorem Tryz.ext251 : ExtFits Tryz.prog 251 .indexByteString := ⟨_, Tryz.func251, by kernel_rfl, by kernel_rfl, by kernel_rfl⟩
theorem Tryz.plainly : Plainly Tryz.prog := plainly_of (by kernel_rfl)
theorem Tryz.cfgOk {tab : List Entry} (h : ∀ e ∈ tab, EntryOk Tryz.prog e) : CfgOk Tryz.prog (Go.Eng.Tryz.mkX tab) :=
  cfg_ok Tryz.plainly (by kernel_rfl)
    (fun p hp => by
      have hp : p ∈ ([(120, Ext.same), (173, Ext.cmp), (214, Ext.makeNoZero 5), (251, Ext.indexByteString)] : List (Nat × Ext)) := hp
      simp only [List.mem_cons, List.not_mem_nil, or_false] at hp
      rcases hp with rfl | rfl | rfl | rfl
      · exact Tryz.ext120
      · exact Tryz.ext173
      · exact Tryz.ext214
      · exact Tryz.ext251)
    (fun p hp => by
      have hp : p ∈ ([(76, .copy 3), (124, .sorted 160 3 3)] : List (Nat × Sum)) := hp
      simp only [List.mem_cons, List.not_mem_nil, or_false] at hp
      rcases hp with rfl | rfl
      · exact copy_ok Tryz.copyFits
      · exact sorted_ok Tryz.sortFits125)
    h
theorem Tryz.noEntry : ∀ e ∈ ([] : List Entry), EntryOk Tryz.prog e := fun e h => by cases h
noncomputable def Tryz.B0 : Ev := eval Tryz.prog (Go.Eng.Tryz.mkX []) 60
noncomputable def Tryz.L0 : List (Nat × Ev) := lstB Go.Eng.Tryz.fl0 Tryz.B0 []
noncomputable def Tryz.B1 : Ev := evalI Tryz.prog (Go.Eng.Tryz.mkX []) Tryz.L0 60
noncomputable def Tryz.L1 : List (Nat × Ev) := lstB Go.Eng.Tryz.fl1 Tryz.B1 Tryz.L0
noncomputable def Tryz.B2 : Ev := evalI Tryz.prog (Go.Eng.Tryz.mkX []) Tryz.L1 60
noncomputable def Tryz.L2 : List (Nat × Ev) := lstB Go.Eng.Tryz.fl2 Tryz.B2 Tryz.L1
noncomputable def Tryz.ev (tab : List Entry) : Ev := evalI Tryz.prog (Go.Eng.Tryz.mkX tab) Tryz.L2 200
theorem Tryz.okL0 : ∀ p ∈ Tryz.L0, EvOk Tryz.prog p.2 := lstB_ok (eval_ok (Tryz.cfgOk Tryz.noEntry) 60) (fun p hp => by cases hp) _
theorem Tryz.okL1 : ∀ p ∈ Tryz.L1, EvOk Tryz.prog p.2 := lstB_ok (evalI_ok (Tryz.cfgOk Tryz.noEntry) Tryz.okL0 60) Tryz.okL0 _
theorem Tryz.okL2 : ∀ p ∈ Tryz.L2, EvOk Tryz.prog p.2 := lstB_ok (evalI_ok (Tryz.cfgOk Tryz.noEntry) Tryz.okL1 60) Tryz.okL1 _
theorem Tryz.evOk {tab : List Entry} (h : ∀ e ∈ tab, EntryOk Tryz.prog e) : EvOk Tryz.prog (Tryz.ev tab) := evalI_ok (Tryz.cfgOk h) Tryz.okL2 200
end Go.Proofs
