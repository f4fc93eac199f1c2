import Derived.Test.YtjfjofehikpfgaaGreatDoorPre
import Derived.Test.YtjfjofehikpfgaaGreatDoorSums
/- Part of the proof of TagsKnown. -/
namespace Go.Proofs
open Go.Eng
set_option maxRecDepth 100000
theorem Tryz.ext204 : ExtFits Tryz.prog 204 .cmp := ⟨_, Tryz.func204, by kernel_rfl, by kernel_rfl, by kernel_rfl⟩
theorem Tryz.ext217 : ExtFits Tryz.prog 217 .same := ⟨_, Tryz.func217, by kernel_rfl, by kernel_rfl, by kernel_rfl⟩
theorem Tryz.ext268 : ExtFits Tryz.prog 268 (.makeNoZero 5) := ⟨Tryz.f268, Tryz.f268.params, 154, Tryz.func268, by kernel_rfl, by kernel_rfl, by kernel_rfl, Tryz.underlying154⟩
theorem Tryz.ext301 : ExtFits Tryz.prog 301 .indexByteString := ⟨_, Tryz.func301, by kernel_rfl, by kernel_rfl, by kernel_rfl⟩
theorem Tryz.plainly : Plainly Tryz.prog := plainly_of (by kernel_rfl)
theorem Tryz.cfgOk {tab : List Entry} (h : ∀ e ∈ tab, EntryOk Tryz.prog e) : CfgOk Tryz.prog (Go.Eng.Tryz.mkX tab) :=
  cfg_ok Tryz.plainly (by kernel_rfl)
    (fun p hp => by
      have hp : p ∈ ([(204, Ext.cmp), (217, Ext.same), (268, Ext.makeNoZero 5), (301, Ext.indexByteString)] : List (Nat × Ext)) := hp
      simp only [List.mem_cons, List.not_mem_nil, or_false] at hp
      rcases hp with rfl | rfl | rfl | rfl
      · exact Tryz.ext204
      · exact Tryz.ext217
      · exact Tryz.ext268
      · exact Tryz.ext301)
    (fun p hp => by
      have hp : p ∈ ([(74, .copy 3), (118, .alt (.sorted 178 3 3) (.alt (.sorted 183 3 3) (.sorted 191 3 3)))] : List (Nat × Sum)) := hp
      simp only [List.mem_cons, List.not_mem_nil, or_false] at hp
      rcases hp with rfl | rfl
      · exact copy_ok Tryz.copyFits
      · exact alt_ok (sorted_ok Tryz.sortFits119) (alt_ok (sorted_ok Tryz.sortFits127) (sorted_ok Tryz.sortFits144)))
    h
theorem Tryz.noEntry : ∀ e ∈ ([] : List Entry), EntryOk Tryz.prog e := fun e h => by cases h
noncomputable def Tryz.B0 : Ev := evalQ Tryz.prog Go.Eng.Tryz.X0 TryzF.pre [] 60
noncomputable def Tryz.L0 : List (Nat × Ev) := lstB Go.Eng.Tryz.fl0 Tryz.B0 []
noncomputable def Tryz.B1 : Ev := evalQ Tryz.prog Go.Eng.Tryz.X0 TryzF.pre Tryz.L0 60
noncomputable def Tryz.L1 : List (Nat × Ev) := lstB Go.Eng.Tryz.fl1 Tryz.B1 Tryz.L0
noncomputable def Tryz.B2 : Ev := evalQ Tryz.prog Go.Eng.Tryz.X0 TryzF.pre Tryz.L1 60
noncomputable def Tryz.L2 : List (Nat × Ev) := lstB Go.Eng.Tryz.fl2 Tryz.B2 Tryz.L1
noncomputable def Tryz.ev (tab : List Entry) : Ev := evalQ Tryz.prog (Go.Eng.Tryz.mkX tab) TryzF.pre Tryz.L2 200
theorem Tryz.ok0 : CfgOk Tryz.prog Go.Eng.Tryz.X0 := Tryz.cfgOk Tryz.noEntry
theorem Tryz.okL0 : ∀ p ∈ Tryz.L0, EvOk Tryz.prog p.2 := lstB_ok (evalQ_ok Tryz.ok0 Tryz.ok0 TryzF.preOk (fun p hp => by cases hp) 60) (fun p hp => by cases hp) _
theorem Tryz.okL1 : ∀ p ∈ Tryz.L1, EvOk Tryz.prog p.2 := lstB_ok (evalQ_ok Tryz.ok0 Tryz.ok0 TryzF.preOk Tryz.okL0 60) Tryz.okL0 _
theorem Tryz.okL2 : ∀ p ∈ Tryz.L2, EvOk Tryz.prog p.2 := lstB_ok (evalQ_ok Tryz.ok0 Tryz.ok0 TryzF.preOk Tryz.okL1 60) Tryz.okL1 _
theorem Tryz.evOk {tab : List Entry} (h : ∀ e ∈ tab, EntryOk Tryz.prog e) : EvOk Tryz.prog (Tryz.ev tab) := evalQ_ok (Tryz.cfgOk h) Tryz.ok0 TryzF.preOk Tryz.okL2 200
end Go.Proofs
