import Derived.Test.YtjgkcccnbkijcaaGreatDoorPre
import Derived.Test.YtjgkcccnbkijcaaGreatDoorSums
/- Part of the proof of LemmaKnown. -/
namespace Go.Proofs
open Go.Eng
set_option maxRecDepth 100000
theorem Tryz.ext201 : ExtFits Tryz.prog 201 .cmp := ⟨_, Tryz.func201, by kernel_rfl, by kernel_rfl, by kernel_rfl⟩
theorem Tryz.ext230 : ExtFits Tryz.prog 230 .same := ⟨_, Tryz.func230, by kernel_rfl, by kernel_rfl, by kernel_rfl⟩
theorem Tryz.ext311 : ExtFits Tryz.prog 311 (.makeNoZero 5) := ⟨Tryz.f311, Tryz.f311.params, 163, Tryz.func311, by kernel_rfl, by kernel_rfl, by kernel_rfl, Tryz.underlying163⟩
theorem Tryz.ext381 : ExtFits Tryz.prog 381 .indexByteString := ⟨_, Tryz.func381, by kernel_rfl, by kernel_rfl, by kernel_rfl⟩
theorem Tryz.plainly : Plainly Tryz.prog := plainly_of (by kernel_rfl)
theorem Tryz.cfgOk {tab : List Entry} (h : ∀ e ∈ tab, EntryOk Tryz.prog e) : CfgOk Tryz.prog (Go.Eng.Tryz.mkX tab) :=
  cfg_ok Tryz.plainly (by kernel_rfl)
    (fun p hp => by
      have hp : p ∈ ([(201, Ext.cmp), (230, Ext.same), (311, Ext.makeNoZero 5), (381, Ext.indexByteString)] : List (Nat × Ext)) := hp
      simp only [List.mem_cons, List.not_mem_nil, or_false] at hp
      rcases hp with rfl | rfl | rfl | rfl
      · exact Tryz.ext201
      · exact Tryz.ext230
      · exact Tryz.ext311
      · exact Tryz.ext381)
    (fun p hp => by
      have hp : p ∈ ([(65, .copy 3), (117, .alt (.sorted 180 3 3) (.alt (.sorted 205 3 3) (.sorted 331 3 3)))] : List (Nat × Sum)) := hp
      simp only [List.mem_cons, List.not_mem_nil, or_false] at hp
      rcases hp with rfl | rfl
      · exact copy_ok Tryz.copyFits
      · exact alt_ok (sorted_ok Tryz.sortFits118) (alt_ok (sorted_ok Tryz.sortFits145) (sorted_ok Tryz.sortFits266)))
    h
theorem Tryz.noEntry : ∀ e ∈ ([] : List Entry), EntryOk Tryz.prog e := fun e h => by cases h
noncomputable def Tryz.B0 : Ev := evalQ Tryz.prog Go.Eng.Tryz.X0 TryzF.pre [] 60
noncomputable def Tryz.L0 : List (Nat × Ev) := lstB Go.Eng.Tryz.fl0 Tryz.B0 []
noncomputable def Tryz.B1 : Ev := evalQ Tryz.prog Go.Eng.Tryz.X0 TryzF.pre Tryz.L0 60
noncomputable def Tryz.L1 : List (Nat × Ev) := lstB Go.Eng.Tryz.fl1 Tryz.B1 Tryz.L0
noncomputable def Tryz.B2 : Ev := evalQ Tryz.prog Go.Eng.Tryz.X0 TryzF.pre Tryz.L1 60
noncomputable def Tryz.L2 : List (Nat × Ev) := lstB Go.Eng.Tryz.fl2 Tryz.B2 Tryz.L1
noncomputable def Tryz.ev (tab : List Entry) : Ev := evalQ Tryz.prog (Go.Eng.Tryz.mkX tab) TryzF.pre Tryz.L2 200
theorem Tryz.ok0 : CfgOk Tryz.prog Go.Eng.Tryz.X0 := Tryz.cfgOk Tryz.noEntry
theorem Tryz.okL0 : ∀ p ∈ Tryz.L0, EvOk Tryz.prog p.2 := lstB_ok (evalQ_ok Tryz.ok0 Tryz.ok0 TryzF.preOk (fun p hp => by cases hp) 60) (fun p hp => by cases hp) _
theorem Tryz.okL1 : ∀ p ∈ Tryz.L1, EvOk Tryz.prog p.2 := lstB_ok (evalQ_ok Tryz.ok0 Tryz.ok0 TryzF.preOk Tryz.okL0 60) Tryz.okL0 _
theorem Tryz.okL2 : ∀ p ∈ Tryz.L2, EvOk Tryz.prog p.2 := lstB_ok (evalQ_ok Tryz.ok0 Tryz.ok0 TryzF.preOk Tryz.okL1 60) Tryz.okL1 _
theorem Tryz.evOk {tab : List Entry} (h : ∀ e ∈ tab, EntryOk Tryz.prog e) : EvOk Tryz.prog (Tryz.ev tab) := evalQ_ok (Tryz.cfgOk h) Tryz.ok0 TryzF.preOk Tryz.okL2 200
end Go.Proofs
