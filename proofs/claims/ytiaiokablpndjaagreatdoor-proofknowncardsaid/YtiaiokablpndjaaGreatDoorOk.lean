import Derived.Test.YtiaiokablpndjaaGreatDoorPre
import Derived.Test.YtiaiokablpndjaaGreatDoorSums
import Derived.Test.YtiaiokablpndjaaGreatDoorAs
/- Part of the proof of ProofKnown. -/
namespace Go.Proofs
open Go.Eng
set_option maxRecDepth 100000
theorem Tryz.ext109 : ExtFits Tryz.prog 109 .cmp := ⟨_, Tryz.func109, by kernel_rfl, by kernel_rfl, by kernel_rfl⟩
theorem Tryz.ext124 : ExtFits Tryz.prog 124 .same := ⟨_, Tryz.func124, by kernel_rfl, by kernel_rfl, by kernel_rfl⟩
theorem Tryz.ext177 : ExtFits Tryz.prog 177 (.makeNoZero 5) := ⟨Tryz.f177, Tryz.f177.params, 123, Tryz.func177, by kernel_rfl, by kernel_rfl, by kernel_rfl, Tryz.underlying123⟩
theorem Tryz.ext419 : ExtFits Tryz.prog 419 .indexByteString := ⟨_, Tryz.func419, by kernel_rfl, by kernel_rfl, by kernel_rfl⟩
theorem Tryz.plainly : Plainly Tryz.prog := plainly_of (by kernel_rfl)
theorem Tryz.cfgOk {tab : List Entry} (h : ∀ e ∈ tab, EntryOk Tryz.prog e) : CfgOk Tryz.prog (Go.Eng.Tryz.mkX tab) :=
  cfg_ok Tryz.plainly (by kernel_rfl)
    (fun p hp => by
      have hp : p ∈ ([(109, Ext.cmp), (124, Ext.same), (177, Ext.makeNoZero 5), (419, Ext.indexByteString)] : List (Nat × Ext)) := hp
      simp only [List.mem_cons, List.not_mem_nil, or_false] at hp
      rcases hp with rfl | rfl | rfl | rfl
      · exact Tryz.ext109
      · exact Tryz.ext124
      · exact Tryz.ext177
      · exact Tryz.ext419)
    (fun p hp => by
      have hp : p ∈ ([(34, .copy 3), (48, .alt (.sorted 76 3 3) (.alt (.sorted 284 3 3) (.sorted 366 3 3))), (30, .errAs 87 89)] : List (Nat × Sum)) := hp
      simp only [List.mem_cons, List.not_mem_nil, or_false] at hp
      rcases hp with rfl | rfl | rfl
      · exact copy_ok Tryz.copyFits
      · exact alt_ok (sorted_ok Tryz.sortFits49) (alt_ok (sorted_ok Tryz.sortFits243) (sorted_ok Tryz.sortFits337))
      · exact as_ok TryzA.fits)
    h
theorem Tryz.noEntry : ∀ e ∈ ([] : List Entry), EntryOk Tryz.prog e := fun e h => by cases h
noncomputable def Tryz.B0 : Ev := evalQ Tryz.prog Go.Eng.Tryz.X0 TryzF.pre [] 60
noncomputable def Tryz.L0 : List (Nat × Ev) := lstB Go.Eng.Tryz.fl0 Tryz.B0 []
noncomputable def Tryz.B1 : Ev := evalQ Tryz.prog Go.Eng.Tryz.X0 TryzF.pre Tryz.L0 60
noncomputable def Tryz.L1 : List (Nat × Ev) := lstB Go.Eng.Tryz.fl1 Tryz.B1 Tryz.L0
noncomputable def Tryz.B2 : Ev := evalQ Tryz.prog Go.Eng.Tryz.X0 TryzF.pre Tryz.L1 60
noncomputable def Tryz.L2 : List (Nat × Ev) := lstB Go.Eng.Tryz.fl2 Tryz.B2 Tryz.L1
noncomputable def Tryz.ev (tab : List Entry) : Ev := evalQ Tryz.prog (Go.Eng.Tryz.mkX tab) TryzF.pre Tryz.L2 200
theorem Tryz.ok0 : CfgOk Tryz.prog Go.Eng.Tryz.X0 := Tryz.cfgOk Tryz.noEntry
theorem Tryz.okL0 : ∀ p ∈ Tryz.L0, EvOk Tryz.prog p.2 := lstB_ok (evalQ_ok Tryz.ok0 Tryz.ok0 TryzF.preOk (fun p hp => by cases hp) 60) (fun p hp => by cases hp) _
theorem Tryz.okL1 : ∀ p ∈ Tryz.L1, EvOk Tryz.prog p.2 := lstB_ok (evalQ_ok Tryz.ok0 Tryz.ok0 TryzF.preOk Tryz.okL0 60) Tryz.okL0 _
theorem Tryz.okL2 : ∀ p ∈ Tryz.L2, EvOk Tryz.prog p.2 := lstB_ok (evalQ_ok Tryz.ok0 Tryz.ok0 TryzF.preOk Tryz.okL1 60) Tryz.okL1 _
theorem Tryz.evOk {tab : List Entry} (h : ∀ e ∈ tab, EntryOk Tryz.prog e) : EvOk Tryz.prog (Tryz.ev tab) := evalQ_ok (Tryz.cfgOk h) Tryz.ok0 TryzF.preOk Tryz.okL2 200
end Go.Proofs
