import Derived.Test.YtplbfhhacobghaaGreatDoorPEnt
/- Part of the proof of EqualKnown. -/
namespace Go.Proofs
open Go.Eng
set_option maxRecDepth 1000000
theorem TryzP.noneA : ∀ e ∈ ([] : List Entry), EntryOk Tryz.prog e := fun e h => by cases h
theorem TryzP.ok_W : EntryOk Tryz.prog TryzP.W := entry_ok (n := 200) (Tryz.cfgOk TryzP.noneA) (by kernel_rfl)
theorem TryzP.ok_D1 : EntryOk Tryz.prog TryzP.D1 := entry_ok (n := 200) (Tryz.cfgOk TryzP.noneA) (by kernel_rfl)
theorem TryzP.ok_D2 : EntryOk Tryz.prog TryzP.D2 := entry_ok (n := 200) (Tryz.cfgOk TryzP.noneA) (by kernel_rfl)
theorem TryzP.ok_D3 : EntryOk Tryz.prog TryzP.D3 := entry_ok (n := 200) (Tryz.cfgOk TryzP.noneA) (by kernel_rfl)
theorem TryzP.ok_D4 : EntryOk Tryz.prog TryzP.D4 := entry_ok (n := 200) (Tryz.cfgOk TryzP.noneA) (by kernel_rfl)
theorem TryzP.ok_D5 : EntryOk Tryz.prog TryzP.D5 := entry_ok (n := 200) (Tryz.cfgOk TryzP.noneA) (by kernel_rfl)
theorem TryzP.ok_K0 : EntryOk Tryz.prog TryzP.K0 := entry_ok (n := 200) (Tryz.cfgOk TryzP.noneA) (by kernel_rfl)
theorem TryzP.ok_K1 : EntryOk Tryz.prog TryzP.K1 := entry_ok (n := 200) (Tryz.cfgOk TryzP.noneA) (by kernel_rfl)
end Go.Proofs
