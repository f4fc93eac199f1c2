import Derived.Test.YtplbfhhacobghaaGreatDoorPEnt
/- Part of the proof of EqualKnown. -/
namespace Go.Proofs
open Go.Eng
set_option maxRecDepth 1000000
theorem TryzP.noneB : ∀ e ∈ ([] : List Entry), EntryOk Tryz.prog e := fun e h => by cases h
theorem TryzP.ok_A1 : EntryOk Tryz.prog TryzP.A1 := entry_ok (n := 200) (Tryz.cfgOk TryzP.noneB) (by kernel_rfl)
theorem TryzP.ok_A2 : EntryOk Tryz.prog TryzP.A2 := entry_ok (n := 200) (Tryz.cfgOk TryzP.noneB) (by kernel_rfl)
theorem TryzP.ok_A3 : EntryOk Tryz.prog TryzP.A3 := entry_ok (n := 200) (Tryz.cfgOk TryzP.noneB) (by kernel_rfl)
theorem TryzP.ok_A4 : EntryOk Tryz.prog TryzP.A4 := entry_ok (n := 200) (Tryz.cfgOk TryzP.noneB) (by kernel_rfl)
theorem TryzP.ok_A5 : EntryOk Tryz.prog TryzP.A5 := entry_ok (n := 200) (Tryz.cfgOk TryzP.noneB) (by kernel_rfl)
theorem TryzP.ok_A6 : EntryOk Tryz.prog TryzP.A6 := entry_ok (n := 200) (Tryz.cfgOk TryzP.noneB) (by kernel_rfl)
theorem TryzP.ok_A7 : EntryOk Tryz.prog TryzP.A7 := entry_ok (n := 200) (Tryz.cfgOk TryzP.noneB) (by kernel_rfl)
theorem TryzP.ok_A8 : EntryOk Tryz.prog TryzP.A8 := entry_ok (n := 200) (Tryz.cfgOk TryzP.noneB) (by kernel_rfl)
theorem TryzP.ok_A9 : EntryOk Tryz.prog TryzP.A9 := entry_ok (n := 200) (Tryz.cfgOk TryzP.noneB) (by kernel_rfl)
theorem TryzP.ok_A10 : EntryOk Tryz.prog TryzP.A10 := entry_ok (n := 200) (Tryz.cfgOk TryzP.noneB) (by kernel_rfl)
theorem TryzP.ok_A11 : EntryOk Tryz.prog TryzP.A11 := entry_ok (n := 200) (Tryz.cfgOk TryzP.noneB) (by kernel_rfl)
end Go.Proofs
