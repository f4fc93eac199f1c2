import Derived.Test.YtplbfhhacobghaaGreatDoorPEnt
/- Part of the proof of EqualKnown. -/
namespace Go.Proofs
open Go.Eng
set_option maxRecDepth 1000000
theorem TryzP.noneC : ∀ e ∈ ([] : List Entry), EntryOk Tryz.prog e := fun e h => by cases h
theorem TryzP.ok_A12 : EntryOk Tryz.prog TryzP.A12 := entry_ok (n := 200) (Tryz.cfgOk TryzP.noneC) (by kernel_rfl)
theorem TryzP.ok_A13 : EntryOk Tryz.prog TryzP.A13 := entry_ok (n := 200) (Tryz.cfgOk TryzP.noneC) (by kernel_rfl)
theorem TryzP.ok_A14 : EntryOk Tryz.prog TryzP.A14 := entry_ok (n := 200) (Tryz.cfgOk TryzP.noneC) (by kernel_rfl)
theorem TryzP.ok_A15 : EntryOk Tryz.prog TryzP.A15 := entry_ok (n := 200) (Tryz.cfgOk TryzP.noneC) (by kernel_rfl)
theorem TryzP.ok_A16 : EntryOk Tryz.prog TryzP.A16 := entry_ok (n := 200) (Tryz.cfgOk TryzP.noneC) (by kernel_rfl)
theorem TryzP.ok_A17 : EntryOk Tryz.prog TryzP.A17 := entry_ok (n := 200) (Tryz.cfgOk TryzP.noneC) (by kernel_rfl)
theorem TryzP.ok_A18 : EntryOk Tryz.prog TryzP.A18 := entry_ok (n := 200) (Tryz.cfgOk TryzP.noneC) (by kernel_rfl)
theorem TryzP.ok_A19 : EntryOk Tryz.prog TryzP.A19 := entry_ok (n := 200) (Tryz.cfgOk TryzP.noneC) (by kernel_rfl)
theorem TryzP.ok_A20 : EntryOk Tryz.prog TryzP.A20 := entry_ok (n := 200) (Tryz.cfgOk TryzP.noneC) (by kernel_rfl)
theorem TryzP.ok_A21 : EntryOk Tryz.prog TryzP.A21 := entry_ok (n := 200) (Tryz.cfgOk TryzP.noneC) (by kernel_rfl)
end Go.Proofs
