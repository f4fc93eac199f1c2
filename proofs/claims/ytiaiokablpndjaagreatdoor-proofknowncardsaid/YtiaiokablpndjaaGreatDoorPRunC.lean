import Derived.Test.YtiaiokablpndjaaGreatDoorPEnt
/- Part of the proof of ProofKnown. -/
namespace Go.Proofs
open Go Go.Eng
set_option maxRecDepth 1000000
theorem TryzP.ok_A1 : EntryOk Tryz.prog TryzP.A1 := entryI_ok (Tryz.evOk Tryz.noEntry) (by kernel_rfl)
theorem TryzP.ok_A3 : EntryOk Tryz.prog TryzP.A3 := entryI_ok (Tryz.evOk Tryz.noEntry) (by kernel_rfl)
theorem TryzP.ok_B1 : EntryOk Tryz.prog TryzP.B1 := entryI_ok (Tryz.evOk Tryz.noEntry) (by kernel_rfl)
theorem TryzP.ok_C1 : EntryOk Tryz.prog TryzP.C1 := entryI_ok (Tryz.evOk Tryz.noEntry) (by kernel_rfl)
end Go.Proofs
