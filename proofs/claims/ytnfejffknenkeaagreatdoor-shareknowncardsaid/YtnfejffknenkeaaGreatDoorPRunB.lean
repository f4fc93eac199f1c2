import Derived.Test.YtnfejffknenkeaaGreatDoorPEnt
/- Part of the proof of ShareKnown. -/
namespace Go.Proofs
open Go Go.Eng
set_option maxRecDepth 1000000
theorem TryzP.ok_A3 : EntryOk Tryz.prog TryzP.A3 := entryI_ok (Tryz.evOk Tryz.noEntry) (by kernel_rfl)
theorem TryzP.ok_S1 : EntryOk Tryz.prog TryzP.S1 := entryI_ok (Tryz.evOk Tryz.noEntry) (by kernel_rfl)
end Go.Proofs
