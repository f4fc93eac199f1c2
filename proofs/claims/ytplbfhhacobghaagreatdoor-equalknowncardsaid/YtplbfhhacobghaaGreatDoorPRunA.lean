import Derived.Test.YtplbfhhacobghaaGreatDoorPEnt
/- Part of the proof of EqualKnown. -/
namespace Go.Proofs
open Go Go.Eng
set_option maxRecDepth 1000000
theorem TryzP.ok_A8 : EntryOk Tryz.prog TryzP.A8 := entryI_ok (Tryz.evOk Tryz.noEntry) (by kernel_rfl)
theorem TryzP.ok_A9 : EntryOk Tryz.prog TryzP.A9 := entryI_ok (Tryz.evOk Tryz.noEntry) (by kernel_rfl)
end Go.Proofs
