import Derived.Test.YtnfejffknenkeaaGreatDoorPEnt
/- Part of the proof of ShareKnown. -/
namespace Go.Proofs
open Go Go.Eng
set_option maxRecDepth 1000000
theorem TryzP.ok_W : EntryOk Tryz.prog TryzP.W := entryI_ok (Tryz.evOk Tryz.noEntry) (by kernel_rfl)
end Go.Proofs
