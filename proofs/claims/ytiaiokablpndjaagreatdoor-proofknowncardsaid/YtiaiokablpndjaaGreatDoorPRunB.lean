import Derived.Test.YtiaiokablpndjaaGreatDoorPEnt
/- Part of the proof of ProofKnown. -/
namespace Go.Proofs
open Go Go.Eng
set_option maxRecDepth 1000000
theorem TryzP.ok_A4 : EntryOk Tryz.prog TryzP.A4 := entryI_ok (Tryz.evOk Tryz.noEntry) (by kernel_rfl)
end Go.Proofs
