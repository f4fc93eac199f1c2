import Derived.Test.YtjfjofehikpfgaaGreatDoorPEnt
/- Part of the proof of TagsKnown. -/
namespace Go.Proofs
open Go Go.Eng
set_option maxRecDepth 1000000
theorem TryzP.ok_A5 : EntryOk Tryz.prog TryzP.A5 := entryI_ok (Tryz.evOk Tryz.noEntry) (by kernel_rfl)
end Go.Proofs
