import Derived.Test.YtlbdbieoodakeaaGreatDoorOk
/- Part of the proof of FarkasKnown. -/
namespace Go.Proofs
open Go Go.Eng
set_option maxRecDepth 100000
noncomputable def TryzP.W : Entry := ⟨5, 15, [], mkH [], (.bool true), mkH [], 1274⟩
end Go.Proofs
