import Derived.Test.YtjgkcccnbkijcaaGreatDoorOk
/- Part of the proof of LemmaKnown. -/
namespace Go.Proofs
open Go Go.Eng
set_option maxRecDepth 100000
noncomputable def TryzP.W : Entry := ⟨5, 15, [], mkH [], (.bool true), mkH [], 5012⟩
end Go.Proofs
