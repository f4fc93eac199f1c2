import Derived.Test.YtlbdbieoodakeaaGreatDoorLayPlain
import Derived.Test.YtlbdbieoodakeaaGreatDoorEngD
/- Part of the proof of FarkasKnown. -/
namespace Go.Proofs
open Go.RowKit Go.Maps Go.Sort Go.Shelf
theorem Tryz.sortsA (m : Nat) : AnyZI.SortsIn Tryz.prog Tryz.sortedA_ren Fence.wide m :=
  ⟨fun blk off cap ss W hH hblk hsz => callsIn_wide.2 (AnyM.slices_Sort_int Tryz.sortA blk off cap ss W hH hblk hsz),
   fun p cap W => callsIn_wide.2 (AnyM.slices_Sort_int_none Tryz.sortA p cap W)⟩
theorem Tryz.sortFits125 : Go.Eng.SortFits Tryz.prog 124 160 3 3 := {
  enter := enters_of Tryz.func124 (by kernel_rfl) rfl
  key := Tryz.underlying3
  sorted := fun lb S N w hN hNb hseq => AnyZI.sorted_in Tryz.sortedA Fence.wide 5 trivial trivial trivial trivial rfl (by omega) (Tryz.sortsA _) (enters_of Tryz.func159 (by kernel_rfl) rfl) 160 lb trivial (enters_of Tryz.func160 (by kernel_rfl) rfl) S N hN hNb w hseq
  keys := fun Bm Bo b nn D0 R w hBm hm hown => EngKeys.at_gives (ρ := Tryz.keysA125_ren) { Tryz.keysA125 with } Fence.wide _ trivial rfl (by omega) Bm Bo b nn D0 w hBm hm hown
  none := fun Bm Bo w hBm hm => EngKeys.nil_gives (ρ := Tryz.keysA125_ren) { Tryz.keysA125 with } Fence.wide _ trivial rfl Bm Bo w hBm hm }
theorem Tryz.copyFits : Go.Eng.CopyFits Tryz.prog 76 3 := {
  enter := enters_of Tryz.func76 (by kernel_rfl) rfl
  nil := fun pd w => AnyX.maps_Copy_nil Tryz.copyA pd w
  walk := ⟨140, 3, Tryz.underlying140, fun J bd bs entsD entsS cd cs w hd hs hne hbs h0 hstep => EngCopy.walk Tryz.copyA J bd bs entsD entsS cd cs w hd hs hne hbs h0 hstep⟩ }
end Go.Proofs
