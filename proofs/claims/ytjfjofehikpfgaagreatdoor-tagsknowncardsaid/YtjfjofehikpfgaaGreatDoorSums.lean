import Derived.Test.YtjfjofehikpfgaaGreatDoorLayPlain
import Derived.Test.YtjfjofehikpfgaaGreatDoorEngE
/- Part of the proof of TagsKnown. -/
namespace Go.Proofs
open Go.RowKit Go.Maps Go.Sort Go.Shelf
theorem Tryz.sortsA (m : Nat) : AnyZI.SortsIn Tryz.prog Tryz.sortedA_ren Fence.wide m :=
  ⟨fun blk off cap ss W hH hblk hsz => callsIn_wide.2 (AnyM.slices_Sort_int Tryz.sortA blk off cap ss W hH hblk hsz),
   fun p cap W => callsIn_wide.2 (AnyM.slices_Sort_int_none Tryz.sortA p cap W)⟩
theorem Tryz.sortFits119 : Go.Eng.SortFits Tryz.prog 118 178 3 3 := {
  enter := enters_of Tryz.func118 (by kernel_rfl) rfl
  key := Tryz.underlying3
  sorted := fun lb S N w hN hNb hseq => AnyZI.sorted_in Tryz.sortedA Fence.wide 5 trivial trivial trivial trivial rfl (by omega) (Tryz.sortsA _) (enters_of Tryz.func177 (by kernel_rfl) rfl) 178 lb trivial (enters_of Tryz.func178 (by kernel_rfl) rfl) S N hN hNb w hseq
  keys := fun Bm Bo b nn D0 R w hBm hm hown => EngKeys.at_gives (ρ := Tryz.keysA119_ren) { Tryz.keysA119 with } Fence.wide _ trivial rfl (by omega) Bm Bo b nn D0 w hBm hm hown
  none := fun Bm Bo w hBm hm => EngKeys.nil_gives (ρ := Tryz.keysA119_ren) { Tryz.keysA119 with } Fence.wide _ trivial rfl Bm Bo w hBm hm }
theorem Tryz.sortFits127 : Go.Eng.SortFits Tryz.prog 118 183 3 3 := {
  enter := enters_of Tryz.func118 (by kernel_rfl) rfl
  key := Tryz.underlying3
  sorted := fun lb S N w hN hNb hseq => AnyZI.sorted_in Tryz.sortedA Fence.wide 5 trivial trivial trivial trivial rfl (by omega) (Tryz.sortsA _) (enters_of Tryz.func177 (by kernel_rfl) rfl) 183 lb trivial (enters_of Tryz.func183 (by kernel_rfl) rfl) S N hN hNb w hseq
  keys := fun Bm Bo b nn D0 R w hBm hm hown => EngKeys.at_gives (ρ := Tryz.keysA127_ren) { Tryz.keysA127 with } Fence.wide _ trivial rfl (by omega) Bm Bo b nn D0 w hBm hm hown
  none := fun Bm Bo w hBm hm => EngKeys.nil_gives (ρ := Tryz.keysA127_ren) { Tryz.keysA127 with } Fence.wide _ trivial rfl Bm Bo w hBm hm }
theorem Tryz.sortFits144 : Go.Eng.SortFits Tryz.prog 118 191 3 3 := {
  enter := enters_of Tryz.func118 (by kernel_rfl) rfl
  key := Tryz.underlying3
  sorted := fun lb S N w hN hNb hseq => AnyZI.sorted_in Tryz.sortedA Fence.wide 5 trivial trivial trivial trivial rfl (by omega) (Tryz.sortsA _) (enters_of Tryz.func177 (by kernel_rfl) rfl) 191 lb trivial (enters_of Tryz.func191 (by kernel_rfl) rfl) S N hN hNb w hseq
  keys := fun Bm Bo b nn D0 R w hBm hm hown => EngKeys.at_gives (ρ := Tryz.keysA144_ren) { Tryz.keysA144 with } Fence.wide _ trivial rfl (by omega) Bm Bo b nn D0 w hBm hm hown
  none := fun Bm Bo w hBm hm => EngKeys.nil_gives (ρ := Tryz.keysA144_ren) { Tryz.keysA144 with } Fence.wide _ trivial rfl Bm Bo w hBm hm }
theorem Tryz.copyFits : Go.Eng.CopyFits Tryz.prog 74 3 := {
  enter := enters_of Tryz.func74 (by kernel_rfl) rfl
  nil := fun pd w => AnyX.maps_Copy_nil Tryz.copyA pd w
  walk := ⟨70, 3, Tryz.underlying70, fun J bd bs entsD entsS cd cs w hd hs hne hbs h0 hstep => EngCopy.walk Tryz.copyA J bd bs entsD entsS cd cs w hd hs hne hbs h0 hstep⟩ }
end Go.Proofs
