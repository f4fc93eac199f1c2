import Derived.Test.YtadepknkjjmcnaaGreatDoorLayPlain
import Derived.Test.YtadepknkjjmcnaaGreatDoorEngE
/- Part of the proof. -/
namespace Go.Proofs
open Go.RowKit Go.Maps Go.Sort Go.Shelf
theorem Tryz.sortsA (m : Nat) : AnyZI.SortsIn Tryz.prog Tryz.sortedA_ren Fence.wide m :=
  ⟨fun blk off cap ss W hH hblk hsz => callsIn_wide.2 (AnyM.slices_Sort_int Tryz.sortA blk off cap ss W hH hblk hsz),
   fun p cap W => callsIn_wide.2 (AnyM.slices_Sort_int_none Tryz.sortA p cap W)⟩
theorem Tryz.sortFits103 : Go.Eng.SortFits Tryz.prog 102 168 3 3 := {
  enter := enters_of Tryz.func102 (by kernel_rfl) rfl
  key := Tryz.underlying3
  sorted := fun lb S N w hN hNb hseq => AnyZI.sorted_in Tryz.sortedA Fence.wide 5 trivial trivial trivial trivial rfl (by omega) (Tryz.sortsA _) (enters_of Tryz.func152 (by kernel_rfl) rfl) 168 lb trivial (enters_of Tryz.func168 (by kernel_rfl) rfl) S N hN hNb w hseq
  keys := fun Bm Bo b nn D0 R w hBm hm hown => EngKeys.at_gives (ρ := Tryz.keysA103_ren) { Tryz.keysA103 with } Fence.wide _ trivial rfl (by omega) Bm Bo b nn D0 w hBm hm hown
  none := fun Bm Bo w hBm hm => EngKeys.nil_gives (ρ := Tryz.keysA103_ren) { Tryz.keysA103 with } Fence.wide _ trivial rfl Bm Bo w hBm hm }
theorem Tryz.sortFits110 : Go.Eng.SortFits Tryz.prog 102 173 3 3 := {
  enter := enters_of Tryz.func102 (by kernel_rfl) rfl
  key := Tryz.underlying3
  sorted := fun lb S N w hN hNb hseq => AnyZI.sorted_in Tryz.sortedA Fence.wide 5 trivial trivial trivial trivial rfl (by omega) (Tryz.sortsA _) (enters_of Tryz.func152 (by kernel_rfl) rfl) 173 lb trivial (enters_of Tryz.func173 (by kernel_rfl) rfl) S N hN hNb w hseq
  keys := fun Bm Bo b nn D0 R w hBm hm hown => EngKeys.at_gives (ρ := Tryz.keysA110_ren) { Tryz.keysA110 with } Fence.wide _ trivial rfl (by omega) Bm Bo b nn D0 w hBm hm hown
  none := fun Bm Bo w hBm hm => EngKeys.nil_gives (ρ := Tryz.keysA110_ren) { Tryz.keysA110 with } Fence.wide _ trivial rfl Bm Bo w hBm hm }
theorem Tryz.sortFits180 : Go.Eng.SortFits Tryz.prog 102 252 3 3 := {
  enter := enters_of Tryz.func102 (by kernel_rfl) rfl
  key := Tryz.underlying3
  sorted := fun lb S N w hN hNb hseq => AnyZI.sorted_in Tryz.sortedA Fence.wide 5 trivial trivial trivial trivial rfl (by omega) (Tryz.sortsA _) (enters_of Tryz.func152 (by kernel_rfl) rfl) 252 lb trivial (enters_of Tryz.func252 (by kernel_rfl) rfl) S N hN hNb w hseq
  keys := fun Bm Bo b nn D0 R w hBm hm hown => EngKeys.at_gives (ρ := Tryz.keysA180_ren) { Tryz.keysA180 with } Fence.wide _ trivial rfl (by omega) Bm Bo b nn D0 w hBm hm hown
  none := fun Bm Bo w hBm hm => EngKeys.nil_gives (ρ := Tryz.keysA180_ren) { Tryz.keysA180 with } Fence.wide _ trivial rfl Bm Bo w hBm hm }
theorem Tryz.sortFits458 : Go.Eng.SortFits Tryz.prog 102 506 3 3 := {
  enter := enters_of Tryz.func102 (by kernel_rfl) rfl
  key := Tryz.underlying3
  sorted := fun lb S N w hN hNb hseq => AnyZI.sorted_in Tryz.sortedA Fence.wide 5 trivial trivial trivial trivial rfl (by omega) (Tryz.sortsA _) (enters_of Tryz.func152 (by kernel_rfl) rfl) 506 lb trivial (enters_of Tryz.func506 (by kernel_rfl) rfl) S N hN hNb w hseq
  keys := fun Bm Bo b nn D0 R w hBm hm hown => EngKeys.at_gives (ρ := Tryz.keysA458_ren) { Tryz.keysA458 with } Fence.wide _ trivial rfl (by omega) Bm Bo b nn D0 w hBm hm hown
  none := fun Bm Bo w hBm hm => EngKeys.nil_gives (ρ := Tryz.keysA458_ren) { Tryz.keysA458 with } Fence.wide _ trivial rfl Bm Bo w hBm hm }
theorem Tryz.sortFits460 : Go.Eng.SortFits Tryz.prog 102 507 3 3 := {
  enter := enters_of Tryz.func102 (by kernel_rfl) rfl
  key := Tryz.underlying3
  sorted := fun lb S N w hN hNb hseq => AnyZI.sorted_in Tryz.sortedA Fence.wide 5 trivial trivial trivial trivial rfl (by omega) (Tryz.sortsA _) (enters_of Tryz.func152 (by kernel_rfl) rfl) 507 lb trivial (enters_of Tryz.func507 (by kernel_rfl) rfl) S N hN hNb w hseq
  keys := fun Bm Bo b nn D0 R w hBm hm hown => EngKeys.at_gives (ρ := Tryz.keysA460_ren) { Tryz.keysA460 with } Fence.wide _ trivial rfl (by omega) Bm Bo b nn D0 w hBm hm hown
  none := fun Bm Bo w hBm hm => EngKeys.nil_gives (ρ := Tryz.keysA460_ren) { Tryz.keysA460 with } Fence.wide _ trivial rfl Bm Bo w hBm hm }
theorem Tryz.sortFits496 : Go.Eng.SortFits Tryz.prog 102 540 3 3 := {
  enter := enters_of Tryz.func102 (by kernel_rfl) rfl
  key := Tryz.underlying3
  sorted := fun lb S N w hN hNb hseq => AnyZI.sorted_in Tryz.sortedA Fence.wide 5 trivial trivial trivial trivial rfl (by omega) (Tryz.sortsA _) (enters_of Tryz.func152 (by kernel_rfl) rfl) 540 lb trivial (enters_of Tryz.func540 (by kernel_rfl) rfl) S N hN hNb w hseq
  keys := fun Bm Bo b nn D0 R w hBm hm hown => EngKeys.at_gives (ρ := Tryz.keysA496_ren) { Tryz.keysA496 with } Fence.wide _ trivial rfl (by omega) Bm Bo b nn D0 w hBm hm hown
  none := fun Bm Bo w hBm hm => EngKeys.nil_gives (ρ := Tryz.keysA496_ren) { Tryz.keysA496 with } Fence.wide _ trivial rfl Bm Bo w hBm hm }
theorem Tryz.sortFits497 : Go.Eng.SortFits Tryz.prog 102 541 3 3 := {
  enter := enters_of Tryz.func102 (by kernel_rfl) rfl
  key := Tryz.underlying3
  sorted := fun lb S N w hN hNb hseq => AnyZI.sorted_in Tryz.sortedA Fence.wide 5 trivial trivial trivial trivial rfl (by omega) (Tryz.sortsA _) (enters_of Tryz.func152 (by kernel_rfl) rfl) 541 lb trivial (enters_of Tryz.func541 (by kernel_rfl) rfl) S N hN hNb w hseq
  keys := fun Bm Bo b nn D0 R w hBm hm hown => EngKeys.at_gives (ρ := Tryz.keysA497_ren) { Tryz.keysA497 with } Fence.wide _ trivial rfl (by omega) Bm Bo b nn D0 w hBm hm hown
  none := fun Bm Bo w hBm hm => EngKeys.nil_gives (ρ := Tryz.keysA497_ren) { Tryz.keysA497 with } Fence.wide _ trivial rfl Bm Bo w hBm hm }
theorem Tryz.sortFits543 : Go.Eng.SortFits Tryz.prog 102 568 3 3 := {
  enter := enters_of Tryz.func102 (by kernel_rfl) rfl
  key := Tryz.underlying3
  sorted := fun lb S N w hN hNb hseq => AnyZI.sorted_in Tryz.sortedA Fence.wide 5 trivial trivial trivial trivial rfl (by omega) (Tryz.sortsA _) (enters_of Tryz.func152 (by kernel_rfl) rfl) 568 lb trivial (enters_of Tryz.func568 (by kernel_rfl) rfl) S N hN hNb w hseq
  keys := fun Bm Bo b nn D0 R w hBm hm hown => EngKeys.at_gives (ρ := Tryz.keysA543_ren) { Tryz.keysA543 with } Fence.wide _ trivial rfl (by omega) Bm Bo b nn D0 w hBm hm hown
  none := fun Bm Bo w hBm hm => EngKeys.nil_gives (ρ := Tryz.keysA543_ren) { Tryz.keysA543 with } Fence.wide _ trivial rfl Bm Bo w hBm hm }
theorem Tryz.sortFits565 : Go.Eng.SortFits Tryz.prog 102 583 3 3 := {
  enter := enters_of Tryz.func102 (by kernel_rfl) rfl
  key := Tryz.underlying3
  sorted := fun lb S N w hN hNb hseq => AnyZI.sorted_in Tryz.sortedA Fence.wide 5 trivial trivial trivial trivial rfl (by omega) (Tryz.sortsA _) (enters_of Tryz.func152 (by kernel_rfl) rfl) 583 lb trivial (enters_of Tryz.func583 (by kernel_rfl) rfl) S N hN hNb w hseq
  keys := fun Bm Bo b nn D0 R w hBm hm hown => EngKeys.at_gives (ρ := Tryz.keysA565_ren) { Tryz.keysA565 with } Fence.wide _ trivial rfl (by omega) Bm Bo b nn D0 w hBm hm hown
  none := fun Bm Bo w hBm hm => EngKeys.nil_gives (ρ := Tryz.keysA565_ren) { Tryz.keysA565 with } Fence.wide _ trivial rfl Bm Bo w hBm hm }
theorem Tryz.copyFits : Go.Eng.CopyFits Tryz.prog 75 3 := {
  enter := enters_of Tryz.func75 (by kernel_rfl) rfl
  nil := fun pd w => AnyX.maps_Copy_nil Tryz.copyA pd w
  walk := ⟨112, 3, Tryz.underlying112, fun J bd bs entsD entsS cd cs w hd hs hne hbs h0 hstep => EngCopy.walk Tryz.copyA J bd bs entsD entsS cd cs w hd hs hne hbs h0 hstep⟩ }
end Go.Proofs
