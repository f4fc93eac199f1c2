import Derived.Test.YtaadbnppakcjnaaGreatDoorLayPlain
import Derived.Test.YtaadbnppakcjnaaGreatDoorEngD
/- Part of the proof of SolveKnown. -/
namespace Go.Proofs
open Go.RowKit Go.Maps Go.Sort Go.Shelf
theorem Tryz.sortsA (m : Nat) : AnyZI.SortsIn Tryz.prog Tryz.sortedA_ren Fence.wide m :=
  ⟨fun blk off cap ss W hH hblk hsz => callsIn_wide.2 (AnyM.slices_Sort_int Tryz.sortA blk off cap ss W hH hblk hsz),
   fun p cap W => callsIn_wide.2 (AnyM.slices_Sort_int_none Tryz.sortA p cap W)⟩
theorem Tryz.sortFits62 : Go.Eng.SortFits Tryz.prog 61 129 3 3 := {
  enter := enters_of Tryz.func61 (by kernel_rfl) rfl
  key := Tryz.underlying3
  sorted := fun lb S N w hN hNb hseq => AnyZI.sorted_in Tryz.sortedA Fence.wide 5 trivial trivial trivial trivial rfl (by omega) (Tryz.sortsA _) (enters_of Tryz.func114 (by kernel_rfl) rfl) 129 lb trivial (enters_of Tryz.func129 (by kernel_rfl) rfl) S N hN hNb w hseq
  keys := fun Bm Bo b nn D0 R w hBm hm hown => EngKeys.at_gives (ρ := Tryz.keysA62_ren) { Tryz.keysA62 with } Fence.wide _ trivial rfl (by omega) Bm Bo b nn D0 w hBm hm hown
  none := fun Bm Bo w hBm hm => EngKeys.nil_gives (ρ := Tryz.keysA62_ren) { Tryz.keysA62 with } Fence.wide _ trivial rfl Bm Bo w hBm hm }
theorem Tryz.sortFits133 : Go.Eng.SortFits Tryz.prog 61 233 3 3 := {
  enter := enters_of Tryz.func61 (by kernel_rfl) rfl
  key := Tryz.underlying3
  sorted := fun lb S N w hN hNb hseq => AnyZI.sorted_in Tryz.sortedA Fence.wide 5 trivial trivial trivial trivial rfl (by omega) (Tryz.sortsA _) (enters_of Tryz.func114 (by kernel_rfl) rfl) 233 lb trivial (enters_of Tryz.func233 (by kernel_rfl) rfl) S N hN hNb w hseq
  keys := fun Bm Bo b nn D0 R w hBm hm hown => EngKeys.at_gives (ρ := Tryz.keysA133_ren) { Tryz.keysA133 with } Fence.wide _ trivial rfl (by omega) Bm Bo b nn D0 w hBm hm hown
  none := fun Bm Bo w hBm hm => EngKeys.nil_gives (ρ := Tryz.keysA133_ren) { Tryz.keysA133 with } Fence.wide _ trivial rfl Bm Bo w hBm hm }
theorem Tryz.sortFits280 : Go.Eng.SortFits Tryz.prog 61 354 3 3 := {
  enter := enters_of Tryz.func61 (by kernel_rfl) rfl
  key := Tryz.underlying3
  sorted := fun lb S N w hN hNb hseq => AnyZI.sorted_in Tryz.sortedA Fence.wide 5 trivial trivial trivial trivial rfl (by omega) (Tryz.sortsA _) (enters_of Tryz.func114 (by kernel_rfl) rfl) 354 lb trivial (enters_of Tryz.func354 (by kernel_rfl) rfl) S N hN hNb w hseq
  keys := fun Bm Bo b nn D0 R w hBm hm hown => EngKeys.at_gives (ρ := Tryz.keysA280_ren) { Tryz.keysA280 with } Fence.wide _ trivial rfl (by omega) Bm Bo b nn D0 w hBm hm hown
  none := fun Bm Bo w hBm hm => EngKeys.nil_gives (ρ := Tryz.keysA280_ren) { Tryz.keysA280 with } Fence.wide _ trivial rfl Bm Bo w hBm hm }
theorem Tryz.sortFits336 : Go.Eng.SortFits Tryz.prog 61 402 3 3 := {
  enter := enters_of Tryz.func61 (by kernel_rfl) rfl
  key := Tryz.underlying3
  sorted := fun lb S N w hN hNb hseq => AnyZI.sorted_in Tryz.sortedA Fence.wide 5 trivial trivial trivial trivial rfl (by omega) (Tryz.sortsA _) (enters_of Tryz.func114 (by kernel_rfl) rfl) 402 lb trivial (enters_of Tryz.func402 (by kernel_rfl) rfl) S N hN hNb w hseq
  keys := fun Bm Bo b nn D0 R w hBm hm hown => EngKeys.at_gives (ρ := Tryz.keysA336_ren) { Tryz.keysA336 with } Fence.wide _ trivial rfl (by omega) Bm Bo b nn D0 w hBm hm hown
  none := fun Bm Bo w hBm hm => EngKeys.nil_gives (ρ := Tryz.keysA336_ren) { Tryz.keysA336 with } Fence.wide _ trivial rfl Bm Bo w hBm hm }
theorem Tryz.sortFits338 : Go.Eng.SortFits Tryz.prog 61 403 3 3 := {
  enter := enters_of Tryz.func61 (by kernel_rfl) rfl
  key := Tryz.underlying3
  sorted := fun lb S N w hN hNb hseq => AnyZI.sorted_in Tryz.sortedA Fence.wide 5 trivial trivial trivial trivial rfl (by omega) (Tryz.sortsA _) (enters_of Tryz.func114 (by kernel_rfl) rfl) 403 lb trivial (enters_of Tryz.func403 (by kernel_rfl) rfl) S N hN hNb w hseq
  keys := fun Bm Bo b nn D0 R w hBm hm hown => EngKeys.at_gives (ρ := Tryz.keysA338_ren) { Tryz.keysA338 with } Fence.wide _ trivial rfl (by omega) Bm Bo b nn D0 w hBm hm hown
  none := fun Bm Bo w hBm hm => EngKeys.nil_gives (ρ := Tryz.keysA338_ren) { Tryz.keysA338 with } Fence.wide _ trivial rfl Bm Bo w hBm hm }
theorem Tryz.sortFits392 : Go.Eng.SortFits Tryz.prog 61 442 3 3 := {
  enter := enters_of Tryz.func61 (by kernel_rfl) rfl
  key := Tryz.underlying3
  sorted := fun lb S N w hN hNb hseq => AnyZI.sorted_in Tryz.sortedA Fence.wide 5 trivial trivial trivial trivial rfl (by omega) (Tryz.sortsA _) (enters_of Tryz.func114 (by kernel_rfl) rfl) 442 lb trivial (enters_of Tryz.func442 (by kernel_rfl) rfl) S N hN hNb w hseq
  keys := fun Bm Bo b nn D0 R w hBm hm hown => EngKeys.at_gives (ρ := Tryz.keysA392_ren) { Tryz.keysA392 with } Fence.wide _ trivial rfl (by omega) Bm Bo b nn D0 w hBm hm hown
  none := fun Bm Bo w hBm hm => EngKeys.nil_gives (ρ := Tryz.keysA392_ren) { Tryz.keysA392 with } Fence.wide _ trivial rfl Bm Bo w hBm hm }
theorem Tryz.sortFits393 : Go.Eng.SortFits Tryz.prog 61 443 3 3 := {
  enter := enters_of Tryz.func61 (by kernel_rfl) rfl
  key := Tryz.underlying3
  sorted := fun lb S N w hN hNb hseq => AnyZI.sorted_in Tryz.sortedA Fence.wide 5 trivial trivial trivial trivial rfl (by omega) (Tryz.sortsA _) (enters_of Tryz.func114 (by kernel_rfl) rfl) 443 lb trivial (enters_of Tryz.func443 (by kernel_rfl) rfl) S N hN hNb w hseq
  keys := fun Bm Bo b nn D0 R w hBm hm hown => EngKeys.at_gives (ρ := Tryz.keysA393_ren) { Tryz.keysA393 with } Fence.wide _ trivial rfl (by omega) Bm Bo b nn D0 w hBm hm hown
  none := fun Bm Bo w hBm hm => EngKeys.nil_gives (ρ := Tryz.keysA393_ren) { Tryz.keysA393 with } Fence.wide _ trivial rfl Bm Bo w hBm hm }
theorem Tryz.sortFits445 : Go.Eng.SortFits Tryz.prog 61 473 3 3 := {
  enter := enters_of Tryz.func61 (by kernel_rfl) rfl
  key := Tryz.underlying3
  sorted := fun lb S N w hN hNb hseq => AnyZI.sorted_in Tryz.sortedA Fence.wide 5 trivial trivial trivial trivial rfl (by omega) (Tryz.sortsA _) (enters_of Tryz.func114 (by kernel_rfl) rfl) 473 lb trivial (enters_of Tryz.func473 (by kernel_rfl) rfl) S N hN hNb w hseq
  keys := fun Bm Bo b nn D0 R w hBm hm hown => EngKeys.at_gives (ρ := Tryz.keysA445_ren) { Tryz.keysA445 with } Fence.wide _ trivial rfl (by omega) Bm Bo b nn D0 w hBm hm hown
  none := fun Bm Bo w hBm hm => EngKeys.nil_gives (ρ := Tryz.keysA445_ren) { Tryz.keysA445 with } Fence.wide _ trivial rfl Bm Bo w hBm hm }
theorem Tryz.sortFits470 : Go.Eng.SortFits Tryz.prog 61 482 3 3 := {
  enter := enters_of Tryz.func61 (by kernel_rfl) rfl
  key := Tryz.underlying3
  sorted := fun lb S N w hN hNb hseq => AnyZI.sorted_in Tryz.sortedA Fence.wide 5 trivial trivial trivial trivial rfl (by omega) (Tryz.sortsA _) (enters_of Tryz.func114 (by kernel_rfl) rfl) 482 lb trivial (enters_of Tryz.func482 (by kernel_rfl) rfl) S N hN hNb w hseq
  keys := fun Bm Bo b nn D0 R w hBm hm hown => EngKeys.at_gives (ρ := Tryz.keysA470_ren) { Tryz.keysA470 with } Fence.wide _ trivial rfl (by omega) Bm Bo b nn D0 w hBm hm hown
  none := fun Bm Bo w hBm hm => EngKeys.nil_gives (ρ := Tryz.keysA470_ren) { Tryz.keysA470 with } Fence.wide _ trivial rfl Bm Bo w hBm hm }
theorem Tryz.copyFits : Go.Eng.CopyFits Tryz.prog 107 3 := {
  enter := enters_of Tryz.func107 (by kernel_rfl) rfl
  nil := fun pd w => AnyX.maps_Copy_nil Tryz.copyA pd w
  walk := ⟨112, 3, Tryz.underlying112, fun J bd bs entsD entsS cd cs w hd hs hne hbs h0 hstep => EngCopy.walk Tryz.copyA J bd bs entsD entsS cd cs w hd hs hne hbs h0 hstep⟩ }
end Go.Proofs
