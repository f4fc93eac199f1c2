import Derived.Test.YtnfejffknenkeaaGreatDoorLayPlain
import Derived.Test.YtnfejffknenkeaaGreatDoorEngE
/- Part of the proof of ShareKnown. -/
namespace Go.Proofs
open Go.RowKit Go.Maps Go.Sort Go.Shelf
theorem Tryz.sortsA (m : Nat) : AnyZI.SortsIn Tryz.prog Tryz.sortedA_ren Fence.wide m :=
  ⟨fun blk off cap ss W hH hblk hsz => callsIn_wide.2 (AnyM.slices_Sort_int Tryz.sortA blk off cap ss W hH hblk hsz),
   fun p cap W => callsIn_wide.2 (AnyM.slices_Sort_int_none Tryz.sortA p cap W)⟩
theorem Tryz.sortFits113 : Go.Eng.SortFits Tryz.prog 112 195 3 3 := {
  enter := enters_of Tryz.func112 (by kernel_rfl) rfl
  key := Tryz.underlying3
  sorted := fun lb S N w hN hNb hseq => AnyZI.sorted_in Tryz.sortedA Fence.wide 5 trivial trivial trivial trivial rfl (by omega) (Tryz.sortsA _) (enters_of Tryz.func136 (by kernel_rfl) rfl) 195 lb trivial (enters_of Tryz.func195 (by kernel_rfl) rfl) S N hN hNb w hseq
  keys := fun Bm Bo b nn D0 R w hBm hm hown => EngKeys.at_gives (ρ := Tryz.keysA113_ren) { Tryz.keysA113 with } Fence.wide _ trivial rfl (by omega) Bm Bo b nn D0 w hBm hm hown
  none := fun Bm Bo w hBm hm => EngKeys.nil_gives (ρ := Tryz.keysA113_ren) { Tryz.keysA113 with } Fence.wide _ trivial rfl Bm Bo w hBm hm }
theorem Tryz.sortFits158 : Go.Eng.SortFits Tryz.prog 112 218 3 3 := {
  enter := enters_of Tryz.func112 (by kernel_rfl) rfl
  key := Tryz.underlying3
  sorted := fun lb S N w hN hNb hseq => AnyZI.sorted_in Tryz.sortedA Fence.wide 5 trivial trivial trivial trivial rfl (by omega) (Tryz.sortsA _) (enters_of Tryz.func136 (by kernel_rfl) rfl) 218 lb trivial (enters_of Tryz.func218 (by kernel_rfl) rfl) S N hN hNb w hseq
  keys := fun Bm Bo b nn D0 R w hBm hm hown => EngKeys.at_gives (ρ := Tryz.keysA158_ren) { Tryz.keysA158 with } Fence.wide _ trivial rfl (by omega) Bm Bo b nn D0 w hBm hm hown
  none := fun Bm Bo w hBm hm => EngKeys.nil_gives (ρ := Tryz.keysA158_ren) { Tryz.keysA158 with } Fence.wide _ trivial rfl Bm Bo w hBm hm }
theorem Tryz.sortFits196 : Go.Eng.SortFits Tryz.prog 112 254 3 3 := {
  enter := enters_of Tryz.func112 (by kernel_rfl) rfl
  key := Tryz.underlying3
  sorted := fun lb S N w hN hNb hseq => AnyZI.sorted_in Tryz.sortedA Fence.wide 5 trivial trivial trivial trivial rfl (by omega) (Tryz.sortsA _) (enters_of Tryz.func136 (by kernel_rfl) rfl) 254 lb trivial (enters_of Tryz.func254 (by kernel_rfl) rfl) S N hN hNb w hseq
  keys := fun Bm Bo b nn D0 R w hBm hm hown => EngKeys.at_gives (ρ := Tryz.keysA196_ren) { Tryz.keysA196 with } Fence.wide _ trivial rfl (by omega) Bm Bo b nn D0 w hBm hm hown
  none := fun Bm Bo w hBm hm => EngKeys.nil_gives (ρ := Tryz.keysA196_ren) { Tryz.keysA196 with } Fence.wide _ trivial rfl Bm Bo w hBm hm }
theorem Tryz.sortFits249 : Go.Eng.SortFits Tryz.prog 112 310 3 3 := {
  enter := enters_of Tryz.func112 (by kernel_rfl) rfl
  key := Tryz.underlying3
  sorted := fun lb S N w hN hNb hseq => AnyZI.sorted_in Tryz.sortedA Fence.wide 5 trivial trivial trivial trivial rfl (by omega) (Tryz.sortsA _) (enters_of Tryz.func136 (by kernel_rfl) rfl) 310 lb trivial (enters_of Tryz.func310 (by kernel_rfl) rfl) S N hN hNb w hseq
  keys := fun Bm Bo b nn D0 R w hBm hm hown => EngKeys.at_gives (ρ := Tryz.keysA249_ren) { Tryz.keysA249 with } Fence.wide _ trivial rfl (by omega) Bm Bo b nn D0 w hBm hm hown
  none := fun Bm Bo w hBm hm => EngKeys.nil_gives (ρ := Tryz.keysA249_ren) { Tryz.keysA249 with } Fence.wide _ trivial rfl Bm Bo w hBm hm }
theorem Tryz.sortFits251 : Go.Eng.SortFits Tryz.prog 112 311 3 3 := {
  enter := enters_of Tryz.func112 (by kernel_rfl) rfl
  key := Tryz.underlying3
  sorted := fun lb S N w hN hNb hseq => AnyZI.sorted_in Tryz.sortedA Fence.wide 5 trivial trivial trivial trivial rfl (by omega) (Tryz.sortsA _) (enters_of Tryz.func136 (by kernel_rfl) rfl) 311 lb trivial (enters_of Tryz.func311 (by kernel_rfl) rfl) S N hN hNb w hseq
  keys := fun Bm Bo b nn D0 R w hBm hm hown => EngKeys.at_gives (ρ := Tryz.keysA251_ren) { Tryz.keysA251 with } Fence.wide _ trivial rfl (by omega) Bm Bo b nn D0 w hBm hm hown
  none := fun Bm Bo w hBm hm => EngKeys.nil_gives (ρ := Tryz.keysA251_ren) { Tryz.keysA251 with } Fence.wide _ trivial rfl Bm Bo w hBm hm }
theorem Tryz.sortFits300 : Go.Eng.SortFits Tryz.prog 112 341 3 3 := {
  enter := enters_of Tryz.func112 (by kernel_rfl) rfl
  key := Tryz.underlying3
  sorted := fun lb S N w hN hNb hseq => AnyZI.sorted_in Tryz.sortedA Fence.wide 5 trivial trivial trivial trivial rfl (by omega) (Tryz.sortsA _) (enters_of Tryz.func136 (by kernel_rfl) rfl) 341 lb trivial (enters_of Tryz.func341 (by kernel_rfl) rfl) S N hN hNb w hseq
  keys := fun Bm Bo b nn D0 R w hBm hm hown => EngKeys.at_gives (ρ := Tryz.keysA300_ren) { Tryz.keysA300 with } Fence.wide _ trivial rfl (by omega) Bm Bo b nn D0 w hBm hm hown
  none := fun Bm Bo w hBm hm => EngKeys.nil_gives (ρ := Tryz.keysA300_ren) { Tryz.keysA300 with } Fence.wide _ trivial rfl Bm Bo w hBm hm }
theorem Tryz.sortFits301 : Go.Eng.SortFits Tryz.prog 112 342 3 3 := {
  enter := enters_of Tryz.func112 (by kernel_rfl) rfl
  key := Tryz.underlying3
  sorted := fun lb S N w hN hNb hseq => AnyZI.sorted_in Tryz.sortedA Fence.wide 5 trivial trivial trivial trivial rfl (by omega) (Tryz.sortsA _) (enters_of Tryz.func136 (by kernel_rfl) rfl) 342 lb trivial (enters_of Tryz.func342 (by kernel_rfl) rfl) S N hN hNb w hseq
  keys := fun Bm Bo b nn D0 R w hBm hm hown => EngKeys.at_gives (ρ := Tryz.keysA301_ren) { Tryz.keysA301 with } Fence.wide _ trivial rfl (by omega) Bm Bo b nn D0 w hBm hm hown
  none := fun Bm Bo w hBm hm => EngKeys.nil_gives (ρ := Tryz.keysA301_ren) { Tryz.keysA301 with } Fence.wide _ trivial rfl Bm Bo w hBm hm }
theorem Tryz.sortFits344 : Go.Eng.SortFits Tryz.prog 112 363 3 3 := {
  enter := enters_of Tryz.func112 (by kernel_rfl) rfl
  key := Tryz.underlying3
  sorted := fun lb S N w hN hNb hseq => AnyZI.sorted_in Tryz.sortedA Fence.wide 5 trivial trivial trivial trivial rfl (by omega) (Tryz.sortsA _) (enters_of Tryz.func136 (by kernel_rfl) rfl) 363 lb trivial (enters_of Tryz.func363 (by kernel_rfl) rfl) S N hN hNb w hseq
  keys := fun Bm Bo b nn D0 R w hBm hm hown => EngKeys.at_gives (ρ := Tryz.keysA344_ren) { Tryz.keysA344 with } Fence.wide _ trivial rfl (by omega) Bm Bo b nn D0 w hBm hm hown
  none := fun Bm Bo w hBm hm => EngKeys.nil_gives (ρ := Tryz.keysA344_ren) { Tryz.keysA344 with } Fence.wide _ trivial rfl Bm Bo w hBm hm }
theorem Tryz.sortFits360 : Go.Eng.SortFits Tryz.prog 112 372 3 3 := {
  enter := enters_of Tryz.func112 (by kernel_rfl) rfl
  key := Tryz.underlying3
  sorted := fun lb S N w hN hNb hseq => AnyZI.sorted_in Tryz.sortedA Fence.wide 5 trivial trivial trivial trivial rfl (by omega) (Tryz.sortsA _) (enters_of Tryz.func136 (by kernel_rfl) rfl) 372 lb trivial (enters_of Tryz.func372 (by kernel_rfl) rfl) S N hN hNb w hseq
  keys := fun Bm Bo b nn D0 R w hBm hm hown => EngKeys.at_gives (ρ := Tryz.keysA360_ren) { Tryz.keysA360 with } Fence.wide _ trivial rfl (by omega) Bm Bo b nn D0 w hBm hm hown
  none := fun Bm Bo w hBm hm => EngKeys.nil_gives (ρ := Tryz.keysA360_ren) { Tryz.keysA360 with } Fence.wide _ trivial rfl Bm Bo w hBm hm }
theorem Tryz.copyFits : Go.Eng.CopyFits Tryz.prog 64 3 := {
  enter := enters_of Tryz.func64 (by kernel_rfl) rfl
  nil := fun pd w => AnyX.maps_Copy_nil Tryz.copyA pd w
  walk := ⟨111, 3, Tryz.underlying111, fun J bd bs entsD entsS cd cs w hd hs hne hbs h0 hstep => EngCopy.walk Tryz.copyA J bd bs entsD entsS cd cs w hd hs hne hbs h0 hstep⟩ }
end Go.Proofs
