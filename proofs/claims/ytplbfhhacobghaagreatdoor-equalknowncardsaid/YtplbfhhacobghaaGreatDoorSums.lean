import Derived.Test.YtplbfhhacobghaaGreatDoorLayPlain
import Derived.Test.YtplbfhhacobghaaGreatDoorEngE
/- Part of the proof of EqualKnown. -/
namespace Go.Proofs
open Go.RowKit Go.Maps Go.Sort Go.Shelf
theorem Tryz.sortsA (m : Nat) : AnyZI.SortsIn Tryz.prog Tryz.sortedA_ren Fence.wide m :=
  ⟨fun blk off cap ss W hH hblk hsz => callsIn_wide.2 (AnyM.slices_Sort_int Tryz.sortA blk off cap ss W hH hblk hsz),
   fun p cap W => callsIn_wide.2 (AnyM.slices_Sort_int_none Tryz.sortA p cap W)⟩
theorem Tryz.sortFits102 : Go.Eng.SortFits Tryz.prog 101 157 3 3 := {
  enter := enters_of Tryz.func101 (by kernel_rfl) rfl
  key := Tryz.underlying3
  sorted := fun lb S N w hN hNb hseq => AnyZI.sorted_in Tryz.sortedA Fence.wide 5 trivial trivial trivial trivial rfl (by omega) (Tryz.sortsA _) (enters_of Tryz.func57 (by kernel_rfl) rfl) 157 lb trivial (enters_of Tryz.func157 (by kernel_rfl) rfl) S N hN hNb w hseq
  keys := fun Bm Bo b nn D0 R w hBm hm hown => EngKeys.at_gives (ρ := Tryz.keysA102_ren) { Tryz.keysA102 with } Fence.wide _ trivial rfl (by omega) Bm Bo b nn D0 w hBm hm hown
  none := fun Bm Bo w hBm hm => EngKeys.nil_gives (ρ := Tryz.keysA102_ren) { Tryz.keysA102 with } Fence.wide _ trivial rfl Bm Bo w hBm hm }
theorem Tryz.sortFits236 : Go.Eng.SortFits Tryz.prog 101 271 3 3 := {
  enter := enters_of Tryz.func101 (by kernel_rfl) rfl
  key := Tryz.underlying3
  sorted := fun lb S N w hN hNb hseq => AnyZI.sorted_in Tryz.sortedA Fence.wide 5 trivial trivial trivial trivial rfl (by omega) (Tryz.sortsA _) (enters_of Tryz.func57 (by kernel_rfl) rfl) 271 lb trivial (enters_of Tryz.func271 (by kernel_rfl) rfl) S N hN hNb w hseq
  keys := fun Bm Bo b nn D0 R w hBm hm hown => EngKeys.at_gives (ρ := Tryz.keysA236_ren) { Tryz.keysA236 with } Fence.wide _ trivial rfl (by omega) Bm Bo b nn D0 w hBm hm hown
  none := fun Bm Bo w hBm hm => EngKeys.nil_gives (ρ := Tryz.keysA236_ren) { Tryz.keysA236 with } Fence.wide _ trivial rfl Bm Bo w hBm hm }
theorem Tryz.copyFits : Go.Eng.CopyFits Tryz.prog 65 3 := {
  enter := enters_of Tryz.func65 (by kernel_rfl) rfl
  nil := fun pd w => AnyX.maps_Copy_nil Tryz.copyA pd w
  walk := ⟨114, 3, Tryz.underlying114, fun J bd bs entsD entsS cd cs w hd hs hne hbs h0 hstep => EngCopy.walk Tryz.copyA J bd bs entsD entsS cd cs w hd hs hne hbs h0 hstep⟩ }
end Go.Proofs
