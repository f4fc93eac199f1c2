import Derived.Test.YtgdddkffkmcmcaaGreatDoorLayPlain
import Derived.Test.YtgdddkffkmcmcaaGreatDoorZAc
/- Part of the proof that TagsOne answers true. -/
set_option linter.all false
namespace Go.Proofs
open Go.RowKit Go.Maps Go.Sort Go.Shelf
theorem yK (m:Nat):AnyZI.SortsIn Tryz.prog vg Fence.wide m:=
  ⟨fun jI off cap ss W hH Gc eR=>callsIn_wide.2 (AnyM.slices_Sort_int Ik jI off cap ss W hH Gc eR),
   fun p cap W=>callsIn_wide.2 (AnyM.slices_Sort_int_none Ik p cap W)⟩
theorem El:Go.Eng.Cg Tryz.prog 130 187 3 3:={
 enter:=enters_of Tryz.func130 (by kernel_rfl) rfl
 key:=Tryz.underlying3
 sorted:=fun lb S N w hN hNb Rm=>AnyZI.sorted_in wN Fence.wide 5 trivial trivial trivial trivial rfl (by omega) (yK _) (enters_of Tryz.func183 (by kernel_rfl) rfl) 187 lb trivial (enters_of Tryz.func187 (by kernel_rfl) rfl) S N hN hNb w Rm
 keys:=fun Bm Bo b nn D0 R w QX hm lN=>EngKeys.G0 (ρ:=oq) {Aq with} Fence.wide _ trivial rfl (by omega) Bm Bo b nn D0 w QX hm lN
 none:=fun Bm Bo w QX hm=>EngKeys.DC (ρ:=oq) {Aq with} Fence.wide _ trivial rfl Bm Bo w QX hm}
theorem Em:Go.Eng.Cg Tryz.prog 130 189 3 3:={
 enter:=enters_of Tryz.func130 (by kernel_rfl) rfl
 key:=Tryz.underlying3
 sorted:=fun lb S N w hN hNb Rm=>AnyZI.sorted_in wN Fence.wide 5 trivial trivial trivial trivial rfl (by omega) (yK _) (enters_of Tryz.func183 (by kernel_rfl) rfl) 189 lb trivial (enters_of Tryz.func189 (by kernel_rfl) rfl) S N hN hNb w Rm
 keys:=fun Bm Bo b nn D0 R w QX hm lN=>EngKeys.G0 (ρ:=ot) {Ar with} Fence.wide _ trivial rfl (by omega) Bm Bo b nn D0 w QX hm lN
 none:=fun Bm Bo w QX hm=>EngKeys.DC (ρ:=ot) {Ar with} Fence.wide _ trivial rfl Bm Bo w QX hm}
theorem En:Go.Eng.Cg Tryz.prog 130 195 3 3:={
 enter:=enters_of Tryz.func130 (by kernel_rfl) rfl
 key:=Tryz.underlying3
 sorted:=fun lb S N w hN hNb Rm=>AnyZI.sorted_in wN Fence.wide 5 trivial trivial trivial trivial rfl (by omega) (yK _) (enters_of Tryz.func183 (by kernel_rfl) rfl) 195 lb trivial (enters_of Tryz.func195 (by kernel_rfl) rfl) S N hN hNb w Rm
 keys:=fun Bm Bo b nn D0 R w QX hm lN=>EngKeys.G0 (ρ:=ou) {As with} Fence.wide _ trivial rfl (by omega) Bm Bo b nn D0 w QX hm lN
 none:=fun Bm Bo w QX hm=>EngKeys.DC (ρ:=ou) {As with} Fence.wide _ trivial rfl Bm Bo w QX hm}
theorem JH:Go.Eng.OX Tryz.prog 83 3:={
 enter:=enters_of Tryz.func83 (by kernel_rfl) rfl
 nil:=fun pd w=>AnyX.maps_Copy_nil Il pd w
 walk:=⟨73,3,Tryz.underlying73,fun J bd bs wQ jl cd cs w hd hs ed RJ h0 Ux=>EngCopy.walk Il J bd bs wQ jl cd cs w hd hs ed RJ h0 Ux⟩}
end Go.Proofs
