import Derived.Test.YtaadbnppakcjnaaGreatDoorPre
import Derived.Test.YtaadbnppakcjnaaGreatDoorSums
import Derived.Test.YtaadbnppakcjnaaGreatDoorEngC
import Derived.Test.YtaadbnppakcjnaaGreatDoorEngD
import Derived.Test.YtaadbnppakcjnaaGreatDoorGuard
/- Part of the proof of SolveKnown. -/
namespace Go.Proofs
open Go.Eng
set_option maxRecDepth 100000
theorem Tryz.ext302 : ExtFits Tryz.prog 302 .same := ⟨_, Tryz.func302, by kernel_rfl, by kernel_rfl, by kernel_rfl⟩
theorem Tryz.ext350 : ExtFits Tryz.prog 350 .cmp := ⟨_, Tryz.func350, by kernel_rfl, by kernel_rfl, by kernel_rfl⟩
theorem Tryz.ext411 : ExtFits Tryz.prog 411 (.makeNoZero 5) := ⟨Tryz.f411, Tryz.f411.params, 159, Tryz.func411, by kernel_rfl, by kernel_rfl, by kernel_rfl, Tryz.underlying159⟩
theorem Tryz.ext490 : ExtFits Tryz.prog 490 .indexByteString := ⟨_, Tryz.func490, by kernel_rfl, by kernel_rfl, by kernel_rfl⟩
theorem Tryz.ext475 : ExtFits Tryz.prog 475 (.overlaps 3) := ⟨_, 30, 4, Tryz.func475, by kernel_rfl, by kernel_rfl, by kernel_rfl, Tryz.underlying30, Tryz.underlying3, fun w => by kernel_rfl⟩
theorem Tryz.plainly : Plainly Tryz.prog := plainly_of (by kernel_rfl)
theorem Tryz.cfgOk {tab : List Entry} (h : ∀ e ∈ tab, EntryOk Tryz.prog e) : CfgOk Tryz.prog (Go.Eng.Tryz.mkX tab) :=
  cfg_ok Tryz.plainly (by kernel_rfl)
    (fun p hp => by
      have hp : p ∈ ([(302, Ext.same), (350, Ext.cmp), (411, Ext.makeNoZero 5), (490, Ext.indexByteString), (475, Ext.overlaps 3)] : List (Nat × Ext)) := hp
      simp only [List.mem_cons, List.not_mem_nil, or_false] at hp
      rcases hp with rfl | rfl | rfl | rfl | rfl
      · exact Tryz.ext302
      · exact Tryz.ext350
      · exact Tryz.ext411
      · exact Tryz.ext490
      · exact Tryz.ext475)
    (fun p hp => by
      have hp : p ∈ ([(61, .alt (.sorted 129 3 3) (.alt (.sorted 233 3 3) (.alt (.sorted 354 3 3) (.alt (.sorted 402 3 3) (.alt (.sorted 403 3 3) (.alt (.sorted 442 3 3) (.alt (.sorted 443 3 3) (.alt (.sorted 473 3 3) (.sorted 482 3 3))))))))), (107, .copy 3), (260, .guard 333 332 334 213)] : List (Nat × Sum)) := hp
      simp only [List.mem_cons, List.not_mem_nil, or_false] at hp
      rcases hp with rfl | rfl | rfl
      · exact alt_ok (sorted_ok Tryz.sortFits62) (alt_ok (sorted_ok Tryz.sortFits133) (alt_ok (sorted_ok Tryz.sortFits280) (alt_ok (sorted_ok Tryz.sortFits336) (alt_ok (sorted_ok Tryz.sortFits338) (alt_ok (sorted_ok Tryz.sortFits392) (alt_ok (sorted_ok Tryz.sortFits393) (alt_ok (sorted_ok Tryz.sortFits445) (sorted_ok Tryz.sortFits470))))))))
      · exact copy_ok Tryz.copyFits
      · exact guard_ok TryzG.fits)
    h
theorem Tryz.noEntry : ∀ e ∈ ([] : List Entry), EntryOk Tryz.prog e := fun e h => by cases h
noncomputable def Tryz.B0 : Ev := evalQ Tryz.prog Go.Eng.Tryz.X0 TryzF.pre [] 60
noncomputable def Tryz.L0 : List (Nat × Ev) := lstB Go.Eng.Tryz.fl0 Tryz.B0 []
noncomputable def Tryz.B1 : Ev := evalQ Tryz.prog Go.Eng.Tryz.X0 TryzF.pre Tryz.L0 60
noncomputable def Tryz.L1 : List (Nat × Ev) := lstB Go.Eng.Tryz.fl1 Tryz.B1 Tryz.L0
noncomputable def Tryz.B2 : Ev := evalQ Tryz.prog Go.Eng.Tryz.X0 TryzF.pre Tryz.L1 60
noncomputable def Tryz.L2 : List (Nat × Ev) := lstB Go.Eng.Tryz.fl2 Tryz.B2 Tryz.L1
noncomputable def Tryz.ev (tab : List Entry) : Ev := evalQ Tryz.prog (Go.Eng.Tryz.mkX tab) TryzF.pre Tryz.L2 200
theorem Tryz.ok0 : CfgOk Tryz.prog Go.Eng.Tryz.X0 := Tryz.cfgOk Tryz.noEntry
theorem Tryz.okL0 : ∀ p ∈ Tryz.L0, EvOk Tryz.prog p.2 := lstB_ok (evalQ_ok Tryz.ok0 Tryz.ok0 TryzF.preOk (fun p hp => by cases hp) 60) (fun p hp => by cases hp) _
theorem Tryz.okL1 : ∀ p ∈ Tryz.L1, EvOk Tryz.prog p.2 := lstB_ok (evalQ_ok Tryz.ok0 Tryz.ok0 TryzF.preOk Tryz.okL0 60) Tryz.okL0 _
theorem Tryz.okL2 : ∀ p ∈ Tryz.L2, EvOk Tryz.prog p.2 := lstB_ok (evalQ_ok Tryz.ok0 Tryz.ok0 TryzF.preOk Tryz.okL1 60) Tryz.okL1 _
abbrev Tryz.PreOk (pre : T (Option FF)) : Prop := ∀ f F, T.get pre f = some (some F) → FFOk Tryz.prog f F
noncomputable def Tryz.evT (tab : List Entry) (pre : T (Option FF)) : Ev := evalQ Tryz.prog (Go.Eng.Tryz.mkX tab) pre Tryz.L2 200
theorem Tryz.evT_ok {tab : List Entry} (h : ∀ e ∈ tab, EntryOk Tryz.prog e) {pre : T (Option FF)} (hp : Tryz.PreOk pre) : EvOk Tryz.prog (Tryz.evT tab pre) := evalQ_okF (Tryz.cfgOk h) hp Tryz.okL2 200
noncomputable def Tryz.getF (pre : T (Option FF)) (g : Nat) : FF := match T.get pre g with | some (some F) => F | _ => fun _ _ _ => .no
theorem Tryz.getF_ok {pre : T (Option FF)} (hp : Tryz.PreOk pre) (g : Nat) : FFOk Tryz.prog g (Tryz.getF pre g) := by
  unfold Tryz.getF
  split
  · rename_i F h; exact hp g F h
  · exact fun ev hev args s v s' h => by cases h
noncomputable def Tryz.preW (g : Nat) (B : Ev) (pre : T (Option FF)) : T (Option FF) := preWith g (isoWFF B g (Tryz.getF pre g)) pre
theorem Tryz.preW_ok {g : Nat} {B : Ev} (hB : EvOk Tryz.prog B) {pre : T (Option FF)} (hp : Tryz.PreOk pre) : Tryz.PreOk (Tryz.preW g B pre) := preWith_ok (isoWFF_ok hB (Tryz.getF_ok hp g)) hp
theorem Tryz.pre0_ok : Tryz.PreOk TryzF.pre := preF Tryz.ok0 TryzF.preOk
noncomputable def Tryz.W0 : Ev := Tryz.evT [] TryzF.pre
theorem Tryz.okW0 : EvOk Tryz.prog Tryz.W0 := Tryz.evT_ok Tryz.noEntry Tryz.pre0_ok
noncomputable def Tryz.pre1 : T (Option FF) := (Tryz.preW 471 Tryz.W0 TryzF.pre)
theorem Tryz.pre1_ok : Tryz.PreOk Tryz.pre1 := (Tryz.preW_ok Tryz.okW0 Tryz.pre0_ok)
noncomputable def Tryz.W1 : Ev := Tryz.evT [] Tryz.pre1
theorem Tryz.okW1 : EvOk Tryz.prog Tryz.W1 := Tryz.evT_ok Tryz.noEntry Tryz.pre1_ok
noncomputable def Tryz.pre2 : T (Option FF) := (Tryz.preW 440 Tryz.W1 (Tryz.preW 441 Tryz.W1 Tryz.pre1))
theorem Tryz.pre2_ok : Tryz.PreOk Tryz.pre2 := (Tryz.preW_ok Tryz.okW1 (Tryz.preW_ok Tryz.okW1 Tryz.pre1_ok))
noncomputable def Tryz.preB : T (Option FF) := Tryz.pre2
theorem Tryz.preB_ok : Tryz.PreOk Tryz.preB := Tryz.pre2_ok
noncomputable def Tryz.preL (f p : Nat) (es : List LEntry) (pre : T (Option FF)) : T (Option FF) := preWith f (fnL Tryz.prog Go.Eng.Tryz.X0 f p es) pre
theorem Tryz.preL5_507 {es : List LEntry} (hes : ∀ e ∈ es, LAt Tryz.prog Go.Eng.Tryz.X0 5 507 e) {pre : T (Option FF)} (hp : Tryz.PreOk pre) : Tryz.PreOk (Tryz.preL 5 507 es pre) := preWith_ok (fnL_okX Tryz.ok0 (by kernel_rfl) (by kernel_rfl) hes) hp
theorem Tryz.preL20_5 {es : List LEntry} (hes : ∀ e ∈ es, LAt Tryz.prog Go.Eng.Tryz.X0 20 5 e) {pre : T (Option FF)} (hp : Tryz.PreOk pre) : Tryz.PreOk (Tryz.preL 20 5 es pre) := preWith_ok (fnL_okX Tryz.ok0 (by kernel_rfl) (by kernel_rfl) hes) hp
theorem Tryz.preL22_249 {es : List LEntry} (hes : ∀ e ∈ es, LAt Tryz.prog Go.Eng.Tryz.X0 22 249 e) {pre : T (Option FF)} (hp : Tryz.PreOk pre) : Tryz.PreOk (Tryz.preL 22 249 es pre) := preWith_ok (fnL_okX Tryz.ok0 (by kernel_rfl) (by kernel_rfl) hes) hp
theorem Tryz.lat {f p : Nat} {es : List LEntry} (hes : ∀ e ∈ es, LAt Tryz.prog Go.Eng.Tryz.X0 f p e) {ev : Ev} (hev : EvOk Tryz.prog ev) {e : LEntry} (h : lOutIs e (fLoopT es (loopF Tryz.prog Go.Eng.Tryz.X0 f p) ev e.tm ⟨roomH e.hin, e.nx, 0⟩) = true) : LAt Tryz.prog Go.Eng.Tryz.X0 f p e := lat_ok Tryz.ok0 hes hev h
theorem Tryz.memN {α : Type} {Q : α → Prop} : ∀ e ∈ ([] : List α), Q e := fun e h => by cases h
theorem Tryz.memC {α : Type} {Q : α → Prop} {a : α} {l : List α} (h : Q a) (hl : ∀ e ∈ l, Q e) : ∀ e ∈ a :: l, Q e := fun e he => by
  rcases List.mem_cons.1 he with rfl | he
  · exact h
  · exact hl e he
end Go.Proofs
