import Derived.Test.YtadepknkjjmcnaaGreatDoorOkA
import Derived.Test.YtadepknkjjmcnaaGreatDoorSums
import Derived.Test.YtadepknkjjmcnaaGreatDoorEngD
import Derived.Test.YtadepknkjjmcnaaGreatDoorEngE
import Derived.Test.YtadepknkjjmcnaaGreatDoorGuard
/- Part of the proof. -/
namespace Go.Proofs
open Go.Eng
set_option maxRecDepth 10000000
theorem TryzF.preOk : ∀ f o, T.get TryzF.pre f = some o → mkFn Tryz.prog Go.Eng.Tryz.X0 f = o := fun f o h => by
  cases e : TryzF.tr.1 with
  | none => unfold TryzF.pre at h; rw [e] at h; rw [T.get_e] at h; cases h
  | some t => unfold TryzF.pre at h; rw [e] at h; exact preT_ok (TryzF.tr.2.trans e) f o h
theorem TryzD.ok (hP : Plainly Tryz.prog) (hm : Tryz.prog.follows .mixedOrders = true) : FFOk Tryz.prog 28 TryzD.F := by
  unfold TryzD.F
  cases e : TryzD.G.1 with
  | none => exact fun ev hev args s v s' h => by cases h
  | some F => exact mkDefer_ok hP hm (TryzD.G.2.trans e)
theorem Tryz.ext205 : ExtFits Tryz.prog 205 .same := ⟨_, Tryz.func205, by kernel_rfl, by kernel_rfl, by kernel_rfl⟩
theorem Tryz.ext247 : ExtFits Tryz.prog 247 .cmp := ⟨_, Tryz.func247, by kernel_rfl, by kernel_rfl, by kernel_rfl⟩
theorem Tryz.ext275 : ExtFits Tryz.prog 275 (.makeNoZero 5) := ⟨Tryz.f275, Tryz.f275.params, 123, Tryz.func275, by kernel_rfl, by kernel_rfl, by kernel_rfl, Tryz.underlying123⟩
theorem Tryz.ext582 : ExtFits Tryz.prog 582 .indexByteString := ⟨_, Tryz.func582, by kernel_rfl, by kernel_rfl, by kernel_rfl⟩
theorem Tryz.ext570 : ExtFits Tryz.prog 570 (.overlaps 3) := ⟨_, 60, 4, Tryz.func570, by kernel_rfl, by kernel_rfl, by kernel_rfl, Tryz.underlying60, Tryz.underlying3, fun w => by kernel_rfl⟩
theorem Tryz.plainly : Plainly Tryz.prog := plainly_of (by kernel_rfl)
theorem Tryz.cfgOk {tab : List Entry} (h : ∀ e ∈ tab, EntryOk Tryz.prog e) : CfgOk Tryz.prog (Go.Eng.Tryz.mkX tab) :=
  cfg_ok Tryz.plainly (by kernel_rfl)
    (fun p hp => by
      have hp : p ∈ ([(205, Ext.same), (247, Ext.cmp), (275, Ext.makeNoZero 5), (582, Ext.indexByteString), (570, Ext.overlaps 3)] : List (Nat × Ext)) := hp
      simp only [List.mem_cons, List.not_mem_nil, or_false] at hp
      rcases hp with rfl | rfl | rfl | rfl | rfl
      · exact Tryz.ext205
      · exact Tryz.ext247
      · exact Tryz.ext275
      · exact Tryz.ext582
      · exact Tryz.ext570)
    (fun p hp => by
      have hp : p ∈ ([(75, .copy 3), (102, .alt (.sorted 168 3 3) (.alt (.sorted 173 3 3) (.alt (.sorted 252 3 3) (.alt (.sorted 506 3 3) (.alt (.sorted 507 3 3) (.alt (.sorted 540 3 3) (.alt (.sorted 541 3 3) (.alt (.sorted 568 3 3) (.sorted 583 3 3))))))))), (402, .guard 455 454 456 359)] : List (Nat × Sum)) := hp
      simp only [List.mem_cons, List.not_mem_nil, or_false] at hp
      rcases hp with rfl | rfl | rfl
      · exact copy_ok Tryz.copyFits
      · exact alt_ok (sorted_ok Tryz.sortFits103) (alt_ok (sorted_ok Tryz.sortFits110) (alt_ok (sorted_ok Tryz.sortFits180) (alt_ok (sorted_ok Tryz.sortFits458) (alt_ok (sorted_ok Tryz.sortFits460) (alt_ok (sorted_ok Tryz.sortFits496) (alt_ok (sorted_ok Tryz.sortFits497) (alt_ok (sorted_ok Tryz.sortFits543) (sorted_ok Tryz.sortFits565))))))))
      · exact guard_ok TryzG.fits)
    h
theorem Tryz.noEntry : ∀ e ∈ ([] : List Entry), EntryOk Tryz.prog e := fun e h => by cases h
theorem Tryz.ok0 : CfgOk Tryz.prog Go.Eng.Tryz.X0 := Tryz.cfgOk Tryz.noEntry
theorem Tryz.okL0 : ∀ p ∈ Tryz.L0, EvOk Tryz.prog p.2 := lstB_ok (evalQ_ok Tryz.ok0 Tryz.ok0 TryzF.preOk (fun p hp => by cases hp) 60) (fun p hp => by cases hp) _
theorem Tryz.okL1 : ∀ p ∈ Tryz.L1, EvOk Tryz.prog p.2 := lstB_ok (evalQ_ok Tryz.ok0 Tryz.ok0 TryzF.preOk Tryz.okL0 60) Tryz.okL0 _
theorem Tryz.okL2 : ∀ p ∈ Tryz.L2, EvOk Tryz.prog p.2 := lstB_ok (evalQ_ok Tryz.ok0 Tryz.ok0 TryzF.preOk Tryz.okL1 60) Tryz.okL1 _
abbrev Tryz.PreOk (pre : T (Option FF)) : Prop := ∀ f F, T.get pre f = some (some F) → FFOk Tryz.prog f F
theorem Tryz.eK {tab : List Entry} (h : ∀ e ∈ tab, EntryOk Tryz.prog e) {pre : T (Option FF)} (hp : Tryz.PreOk pre) : EvOk Tryz.prog (Tryz.eT tab pre) := evalQ_okF (Tryz.cfgOk h) hp Tryz.okL2 200
theorem Tryz.getF_ok {pre : T (Option FF)} (hp : Tryz.PreOk pre) (g : Nat) : FFOk Tryz.prog g (Tryz.getF pre g) := by
  unfold Tryz.getF
  split
  · rename_i F h; exact hp g F h
  · exact fun ev hev args s v s' h => by cases h
theorem Tryz.preW_ok {g : Nat} {B : Ev} (hB : EvOk Tryz.prog B) {pre : T (Option FF)} (hp : Tryz.PreOk pre) : Tryz.PreOk (Tryz.preW g B pre) := preWith_ok (isoWFF_ok hB (Tryz.getF_ok hp g)) hp
theorem Tryz.pre0_ok : Tryz.PreOk TryzF.pre := preF Tryz.ok0 TryzF.preOk
theorem Tryz.preD_ok : Tryz.PreOk Tryz.preD := preWith_ok (TryzD.ok Tryz.plainly (by kernel_rfl)) Tryz.pre0_ok
theorem Tryz.okW0 : EvOk Tryz.prog Tryz.W0 := Tryz.eK Tryz.noEntry Tryz.preD_ok
theorem Tryz.pre1_ok : Tryz.PreOk Tryz.pre1 := (Tryz.preW_ok Tryz.okW0 Tryz.preD_ok)
theorem Tryz.okW1 : EvOk Tryz.prog Tryz.W1 := Tryz.eK Tryz.noEntry Tryz.pre1_ok
theorem Tryz.pre2_ok : Tryz.PreOk Tryz.pre2 := (Tryz.preW_ok Tryz.okW1 (Tryz.preW_ok Tryz.okW1 Tryz.pre1_ok))
theorem Tryz.kB : Tryz.PreOk Tryz.pB := Tryz.pre2_ok
theorem Tryz.okBm : EvOk Tryz.prog Tryz.Bm := Tryz.eK Tryz.noEntry Tryz.kB
theorem Tryz.kM {l : List Foot} {pre : T (Option FF)} (hp : Tryz.PreOk pre) : Tryz.PreOk (Tryz.pM l pre) := preWith_ok (memFF_ok Tryz.okBm (Tryz.getF_ok hp 522) l) hp
theorem Tryz.pL96_507 {es : List LEntry} (hes : ∀ e ∈ es, LAt Tryz.prog Go.Eng.Tryz.X0 96 507 e) {pre : T (Option FF)} (hp : Tryz.PreOk pre) : Tryz.PreOk (Tryz.pL 96 507 es pre) := preWith_ok (fnL_okX Tryz.ok0 (by kernel_rfl) (by kernel_rfl) hes) hp
theorem Tryz.pL161_5 {es : List LEntry} (hes : ∀ e ∈ es, LAt Tryz.prog Go.Eng.Tryz.X0 161 5 e) {pre : T (Option FF)} (hp : Tryz.PreOk pre) : Tryz.PreOk (Tryz.pL 161 5 es pre) := preWith_ok (fnL_okX Tryz.ok0 (by kernel_rfl) (by kernel_rfl) hes) hp
theorem Tryz.pL163_249 {es : List LEntry} (hes : ∀ e ∈ es, LAt Tryz.prog Go.Eng.Tryz.X0 163 249 e) {pre : T (Option FF)} (hp : Tryz.PreOk pre) : Tryz.PreOk (Tryz.pL 163 249 es pre) := preWith_ok (fnL_okX Tryz.ok0 (by kernel_rfl) (by kernel_rfl) hes) hp
theorem Tryz.pL332_25 {es : List LEntry} (hes : ∀ e ∈ es, LAt Tryz.prog Go.Eng.Tryz.X0 332 25 e) {pre : T (Option FF)} (hp : Tryz.PreOk pre) : Tryz.PreOk (Tryz.pL 332 25 es pre) := preWith_ok (fnL_okX Tryz.ok0 (by kernel_rfl) (by kernel_rfl) hes) hp
theorem Tryz.lat {f p : Nat} {es : List LEntry} (hes : ∀ e ∈ es, LAt Tryz.prog Go.Eng.Tryz.X0 f p e) {ev : Ev} (hev : EvOk Tryz.prog ev) {e : LEntry} (h : lOutIs e (fLoopT es (loopF Tryz.prog Go.Eng.Tryz.X0 f p) ev e.tm ⟨ofL e.hin, e.nx, 0⟩) = true) : LAt Tryz.prog Go.Eng.Tryz.X0 f p e := lat_ok Tryz.ok0 hes hev h
theorem Tryz.ec {e : Entry} {ev : Ev} (hev : EvOk Tryz.prog ev) (h : Tryz.rc e ev = true) : EntryOk Tryz.prog e := entryI_ok hev h
theorem Tryz.el {f p : Nat} {es : List LEntry} {e : LEntry} {ev : Ev} (hes : ∀ e ∈ es, LAt Tryz.prog Go.Eng.Tryz.X0 f p e) (hev : EvOk Tryz.prog ev) (h : Tryz.rl f p es e ev = true) : LAt Tryz.prog Go.Eng.Tryz.X0 f p e := Tryz.lat hes hev h
theorem Tryz.nM {α : Type} {Q : α → Prop} : ∀ e ∈ ([] : List α), Q e := fun e h => by cases h
theorem Tryz.cM {α : Type} {Q : α → Prop} {a : α} {l : List α} (h : Q a) (hl : ∀ e ∈ l, Q e) : ∀ e ∈ a :: l, Q e := fun e he => by
  rcases List.mem_cons.1 he with rfl | he
  · exact h
  · exact hl e he
end Go.Proofs
