import Derived.Test.YtadepknkjjmcnaaGreatDoorCards
import Derived.Test.YtadepknkjjmcnaaGreatDoorTies
import Derived.ProofKit
import Derived.Lay
import Derived.LaidOnce
import Derived.SevenTiedAt
import Derived.LaidMore
import Derived.LaidHandle
import Derived.OpenShut
import Derived.Stop.Joined
import Derived.Test.YtadepknkjjmcnaaGreatDoorEngE
import Derived.Test.YtadepknkjjmcnaaGreatDoorFac
/- The row of ArrowKnown, given that the call answers true. -/
namespace Go.Eng
theorem eL {P:Program} {w:World} {l:List (String×DataW Unit)} (hl:laidMetH P l w) (hm:("errors.errorType",DataW.iface "internal/reflectlite.rtype" (.agg [.ptr (.lit (.string [101,114,114,111,114]))]))∈l) {u t:TypeId} (hr:(P.cutTypes.find? (·.1=="internal/reflectlite.rtype")).map (·.2)=some u) (ht:(List.range P.types.size).filter (fun t=>P.rowNamed t [101,114,114,111,114])=[t]) (hv:Fq P=.iface u (.agg #[typeHandle P t])) {e:Nat} (hE:P.globalNamed "errors.errorType"=some e):KZ P w:=by
 intro g gl hg hb;have q:=xZ hE hg hb;subst q
 obtain⟨_,h⟩:=laidMetH_iff.1 hl
 obtain⟨n,u',y,e1,e2,e3,e4,e5⟩:=h _ (List.mem_filter.2 ⟨hm,by rfl⟩)
 have en:n=[101,114,114,111,114]:=(Option.some.inj (show some [101,114,114,111,114]=some n from e1)).symm
 subst en;obtain rfl:=Option.some.inj (hr.symm.trans e2)
 have h:y∈(List.range P.types.size).filter fun t=>P.rowNamed t [101,114,114,111,114]:=List.mem_filter.2 ⟨List.mem_range.2 e3,e4⟩
 rw[ht]at h;obtain rfl:=List.mem_singleton.1 h
 refine⟨GK hE e5,?_⟩;rw[World.var?_cell hE e5 0,hv];rfl
end Go.Eng
namespace Go.Proofs.YtadepknkjjmcnaaGreatDoor
open Go.ChangeShapes Go.WideShapes Go.ChangeAt Go.RowKit
theorem own : ownKnob Tryz.prog.godebug = none := by kernel_rfl
abbrev laid2 : List (String × DataW Unit) := Rows.arrowKnownRow.laid
noncomputable def laidp : List (String × DataW Unit) := laid2.filter fun x => x.2.handleName?.isNone
/-- a world in which the handle lies in its cell. -/
noncomputable def world1 (os : Os) : World :=
  let w0 := World.holding Tryz.prog os ⟨#[], #[], []⟩
  { w0 with heap := w0.heap.modify 1 fun
      | .cells _ t frozen => .cells #[Go.Eng.Fq Tryz.prog] t frozen
      | o => o }
theorem door_laid (os : Os) (args : Array Value) : laidMet Tryz.prog laidp (((world1 os).layVars Tryz.prog laidp).forCall (fun _ _ => 0) ⟨#[], args, []⟩).memory := by
  have e1 : (laidp.filter fun x => (laidp.map (·.1)).contains x.1) = laidp := List.filter_eq_self.2 fun x hx => List.contains_iff_mem.2 (List.mem_map.2 ⟨x, hx, rfl⟩)
  have e2 : (laidp.filter fun x => !(laidp.map (·.1)).contains x.1) = [] := List.filter_eq_nil_iff.2 fun x hx => by rw [List.contains_iff_mem.2 (List.mem_map.2 ⟨x, hx, rfl⟩)]; simp
  have h : laidMet Tryz.prog laidp ((world1 os).layVars Tryz.prog laidp) := laidMet_layVars (w0 := world1 os) (laidp.map (·.1)) [] (by rw [e1]) (by rw [e1]; kernel_rfl) (by rw [e1]; kernel_rfl) (by rw [e2]; exact LaidIn.none)
  exact h.of_heap (by simp [World.memory, World.forCall, Input.heap])
theorem door_met (os : Os) (args : Array Value) : laidMetH Tryz.prog laid2 (((world1 os).layVars Tryz.prog laidp).forCall (fun _ _ => 0) ⟨#[], args, []⟩).memory :=
  laidMetH_of_parts (door_laid os args) (by kernel_rfl)
set_option maxRecDepth 100000 in
theorem lifted (law : ∀ w : World, Go.Eng.GWorld Tryz.prog w → Calls Tryz.prog 3 #[] w fun e w' => e = .returned (.bool true) ∧ Below w.heap.size w w') (os : Os) (started : os.Started) (H : Type) (enc : TypeId × Value → H) :
    ReturnsInHanded {} Tryz.checked os 3 .any (fun w args => (Rows.arrowKnownSpec.pre enc Tryz.prog Tryz.f3 [] false w args ∧ laidMetH Tryz.prog laid2 w) ∧ sizedMet enc Tryz.prog Tryz.f3 (OpenSpec.ofChange Rows.arrowKnownSpec) false w args)
      (Rows.arrowKnownSpec.post enc Tryz.prog Tryz.f3 false true false false) := by
  refine returnsInHanded_of_change_and (C := Tryz.checked) (X := fun w _ => laidMetH Tryz.prog laid2 w) (fun _ _ _ hh h => h.of_heap hh) own started (by kernel_rfl) Tryz.func3
    (ChangeSpec.witness_shaped (enc := enc) (C := Tryz.checked) (os := os) (X := fun w _ => laidMetH Tryz.prog laid2 w) false ((world1 os).layVars Tryz.prog laidp) #[] 8 (World.layVars_os _ _ _)
      (World.shaped_of_ZipB (by kernel_rfl) (by kernel_rfl)) (by kernel_rfl) (by kernel_rfl) (by kernel_rfl) (door_met os _)) ?_
  intro W base args ds gs before hval0 hW _ _ hL _
  have hW' := hW
  obtain ⟨p, q, hA0, hV, rfl, _, _⟩ := hW
  have hA : DataW.TrodAll enc Tryz.prog W 0 (fun _ => true) true Tryz.f3.params.toList args.toList ds p := hA0
  rw [Tryz.params3] at hA
  obtain ⟨rfl, rfl, rfl⟩ := trodAll_none hA
  obtain ⟨rfl, rfl⟩ := trodVars_none hV
  simp only [List.append_nil] at hW'
  have hG : Go.Eng.GWorld Tryz.prog W := Go.Eng.gworld_of (t := 405) (e := 172) hL (List.mem_of_getElem? (i := 2) (by kernel_rfl)) (fun g h => by
    obtain rfl := Option.some.inj ((show Tryz.prog.globalNamed "internal/strconv.uint64pow10" = some 2 by kernel_rfl).symm.trans h)
    kernel_rfl) Tryz.underlying405 Tryz.underlying172 (by kernel_rfl) (Go.Eng.eL hL (List.mem_of_getElem? (i := 5) (by kernel_rfl)) (u := 466) (t := 128) (by kernel_rfl) (by kernel_rfl) (by kernel_rfl) (e := 1) (by kernel_rfl))
  refine (law W hG).mono fun e W' ⟨he, hb⟩ => ?_
  subst he
  exact ⟨_, rfl, _, _, _, [], [], [], hW', trodAll_mk1 (shut_bool Tryz.underlying4 _), trodAll_mk0, rfl, hb.frame _, fun h => by cases h⟩
theorem row_holds (law : ∀ w : World, Go.Eng.GWorld Tryz.prog w → Calls Tryz.prog 3 #[] w fun e w' => e = .returned (.bool true) ∧ Below w.heap.size w w') : Rows.ArrowKnownSaid :=
  OpenClaim.holds_of_wide 3 Tryz.f3 rfl rfl rfl rfl rfl rfl rfl ⟨rfl, rfl, rfl, rfl, rfl⟩ rfl rfl rfl rfl rfl (by kernel_rfl) Tryz.func3 rowClosed
    (of_decide_eq_true (by kernel_rfl)) (by unfold Func.isWrapper; first | (rw [if_pos (by decide +kernel)]; kernel_rfl) | (rw [if_neg (by decide +kernel)]; exact ⟨rfl, rfl⟩))
    (fun os started H enc _ => lifted law os started H enc)
end Go.Proofs.YtadepknkjjmcnaaGreatDoor
