import Derived.Test.YtnfejffknenkeaaGreatDoorProg
import Derived.WalkKit
import Derived.Tactics
import Derived.Tactics2
import Derived.Defers
import Derived.Recover
import Derived.Laws.Pointers
import Derived.Test.YtnfejffknenkeaaGreatDoorEngE
/- Part of the proof of ShareKnown. -/
namespace Go.Proofs.TryzG
open Go.RowKit
theorem idle (p : Addr) (w : World) :
    CallsD Tryz.prog 244 #[.pointer (some p)] .returning w fun e u' w' => e = .returned (.tuple #[]) ∧ u' = .returning ∧ w' = w := by
  refine callsD_of_wpS Tryz.func244 rfl fun c₀ cs hu => ?_
  apply wpS_seq
  apply wpS_region
  simp [wpOpsS, go_sem, recoverD, hu, Tryz.ntmps244, Exit.thenS]
  apply wpS_seq
  apply wpS_region
  simp [wpOpsS, go_sem, Exit.thenS]
  refine wpS_cond (t := false) (by simp [Act.eval, Array.replicate]) ?_
  simp only [Bool.false_eq_true, if_false]
  refine wpS_of_wp (wp_skip ?_)
  cases c₀
  simp_all [bodyPostS, results, Tryz.results244]
theorem run (l x : Value) (w : World) (R : Value → World → Prop)
    (h : Calls Tryz.prog 246 #[l, .func (.func 247) #[] #[], x] (w.alloc (.cells #[.pointer none] 81)) (fun e w1 => ∃ u8, e = .returned u8 ∧ Calls Tryz.prog 245 #[u8] w1 (fun e2 w2 => ∃ p old, e2 = .returned (.pointer p) ∧ w2.cell? ⟨w.heap.size, 0, none⟩ = some old ∧ w2.frozen? ⟨w.heap.size, 0, none⟩ = false ∧ R (.pointer p) (w2.setCell ⟨w.heap.size, 0, none⟩ (.pointer p))))) :
    Calls Tryz.prog 186 #[l, x] w fun e w' => ∃ u, e = .returned u ∧ R u w' := by
  have hmf : ∀ (fn : Fn) (first cap : Array Value) (w : World), (Instr.makeFunc fn first cap).run Tryz.prog w = .ok (.func fn first cap) w := fun _ _ _ _ => rfl
  go_enter_defers Tryz.func186, Tryz.ntmps186
  go_wp2_with (first
    | (go_at_call 246; refine h.mono ?_; rintro e w1 ⟨u8, rfl, h2⟩)
    | (go_at_call 245; refine h2.mono ?_; rintro e w2 ⟨p, old, rfl, hc, hz, hR⟩))
  refine leaves_cons (f := 244) (args := #[.pointer (some ⟨w.heap.size, 0, none⟩)]) (by simp) (by simp [go_sem]) ?_
  refine (idle ⟨w.heap.size, 0, none⟩ _).mono ?_
  rintro e u' w'' ⟨rfl, rfl, rfl⟩
  have hcell : (w2.setCell ⟨w.heap.size, 0, none⟩ (.pointer p)).cell? ⟨w.heap.size, 0, none⟩ = some (.pointer p) := World.cell?_setCell_same _ _ _ hc
  simp [Leaves, settle, results, Tryz.results186, go_sem, hcell]
  exact hR
theorem fits : Go.Eng.GuardFits Tryz.prog 186 246 245 247 81 :=
  ⟨enters_of Tryz.func186 (by kernel_rfl) rfl, enters_of Tryz.func246 (by kernel_rfl) rfl, enters_of Tryz.func245 (by kernel_rfl) rfl, run⟩
end Go.Proofs.TryzG
