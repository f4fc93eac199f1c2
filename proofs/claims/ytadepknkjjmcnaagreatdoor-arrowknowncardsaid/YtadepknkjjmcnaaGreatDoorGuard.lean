import Derived.Test.YtadepknkjjmcnaaGreatDoorProg
import Derived.WalkKit
import Derived.Tactics
import Derived.Tactics2
import Derived.Defers
import Derived.Recover
import Derived.Laws.Pointers
import Derived.Test.YtadepknkjjmcnaaGreatDoorEngE
/- Part of the proof. -/
namespace Go.Proofs.TryzG
open Go.RowKit
theorem idle (p : Addr) (w : World) :
    CallsD Tryz.prog 453 #[.pointer (some p)] .returning w fun e u' w' => e = .returned (.tuple #[]) ∧ u' = .returning ∧ w' = w := by
  refine callsD_of_wpS Tryz.func453 rfl fun c₀ cs hu => ?_
  apply wpS_seq
  apply wpS_region
  simp [wpOpsS, go_sem, recoverD, hu, Tryz.ntmps453, Exit.thenS]
  apply wpS_seq
  apply wpS_region
  simp [wpOpsS, go_sem, Exit.thenS]
  refine wpS_cond (t := false) (by simp [Act.eval, Array.replicate]) ?_
  simp only [Bool.false_eq_true, if_false]
  refine wpS_of_wp (wp_skip ?_)
  cases c₀
  simp_all [bodyPostS, results, Tryz.results453]
theorem run (l x : Value) (w : World) (R : Value → World → Prop)
    (h : Calls Tryz.prog 455 #[l, .func (.func 456) #[] #[], x] (w.alloc (.cells #[.pointer none] 359)) (fun e w1 => ∃ u8, e = .returned u8 ∧ Calls Tryz.prog 454 #[u8] w1 (fun e2 w2 => ∃ p old, e2 = .returned (.pointer p) ∧ w2.cell? ⟨w.heap.size, 0, none⟩ = some old ∧ w2.frozen? ⟨w.heap.size, 0, none⟩ = false ∧ R (.pointer p) (w2.setCell ⟨w.heap.size, 0, none⟩ (.pointer p))))) :
    Calls Tryz.prog 402 #[l, x] w fun e w' => ∃ u, e = .returned u ∧ R u w' := by
  have hmf : ∀ (fn : Fn) (first cap : Array Value) (w : World), (Instr.makeFunc fn first cap).run Tryz.prog w = .ok (.func fn first cap) w := fun _ _ _ _ => rfl
  go_enter_defers Tryz.func402, Tryz.ntmps402
  go_wp2_with (first
    | (go_at_call 455; refine h.mono ?_; rintro e w1 ⟨u8, rfl, h2⟩)
    | (go_at_call 454; refine h2.mono ?_; rintro e w2 ⟨p, old, rfl, hc, hz, hR⟩))
  refine leaves_cons (f := 453) (args := #[.pointer (some ⟨w.heap.size, 0, none⟩)]) (by simp) (by simp [go_sem]) ?_
  refine (idle ⟨w.heap.size, 0, none⟩ _).mono ?_
  rintro e u' w'' ⟨rfl, rfl, rfl⟩
  have hcell : (w2.setCell ⟨w.heap.size, 0, none⟩ (.pointer p)).cell? ⟨w.heap.size, 0, none⟩ = some (.pointer p) := World.cell?_setCell_same _ _ _ hc
  simp [Leaves, settle, results, Tryz.results402, go_sem, hcell]
  exact hR
theorem fits : Go.Eng.GuardFits Tryz.prog 402 455 454 456 359 :=
  ⟨enters_of Tryz.func402 (by kernel_rfl) rfl, enters_of Tryz.func455 (by kernel_rfl) rfl, enters_of Tryz.func454 (by kernel_rfl) rfl, run⟩
end Go.Proofs.TryzG
