import Derived.Test.YtnfejffknenkeaaGreatDoorEngD
import Derived.Shelf.SlIterI.Nil
import Derived.Shelf.SlLaysX
import Derived.WalkKit
import Derived.Laws.IdiomRangeMap
import Derived.FnData
import Derived.OpenShut
import Derived.ChangeArms
import Derived.MakeChecks
import Derived.LaidSub
set_option linter.unusedVariables false
set_option linter.unusedSimpArgs false
/- An evaluator of the code of the model, proved: what it answers, the program does, whatever the world. Part of the proof of ShareKnown. -/
/-! maps.Keys's iterator, whatever cell it looks through (the kit's proof, at any place of the block). -/
namespace Go.Proofs
open Go.RowKit Go.Maps Go.Sort Go.Shelf
variable {P : Program} {ρ : Ren}

set_option maxRecDepth 100000 in
set_option maxHeartbeats 1000000 in
theorem EngKeys.at_in (L : SlLaysZI.n10 P ρ) {H : Type} (F : Fence) (n : Nat) (h10 : F.fn (ρ.f 10)) (hro : F.round = none) (hn : 1 ≤ n) (l Bm Bo b nn : Nat) (D0 : DataW H) {R : Value → Option (DataW H × List MemPlace)} (J : List Int → World → Prop)
    (hY : ∀ pre x W, J pre W → pre.length < Maps.size D0 → YieldAt F (n - 1) P l #[encZ x] W fun e W' => e = .returned (.bool true) ∧ J (pre ++ [x]) W' ∧ KeepsWalks W W')
    (W : World) (hJ : AbidesFrom W.heap.size J) (hm : W.cell? ⟨Bm, Bo, none⟩ = some (.map (some b))) (hown : W.ownsMap P (ρ.t 26) R b nn D0) (h0 : J [] W) :
    CallsIn F n P (ρ.f 10) #[.func (.yield l) #[] #[], .pointer (some ⟨Bm, Bo, none⟩)] W fun e W' => (∃ v, e = .returned v) ∧ ∃ ss : List Int, ss.Perm (intKeys D0) ∧ J ss W' := by
  have mixed := L.mixed; have t0 := L.t0; have a0 := L.a0; have z0 := L.z0; have v0 := L.v0; have t4 := L.t4; have a4 := L.a4; have z4 := L.z4; have v4 := L.v4; have t23 := L.t23; have a23 := L.a23; have z23 := L.z23; have v23 := L.v23; have t26 := L.t26; have a26 := L.a26; have z26 := L.z26; have v26 := L.v26; have t33 := L.t33; have a33 := L.a33; have z33 := L.z33; have v33 := L.v33
  have u0 := run_underlying L.t0; have u4 := run_underlying L.t4; have u23 := run_underlying L.t23; have u26 := run_underlying L.t26; have u33 := run_underlying L.t33
  obtain ⟨_, _, FG⟩ := L.f10
  refine callsIn_of_wp FG rfl h10 ?_ hro
  simp only [SlBodyZ.n10_ntmps ρ, List.size_toArray, List.length_cons, List.length_nil, Nat.reduceAdd, Nat.reduceSub, Array.replicate_succ, Array.replicate_zero, List.push_toArray, List.append_toArray, List.nil_append, List.cons_append]
  gi_wp2_with (first
    | (gi_at_range; refine wpListIn_range_own _ rfl _ (ρ.t 23) rfl (ρ.t 26) (ρ.t 3) (int_keyed L.t26) L.t23 _ b nn _ rfl hown ?_; intro w0 hrg0 hg0 hs0)
    | gi_in)
  go_frame
  gi_loopw [3] (fun _ wr => ∃ (left : Lit → Bool) (cnt : Nat) (ss : List Int), wr.ranges P (ρ.t 26) R b W.heap.size nn D0 left cnt ∧ ss.length + cnt ≤ Maps.size D0 ∧ CollectedI D0 left ss ∧ J ss wr)
    (fun _ wr => wr.rangeLeft b W.heap.size)
  case atStart =>
    exact ⟨_, _, [], hrg0, by simp, CollectedI.start D0, hJ [] W w0 none h0 hg0 (fun r e => by cases e)⟩
  case round =>
    obtain ⟨left, cnt, ss, hrg, hcs, hC, hJs⟩ := hrel
    gi_wp2_with (first
      | (gi_at_next; refine wpListIn_next_ranges _ rfl _ rfl (ρ.t 26) (int_keyed L.t26) R encZ id (fun key kl hk => by obtain ⟨x, hx, _⟩ := Maps.keyOf_i64 L.t26 hk; exact ⟨x, hx⟩) (fun v _ _ => ⟨v, rfl⟩) b W.heap.size nn _ _ _ rfl hrg ?_ ?_)
      | gi_in)
    · -- NOTHING IS LEFT
      intro hc0 hl0
      gi_wp2
      go_end0
      exact ⟨⟨_, rfl⟩, ss, hC.perm hown (int_keyed L.t26) L.t26 hl0, hJs⟩
    · -- AN ENTRY HAS COME: yield(k)
      intro x c kl yd yp w2 cnt2 hkey hlk hv hat hrg2 hlt hg2 hs2 hen
      obtain ⟨x', ex, rfl, _⟩ := Maps.keyOf_i64 L.t26 hkey
      obtain rfl : x = x' := encZ_inj ex
      have hJ2 : J ss w2 := hJ ss wr w2 (some W.heap.size) hJs hg2 (fun r e => by cases e; exact ⟨Nat.le_refl _, hrg.iter_walk⟩)
      obtain ⟨fn, tmps, assign, body, hy, hR⟩ := hY ss x w2 hJ2 (by omega)
      clear hs2
      gi_wp2
      refine hR.mono ?_
      rintro e W3 ⟨rfl, hJ3, hk3⟩
      gi_wp2
      have hrg3 := hrg2.of_walks hk3
      go_roundw
      case rel => exact ⟨_, cnt2, ss ++ [x], hrg3, by simp; omega, hC.step hlk hat, hJ3⟩
      case measure => rw [hrg3.left_eq, hrg.left_eq]; exact hlt

theorem EngKeys.at_gives (L : SlLaysZI.n10 P ρ) {H : Type} (F : Fence) (n : Nat) (h10 : F.fn (ρ.f 10)) (hro : F.round = none) (hn : 1 ≤ n) (Bm Bo b nn : Nat) (D0 : DataW H) {R : Value → Option (DataW H × List MemPlace)} (w : World) (hBm : Bm < w.heap.size)
    (hm : w.cell? ⟨Bm, Bo, none⟩ = some (.map (some b))) (hown : w.ownsMap P (ρ.t 26) R b nn D0) :
    SeqGives F n P (ρ.f 10) #[.pointer (some ⟨Bm, Bo, none⟩)] encZ (fun ss => ss.Perm (intKeys D0)) (Maps.size D0) w := fun l J W hW hJ hY h0 => by
  have hown' : W.ownsMap P (ρ.t 26) R b nn D0 := by
    have hbl := hown.lt
    obtain ⟨es, clock, hb, Ft, hs, hD⟩ := hown
    exact ⟨es, clock, (hW.block b hbl).trans hb, Ft, hs, hD⟩
  exact EngKeys.at_in { L with } F n h10 hro hn l Bm Bo b nn D0 J hY W hJ ((hW.cell (p := ⟨Bm, Bo, none⟩) hBm).trans hm) hown' h0

set_option maxRecDepth 100000 in
set_option maxHeartbeats 1000000 in
theorem EngKeys.nil_in (L : SlLaysZI.n10 P ρ) (F : Fence) (n : Nat) (h10 : F.fn (ρ.f 10)) (hro : F.round = none) (l Bm Bo : Nat) (J : List Int → World → Prop) (W : World) (hJ : AbidesFrom W.heap.size J)
    (hm : W.cell? ⟨Bm, Bo, none⟩ = some (.map none)) (h0 : J [] W) :
    CallsIn F n P (ρ.f 10) #[.func (.yield l) #[] #[], .pointer (some ⟨Bm, Bo, none⟩)] W fun e W' => (∃ v, e = .returned v) ∧ ∃ ss : List Int, ss = [] ∧ J ss W' := by
  have mixed := L.mixed; have t0 := L.t0; have a0 := L.a0; have z0 := L.z0; have v0 := L.v0; have t4 := L.t4; have a4 := L.a4; have z4 := L.z4; have v4 := L.v4; have t23 := L.t23; have a23 := L.a23; have z23 := L.z23; have v23 := L.v23; have t26 := L.t26; have a26 := L.a26; have z26 := L.z26; have v26 := L.v26; have t33 := L.t33; have a33 := L.a33; have z33 := L.z33; have v33 := L.v33
  have u0 := run_underlying L.t0; have u4 := run_underlying L.t4; have u23 := run_underlying L.t23; have u26 := run_underlying L.t26; have u33 := run_underlying L.t33
  obtain ⟨_, _, FG⟩ := L.f10
  refine callsIn_of_wp FG rfl h10 ?_ hro
  simp only [SlBodyZ.n10_ntmps ρ, List.size_toArray, List.length_cons, List.length_nil, Nat.reduceAdd, Nat.reduceSub, Array.replicate_succ, Array.replicate_zero, List.push_toArray, List.append_toArray, List.nil_append, List.cons_append]
  have hrg := run_range_nilMap (P := P) W (ρ.t 23) (ρ.t 26) (ρ.t 3) L.t23
  have hnx : ∀ ty, (Instr.next (.pointer (some ⟨W.heap.size, 0, none⟩)) false ty).run P (W.alloc (.mapIter none 0 #[] 0)) = _ := fun ty => run_next_nilMap _ ty 0 0 #[]
  gi_wp2
  refine wpIn_loop_rounds 1 ?_
  rw [roundsIn_succ]
  gi_wp2
  go_end0
  exact ⟨⟨_, rfl⟩, [], rfl, hJ [] W _ none h0 (World.grownBy_alloc W _ none) (fun r e => by cases e)⟩
theorem EngKeys.nil_gives (L : SlLaysZI.n10 P ρ) (F : Fence) (n : Nat) (h10 : F.fn (ρ.f 10)) (hro : F.round = none) (Bm Bo : Nat) (w : World) (hBm : Bm < w.heap.size) (hm : w.cell? ⟨Bm, Bo, none⟩ = some (.map none)) :
    SeqGives F n P (ρ.f 10) #[.pointer (some ⟨Bm, Bo, none⟩)] encZ (fun ss : List Int => ss = []) 0 w := fun l J W hW hJ _ h0 =>
  EngKeys.nil_in { L with } F n h10 hro l Bm Bo J W hJ ((hW.cell (p := ⟨Bm, Bo, none⟩) hBm).trans hm) h0
end Go.Proofs
/-! slices.Sorted at maps.Keys: what it answers. -/
namespace Go.Eng
open Go
variable {P : Program} {ρ : Ren}
/-- A NEW BLOCK, wherever it lies behind what was there. -/
theorem Rel.allocAt {s s' : AS} {w w' : World} {k : Blk} {x : Loc} (hr : Rel P ρ s w) (hs : s.new k = some s')
    (hx : w.heap.size ≤ x.b) (hsz : x.b < w'.heap.size) (hsz2 : w.heap.size ≤ w'.heap.size) (hold : ∀ b, b < w.heap.size → w'.heap[b]? = w.heap[b]?)
    (ht : w'.tape = w.tape) (ho : w'.os = w.os) (hu : w'.output = w.output)
    (hb : BRel P (ρ.put s.nx x) x w' k) : Rel P (ρ.put s.nx x) s' w' ∧ Stp ρ s w (ρ.put s.nx x) s' w' := by
  obtain ⟨hnx, hg⟩ := AS.new_eq hs
  have hle : RenLe ρ (ρ.put s.nx x) := fun a y e => by
    unfold Ren.put
    by_cases ha : a = s.nx
    · rw [ha, hr.dom _ (Nat.le_refl _)] at e; cases e
    · rw [if_neg ha]; exact e
  have hput : ∀ a, a ≠ s.nx → (ρ.put s.nx x) a = ρ a := fun a ha => by unfold Ren.put; rw [if_neg ha]
  have hputs : (ρ.put s.nx x) s.nx = some x := by unfold Ren.put; rw [if_pos rfl]
  refine (fun (hS : Stp ρ s w (ρ.put s.nx x) s' w') => ⟨⟨fun a ha => ?_, fun a ha => ?_, fun a k' y e e' => ?_, by rw [AS.new_lim hs]; have := hr.lim; omega, fun a a' k1 k2 x1 x2 hne e1 e2 r1 r2 hbb => ?_, hr.gl.of hS.size hS.frame⟩, hS⟩) ⟨fun a ha => ?_, by omega, ht, ho, hu, hsz2, fun b hb' hn => ?_, fun a ha hn => ?_, fun b r hb' => ⟨r, by rw [hold b (Array.getElem?_eq_some_iff.1 hb').1]; exact hb'⟩, AS.new_lim hs, AS.new_low hs hr.lim, fun a k' y _ _ hk' _ hy => hold _ (hr.blk a k' y hk' hy).1⟩
  · rw [hput a (by omega)]
  · refine ⟨hold b hb', ?_⟩
    rintro ⟨a, k', y, e, e', rfl⟩
    rw [hg] at e
    by_cases ha : a = s.nx
    · rw [ha, hputs] at e'; cases e'; omega
    · rw [if_neg ha] at e; rw [hput a ha] at e'
      exact hn ⟨a, k', y, e, e', rfl⟩
  · exact .inl (by rw [hg, if_neg (by omega)])
  · rw [hput a (by omega)]; exact hr.dom a (by omega)
  · rw [hg, if_neg (by omega)]; exact hr.top a (by omega)
  · rw [hg] at e
    by_cases ha : a = s.nx
    · rw [if_pos ha] at e; cases e
      rw [ha, hputs] at e'; cases e'
      exact ⟨hsz, hb⟩
    · rw [if_neg ha] at e
      rw [hput a ha] at e'
      obtain ⟨h1, h2⟩ := hr.blk a k' y e e'
      exact ⟨by omega, (h2.congr (hold _ h1)).mono hle⟩
  · rw [hg] at e1 e2
    by_cases ha : a = s.nx
    · rw [ha, hputs] at r1; cases r1
      have ha' : a' ≠ s.nx := fun e => hne (ha.trans e.symm)
      rw [if_neg ha'] at e2; rw [hput a' ha'] at r2
      have := (hr.blk a' k2 x2 e2 r2).1
      omega
    · rw [if_neg ha] at e1; rw [hput a ha] at r1
      by_cases ha' : a' = s.nx
      · rw [ha', hputs] at r2; cases r2
        have := (hr.blk a k1 x1 e1 r1).1
        omega
      · rw [if_neg ha'] at e2; rw [hput a' ha'] at r2
        exact hr.excl a a' k1 k2 x1 x2 hne e1 e2 r1 r2 hbb
/-- blocks that nobody speaks of have come. -/
theorem Rel.grow {s : AS} {w w' : World} (hr : Rel P ρ s w) (hsz2 : w.heap.size ≤ w'.heap.size) (hold : ∀ b, b < w.heap.size → w'.heap[b]? = w.heap[b]?)
    (ht : w'.tape = w.tape) (ho : w'.os = w.os) (hu : w'.output = w.output) : Rel P ρ s w' ∧ Stp ρ s w ρ s w' :=
  ⟨⟨hr.dom, hr.top, fun a k x e e' => (by obtain ⟨h1, h2⟩ := hr.blk a k x e e'; exact ⟨by omega, h2.congr (hold _ h1)⟩), hr.lim, hr.excl, hr.gl.of hsz2 fun b hb hn => ⟨hold b hb, hn⟩⟩,
   ⟨fun _ _ => rfl, Nat.le_refl _, ht, ho, hu, hsz2, fun b hb hn => ⟨hold b hb, hn⟩, fun _ _ _ => .inl rfl, fun b r hb => ⟨r, by rw [hold b (Array.getElem?_eq_some_iff.1 hb).1]; exact hb⟩, rfl, fun _ _ => rfl,
    fun a k x _ _ hk _ hx => hold _ (hr.blk a k x hk hx).1⟩⟩
/-! sorting. -/
theorem insI_perm (x : Int) : ∀ l : List Int, (insI x l).Perm (x :: l)
  | [] => .refl _
  | y :: l => by
    show (bif' (iLt y x) (y :: insI x l) (x :: y :: l)).Perm _
    rw [bif'_eq]
    split
    · exact ((insI_perm x l).cons y).trans (List.Perm.swap x y l)
    · exact .refl _
theorem sortI_perm : ∀ l : List Int, (sortI l).Perm l
  | [] => .refl _
  | x :: l => (insI_perm x (sortI l)).trans ((sortI_perm l).cons x)
theorem insI_sorted (x : Int) : ∀ l : List Int, l.Pairwise (fun a b => a ≤ b) → (insI x l).Pairwise (fun a b => a ≤ b)
  | [], _ => by show List.Pairwise _ [x]; simp
  | y :: l, h => by
    show (bif' (iLt y x) (y :: insI x l) (x :: y :: l)).Pairwise _
    rw [bif'_eq, iLt_eq]
    obtain ⟨h1, h2⟩ := List.pairwise_cons.1 h
    split
    · rename_i hlt
      have hlt : y < x := by simpa using hlt
      refine List.pairwise_cons.2 ⟨fun b hb => ?_, insI_sorted x l h2⟩
      rcases List.mem_cons.1 ((insI_perm x l).mem_iff.1 hb) with rfl | hb
      · omega
      · exact h1 b hb
    · rename_i hlt
      have hlt : ¬ y < x := by simpa using hlt
      refine List.pairwise_cons.2 ⟨fun b hb => ?_, h⟩
      rcases List.mem_cons.1 hb with rfl | hb
      · omega
      · have := h1 b hb; omega
theorem sortI_sorted : ∀ l : List Int, (sortI l).Pairwise (fun a b => a ≤ b)
  | [] => .nil
  | x :: l => insI_sorted x _ (sortI_sorted l)
theorem sortI_merge {l ss : List Int} (h : ss.Perm l) : ss.mergeSort (fun x y => decide (x ≤ y)) = sortI l := by
  have h1 := mergeSort_of_perm_i (h.trans (sortI_perm l).symm)
  rw [show (fun x y : Int => decide (x ≤ y)) = leI from rfl, h1]
  refine List.mergeSort_of_pairwise ?_
  exact (sortI_sorted l).imp fun {a b} hab => by simpa [leI] using hab
/-! the keys. -/
theorem okI_wf {n : Int} (h : okI n = true) : (Lit.int .i64 n).wf = true := by
  have e1 : IntKind.i64.min = -9223372036854775808 := by decide
  have e2 : IntKind.i64.max = 9223372036854775807 := by decide
  show (decide (IntKind.i64.min ≤ n) && decide (n ≤ IntKind.i64.max)) = true
  rw [e1, e2, Bool.and_eq_true, decide_eq_true_eq, decide_eq_true_eq]
  cases n with
  | ofNat m =>
    have h : Nat.blt m 9223372036854775808 = true := h
    have := Nat.le_of_ble_eq_true h
    simp only [Int.ofNat_eq_natCast]
    omega
  | negSucc m =>
    have h : Nat.blt m 9223372036854775808 = true := h
    have := Nat.le_of_ble_eq_true h
    rw [Int.negSucc_eq]
    omega
theorem keysI_some : ∀ {es : List (Value × Value × Nat)} {l : List Int}, keysI es = some l → es.map (·.1) = l.map encZ ∧ ∀ n ∈ l, okI n = true
  | [], l, h => by cases h; exact ⟨rfl, fun n hn => by cases hn⟩
  | (k, v, b) :: es, l, h => by
    have h : (match (generalizing := false) k with | .int k n => bif' (bif' (kEq k .i64) (okI n) false) (ob (keysI es) fun l => some (n :: l)) none | _ => none) = some l := h
    split at h
    · rename_i k n
      obtain ⟨h1, h⟩ := bif'_some h
      obtain ⟨h2, h3⟩ := bif_tt h1
      obtain ⟨l', hl', h⟩ := ob_some h
      cases h
      have := kEq_iff.1 h2
      subst this
      obtain ⟨i1, i2⟩ := keysI_some hl'
      refine ⟨by simp [i1], fun m hm => ?_⟩
      rcases List.mem_cons.1 hm with rfl | hm
      · exact h3
      · exact i2 m hm
    · cases h
theorem cellsI_eq : ∀ l : List Int, cellsI l = l.map fun n => [.int .i64 n]
  | [] => rfl
  | n :: l => by show [.int .i64 n] :: cellsI l = _; rw [cellsI_eq l]; rfl
theorem cellsI_flat (l : List Int) : (cellsI l).flatten = l.map encZ := by
  rw [cellsI_eq]
  induction l with
  | nil => rfl
  | cons n l ih => simp [ih]
/-- what is asked of the functions. -/
structure SortFits (P : Program) (f g et kt : Nat) : Prop where
  enter : ∀ args w, (callFunc f args).run P w = .ok (.enter f args) w
  key : P.underlying kt = some (.int .i64)
  sorted : ∀ (lb : Array Value) (S : List Int → Prop) (N : Nat) (w : World), N ≤ maxLen → N * 8 ≤ 140737488355328 → SeqGives Fence.wide 2 P g lb encZ S N w →
    CallsIn Fence.wide 5 P f #[.func (.func g) #[] lb] w fun e w' => ∃ (v : Value) (ss : List Int), e = .returned v ∧ S ss ∧
      w'.ownsRow w.heap.size et 1 v ss.length ((ss.mergeSort (fun x y => decide (x ≤ y))).map encZ) ∧ (v = .slice none 0 0 ↔ ss = []) ∧ RowKit.Below w.heap.size w w'
  keys : ∀ (Bm Bo b nn : Nat) (D0 : DataW Nat) (R : Value → Option (DataW Nat × List MemPlace)) (w : World), Bm < w.heap.size → w.cell? ⟨Bm, Bo, none⟩ = some (.map (some b)) → w.ownsMap P kt R b nn D0 →
    SeqGives Fence.wide 2 P g #[.pointer (some ⟨Bm, Bo, none⟩)] encZ (fun ss => ss.Perm (intKeys D0)) (Maps.size D0) w
  none : ∀ (Bm Bo : Nat) (w : World), Bm < w.heap.size → w.cell? ⟨Bm, Bo, none⟩ = some (.map none) → SeqGives Fence.wide 2 P g #[.pointer (some ⟨Bm, Bo, none⟩)] encZ (fun ss : List Int => ss = []) 0 w
open Go.WideElems (Fit rd rg) in
theorem keys_owned {kt : TypeId} {es : List (Value × Value × Nat)} {ents : Array MapEntry} {ck b : Nat} {w : World} {l : List Int} (hm : MapRel P ρ kt es ents) (hb : Borns ck ents) (hh : w.heap[b]? = some (.map ents ck)) (hl : keysI es = some l) (hn : es.length ≤ 1000000) (hk : P.underlying kt = some (.int .i64)) :
    ∃ D0 : DataW Nat, w.ownsMap P kt (fun _ => some (.nil, [])) b ents.size D0 ∧ (intKeys D0).Perm l ∧ Maps.size D0 = l.length := by
  obtain ⟨k1, k2⟩ := keysI_some hl
  have hmr := hm
  obtain ⟨l0, hp, hf, hnd⟩ := hm
  have hlen : ents.toList.length = l.length := by
    rw [← hp.length_eq]
    have e1 := congrArg List.length (ent_keys hf)
    have e2 := congrArg List.length k1
    simp only [List.length_map] at e1 e2
    omega
  have hes : es.length = l.length := by have := congrArg List.length k1; simpa using this
  have hkey : ∀ x ∈ ents.toList, ∃ n, x.key = encZ n ∧ okI n = true := fun x hx => by
    obtain ⟨p, hp', h1, _⟩ := F2.mem_right hf x (hp.mem_iff.2 hx)
    have : p.1 ∈ es.map (·.1) := List.mem_map.2 ⟨p, hp', rfl⟩
    rw [k1] at this
    obtain ⟨n, hn', he⟩ := List.mem_map.1 this
    exact ⟨n, by rw [← h1, ← he], k2 n hn'⟩
  have hrd : ∀ x ∈ ents.toList, ∀ n, x.key = encZ n → okI n = true → rd P kt (fun _ => some (DataW.nil (H := Nat), [])) x = some (.int .i64 n, .nil) := fun x hx n e ho => by
    have hw := okI_wf ho
    unfold rd
    rw [e]
    simp [Go.keyOf, hk, mapKey, hw]
  refine ⟨_, ⟨ents, ck, hh, ⟨?_, ⟨hb.2, hb.1, hmr.nodup⟩, fun x hx => ?_⟩, Nat.le_refl _, rfl⟩, ?_, ?_⟩
  · have : ents.size = l.length := by simpa using hlen
    unfold maxLen
    omega
  · obtain ⟨n, e, ho⟩ := hkey x hx
    exact ⟨_, hrd x hx n e ho⟩
  · show (((ents.toList.map (rg P kt _)).foldr DataW.insert []).map fun p => intOf p.1).Perm l
    refine ((Go.WideShapes.sorted_perm _).map _).trans ?_
    rw [List.map_map]
    have e1 : ents.toList.map ((fun p : Lit × DataW Nat => intOf p.1) ∘ rg P kt (fun _ => some (DataW.nil, []))) = (ents.toList.map (·.key)).map RowKit.intOf := by
      rw [List.map_map]
      refine List.map_congr_left fun x hx => ?_
      obtain ⟨n, e, ho⟩ := hkey x hx
      simp only [Function.comp, rg, hrd x hx n e ho, e]
      rfl
    rw [e1]
    have h2 := ((hp.map (·.key)).map RowKit.intOf).symm
    rw [ent_keys hf, k1] at h2
    have e3 : (l.map encZ).map RowKit.intOf = l := by
      rw [List.map_map]
      exact (List.map_congr_left (fun n _ => rfl)).trans (List.map_id l)
    rw [e3] at h2
    exact h2
  · show ((ents.toList.map (rg P kt _)).foldr DataW.insert []).length = _
    rw [(Go.WideShapes.sorted_perm _).length_eq, List.length_map, hlen]
theorem vrels_ints : ∀ l : List Int, VRels ρ (l.map encZ) (l.map encZ)
  | [] => .nil
  | n :: l => .cons (.int .i64 n) (vrels_ints l)
theorem ptr1 {b b' : Array Value} {p o : Nat} (hb : b.toList = [.pointer (some ⟨p, o, none⟩)]) (h : VRels ρ b.toList b'.toList) : ∃ x, ρ p = some x ∧ b' = #[.pointer (some ⟨x.b, x.base + o, none⟩)] := by
  rw [hb] at h
  generalize hm : b'.toList = m at h
  cases h with | cons hv hs => ?_
  cases hs
  cases hv with | @ptr _ x _ hx => ?_
  exact ⟨x, hx, Array.ext' hm⟩
theorem none1 {b b' : Array Value} (hb : b.toList = []) (h : VRels ρ b.toList b'.toList) : b' = #[] := by
  rw [hb] at h
  generalize hm : b'.toList = m at h
  cases h
  exact Array.ext' hm
theorem row_at {w : World} {gb : Nat} {cur : Array Value} {et : TypeId} (hgb : w.heap[gb]? = some (.cells cur et (0, 0))) {sz n : Nat} {els : List (List Value)} {cs : List Value} {t : T (List Value)} (ht : rowT els 0 .e = some t) (hl : ∀ l ∈ els, l.length = sz) (hn : els.length = n)
    (hc : VRels ρ els.flatten cs) (hcur : cur.toList.take cs.length = cs) : BRel P ρ ⟨gb, 0, cur.size⟩ w (.cells t sz n false et) := by
  have hlt := (Array.getElem?_eq_some_iff.1 hgb).1
  have hsz : (w.heap.extract 0 gb).size = gb := by simp; omega
  have hall : cs ++ cur.toList.drop cs.length = cur.toList := by
    have := List.take_append_drop cs.length cur.toList
    rw [hcur] at this; exact this
  have hlen : cs.length + (cur.toList.drop cs.length).length = cur.size := by
    have := congrArg List.length hall
    simpa using this
  have := row_brel (P := P) (ρ := ρ) (w := { w with heap := w.heap.extract 0 gb }) (w' := { w with heap := (w.heap.extract 0 gb).push (.cells (cs ++ cur.toList.drop cs.length).toArray et (0, 0)) }) (rest := cur.toList.drop cs.length) (lo := 0) (hi := 0) ht hl hn hc (fun o h1 h2 => by omega) rfl
  rw [hlen] at this
  have e : (⟨({ w with heap := w.heap.extract 0 gb } : World).heap.size, 0, cur.size⟩ : Loc) = ⟨gb, 0, cur.size⟩ := by
    show (⟨(w.heap.extract 0 gb).size, 0, cur.size⟩ : Loc) = _
    rw [hsz]
  rw [e] at this
  refine this.congr ?_
  show w.heap[gb]? = ((w.heap.extract 0 gb).push (.cells (cs ++ cur.toList.drop cs.length).toArray et (0, 0)))[gb]?
  rw [Array.getElem?_push, if_pos hsz.symm, hgb, hall]
/-- SORTED KEYS. -/
theorem sorted_ok {f g et kt : Nat} (hF : SortFits P f g et kt) : FFOk P f (fun _ args s => outO (sumA s (.sorted g et kt) args)) := by
  intro ev hev args s v s' h ρ w args' hR ha
  have h : outO (sumA0 s (.sorted g et kt) args) = .val v s' := h
  cases hs : sumA0 s (.sorted g et kt) args with
  | none => rw [hs] at h; cases h
  | some r =>
  rw [hs] at h
  cases h
  have hgoal : ∀ (lb : Array Value) (S : List Int → Prop) (N : Nat), N ≤ 1000000 → args' = [.func (.func g) #[] lb] → SeqGives Fence.wide 2 P g lb encZ S N w →
      (∀ (u : Value) (ss : List Int) (w' : World), S ss → w'.ownsRow w.heap.size et 1 u ss.length ((ss.mergeSort (fun x y => decide (x ≤ y))).map encZ) → (u = .slice none 0 0 ↔ ss = []) → RowKit.Below w.heap.size w w' →
        ∃ ρ', VRel ρ' r.1 u ∧ Rel P ρ' r.2 w' ∧ Stp ρ s w ρ' r.2 w') →
      CallRun P (callFunc f args'.toArray) w fun u w' => ∃ ρ', VRel ρ' r.1 u ∧ Rel P ρ' r.2 w' ∧ Stp ρ s w ρ' r.2 w' := by
    intro lb S N hN he hseq hend
    subst he
    unfold CallRun
    rw [hF.enter]
    have hc := hF.sorted lb S N w (by unfold maxLen; omega) (by omega) hseq
    refine CallsIn.mono (callsIn_wide.2 (callsIn_wide.1 hc)) ?_
    rintro e w' ⟨u, ss, rfl, hS, hrow, hnil, hb⟩
    exact ⟨u, rfl, hend u ss w' hS hrow hnil hb⟩
  have hnilEnd : ∀ (S : List Int → Prop), (∀ ss, S ss → ss = []) → r = (.slice none 0 0, s) → ∀ (u : Value) (ss : List Int) (w' : World), S ss → w'.ownsRow w.heap.size et 1 u ss.length ((ss.mergeSort (fun x y => decide (x ≤ y))).map encZ) → (u = .slice none 0 0 ↔ ss = []) → RowKit.Below w.heap.size w w' →
        ∃ ρ', VRel ρ' r.1 u ∧ Rel P ρ' r.2 w' ∧ Stp ρ s w ρ' r.2 w' := by
    intro S hS0 hr u ss w' hS hrow hnil hb
    obtain rfl := hnil.2 (hS0 ss hS)
    subst hr
    obtain ⟨g1, g2⟩ := hR.grow hb.size hb.block hb.tape hb.os hb.output
    exact ⟨ρ, .sliceNil, g1, g2⟩
  unfold sumA0 at hs
  split at hs
  · rename_i he; cases he
  · rename_i he; cases he
  · rename_i g0 et0 kt0 f0 a b heq
    cases heq
    replace hs := bif'_some hs
    obtain ⟨hg, hs⟩ := hs
    have hg := Nat.eq_of_beq_eq_true hg
    subst hg
    cases ha with | cons hv hvs => ?_
    cases hvs
    cases hv with | @func _ _ _ fa fb h1 h2 => ?_
    split at hs
    · rename_i p hat hbt
      have hfa := none1 hat h1
      obtain ⟨x, hx, hfb⟩ := ptr1 hbt h2
      subst hfa
      subst hfb
      replace hs := ob_some hs
      obtain ⟨l, hl, hs⟩ := hs
      obtain ⟨_, m, hvm, hcell⟩ := loadN_sound hR hx hl
      split at hs
      · cases hs
        cases hvm with | cons hv hvs => ?_
        cases hvs
        cases hv
        have hc := hcell 0 _ rfl
        have hlt : x.b < w.heap.size := World.block_lt_of_cell? w _ hc
        exact hgoal _ _ 0 (by omega) rfl (hF.none x.b (x.base + 0) w hlt hc) (hnilEnd _ (fun ss h => h) rfl)
      · rename_i rm
        cases hvm with | cons hv hvs => ?_
        cases hvs
        cases hv with | @map _ y hy => ?_
        have hc := hcell 0 _ rfl
        have hlt : x.b < w.heap.size := World.block_lt_of_cell? w _ hc
        replace hs := mapOf_some hs
        obtain ⟨kt', es, ck, hb, hs⟩ := hs
        replace hs := bif'_some hs
        obtain ⟨hkt, hs⟩ := hs
        have hkt := Nat.eq_of_beq_eq_true hkt
        subst hkt
        obtain ⟨hylt, ents, hh, hmr, hbn⟩ := hR.blk _ _ y hb hy
        unfold sortedA at hs
        split at hs
        · cases hs
          obtain ⟨D0, hown, hperm, hsz⟩ := keys_owned (l := []) hmr hbn hh rfl (by simp) hF.key
          refine hgoal _ _ _ (by rw [hsz]; simp) rfl (hF.keys x.b (x.base + 0) y.b _ D0 _ w hlt hc hown) (hnilEnd _ (fun ss h => (h.trans hperm).eq_nil) rfl)
        · rename_i e0 es0
          replace hs := bif'_some hs
          obtain ⟨hn, hs⟩ := hs
          replace hs := ob_some hs
          obtain ⟨l, hl, hs⟩ := hs
          rw [len_eq] at hn hs
          have hn := Nat.le_of_ble_eq_true hn
          obtain ⟨D0, hown, hperm, hsz⟩ := keys_owned hmr hbn hh hl hn hF.key
          have hll : (e0 :: es0).length = l.length := by have := congrArg List.length (keysI_some hl).1; simpa using this
          refine hgoal _ _ _ (by rw [hsz, ← hll]; exact hn) rfl (hF.keys x.b (x.base + 0) y.b _ D0 _ w hlt hc hown) ?_
          intro u ss w' hS hrow hnil hb'
          have hpl := hS.trans hperm
          rw [sortI_merge hpl] at hrow
          have hsl : ss.length = (e0 :: es0).length := by rw [hpl.length_eq, hll]
          rcases hrow.2 with ⟨_, hz⟩ | ⟨gb, cap, cur, rfl, hbase, hgb, r1, r2, r3, r4⟩
          · rw [hsl] at hz; simp at hz
          · obtain ⟨g1, g2, g3, t, s2, hrt, hnew, hreq⟩ := rowLB_some hs
            have hcs : VRels (ρ.put s.nx ⟨gb, 0, cur.size⟩) (cellsI (sortI l)).flatten ((sortI l).map encZ) := by
              rw [cellsI_flat]; exact vrels_ints _
            have hlen : ((sortI l).map encZ).length = ss.length * 1 := by rw [List.length_map, (sortI_perm l).length_eq, ← hpl.length_eq, Nat.mul_one]
            have hbr := row_at (P := P) hgb hrt g3 g2 hcs (by rw [hlen]; exact r4)
            obtain ⟨q1, q2⟩ := Rel.allocAt hR hnew (x := ⟨gb, 0, cur.size⟩) hbase (Array.getElem?_eq_some_iff.1 hgb).1 hb'.size hb'.block hb'.tape hb'.os hb'.output hbr
            subst hreq
            refine ⟨_, ?_, q1, q2⟩
            have hcode : codeLB (e0 :: es0).length 1 / 512 = (e0 :: es0).length := codeLB_div (by omega)
            rw [← hsl] at hcode ⊢
            exact .slice 0 _ _ cap _ (put_self _ _ _) (by rw [hcode]; exact Nat.le_refl _) (by rw [hcode]; exact r1) (fun h => by rw [codeLB_mod] at h; cases h) (.inl rfl) (fun _ => by
              rw [codeLB_sz (by omega)]
              show 0 + 0 + cap * 1 ≤ cur.size
              omega)
      · cases hs
    · cases hs
  · rename_i he; cases he
  · rename_i he; cases he
  · rename_i hne
    cases hs
end Go.Eng
/-! maps.Copy: the walk. -/
namespace Go.Proofs
open Go.Shelf Go.RowKit
variable {P : Program} {ρ : Ren}
/-- what the loop keeps. -/
structure EngCopy.Inv (bd bs : Nat) (entsS : Array MapEntry) (cs : Nat) (w wr : World) (vis : List MapEntry) (ents : Array MapEntry) (ck : Nat) : Prop where
  dst : wr.heap[bd]? = some (.map ents ck)
  src : wr.heap[bs]? = some (.map entsS cs)
  iter : wr.heap[w.heap.size]? = some (.mapIter (some bs) cs (vis.map (·.born)).toArray cs)
  mem : ∀ e ∈ vis, e ∈ entsS.toList
  nodup : (vis.map (·.born)).Nodup
  size : wr.heap.size = w.heap.size + 1
  rest : ∀ b, b < w.heap.size → b ≠ bd → wr.heap[b]? = w.heap[b]?
  tape : wr.tape = w.tape
  os : wr.os = w.os
  out : wr.output = w.output

set_option maxHeartbeats 4000000 in
set_option maxRecDepth 100000 in
theorem EngCopy.walk (L : SlLaysX.n5 P ρ) (J : List MapEntry → Array MapEntry → Nat → Prop) (bd bs : Nat) (entsD entsS : Array MapEntry) (cd cs : Nat) (w : World) (hd : w.heap[bd]? = some (.map entsD cd)) (hs : w.heap[bs]? = some (.map entsS cs)) (hne : bd ≠ bs) (hbs : Go.Eng.Borns cs entsS)
    (h0 : J [] entsD cd) (hstep : ∀ vis e ents ck w', J vis ents ck → e ∈ entsS.toList → (∀ x ∈ vis, x ∈ entsS.toList ∧ x.born ≠ e.born) → w'.heap[bd]? = some (.map ents ck) →
      ∃ ents' ck', (Instr.mapUpdate (ρ.t 23) (.map (some bd)) e.key e.val).run P w' = .ok () { w' with heap := w'.heap.setIfInBounds bd (.map ents' ck') } ∧ J (vis ++ [e]) ents' ck') :
    Calls P (ρ.f 5) #[.map (some bd), .map (some bs)] w fun e w' => e = .returned (.tuple #[]) ∧ ∃ vis ents ck, J vis ents ck ∧ (∀ e ∈ entsS.toList, e.born ∈ vis.map (·.born)) ∧ EngCopy.Inv bd bs entsS cs w w' vis ents ck := by
  have mixed := L.mixed; have t0 := L.t0; have a0 := L.a0; have z0 := L.z0; have v0 := L.v0; have t4 := L.t4; have a4 := L.a4; have z4 := L.z4; have v4 := L.v4; have t23 := L.t23; have a23 := L.a23; have z23 := L.z23; have v23 := L.v23; have t24 := L.t24; have a24 := L.a24; have z24 := L.z24; have v24 := L.v24; have a26 := L.a26; have z26 := L.z26; have a27 := L.a27; have z27 := L.z27
  have hbd : bd < w.heap.size := (Array.getElem?_eq_some_iff.1 hd).1
  have hbl : bs < w.heap.size := (Array.getElem?_eq_some_iff.1 hs).1
  have hrg := run_range_map (P := P) w (ρ.t 24) _ _ bs entsS cs L.t24 hs
  obtain ⟨_, _, FG⟩ := L.f5
  have Hd : Hid (w.heap[bd]? = some (.map entsD cd)) := hd
  have Hs : Hid (w.heap[bs]? = some (.map entsS cs)) := hs
  have Hb : Hid (Go.Eng.Borns cs entsS) := hbs
  have HS : Hid _ := hstep
  have H0 : Hid _ := h0
  clear hd hs hbs hstep h0
  go_enter FG, SlBodyX.n5_ntmps ρ
  go_wp2
  go_loopw [8] (fun _ wr => ∃ vis ents ck, J vis ents ck ∧ EngCopy.Inv bd bs entsS cs w wr vis ents ck)
    (fun _ wr => match wr.heap[w.heap.size]? with | some (.mapIter _ _ seen _) => (entsS.toList.filter fun (e : MapEntry) => !seen.toList.contains e.born).length | _ => 0)
  case atStart =>
    exact ⟨[], entsD, cd, H0.out, ⟨(Below.heap_alloc w _ bd hbd).trans Hd.out, (Below.heap_alloc w _ bs hbl).trans Hs.out, heap_alloc_new w _, fun e he => (by cases he), .nil, by simp, fun b hb _ => Below.heap_alloc w _ b hb, rfl, rfl, rfl⟩⟩
  case round =>
    obtain ⟨vis, ents, ck, hJ, hI⟩ := hrel
    rcases Go.Eng.next_some (P := P) hI.iter hI.src Hb.out with ⟨w2, hall, hrun, hsame⟩ | ⟨en, w2, hen, hnew, hrun, hsame⟩
    · have hI2 : Hid (EngCopy.Inv bd bs entsS cs w w2 vis ents ck) := ⟨by rw [hsame.heap]; exact hI.dst, by rw [hsame.heap]; exact hI.src, by rw [hsame.heap]; exact hI.iter, hI.mem, hI.nodup, by rw [hsame.heap]; exact hI.size, fun b hb hn => by rw [hsame.heap]; exact hI.rest b hb hn, hsame.tape.trans hI.tape, hsame.os.trans hI.os, hsame.out.trans hI.out⟩
      have hall2 : Hid _ := hall
      have hJ2 : Hid _ := hJ
      clear hsame hall hI hJ
      go_wp2
      go_end0
      exact ⟨rfl, vis, ents, ck, hJ2.out, by simpa using hall2.out, hI2.out⟩
    · generalize hw3 : ({ w2 with heap := w2.heap.setIfInBounds w.heap.size (.mapIter (some bs) cs ((vis.map (·.born)).toArray.push en.born) cs) } : World) = w3 at hrun
      have hlt : w.heap.size < w2.heap.size := by rw [hsame.heap, hI.size]; omega
      have hw3h : ∀ b, b ≠ w.heap.size → w3.heap[b]? = wr.heap[b]? := fun b hb => by
        rw [← hw3]
        simp only
        rw [Array.getElem?_setIfInBounds_ne (Ne.symm hb), hsame.heap]
      have hit3 : w3.heap[w.heap.size]? = some (.mapIter (some bs) cs ((vis.map (·.born)).toArray.push en.born) cs) := by
        rw [← hw3]; simp [hlt]
      have hsz3 : w3.heap.size = w.heap.size + 1 := by rw [← hw3]; simp [hsame.heap, hI.size]
      have ht3 : w3.tape = w.tape ∧ w3.os = w.os ∧ w3.output = w.output := by
        rw [← hw3]; exact ⟨hsame.tape.trans hI.tape, hsame.os.trans hI.os, hsame.out.trans hI.out⟩
      have hd3 : w3.heap[bd]? = some (.map ents ck) := (hw3h bd (by omega)).trans hI.dst
      have hs3 : w3.heap[bs]? = some (.map entsS cs) := (hw3h bs (by omega)).trans hI.src
      have hent := Go.Eng.run_entry (P := P) hit3 hs3 Hb.out hen
      have hnot : en.born ∉ vis.map (·.born) := by simpa using hnew
      obtain ⟨ents', ck', hmu, hJ'⟩ := HS.out vis en ents ck w3 hJ hen (fun x hx => ⟨hI.mem x hx, fun e => hnot (by rw [← e]; exact List.mem_map.2 ⟨x, hx, rfl⟩)⟩) hd3
      generalize hw4 : ({ w3 with heap := w3.heap.setIfInBounds bd (.map ents' ck') } : World) = w4 at hmu
      have hw4h : ∀ b, b ≠ bd → w4.heap[b]? = w3.heap[b]? := fun b hb => by
        rw [← hw4]
        simp only
        rw [Array.getElem?_setIfInBounds_ne (Ne.symm hb)]
      have hI4 : Hid (EngCopy.Inv bd bs entsS cs w w4 (vis ++ [en]) ents' ck') := by
        refine ⟨?_, (hw4h bs (Ne.symm hne)).trans hs3, ?_, fun e he => ?_, ?_, ?_, fun b hb hn => ?_, ?_, ?_, ?_⟩
        · have hb3 : bd < w3.heap.size := by omega
          rw [← hw4]; simp [hb3]
        · rw [hw4h _ (by omega), hit3]; simp
        · rcases List.mem_append.1 he with he | he
          · exact hI.mem e he
          · simp at he; subst he; exact hen
        · rw [List.map_append, List.nodup_append]
          refine ⟨hI.nodup, by simp, fun a ha b hb => ?_⟩
          simp at hb
          subst hb
          exact fun e => hnot (e ▸ ha)
        · rw [← hw4]; simp [hsz3]
        · rw [hw4h b hn, hw3h b (by omega)]; exact hI.rest b hb hn
        · rw [← hw4]; exact ht3.1
        · rw [← hw4]; exact ht3.2.1
        · rw [← hw4]; exact ht3.2.2
      have hJ4 : Hid _ := hJ'
      have hμ : Hid ((entsS.toList.filter fun (e : MapEntry) => !(vis.map (·.born) ++ [en.born]).contains e.born).length < (entsS.toList.filter fun (e : MapEntry) => !(vis.map (·.born)).contains e.born).length) := Go.Eng.filter_less ⟨en, hen, rfl⟩ hnot
      have hIt : Hid (wr.heap[w.heap.size]? = some (.mapIter (some bs) cs (vis.map (·.born)).toArray cs)) := hI.iter
      clear hw3 hlt hw3h hit3 hsz3 ht3 hd3 hs3 hnot hJ' hw4 hw4h hsame hnew hen hJ hI
      go_wp2
      go_roundw
      case rel => exact ⟨_, _, _, hJ4.out, hI4.out⟩
      case measure =>
        rw [hI4.out.iter, hIt.out]
        simpa using hμ.out
end Go.Proofs
/-! maps.Copy: what it answers. -/
namespace Go.Eng
open Go
variable {P : Program} {ρ : Ren}
abbrev Ent := Value × Value × Nat
/-- an entry of one key gets the value. -/
noncomputable def one (p q : Ent) : Ent := @ite _ (q.1 = p.1) (Classical.propDecidable _) (p.1, p.2.1, q.2.2) q
theorem one_pos {p q : Ent} (h : q.1 = p.1) : one p q = (p.1, p.2.1, q.2.2) := if_pos h
theorem one_neg {p q : Ent} (h : ¬ q.1 = p.1) : one p q = q := if_neg h
theorem one_key (p q : Ent) : (one p q).1 = q.1 := by
  by_cases h : q.1 = p.1
  · rw [one_pos h, h]
  · rw [one_neg h]
/-- an entry is laid into a list. -/
noncomputable def upd (a : List Ent) (p : Ent) : List Ent :=
  @ite _ (∃ q ∈ a, q.1 = p.1) (Classical.propDecidable _) (a.map (one p)) (a ++ [(p.1, p.2.1, 0)])
theorem upd_pos {a : List Ent} {p : Ent} (h : ∃ q ∈ a, q.1 = p.1) : upd a p = a.map (one p) := by unfold upd; rw [if_pos h]
theorem upd_neg {a : List Ent} {p : Ent} (h : ¬ ∃ q ∈ a, q.1 = p.1) : upd a p = a ++ [(p.1, p.2.1, 0)] := by unfold upd; rw [if_neg h]
theorem has_upd {a : List Ent} {p : Ent} {k : Value} (hk : k ≠ p.1) : (∃ q ∈ upd a p, q.1 = k) ↔ ∃ q ∈ a, q.1 = k := by
  by_cases h : ∃ q ∈ a, q.1 = p.1
  · rw [upd_pos h]
    constructor
    · rintro ⟨q, hq, e⟩
      obtain ⟨q', hq', rfl⟩ := List.mem_map.1 hq
      rw [one_key] at e
      exact ⟨q', hq', e⟩
    · rintro ⟨q, hq, e⟩
      exact ⟨_, List.mem_map.2 ⟨q, hq, rfl⟩, by rw [one_key]; exact e⟩
  · rw [upd_neg h]
    constructor
    · rintro ⟨q, hq, e⟩
      rcases List.mem_append.1 hq with hq | hq
      · exact ⟨q, hq, e⟩
      · simp at hq; subst hq; exact (hk e.symm).elim
    · rintro ⟨q, hq, e⟩; exact ⟨q, by simp [hq], e⟩
theorem upd_swap {p q : Ent} (h : p.1 ≠ q.1) (a : List Ent) : (upd (upd a p) q).Perm (upd (upd a q) p) := by
  by_cases hp : ∃ x ∈ a, x.1 = p.1
  · have hp' := (has_upd (a := a) (p := q) h).2 hp
    by_cases hq : ∃ x ∈ a, x.1 = q.1
    · have hq' := (has_upd (a := a) (p := p) (Ne.symm h)).2 hq
      rw [upd_pos hq', upd_pos hp', upd_pos hp, upd_pos hq, List.map_map, List.map_map]
      refine List.Perm.of_eq (List.map_congr_left fun x _ => ?_)
      simp only [Function.comp]
      by_cases h1 : x.1 = p.1
      · have h2 : ¬ x.1 = q.1 := fun e => h (h1.symm.trans e)
        rw [one_neg h2, one_neg (fun e => h2 ((one_key p x).symm.trans e))]
      · by_cases h2 : x.1 = q.1
        · rw [one_neg h1, one_neg (fun e => h1 ((one_key q x).symm.trans e))]
        · rw [one_neg h1, one_neg h2, one_neg h1]
    · have hq' : ¬ ∃ x ∈ upd a p, x.1 = q.1 := fun e => hq ((has_upd (Ne.symm h)).1 e)
      rw [upd_neg hq', upd_pos hp', upd_pos hp, upd_neg hq, List.map_append]
      refine List.Perm.of_eq ?_
      simp only [List.map_cons, List.map_nil]
      rw [one_neg (p := p) (q := (q.1, q.2.1, 0)) (Ne.symm h)]
  · have hp' : ¬ ∃ x ∈ upd a q, x.1 = p.1 := fun e => hp ((has_upd h).1 e)
    by_cases hq : ∃ x ∈ a, x.1 = q.1
    · have hq' := (has_upd (a := a) (p := p) (Ne.symm h)).2 hq
      rw [upd_pos hq', upd_neg hp', upd_neg hp, upd_pos hq, List.map_append]
      refine List.Perm.of_eq ?_
      simp only [List.map_cons, List.map_nil]
      rw [one_neg (p := q) (q := (p.1, p.2.1, 0)) h]
    · have hq' : ¬ ∃ x ∈ upd a p, x.1 = q.1 := fun e => hq ((has_upd (Ne.symm h)).1 e)
      rw [upd_neg hq', upd_neg hp', upd_neg hp, upd_neg hq, List.append_assoc, List.append_assoc]
      exact (List.Perm.swap _ _ []).append_left a
theorem upd_perm {a b : List Ent} (h : a.Perm b) (p : Ent) : (upd a p).Perm (upd b p) := by
  by_cases hp : ∃ x ∈ a, x.1 = p.1
  · have hp' : ∃ x ∈ b, x.1 = p.1 := let ⟨x, hx, e⟩ := hp; ⟨x, h.mem_iff.1 hx, e⟩
    rw [upd_pos hp, upd_pos hp']; exact h.map _
  · have hp' : ¬ ∃ x ∈ b, x.1 = p.1 := fun ⟨x, hx, e⟩ => hp ⟨x, h.mem_iff.2 hx, e⟩
    rw [upd_neg hp, upd_neg hp']; exact h.append_right _
theorem foldl_upd_perm {vs vs' : List Ent} (h : vs.Perm vs') : vs.Pairwise (fun p q => p.1 ≠ q.1) → ∀ a b : List Ent, a.Perm b → (vs.foldl upd a).Perm (vs'.foldl upd b) := by
  induction h with
  | nil => exact fun _ a b h => h
  | cons x _ ih => exact fun hp a b h => ih (List.pairwise_cons.1 hp).2 _ _ (upd_perm h x)
  | swap x y l =>
    intro hp a b h
    have hxy : y.1 ≠ x.1 := (List.pairwise_cons.1 hp).1 x (by simp)
    show (l.foldl upd (upd (upd a y) x)).Perm (l.foldl upd (upd (upd b x) y))
    have base : ∀ (l : List Ent) (a b : List Ent), a.Perm b → (l.foldl upd a).Perm (l.foldl upd b) := by
      intro l
      induction l with
      | nil => exact fun a b h => h
      | cons x l ih => exact fun a b h => ih _ _ (upd_perm h x)
    exact base l _ _ ((upd_swap hxy a).trans (upd_perm (upd_perm h x) y))
  | trans h1 _ ih1 ih2 =>
    intro hp a b h
    exact (ih1 hp a b h).trans (ih2 ((h1.pairwise_iff (fun {_ _} hne => Ne.symm hne)).1 hp) b b (.refl _))
/-- the evaluator's own way. -/
theorem putE_upd {k v : Value} {b : Nat} {es es' : List Ent} (hn : (es.map (·.1)).Nodup) (h : putE k v 0 es = some es') : es' = upd es (k, v, b) := by
  rcases putE_spec h with ⟨es1, v0, b0, es2, rfl, rfl⟩ | ⟨hno, rfl⟩
  · rw [upd_pos (p := (k, v, b)) ⟨(k, v0, b0), by simp, rfl⟩]
    rw [List.map_append, List.map_cons, List.nodup_append] at hn
    have e1 : ∀ q ∈ es1, q.1 ≠ k := fun q hq e => hn.2.2 q.1 (List.mem_map.2 ⟨q, hq, rfl⟩) k (by simp) e
    have e2 : ∀ q ∈ es2, q.1 ≠ k := fun q hq e => (List.nodup_cons.1 hn.2.1).1 (by rw [← e]; exact List.mem_map.2 ⟨q, hq, rfl⟩)
    rw [List.map_append, List.map_cons]
    have m1 : ∀ (l : List Ent), (∀ q ∈ l, q.1 ≠ k) → l.map (one (k, v, b)) = l := fun l hl =>
      (List.map_congr_left fun q hq => one_neg (p := (k, v, b)) (hl q hq)).trans (List.map_id l)
    rw [m1 es1 e1, m1 es2 e2, one_pos (p := (k, v, b)) (q := (k, v0, b0)) rfl]
  · rw [upd_neg (fun ⟨q, hq, e⟩ => hno q hq e)]
theorem upd_keys {a : List Ent} {p : Ent} (hn : (a.map (·.1)).Nodup) : ((upd a p).map (·.1)).Nodup := by
  by_cases h : ∃ q ∈ a, q.1 = p.1
  · rw [upd_pos h, List.map_map]
    rw [show ((fun q : Ent => q.1) ∘ one p) = fun q => q.1 from funext fun q => one_key p q]
    exact hn
  · rw [upd_neg h, List.map_append, List.nodup_append]
    refine ⟨hn, by simp, fun x hx y hy e => h ?_⟩
    simp at hy
    obtain ⟨q, hq, rfl⟩ := List.mem_map.1 hx
    exact ⟨q, hq, e.trans hy⟩
theorem copyEs_upd : ∀ {es d d' : List Ent}, (d.map (·.1)).Nodup → copyEs es d = some d' → d' = es.foldl upd d
  | [], d, d', _, h => by
    have h : some d = some d' := h
    cases h; rfl
  | (k, v, b) :: es, d, d', hn, h => by
    have h : ob (putE k v 0 d) (copyEs es) = some d' := h
    obtain ⟨d1, h1, h⟩ := ob_some h
    have e := putE_upd (b := b) hn h1
    subst e
    show d' = es.foldl upd (upd d (k, v, b))
    exact copyEs_upd (upd_keys hn) h
theorem upd_len (a : List Ent) (p : Ent) : a.length ≤ (upd a p).length := by
  by_cases h : ∃ q ∈ a, q.1 = p.1
  · rw [upd_pos h]; simp
  · rw [upd_neg h]; simp
theorem foldl_upd_len : ∀ (vs a : List Ent), a.length ≤ (vs.foldl upd a).length
  | [], _ => Nat.le_refl _
  | p :: vs, a => Nat.le_trans (upd_len a p) (foldl_upd_len vs _)
theorem F2.perm {α β : Type} {R : α → β → Prop} {l l' : List α} (h : l.Perm l') : ∀ {m : List β}, F2 R l m → ∃ m', m.Perm m' ∧ F2 R l' m' := by
  induction h with
  | nil => exact fun h => ⟨_, .refl _, h⟩
  | cons x _ ih =>
    intro m h
    cases h with | cons h hs =>
    obtain ⟨m', h1, h2⟩ := ih hs
    exact ⟨_, h1.cons _, .cons h h2⟩
  | swap x y l =>
    intro m h
    cases h with | cons h hs =>
    cases hs with | cons h' hs =>
    exact ⟨_, List.Perm.swap _ _ _, .cons h' (.cons h hs)⟩
  | trans _ _ ih1 ih2 =>
    intro m h
    obtain ⟨m1, p1, f1⟩ := ih1 h
    obtain ⟨m2, p2, f2⟩ := ih2 f1
    exact ⟨m2, p1.trans p2, f2⟩
theorem MapRel.perm {kt : TypeId} {es es' : List Ent} {ents : Array MapEntry} (h : MapRel P ρ kt es ents) (hp : es.Perm es') : MapRel P ρ kt es' ents := by
  obtain ⟨l, h1, h2, h3⟩ := h
  obtain ⟨l', p, f⟩ := F2.perm hp h2
  exact ⟨l', p.symm.trans h1, f, ((hp.map _).nodup_iff).1 h3⟩
theorem run_mapUpdate_at {mt kt e : TypeId} {w : World} {b : Nat} (hke : P.underlying mt = some (.map kt e)) {es : List Ent} {ents : Array MapEntry} {ck : Nat} (hmr : MapRel P ρ kt es ents) (hbn : Borns ck ents) (hh : w.heap[b]? = some (.map ents ck)) {k x x' : Value} {n : Nat} (hkf : keyFits P kt k = true) (hx : VRel ρ x x') :
    ∃ ents' ck', (Instr.mapUpdate mt (.map (some b)) k x').run P w = .ok () { w with heap := w.heap.setIfInBounds b (.map ents' ck') } ∧ MapRel P ρ kt (upd es (k, x, n)) ents' ∧ Borns ck' ents' ∧ ck' + es.length = ck + (upd es (k, x, n)).length := by
  have hpl := keyFits_plain hkf
  have hfk := findKey_run (P := P) hkf w hmr.fits
  by_cases hp : ∃ q ∈ es, q.1 = k
  · obtain ⟨q, hq, he⟩ := hp
    obtain ⟨es1, es2, hes⟩ := List.append_of_mem hq
    obtain ⟨k0, v0, b0⟩ := q
    have he : k0 = k := he
    subst he
    subst hes
    have hnd := hmr.choose_spec.2.2
    rw [List.map_append, List.map_cons, List.nodup_append] at hnd
    have e1 : ∀ q ∈ es1, q.1 ≠ k0 := fun q hq e => hnd.2.2 q.1 (List.mem_map.2 ⟨q, hq, rfl⟩) k0 (by simp) e
    have e2 : ∀ q ∈ es2, q.1 ≠ k0 := fun q hq e => (List.nodup_cons.1 hnd.2.1).1 (by rw [← e]; exact List.mem_map.2 ⟨q, hq, rfl⟩)
    have m1 : ∀ (l : List Ent), (∀ q ∈ l, q.1 ≠ k0) → l.map (one (k0, x, n)) = l := fun l hl =>
      (List.map_congr_left fun q hq => one_neg (p := (k0, x, n)) (hl q hq)).trans (List.map_id l)
    have hupd : upd (es1 ++ (k0, v0, b0) :: es2) (k0, x, n) = es1 ++ (k0, x, b0) :: es2 := by
      rw [upd_pos (p := (k0, x, n)) ⟨(k0, v0, b0), hq, rfl⟩, List.map_append, List.map_cons, m1 es1 e1, m1 es2 e2, one_pos (p := (k0, x, n)) (q := (k0, v0, b0)) rfl]
    rw [hupd]
    obtain ⟨l1, e0, l2, t1, t2, h1, h2, h3, hp, ht, hsp⟩ := hmr.present
    have hgi : (ents[t1.length]?).map (·.key) = some k0 := by
      have : ents[t1.length]? = (t1 ++ e0 :: t2)[t1.length]? := by rw [← ht]; simp
      rw [this]; simp; exact h2.1.symm
    have hmod := modify_at ht (fun e => { e with key := k0, val := x' })
    refine ⟨ents.modify t1.length fun e => { e with key := k0, val := x' }, ck, ?_, ⟨l1 ++ { e0 with key := k0, val := x' } :: l2, ?_, F2.append (.cons ⟨rfl, h2.2.1, h2.2.2.1, hx, h2.2.2.2.2⟩ h3) h1, ?_⟩, hbn.of (e1 := { e0 with key := k0, val := x' }) ht (by rw [hmod]) rfl, by simp⟩
    · rw [hsp] at hfk
      simp only [Instr.mapUpdate, Sem.run_bind, run_underlying hke, Result.andThen_ok, Sem.run_pure, run_getObj' hh (by simp), run_checkKey' hkf, hfk, hgi, Option.getD_some, keyStays_run hkf, run_setObj' hh (by simp)]
    · rw [hmod]
      exact (List.perm_middle.trans (hp.cons _)).trans List.perm_middle.symm
    · have := hmr.choose_spec.2.2
      simpa using this
  · have hno : ∀ p ∈ es, p.1 ≠ k := fun q hq e => hp ⟨q, hq, e⟩
    have hupd : upd es (k, x, n) = es ++ [(k, x, 0)] := upd_neg (p := (k, x, n)) hp
    rw [hupd]
    have hsp := hmr.absent hno
    obtain ⟨l, hpm, hf, hn⟩ := hmr
    refine ⟨ents.push { key := k, val := x', born := ck }, ck + 1, ?_, ⟨l ++ [{ key := k, val := x', born := ck }], ?_, F2.append (.cons ⟨rfl, hkf, hpl, hx, .inl rfl⟩ .nil) hf, ?_⟩, hbn.push rfl, by simp; omega⟩
    · rw [hsp] at hfk
      simp only [Instr.mapUpdate, Sem.run_bind, run_underlying hke, Result.andThen_ok, Sem.run_pure, run_getObj' hh (by simp), run_checkKey' hkf, hfk, run_setObj' hh (by simp)]
    · rw [Array.toList_push]
      exact hpm.append_right _
    · rw [List.map_append, List.nodup_append]
      refine ⟨hn, by simp, fun a ha b hb => ?_⟩
      obtain ⟨p, hp', rfl⟩ := List.mem_map.1 ha
      simp only [List.map_cons, List.map_nil, List.mem_singleton] at hb
      subst hb
      exact hno p hp'
/-- what is asked of the function. -/
structure CopyFits (P : Program) (f kt : Nat) : Prop where
  enter : ∀ args w, (callFunc f args).run P w = .ok (.enter f args) w
  nil : ∀ (pd : Option Nat) (w : World), Calls P f #[.map pd, .map none] w fun e w' => e = .returned (.tuple #[]) ∧ w' = w.alloc (.mapIter none 0 #[] 0)
  walk : ∃ mt et, P.underlying mt = some (.map kt et) ∧ ∀ (J : List MapEntry → Array MapEntry → Nat → Prop) (bd bs : Nat) (entsD entsS : Array MapEntry) (cd cs : Nat) (w : World), w.heap[bd]? = some (.map entsD cd) → w.heap[bs]? = some (.map entsS cs) → bd ≠ bs → Borns cs entsS →
    J [] entsD cd → (∀ vis e ents ck w', J vis ents ck → e ∈ entsS.toList → (∀ x ∈ vis, x ∈ entsS.toList ∧ x.born ≠ e.born) → w'.heap[bd]? = some (.map ents ck) →
      ∃ ents' ck', (Instr.mapUpdate mt (.map (some bd)) e.key e.val).run P w' = .ok () { w' with heap := w'.heap.setIfInBounds bd (.map ents' ck') } ∧ J (vis ++ [e]) ents' ck') →
    Calls P f #[.map (some bd), .map (some bs)] w fun e w' => e = .returned (.tuple #[]) ∧ ∃ vis ents ck, J vis ents ck ∧ (∀ e ∈ entsS.toList, e.born ∈ vis.map (·.born)) ∧ Proofs.EngCopy.Inv bd bs entsS cs w w' vis ents ck
theorem F2.snoc {α β : Type} {R : α → β → Prop} {l : List α} {m : List β} {a : α} {b : β} (h : F2 R l m) (h1 : R a b) : F2 R (l ++ [a]) (m ++ [b]) := F2.append (.cons h1 .nil) h
theorem F2.mem_left {α β : Type} {R : α → β → Prop} : ∀ {l : List α} {m : List β}, F2 R l m → ∀ a ∈ l, ∃ b ∈ m, R a b
  | _, _, .nil, _, ha => by cases ha
  | _, _, .cons h hs, a, ha => by
    rcases List.mem_cons.1 ha with rfl | ha
    · exact ⟨_, by simp, h⟩
    · obtain ⟨b, hb, hr⟩ := F2.mem_left hs a ha
      exact ⟨b, by simp [hb], hr⟩
theorem nodup_map {α β : Type} {f : α → β} {l : List α} (h : (l.map f).Nodup) : l.Nodup := by
  rw [List.nodup_iff_pairwise_ne] at h ⊢
  rw [List.pairwise_map] at h
  exact h.imp fun hne e => hne (by rw [e])
/-- ONE MAP IS COPIED INTO ANOTHER. -/
theorem copy_ok {f kt : Nat} (hF : CopyFits P f kt) : FFOk P f (fun _ args s => outO (sumA s (.copy kt) args)) := by
  intro ev hev args s v s' h ρ w args' hR ha
  have h : outO (sumA0 s (.copy kt) args) = .val v s' := h
  cases hs : sumA0 s (.copy kt) args with
  | none => rw [hs] at h; cases h
  | some r =>
  rw [hs] at h
  cases h
  unfold CallRun
  rw [hF.enter]
  show CallsIn Fence.wide 0 P f args'.toArray w _
  unfold sumA0 at hs
  split at hs
  · rename_i kt0 d heq
    cases hs
    cases heq
    cases ha with | cons hv1 ha => ?_
    cases ha with | cons hv2 ha => ?_
    cases ha
    cases hv1
    cases hv2
    refine CallsIn.mono (callsIn_wide.2 (hF.nil _ w)) ?_
    rintro e w' ⟨rfl, rfl⟩
    obtain ⟨g1, g2⟩ := hR.grow (w' := w.alloc (.mapIter none 0 #[] 0)) (by simp) (fun b hb => RowKit.Below.heap_alloc w _ b hb) rfl rfl rfl
    exact ⟨_, rfl, ρ, .tuple .nil, g1, g2⟩
  · rename_i kt0 d rr heq
    cases heq
    replace hs := bif'_some' hs
    obtain ⟨hdr, hs⟩ := hs
    replace hs := mapOf_some hs
    obtain ⟨kt1, es, cks, hbs, hs⟩ := hs
    replace hs := bif'_some hs
    obtain ⟨hk1, hs⟩ := hs
    replace hs := mapOf_some hs
    obtain ⟨kt2, es', ck, hbd, hs⟩ := hs
    replace hs := bif'_some hs
    obtain ⟨hk2, hs⟩ := hs
    replace hs := ob_some hs
    obtain ⟨es2, hes2, hs⟩ := hs
    rw [fNat_eq] at hs
    replace hs := ob_some hs
    obtain ⟨s1, hs1, hs⟩ := hs
    cases hs
    have hk1 := (Nat.eq_of_beq_eq_true hk1).symm
    have hk2 := (Nat.eq_of_beq_eq_true hk2).symm
    subst hk1
    subst hk2
    cases ha with | cons hv1 ha => ?_
    cases ha with | cons hv2 ha => ?_
    cases ha
    cases hv1 with | @map _ x hx => ?_
    cases hv2 with | @map _ y hy => ?_
    have hne : d ≠ rr := fun e => by rw [e] at hdr; rw [Nat.beq_refl] at hdr; cases hdr
    obtain ⟨hxlt, entsD, hhd, hmd, hbnd⟩ := hR.blk _ _ x hbd hx
    obtain ⟨hylt, entsS, hhs, hms, hbns⟩ := hR.blk _ _ y hbs hy
    have hxy : x.b ≠ y.b := fun e => by
      have := (hR.excl d rr _ _ x y hne hbd hbs hx hy e).1
      cases this
    obtain ⟨mt, et, hmt, hwalk⟩ := hF.walk
    have hnkS := hms.nodup
    have hndE : (es.map (·.1)).Nodup := hms.choose_spec.2.2
    have hndD : (es'.map (·.1)).Nodup := hmd.choose_spec.2.2
    have hinj : ∀ p ∈ es, ∀ q ∈ es, p.1 = q.1 → p = q := fun p hp q hq e => by
      obtain ⟨a1, a2, rfl⟩ := List.append_of_mem hp
      rw [List.map_append, List.map_cons, List.nodup_append] at hndE
      rcases List.mem_append.1 hq with hq | hq
      · exact (hndE.2.2 q.1 (List.mem_map.2 ⟨q, hq, rfl⟩) p.1 (by simp) e.symm).elim
      · rcases List.mem_cons.1 hq with rfl | hq
        · rfl
        · exact ((List.nodup_cons.1 hndE.2.1).1 (by rw [e]; exact List.mem_map.2 ⟨q, hq, rfl⟩)).elim
    have hc := hwalk (fun vis ents ckj => ∃ vs : List Ent, F2 (EntRel P ρ kt) vs vis ∧ (∀ p ∈ vs, p ∈ es) ∧ (vs.map (·.1)).Nodup ∧ MapRel P ρ kt (vs.foldl upd es') ents ∧ Borns ckj ents ∧ ckj + es'.length = ck + (vs.foldl upd es').length)
      x.b y.b entsD entsS ck cks w hhd hhs hxy hbns ⟨[], .nil, fun p hp => (by cases hp), .nil, hmd, hbnd, rfl⟩ (by
        rintro vis e ents ckj w' ⟨vs, v1, v2, v3, v4, v5, v6⟩ he hvis hh'
        obtain ⟨l0, hp0, hf0, _⟩ := hms
        obtain ⟨p, hp, hpe⟩ := F2.mem_right hf0 e (hp0.mem_iff.2 he)
        obtain ⟨ents', ck', q1, q2, q3, q4⟩ := run_mapUpdate_at (P := P) (n := p.2.2) hmt v4 v5 hh' hpe.2.1 hpe.2.2.2.1
        rw [← hpe.1]
        refine ⟨ents', ck', q1, vs ++ [p], v1.snoc hpe, fun q hq => ?_, ?_, ?_, q3, ?_⟩
        · rcases List.mem_append.1 hq with hq | hq
          · exact v2 q hq
          · simp at hq; subst hq; exact hp
        · rw [List.map_append, List.nodup_append]
          refine ⟨v3, by simp, fun a ha b hb hab => ?_⟩
          simp at hb
          subst hb
          obtain ⟨q, hq, rfl⟩ := List.mem_map.1 ha
          have := hinj q (v2 q hq) p hp hab
          subst this
          obtain ⟨e1, he1, hqe⟩ := F2.mem_left v1 q hq
          have hnk := hnkS
          have hee : e1 = e := by
            have hk : e1.key = e.key := by rw [← hqe.1, hpe.1]
            obtain ⟨a1, a2, ha⟩ := List.append_of_mem he
            have he1' := (hvis e1 he1).1
            rw [ha] at hnk he1'
            rw [List.map_append, List.map_cons, List.nodup_append] at hnk
            rcases List.mem_append.1 he1' with h | h
            · exact (hnk.2.2 e1.key (List.mem_map.2 ⟨e1, h, rfl⟩) e.key (by simp) hk).elim
            · rcases List.mem_cons.1 h with h | h
              · exact h
              · exact ((List.nodup_cons.1 hnk.2.1).1 (by rw [← hk]; exact List.mem_map.2 ⟨e1, h, rfl⟩)).elim
          exact (hvis e1 he1).2 (by rw [hee])
        · rw [List.foldl_append]; exact q2
        · rw [List.foldl_append]
          show ck' + es'.length = ck + (upd (vs.foldl upd es') p).length
          have q4' : ck' + (vs.foldl upd es').length = ckj + (upd (vs.foldl upd es') p).length := q4
          omega)
    refine CallsIn.mono (callsIn_wide.2 hc) ?_
    rintro e w' ⟨rfl, vis, ents, ckj, ⟨vs, v1, v2, v3, v4, v5, v6⟩, hall, hI⟩
    have hperm : vs.Perm es := by
      refine (List.perm_ext_iff_of_nodup (nodup_map v3) (nodup_map hndE)).2 fun p => ⟨v2 p, fun hp => ?_⟩
      obtain ⟨l0, hp0, hf0, _⟩ := hms
      obtain ⟨e1, he1, hpe⟩ := F2.mem_left hf0 p hp
      obtain ⟨e2, he2, hb2⟩ := List.mem_map.1 (hall e1 (hp0.mem_iff.1 he1))
      have : e2 = e1 := by
        have he2' := hI.mem e2 he2
        obtain ⟨a1, a2, ha⟩ := List.append_of_mem (hp0.mem_iff.1 he1)
        have hnb := hbns.1
        rw [ha] at hnb he2'
        rw [List.map_append, List.map_cons, List.nodup_append] at hnb
        rcases List.mem_append.1 he2' with h | h
        · exact (hnb.2.2 e2.born (List.mem_map.2 ⟨e2, h, rfl⟩) e1.born (by simp) hb2).elim
        · rcases List.mem_cons.1 h with h | h
          · exact h
          · exact ((List.nodup_cons.1 hnb.2.1).1 (by rw [← hb2]; exact List.mem_map.2 ⟨e2, h, rfl⟩)).elim
      subst this
      obtain ⟨q, hq, hqe⟩ := F2.mem_right v1 e2 he2
      have := hinj q (v2 q hq) p hp (by rw [hqe.1, hpe.1])
      rw [← this]; exact hq
    have hpw : vs.Pairwise (fun p q => p.1 ≠ q.1) := by
      have := v3
      rw [List.nodup_iff_pairwise_ne, List.pairwise_map] at this
      exact this
    have hes := copyEs_upd hndD hes2
    have hP := foldl_upd_perm hperm hpw es' es' (.refl _)
    rw [← hes] at hP
    have hmr2 := v4.perm hP
    have hlen := hP.length_eq
    have hle := foldl_upd_len vs es'
    have hck : ck + ((len es2).sub (len es')) = ckj := by
      rw [len_eq, len_eq]
      show ck + (es2.length - es'.length) = ckj
      omega
    -- the world with the iterator alone
    have hxs : x.b < w'.heap.size := by rw [hI.size]; omega
    generalize hw1 : ({ w' with heap := w'.heap.setIfInBounds x.b (.map entsD ck) } : World) = w1
    have hold1 : ∀ b, b < w.heap.size → w1.heap[b]? = w.heap[b]? := fun b hb => by
      rw [← hw1]
      by_cases hbx : b = x.b
      · subst hbx; simp [hxs, hhd]
      · simp only
        rw [Array.getElem?_setIfInBounds_ne (Ne.symm hbx)]
        exact hI.rest b hb hbx
    have hsz1 : w1.heap.size = w'.heap.size := by rw [← hw1]; simp
    have ht1 : w1.tape = w.tape ∧ w1.os = w.os ∧ w1.output = w.output := by rw [← hw1]; exact ⟨hI.tape, hI.os, hI.out⟩
    obtain ⟨g1, g2⟩ := hR.grow (w' := w1) (by rw [hsz1, hI.size]; omega) hold1 ht1.1 ht1.2.1 ht1.2.2
    have hw := Rel.write (P := P) (w' := w') g1 hs1 hbd rfl hx hsz1.symm (fun b hb => by
      rw [← hw1]
      simp only
      rw [Array.getElem?_setIfInBounds_ne (Ne.symm hb)]) (by rw [ht1.1]; exact hI.tape) (by rw [ht1.2.1]; exact hI.os) (by rw [ht1.2.2]; exact hI.out) ⟨ents, by
        show w'.heap[x.b]? = some (.map ents (ck + ((len es2).sub (len es'))))
        rw [hck]; exact hI.dst, hmr2, by rw [show Nat.add ck ((len es2).sub (len es')) = ckj from hck]; exact v5⟩
    exact ⟨_, rfl, ρ, .tuple .nil, hw.1, g2.trans hw.2⟩
  · rename_i he; cases he
  · rename_i he; cases he
  · rename_i he; cases he
  · cases hs
end Go.Eng
/-! The configuration's facts, one by one. -/
namespace Go.Eng
open Go
variable {P : Program}
theorem lookupE_mem {f : Nat} {e : Ext} : ∀ {l : List (Nat × Ext)}, lookupE f l = some e → (f, e) ∈ l
  | [], h => by cases h
  | p :: l, h => by
    have h : bif' (Nat.beq f p.1) (some p.2) (lookupE f l) = some e := h
    rw [bif'_eq] at h
    split at h
    · rename_i hb
      cases h
      rw [Nat.eq_of_beq_eq_true hb]
      exact List.mem_cons_self ..
    · exact List.mem_cons_of_mem _ (lookupE_mem h)
theorem lookupS_mem {f : Nat} {e : Sum} : ∀ {l : List (Nat × Sum)}, lookupS f l = some e → (f, e) ∈ l
  | [], h => by cases h
  | p :: l, h => by
    have h : bif' (Nat.beq f p.1) (some p.2) (lookupS f l) = some e := h
    rw [bif'_eq] at h
    split at h
    · rename_i hb
      cases h
      rw [Nat.eq_of_beq_eq_true hb]
      exact List.mem_cons_self ..
    · exact List.mem_cons_of_mem _ (lookupS_mem h)
theorem alt_ok {f : Nat} {a b : Sum} (ha : FFOk P f (fun _ args s => outO (sumA0 s a args))) (hb : FFOk P f (fun _ args s => outO (sumA s b args))) : FFOk P f (fun _ args s => outO (sumA s (.alt a b) args)) := by
  intro ev hev args s v s' h ρ w args' hR hl
  have h : outO (orO (sumA0 s a args) (sumA s b args)) = .val v s' := h
  cases e : sumA0 s a args with
  | none => rw [e] at h; exact hb ev hev args s v s' h ρ w args' hR hl
  | some p => rw [e] at h; exact ha ev hev args s v s' (by show outO (sumA0 s a args) = _; rw [e]; exact h) ρ w args' hR hl
/-- no function of the list bears the name. -/
noncomputable def noName (n : String) (l : List Func) : Bool := List.rec (motive := fun _ => Bool) true (fun f _ ih => Bool.rec (motive := fun _ => Bool) ih false (decide (f.name = n))) l
theorem noName_mem {n : String} : ∀ {l : List Func}, noName n l = true → ∀ f ∈ l, f.name ≠ n
  | [], _, f, hf => by cases hf
  | g :: l, h, f, hf => by
    have h : Bool.rec (motive := fun _ => Bool) (noName n l) false (decide (g.name = n)) = true := h
    by_cases hg : g.name = n
    · rw [decide_eq_true hg] at h; cases h
    · rw [decide_eq_false hg] at h
      rcases List.mem_cons.1 hf with rfl | hf
      · exact hg
      · exact noName_mem h f hf
theorem plainly_of (h : noName "runtime.NumGoroutine" P.funcs.toList = true) : Plainly P := fun f fn hf => by
  have : fn ∈ P.funcs.toList := by
    have := Array.mem_of_getElem? hf
    simpa using this
  have := noName_mem h fn this
  simpa using this
theorem cfg_ok {X : Cfg} (h1 : Plainly P) (h2 : P.follows .mixedOrders = true) (h3 : ∀ p ∈ X.ext, ExtFits P p.1 p.2) (h4 : ∀ p ∈ X.sum, FFOk P p.1 (sumFF p.2)) (h5 : ∀ e ∈ X.tab, EntryOk P e) : CfgOk P X :=
  ⟨h1, h2, fun f e h => h3 (f, e) (lookupE_mem h), h5, fun f e h => h4 (f, e) (lookupS_mem h)⟩
/-- the answer is this value. -/
noncomputable def outV (v : Value) (o : Out) : Bool := Out.rec (motive := fun _ => Bool) false (fun _ _ _ => false) (fun u _ => vEq 12 v u) o
/-- A LAW WITHOUT ARGUMENTS: the evaluator says 'true'. -/
theorem calls_true {X : Cfg} (hX : CfgOk P X) {n f : Nat} {fn : Func} {c : Code} (hf : P.funcs[f]? = some fn) (hb : fn.body = some c) (h : outV (.bool true) (eval P X n (.func (.func f) #[] #[]) [] ⟨roomH .e, 0, 0⟩) = true) (w : World) (hG : GWorld P w) :
    Calls P f #[] w fun e w' => e = .returned (.bool true) ∧ (∀ b, b < w.heap.size → w'.heap[b]? = w.heap[b]?) ∧ w.heap.size ≤ w'.heap.size ∧ w'.tape = w.tape ∧ w'.os = w.os ∧ w'.output = w.output := by
  cases ho : eval P X n (.func (.func f) #[] #[]) [] ⟨roomH .e, 0, 0⟩ with
  | no => rw [ho] at h; cases h
  | code => rw [ho] at h; cases h
  | val v s =>
    rw [ho] at h
    have hv := vEq_sound 12 _ _ h
    subst hv
    refine (eval_calls hX hf hb ho w hG).mono ?_
    rintro e w' ⟨u, ρ', he, hv, rest⟩
    cases hv
    exact ⟨he, rest⟩
/-- a block is laid into a trie. -/
noncomputable def insH (b : Blk) (fuel : Nat) : Nat → T Blk → T Blk :=
  Nat.rec (motive := fun _ => Nat → T Blk → T Blk) (fun _ t => t) (fun _ ih k t =>
    T.rec (motive := fun _ => T Blk)
      (Nat.rec (motive := fun _ => T Blk) (.n (some b) .e .e) (fun m _ => bif' (Nat.beq (Nat.mod m 2) 0) (.n none (ih (Nat.div m 2) .e) .e) (.n none .e (ih (Nat.div m 2) .e))) k)
      (fun v l r _ _ => Nat.rec (motive := fun _ => T Blk) (.n (some b) l r) (fun m _ => bif' (Nat.beq (Nat.mod m 2) 0) (.n v (ih (Nat.div m 2) l) r) (.n v l (ih (Nat.div m 2) r))) k) t) fuel
/-- these blocks. -/
noncomputable def mkH (l : List (Nat × Blk)) : T Blk := List.rec (motive := fun _ => T Blk) .e (fun p _ ih => insH p.2 64 p.1 ih) l
end Go.Eng
/-! Equal calls are answered once: a call is carried out at the canonical renaming of what its arguments reach: the definitions. -/
namespace Go.Eng
open Go
noncomputable def renT (r : Value → Option Value) (t : T (List Value)) : Option (T (List Value)) :=
  T.rec (motive := fun _ => Option (T (List Value))) (some .e) (fun v _ _ ihl ihr => ob ihl fun l => ob ihr fun r' =>
    Option.rec (motive := fun _ => Option (T (List Value))) (some (.n none l r')) (fun c => ob (renL r c) fun c' => some (.n (some c') l r')) v) t
noncomputable def renB (r : Value → Option Value) (b : Blk) : Option Blk :=
  match b with
  | .cells c sz n false et => ob (renT r c) fun c' => fNat sz fun sz' => fNat n fun n' => fNat et fun et' => some (.cells c' sz' n' false et')
  | _ => none
/-- a number behind a list, once. -/
noncomputable def addN (b : Nat) (l : List Nat) : Option (List Nat) :=
  List.rec (motive := fun _ => Option (List Nat)) (fNat b fun b => some [b]) (fun x t ih => bif' (Nat.beq x b) (some (x :: t)) (ob ih fun r => some (x :: r))) l
noncomputable def addK (k b : Nat) (l : List Nat) : Option (List Nat) := bif' (Nat.blt b k) (some l) (addN b l)
noncomputable def addL (f : Value → List Nat → Option (List Nat)) (vs : List Value) : List Nat → Option (List Nat) :=
  List.rec (motive := fun _ => List Nat → Option (List Nat)) (fun l => some l) (fun v _ ih l => ob (f v l) ih) vs
/-- the blocks that a value names, from k on. -/
noncomputable def addV (k n : Nat) : Value → List Nat → Option (List Nat) :=
  Nat.rec (motive := fun _ => Value → List Nat → Option (List Nat)) (fun _ _ => none) (fun _ ih v l => match v with
    | .pointer (some a) => addK k a.block l
    | .slice (some a) _ _ => addK k a.block l
    | .map (some b) => addK k b l
    | .func _ a b => ob (addL ih a.toList l) fun l => addL ih b.toList l
    | .iface _ x => ih x l
    | .agg a => addL ih a.toList l
    | .tuple a => addL ih a.toList l
    | _ => some l) n
noncomputable def addT (k n : Nat) (t : T (List Value)) : List Nat → Option (List Nat) :=
  T.rec (motive := fun _ => List Nat → Option (List Nat)) (fun l => some l) (fun v _ _ ihl ihr l => ob (Option.rec (motive := fun _ => Option (List Nat)) (some l) (fun c => addL (addV k n) c l) v) fun l => ob (ihl l) ihr) t
noncomputable def addB (k n : Nat) (b : Blk) (l : List Nat) : Option (List Nat) := match b with | .cells c _ _ false _ => addT k n c l | _ => none
noncomputable def nthN (i : Nat) : List Nat → Option Nat :=
  Nat.rec (motive := fun _ => List Nat → Option Nat) (fun l => List.rec (motive := fun _ => Option Nat) none (fun x _ _ => some x) l)
    (fun _ ih l => List.rec (motive := fun _ => Option Nat) none (fun _ t _ => ih t) l) i
/-- what can be reached: the blocks' places, in order. -/
noncomputable def reachN (h : T Blk) (k n : Nat) (fuel : Nat) : Nat → List Nat → Option (List Nat) :=
  Nat.rec (motive := fun _ => Nat → List Nat → Option (List Nat)) (fun _ _ => none) (fun _ ih i l =>
    Option.rec (motive := fun _ => Option (List Nat)) (some l)
      (fun b => ob (Option.rec (motive := fun _ => Option (List Nat)) (some l) (fun x => addB k n x l) (h.get b)) fun l => ih (Nat.succ i) l) (nthN i l)) fuel
/-- where a number stands in a list, and so many more. -/
noncomputable def idxN (l : List Nat) (a : Nat) : Nat → Option Nat :=
  List.rec (motive := fun _ => Nat → Option Nat) (fun _ => none) (fun x _ ih i => bif' (Nat.beq x a) (fNat i fun i => some i) (ih (Nat.succ i))) l
noncomputable def backN (l m : List Nat) (k nx : Nat) (j : Nat) : Option Nat := bif' (Nat.blt j k) (ob (nthN j l) fun a => fNat a fun a => some a) (idxN m j nx)
/-- the blocks of a list, renamed, laid into a trie from i on. -/
noncomputable def layN (r : Value → Option Value) (h : T Blk) (l : List Nat) : Nat → T Blk → Option (T Blk) :=
  List.rec (motive := fun _ => Nat → T Blk → Option (T Blk)) (fun _ t => some t) (fun a _ ih i t =>
    Option.rec (motive := fun _ => Option (T Blk)) (ob (T.put none t i) fun t' => ih (Nat.succ i) t') (fun b => ob (renB r b) fun b' => ob (T.put (some b') t i) fun t' => ih (Nat.succ i) t') (h.get a)) l
/-- the answer, renamed back. -/
noncomputable def isoBack (s : AS) (l : List Nat) (k : Nat) (o : Out) : Out :=
  Out.rec (motive := fun _ => Out) .no (fun _ _ _ => .no) (fun v s' =>
    outO (ob (ob (addV k 12 v []) fun m => reachN s'.h k 12 200 0 m) fun m => bif' (bif' (distinctN m) (allGe k m) false)
      (ob (renV (backN l m k s.nx) 12 v) fun v' => ob (layN (renV (backN l m k s.nx) 12) s'.h m s.nx s.h) fun h => fNat (Nat.add s.nx (len m)) fun nx => fNat s.lim fun lm => some (v', ⟨h, nx, lm⟩)) none)) o
/-- a call, at the canonical renaming. -/
noncomputable def isoCall (B : Ev) (f : Nat) (args : List Value) (s : AS) : Out :=
  Option.rec (motive := fun _ => Out) .no (fun l =>
    bif' (bif' (distinctN l) (allLt s.nx l) false)
      (Option.rec (motive := fun _ => Out) .no (fun args' =>
        Option.rec (motive := fun _ => Out) .no (fun h => fNatO (len l) fun k => isoBack s l k (B (.func (.func f) #[] #[]) args' ⟨h, k, k⟩))
          (layN (renV (fun a => idxN l a 0) 12) s.h l 0 (fullT 20))) (renL (renV (fun a => idxN l a 0) 12) args)) .no)
    (ob (addL (addV 0 12) args []) fun l => reachN s.h 0 12 200 0 l)
noncomputable def orOut (a b : Out) : Out := Out.rec (motive := fun _ => Out) b (fun _ _ _ => b) (fun v s => .val v s) a
noncomputable def isoFF (B : Ev) (f : Nat) (F : FF) : FF := fun ev args s => orOut (isoCall B f args s) (F ev args s)
noncomputable def lookupB (f : Nat) (l : List (Nat × Ev)) : Option Ev := List.rec (motive := fun _ => Option Ev) none (fun p _ ih => bif' (Nat.beq f p.1) (some p.2) ih) l
noncomputable def mkFnI (P : Program) (X : Cfg) (L : List (Nat × Ev)) (f : Nat) : Option FF :=
  ob (mkFn P X f) fun F => Option.rec (motive := fun _ => Option FF) (some F) (fun B => some (isoFF B f F)) (lookupB f L)
noncomputable def callFnI (P : Program) (X : Cfg) (L : List (Nat × Ev)) (ev : Ev) (f : Nat) (args : List Value) (s : AS) : Out :=
  Option.rec (motive := fun _ => Out) .no (fun F => F ev args s) (mkFnI P X L f)
noncomputable def stepI (P : Program) (X : Cfg) (L : List (Nat × Ev)) (ev : Ev) (f : Value) (args : List Value) (s : AS) : Out :=
  match f with
  | .func (.func f) first cap => callFnI P X L ev f (app first.toList (app args cap.toList)) s
  | .func (.yield l) first _ => callYield P ev l (app first.toList args) s
  | _ => .no
noncomputable def evalI (P : Program) (X : Cfg) (L : List (Nat × Ev)) (n : Nat) : Ev :=
  Nat.rec (motive := fun _ => Ev) (fun _ _ _ => .no) (fun _ ih => stepI P X L ih) n

/-- these functions by that evaluator, ahead of others. -/
noncomputable def lstB (l : List Nat) (B : Ev) (r : List (Nat × Ev)) : List (Nat × Ev) := List.rec (motive := fun _ => List (Nat × Ev)) r (fun f _ ih => (f, B) :: ih) l
end Go.Eng
/-! Calls at the canonical renaming can be trusted. -/
namespace Go.Eng
open Go
variable {P : Program}
theorem renL_inv {r q : Value → Option Value} (hr : ∀ v v', r v = some v' → q v' = some v) : ∀ {l l' : List Value}, renL r l = some l' → renL q l' = some l
  | [], l', h => by cases h; rfl
  | v :: l, l', h => by
    have h : ob (r v) (fun v' => ob (renL r l) fun l' => some (v' :: l')) = some l' := h
    replace h := ob_some h
    obtain ⟨v1, h1, h⟩ := h
    replace h := ob_some h
    obtain ⟨l1, h2, h⟩ := h
    cases h
    show ob (q v1) (fun v' => ob (renL q l1) fun l' => some (v' :: l')) = _
    rw [hr _ _ h1, renL_inv hr h2]; rfl
theorem renV_inv {φ ψ : Nat → Option Nat} (h : ∀ a b, φ a = some b → ψ b = some a) : ∀ (n : Nat) (v v' : Value), renV φ n v = some v' → renV ψ n v' = some v
  | 0, v, v', hv => by cases hv
  | n + 1, v, v', hv => by
    have ihl : ∀ {l l' : List Value}, renL (renV φ n) l = some l' → renL (renV ψ n) l' = some l := fun h1 => renL_inv (fun v v' => renV_inv h n v v') h1
    cases v with
    | bool b => cases b <;> (cases hv; rfl)
    | int k m =>
      have hv : fInt k m = some v' := hv
      rw [fInt_eq] at hv; cases hv
      exact fInt_eq k m
    | float => cases hv
    | complex k a b => cases hv; rfl
    | string s => cases hv; rfl
    | pointer p =>
      cases p with
      | none => cases hv; rfl
      | some p =>
        obtain ⟨b, o, sp⟩ := p
        cases sp with
        | some _ => cases hv
        | none =>
          have hv : (ob (φ b) fun b' => fNat o fun o' => some (.pointer (some ⟨b', o', none⟩))) = some v' := hv
          obtain ⟨b', h1, hv⟩ := ob_some hv
          rw [fNat_eq] at hv; cases hv
          show (ob (ψ b') fun b' => fNat o fun o' => some (Value.pointer (some ⟨b', o', none⟩))) = _
          rw [h _ _ h1]
          show (fNat o fun o' => some (Value.pointer (some ⟨b, o', none⟩))) = _
          rw [fNat_eq]
    | slice p m c =>
      cases p with
      | none =>
        cases m with
        | succ m => cases hv
        | zero =>
          cases c with
          | succ c => cases hv
          | zero => cases hv; rfl
      | some p =>
        obtain ⟨b, o, sp⟩ := p
        cases sp with
        | some _ => cases hv
        | none =>
          have hv : (ob (φ b) fun b' => fNat o fun o' => fNat m fun m' => fNat c fun c' => some (.slice (some ⟨b', o', none⟩) m' c')) = some v' := hv
          obtain ⟨b', h1, hv⟩ := ob_some hv
          simp only [fNat_eq] at hv; cases hv
          show (ob (ψ b') fun b' => fNat o fun o' => fNat m fun m' => fNat c fun c' => some (Value.slice (some ⟨b', o', none⟩) m' c')) = _
          rw [h _ _ h1]
          show (fNat o fun o' => fNat m fun m' => fNat c fun c' => some (Value.slice (some ⟨b, o', none⟩) m' c')) = _
          simp only [fNat_eq]
    | map p =>
      cases p with
      | none => cases hv; rfl
      | some b =>
        have hv : (ob (φ b) fun b' => some (.map (some b'))) = some v' := hv
        obtain ⟨b', h1, hv⟩ := ob_some hv
        cases hv
        show (ob (ψ b') fun b' => some (Value.map (some b'))) = _
        rw [h _ _ h1]; rfl
    | chan => cases hv
    | func f a b =>
      cases f with
      | func f =>
        have hv : (ob (renL (renV φ n) a.toList) fun a' => ob (renL (renV φ n) b.toList) fun b' => some (.func (.func f) ⟨a'⟩ ⟨b'⟩)) = some v' := hv
        obtain ⟨a1, h1, hv⟩ := ob_some hv
        obtain ⟨b1, h2, hv⟩ := ob_some hv
        cases hv
        show (ob (renL (renV ψ n) a1) fun a' => ob (renL (renV ψ n) b1) fun b' => some (Value.func (.func f) ⟨a'⟩ ⟨b'⟩)) = _
        rw [ihl h1, ihl h2]; rfl
      | _ => cases hv
    | nilFunc => cases hv; rfl
    | nilIface => cases hv; rfl
    | iface t x =>
      have hv : (ob (renV φ n x) fun x' => some (.iface t x')) = some v' := hv
      obtain ⟨x1, h1, hv⟩ := ob_some hv
      cases hv
      show (ob (renV ψ n x1) fun x' => some (Value.iface t x')) = _
      rw [renV_inv h n _ _ h1]; rfl
    | agg a =>
      have hv : (ob (renL (renV φ n) a.toList) fun a' => some (.agg ⟨a'⟩)) = some v' := hv
      obtain ⟨a1, h1, hv⟩ := ob_some hv
      cases hv
      show (ob (renL (renV ψ n) a1) fun a' => some (Value.agg ⟨a'⟩)) = _
      rw [ihl h1]; rfl
    | tuple a =>
      have hv : (ob (renL (renV φ n) a.toList) fun a' => some (.tuple ⟨a'⟩)) = some v' := hv
      obtain ⟨a1, h1, hv⟩ := ob_some hv
      cases hv
      show (ob (renL (renV ψ n) a1) fun a' => some (Value.tuple ⟨a'⟩)) = _
      rw [ihl h1]; rfl
theorem renT_get {r : Value → Option Value} : ∀ {t t' : T (List Value)}, renT r t = some t' → ∀ i, (t.get i = none ∧ t'.get i = none) ∨ ∃ l l', t.get i = some l ∧ t'.get i = some l' ∧ renL r l = some l'
  | .e, t', h, i => by
    have h : some T.e = some t' := h
    cases h
    exact .inl ⟨T.get_e i, T.get_e i⟩
  | .n v l r0, t', h, i => by
    have h : (ob (renT r l) fun l => ob (renT r r0) fun r' => Option.rec (motive := fun _ => Option (T (List Value))) (some (.n none l r')) (fun c => ob (renL r c) fun c' => some (.n (some c') l r')) v) = some t' := h
    replace h := ob_some h
    obtain ⟨l1, h1, h⟩ := h
    replace h := ob_some h
    obtain ⟨r1, h2, h⟩ := h
    cases v with
    | none =>
      have h : some (T.n none l1 r1) = some t' := h
      cases h
      rcases nat_cases3 i with rfl | ⟨m, rfl⟩ | ⟨m, rfl⟩
      · exact .inl ⟨T.get_n0 .., T.get_n0 ..⟩
      · rw [T.get_odd, T.get_odd]; exact renT_get h1 m
      · rw [T.get_even, T.get_even]; exact renT_get h2 m
    | some c =>
      have h : (ob (renL r c) fun c' => some (T.n (some c') l1 r1)) = some t' := h
      replace h := ob_some h
      obtain ⟨c1, h3, h⟩ := h
      cases h
      rcases nat_cases3 i with rfl | ⟨m, rfl⟩ | ⟨m, rfl⟩
      · exact .inr ⟨c, c1, T.get_n0 .., T.get_n0 .., h3⟩
      · rw [T.get_odd, T.get_odd]; exact renT_get h1 m
      · rw [T.get_even, T.get_even]; exact renT_get h2 m
theorem renB_fwd {ρ1 ρ2 : Ren} {φ : Nat → Option Nat} {n : Nat} (h : ∀ a b x, φ a = some b → ρ1 a = some x → ρ2 b = some x) {k k' : Blk} {x : Loc} {w : World} (hk : renB (renV φ n) k = some k') (hb : BRel P ρ1 x w k) : BRel P ρ2 x w k' := by
  unfold renB at hk
  split at hk
  · rename_i c sz m et
    replace hk := ob_some hk
    obtain ⟨c', hc, hk⟩ := hk
    simp only [fNat_eq] at hk
    cases hk
    refine ⟨fun i l' e => ?_, hb.all, hb.free, hb.shape, hb.mult⟩
    rcases renT_get hc i with ⟨_, e2⟩ | ⟨l, l1, e1, e2, hl⟩
    · rw [e2] at e; cases e
    · rw [e2] at e; cases e
      obtain ⟨q1, q2, q3⟩ := hb.cell i l e1
      obtain ⟨r1, r2⟩ := renL_get hl
      refine ⟨q1, by rw [r1]; exact q2, fun j v' hj => ?_⟩
      obtain ⟨v, hv, hr⟩ := r2 j v' hj
      obtain ⟨u, hu, hvu⟩ := q3 j v hv
      exact ⟨u, hu, renV_fwd h n _ _ _ hr hvu⟩
  · cases hk

theorem nthN_eq : ∀ (i : Nat) (l : List Nat), nthN i l = l[i]?
  | 0, [] => rfl
  | 0, _ :: _ => rfl
  | i + 1, [] => rfl
  | i + 1, _ :: t => by
    show nthN i t = _
    rw [nthN_eq i t]; simp
theorem idxN_some : ∀ {l : List Nat} {a i j : Nat}, idxN l a i = some j → ∃ q, j = i + q ∧ l[q]? = some a
  | [], a, i, j, h => by cases h
  | x :: t, a, i, j, h => by
    have h : bif' (Nat.beq x a) (fNat i fun i => some i) (idxN t a (Nat.succ i)) = some j := h
    rw [bif'_eq] at h
    split at h
    · rename_i hb
      rw [fNat_eq] at h
      cases h
      exact ⟨0, rfl, by simp [Nat.eq_of_beq_eq_true hb]⟩
    · obtain ⟨q, h1, h2⟩ := idxN_some h
      exact ⟨q + 1, by omega, by simpa using h2⟩
/-- what lies where behind the laying. -/
theorem layN_get {r : Value → Option Value} {h : T Blk} : ∀ {l : List Nat} {i : Nat} {t t' : T Blk}, layN r h l i t = some t' → ∀ j,
    (j < i → t'.get j = t.get j) ∧ (i + l.length ≤ j → t'.get j = t.get j) ∧
    (∀ q a, l[q]? = some a → (h.get a = none ∧ t'.get (i + q) = none) ∨ ∃ b b', h.get a = some b ∧ renB r b = some b' ∧ t'.get (i + q) = some b')
  | [], i, t, t', e, j => by cases e; exact ⟨fun _ => rfl, fun _ => rfl, fun q a ha => by simp at ha⟩
  | a :: l, i, t, t', e, j => by
    have hput : ∃ (x : Option Blk) (t1 : T Blk), T.put x t i = some t1 ∧ layN r h l (Nat.succ i) t1 = some t' ∧ ((h.get a = none ∧ x = none) ∨ ∃ b b', h.get a = some b ∧ renB r b = some b' ∧ x = some b') := by
      have e : Option.rec (motive := fun _ => Option (T Blk)) (ob (T.put none t i) fun t' => layN r h l (Nat.succ i) t') (fun b => ob (renB r b) fun b' => ob (T.put (some b') t i) fun t' => layN r h l (Nat.succ i) t') (h.get a) = some t' := e
      cases hg : h.get a with
      | none =>
        rw [hg] at e
        replace e := ob_some e
        obtain ⟨t1, e1, e2⟩ := e
        exact ⟨none, t1, e1, e2, .inl ⟨rfl, rfl⟩⟩
      | some b =>
        rw [hg] at e
        replace e := ob_some e
        obtain ⟨b', e0, e⟩ := e
        replace e := ob_some e
        obtain ⟨t1, e1, e2⟩ := e
        exact ⟨some b', t1, e1, e2, .inr ⟨b, b', rfl, e0, rfl⟩⟩
    obtain ⟨x, t1, e1, e2, hx⟩ := hput
    have hg := T.get_put x t i t1 e1
    have ih := fun j => layN_get e2 j
    refine ⟨fun hj => ?_, fun hj => ?_, fun q a' hq => ?_⟩
    · rw [(ih j).1 (by omega), hg, if_neg (by omega)]
    · rw [(ih j).2.1 (by simp at hj; omega), hg, if_neg (by simp at hj; omega)]
    · cases q with
      | zero =>
        simp at hq; subst hq
        have : t'.get i = x := by rw [(ih i).1 (by omega), hg, if_pos rfl]
        rcases hx with ⟨h1, h2⟩ | ⟨b, b', h1, h2, h3⟩
        · exact .inl ⟨h1, by show t'.get (i + 0) = none; rw [Nat.add_zero, this, h2]⟩
        · exact .inr ⟨b, b', h1, h2, by show t'.get (i + 0) = _; rw [Nat.add_zero, this, h3]⟩
      | succ q =>
        simp at hq
        have := (ih 0).2.2 q a' hq
        rw [show i.succ + q = i + (q + 1) by omega] at this
        exact this
theorem renB_ro {r : Value → Option Value} {k k' : Blk} (h : renB r k = some k') : isRo k = false ∧ isRo k' = false := by
  unfold renB at h
  split at h
  · replace h := ob_some h
    obtain ⟨c', hc, h⟩ := h
    simp only [fNat_eq] at h
    cases h
    exact ⟨rfl, rfl⟩
  · cases h
theorem outO_val {o : Option (Value × AS)} {v : Value} {s : AS} (h : outO o = .val v s) : o = some (v, s) := by
  cases o with
  | none => cases h
  | some p => obtain ⟨a, b⟩ := p; cases h; rfl
theorem nodup_at : ∀ {l : List Nat}, l.Nodup → ∀ {i j a : Nat}, l[i]? = some a → l[j]? = some a → i = j
  | [], _, i, j, a, h, _ => by simp at h
  | x :: t, hn, 0, 0, a, _, _ => rfl
  | x :: t, hn, 0, j + 1, a, h1, h2 => by
    simp at h1 h2
    subst h1
    exact absurd (List.mem_of_getElem? h2) (List.nodup_cons.1 hn).1
  | x :: t, hn, i + 1, 0, a, h1, h2 => by
    simp at h1 h2
    subst h2
    exact absurd (List.mem_of_getElem? h1) (List.nodup_cons.1 hn).1
  | x :: t, hn, i + 1, j + 1, a, h1, h2 => by
    simp at h1 h2
    rw [nodup_at (List.nodup_cons.1 hn).2 h1 h2]
/-- A CALL AT THE CANONICAL RENAMING CAN BE TRUSTED. -/
theorem iso_ok {B : Ev} (hB : EvOk P B) {f : Nat} {args args' : List Value} {s s' : AS} {v : Value} (h : isoCall B f args s = .val v s') {ρ : Ren} {w : World} (hR : Rel P ρ s w) (ha : VRels ρ args args') :
    CallRun P (callFunc f args'.toArray) w fun u w' => ∃ ρ', VRel ρ' v u ∧ Rel P ρ' s' w' ∧ Stp ρ s w ρ' s' w' := by
  unfold isoCall at h
  cases hl : (ob (addL (addV 0 12) args []) fun l => reachN s.h 0 12 200 0 l) with
  | none => rw [hl] at h; cases h
  | some l =>
  rw [hl] at h
  have h : bif' (bif' (distinctN l) (allLt s.nx l) false) (Option.rec (motive := fun _ => Out) .no (fun args' =>
        Option.rec (motive := fun _ => Out) .no (fun h => fNatO (len l) fun k => isoBack s l k (B (.func (.func f) #[] #[]) args' ⟨h, k, k⟩))
          (layN (renV (fun a => idxN l a 0) 12) s.h l 0 (fullT 20))) (renL (renV (fun a => idxN l a 0) 12) args)) .no = .val v s' := h
  rw [bif'_eq] at h
  split at h
  case isFalse => cases h
  rename_i hc
  obtain ⟨hnd, hlt⟩ := bif_tt hc
  replace hnd := distinct_nodup hnd
  replace hlt := allLt_mem hlt
  cases hargs : renL (renV (fun a => idxN l a 0) 12) args with
  | none => rw [hargs] at h; cases h
  | some a1 =>
  rw [hargs] at h
  cases hlay : layN (renV (fun a => idxN l a 0) 12) s.h l 0 (fullT 20) with
  | none => rw [hlay] at h; cases h
  | some hin =>
  rw [hlay] at h
  have h : fNatO (len l) (fun k => isoBack s l k (B (.func (.func f) #[] #[]) a1 ⟨hin, k, k⟩)) = .val v s' := h
  have hfn : ∀ (n : Nat) (k : Nat → Out), fNatO n k = k n := fun n k => by cases n <;> rfl
  rw [hfn, len_eq] at h
  cases ho : B (.func (.func f) #[] #[]) a1 ⟨hin, l.length, l.length⟩ with
  | no => rw [ho] at h; cases h
  | code => rw [ho] at h; cases h
  | val v1 s1 =>
  rw [ho] at h
  have h : outO (ob (ob (addV l.length 12 v1 []) fun m => reachN s1.h l.length 12 200 0 m) fun m => bif' (bif' (distinctN m) (allGe l.length m) false)
      (ob (renV (backN l m l.length s.nx) 12 v1) fun v' => ob (layN (renV (backN l m l.length s.nx) 12) s1.h m s.nx s.h) fun h => fNat (Nat.add s.nx (len m)) fun nx => fNat s.lim fun lm => some (v', ⟨h, nx, lm⟩)) none) = .val v s' := h
  replace h := outO_val h
  obtain ⟨m, hm, h⟩ := ob_some h
  rw [bif'_eq] at h
  split at h
  case isFalse => cases h
  rename_i hc2
  obtain ⟨hmd, hmge⟩ := bif_tt hc2
  replace hmd := distinct_nodup hmd
  replace hmge := allGe_mem hmge
  obtain ⟨v2, hv2, h⟩ := ob_some h
  obtain ⟨hout, hlay2, h⟩ := ob_some h
  rw [fNat_eq, fNat_eq, len_eq] at h
  cases h
  -- the renaming of the canonical state
  have hin_get := fun j => layN_get hlay j
  have hφ : ∀ a j, idxN l a 0 = some j → l[j]? = some a := fun a j e => by
    obtain ⟨q, h1, h2⟩ := idxN_some e
    rw [h1, Nat.zero_add]; exact h2
  have hρ1 : ∃ ρ1 : Ren, ρ1 = fun j => match l[j]? with | some a => ρ a | none => none := ⟨_, rfl⟩
  obtain ⟨ρ1, hρ1⟩ := hρ1
  have hρ1s : ∀ j a, l[j]? = some a → ρ1 j = ρ a := fun j a e => by rw [hρ1]; show (match l[j]? with | some a => ρ a | none => none) = _; rw [e]
  have hρ1n : ∀ j, l.length ≤ j → ρ1 j = none := fun j e => by rw [hρ1]; show (match l[j]? with | some a => ρ a | none => none) = _; rw [List.getElem?_eq_none e]
  have hfwd : ∀ a b x, idxN l a 0 = some b → ρ a = some x → ρ1 b = some x := fun a b x e1 e2 => by rw [hρ1s b a (hφ a b e1), e2]
  have hin_some : ∀ j k', hin.get j = some k' → j < l.length ∧ ∃ a k, l[j]? = some a ∧ s.h.get a = some k ∧ renB (renV (fun a => idxN l a 0) 12) k = some k' := fun j k' e => by
    by_cases hj : j < l.length
    · refine ⟨hj, l[j], ?_⟩
      rcases (hin_get 0).2.2 j l[j] (by simp [hj]) with ⟨_, e2⟩ | ⟨k, k1, e1, e2, e3⟩
      · rw [Nat.zero_add, e] at e2; cases e2
      · rw [Nat.zero_add, e] at e3; cases e3
        exact ⟨k, by simp [hj], e1, e2⟩
    · rw [(hin_get j).2.1 (by omega), fullT_get] at e; cases e
  have hR1 : Rel P ρ1 ⟨hin, l.length, l.length⟩ w := by
    refine ⟨fun a ha => hρ1n a ha, fun a ha => ?_, fun a k x e e' => ?_, Nat.le_refl _, fun a a' k k' x x' hne e1 e2 r1 r2 hb => ?_, fun g gl vs g1 g2 => ?_⟩
    rotate_right
    · obtain ⟨c1, c2, c3⟩ := hR.gl g gl vs g1 g2
      refine ⟨c1, ?_, c3⟩
      rintro ⟨j, k, x, e, e', hb⟩
      obtain ⟨_, b, k0, q1, q2, _⟩ := hin_some j k e
      rw [hρ1s j b q1] at e'
      exact c2 ⟨b, k0, x, q2, e', hb⟩
    · cases e : hin.get a with
      | none => rfl
      | some k => have := (hin_some a k e).1; have ha : l.length ≤ a := ha; omega
    · obtain ⟨hj, b, k0, q1, q2, q3⟩ := hin_some a k e
      rw [hρ1s a b q1] at e'
      obtain ⟨b1, b2⟩ := hR.blk b k0 x q2 e'
      exact ⟨b1, renB_fwd hfwd q3 b2⟩
    · obtain ⟨_, b, k0, q1, q2, q3⟩ := hin_some a k e1
      obtain ⟨_, b', k0', q1', q2', q3'⟩ := hin_some a' k' e2
      rw [hρ1s a b q1] at r1
      rw [hρ1s a' b' q1'] at r2
      have hne' : b ≠ b' := fun he => by
        subst he
        exact hne (nodup_at hnd q1 q1')
      have := (hR.excl b b' k0 k0' x x' hne' q2 q2' r1 r2 hb).1
      rw [(renB_ro q3).1] at this; cases this
  have ha1 : VRels ρ1 a1 args' := f2_vrels (renL_rels (fun v v' u => renV_fwd hfwd 12 v v' u) hargs (vrels_f2 ha))
  have hrun := hB _ _ _ _ _ ho ρ1 w (.func (.func f) #[] #[]) args' hR1 (.func f .nil .nil) ha1
  have hcall : callOf (.func (.func f) #[] #[]) args' = callFunc f args'.toArray := by
    unfold callOf
    simp only [Deferred.ofValue, pure_bind, invoke]
    congr 1
    apply Array.ext'
    simp
  rw [hcall] at hrun
  refine hrun.mono fun u w' ⟨ρ2, hv, hR2, hS⟩ => ?_
  have hS1 : s1.lim = l.length := hS.lim
  have hlow : ∀ j, j < l.length → s1.h.get j = hin.get j := fun j hj => hS.low j hj
  have hren2 : ∀ j, j < l.length → ρ2 j = ρ1 j := fun j hj => hS.ren j hj
  -- what was there lies as it lay
  have hkeep : ∀ b, b < w.heap.size → w'.heap[b]? = w.heap[b]? := fun b hb => by
    by_cases hh : Held ρ1 ⟨hin, l.length, l.length⟩ b
    · obtain ⟨j, k, x, e1, e2, e3⟩ := hh
      obtain ⟨hj, a, k0, q1, q2, q3⟩ := hin_some j k e1
      rw [← e3]
      exact hS.lowW j k x hj hj e1 (renB_ro q3).2 e2
    · exact (hS.frame b hb hh).1
  -- no new block lies where an old one does
  have hnew : ∀ j k x, l.length ≤ j → s1.h.get j = some k → isRo k = false → ρ2 j = some x → x.b < w.heap.size → False := fun j k x hj e1 ero e2 hb => by
    by_cases hh : Held ρ1 ⟨hin, l.length, l.length⟩ x.b
    · obtain ⟨j0, k0, x0, f1, f2, f3⟩ := hh
      obtain ⟨hj0, a, kk, q1, q2, q3⟩ := hin_some j0 k0 f1
      have := hR2.excl j j0 k k0 x x0 (by omega) e1 (by rw [hlow j0 hj0]; exact f1) e2 (by rw [hren2 j0 hj0]; exact f2) f3.symm
      rw [ero] at this; cases this.1
    · exact (hS.frame x.b hb hh).2 ⟨j, k, x, e1, e2, rfl⟩
  have hρ3 : ∃ ρ3 : Ren, ρ3 = fun a => if a < s.nx then ρ a else match m[a - s.nx]? with | some j => ρ2 j | none => none := ⟨_, rfl⟩
  obtain ⟨ρ3, hρ3⟩ := hρ3
  have hρ3l : ∀ a, a < s.nx → ρ3 a = ρ a := fun a ha => by rw [hρ3]; simp [ha]
  have hρ3m : ∀ q j, m[q]? = some j → ρ3 (s.nx + q) = ρ2 j := fun q j e => by
    rw [hρ3]
    have e1 : ¬ (s.nx + q < s.nx) := by omega
    have e2 : s.nx + q - s.nx = q := by omega
    simp only [e1, if_false, e2, e]
  have hρ3n : ∀ a, s.nx + m.length ≤ a → ρ3 a = none := fun a ha => by
    rw [hρ3]
    have e1 : ¬ (a < s.nx) := by omega
    have e2 : m[a - s.nx]? = none := List.getElem?_eq_none (by omega)
    simp only [e1, if_false, e2]
  have hle : RenLe ρ ρ3 := fun a x e => by
    by_cases ha : a < s.nx
    · rw [hρ3l a ha, e]
    · rw [hR.dom a (by omega)] at e; cases e
  have hback : ∀ j a x, backN l m l.length s.nx j = some a → ρ2 j = some x → ρ3 a = some x := fun j a x e e2 => by
    unfold backN at e
    rw [bif'_eq] at e
    split at e
    · rename_i hj
      have hj : j < l.length := by have := Nat.le_of_ble_eq_true hj; omega
      obtain ⟨a', e0, e⟩ := ob_some e
      rw [fNat_eq] at e; cases e
      rw [nthN_eq] at e0
      rw [hren2 j hj, hρ1s j a e0] at e2
      exact hle a x e2
    · obtain ⟨q, h1, h2⟩ := idxN_some e
      rw [h1, hρ3m q j h2, e2]
  have hout_get := fun j => layN_get hlay2 j
  have hout_old : ∀ a, a < s.nx → hout.get a = s.h.get a := fun a ha => (hout_get a).1 ha
  have hout_new : ∀ a k, s.nx ≤ a → hout.get a = some k → ∃ q j k0, a = s.nx + q ∧ m[q]? = some j ∧ s1.h.get j = some k0 ∧ renB (renV (backN l m l.length s.nx) 12) k0 = some k := fun a k ha e => by
    by_cases hq : a - s.nx < m.length
    · refine ⟨a - s.nx, m[a - s.nx], ?_⟩
      rcases (hout_get 0).2.2 (a - s.nx) m[a - s.nx] (by simp [hq]) with ⟨_, e2⟩ | ⟨k0, k1, e1, e2, e3⟩
      · rw [show s.nx + (a - s.nx) = a by omega, e] at e2; cases e2
      · rw [show s.nx + (a - s.nx) = a by omega, e] at e3; cases e3
        exact ⟨k0, by omega, by simp [hq], e1, e2⟩
    · rw [(hout_get a).2.1 (by omega), hR.top a ha] at e; cases e
  refine ⟨ρ3, renV_fwd hback 12 _ _ _ hv2 hv, ?_, ?_⟩
  · refine ⟨fun a ha => hρ3n a ha, fun a ha => ?_, fun a k x e e' => ?_, Nat.le_trans hR.lim (Nat.le_add_right _ _), fun a a' k k' x x' hne e1 e2 r1 r2 hb => ?_, fun g gl vs g1 g2 => ?_⟩
    rotate_right
    · obtain ⟨c1, c2, c3⟩ := hR2.gl g gl vs g1 g2
      refine ⟨c1, ?_, c3⟩
      rintro ⟨a, k, x, e, e', hb⟩
      have e : hout.get a = some k := e
      by_cases ha : a < s.nx
      · rw [hout_old a ha] at e
        rw [hρ3l a ha] at e'
        exact (hR.gl g gl vs g1 g2).2.1 ⟨a, k, x, e, e', hb⟩
      · obtain ⟨q, j, k0, rfl, f1, f2, _⟩ := hout_new a k (by omega) e
        rw [hρ3m q j f1] at e'
        exact c2 ⟨j, k0, x, f2, e', hb⟩
    · have ha : s.nx + m.length ≤ a := ha
      show hout.get a = none
      rw [(hout_get a).2.1 ha, hR.top a (by omega)]
    · by_cases ha : a < s.nx
      · have e : hout.get a = some k := e
        rw [hout_old a ha] at e
        rw [hρ3l a ha] at e'
        obtain ⟨b1, b2⟩ := hR.blk a k x e e'
        exact ⟨Nat.lt_of_lt_of_le b1 hS.size, (b2.congr (hkeep _ b1)).mono hle⟩
      · obtain ⟨q, j, k0, rfl, f1, f2, f3⟩ := hout_new a k (by omega) e
        rw [hρ3m q j f1] at e'
        obtain ⟨b1, b2⟩ := hR2.blk j k0 x f2 e'
        exact ⟨b1, renB_fwd hback f3 b2⟩
    · have key : ∀ a a' k k' x x', a < s.nx → s.nx ≤ a' → hout.get a = some k → hout.get a' = some k' → ρ3 a = some x → ρ3 a' = some x' → x.b = x'.b → False := fun a a' k k' x x' ha ha' e1 e2 r1 r2 hb => by
        obtain ⟨q, j, k0, rfl, f1, f2, f3⟩ := hout_new a' k' ha' e2
        rw [hout_old a ha] at e1
        rw [hρ3l a ha] at r1
        rw [hρ3m q j f1] at r2
        have := (hR.blk a k x e1 r1).1
        exact hnew j k0 x' (hmge j (List.mem_of_getElem? f1)) f2 (renB_ro f3).1 r2 (by rw [← hb]; exact this)
      by_cases ha : a < s.nx
      · by_cases ha' : a' < s.nx
        · have e1 : hout.get a = some k := e1
          have e2 : hout.get a' = some k' := e2
          rw [hout_old a ha] at e1
          rw [hout_old a' ha'] at e2
          rw [hρ3l a ha] at r1
          rw [hρ3l a' ha'] at r2
          exact hR.excl a a' k k' x x' hne e1 e2 r1 r2 hb
        · exact (key a a' k k' x x' ha (by omega) e1 e2 r1 r2 hb).elim
      · by_cases ha' : a' < s.nx
        · exact (key a' a k' k x' x ha' (by omega) e2 e1 r2 r1 hb.symm).elim
        · obtain ⟨q, j, k0, rfl, f1, f2, f3⟩ := hout_new a k (by omega) e1
          obtain ⟨q', j', k0', rfl, f1', f2', f3'⟩ := hout_new a' k' (by omega) e2
          rw [hρ3m q j f1] at r1
          rw [hρ3m q' j' f1'] at r2
          have hne' : j ≠ j' := fun he => by
            subst he
            exact hne (by rw [nodup_at hmd f1 f1'])
          have := (hR2.excl j j' k0 k0' x x' hne' f2 f2' r1 r2 hb).1
          rw [(renB_ro f3).1] at this; cases this
  · refine ⟨fun a ha => hρ3l a ha, Nat.le_add_right _ _, hS.tape, hS.os, hS.out, hS.size, fun b hb hn => ⟨hkeep b hb, ?_⟩, fun a ha hn => .inl (hout_old a ha), hS.lp, rfl, fun a ha => hout_old a (Nat.lt_of_lt_of_le ha hR.lim), fun a k x ha ha' e ero e' => hkeep _ (hR.blk a k x e e').1⟩
    rintro ⟨a, k, x, e1, e2, e3⟩
    by_cases ha : a < s.nx
    · have e1 : hout.get a = some k := e1
      rw [hout_old a ha] at e1
      rw [hρ3l a ha] at e2
      exact hn ⟨a, k, x, e1, e2, e3⟩
    · obtain ⟨q, j, k0, rfl, f1, f2, f3⟩ := hout_new a k (by omega) e1
      rw [hρ3m q j f1] at e2
      exact hnew j k0 x (hmge j (List.mem_of_getElem? f1)) f2 (renB_ro f3).1 e2 (by rw [e3]; exact hb)
theorem isoFF_ok {B : Ev} (hB : EvOk P B) {f : Nat} {F : FF} (hF : FFOk P f F) : FFOk P f (isoFF B f F) := by
  intro ev hev args s v s' hr ρ w args' hR ha
  have hr : orOut (isoCall B f args s) (F ev args s) = .val v s' := hr
  cases hi : isoCall B f args s with
  | no => rw [hi] at hr; exact hF ev hev args s v s' hr ρ w args' hR ha
  | code => rw [hi] at hr; exact hF ev hev args s v s' hr ρ w args' hR ha
  | val v1 s1 =>
    rw [hi] at hr
    cases hr
    exact iso_ok hB hi hR ha
theorem lookupB_mem {f : Nat} {e : Ev} : ∀ {l : List (Nat × Ev)}, lookupB f l = some e → ∃ p ∈ l, p.2 = e
  | [], h => by cases h
  | p :: l, h => by
    have h : bif' (Nat.beq f p.1) (some p.2) (lookupB f l) = some e := h
    rw [bif'_eq] at h
    split at h
    · cases h; exact ⟨p, by simp, rfl⟩
    · obtain ⟨q, h1, h2⟩ := lookupB_mem h
      exact ⟨q, by simp [h1], h2⟩
theorem fnI_call {X : Cfg} (hX : CfgOk P X) {L : List (Nat × Ev)} (hL : ∀ p ∈ L, EvOk P p.2) {f : Nat} {F : FF} (h : mkFnI P X L f = some F) : FFOk P f F := by
  obtain ⟨F0, h0, h⟩ := ob_some h
  cases hb : lookupB f L with
  | none => rw [hb] at h; cases h; exact fn_call hX h0
  | some B =>
    rw [hb] at h; cases h
    obtain ⟨p, hp, rfl⟩ := lookupB_mem hb
    exact isoFF_ok (hL p hp) (fn_call hX h0)
theorem stepI_ok {X : Cfg} (hX : CfgOk P X) {L : List (Nat × Ev)} (hL : ∀ p ∈ L, EvOk P p.2) {ev : Ev} (hev : EvOk P ev) : EvOk P (stepI P X L ev) := by
  intro f args s v s' h ρ w f' args' hR hf ha
  unfold stepI at h
  split at h
  · rename_i fi first cap
    cases hf with | @func _ _ _ fa fb h1 h2 => ?_
    have h : Option.rec (motive := fun _ => Out) .no (fun F => F ev (app first.toList (app args cap.toList)) s) (mkFnI P X L fi) = .val v s' := h
    cases hF : mkFnI P X L fi with
    | none => rw [hF] at h; cases h
    | some F =>
      rw [hF] at h
      have ha' : VRels ρ (app first.toList (app args cap.toList)) (fa.toList ++ (args' ++ fb.toList)) := by
        rw [app_eq, app_eq]
        exact h1.append (ha.append h2)
      have := fnI_call hX hL hF ev hev _ s v s' h ρ w _ hR ha'
      have he : callOf (.func (.func fi) fa fb) args' = callFunc fi (fa.toList ++ (args' ++ fb.toList)).toArray := by
        unfold callOf
        simp only [Deferred.ofValue, pure_bind, invoke]
        congr 1
        apply Array.ext'
        simp
      rw [he]
      exact this
  · rename_i l first cap
    cases hf with | @yield _ x _ _ fa fb hx h1 h2 => ?_
    have ha' : VRels ρ (app first.toList args) (fa.toList ++ args') := by
      rw [app_eq]; exact h1.append ha
    have := yield_ok hX.plain hX.mixed hev h hR hx ha'
    have he : callOf (.func (.yield x.b) fa fb) args' = Instr.yield x.b (fa.toList ++ args').toArray := by
      unfold callOf
      simp only [Deferred.ofValue, pure_bind, invoke]
      congr 1
      apply Array.ext'
      simp
    rw [he]
    exact this
  · cases h
/-- THE EVALUATOR WITH RENAMED CALLS CAN BE TRUSTED. -/
theorem evalI_ok {X : Cfg} (hX : CfgOk P X) {L : List (Nat × Ev)} (hL : ∀ p ∈ L, EvOk P p.2) : ∀ n, EvOk P (evalI P X L n)
  | 0 => fun f args s v s' h => by cases h
  | n + 1 => stepI_ok hX hL (evalI_ok hX hL n)
end Go.Eng
/-! Entries and laws, by any evaluator that can be trusted. -/
namespace Go.Eng
open Go
variable {P : Program}
theorem entryI_ok {ev : Ev} (hev : EvOk P ev) {e : Entry} (h : outIs e (ev (.func (.func e.f) #[] #[]) e.args ⟨roomH e.hin, e.nx, 0⟩) = true) : EntryOk P e := by
  intro ρ w args' hR ha
  cases ho : ev (.func (.func e.f) #[] #[]) e.args ⟨roomH e.hin, e.nx, 0⟩ with
  | no => rw [ho] at h; cases h
  | code => rw [ho] at h; cases h
  | val v s =>
    rw [ho] at h
    obtain ⟨h1, h⟩ := bif_tt h
    obtain ⟨h2, h⟩ := bif_tt h
    obtain ⟨h3, h4⟩ := bif_tt h
    have hv := vEq_sound 12 _ _ h1
    have hnx := Nat.eq_of_beq_eq_true h2
    have hlim := Nat.eq_of_beq_eq_true h3
    have hsub := subH_get h4
    subst hv
    obtain ⟨sh, snx, slim⟩ := s
    cases hnx
    cases hlim
    have := hev _ _ _ _ _ ho ρ w (.func (.func e.f) #[] #[]) args' hR.room (.func e.f .nil .nil) ha
    have hc : callOf (.func (.func e.f) #[] #[]) args' = callFunc e.f args'.toArray := by
      unfold callOf
      simp only [Deferred.ofValue, pure_bind, invoke]
      congr 1
      apply Array.ext'
      simp
    rw [hc] at this
    refine this.mono fun u w' ⟨ρ', hv, hR', hS'⟩ => ⟨ρ', hv, hR'.less hsub (Nat.zero_le _), (hS'.less hsub rfl).room⟩
theorem evI_calls {ev : Ev} (hev : EvOk P ev) (hX : Plainly P) {f : Nat} {fn : Func} {c : Code} {v : Value} {s' : AS} (hf : P.funcs[f]? = some fn) (hb : fn.body = some c) (h : ev (.func (.func f) #[] #[]) [] ⟨roomH .e, 0, 0⟩ = .val v s') (w : World) (hG : GWorld P w) :
    Calls P f #[] w fun e w' => ∃ u ρ', e = .returned u ∧ VRel ρ' v u ∧ (∀ b, b < w.heap.size → w'.heap[b]? = w.heap[b]?) ∧ w.heap.size ≤ w'.heap.size ∧ w'.tape = w.tape ∧ w'.os = w.os ∧ w'.output = w.output := by
  have hR : Rel P (fun _ => none) ⟨roomH .e, 0, 0⟩ w := Rel.room ⟨fun _ _ => rfl, fun a _ => T.get_e a, fun a k x e => (by rw [T.get_e] at e; cases e), Nat.le_refl _, fun a a' k k' x x' _ e => (by rw [T.get_e] at e; cases e),
    fun g gl vs g1 g2 => ⟨(hG g gl vs g1 g2).1, fun ⟨a, k, x, e, _⟩ => (by rw [T.get_e] at e; cases e), (hG g gl vs g1 g2).2⟩⟩
  have := hev _ _ _ _ _ h _ w (.func (.func f) #[] #[]) [] hR (.func f .nil .nil) .nil
  unfold CallRun at this
  have hc : (callOf (.func (.func f) #[] #[]) []).run P w = .ok (.enter f #[]) w := by
    unfold callOf
    simp only [Deferred.ofValue, pure_bind, invoke]
    exact callFunc_body hX hf hb _ w
  rw [hc] at this
  refine callsIn_wide.1 (CallsIn.mono this ?_)
  rintro e w' ⟨u, rfl, ρ', hv, hR', hS'⟩
  refine ⟨u, ρ', rfl, hv, fun b hb => (hS'.frame b hb ?_).1, hS'.size, hS'.tape, hS'.os, hS'.out⟩
  rintro ⟨a, k, x, e, _⟩
  have e : (roomH .e).get a = some k := e
  rw [roomH_get, T.get_e] at e; cases e
/-- A LAW WITHOUT ARGUMENTS: the evaluator says 'true'. -/
theorem callsI_true {ev : Ev} (hev : EvOk P ev) (hX : Plainly P) {f : Nat} {fn : Func} {c : Code} (hf : P.funcs[f]? = some fn) (hb : fn.body = some c) (h : outV (.bool true) (ev (.func (.func f) #[] #[]) [] ⟨roomH .e, 0, 0⟩) = true) (w : World) (hG : GWorld P w) :
    Calls P f #[] w fun e w' => e = .returned (.bool true) ∧ (∀ b, b < w.heap.size → w'.heap[b]? = w.heap[b]?) ∧ w.heap.size ≤ w'.heap.size ∧ w'.tape = w.tape ∧ w'.os = w.os ∧ w'.output = w.output := by
  cases ho : ev (.func (.func f) #[] #[]) [] ⟨roomH .e, 0, 0⟩ with
  | no => rw [ho] at h; cases h
  | code => rw [ho] at h; cases h
  | val v s =>
    rw [ho] at h
    have hv := vEq_sound 12 _ _ h
    subst hv
    refine (evI_calls hev hX hf hb ho w hG).mono ?_
    rintro e w' ⟨u, ρ', he, hv, rest⟩
    cases hv
    exact ⟨he, rest⟩
theorem lstB_ok {B : Ev} (hB : EvOk P B) {r : List (Nat × Ev)} (hr : ∀ p ∈ r, EvOk P p.2) : ∀ l : List Nat, ∀ p ∈ lstB l B r, EvOk P p.2
  | [], p, hp => hr p hp
  | f :: l, p, hp => by
    have hp : p ∈ (f, B) :: lstB l B r := hp
    rcases List.mem_cons.1 hp with rfl | hp
    · exact hB
    · exact lstB_ok hB hr l p hp
end Go.Eng
/-! errors.As at a concrete target. -/
namespace Go.Eng
open Go
variable {P : Program}
/-- what is known of errors.errorType. -/
def ErrT (P : Program) (w : World) : Prop := ∀ g gl, P.globals[g]? = some gl → gl.name = "errors.errorType" → g < w.heap.size ∧ w.cell? ⟨g, 0, none⟩ = some (errTV P)
theorem Rel.errT {ρ : Ren} {s : AS} {w : World} (h : Rel P ρ s w) : ErrT P w := fun g gl hg hn => by
  have : gTab P gl.name = some [errTV P] := by
    rw [hn]; unfold gTab
    have : globTab "errors.errorType" = none := by
      unfold globTab
      have : ("errors.errorType" == "internal/strconv.uint64pow10") = false := by decide
      rw [this]; rfl
    rw [this]; rfl
  obtain ⟨a, _, c⟩ := h.gl g gl _ hg this
  exact ⟨a, c 0 _ rfl⟩
/-- errors.As, where the error's own type is the target's element type: a nil error; one that is hit. -/
structure AsFits (P : Program) (f te tp : Nat) : Prop where
  enter : ∀ args w, (callFunc f args).run P w = .ok (.enter f args) w
  nil : ∀ (t : Value) (w : World), Calls P f #[.nilIface, t] w fun e w' => e = .returned (.bool false) ∧ w' = w
  hit : ∀ (e t : Addr) (old : Value) (w : World), ErrT P w → w.cell? t = some old → w.frozen? t = false →
    Calls P f #[.iface te (.pointer (some e)), .iface tp (.pointer (some t))] w fun ev w' => ev = .returned (.bool true) ∧
      ∃ w1 : World, w.heap.size ≤ w1.heap.size ∧ (∀ b, b < w.heap.size → w1.heap[b]? = w.heap[b]?) ∧ w1.tape = w.tape ∧ w1.os = w.os ∧ w1.output = w.output ∧ w' = w1.setCell t (.pointer (some e))
theorem storeN_can {ρ : Ren} {s s' : AS} {w : World} {a off : Nat} {x : Loc} {v : Value} (hr : Rel P ρ s w) (hx : ρ a = some x) (h : storeN s a off [v] = some s') :
    x.b < w.heap.size ∧ (∃ old, w.cell? ⟨x.b, x.base + off, none⟩ = some old) ∧ w.frozen? ⟨x.b, x.base + off, none⟩ = false := by
  unfold storeN at h
  obtain ⟨hone, h⟩ := bif'_some h
  obtain ⟨c, sz, n, ro, et, hb, h⟩ := cellsOf?_some h
  obtain ⟨hro, h⟩ := bif'_some' h
  subst hro
  obtain ⟨e, he, h⟩ := orec_some h
  obtain ⟨e', he', h⟩ := orec_some h
  obtain ⟨c', hc', h⟩ := orec_some h
  obtain ⟨hlt, hC⟩ := hr.blk a _ x hb hx
  have hC : CellsAt P ρ x w c sz n false et := hC
  obtain ⟨hi, hlen, hcell⟩ := hC.cell _ _ he
  obtain ⟨hel, hle⟩ := setL_eq _ _ _ _ he'
  have e0 : Nat.mod off sz = off % sz := rfl
  have e1 : Nat.div off sz = off / sz := rfl
  rw [e0] at hel hle
  rw [e1] at he hcell hc' hi
  have hdm : off / sz * sz + off % sz = off := by rw [Nat.mul_comm]; exact Nat.div_add_mod off sz
  have hle : off % sz + 1 ≤ e.length := hle
  obtain ⟨u, hu, _⟩ := hcell (off % sz) _ (List.getElem?_eq_getElem (by omega))
  have e2 : x.base + (off / sz * sz + off % sz) = x.base + off := by omega
  rw [e2] at hu
  refine ⟨hlt, ⟨u, hu⟩, ?_⟩
  cases hf : w.frozen? ⟨x.b, x.base + off, none⟩ with
  | false => rfl
  | true => have := (hC.free rfl _ hf).1; rw [hu] at this; cases this
theorem as_ok {f te tp : Nat} (hF : AsFits P f te tp) : FFOk P f (fun _ args s => outO (sumA s (.errAs te tp) args)) := by
  intro ev hev args s v s' h ρ w args' hR ha
  have h : outO (sumA0 s (.errAs te tp) args) = .val v s' := h
  cases hs : sumA0 s (.errAs te tp) args with
  | none => rw [hs] at h; cases h
  | some r =>
  rw [hs] at h
  cases h
  unfold CallRun
  rw [hF.enter]
  show CallsIn Fence.wide 0 P f args'.toArray w _
  unfold sumA0 at hs
  split at hs
  · rename_i he; cases he
  · rename_i he; cases he
  · rename_i he; cases he
  · rename_i x heq
    cases hs
    cases ha with | cons hv1 ha => ?_
    cases ha with | cons hv2 ha => ?_
    cases ha
    cases hv1
    refine CallsIn.mono (callsIn_wide.2 (hF.nil _ w)) ?_
    rintro e w' ⟨rfl, rfl⟩
    exact ⟨_, rfl, ρ, .bool false, hR, .refl _ _ _⟩
  · rename_i te' tp' t e u a heq
    cases heq
    replace hs := bif'_some hs
    obtain ⟨h1, hs⟩ := hs
    replace hs := bif'_some hs
    obtain ⟨h2, hs⟩ := hs
    have h1 := Nat.eq_of_beq_eq_true h1
    have h2 := Nat.eq_of_beq_eq_true h2
    subst h1 h2
    obtain ⟨s', hst, hs⟩ := ob_some hs
    cases hs
    cases ha with | cons hv1 ha => ?_
    cases ha with | cons hv2 ha => ?_
    cases ha
    cases hv1 with | iface _ hp1 => ?_
    cases hv2 with | iface _ hp2 => ?_
    cases hp1 with | @ptr a1 x1 o1 hx1 => ?_
    cases hp2 with | @ptr a2 x2 o2 hx2 => ?_
    obtain ⟨hlt, ⟨old, ho⟩, hfz⟩ := storeN_can hR hx2 hst
    refine CallsIn.mono (callsIn_wide.2 (hF.hit ⟨x1.b, x1.base + o1, none⟩ ⟨x2.b, x2.base + o2, none⟩ old w hR.errT ho hfz)) ?_
    rintro ev w' ⟨rfl, w1, b1, b2, b3, b4, b5, rfl⟩
    obtain ⟨g1, g2⟩ := hR.grow b1 b2 b3 b4 b5
    obtain ⟨w2, _, rfl, g3, g4⟩ := storeN_sound g1 hx2 hst (.cons (.ptr o1 hx1) .nil)
    exact ⟨_, rfl, ρ, .bool true, g3, g2.trans g4⟩
  · cases hs
end Go.Eng
/-! The tables that are known lie in the world, where the row lays them. -/
namespace Go.Eng
open Go
variable {P : Program}
theorem named_unique {n : String} {g g' : Nat} {gl : Global} (h : P.globalNamed n = some g) (hg : P.globals[g']? = some gl) (hn : gl.name = n) : g' = g := by
  unfold Program.globalNamed at h
  split at h
  · rename_i a ha
    cases h
    have hm : g' ∈ (List.range P.globals.size).filter fun g => (P.globals[g]?).any (·.name == n) := by
      rw [List.mem_filter]
      refine ⟨List.mem_range.2 (Array.getElem?_eq_some_iff.1 hg).1, ?_⟩
      rw [hg]; simp [hn]
    rw [ha] at hm
    simpa using hm
  · cases h
theorem laidVars_mem {w : World} : ∀ {l : List (String × DataW Unit)} {ps : List MemPlace} {n : String} {d : DataW Unit}, DataW.LaidVars P w l ps → (n, d) ∈ l →
    ∃ g t cs fuel p, P.globalNamed n = some g ∧ (P.globals[g]?).map (·.type) = some t ∧ w.var? P n = some cs ∧ DataW.trod (fun _ => ()) P w 0 (fun _ => true) false fuel t cs.toList = some (d, p)
  | [], _, _, _, _, h => by cases h
  | (n', d') :: l, ps, n, d, h, hm => by
    obtain ⟨g, t, cs, fuel, p, q, h1, h2, h3, h4, h5, _⟩ := h
    rcases List.mem_cons.1 hm with e | hm
    · cases e; exact ⟨g, t, cs, fuel, p, h1, h2, h3, h4⟩
    · exact laidVars_mem h5 hm
theorem var_size {w : World} {n : String} {g : Nat} {cs : Array Value} (h1 : P.globalNamed n = some g) (h3 : w.var? P n = some cs) : g < w.heap.size := by
  unfold World.var? at h3
  rw [h1] at h3
  simp only [Option.bind_some] at h3
  split at h3
  · rename_i hh; exact (Array.getElem?_eq_some_iff.1 hh).1
  · cases h3
/-- the table's datum. -/
def pow10D : DataW Unit := .agg ((List.range 20).map fun i => .lit (.int .u64 (10 ^ i : Nat)))
/-- THE TABLE LIES THERE. -/
theorem pow10_of_laid {w : World} {l : List (String × DataW Unit)} (hl : laidMetH P l w) {t e : TypeId}
    (hm : ("internal/strconv.uint64pow10", pow10D) ∈ l) (ht : ∀ g, P.globalNamed "internal/strconv.uint64pow10" = some g → (P.globals[g]?).map (·.type) = some t)
    (hu : P.underlying t = some (.array 20 e)) (he : P.underlying e = some (.int .u64)) (hc : P.cellsOf e = 1) {g : Nat} {gl : Global} (hg : P.globals[g]? = some gl) (hb : gl.name = "internal/strconv.uint64pow10") :
    g < w.heap.size ∧ ∀ (i : Nat) (v : Value), ((List.range 20).map fun i => Value.int .u64 (10 ^ i : Nat))[i]? = some v → w.cell? ⟨g, i, none⟩ = some v := by
  obtain ⟨⟨ps, hl, _, _⟩, _⟩ := laidMetH_iff.1 hl
  have hm' : ("internal/strconv.uint64pow10", pow10D) ∈ l.filter fun x => x.2.handleName?.isNone := List.mem_filter.2 ⟨hm, rfl⟩
  obtain ⟨g1, t1, cs, fuel, p, h1, h2, h3, h4⟩ := laidVars_mem hl hm'
  have hgg := named_unique h1 hg hb
  subst hgg
  have := ht _ h1
  rw [h2] at this
  injection this with this
  subst this
  obtain ⟨xs, m, rfl, hx, hlen, hn, hel⟩ := DataW.trod_array hu h4
  have hcell := World.var?_cell h1 h3
  refine ⟨var_size h1 h3, fun i v hiv => ?_⟩
  rw [List.getElem?_map] at hiv
  have hi : i < 20 := by
    rcases Nat.lt_or_ge i 20 with h | h
    · exact h
    · rw [List.getElem?_eq_none (by simpa using h)] at hiv; cases hiv
  rw [List.getElem?_range hi] at hiv
  injection hiv with hiv
  subst hiv
  have hi' := hel i hi
  rw [hc, Nat.mul_one] at hi'
  have hxi : xs[i]? = some xs[i] := by rw [List.getElem?_eq_getElem (by omega)]
  rw [hxi] at hi'
  obtain ⟨k, e1, e2, _⟩ := DataW.trod_int he hi'
  have hd : xs.map (·.1) = (List.range 20).map fun i => (.lit (.int .u64 (10 ^ i : Nat)) : DataW Unit) := by
    have := congrArg Prod.fst hx
    simp only [pow10D] at this
    injection this with this
    exact this.symm
  have hdi : (xs.map (·.1))[i]? = ((List.range 20).map fun i => (.lit (.int .u64 (10 ^ i : Nat)) : DataW Unit))[i]? := by rw [hd]
  rw [List.getElem?_map, List.getElem?_map, hxi, List.getElem?_range hi, e2] at hdi
  simp only [Option.map_some, Option.some.injEq, DataW.lit.injEq, Lit.int.injEq, true_and] at hdi
  rw [hcell]
  have hci : cs.toList[i]? = some (.int .u64 k) := by
    have : ((cs.toList.drop i).take 1)[0]? = some (.int .u64 k) := by rw [e1]; rfl
    rw [List.getElem?_take] at this
    simpa using this
  rw [Array.getElem?_toList] at hci
  rw [hci, hdi]
/-- the handle's datum. -/
def errD : DataW Unit := .iface "internal/reflectlite.rtype" (.agg [.ptr (.lit (.string [101, 114, 114, 111, 114]))])
/-- THE HANDLE LIES THERE. -/
theorem errT_of_laid {w : World} {l : List (String × DataW Unit)} (hl : laidMetH P l w) (hm : ("errors.errorType", errD) ∈ l) {u t : TypeId}
    (hrt : (P.cutTypes.find? (·.1 == "internal/reflectlite.rtype")).map (·.2) = some u) (ht : (List.range P.types.size).filter (fun t => P.rowNamed t [101, 114, 114, 111, 114]) = [t]) (hv : errTV P = .iface u (.agg #[typeHandle P t]))
    {gE : Nat} (hE : P.globalNamed "errors.errorType" = some gE) : ErrT P w := by
  intro g gl hg hb
  have hgg := named_unique hE hg hb
  subst hgg
  obtain ⟨_, h⟩ := laidMetH_iff.1 hl
  have hm' : ("errors.errorType", errD) ∈ l.filter fun x => x.2.handleName?.isSome := List.mem_filter.2 ⟨hm, by rfl⟩
  have h := h _ hm'
  obtain ⟨name, u', ty, e1, e2, e3, e4, e5⟩ := h
  have en : name = [101, 114, 114, 111, 114] := (Option.some.inj (show some [101, 114, 114, 111, 114] = some name from e1)).symm
  subst en
  obtain rfl := Option.some.inj (hrt.symm.trans e2)
  have hmm : ty ∈ (List.range P.types.size).filter fun t => P.rowNamed t [101, 114, 114, 111, 114] := List.mem_filter.2 ⟨List.mem_range.2 e3, e4⟩
  rw [ht] at hmm
  obtain rfl := List.mem_singleton.1 hmm
  refine ⟨var_size hE e5, ?_⟩
  rw [World.var?_cell hE e5 0, hv]
  rfl
theorem errT_none {w : World} (h : (P.globals.toList.all fun g => !(g.name == "errors.errorType")) = true) : ErrT P w := fun g gl hg hn => by
  have := List.all_eq_true.1 h gl (by simpa using Array.mem_of_getElem? hg)
  rw [hn] at this; simp at this
/-- ALL OF THEM. -/
theorem gworld_of {w : World} {t e : TypeId} {l : List (String × DataW Unit)} (hl : laidMetH P l w)
    (hm : ("internal/strconv.uint64pow10", pow10D) ∈ l) (ht : ∀ g, P.globalNamed "internal/strconv.uint64pow10" = some g → (P.globals[g]?).map (·.type) = some t)
    (hu : P.underlying t = some (.array 20 e)) (he : P.underlying e = some (.int .u64)) (hc : P.cellsOf e = 1) (hE : ErrT P w) : GWorld P w := by
  intro g gl vs hg hv
  unfold gTab at hv
  split at hv
  · rename_i vs' hv'
    cases hv
    unfold globTab at hv'
    cases hb : (gl.name == "internal/strconv.uint64pow10") with
    | false => rw [hb] at hv'; cases hv'
    | true =>
      rw [hb] at hv'
      have hv' : some ((List.range 20).map fun i => Value.int .u64 (10 ^ i : Nat)) = some vs := hv'
      injection hv' with hv'
      subst hv'
      exact pow10_of_laid hl hm ht hu he hc hg (by simpa using hb)
  · cases hb : (gl.name == "errors.errorType") with
    | false => rw [hb] at hv; cases hv
    | true =>
      rw [hb] at hv
      have hv : some [errTV P] = some vs := hv
      injection hv with hv
      subst hv
      obtain ⟨a, c⟩ := hE g gl hg (by simpa using hb)
      refine ⟨a, fun i v hiv => ?_⟩
      cases i with
      | zero => cases hiv; exact c
      | succ i => simp at hiv
end Go.Eng
/-! Functions that were made ready ahead. -/
namespace Go.Eng
open Go
variable {P : Program}
/-- a function made ready. -/
structure PreE (P : Program) (X : Cfg) where
  f : Nat
  o : Option FF
  h : mkFn P X f = o
/-- all of them, by their numbers. -/
noncomputable def preT {X : Cfg} (l : List (PreE P X)) : Option (T (Option FF)) :=
  List.rec (motive := fun _ => Option (T (Option FF))) (some (emptyT 11)) (fun p _ ih => ob ih fun t => T.put (some p.o) t p.f) l
/-- a trie of functions that are what they must be. -/
structure PreS (P : Program) (X : Cfg) where
  t : T (Option FF)
  h : ∀ f o, T.get t f = some o → mkFn P X f = o
theorem preT_ok {X : Cfg} : ∀ {l : List (PreE P X)} {t : T (Option FF)}, preT l = some t → ∀ f o, T.get t f = some o → mkFn P X f = o
  | [], t, h, f, o, hg => by
    have h : some (emptyT 11) = some t := h
    cases h
    rw [emptyT_get] at hg; cases hg
  | p :: l, t, h, f, o, hg => by
    have h : ob (preT l) (fun t => T.put (some p.o) t p.f) = some t := h
    obtain ⟨t0, h0, h⟩ := ob_some h
    rw [T.get_put _ _ _ _ h] at hg
    by_cases hf : f = p.f
    · rw [if_pos hf] at hg; cases hg; rw [hf]; exact p.h
    · rw [if_neg hf] at hg; exact preT_ok h0 f o hg
noncomputable def mkFnQ (P : Program) (X : Cfg) (pre : T (Option FF)) (L : List (Nat × Ev)) (f : Nat) : Option FF :=
  Option.rec (motive := fun _ => Option FF) (mkFnI P X L f)
    (fun o => Option.rec (motive := fun _ => Option FF) none (fun F =>
      Option.rec (motive := fun _ => Option FF) (some (tabFF (tabFor f X.tab) F)) (fun B => some (isoFF B f (tabFF (tabFor f X.tab) F))) (lookupB f L)) o) (T.get pre f)
noncomputable def callFnQ (P : Program) (X : Cfg) (pre : T (Option FF)) (L : List (Nat × Ev)) (ev : Ev) (f : Nat) (args : List Value) (s : AS) : Out :=
  Option.rec (motive := fun _ => Out) .no (fun F => F ev args s) (mkFnQ P X pre L f)
noncomputable def stepQ (P : Program) (X : Cfg) (pre : T (Option FF)) (L : List (Nat × Ev)) (ev : Ev) (f : Value) (args : List Value) (s : AS) : Out :=
  match f with
  | .func (.func f) first cap => callFnQ P X pre L ev f (app first.toList (app args cap.toList)) s
  | .func (.yield l) first _ => callYield P ev l (app first.toList args) s
  | _ => .no
noncomputable def evalQ (P : Program) (X : Cfg) (pre : T (Option FF)) (L : List (Nat × Ev)) (n : Nat) : Ev :=
  Nat.rec (motive := fun _ => Ev) (fun _ _ _ => .no) (fun _ ih => stepQ P X pre L ih) n
theorem fnQ_call {X X0 : Cfg} (hX : CfgOk P X) (hX0 : CfgOk P X0) {pre : T (Option FF)} (hp : ∀ f o, T.get pre f = some o → mkFn P X0 f = o) {L : List (Nat × Ev)} (hL : ∀ p ∈ L, EvOk P p.2) {f : Nat} {F : FF} (h : mkFnQ P X pre L f = some F) : FFOk P f F := by
  unfold mkFnQ at h
  cases hg : T.get pre f with
  | none => rw [hg] at h; exact fnI_call hX hL h
  | some o =>
    rw [hg] at h
    cases o with
    | none => cases h
    | some F0 =>
      have h0 := hp f _ hg
      have hF : FFOk P f (tabFF (tabFor f X.tab) F0) := tabFF_ok (fn_call hX0 h0) _ fun e he => ⟨(tabFor_mem he).2, hX.tab e (tabFor_mem he).1⟩
      have h : Option.rec (motive := fun _ => Option FF) (some (tabFF (tabFor f X.tab) F0)) (fun B => some (isoFF B f (tabFF (tabFor f X.tab) F0))) (lookupB f L) = some F := h
      cases hb : lookupB f L with
      | none => rw [hb] at h; cases h; exact hF
      | some B =>
        rw [hb] at h; cases h
        obtain ⟨p, hp', rfl⟩ := lookupB_mem hb
        exact isoFF_ok (hL p hp') hF
theorem stepQ_ok {X X0 : Cfg} (hX : CfgOk P X) (hX0 : CfgOk P X0) {pre : T (Option FF)} (hp : ∀ f o, T.get pre f = some o → mkFn P X0 f = o) {L : List (Nat × Ev)} (hL : ∀ p ∈ L, EvOk P p.2) {ev : Ev} (hev : EvOk P ev) : EvOk P (stepQ P X pre L ev) := by
  intro f args s v s' h ρ w f' args' hR hf ha
  unfold stepQ at h
  split at h
  · rename_i fi first cap
    cases hf with | @func _ _ _ fa fb h1 h2 => ?_
    have h : Option.rec (motive := fun _ => Out) .no (fun F => F ev (app first.toList (app args cap.toList)) s) (mkFnQ P X pre L fi) = .val v s' := h
    cases hF : mkFnQ P X pre L fi with
    | none => rw [hF] at h; cases h
    | some F =>
      rw [hF] at h
      have ha' : VRels ρ (app first.toList (app args cap.toList)) (fa.toList ++ (args' ++ fb.toList)) := by
        rw [app_eq, app_eq]
        exact h1.append (ha.append h2)
      have := fnQ_call hX hX0 hp hL hF ev hev _ s v s' h ρ w _ hR ha'
      have he : callOf (.func (.func fi) fa fb) args' = callFunc fi (fa.toList ++ (args' ++ fb.toList)).toArray := by
        unfold callOf
        simp only [Deferred.ofValue, pure_bind, invoke]
        congr 1
        apply Array.ext'
        simp
      rw [he]
      exact this
  · rename_i l first cap
    cases hf with | @yield _ x _ _ fa fb hx h1 h2 => ?_
    have ha' : VRels ρ (app first.toList args) (fa.toList ++ args') := by
      rw [app_eq]; exact h1.append ha
    have := yield_ok hX.plain hX.mixed hev h hR hx ha'
    have he : callOf (.func (.yield x.b) fa fb) args' = Instr.yield x.b (fa.toList ++ args').toArray := by
      unfold callOf
      simp only [Deferred.ofValue, pure_bind, invoke]
      congr 1
      apply Array.ext'
      simp
    rw [he]
    exact this
  · cases h
/-- THE EVALUATOR WITH FUNCTIONS MADE READY CAN BE TRUSTED. -/
theorem evalQ_ok {X X0 : Cfg} (hX : CfgOk P X) (hX0 : CfgOk P X0) {pre : T (Option FF)} (hp : ∀ f o, T.get pre f = some o → mkFn P X0 f = o) {L : List (Nat × Ev)} (hL : ∀ p ∈ L, EvOk P p.2) : ∀ n, EvOk P (evalQ P X pre L n)
  | 0 => fun f args s v s' h => by cases h
  | n + 1 => stepQ_ok hX hX0 hp hL (evalQ_ok hX hX0 hp hL n)
end Go.Eng
/-! Two calls behind a deferred recover that finds nothing. -/
namespace Go.Eng
open Go
variable {P : Program}
structure GuardFits (P : Program) (f fill fnd sm t : Nat) : Prop where
  enter : ∀ args w, (callFunc f args).run P w = .ok (.enter f args) w
  enterA : ∀ args w, (callFunc fill args).run P w = .ok (.enter fill args) w
  enterB : ∀ args w, (callFunc fnd args).run P w = .ok (.enter fnd args) w
  run : ∀ (l x : Value) (w : World) (R : Value → World → Prop),
    Calls P fill #[l, .func (.func sm) #[] #[], x] (w.alloc (.cells #[.pointer none] t)) (fun e w1 => ∃ u8, e = .returned u8 ∧ Calls P fnd #[u8] w1 (fun e2 w2 => ∃ p old, e2 = .returned (.pointer p) ∧ w2.cell? ⟨w.heap.size, 0, none⟩ = some old ∧ w2.frozen? ⟨w.heap.size, 0, none⟩ = false ∧ R (.pointer p) (w2.setCell ⟨w.heap.size, 0, none⟩ (.pointer p)))) →
    Calls P f #[l, x] w fun e w' => ∃ u, e = .returned u ∧ R u w'
theorem callOf_func (f : Nat) (args : List Value) : callOf (.func (.func f) #[] #[]) args = callFunc f args.toArray := by
  unfold callOf
  simp only [Deferred.ofValue, pure_bind, invoke]
  congr 1
  apply Array.ext'
  simp
theorem calls_of_run {f : Nat} {args : List Value} {w : World} {R : Value → World → Prop} (he : ∀ args w, (callFunc f args).run P w = .ok (.enter f args) w) (h : CallRun P (callOf (.func (.func f) #[] #[]) args) w R) :
    Calls P f args.toArray w fun e w' => ∃ u, e = .returned u ∧ R u w' := by
  rw [callOf_func] at h
  unfold CallRun at h
  rw [he] at h
  exact callsIn_wide.1 h
theorem guard_ok {f fill fnd sm t : Nat} (hF : GuardFits P f fill fnd sm t) : FFOk P f (sumFF (.guard fill fnd sm t)) := by
  intro ev hev args s v s' h ρ w args' hR ha
  have h : guardFF fill fnd sm t ev args s = .val v s' := h
  match args, ha, h with
  | [], _, h => cases h
  | [_], _, h => cases h
  | _ :: _ :: _ :: _, _, h => cases h
  | [l, x], .cons (u := l') hl (.cons (u := x') hx .nil), h =>
    have h : Option.rec (motive := fun _ => Out) .no (fun s0 => guard1 ev fill fnd sm s.nx l x s0) (s.new (.cells (.n (some [.pointer none]) .e .e) 1 1 false t)) = .val v s' := h
    cases hs0 : s.new (.cells (.n (some [.pointer none]) .e .e) 1 1 false t) with
    | none => rw [hs0] at h; cases h
    | some s0 =>
      rw [hs0] at h
      replace h : Out.rec (motive := fun _ => Out) .no (fun _ _ _ => .no) (fun v s1 => guard2 ev fnd s.nx v s1) (ev (.func (.func fill) #[] #[]) [l, .func (.func sm) #[] #[], x] s0) = .val v s' := h
      cases h8 : ev (.func (.func fill) #[] #[]) [l, .func (.func sm) #[] #[], x] s0 with
      | no => rw [h8] at h; cases h
      | code => rw [h8] at h; cases h
      | val v8 s1 =>
        rw [h8] at h
        replace h : Out.rec (motive := fun _ => Out) .no (fun _ _ _ => .no) (fun v9 s2 => guard3 s.nx v9 s2) (ev (.func (.func fnd) #[] #[]) [v8] s1) = .val v s' := h
        cases h9 : ev (.func (.func fnd) #[] #[]) [v8] s1 with
        | no => rw [h9] at h; cases h
        | code => rw [h9] at h; cases h
        | val v9 s2 =>
          rw [h9] at h
          replace h : guard3 s.nx v9 s2 = .val v s' := h
          unfold guard3 at h
          split at h
          · rename_i q
            replace h := outO_val h
            obtain ⟨s3, hst, h⟩ := ob_some h
            cases h
            have hnx0 := (AS.new_eq hs0).1
            have hB : BRel P (ρ.put s.nx ⟨w.heap.size, 0, 1⟩) ⟨w.heap.size, 0, 1⟩ (w.alloc (.cells #[.pointer none] t)) (.cells (.n (some [.pointer none]) .e .e) 1 1 false t) :=
              row_brel (els := [[.pointer none]]) (cs := [.pointer none]) (rest := []) (lo := 0) (hi := 0) (by rfl) (by simp) rfl (.cons .ptrNil .nil) (fun o h1 h2 => by omega) rfl
            obtain ⟨hR0, hS0⟩ := hR.alloc (w' := w.alloc (.cells #[.pointer none] t)) hs0 rfl (by simp) (fun b hb => RowKit.Below.heap_alloc w _ b hb) rfl rfl rfl hB
            have hle0 := hS0.le hR
            unfold CallRun
            rw [hF.enter]
            refine CallsIn.mono (callsIn_wide.2 (hF.run l' x' w (fun u w' => ∃ ρ', VRel ρ' (.pointer q) u ∧ Rel P ρ' s' w' ∧ Stp ρ s w ρ' s' w') ?_)) (fun e w' h => h)
            have c8 := calls_of_run hF.enterA (hev _ _ _ _ _ h8 _ _ (.func (.func fill) #[] #[]) [l', .func (.func sm) #[] #[], x'] hR0 (.func fill .nil .nil) (.cons (hl.mono hle0) (.cons (.func sm .nil .nil) (.cons (hx.mono hle0) .nil))))
            refine c8.mono ?_
            rintro e w1 ⟨u8, rfl, ρ1, hv8, hR1, hS1⟩
            refine ⟨u8, rfl, ?_⟩
            have c9 := calls_of_run hF.enterB (hev _ _ _ _ _ h9 _ _ (.func (.func fnd) #[] #[]) [u8] hR1 (.func fnd .nil .nil) (.cons hv8 .nil))
            refine c9.mono ?_
            rintro e w2 ⟨u9, rfl, ρ2, hv9, hR2, hS2⟩
            have hx2 : ρ2 s.nx = some ⟨w.heap.size, 0, 1⟩ := by
              have e0 : (ρ.put s.nx ⟨w.heap.size, 0, 1⟩) s.nx = some ⟨w.heap.size, 0, 1⟩ := by unfold Ren.put; rw [if_pos rfl]
              have e1 := hS1.ren s.nx (by rw [hnx0]; omega)
              have e2 := hS2.ren s.nx (by have := hS1.nx; omega)
              rw [e2, e1, e0]
            obtain ⟨_, ⟨old, ho⟩, hfz⟩ := storeN_can hR2 hx2 hst
            have hp : ∃ p, u9 = .pointer p := by cases hv9 <;> exact ⟨_, rfl⟩
            obtain ⟨p, rfl⟩ := hp
            refine ⟨p, old, rfl, ho, hfz, ?_⟩
            obtain ⟨w3, _, hw3, g3, g4⟩ := storeN_sound hR2 hx2 hst (.cons hv9 .nil)
            have hw3 : w3 = w2.setCell ⟨w.heap.size, 0, none⟩ (.pointer p) := hw3
            subst hw3
            exact ⟨ρ2, hv9, g3, hS0.trans (hS1.trans (hS2.trans g4))⟩
          · cases h
end Go.Eng
