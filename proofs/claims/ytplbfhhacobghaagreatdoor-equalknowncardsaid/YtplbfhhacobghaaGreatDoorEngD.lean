import Derived.Test.YtplbfhhacobghaaGreatDoorEngC
import Derived.Shelf.SlIterI.Nil
import Derived.Shelf.SlLaysX
import Derived.WalkKit
import Derived.Laws.IdiomRangeMap
set_option linter.unusedVariables false
set_option linter.unusedSimpArgs false
/- An evaluator of the model's code, proved: what it answers, the program does, whatever the world. Part of the proof of EqualKnown. -/
/-! maps.Keys's iterator, whatever cell it looks through (the kit's proof, at any place of the block). -/
namespace Go.Proofs
open Go.RowKit Go.Maps Go.Sort Go.Shelf
variable {P : Program} {ρ : Ren}

set_option maxRecDepth 100000 in
set_option maxHeartbeats 1000000 in
theorem EngKeys.at_in (L : SlLaysZI.n10 P ρ) {H : Type} (F : Fence) (n : Nat) (h10 : F.fn (ρ.f 10)) (hro : F.round = none) (hn : 1 ≤ n) (l Bm Bo b nn : Nat) (D0 : DataW H) {R : Value → Option (DataW H × List MemPlace)} (J : List Int → World → Prop)
    (hY : ∀ pre x W, J pre W → pre.length < Maps.size D0 → YieldAt F (n - 1) P l #[encZ x] W fun e W' => e = .returned (.bool true) ∧ J (pre ++ [x]) W' ∧ KeepsWalks W W')
    (W : World) (hJ : AbidesFrom W.heap.size J) (hm : W.cell? ⟨Bm, Bo, none⟩ = some (.map (some b))) (hown : W.ownsMap P (ρ.t 26) R b nn D0) (h0 : J [] W) :
    CallsIn F n P (ρ.f 10) #[.func (.yield l) #[] #[], .pointer (some ⟨Bm, Bo, none⟩)] W fun e W' => (∃ v, e = .returned v) ∧ ∃ ss : List Int, ss.Perm (intKeys D0) ∧ J ss W' := by
  have mixed := L.mixed; have t0 := L.t0; have a0 := L.a0; have z0 := L.z0; have v0 := L.v0; have t4 := L.t4; have a4 := L.a4; have z4 := L.z4; have v4 := L.v4; have t23 := L.t23; have a23 := L.a23; have z23 := L.z23; have v23 := L.v23; have t26 := L.t26; have a26 := L.a26; have z26 := L.z26; have v26 := L.v26; have t33 := L.t33; have a33 := L.a33; have z33 := L.z33; have v33 := L.v33
  have u0 := run_underlying L.t0; have u4 := run_underlying L.t4; have u23 := run_underlying L.t23; have u26 := run_underlying L.t26; have u33 := run_underlying L.t33
  obtain ⟨_, _, FG⟩ := L.f10
  refine callsIn_of_wp FG rfl h10 ?_ hro
  simp only [SlBodyZ.n10_ntmps ρ, List.size_toArray, List.length_cons, List.length_nil, Nat.reduceAdd, Nat.reduceSub, Array.replicate_succ, Array.replicate_zero, List.push_toArray, List.append_toArray, List.nil_append, List.cons_append]
  gi_wp2_with (first
    | (gi_at_range; refine wpListIn_range_own _ rfl _ (ρ.t 23) rfl (ρ.t 26) (ρ.t 3) (int_keyed L.t26) L.t23 _ b nn _ rfl hown ?_; intro w0 hrg0 hg0 hs0)
    | gi_in)
  go_frame
  gi_loopw [3] (fun _ wr => ∃ (left : Lit → Bool) (cnt : Nat) (ss : List Int), wr.ranges P (ρ.t 26) R b W.heap.size nn D0 left cnt ∧ ss.length + cnt ≤ Maps.size D0 ∧ CollectedI D0 left ss ∧ J ss wr)
    (fun _ wr => wr.rangeLeft b W.heap.size)
  case atStart =>
    exact ⟨_, _, [], hrg0, by simp, CollectedI.start D0, hJ [] W w0 none h0 hg0 (fun r e => by cases e)⟩
  case round =>
    obtain ⟨left, cnt, ss, hrg, hcs, hC, hJs⟩ := hrel
    gi_wp2_with (first
      | (gi_at_next; refine wpListIn_next_ranges _ rfl _ rfl (ρ.t 26) (int_keyed L.t26) R encZ id (fun key kl hk => by obtain ⟨x, hx, _⟩ := Maps.keyOf_i64 L.t26 hk; exact ⟨x, hx⟩) (fun v _ _ => ⟨v, rfl⟩) b W.heap.size nn _ _ _ rfl hrg ?_ ?_)
      | gi_in)
    · -- NOTHING IS LEFT
      intro hc0 hl0
      gi_wp2
      go_end0
      exact ⟨⟨_, rfl⟩, ss, hC.perm hown (int_keyed L.t26) L.t26 hl0, hJs⟩
    · -- AN ENTRY HAS COME: yield(k)
      intro x c kl yd yp w2 cnt2 hkey hlk hv hat hrg2 hlt hg2 hs2 hen
      obtain ⟨x', ex, rfl, _⟩ := Maps.keyOf_i64 L.t26 hkey
      obtain rfl : x = x' := encZ_inj ex
      have hJ2 : J ss w2 := hJ ss wr w2 (some W.heap.size) hJs hg2 (fun r e => by cases e; exact ⟨Nat.le_refl _, hrg.iter_walk⟩)
      obtain ⟨fn, tmps, assign, body, hy, hR⟩ := hY ss x w2 hJ2 (by omega)
      clear hs2
      gi_wp2
      refine hR.mono ?_
      rintro e W3 ⟨rfl, hJ3, hk3⟩
      gi_wp2
      have hrg3 := hrg2.of_walks hk3
      go_roundw
      case rel => exact ⟨_, cnt2, ss ++ [x], hrg3, by simp; omega, hC.step hlk hat, hJ3⟩
      case measure => rw [hrg3.left_eq, hrg.left_eq]; exact hlt

theorem EngKeys.at_gives (L : SlLaysZI.n10 P ρ) {H : Type} (F : Fence) (n : Nat) (h10 : F.fn (ρ.f 10)) (hro : F.round = none) (hn : 1 ≤ n) (Bm Bo b nn : Nat) (D0 : DataW H) {R : Value → Option (DataW H × List MemPlace)} (w : World) (hBm : Bm < w.heap.size)
    (hm : w.cell? ⟨Bm, Bo, none⟩ = some (.map (some b))) (hown : w.ownsMap P (ρ.t 26) R b nn D0) :
    SeqGives F n P (ρ.f 10) #[.pointer (some ⟨Bm, Bo, none⟩)] encZ (fun ss => ss.Perm (intKeys D0)) (Maps.size D0) w := fun l J W hW hJ hY h0 => by
  have hown' : W.ownsMap P (ρ.t 26) R b nn D0 := by
    have hbl := hown.lt
    obtain ⟨es, clock, hb, Ft, hs, hD⟩ := hown
    exact ⟨es, clock, (hW.block b hbl).trans hb, Ft, hs, hD⟩
  exact EngKeys.at_in { L with } F n h10 hro hn l Bm Bo b nn D0 J hY W hJ ((hW.cell (p := ⟨Bm, Bo, none⟩) hBm).trans hm) hown' h0

set_option maxRecDepth 100000 in
set_option maxHeartbeats 1000000 in
theorem EngKeys.nil_in (L : SlLaysZI.n10 P ρ) (F : Fence) (n : Nat) (h10 : F.fn (ρ.f 10)) (hro : F.round = none) (l Bm Bo : Nat) (J : List Int → World → Prop) (W : World) (hJ : AbidesFrom W.heap.size J)
    (hm : W.cell? ⟨Bm, Bo, none⟩ = some (.map none)) (h0 : J [] W) :
    CallsIn F n P (ρ.f 10) #[.func (.yield l) #[] #[], .pointer (some ⟨Bm, Bo, none⟩)] W fun e W' => (∃ v, e = .returned v) ∧ ∃ ss : List Int, ss = [] ∧ J ss W' := by
  have mixed := L.mixed; have t0 := L.t0; have a0 := L.a0; have z0 := L.z0; have v0 := L.v0; have t4 := L.t4; have a4 := L.a4; have z4 := L.z4; have v4 := L.v4; have t23 := L.t23; have a23 := L.a23; have z23 := L.z23; have v23 := L.v23; have t26 := L.t26; have a26 := L.a26; have z26 := L.z26; have v26 := L.v26; have t33 := L.t33; have a33 := L.a33; have z33 := L.z33; have v33 := L.v33
  have u0 := run_underlying L.t0; have u4 := run_underlying L.t4; have u23 := run_underlying L.t23; have u26 := run_underlying L.t26; have u33 := run_underlying L.t33
  obtain ⟨_, _, FG⟩ := L.f10
  refine callsIn_of_wp FG rfl h10 ?_ hro
  simp only [SlBodyZ.n10_ntmps ρ, List.size_toArray, List.length_cons, List.length_nil, Nat.reduceAdd, Nat.reduceSub, Array.replicate_succ, Array.replicate_zero, List.push_toArray, List.append_toArray, List.nil_append, List.cons_append]
  have hrg := run_range_nilMap (P := P) W (ρ.t 23) (ρ.t 26) (ρ.t 3) L.t23
  have hnx : ∀ ty, (Instr.next (.pointer (some ⟨W.heap.size, 0, none⟩)) false ty).run P (W.alloc (.mapIter none 0 #[] 0)) = _ := fun ty => run_next_nilMap _ ty 0 0 #[]
  gi_wp2
  refine wpIn_loop_rounds 1 ?_
  rw [roundsIn_succ]
  gi_wp2
  go_end0
  exact ⟨⟨_, rfl⟩, [], rfl, hJ [] W _ none h0 (World.grownBy_alloc W _ none) (fun r e => by cases e)⟩
theorem EngKeys.nil_gives (L : SlLaysZI.n10 P ρ) (F : Fence) (n : Nat) (h10 : F.fn (ρ.f 10)) (hro : F.round = none) (Bm Bo : Nat) (w : World) (hBm : Bm < w.heap.size) (hm : w.cell? ⟨Bm, Bo, none⟩ = some (.map none)) :
    SeqGives F n P (ρ.f 10) #[.pointer (some ⟨Bm, Bo, none⟩)] encZ (fun ss : List Int => ss = []) 0 w := fun l J W hW hJ _ h0 =>
  EngKeys.nil_in { L with } F n h10 hro l Bm Bo J W hJ ((hW.cell (p := ⟨Bm, Bo, none⟩) hBm).trans hm) h0
end Go.Proofs
/-! slices.Sorted at maps.Keys: what it answers. -/
namespace Go.Eng
open Go
variable {P : Program} {ρ : Ren}
/-- A NEW BLOCK, wherever it lies behind what was there. -/
theorem Rel.allocAt {s s' : AS} {w w' : World} {k : Blk} {x : Loc} (hr : Rel P ρ s w) (hs : s.new k = some s')
    (hx : w.heap.size ≤ x.b) (hsz : x.b < w'.heap.size) (hsz2 : w.heap.size ≤ w'.heap.size) (hold : ∀ b, b < w.heap.size → w'.heap[b]? = w.heap[b]?)
    (ht : w'.tape = w.tape) (ho : w'.os = w.os) (hu : w'.output = w.output)
    (hb : BRel P (ρ.put s.nx x) x w' k) : Rel P (ρ.put s.nx x) s' w' ∧ Stp ρ s w (ρ.put s.nx x) s' w' := by
  obtain ⟨hnx, hg⟩ := AS.new_eq hs
  have hle : RenLe ρ (ρ.put s.nx x) := fun a y e => by
    unfold Ren.put
    by_cases ha : a = s.nx
    · rw [ha, hr.dom _ (Nat.le_refl _)] at e; cases e
    · rw [if_neg ha]; exact e
  have hput : ∀ a, a ≠ s.nx → (ρ.put s.nx x) a = ρ a := fun a ha => by unfold Ren.put; rw [if_neg ha]
  have hputs : (ρ.put s.nx x) s.nx = some x := by unfold Ren.put; rw [if_pos rfl]
  refine ⟨⟨fun a ha => ?_, fun a ha => ?_, fun a k' y e e' => ?_, by rw [AS.new_lim hs]; have := hr.lim; omega, fun a a' k1 k2 x1 x2 hne e1 e2 r1 r2 hbb => ?_⟩, ⟨fun a ha => ?_, by omega, ht, ho, hu, hsz2, fun b hb' hn => ?_, fun a ha hn => ?_, fun b r hb' => ⟨r, by rw [hold b (Array.getElem?_eq_some_iff.1 hb').1]; exact hb'⟩, AS.new_lim hs, AS.new_low hs hr.lim, fun a k' y _ _ hk' _ hy => hold _ (hr.blk a k' y hk' hy).1⟩⟩
  · rw [hput a (by omega)]; exact hr.dom a (by omega)
  · rw [hg, if_neg (by omega)]; exact hr.top a (by omega)
  · rw [hg] at e
    by_cases ha : a = s.nx
    · rw [if_pos ha] at e; cases e
      rw [ha, hputs] at e'; cases e'
      exact ⟨hsz, hb⟩
    · rw [if_neg ha] at e
      rw [hput a ha] at e'
      obtain ⟨h1, h2⟩ := hr.blk a k' y e e'
      exact ⟨by omega, (h2.congr (hold _ h1)).mono hle⟩
  · rw [hg] at e1 e2
    by_cases ha : a = s.nx
    · rw [ha, hputs] at r1; cases r1
      have ha' : a' ≠ s.nx := fun e => hne (ha.trans e.symm)
      rw [if_neg ha'] at e2; rw [hput a' ha'] at r2
      have := (hr.blk a' k2 x2 e2 r2).1
      omega
    · rw [if_neg ha] at e1; rw [hput a ha] at r1
      by_cases ha' : a' = s.nx
      · rw [ha', hputs] at r2; cases r2
        have := (hr.blk a k1 x1 e1 r1).1
        omega
      · rw [if_neg ha'] at e2; rw [hput a' ha'] at r2
        exact hr.excl a a' k1 k2 x1 x2 hne e1 e2 r1 r2 hbb
  · rw [hput a (by omega)]
  · refine ⟨hold b hb', ?_⟩
    rintro ⟨a, k', y, e, e', rfl⟩
    rw [hg] at e
    by_cases ha : a = s.nx
    · rw [ha, hputs] at e'; cases e'; omega
    · rw [if_neg ha] at e; rw [hput a ha] at e'
      exact hn ⟨a, k', y, e, e', rfl⟩
  · exact .inl (by rw [hg, if_neg (by omega)])
/-- blocks that nobody speaks of have come. -/
theorem Rel.grow {s : AS} {w w' : World} (hr : Rel P ρ s w) (hsz2 : w.heap.size ≤ w'.heap.size) (hold : ∀ b, b < w.heap.size → w'.heap[b]? = w.heap[b]?)
    (ht : w'.tape = w.tape) (ho : w'.os = w.os) (hu : w'.output = w.output) : Rel P ρ s w' ∧ Stp ρ s w ρ s w' :=
  ⟨⟨hr.dom, hr.top, fun a k x e e' => (by obtain ⟨h1, h2⟩ := hr.blk a k x e e'; exact ⟨by omega, h2.congr (hold _ h1)⟩), hr.lim, hr.excl⟩,
   ⟨fun _ _ => rfl, Nat.le_refl _, ht, ho, hu, hsz2, fun b hb hn => ⟨hold b hb, hn⟩, fun _ _ _ => .inl rfl, fun b r hb => ⟨r, by rw [hold b (Array.getElem?_eq_some_iff.1 hb).1]; exact hb⟩, rfl, fun _ _ => rfl,
    fun a k x _ _ hk _ hx => hold _ (hr.blk a k x hk hx).1⟩⟩
/-! sorting. -/
theorem insI_perm (x : Int) : ∀ l : List Int, (insI x l).Perm (x :: l)
  | [] => .refl _
  | y :: l => by
    show (bif' (iLt y x) (y :: insI x l) (x :: y :: l)).Perm _
    rw [bif'_eq]
    split
    · exact ((insI_perm x l).cons y).trans (List.Perm.swap x y l)
    · exact .refl _
theorem sortI_perm : ∀ l : List Int, (sortI l).Perm l
  | [] => .refl _
  | x :: l => (insI_perm x (sortI l)).trans ((sortI_perm l).cons x)
theorem insI_sorted (x : Int) : ∀ l : List Int, l.Pairwise (fun a b => a ≤ b) → (insI x l).Pairwise (fun a b => a ≤ b)
  | [], _ => by show List.Pairwise _ [x]; simp
  | y :: l, h => by
    show (bif' (iLt y x) (y :: insI x l) (x :: y :: l)).Pairwise _
    rw [bif'_eq, iLt_eq]
    obtain ⟨h1, h2⟩ := List.pairwise_cons.1 h
    split
    · rename_i hlt
      have hlt : y < x := by simpa using hlt
      refine List.pairwise_cons.2 ⟨fun b hb => ?_, insI_sorted x l h2⟩
      rcases List.mem_cons.1 ((insI_perm x l).mem_iff.1 hb) with rfl | hb
      · omega
      · exact h1 b hb
    · rename_i hlt
      have hlt : ¬ y < x := by simpa using hlt
      refine List.pairwise_cons.2 ⟨fun b hb => ?_, h⟩
      rcases List.mem_cons.1 hb with rfl | hb
      · omega
      · have := h1 b hb; omega
theorem sortI_sorted : ∀ l : List Int, (sortI l).Pairwise (fun a b => a ≤ b)
  | [] => .nil
  | x :: l => insI_sorted x _ (sortI_sorted l)
theorem sortI_merge {l ss : List Int} (h : ss.Perm l) : ss.mergeSort (fun x y => decide (x ≤ y)) = sortI l := by
  have h1 := mergeSort_of_perm_i (h.trans (sortI_perm l).symm)
  rw [show (fun x y : Int => decide (x ≤ y)) = leI from rfl, h1]
  refine List.mergeSort_of_pairwise ?_
  exact (sortI_sorted l).imp fun {a b} hab => by simpa [leI] using hab
/-! the keys. -/
theorem okI_wf {n : Int} (h : okI n = true) : (Lit.int .i64 n).wf = true := by
  have e1 : IntKind.i64.min = -9223372036854775808 := by decide
  have e2 : IntKind.i64.max = 9223372036854775807 := by decide
  show (decide (IntKind.i64.min ≤ n) && decide (n ≤ IntKind.i64.max)) = true
  rw [e1, e2, Bool.and_eq_true, decide_eq_true_eq, decide_eq_true_eq]
  cases n with
  | ofNat m =>
    have h : Nat.blt m 9223372036854775808 = true := h
    have := Nat.le_of_ble_eq_true h
    simp only [Int.ofNat_eq_natCast]
    omega
  | negSucc m =>
    have h : Nat.blt m 9223372036854775808 = true := h
    have := Nat.le_of_ble_eq_true h
    rw [Int.negSucc_eq]
    omega
theorem keysI_some : ∀ {es : List (Value × Value × Nat)} {l : List Int}, keysI es = some l → es.map (·.1) = l.map encZ ∧ ∀ n ∈ l, okI n = true
  | [], l, h => by cases h; exact ⟨rfl, fun n hn => by cases hn⟩
  | (k, v, b) :: es, l, h => by
    have h : (match (generalizing := false) k with | .int k n => bif' (bif' (kEq k .i64) (okI n) false) (ob (keysI es) fun l => some (n :: l)) none | _ => none) = some l := h
    split at h
    · rename_i k n
      obtain ⟨h1, h⟩ := bif'_some h
      obtain ⟨h2, h3⟩ := bif_tt h1
      obtain ⟨l', hl', h⟩ := ob_some h
      cases h
      have := kEq_iff.1 h2
      subst this
      obtain ⟨i1, i2⟩ := keysI_some hl'
      refine ⟨by simp [i1], fun m hm => ?_⟩
      rcases List.mem_cons.1 hm with rfl | hm
      · exact h3
      · exact i2 m hm
    · cases h
theorem cellsI_eq : ∀ l : List Int, cellsI l = l.map fun n => [.int .i64 n]
  | [] => rfl
  | n :: l => by show [.int .i64 n] :: cellsI l = _; rw [cellsI_eq l]; rfl
theorem cellsI_flat (l : List Int) : (cellsI l).flatten = l.map encZ := by
  rw [cellsI_eq]
  induction l with
  | nil => rfl
  | cons n l ih => simp [ih]
/-- what is asked of the functions. -/
structure SortFits (P : Program) (f g et kt : Nat) : Prop where
  enter : ∀ args w, (callFunc f args).run P w = .ok (.enter f args) w
  key : P.underlying kt = some (.int .i64)
  sorted : ∀ (lb : Array Value) (S : List Int → Prop) (N : Nat) (w : World), N ≤ maxLen → N * 8 ≤ 140737488355328 → SeqGives Fence.wide 2 P g lb encZ S N w →
    CallsIn Fence.wide 5 P f #[.func (.func g) #[] lb] w fun e w' => ∃ (v : Value) (ss : List Int), e = .returned v ∧ S ss ∧
      w'.ownsRow w.heap.size et 1 v ss.length ((ss.mergeSort (fun x y => decide (x ≤ y))).map encZ) ∧ (v = .slice none 0 0 ↔ ss = []) ∧ RowKit.Below w.heap.size w w'
  keys : ∀ (Bm Bo b nn : Nat) (D0 : DataW Nat) (R : Value → Option (DataW Nat × List MemPlace)) (w : World), Bm < w.heap.size → w.cell? ⟨Bm, Bo, none⟩ = some (.map (some b)) → w.ownsMap P kt R b nn D0 →
    SeqGives Fence.wide 2 P g #[.pointer (some ⟨Bm, Bo, none⟩)] encZ (fun ss => ss.Perm (intKeys D0)) (Maps.size D0) w
  none : ∀ (Bm Bo : Nat) (w : World), Bm < w.heap.size → w.cell? ⟨Bm, Bo, none⟩ = some (.map none) → SeqGives Fence.wide 2 P g #[.pointer (some ⟨Bm, Bo, none⟩)] encZ (fun ss : List Int => ss = []) 0 w
open Go.WideElems (Fit rd rg) in
theorem keys_owned {kt : TypeId} {es : List (Value × Value × Nat)} {ents : Array MapEntry} {ck b : Nat} {w : World} {l : List Int} (hm : MapRel P ρ kt es ents) (hb : Borns ck ents) (hh : w.heap[b]? = some (.map ents ck)) (hl : keysI es = some l) (hn : es.length ≤ 1000000) (hk : P.underlying kt = some (.int .i64)) :
    ∃ D0 : DataW Nat, w.ownsMap P kt (fun _ => some (.nil, [])) b ents.size D0 ∧ (intKeys D0).Perm l ∧ Maps.size D0 = l.length := by
  obtain ⟨k1, k2⟩ := keysI_some hl
  have hmr := hm
  obtain ⟨l0, hp, hf, hnd⟩ := hm
  have hlen : ents.toList.length = l.length := by
    rw [← hp.length_eq]
    have e1 := congrArg List.length (ent_keys hf)
    have e2 := congrArg List.length k1
    simp only [List.length_map] at e1 e2
    omega
  have hes : es.length = l.length := by have := congrArg List.length k1; simpa using this
  have hkey : ∀ x ∈ ents.toList, ∃ n, x.key = encZ n ∧ okI n = true := fun x hx => by
    obtain ⟨p, hp', h1, _⟩ := F2.mem_right hf x (hp.mem_iff.2 hx)
    have : p.1 ∈ es.map (·.1) := List.mem_map.2 ⟨p, hp', rfl⟩
    rw [k1] at this
    obtain ⟨n, hn', he⟩ := List.mem_map.1 this
    exact ⟨n, by rw [← h1, ← he], k2 n hn'⟩
  have hrd : ∀ x ∈ ents.toList, ∀ n, x.key = encZ n → okI n = true → rd P kt (fun _ => some (DataW.nil (H := Nat), [])) x = some (.int .i64 n, .nil) := fun x hx n e ho => by
    have hw := okI_wf ho
    unfold rd
    rw [e]
    simp [Go.keyOf, hk, mapKey, hw]
  refine ⟨_, ⟨ents, ck, hh, ⟨?_, ⟨hb.2, hb.1, hmr.nodup⟩, fun x hx => ?_⟩, Nat.le_refl _, rfl⟩, ?_, ?_⟩
  · have : ents.size = l.length := by simpa using hlen
    unfold maxLen
    omega
  · obtain ⟨n, e, ho⟩ := hkey x hx
    exact ⟨_, hrd x hx n e ho⟩
  · show (((ents.toList.map (rg P kt _)).foldr DataW.insert []).map fun p => intOf p.1).Perm l
    refine ((Go.WideShapes.sorted_perm _).map _).trans ?_
    rw [List.map_map]
    have e1 : ents.toList.map ((fun p : Lit × DataW Nat => intOf p.1) ∘ rg P kt (fun _ => some (DataW.nil, []))) = (ents.toList.map (·.key)).map RowKit.intOf := by
      rw [List.map_map]
      refine List.map_congr_left fun x hx => ?_
      obtain ⟨n, e, ho⟩ := hkey x hx
      simp only [Function.comp, rg, hrd x hx n e ho, e]
      rfl
    rw [e1]
    have h2 := ((hp.map (·.key)).map RowKit.intOf).symm
    rw [ent_keys hf, k1] at h2
    have e3 : (l.map encZ).map RowKit.intOf = l := by
      rw [List.map_map]
      exact (List.map_congr_left (fun n _ => rfl)).trans (List.map_id l)
    rw [e3] at h2
    exact h2
  · show ((ents.toList.map (rg P kt _)).foldr DataW.insert []).length = _
    rw [(Go.WideShapes.sorted_perm _).length_eq, List.length_map, hlen]
theorem vrels_ints : ∀ l : List Int, VRels ρ (l.map encZ) (l.map encZ)
  | [] => .nil
  | n :: l => .cons (.int .i64 n) (vrels_ints l)
theorem ptr1 {b b' : Array Value} {p o : Nat} (hb : b.toList = [.pointer (some ⟨p, o, none⟩)]) (h : VRels ρ b.toList b'.toList) : ∃ x, ρ p = some x ∧ b' = #[.pointer (some ⟨x.b, x.base + o, none⟩)] := by
  rw [hb] at h
  generalize hm : b'.toList = m at h
  cases h with | cons hv hs => ?_
  cases hs
  cases hv with | @ptr _ x _ hx => ?_
  exact ⟨x, hx, Array.ext' hm⟩
theorem none1 {b b' : Array Value} (hb : b.toList = []) (h : VRels ρ b.toList b'.toList) : b' = #[] := by
  rw [hb] at h
  generalize hm : b'.toList = m at h
  cases h
  exact Array.ext' hm
theorem row_at {w : World} {gb : Nat} {cur : Array Value} {et : TypeId} (hgb : w.heap[gb]? = some (.cells cur et (0, 0))) {sz n : Nat} {els : List (List Value)} {cs : List Value} {t : T (List Value)} (ht : rowT els 0 .e = some t) (hl : ∀ l ∈ els, l.length = sz) (hn : els.length = n)
    (hc : VRels ρ els.flatten cs) (hcur : cur.toList.take cs.length = cs) : BRel P ρ ⟨gb, 0, cur.size⟩ w (.cells t sz n false et) := by
  have hlt := (Array.getElem?_eq_some_iff.1 hgb).1
  have hsz : (w.heap.extract 0 gb).size = gb := by simp; omega
  have hall : cs ++ cur.toList.drop cs.length = cur.toList := by
    have := List.take_append_drop cs.length cur.toList
    rw [hcur] at this; exact this
  have hlen : cs.length + (cur.toList.drop cs.length).length = cur.size := by
    have := congrArg List.length hall
    simpa using this
  have := row_brel (P := P) (ρ := ρ) (w := { w with heap := w.heap.extract 0 gb }) (w' := { w with heap := (w.heap.extract 0 gb).push (.cells (cs ++ cur.toList.drop cs.length).toArray et (0, 0)) }) (rest := cur.toList.drop cs.length) (lo := 0) (hi := 0) ht hl hn hc (fun o h1 h2 => by omega) rfl
  rw [hlen] at this
  have e : (⟨({ w with heap := w.heap.extract 0 gb } : World).heap.size, 0, cur.size⟩ : Loc) = ⟨gb, 0, cur.size⟩ := by
    show (⟨(w.heap.extract 0 gb).size, 0, cur.size⟩ : Loc) = _
    rw [hsz]
  rw [e] at this
  refine this.congr ?_
  show w.heap[gb]? = ((w.heap.extract 0 gb).push (.cells (cs ++ cur.toList.drop cs.length).toArray et (0, 0)))[gb]?
  rw [Array.getElem?_push, if_pos hsz.symm, hgb, hall]
/-- SORTED KEYS. -/
theorem sorted_ok {f g et kt : Nat} (hF : SortFits P f g et kt) : FFOk P f (fun _ args s => outO (sumA s (.sorted g et kt) args)) := by
  intro ev hev args s v s' h ρ w args' hR ha
  have h : outO (sumA s (.sorted g et kt) args) = .val v s' := h
  cases hs : sumA s (.sorted g et kt) args with
  | none => rw [hs] at h; cases h
  | some r =>
  rw [hs] at h
  cases h
  have hgoal : ∀ (lb : Array Value) (S : List Int → Prop) (N : Nat), N ≤ 1000000 → args' = [.func (.func g) #[] lb] → SeqGives Fence.wide 2 P g lb encZ S N w →
      (∀ (u : Value) (ss : List Int) (w' : World), S ss → w'.ownsRow w.heap.size et 1 u ss.length ((ss.mergeSort (fun x y => decide (x ≤ y))).map encZ) → (u = .slice none 0 0 ↔ ss = []) → RowKit.Below w.heap.size w w' →
        ∃ ρ', VRel ρ' r.1 u ∧ Rel P ρ' r.2 w' ∧ Stp ρ s w ρ' r.2 w') →
      CallRun P (callFunc f args'.toArray) w fun u w' => ∃ ρ', VRel ρ' r.1 u ∧ Rel P ρ' r.2 w' ∧ Stp ρ s w ρ' r.2 w' := by
    intro lb S N hN he hseq hend
    subst he
    unfold CallRun
    rw [hF.enter]
    have hc := hF.sorted lb S N w (by unfold maxLen; omega) (by omega) hseq
    refine CallsIn.mono (callsIn_wide.2 (callsIn_wide.1 hc)) ?_
    rintro e w' ⟨u, ss, rfl, hS, hrow, hnil, hb⟩
    exact ⟨u, rfl, hend u ss w' hS hrow hnil hb⟩
  have hnilEnd : ∀ (S : List Int → Prop), (∀ ss, S ss → ss = []) → r = (.slice none 0 0, s) → ∀ (u : Value) (ss : List Int) (w' : World), S ss → w'.ownsRow w.heap.size et 1 u ss.length ((ss.mergeSort (fun x y => decide (x ≤ y))).map encZ) → (u = .slice none 0 0 ↔ ss = []) → RowKit.Below w.heap.size w w' →
        ∃ ρ', VRel ρ' r.1 u ∧ Rel P ρ' r.2 w' ∧ Stp ρ s w ρ' r.2 w' := by
    intro S hS0 hr u ss w' hS hrow hnil hb
    obtain rfl := hnil.2 (hS0 ss hS)
    subst hr
    obtain ⟨g1, g2⟩ := hR.grow hb.size hb.block hb.tape hb.os hb.output
    exact ⟨ρ, .sliceNil, g1, g2⟩
  unfold sumA at hs
  split at hs
  · rename_i he; cases he
  · rename_i he; cases he
  · rename_i g0 et0 kt0 f0 a b heq
    cases heq
    replace hs := bif'_some hs
    obtain ⟨hg, hs⟩ := hs
    have hg := Nat.eq_of_beq_eq_true hg
    subst hg
    cases ha with | cons hv hvs => ?_
    cases hvs
    cases hv with | @func _ _ _ fa fb h1 h2 => ?_
    split at hs
    · rename_i p hat hbt
      have hfa := none1 hat h1
      obtain ⟨x, hx, hfb⟩ := ptr1 hbt h2
      subst hfa
      subst hfb
      replace hs := ob_some hs
      obtain ⟨l, hl, hs⟩ := hs
      obtain ⟨_, m, hvm, hcell⟩ := loadN_sound hR hx hl
      split at hs
      · cases hs
        cases hvm with | cons hv hvs => ?_
        cases hvs
        cases hv
        have hc := hcell 0 _ rfl
        have hlt : x.b < w.heap.size := World.block_lt_of_cell? w _ hc
        exact hgoal _ _ 0 (by omega) rfl (hF.none x.b (x.base + 0) w hlt hc) (hnilEnd _ (fun ss h => h) rfl)
      · rename_i rm
        cases hvm with | cons hv hvs => ?_
        cases hvs
        cases hv with | @map _ y hy => ?_
        have hc := hcell 0 _ rfl
        have hlt : x.b < w.heap.size := World.block_lt_of_cell? w _ hc
        replace hs := mapOf_some hs
        obtain ⟨kt', es, ck, hb, hs⟩ := hs
        replace hs := bif'_some hs
        obtain ⟨hkt, hs⟩ := hs
        have hkt := Nat.eq_of_beq_eq_true hkt
        subst hkt
        obtain ⟨hylt, ents, hh, hmr, hbn⟩ := hR.blk _ _ y hb hy
        unfold sortedA at hs
        split at hs
        · cases hs
          obtain ⟨D0, hown, hperm, hsz⟩ := keys_owned (l := []) hmr hbn hh rfl (by simp) hF.key
          refine hgoal _ _ _ (by rw [hsz]; simp) rfl (hF.keys x.b (x.base + 0) y.b _ D0 _ w hlt hc hown) (hnilEnd _ (fun ss h => (h.trans hperm).eq_nil) rfl)
        · rename_i e0 es0
          replace hs := bif'_some hs
          obtain ⟨hn, hs⟩ := hs
          replace hs := ob_some hs
          obtain ⟨l, hl, hs⟩ := hs
          rw [len_eq] at hn hs
          have hn := Nat.le_of_ble_eq_true hn
          obtain ⟨D0, hown, hperm, hsz⟩ := keys_owned hmr hbn hh hl hn hF.key
          have hll : (e0 :: es0).length = l.length := by have := congrArg List.length (keysI_some hl).1; simpa using this
          refine hgoal _ _ _ (by rw [hsz, ← hll]; exact hn) rfl (hF.keys x.b (x.base + 0) y.b _ D0 _ w hlt hc hown) ?_
          intro u ss w' hS hrow hnil hb'
          have hpl := hS.trans hperm
          rw [sortI_merge hpl] at hrow
          have hsl : ss.length = (e0 :: es0).length := by rw [hpl.length_eq, hll]
          rcases hrow.2 with ⟨_, hz⟩ | ⟨gb, cap, cur, rfl, hbase, hgb, r1, r2, r3, r4⟩
          · rw [hsl] at hz; simp at hz
          · obtain ⟨g1, g2, g3, t, s2, hrt, hnew, hreq⟩ := rowLB_some hs
            have hcs : VRels (ρ.put s.nx ⟨gb, 0, cur.size⟩) (cellsI (sortI l)).flatten ((sortI l).map encZ) := by
              rw [cellsI_flat]; exact vrels_ints _
            have hlen : ((sortI l).map encZ).length = ss.length * 1 := by rw [List.length_map, (sortI_perm l).length_eq, ← hpl.length_eq, Nat.mul_one]
            have hbr := row_at (P := P) hgb hrt g3 g2 hcs (by rw [hlen]; exact r4)
            obtain ⟨q1, q2⟩ := Rel.allocAt hR hnew (x := ⟨gb, 0, cur.size⟩) hbase (Array.getElem?_eq_some_iff.1 hgb).1 hb'.size hb'.block hb'.tape hb'.os hb'.output hbr
            subst hreq
            refine ⟨_, ?_, q1, q2⟩
            have hcode : codeLB (e0 :: es0).length 1 / 512 = (e0 :: es0).length := codeLB_div (by omega)
            rw [← hsl] at hcode ⊢
            exact .slice 0 _ _ cap _ (put_self _ _ _) (by rw [hcode]; exact Nat.le_refl _) (by rw [hcode]; exact r1) (fun h => by rw [codeLB_mod] at h; cases h) (.inl rfl) (fun _ => by
              rw [codeLB_sz (by omega)]
              show 0 + 0 + cap * 1 ≤ cur.size
              omega)
      · cases hs
    · cases hs
  · rename_i hne
    cases hs
end Go.Eng
/-! maps.Copy: the walk. -/
namespace Go.Proofs
open Go.Shelf Go.RowKit
variable {P : Program} {ρ : Ren}
/-- what the loop keeps. -/
structure EngCopy.Inv (bd bs : Nat) (entsS : Array MapEntry) (cs : Nat) (w wr : World) (vis : List MapEntry) (ents : Array MapEntry) (ck : Nat) : Prop where
  dst : wr.heap[bd]? = some (.map ents ck)
  src : wr.heap[bs]? = some (.map entsS cs)
  iter : wr.heap[w.heap.size]? = some (.mapIter (some bs) cs (vis.map (·.born)).toArray cs)
  mem : ∀ e ∈ vis, e ∈ entsS.toList
  nodup : (vis.map (·.born)).Nodup
  size : wr.heap.size = w.heap.size + 1
  rest : ∀ b, b < w.heap.size → b ≠ bd → wr.heap[b]? = w.heap[b]?
  tape : wr.tape = w.tape
  os : wr.os = w.os
  out : wr.output = w.output

set_option maxHeartbeats 4000000 in
set_option maxRecDepth 100000 in
theorem EngCopy.walk (L : SlLaysX.n5 P ρ) (J : List MapEntry → Array MapEntry → Nat → Prop) (bd bs : Nat) (entsD entsS : Array MapEntry) (cd cs : Nat) (w : World) (hd : w.heap[bd]? = some (.map entsD cd)) (hs : w.heap[bs]? = some (.map entsS cs)) (hne : bd ≠ bs) (hbs : Go.Eng.Borns cs entsS)
    (h0 : J [] entsD cd) (hstep : ∀ vis e ents ck w', J vis ents ck → e ∈ entsS.toList → (∀ x ∈ vis, x ∈ entsS.toList ∧ x.born ≠ e.born) → w'.heap[bd]? = some (.map ents ck) →
      ∃ ents' ck', (Instr.mapUpdate (ρ.t 23) (.map (some bd)) e.key e.val).run P w' = .ok () { w' with heap := w'.heap.setIfInBounds bd (.map ents' ck') } ∧ J (vis ++ [e]) ents' ck') :
    Calls P (ρ.f 5) #[.map (some bd), .map (some bs)] w fun e w' => e = .returned (.tuple #[]) ∧ ∃ vis ents ck, J vis ents ck ∧ (∀ e ∈ entsS.toList, e.born ∈ vis.map (·.born)) ∧ EngCopy.Inv bd bs entsS cs w w' vis ents ck := by
  have mixed := L.mixed; have t0 := L.t0; have a0 := L.a0; have z0 := L.z0; have v0 := L.v0; have t4 := L.t4; have a4 := L.a4; have z4 := L.z4; have v4 := L.v4; have t23 := L.t23; have a23 := L.a23; have z23 := L.z23; have v23 := L.v23; have t24 := L.t24; have a24 := L.a24; have z24 := L.z24; have v24 := L.v24; have a26 := L.a26; have z26 := L.z26; have a27 := L.a27; have z27 := L.z27
  have hbd : bd < w.heap.size := (Array.getElem?_eq_some_iff.1 hd).1
  have hbl : bs < w.heap.size := (Array.getElem?_eq_some_iff.1 hs).1
  have hrg := run_range_map (P := P) w (ρ.t 24) _ _ bs entsS cs L.t24 hs
  obtain ⟨_, _, FG⟩ := L.f5
  have Hd : Hid (w.heap[bd]? = some (.map entsD cd)) := hd
  have Hs : Hid (w.heap[bs]? = some (.map entsS cs)) := hs
  have Hb : Hid (Go.Eng.Borns cs entsS) := hbs
  have HS : Hid _ := hstep
  have H0 : Hid _ := h0
  clear hd hs hbs hstep h0
  go_enter FG, SlBodyX.n5_ntmps ρ
  go_wp2
  go_loopw [8] (fun _ wr => ∃ vis ents ck, J vis ents ck ∧ EngCopy.Inv bd bs entsS cs w wr vis ents ck)
    (fun _ wr => match wr.heap[w.heap.size]? with | some (.mapIter _ _ seen _) => (entsS.toList.filter fun (e : MapEntry) => !seen.toList.contains e.born).length | _ => 0)
  case atStart =>
    exact ⟨[], entsD, cd, H0.out, ⟨(Below.heap_alloc w _ bd hbd).trans Hd.out, (Below.heap_alloc w _ bs hbl).trans Hs.out, heap_alloc_new w _, fun e he => (by cases he), .nil, by simp, fun b hb _ => Below.heap_alloc w _ b hb, rfl, rfl, rfl⟩⟩
  case round =>
    obtain ⟨vis, ents, ck, hJ, hI⟩ := hrel
    rcases Go.Eng.next_some (P := P) hI.iter hI.src Hb.out with ⟨w2, hall, hrun, hsame⟩ | ⟨en, w2, hen, hnew, hrun, hsame⟩
    · have hI2 : Hid (EngCopy.Inv bd bs entsS cs w w2 vis ents ck) := ⟨by rw [hsame.heap]; exact hI.dst, by rw [hsame.heap]; exact hI.src, by rw [hsame.heap]; exact hI.iter, hI.mem, hI.nodup, by rw [hsame.heap]; exact hI.size, fun b hb hn => by rw [hsame.heap]; exact hI.rest b hb hn, hsame.tape.trans hI.tape, hsame.os.trans hI.os, hsame.out.trans hI.out⟩
      have hall2 : Hid _ := hall
      have hJ2 : Hid _ := hJ
      clear hsame hall hI hJ
      go_wp2
      go_end0
      exact ⟨rfl, vis, ents, ck, hJ2.out, by simpa using hall2.out, hI2.out⟩
    · generalize hw3 : ({ w2 with heap := w2.heap.setIfInBounds w.heap.size (.mapIter (some bs) cs ((vis.map (·.born)).toArray.push en.born) cs) } : World) = w3 at hrun
      have hlt : w.heap.size < w2.heap.size := by rw [hsame.heap, hI.size]; omega
      have hw3h : ∀ b, b ≠ w.heap.size → w3.heap[b]? = wr.heap[b]? := fun b hb => by
        rw [← hw3]
        simp only
        rw [Array.getElem?_setIfInBounds_ne (Ne.symm hb), hsame.heap]
      have hit3 : w3.heap[w.heap.size]? = some (.mapIter (some bs) cs ((vis.map (·.born)).toArray.push en.born) cs) := by
        rw [← hw3]; simp [hlt]
      have hsz3 : w3.heap.size = w.heap.size + 1 := by rw [← hw3]; simp [hsame.heap, hI.size]
      have ht3 : w3.tape = w.tape ∧ w3.os = w.os ∧ w3.output = w.output := by
        rw [← hw3]; exact ⟨hsame.tape.trans hI.tape, hsame.os.trans hI.os, hsame.out.trans hI.out⟩
      have hd3 : w3.heap[bd]? = some (.map ents ck) := (hw3h bd (by omega)).trans hI.dst
      have hs3 : w3.heap[bs]? = some (.map entsS cs) := (hw3h bs (by omega)).trans hI.src
      have hent := Go.Eng.run_entry (P := P) hit3 hs3 Hb.out hen
      have hnot : en.born ∉ vis.map (·.born) := by simpa using hnew
      obtain ⟨ents', ck', hmu, hJ'⟩ := HS.out vis en ents ck w3 hJ hen (fun x hx => ⟨hI.mem x hx, fun e => hnot (by rw [← e]; exact List.mem_map.2 ⟨x, hx, rfl⟩)⟩) hd3
      generalize hw4 : ({ w3 with heap := w3.heap.setIfInBounds bd (.map ents' ck') } : World) = w4 at hmu
      have hw4h : ∀ b, b ≠ bd → w4.heap[b]? = w3.heap[b]? := fun b hb => by
        rw [← hw4]
        simp only
        rw [Array.getElem?_setIfInBounds_ne (Ne.symm hb)]
      have hI4 : Hid (EngCopy.Inv bd bs entsS cs w w4 (vis ++ [en]) ents' ck') := by
        refine ⟨?_, (hw4h bs (Ne.symm hne)).trans hs3, ?_, fun e he => ?_, ?_, ?_, fun b hb hn => ?_, ?_, ?_, ?_⟩
        · have hb3 : bd < w3.heap.size := by omega
          rw [← hw4]; simp [hb3]
        · rw [hw4h _ (by omega), hit3]; simp
        · rcases List.mem_append.1 he with he | he
          · exact hI.mem e he
          · simp at he; subst he; exact hen
        · rw [List.map_append, List.nodup_append]
          refine ⟨hI.nodup, by simp, fun a ha b hb => ?_⟩
          simp at hb
          subst hb
          exact fun e => hnot (e ▸ ha)
        · rw [← hw4]; simp [hsz3]
        · rw [hw4h b hn, hw3h b (by omega)]; exact hI.rest b hb hn
        · rw [← hw4]; exact ht3.1
        · rw [← hw4]; exact ht3.2.1
        · rw [← hw4]; exact ht3.2.2
      have hJ4 : Hid _ := hJ'
      have hμ : Hid ((entsS.toList.filter fun (e : MapEntry) => !(vis.map (·.born) ++ [en.born]).contains e.born).length < (entsS.toList.filter fun (e : MapEntry) => !(vis.map (·.born)).contains e.born).length) := Go.Eng.filter_less ⟨en, hen, rfl⟩ hnot
      have hIt : Hid (wr.heap[w.heap.size]? = some (.mapIter (some bs) cs (vis.map (·.born)).toArray cs)) := hI.iter
      clear hw3 hlt hw3h hit3 hsz3 ht3 hd3 hs3 hnot hJ' hw4 hw4h hsame hnew hen hJ hI
      go_wp2
      go_roundw
      case rel => exact ⟨_, _, _, hJ4.out, hI4.out⟩
      case measure =>
        rw [hI4.out.iter, hIt.out]
        simpa using hμ.out
end Go.Proofs
/-! maps.Copy: what it answers. -/
namespace Go.Eng
open Go
variable {P : Program} {ρ : Ren}
abbrev Ent := Value × Value × Nat
/-- an entry of one key gets the value. -/
noncomputable def one (p q : Ent) : Ent := @ite _ (q.1 = p.1) (Classical.propDecidable _) (p.1, p.2.1, q.2.2) q
theorem one_pos {p q : Ent} (h : q.1 = p.1) : one p q = (p.1, p.2.1, q.2.2) := if_pos h
theorem one_neg {p q : Ent} (h : ¬ q.1 = p.1) : one p q = q := if_neg h
theorem one_key (p q : Ent) : (one p q).1 = q.1 := by
  by_cases h : q.1 = p.1
  · rw [one_pos h, h]
  · rw [one_neg h]
/-- an entry is laid into a list. -/
noncomputable def upd (a : List Ent) (p : Ent) : List Ent :=
  @ite _ (∃ q ∈ a, q.1 = p.1) (Classical.propDecidable _) (a.map (one p)) (a ++ [(p.1, p.2.1, 0)])
theorem upd_pos {a : List Ent} {p : Ent} (h : ∃ q ∈ a, q.1 = p.1) : upd a p = a.map (one p) := by unfold upd; rw [if_pos h]
theorem upd_neg {a : List Ent} {p : Ent} (h : ¬ ∃ q ∈ a, q.1 = p.1) : upd a p = a ++ [(p.1, p.2.1, 0)] := by unfold upd; rw [if_neg h]
theorem has_upd {a : List Ent} {p : Ent} {k : Value} (hk : k ≠ p.1) : (∃ q ∈ upd a p, q.1 = k) ↔ ∃ q ∈ a, q.1 = k := by
  by_cases h : ∃ q ∈ a, q.1 = p.1
  · rw [upd_pos h]
    constructor
    · rintro ⟨q, hq, e⟩
      obtain ⟨q', hq', rfl⟩ := List.mem_map.1 hq
      rw [one_key] at e
      exact ⟨q', hq', e⟩
    · rintro ⟨q, hq, e⟩
      exact ⟨_, List.mem_map.2 ⟨q, hq, rfl⟩, by rw [one_key]; exact e⟩
  · rw [upd_neg h]
    constructor
    · rintro ⟨q, hq, e⟩
      rcases List.mem_append.1 hq with hq | hq
      · exact ⟨q, hq, e⟩
      · simp at hq; subst hq; exact (hk e.symm).elim
    · rintro ⟨q, hq, e⟩; exact ⟨q, by simp [hq], e⟩
theorem upd_swap {p q : Ent} (h : p.1 ≠ q.1) (a : List Ent) : (upd (upd a p) q).Perm (upd (upd a q) p) := by
  by_cases hp : ∃ x ∈ a, x.1 = p.1
  · have hp' := (has_upd (a := a) (p := q) h).2 hp
    by_cases hq : ∃ x ∈ a, x.1 = q.1
    · have hq' := (has_upd (a := a) (p := p) (Ne.symm h)).2 hq
      rw [upd_pos hq', upd_pos hp', upd_pos hp, upd_pos hq, List.map_map, List.map_map]
      refine List.Perm.of_eq (List.map_congr_left fun x _ => ?_)
      simp only [Function.comp]
      by_cases h1 : x.1 = p.1
      · have h2 : ¬ x.1 = q.1 := fun e => h (h1.symm.trans e)
        rw [one_neg h2, one_neg (fun e => h2 ((one_key p x).symm.trans e))]
      · by_cases h2 : x.1 = q.1
        · rw [one_neg h1, one_neg (fun e => h1 ((one_key q x).symm.trans e))]
        · rw [one_neg h1, one_neg h2, one_neg h1]
    · have hq' : ¬ ∃ x ∈ upd a p, x.1 = q.1 := fun e => hq ((has_upd (Ne.symm h)).1 e)
      rw [upd_neg hq', upd_pos hp', upd_pos hp, upd_neg hq, List.map_append]
      refine List.Perm.of_eq ?_
      simp only [List.map_cons, List.map_nil]
      rw [one_neg (p := p) (q := (q.1, q.2.1, 0)) (Ne.symm h)]
  · have hp' : ¬ ∃ x ∈ upd a q, x.1 = p.1 := fun e => hp ((has_upd h).1 e)
    by_cases hq : ∃ x ∈ a, x.1 = q.1
    · have hq' := (has_upd (a := a) (p := p) (Ne.symm h)).2 hq
      rw [upd_pos hq', upd_neg hp', upd_neg hp, upd_pos hq, List.map_append]
      refine List.Perm.of_eq ?_
      simp only [List.map_cons, List.map_nil]
      rw [one_neg (p := q) (q := (p.1, p.2.1, 0)) h]
    · have hq' : ¬ ∃ x ∈ upd a p, x.1 = q.1 := fun e => hq ((has_upd (Ne.symm h)).1 e)
      rw [upd_neg hq', upd_neg hp', upd_neg hp, upd_neg hq, List.append_assoc, List.append_assoc]
      exact (List.Perm.swap _ _ []).append_left a
theorem upd_perm {a b : List Ent} (h : a.Perm b) (p : Ent) : (upd a p).Perm (upd b p) := by
  by_cases hp : ∃ x ∈ a, x.1 = p.1
  · have hp' : ∃ x ∈ b, x.1 = p.1 := let ⟨x, hx, e⟩ := hp; ⟨x, h.mem_iff.1 hx, e⟩
    rw [upd_pos hp, upd_pos hp']; exact h.map _
  · have hp' : ¬ ∃ x ∈ b, x.1 = p.1 := fun ⟨x, hx, e⟩ => hp ⟨x, h.mem_iff.2 hx, e⟩
    rw [upd_neg hp, upd_neg hp']; exact h.append_right _
theorem foldl_upd_perm {vs vs' : List Ent} (h : vs.Perm vs') : vs.Pairwise (fun p q => p.1 ≠ q.1) → ∀ a b : List Ent, a.Perm b → (vs.foldl upd a).Perm (vs'.foldl upd b) := by
  induction h with
  | nil => exact fun _ a b h => h
  | cons x _ ih => exact fun hp a b h => ih (List.pairwise_cons.1 hp).2 _ _ (upd_perm h x)
  | swap x y l =>
    intro hp a b h
    have hxy : y.1 ≠ x.1 := (List.pairwise_cons.1 hp).1 x (by simp)
    show (l.foldl upd (upd (upd a y) x)).Perm (l.foldl upd (upd (upd b x) y))
    have base : ∀ (l : List Ent) (a b : List Ent), a.Perm b → (l.foldl upd a).Perm (l.foldl upd b) := by
      intro l
      induction l with
      | nil => exact fun a b h => h
      | cons x l ih => exact fun a b h => ih _ _ (upd_perm h x)
    exact base l _ _ ((upd_swap hxy a).trans (upd_perm (upd_perm h x) y))
  | trans h1 _ ih1 ih2 =>
    intro hp a b h
    exact (ih1 hp a b h).trans (ih2 ((h1.pairwise_iff (fun {_ _} hne => Ne.symm hne)).1 hp) b b (.refl _))
/-- the evaluator's own way. -/
theorem putE_upd {k v : Value} {b : Nat} {es es' : List Ent} (hn : (es.map (·.1)).Nodup) (h : putE k v 0 es = some es') : es' = upd es (k, v, b) := by
  rcases putE_spec h with ⟨es1, v0, b0, es2, rfl, rfl⟩ | ⟨hno, rfl⟩
  · rw [upd_pos (p := (k, v, b)) ⟨(k, v0, b0), by simp, rfl⟩]
    rw [List.map_append, List.map_cons, List.nodup_append] at hn
    have e1 : ∀ q ∈ es1, q.1 ≠ k := fun q hq e => hn.2.2 q.1 (List.mem_map.2 ⟨q, hq, rfl⟩) k (by simp) e
    have e2 : ∀ q ∈ es2, q.1 ≠ k := fun q hq e => (List.nodup_cons.1 hn.2.1).1 (by rw [← e]; exact List.mem_map.2 ⟨q, hq, rfl⟩)
    rw [List.map_append, List.map_cons]
    have m1 : ∀ (l : List Ent), (∀ q ∈ l, q.1 ≠ k) → l.map (one (k, v, b)) = l := fun l hl =>
      (List.map_congr_left fun q hq => one_neg (p := (k, v, b)) (hl q hq)).trans (List.map_id l)
    rw [m1 es1 e1, m1 es2 e2, one_pos (p := (k, v, b)) (q := (k, v0, b0)) rfl]
  · rw [upd_neg (fun ⟨q, hq, e⟩ => hno q hq e)]
theorem upd_keys {a : List Ent} {p : Ent} (hn : (a.map (·.1)).Nodup) : ((upd a p).map (·.1)).Nodup := by
  by_cases h : ∃ q ∈ a, q.1 = p.1
  · rw [upd_pos h, List.map_map]
    rw [show ((fun q : Ent => q.1) ∘ one p) = fun q => q.1 from funext fun q => one_key p q]
    exact hn
  · rw [upd_neg h, List.map_append, List.nodup_append]
    refine ⟨hn, by simp, fun x hx y hy e => h ?_⟩
    simp at hy
    obtain ⟨q, hq, rfl⟩ := List.mem_map.1 hx
    exact ⟨q, hq, e.trans hy⟩
theorem copyEs_upd : ∀ {es d d' : List Ent}, (d.map (·.1)).Nodup → copyEs es d = some d' → d' = es.foldl upd d
  | [], d, d', _, h => by
    have h : some d = some d' := h
    cases h; rfl
  | (k, v, b) :: es, d, d', hn, h => by
    have h : ob (putE k v 0 d) (copyEs es) = some d' := h
    obtain ⟨d1, h1, h⟩ := ob_some h
    have e := putE_upd (b := b) hn h1
    subst e
    show d' = es.foldl upd (upd d (k, v, b))
    exact copyEs_upd (upd_keys hn) h
theorem upd_len (a : List Ent) (p : Ent) : a.length ≤ (upd a p).length := by
  by_cases h : ∃ q ∈ a, q.1 = p.1
  · rw [upd_pos h]; simp
  · rw [upd_neg h]; simp
theorem foldl_upd_len : ∀ (vs a : List Ent), a.length ≤ (vs.foldl upd a).length
  | [], _ => Nat.le_refl _
  | p :: vs, a => Nat.le_trans (upd_len a p) (foldl_upd_len vs _)
theorem F2.perm {α β : Type} {R : α → β → Prop} {l l' : List α} (h : l.Perm l') : ∀ {m : List β}, F2 R l m → ∃ m', m.Perm m' ∧ F2 R l' m' := by
  induction h with
  | nil => exact fun h => ⟨_, .refl _, h⟩
  | cons x _ ih =>
    intro m h
    cases h with | cons h hs =>
    obtain ⟨m', h1, h2⟩ := ih hs
    exact ⟨_, h1.cons _, .cons h h2⟩
  | swap x y l =>
    intro m h
    cases h with | cons h hs =>
    cases hs with | cons h' hs =>
    exact ⟨_, List.Perm.swap _ _ _, .cons h' (.cons h hs)⟩
  | trans _ _ ih1 ih2 =>
    intro m h
    obtain ⟨m1, p1, f1⟩ := ih1 h
    obtain ⟨m2, p2, f2⟩ := ih2 f1
    exact ⟨m2, p1.trans p2, f2⟩
theorem MapRel.perm {kt : TypeId} {es es' : List Ent} {ents : Array MapEntry} (h : MapRel P ρ kt es ents) (hp : es.Perm es') : MapRel P ρ kt es' ents := by
  obtain ⟨l, h1, h2, h3⟩ := h
  obtain ⟨l', p, f⟩ := F2.perm hp h2
  exact ⟨l', p.symm.trans h1, f, ((hp.map _).nodup_iff).1 h3⟩
theorem run_mapUpdate_at {mt kt e : TypeId} {w : World} {b : Nat} (hke : P.underlying mt = some (.map kt e)) {es : List Ent} {ents : Array MapEntry} {ck : Nat} (hmr : MapRel P ρ kt es ents) (hbn : Borns ck ents) (hh : w.heap[b]? = some (.map ents ck)) {k x x' : Value} {n : Nat} (hkf : keyFits P kt k = true) (hx : VRel ρ x x') :
    ∃ ents' ck', (Instr.mapUpdate mt (.map (some b)) k x').run P w = .ok () { w with heap := w.heap.setIfInBounds b (.map ents' ck') } ∧ MapRel P ρ kt (upd es (k, x, n)) ents' ∧ Borns ck' ents' ∧ ck' + es.length = ck + (upd es (k, x, n)).length := by
  have hpl := keyFits_plain hkf
  have hfk := findKey_run (P := P) hkf w hmr.fits
  by_cases hp : ∃ q ∈ es, q.1 = k
  · obtain ⟨q, hq, he⟩ := hp
    obtain ⟨es1, es2, hes⟩ := List.append_of_mem hq
    obtain ⟨k0, v0, b0⟩ := q
    have he : k0 = k := he
    subst he
    subst hes
    have hnd := hmr.choose_spec.2.2
    rw [List.map_append, List.map_cons, List.nodup_append] at hnd
    have e1 : ∀ q ∈ es1, q.1 ≠ k0 := fun q hq e => hnd.2.2 q.1 (List.mem_map.2 ⟨q, hq, rfl⟩) k0 (by simp) e
    have e2 : ∀ q ∈ es2, q.1 ≠ k0 := fun q hq e => (List.nodup_cons.1 hnd.2.1).1 (by rw [← e]; exact List.mem_map.2 ⟨q, hq, rfl⟩)
    have m1 : ∀ (l : List Ent), (∀ q ∈ l, q.1 ≠ k0) → l.map (one (k0, x, n)) = l := fun l hl =>
      (List.map_congr_left fun q hq => one_neg (p := (k0, x, n)) (hl q hq)).trans (List.map_id l)
    have hupd : upd (es1 ++ (k0, v0, b0) :: es2) (k0, x, n) = es1 ++ (k0, x, b0) :: es2 := by
      rw [upd_pos (p := (k0, x, n)) ⟨(k0, v0, b0), hq, rfl⟩, List.map_append, List.map_cons, m1 es1 e1, m1 es2 e2, one_pos (p := (k0, x, n)) (q := (k0, v0, b0)) rfl]
    rw [hupd]
    obtain ⟨l1, e0, l2, t1, t2, h1, h2, h3, hp, ht, hsp⟩ := hmr.present
    have hgi : (ents[t1.length]?).map (·.key) = some k0 := by
      have : ents[t1.length]? = (t1 ++ e0 :: t2)[t1.length]? := by rw [← ht]; simp
      rw [this]; simp; exact h2.1.symm
    have hmod := modify_at ht (fun e => { e with key := k0, val := x' })
    refine ⟨ents.modify t1.length fun e => { e with key := k0, val := x' }, ck, ?_, ⟨l1 ++ { e0 with key := k0, val := x' } :: l2, ?_, F2.append (.cons ⟨rfl, h2.2.1, h2.2.2.1, hx, h2.2.2.2.2⟩ h3) h1, ?_⟩, hbn.of (e1 := { e0 with key := k0, val := x' }) ht (by rw [hmod]) rfl, by simp⟩
    · rw [hsp] at hfk
      simp only [Instr.mapUpdate, Sem.run_bind, run_underlying hke, Result.andThen_ok, Sem.run_pure, run_getObj' hh (by simp), run_checkKey' hkf, hfk, hgi, Option.getD_some, keyStays_run hkf, run_setObj' hh (by simp)]
    · rw [hmod]
      exact (List.perm_middle.trans (hp.cons _)).trans List.perm_middle.symm
    · have := hmr.choose_spec.2.2
      simpa using this
  · have hno : ∀ p ∈ es, p.1 ≠ k := fun q hq e => hp ⟨q, hq, e⟩
    have hupd : upd es (k, x, n) = es ++ [(k, x, 0)] := upd_neg (p := (k, x, n)) hp
    rw [hupd]
    have hsp := hmr.absent hno
    obtain ⟨l, hpm, hf, hn⟩ := hmr
    refine ⟨ents.push { key := k, val := x', born := ck }, ck + 1, ?_, ⟨l ++ [{ key := k, val := x', born := ck }], ?_, F2.append (.cons ⟨rfl, hkf, hpl, hx, .inl rfl⟩ .nil) hf, ?_⟩, hbn.push rfl, by simp; omega⟩
    · rw [hsp] at hfk
      simp only [Instr.mapUpdate, Sem.run_bind, run_underlying hke, Result.andThen_ok, Sem.run_pure, run_getObj' hh (by simp), run_checkKey' hkf, hfk, run_setObj' hh (by simp)]
    · rw [Array.toList_push]
      exact hpm.append_right _
    · rw [List.map_append, List.nodup_append]
      refine ⟨hn, by simp, fun a ha b hb => ?_⟩
      obtain ⟨p, hp', rfl⟩ := List.mem_map.1 ha
      simp only [List.map_cons, List.map_nil, List.mem_singleton] at hb
      subst hb
      exact hno p hp'
/-- what is asked of the function. -/
structure CopyFits (P : Program) (f kt : Nat) : Prop where
  enter : ∀ args w, (callFunc f args).run P w = .ok (.enter f args) w
  nil : ∀ (pd : Option Nat) (w : World), Calls P f #[.map pd, .map none] w fun e w' => e = .returned (.tuple #[]) ∧ w' = w.alloc (.mapIter none 0 #[] 0)
  walk : ∃ mt et, P.underlying mt = some (.map kt et) ∧ ∀ (J : List MapEntry → Array MapEntry → Nat → Prop) (bd bs : Nat) (entsD entsS : Array MapEntry) (cd cs : Nat) (w : World), w.heap[bd]? = some (.map entsD cd) → w.heap[bs]? = some (.map entsS cs) → bd ≠ bs → Borns cs entsS →
    J [] entsD cd → (∀ vis e ents ck w', J vis ents ck → e ∈ entsS.toList → (∀ x ∈ vis, x ∈ entsS.toList ∧ x.born ≠ e.born) → w'.heap[bd]? = some (.map ents ck) →
      ∃ ents' ck', (Instr.mapUpdate mt (.map (some bd)) e.key e.val).run P w' = .ok () { w' with heap := w'.heap.setIfInBounds bd (.map ents' ck') } ∧ J (vis ++ [e]) ents' ck') →
    Calls P f #[.map (some bd), .map (some bs)] w fun e w' => e = .returned (.tuple #[]) ∧ ∃ vis ents ck, J vis ents ck ∧ (∀ e ∈ entsS.toList, e.born ∈ vis.map (·.born)) ∧ Proofs.EngCopy.Inv bd bs entsS cs w w' vis ents ck
theorem F2.snoc {α β : Type} {R : α → β → Prop} {l : List α} {m : List β} {a : α} {b : β} (h : F2 R l m) (h1 : R a b) : F2 R (l ++ [a]) (m ++ [b]) := F2.append (.cons h1 .nil) h
theorem F2.mem_left {α β : Type} {R : α → β → Prop} : ∀ {l : List α} {m : List β}, F2 R l m → ∀ a ∈ l, ∃ b ∈ m, R a b
  | _, _, .nil, _, ha => by cases ha
  | _, _, .cons h hs, a, ha => by
    rcases List.mem_cons.1 ha with rfl | ha
    · exact ⟨_, by simp, h⟩
    · obtain ⟨b, hb, hr⟩ := F2.mem_left hs a ha
      exact ⟨b, by simp [hb], hr⟩
theorem nodup_map {α β : Type} {f : α → β} {l : List α} (h : (l.map f).Nodup) : l.Nodup := by
  rw [List.nodup_iff_pairwise_ne] at h ⊢
  rw [List.pairwise_map] at h
  exact h.imp fun hne e => hne (by rw [e])
/-- ONE MAP IS COPIED INTO ANOTHER. -/
theorem copy_ok {f kt : Nat} (hF : CopyFits P f kt) : FFOk P f (fun _ args s => outO (sumA s (.copy kt) args)) := by
  intro ev hev args s v s' h ρ w args' hR ha
  have h : outO (sumA s (.copy kt) args) = .val v s' := h
  cases hs : sumA s (.copy kt) args with
  | none => rw [hs] at h; cases h
  | some r =>
  rw [hs] at h
  cases h
  unfold CallRun
  rw [hF.enter]
  show CallsIn Fence.wide 0 P f args'.toArray w _
  unfold sumA at hs
  split at hs
  · rename_i kt0 d heq
    cases hs
    cases heq
    cases ha with | cons hv1 ha => ?_
    cases ha with | cons hv2 ha => ?_
    cases ha
    cases hv1
    cases hv2
    refine CallsIn.mono (callsIn_wide.2 (hF.nil _ w)) ?_
    rintro e w' ⟨rfl, rfl⟩
    obtain ⟨g1, g2⟩ := hR.grow (w' := w.alloc (.mapIter none 0 #[] 0)) (by simp) (fun b hb => RowKit.Below.heap_alloc w _ b hb) rfl rfl rfl
    exact ⟨_, rfl, ρ, .tuple .nil, g1, g2⟩
  · rename_i kt0 d rr heq
    cases heq
    replace hs := bif'_some' hs
    obtain ⟨hdr, hs⟩ := hs
    replace hs := mapOf_some hs
    obtain ⟨kt1, es, cks, hbs, hs⟩ := hs
    replace hs := bif'_some hs
    obtain ⟨hk1, hs⟩ := hs
    replace hs := mapOf_some hs
    obtain ⟨kt2, es', ck, hbd, hs⟩ := hs
    replace hs := bif'_some hs
    obtain ⟨hk2, hs⟩ := hs
    replace hs := ob_some hs
    obtain ⟨es2, hes2, hs⟩ := hs
    rw [fNat_eq] at hs
    replace hs := ob_some hs
    obtain ⟨s1, hs1, hs⟩ := hs
    cases hs
    have hk1 := (Nat.eq_of_beq_eq_true hk1).symm
    have hk2 := (Nat.eq_of_beq_eq_true hk2).symm
    subst hk1
    subst hk2
    cases ha with | cons hv1 ha => ?_
    cases ha with | cons hv2 ha => ?_
    cases ha
    cases hv1 with | @map _ x hx => ?_
    cases hv2 with | @map _ y hy => ?_
    have hne : d ≠ rr := fun e => by rw [e] at hdr; rw [Nat.beq_refl] at hdr; cases hdr
    obtain ⟨hxlt, entsD, hhd, hmd, hbnd⟩ := hR.blk _ _ x hbd hx
    obtain ⟨hylt, entsS, hhs, hms, hbns⟩ := hR.blk _ _ y hbs hy
    have hxy : x.b ≠ y.b := fun e => by
      have := (hR.excl d rr _ _ x y hne hbd hbs hx hy e).1
      cases this
    obtain ⟨mt, et, hmt, hwalk⟩ := hF.walk
    have hnkS := hms.nodup
    have hndE : (es.map (·.1)).Nodup := hms.choose_spec.2.2
    have hndD : (es'.map (·.1)).Nodup := hmd.choose_spec.2.2
    have hinj : ∀ p ∈ es, ∀ q ∈ es, p.1 = q.1 → p = q := fun p hp q hq e => by
      obtain ⟨a1, a2, rfl⟩ := List.append_of_mem hp
      rw [List.map_append, List.map_cons, List.nodup_append] at hndE
      rcases List.mem_append.1 hq with hq | hq
      · exact (hndE.2.2 q.1 (List.mem_map.2 ⟨q, hq, rfl⟩) p.1 (by simp) e.symm).elim
      · rcases List.mem_cons.1 hq with rfl | hq
        · rfl
        · exact ((List.nodup_cons.1 hndE.2.1).1 (by rw [e]; exact List.mem_map.2 ⟨q, hq, rfl⟩)).elim
    have hc := hwalk (fun vis ents ckj => ∃ vs : List Ent, F2 (EntRel P ρ kt) vs vis ∧ (∀ p ∈ vs, p ∈ es) ∧ (vs.map (·.1)).Nodup ∧ MapRel P ρ kt (vs.foldl upd es') ents ∧ Borns ckj ents ∧ ckj + es'.length = ck + (vs.foldl upd es').length)
      x.b y.b entsD entsS ck cks w hhd hhs hxy hbns ⟨[], .nil, fun p hp => (by cases hp), .nil, hmd, hbnd, rfl⟩ (by
        rintro vis e ents ckj w' ⟨vs, v1, v2, v3, v4, v5, v6⟩ he hvis hh'
        obtain ⟨l0, hp0, hf0, _⟩ := hms
        obtain ⟨p, hp, hpe⟩ := F2.mem_right hf0 e (hp0.mem_iff.2 he)
        obtain ⟨ents', ck', q1, q2, q3, q4⟩ := run_mapUpdate_at (P := P) (n := p.2.2) hmt v4 v5 hh' hpe.2.1 hpe.2.2.2.1
        rw [← hpe.1]
        refine ⟨ents', ck', q1, vs ++ [p], v1.snoc hpe, fun q hq => ?_, ?_, ?_, q3, ?_⟩
        · rcases List.mem_append.1 hq with hq | hq
          · exact v2 q hq
          · simp at hq; subst hq; exact hp
        · rw [List.map_append, List.nodup_append]
          refine ⟨v3, by simp, fun a ha b hb hab => ?_⟩
          simp at hb
          subst hb
          obtain ⟨q, hq, rfl⟩ := List.mem_map.1 ha
          have := hinj q (v2 q hq) p hp hab
          subst this
          obtain ⟨e1, he1, hqe⟩ := F2.mem_left v1 q hq
          have hnk := hnkS
          have hee : e1 = e := by
            have hk : e1.key = e.key := by rw [← hqe.1, hpe.1]
            obtain ⟨a1, a2, ha⟩ := List.append_of_mem he
            have he1' := (hvis e1 he1).1
            rw [ha] at hnk he1'
            rw [List.map_append, List.map_cons, List.nodup_append] at hnk
            rcases List.mem_append.1 he1' with h | h
            · exact (hnk.2.2 e1.key (List.mem_map.2 ⟨e1, h, rfl⟩) e.key (by simp) hk).elim
            · rcases List.mem_cons.1 h with h | h
              · exact h
              · exact ((List.nodup_cons.1 hnk.2.1).1 (by rw [← hk]; exact List.mem_map.2 ⟨e1, h, rfl⟩)).elim
          exact (hvis e1 he1).2 (by rw [hee])
        · rw [List.foldl_append]; exact q2
        · rw [List.foldl_append]
          show ck' + es'.length = ck + (upd (vs.foldl upd es') p).length
          have q4' : ck' + (vs.foldl upd es').length = ckj + (upd (vs.foldl upd es') p).length := q4
          omega)
    refine CallsIn.mono (callsIn_wide.2 hc) ?_
    rintro e w' ⟨rfl, vis, ents, ckj, ⟨vs, v1, v2, v3, v4, v5, v6⟩, hall, hI⟩
    have hperm : vs.Perm es := by
      refine (List.perm_ext_iff_of_nodup (nodup_map v3) (nodup_map hndE)).2 fun p => ⟨v2 p, fun hp => ?_⟩
      obtain ⟨l0, hp0, hf0, _⟩ := hms
      obtain ⟨e1, he1, hpe⟩ := F2.mem_left hf0 p hp
      obtain ⟨e2, he2, hb2⟩ := List.mem_map.1 (hall e1 (hp0.mem_iff.1 he1))
      have : e2 = e1 := by
        have he2' := hI.mem e2 he2
        obtain ⟨a1, a2, ha⟩ := List.append_of_mem (hp0.mem_iff.1 he1)
        have hnb := hbns.1
        rw [ha] at hnb he2'
        rw [List.map_append, List.map_cons, List.nodup_append] at hnb
        rcases List.mem_append.1 he2' with h | h
        · exact (hnb.2.2 e2.born (List.mem_map.2 ⟨e2, h, rfl⟩) e1.born (by simp) hb2).elim
        · rcases List.mem_cons.1 h with h | h
          · exact h
          · exact ((List.nodup_cons.1 hnb.2.1).1 (by rw [← hb2]; exact List.mem_map.2 ⟨e2, h, rfl⟩)).elim
      subst this
      obtain ⟨q, hq, hqe⟩ := F2.mem_right v1 e2 he2
      have := hinj q (v2 q hq) p hp (by rw [hqe.1, hpe.1])
      rw [← this]; exact hq
    have hpw : vs.Pairwise (fun p q => p.1 ≠ q.1) := by
      have := v3
      rw [List.nodup_iff_pairwise_ne, List.pairwise_map] at this
      exact this
    have hes := copyEs_upd hndD hes2
    have hP := foldl_upd_perm hperm hpw es' es' (.refl _)
    rw [← hes] at hP
    have hmr2 := v4.perm hP
    have hlen := hP.length_eq
    have hle := foldl_upd_len vs es'
    have hck : ck + ((len es2).sub (len es')) = ckj := by
      rw [len_eq, len_eq]
      show ck + (es2.length - es'.length) = ckj
      omega
    -- the world with the iterator alone
    have hxs : x.b < w'.heap.size := by rw [hI.size]; omega
    generalize hw1 : ({ w' with heap := w'.heap.setIfInBounds x.b (.map entsD ck) } : World) = w1
    have hold1 : ∀ b, b < w.heap.size → w1.heap[b]? = w.heap[b]? := fun b hb => by
      rw [← hw1]
      by_cases hbx : b = x.b
      · subst hbx; simp [hxs, hhd]
      · simp only
        rw [Array.getElem?_setIfInBounds_ne (Ne.symm hbx)]
        exact hI.rest b hb hbx
    have hsz1 : w1.heap.size = w'.heap.size := by rw [← hw1]; simp
    have ht1 : w1.tape = w.tape ∧ w1.os = w.os ∧ w1.output = w.output := by rw [← hw1]; exact ⟨hI.tape, hI.os, hI.out⟩
    obtain ⟨g1, g2⟩ := hR.grow (w' := w1) (by rw [hsz1, hI.size]; omega) hold1 ht1.1 ht1.2.1 ht1.2.2
    have hw := Rel.write (P := P) (w' := w') g1 hs1 hbd rfl hx hsz1.symm (fun b hb => by
      rw [← hw1]
      simp only
      rw [Array.getElem?_setIfInBounds_ne (Ne.symm hb)]) (by rw [ht1.1]; exact hI.tape) (by rw [ht1.2.1]; exact hI.os) (by rw [ht1.2.2]; exact hI.out) ⟨ents, by
        show w'.heap[x.b]? = some (.map ents (ck + ((len es2).sub (len es'))))
        rw [hck]; exact hI.dst, hmr2, by rw [show Nat.add ck ((len es2).sub (len es')) = ckj from hck]; exact v5⟩
    exact ⟨_, rfl, ρ, .tuple .nil, hw.1, g2.trans hw.2⟩
  · rename_i he; cases he
  · cases hs
end Go.Eng
/-! The configuration's facts, one by one. -/
namespace Go.Eng
open Go
variable {P : Program}
theorem lookupE_mem {f : Nat} {e : Ext} : ∀ {l : List (Nat × Ext)}, lookupE f l = some e → (f, e) ∈ l
  | [], h => by cases h
  | p :: l, h => by
    have h : bif' (Nat.beq f p.1) (some p.2) (lookupE f l) = some e := h
    rw [bif'_eq] at h
    split at h
    · rename_i hb
      cases h
      rw [Nat.eq_of_beq_eq_true hb]
      exact List.mem_cons_self ..
    · exact List.mem_cons_of_mem _ (lookupE_mem h)
theorem lookupS_mem {f : Nat} {e : Sum} : ∀ {l : List (Nat × Sum)}, lookupS f l = some e → (f, e) ∈ l
  | [], h => by cases h
  | p :: l, h => by
    have h : bif' (Nat.beq f p.1) (some p.2) (lookupS f l) = some e := h
    rw [bif'_eq] at h
    split at h
    · rename_i hb
      cases h
      rw [Nat.eq_of_beq_eq_true hb]
      exact List.mem_cons_self ..
    · exact List.mem_cons_of_mem _ (lookupS_mem h)
/-- no function of the list bears the name. -/
noncomputable def noName (n : String) (l : List Func) : Bool := List.rec (motive := fun _ => Bool) true (fun f _ ih => Bool.rec (motive := fun _ => Bool) ih false (decide (f.name = n))) l
theorem noName_mem {n : String} : ∀ {l : List Func}, noName n l = true → ∀ f ∈ l, f.name ≠ n
  | [], _, f, hf => by cases hf
  | g :: l, h, f, hf => by
    have h : Bool.rec (motive := fun _ => Bool) (noName n l) false (decide (g.name = n)) = true := h
    by_cases hg : g.name = n
    · rw [decide_eq_true hg] at h; cases h
    · rw [decide_eq_false hg] at h
      rcases List.mem_cons.1 hf with rfl | hf
      · exact hg
      · exact noName_mem h f hf
theorem plainly_of (h : noName "runtime.NumGoroutine" P.funcs.toList = true) : Plainly P := fun f fn hf => by
  have : fn ∈ P.funcs.toList := by
    have := Array.mem_of_getElem? hf
    simpa using this
  have := noName_mem h fn this
  simpa using this
theorem cfg_ok {X : Cfg} (h1 : Plainly P) (h2 : P.follows .mixedOrders = true) (h3 : ∀ p ∈ X.ext, ExtFits P p.1 p.2) (h4 : ∀ p ∈ X.sum, FFOk P p.1 (fun _ args s => outO (sumA s p.2 args))) (h5 : ∀ e ∈ X.tab, EntryOk P e) : CfgOk P X :=
  ⟨h1, h2, fun f e h => h3 (f, e) (lookupE_mem h), h5, fun f e h => h4 (f, e) (lookupS_mem h)⟩
/-- the answer is this value. -/
noncomputable def outV (v : Value) (o : Out) : Bool := Out.rec (motive := fun _ => Bool) false (fun _ _ _ => false) (fun u _ => vEq 12 v u) o
/-- A LAW WITHOUT ARGUMENTS: the evaluator says 'true'. -/
theorem calls_true {X : Cfg} (hX : CfgOk P X) {n f : Nat} {fn : Func} {c : Code} (hf : P.funcs[f]? = some fn) (hb : fn.body = some c) (h : outV (.bool true) (eval P X n (.func (.func f) #[] #[]) [] ⟨roomH .e, 0, 0⟩) = true) (w : World) :
    Calls P f #[] w fun e w' => e = .returned (.bool true) ∧ (∀ b, b < w.heap.size → w'.heap[b]? = w.heap[b]?) ∧ w.heap.size ≤ w'.heap.size ∧ w'.tape = w.tape ∧ w'.os = w.os ∧ w'.output = w.output := by
  cases ho : eval P X n (.func (.func f) #[] #[]) [] ⟨roomH .e, 0, 0⟩ with
  | no => rw [ho] at h; cases h
  | code => rw [ho] at h; cases h
  | val v s =>
    rw [ho] at h
    have hv := vEq_sound 12 _ _ h
    subst hv
    refine (eval_calls hX hf hb ho w).mono ?_
    rintro e w' ⟨u, ρ', he, hv, rest⟩
    cases hv
    exact ⟨he, rest⟩
/-- a block is laid into a trie. -/
noncomputable def insH (b : Blk) (fuel : Nat) : Nat → T Blk → T Blk :=
  Nat.rec (motive := fun _ => Nat → T Blk → T Blk) (fun _ t => t) (fun _ ih k t =>
    T.rec (motive := fun _ => T Blk)
      (Nat.rec (motive := fun _ => T Blk) (.n (some b) .e .e) (fun m _ => bif' (Nat.beq (Nat.mod m 2) 0) (.n none (ih (Nat.div m 2) .e) .e) (.n none .e (ih (Nat.div m 2) .e))) k)
      (fun v l r _ _ => Nat.rec (motive := fun _ => T Blk) (.n (some b) l r) (fun m _ => bif' (Nat.beq (Nat.mod m 2) 0) (.n v (ih (Nat.div m 2) l) r) (.n v l (ih (Nat.div m 2) r))) k) t) fuel
/-- these blocks. -/
noncomputable def mkH (l : List (Nat × Blk)) : T Blk := List.rec (motive := fun _ => T Blk) .e (fun p _ ih => insH p.2 64 p.1 ih) l
end Go.Eng
