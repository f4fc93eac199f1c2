import Derived.Test.YtnfejffknenkeaaGreatDoorEngC
import Derived.Lib.MakeNoZero
import Derived.Lib.Bytealg
import Derived.Lib.Overlaps
import Derived.Laws.Externs
set_option linter.unusedVariables false
set_option linter.unusedSimpArgs false
/- An evaluator of the code of the model, proved: what it answers, the program does, whatever the world. Part of the proof of ShareKnown. -/
/-! Loops over maps whose rounds write: what is held against what; states at renamed places. -/
namespace Go.Eng
open Go
variable {P : Program}
theorem piF_lt {N : Nat} {π : Prs} {a : Nat} (h : a < N) : piF N π a = some a := by
  unfold piF
  have hb : Nat.blt a N = true := Nat.ble_eq_true_of_le h
  rw [hb]
  exact fNat_eq _ _
theorem piF_some {N : Nat} {π : Prs} {a b : Nat} (h : piF N π a = some b) : (a < N ∧ b = a) ∨ (N ≤ a ∧ (a, b) ∈ π) := by
  unfold piF at h
  rw [bif'_eq] at h
  split at h
  · rename_i hb
    rw [fNat_eq] at h; cases h
    exact .inl ⟨Nat.le_of_ble_eq_true hb, rfl⟩
  · rename_i hb
    refine .inr ⟨Nat.le_of_not_lt fun hlt => hb (Nat.ble_eq_true_of_le hlt), ?_⟩
    clear hb
    induction π with
    | nil => cases h
    | cons p t ih =>
      have h : bif' (Nat.beq p.1 a) (some p.2) (List.rec (motive := fun _ => Option Nat) none (fun p _ ih => bif' (Nat.beq p.1 a) (some p.2) ih) t) = some b := h
      rw [bif'_eq] at h
      split at h
      · rename_i he
        cases h
        rw [← Nat.eq_of_beq_eq_true he]
        exact List.mem_cons_self
      · exact List.mem_cons_of_mem _ (ih h)
theorem fsts_nodup : ∀ {l : Prs}, (fsts l).Nodup → ∀ {a b b'}, (a, b) ∈ l → (a, b') ∈ l → b = b'
  | [], _, a, b, b', h, _ => by cases h
  | p :: t, hn, a, b, b', h1, h2 => by
    have hn : (p.1 :: fsts t).Nodup := hn
    have hm : ∀ {l : Prs} {q : Nat × Nat}, q ∈ l → q.1 ∈ fsts l := fun {l q} hq => by
      induction l with
      | nil => cases hq
      | cons x l ih =>
        rcases List.mem_cons.1 hq with rfl | hq
        · exact List.mem_cons_self
        · exact List.mem_cons_of_mem _ (ih hq)
    obtain ⟨h3, h4⟩ := List.nodup_cons.1 hn
    rcases List.mem_cons.1 h1 with e1 | e1 <;> rcases List.mem_cons.1 h2 with e2 | e2
    · rw [← e1] at e2; cases e2; rfl
    · rw [← e1] at h3; exact (h3 (hm (q := (a, b')) e2)).elim
    · rw [← e2] at h3; exact (h3 (hm (q := (a, b)) e1)).elim
    · exact fsts_nodup h4 e1 e2
theorem mem_fsts : ∀ {l : Prs} {q : Nat × Nat}, q ∈ l → q.1 ∈ fsts l
  | x :: l, q, hq => by
    rcases List.mem_cons.1 hq with rfl | hq
    · exact List.mem_cons_self
    · exact List.mem_cons_of_mem _ (mem_fsts hq)
theorem mem_snds : ∀ {l : Prs} {q : Nat × Nat}, q ∈ l → q.2 ∈ snds l
  | x :: l, q, hq => by
    rcases List.mem_cons.1 hq with rfl | hq
    · exact List.mem_cons_self
    · exact List.mem_cons_of_mem _ (mem_snds hq)
theorem snds_nodup : ∀ {l : Prs}, (snds l).Nodup → ∀ {p q}, p ∈ l → q ∈ l → p.2 = q.2 → p = q
  | p :: t, hn, x, y, h1, h2, he => by
    have hn : (p.2 :: snds t).Nodup := hn
    obtain ⟨h3, h4⟩ := List.nodup_cons.1 hn
    rcases List.mem_cons.1 h1 with rfl | e1 <;> rcases List.mem_cons.1 h2 with rfl | e2
    · rfl
    · exact (h3 (by rw [he]; exact mem_snds e2)).elim
    · exact (h3 (by rw [← he]; exact mem_snds e1)).elim
    · exact snds_nodup h4 e1 e2 he
theorem cmpO_some {φ : Nat → Option Nat} {x : Option Blk} {y : Blk} (h : cmpO φ x (some y) = true) : ∃ x', x = some x' ∧ cmpB φ x' y = true := by
  cases x with
  | none => cases h
  | some x' => exact ⟨x', rfl, h⟩
theorem cmpH_get {φ : Nat → Option Nat} {f g : T Blk} : ∀ {n L : Nat}, cmpH φ f g n L = true → ∀ a, L ≤ a → a < L + n → cmpO φ (f.get a) (g.get a) = true
  | 0, L, _, a, h1, h2 => by omega
  | n + 1, L, h, a, h1, h2 => by
    have h : bif' (cmpO φ (f.get L) (g.get L)) (cmpH φ f g n (Nat.succ L)) false = true := h
    obtain ⟨h3, h4⟩ := bif_tt h
    by_cases e : a = L
    · rw [e]; exact h3
    · exact cmpH_get h4 a (by omega) (by omega)
theorem cmpP_get {φ : Nat → Option Nat} {f g : T Blk} : ∀ {l : Prs}, cmpP φ f g l = true → ∀ p ∈ l, cmpO φ (f.get p.1) (g.get p.2) = true
  | q :: l, h, p, hp => by
    have h : bif' (cmpO φ (f.get q.1) (g.get q.2)) (cmpP φ f g l) false = true := h
    obtain ⟨h3, h4⟩ := bif_tt h
    rcases List.mem_cons.1 hp with rfl | hp
    · exact h3
    · exact cmpP_get h4 p hp
theorem inT_get {φ : Nat → Option Nat} : ∀ {c' c : T (List Value)}, inT φ c' c = true → ∀ i l', c'.get i = some l' → ∃ l, c.get i = some l ∧ renL (renV φ 12) l = some l'
  | .e, _, _, i, l', h => by rw [T.get_e] at h; cases h
  | .n v' l1 r1, .e, hs, i, l', h => by
    have hs : bif' (Option.rec (motive := fun _ => Bool) true (fun _ => false) v') (bif' (inT φ l1 .e) (inT φ r1 .e) false) false = true := hs
    obtain ⟨h0, hs⟩ := bif_tt hs
    obtain ⟨h1, h2⟩ := bif_tt hs
    rcases nat_cases3 i with rfl | ⟨m, rfl⟩ | ⟨m, rfl⟩
    · rw [T.get_n0] at h; subst h; cases h0
    · rw [T.get_odd] at h; obtain ⟨l, e, _⟩ := inT_get h1 m l' h; rw [T.get_e] at e; cases e
    · rw [T.get_even] at h; obtain ⟨l, e, _⟩ := inT_get h2 m l' h; rw [T.get_e] at e; cases e
  | .n v' l1 r1, .n v l2 r2, hs, i, l', h => by
    have hs : bif' (inC φ v v') (bif' (inT φ l1 l2) (inT φ r1 r2) false) false = true := hs
    obtain ⟨h0, hs⟩ := bif_tt hs
    obtain ⟨h1, h2⟩ := bif_tt hs
    rcases nat_cases3 i with rfl | ⟨m, rfl⟩ | ⟨m, rfl⟩
    · rw [T.get_n0] at h ⊢
      subst h
      cases v with
      | none => cases h0
      | some x =>
        have h0 : Option.rec (motive := fun _ => Bool) false (fun x' => vEqs (vEq 12) x' l') (renL (renV φ 12) x) = true := h0
        cases hx : renL (renV φ 12) x with
        | none => rw [hx] at h0; cases h0
        | some x' => rw [hx] at h0; exact ⟨x, rfl, by rw [hx, vEqs12 h0]⟩
    · rw [T.get_odd] at h ⊢; exact inT_get h1 m l' h
    · rw [T.get_even] at h ⊢; exact inT_get h2 m l' h
theorem takeE_some {k : Value} : ∀ {es rest : List Ent0} {q : Ent0}, takeE k es = some (q, rest) → ∃ e1 e2, es = e1 ++ q :: e2 ∧ rest = e1 ++ e2 ∧ q.1 = k
  | [], rest, q, h => by cases h
  | e :: t, rest, q, h => by
    have h : bif' (vEq 12 e.1 k) (some (e, t)) (ob (takeE k t) fun q => some (q.1, e :: q.2)) = some (q, rest) := h
    rw [bif'_eq] at h
    split at h
    · rename_i hk
      cases h
      exact ⟨[], t, rfl, rfl, vEq_sound 12 _ _ hk⟩
    · replace h := ob_some h
      obtain ⟨p, hp, h⟩ := h
      cases h
      obtain ⟨e1, e2, h1, h2, h3⟩ := takeE_some (q := p.1) (rest := p.2) hp
      exact ⟨e :: e1, e2, by rw [h1]; rfl, by rw [h2]; rfl, h3⟩
theorem permE_ok {α : Type} {R1 R2 : Ent0 → α → Prop} {φ : Nat → Option Nat} (hR : ∀ p q e, p.1 = q.1 → cmpE φ p q = true → R1 p e → R2 q e) : ∀ {es' es : List Ent0} {l : List α}, permE φ es' es = true → F2 R1 es l → ∃ l', l'.Perm l ∧ F2 R2 es' l' ∧ (es'.map (·.1)).Perm (es.map (·.1))
  | [], [], l, _, hf => by cases hf; exact ⟨[], .refl _, .nil, .refl _⟩
  | [], _ :: _, l, h, _ => by cases h
  | e :: es', es, l, h, hf => by
    have h : Option.rec (motive := fun _ => Bool) false (fun q : Ent0 × List Ent0 => bif' (cmpE φ q.1 e) (permE φ es' q.2) false) (takeE e.1 es) = true := h
    cases ht : takeE e.1 es with
    | none => rw [ht] at h; cases h
    | some q =>
      rw [ht] at h
      obtain ⟨h1, h2⟩ := bif_tt h
      obtain ⟨e1, e2, rfl, hr, hk⟩ := takeE_some (q := q.1) (rest := q.2) ht
      obtain ⟨m1, b, m2, rfl, f1, hb, f2⟩ := hf.split
      have hf' : F2 R1 q.2 (m1 ++ m2) := by rw [hr]; exact F2.append f2 f1
      obtain ⟨l', p1, p2, p3⟩ := permE_ok hR h2 hf'
      refine ⟨b :: l', (p1.cons b).trans List.perm_middle.symm, .cons (hR _ _ _ hk h1 hb) p2, ?_⟩
      rw [hr] at p3
      simp only [List.map_cons, List.map_append] at p3 ⊢
      rw [← hk]
      exact (p3.cons _).trans List.perm_middle.symm
theorem cmpB_ok {ρ1 ρ2 : Ren} {φ : Nat → Option Nat} (h : ∀ a b x, φ a = some b → ρ1 a = some x → ρ2 b = some x) {x : Loc} {w : World} {k k' : Blk} (hc : cmpB φ k k' = true) (hb : BRel P ρ1 x w k) : BRel P ρ2 x w k' ∧ isRo k = isRo k' := by
  unfold cmpB at hc
  split at hc
  · rename_i c sz n ro et c' sz' n' ro' et'
    replace hc := bif_tt hc
    obtain ⟨h0, hc⟩ := hc
    replace hc := bif_tt hc
    obtain ⟨h1, hc⟩ := hc
    replace hc := bif_tt hc
    obtain ⟨h2, hc⟩ := hc
    replace hc := bif_tt hc
    obtain ⟨h3, hc⟩ := hc
    have hro : ro = ro' := by cases ro <;> cases ro' <;> first | rfl | exact (Bool.noConfusion h3)
    replace h0 := Nat.eq_of_beq_eq_true h0
    replace h1 := Nat.eq_of_beq_eq_true h1
    replace h2 := Nat.eq_of_beq_eq_true h2
    subst h0 h1 h2 hro
    refine ⟨⟨fun i l' hl => ?_, hb.all, hb.free, hb.shape, hb.mult⟩, rfl⟩
    obtain ⟨l, hg, hl'⟩ := inT_get hc i l' hl
    obtain ⟨b1, b2, b3⟩ := hb.cell i l hg
    obtain ⟨g1, g2⟩ := renL_get hl'
    refine ⟨b1, by rw [g1, b2], fun j v' hv => ?_⟩
    obtain ⟨v, hv1, hv2⟩ := g2 j v' hv
    obtain ⟨u, hu, hr⟩ := b3 j v hv1
    exact ⟨u, hu, renV_fwd h 12 v v' u hv2 hr⟩
  · rename_i kt es ck kt' es' ck'
    replace hc := bif_tt hc
    obtain ⟨h0, hc⟩ := hc
    replace hc := bif_tt hc
    obtain ⟨h1, hc⟩ := hc
    replace h0 := Nat.eq_of_beq_eq_true h0
    replace h1 := Nat.eq_of_beq_eq_true h1
    subst h0 h1
    obtain ⟨ents, e1, ⟨l, p1, p2, p3⟩, e3⟩ := hb
    obtain ⟨l', q1, q2, q3⟩ := permE_ok (R2 := fun p e => p.1 = e.key ∧ keyFits P kt p.1 = true ∧ Plain p.1 ∧ VRel ρ2 p.2.1 e.val ∧ (p.2.2 = 0 ∨ p.2.2 = e.born + 1)) (fun p q e hk hcm hR => by
      obtain ⟨r1, r2, r3, r4, r5⟩ := hR
      obtain ⟨c1, c2⟩ := bif_tt hcm
      rw [← hk]
      refine ⟨r1, r2, r3, ?_, ?_⟩
      · cases hv : renV φ 12 p.2.1 with
        | none => rw [hv] at c1; cases c1
        | some v' =>
          rw [hv] at c1
          have c1 : vEq 12 v' q.2.1 = true := c1
          rw [← vEq_sound 12 _ _ c1]
          exact renV_fwd h 12 _ _ _ hv r4
      · rw [bif'_eq] at c2
        split at c2
        · rename_i hz; exact .inl (Nat.eq_of_beq_eq_true hz)
        · rw [← Nat.eq_of_beq_eq_true c2]; exact r5) hc p2
    exact ⟨⟨ents, e1, ⟨l', q1.trans p1, q2, q3.nodup_iff.2 p3⟩, e3⟩, rfl⟩
  · cases hc
theorem sameO_eq {x y : Option Blk} (h : sameO x y = true) : x = y := by
  cases x with
  | none => cases y with | none => rfl | some _ => cases h
  | some x => cases y with | none => cases h | some y => rw [blkEq_sound h]
theorem chgs_get {h g : T Blk} : ∀ {n L : Nat} {ch : List Nat}, chgs h g n L = some ch → ∀ a, L ≤ a → a < L + n → a ∈ ch ∨ h.get a = g.get a
  | 0, L, ch, _, a, h1, h2 => by omega
  | n + 1, L, ch, hc, a, h1, h2 => by
    have hc : ob (chgs h g n (Nat.succ L)) (fun l => bif' (sameO (h.get L) (g.get L)) (some l) (fNat L fun a => some (a :: l))) = some ch := hc
    obtain ⟨l, hl, hc⟩ := ob_some hc
    rw [bif'_eq] at hc
    have ih := fun hne : a ≠ L => chgs_get hl a (by omega) (by omega)
    split at hc
    · rename_i hs
      cases hc
      by_cases e : a = L
      · rw [e]; exact .inr (sameO_eq hs)
      · exact ih e
    · rw [fNat_eq] at hc
      cases hc
      by_cases e : a = L
      · rw [e]; exact .inl List.mem_cons_self
      · exact (ih e).imp (List.mem_cons_of_mem _) id
theorem allCh_ne {f h : T Blk} : ∀ {l : List Nat}, allCh f h l = true → ∀ a ∈ l, f.get a ≠ h.get a
  | b :: l, hc, a, ha => by
    have hc : bif' (Nat.beq (hXb (f.get b)) (hXb (h.get b))) false (allCh f h l) = true := hc
    rw [bif'_eq] at hc
    split at hc
    · cases hc
    · rename_i hne
      rcases List.mem_cons.1 ha with rfl | ha
      · intro e; exact hne (by rw [e]; exact Nat.beq_refl _)
      · exact allCh_ne hc a ha
theorem layR_out {h0 f : T Blk} : ∀ {n a : Nat} {h h' : T Blk}, layR h0 f n a h = some h' → ∀ j, (j < a ∨ a + n ≤ j) → h'.get j = h.get j
  | 0, a, h, h', e, j, _ => by cases e; rfl
  | n + 1, a, h, h', e, j, hj => by
    have e : ob (normO (h0.get a) (f.get a)) (fun b => ob (Option.rec (motive := fun _ => Option (T Blk)) (T.put none h a) (fun k => T.put (some k) h a) b) fun h' => layR h0 f n (Nat.succ a) h') = some h' := e
    obtain ⟨b, _, e⟩ := ob_some e
    obtain ⟨h1, e1, e⟩ := ob_some e
    have hp : ∃ z, T.put z h a = some h1 := by
      cases b with
      | none => exact ⟨_, e1⟩
      | some k => exact ⟨_, e1⟩
    obtain ⟨z, hp⟩ := hp
    rw [layR_out e j (by omega), T.get_put _ _ _ _ hp, if_neg (by omega)]
theorem hideL_eq : ∀ {l : List Nat} {s s' : AS}, hideL l s = some s' → s'.nx = s.nx ∧ s'.lim = s.lim ∧ (∀ a ∈ l, s.lim ≤ a) ∧ ∀ j, s'.h.get j = if j ∈ l then none else s.h.get j
  | [], s, s', h => by cases h; exact ⟨rfl, rfl, fun a ha => (by cases ha), fun j => by simp⟩
  | a :: l, s, s', h => by
    have h : ob (s.set a none) (hideL l) = some s' := h
    obtain ⟨s1, h1, h⟩ := ob_some h
    obtain ⟨i1, i2, i3, i4⟩ := hideL_eq h
    obtain ⟨j1, j2⟩ := AS.set_eq h1
    obtain ⟨k1, k2⟩ := AS.set_lim h1
    refine ⟨i1.trans j1, i2.trans k1, fun b hb => ?_, fun j => ?_⟩
    · rcases List.mem_cons.1 hb with rfl | hb
      · exact k2
      · have := i3 b hb; rw [k1] at this; exact this
    · rw [i4, j2]
      by_cases e1 : j ∈ l
      · rw [if_pos e1, if_pos (List.mem_cons_of_mem _ e1)]
      · rw [if_neg e1]
        by_cases e2 : j = a
        · rw [if_pos e2, if_pos (by rw [e2]; exact List.mem_cons_self)]
        · rw [if_neg e2, if_neg (fun h => (List.mem_cons.1 h).elim e2 e1)]
theorem showL_get {h0 : T Blk} : ∀ {l : List Nat} {h h' : T Blk}, showL h0 l h = some h' → ∀ j, h'.get j = if j ∈ l then h0.get j else h.get j
  | [], h, h', e, j => by cases e; simp
  | a :: l, h, h', e, j => by
    have e : ob (Option.rec (motive := fun _ => Option (T Blk)) (T.put none h a) (fun k => T.put (some k) h a) (h0.get a)) (showL h0 l) = some h' := e
    obtain ⟨h1, e1, e⟩ := ob_some e
    have e1 : T.put (h0.get a) h a = some h1 := by
      cases hg : h0.get a with
      | none => rw [hg] at e1; exact e1
      | some k => rw [hg] at e1; exact e1
    rw [showL_get e j, T.get_put _ _ _ _ e1]
    by_cases m1 : j ∈ l
    · rw [if_pos m1, if_pos (List.mem_cons_of_mem _ m1)]
    · rw [if_neg m1]
      by_cases m2 : j = a
      · rw [if_pos m2, if_pos (by rw [m2]; exact List.mem_cons_self), m2]
      · rw [if_neg m2, if_neg (fun h => (List.mem_cons.1 h).elim m2 m1)]
theorem odds_mem {h : T Blk} : ∀ {n L : Nat} {od : List Nat}, odds h n L = some od → ∀ a ∈ od, oddB (h.get a) = true ∧ L ≤ a ∧ a < L + n
  | 0, L, od, e, a, ha => by cases e; cases ha
  | n + 1, L, od, e, a, ha => by
    have e : ob (odds h n (Nat.succ L)) (fun l => bif' (oddB (h.get L)) (fNat L fun a => some (a :: l)) (some l)) = some od := e
    obtain ⟨l, hl, e⟩ := ob_some e
    rw [bif'_eq] at e
    split at e
    · rename_i ho
      rw [fNat_eq] at e; cases e
      rcases List.mem_cons.1 ha with rfl | ha
      · exact ⟨ho, Nat.le_refl _, by omega⟩
      · obtain ⟨a1, a2, a3⟩ := odds_mem hl a ha; exact ⟨a1, by omega, by omega⟩
    · cases e
      obtain ⟨a1, a2, a3⟩ := odds_mem hl a ha; exact ⟨a1, by omega, by omega⟩
theorem splitW_mem {f : Ent0 → Bool} : ∀ {es : List Ent0} {q : List Ent0 × List Ent0}, splitW f es = some q → q.1.Sublist es ∧ q.2.Sublist es ∧ ∀ e ∈ es, e ∈ q.1 ∨ e ∈ q.2
  | [], q, h => by cases h; exact ⟨.slnil, .slnil, fun e he => by cases he⟩
  | e :: es, q, h => by
    have h : ob (splitW f es) (fun q => bif' (f e) (some (e :: q.1, q.2)) (some (q.1, e :: q.2))) = some q := h
    obtain ⟨p, hp, h⟩ := ob_some h
    obtain ⟨h1, h2, h3⟩ := splitW_mem hp
    rw [bif'_eq] at h
    split at h
    · cases h
      exact ⟨h1.cons_cons e, h2.cons e, fun x hx => by
        rcases List.mem_cons.1 hx with rfl | hx
        · exact .inl List.mem_cons_self
        · exact (h3 x hx).imp (List.mem_cons_of_mem _) id⟩
    · cases h
      exact ⟨h1.cons e, h2.cons_cons e, fun x hx => by
        rcases List.mem_cons.1 hx with rfl | hx
        · exact .inr List.mem_cons_self
        · exact (h3 x hx).imp id (List.mem_cons_of_mem _)⟩
theorem allW_mem {α : Type} {f : α → Bool} : ∀ {l : List α}, allW f l = true → ∀ x ∈ l, f x = true
  | y :: l, h, x, hx => by
    have h : bif' (f y) (allW f l) false = true := h
    obtain ⟨h1, h2⟩ := bif_tt h
    rcases List.mem_cons.1 hx with rfl | hx
    · exact h1
    · exact allW_mem h2 x hx
theorem consP_mem {e : Ent0} : ∀ {l : List (Ent0 × List Ent0)} {q}, q ∈ l → (q.1, e :: q.2) ∈ consP e l
  | p :: l, q, h => by
    rcases List.mem_cons.1 h with rfl | h
    · exact List.mem_cons_self
    · exact List.mem_cons_of_mem _ (consP_mem h)
theorem picks_mem {e : Ent0} {l2 : List Ent0} : ∀ {l1 : List Ent0}, (e, l1 ++ l2) ∈ picks (l1 ++ e :: l2)
  | [] => List.mem_cons_self
  | x :: l1 => List.mem_cons_of_mem _ (consP_mem (e := x) (q := (e, l1 ++ l2)) picks_mem)
theorem roundW_some {m : MLoop} {ev : Ev} {tm : T Value} {e : Ent0} {s s' : AS} (h : roundW m ev tm e s = some s') : ∃ tm', mapRound m ev (e.1, e.2.1) tm s = .code .normal tm' s' ∧ subT tm tm' = true := by
  unfold roundW at h
  split at h
  · rename_i tm' s1 heq
    obtain ⟨h1, h2⟩ := bif'_some h
    cases h2
    exact ⟨tm', heq, h1⟩
  · cases h
theorem stillW_some {m : MLoop} {ev : Ev} {tm : T Value} {e : Ent0} {s : AS} (h : stillW m ev tm s e = true) : ∃ tm' s', mapRound m ev (e.1, e.2.1) tm ⟨s.h, s.nx, s.nx⟩ = .code .normal tm' s' ∧ subT tm tm' = true := by
  unfold stillW isNormal at h
  split at h
  · exact ⟨_, _, ‹_›, h⟩
  · cases h
theorem goW_spec {m : MLoop} {ev : Ev} {tm : T Value} {N : List Ent0} {leaf : AS → Bool} {W : List Ent0} {s : AS} (h : goW m ev tm N leaf W.length W s = true) : (∀ p ∈ N, stillW m ev tm s p = true) ∧ (W = [] → leaf s = true) ∧
    ∀ l1 e l2, W = l1 ++ e :: l2 → ∃ s', roundW m ev tm e s = some s' ∧ goW m ev tm N leaf (l1 ++ l2).length (l1 ++ l2) s' = true := by
  cases W with
  | nil =>
    have h : bif' (allW (stillW m ev tm s) N) (leaf s) false = true := h
    obtain ⟨h1, h2⟩ := bif_tt h
    exact ⟨fun p hp => allW_mem h1 p hp, fun _ => h2, fun l1 e l2 he => by cases l1 <;> cases he⟩
  | cons x W =>
    have h : bif' (allW (stillW m ev tm s) N) (allW (fun q => Option.rec (motive := fun _ => Bool) false (fun s' => goW m ev tm N leaf W.length q.2 s') (roundW m ev tm q.1 s)) (picks (x :: W))) false = true := h
    obtain ⟨h1, h2⟩ := bif_tt h
    refine ⟨fun p hp => allW_mem h1 p hp, fun e => (by cases e), fun l1 e l2 he => ?_⟩
    have hm := allW_mem h2 (e, l1 ++ l2) (by rw [he]; exact picks_mem)
    have hl : W.length = (l1 ++ l2).length := by
      have := congrArg List.length he
      simp at this ⊢; omega
    rw [← hl]
    cases hr : roundW m ev tm e s with
    | none => rw [hr] at hm; cases hm
    | some s' => rw [hr] at hm; exact ⟨s', rfl, hm⟩
theorem isoA_some {N L n nxg : Nat} {h g : T Blk} {ch : List Nat} {s : AS} (e : isoA N L n nxg h g ch s = true) : ∃ π, isoOk N L n nxg h s.h g ch π = true := by
  unfold isoA at e
  cases hp : (ob (pairH (pairV N 12) s.h g n L []) fun l => pairN (pairV N 12) s.h g 1000 0 l) with
  | none => rw [hp] at e; cases e
  | some π => rw [hp] at e; exact ⟨π, e⟩
theorem isoOk_parts {N L n nxg : Nat} {h f g : T Blk} {ch : List Nat} {π : Prs} (hok : isoOk N L n nxg h f g ch π = true) : (∀ a ∈ ch, f.get a ≠ h.get a) ∧ ∀ a, L ≤ a → a < L + n → f.get a = none → g.get a = none := by
  unfold isoOk at hok
  obtain ⟨_, hok⟩ := bif_tt hok
  obtain ⟨_, hok⟩ := bif_tt hok
  obtain ⟨_, hok⟩ := bif_tt hok
  obtain ⟨_, hok⟩ := bif_tt hok
  obtain ⟨_, hok⟩ := bif_tt hok
  obtain ⟨d6, hok⟩ := bif_tt hok
  obtain ⟨d7, _⟩ := bif_tt hok
  refine ⟨allCh_ne d6, fun a h1 h2 he => ?_⟩
  have := cmpH_get d7 a h1 h2
  rw [he] at this
  cases hg : g.get a with
  | none => rfl
  | some k => rw [hg] at this; cases this
theorem loopWs_some {m : MLoop} {ev : Ev} {tm : T Value} {s1 s2 : AS} {mb : Nat} {es : List Ent0} : ∀ {ks : List Nat}, loopWs m ev tm s1 mb es ks = some s2 → ∃ L, loopW m ev tm s1 mb es L = some s2
  | [], h => by cases h
  | k :: ks, h => by
    have h : orW (fNat (Nat.max s1.lim (Nat.sub s1.nx k)) fun L => loopW m ev tm s1 mb es L) (loopWs m ev tm s1 mb es ks) = some s2 := h
    rw [fNat_eq] at h
    cases hl : loopW m ev tm s1 mb es (Nat.max s1.lim (Nat.sub s1.nx k)) with
    | none => rw [hl] at h; exact loopWs_some h
    | some s3 => rw [hl] at h; cases h; exact ⟨_, hl⟩
theorem len_length {α : Type} : ∀ l : List α, len l = l.length
  | [] => rfl
  | _ :: l => congrArg Nat.succ (len_length l)
theorem loopW_some {m : MLoop} {ev : Ev} {tm : T Value} {s1 sz : AS} {mb L : Nat} {es : List Ent0} (h : loopW m ev tm s1 mb es L = some sz) : ∃ (od : List Nat) (s2 f1 : AS) (q : List Ent0 × List Ent0) (g hz : T Blk) (ch : List Nat), s1.lim ≤ L ∧ L ≤ s1.nx ∧
    odds s1.h (s1.nx - L) L = some od ∧ hideL (mb :: od) s1 = some s2 ∧ splitW (stillW m ev tm ⟨s2.h, s2.nx, L⟩) es = some q ∧ layR s2.h f1.h (f1.nx - L) L s2.h = some g ∧ chgs s2.h g (s1.nx - L) L = some ch ∧ s1.nx ≤ f1.nx ∧
    goW m ev tm q.1 (isoA s1.nx L (s1.nx - L) f1.nx s2.h g ch) q.2.length q.2 ⟨s2.h, s2.nx, L⟩ = true ∧ showL s1.h (mb :: od) g = some hz ∧ sz = ⟨hz, f1.nx, s1.lim⟩ := by
  unfold loopW at h
  obtain ⟨h0, h⟩ := bif'_some h
  obtain ⟨h1, h2⟩ := bif_tt h0
  rw [fNat_eq] at h
  obtain ⟨od, e1, h⟩ := ob_some h
  obtain ⟨s2, e2, h⟩ := ob_some h
  obtain ⟨q, e3, h⟩ := ob_some h
  obtain ⟨f1, e4, h⟩ := ob_some h
  obtain ⟨g, e5, h⟩ := ob_some h
  obtain ⟨ch, e6, h⟩ := ob_some h
  obtain ⟨e7, h⟩ := bif'_some h
  obtain ⟨e8, h⟩ := bif'_some h
  obtain ⟨hz, e9, h⟩ := ob_some h
  simp only [fNat_eq] at h
  cases h
  rw [len_length] at e8
  exact ⟨od, s2, f1, q, g, hz, ch, Nat.le_of_ble_eq_true h1, Nat.le_of_ble_eq_true h2, e1, e2, e3, e5, e6, Nat.le_of_ble_eq_true e7, e8, e9, rfl⟩
theorem Rel.hide {ρ : Ren} {s s' : AS} {w : World} (h : Rel P ρ s w) (hg : ∀ j k, s'.h.get j = some k → s.h.get j = some k) (hn : s'.nx = s.nx) (hl : s'.lim ≤ s'.nx) : Rel P ρ s' w := by
  refine ⟨fun a ha => h.dom a (by rw [← hn]; exact ha), fun a ha => ?_, fun a k x e1 e2 => h.blk a k x (hg a k e1) e2, hl, fun a a' k k' x x' hne e1 e2 => h.excl a a' k k' x x' hne (hg a k e1) (hg a' k' e2), fun g gl vs g1 g2 => ?_⟩
  · cases e : s'.h.get a with
    | none => rfl
    | some k =>
      have := hg a k e
      rw [h.top a (by rw [← hn]; exact ha)] at this; cases this
  · obtain ⟨a, b, c⟩ := h.gl g gl vs g1 g2
    exact ⟨a, fun ⟨a', k, x, e1, e2, e3⟩ => b ⟨a', k, x, hg a' k e1, e2, e3⟩, c⟩
theorem f2_keys {R : Ent0 → MapEntry → Prop} (hR : ∀ p e, R p e → p.1 = e.key) : ∀ {es : List Ent0} {l : List MapEntry}, F2 R es l → l.map (·.key) = es.map (·.1)
  | _, _, .nil => rfl
  | _, _, .cons h hs => by simp only [List.map_cons]; rw [hR _ _ h, f2_keys hR hs]
/-- neither cells nor marks. -/
theorem brel_odd {ρ : Ren} {x : Loc} {w : World} {d : Option (List Deferred)} : ∀ {k : Blk}, (isRo k = false ∧ ∀ c sz n ro et, k ≠ .cells c sz n ro et) → BRel P ρ x w k → w.heap[x.b]? ≠ some (.deferred d)
  | .cells .., hk, _ => (hk.2 _ _ _ _ _ rfl).elim
  | .map .., _, ⟨_, h, _⟩ => by rw [h]; simp
  | .strIter .., _, ⟨_, h⟩ => by rw [h]; simp
  | .mapIter .., _, ⟨_, h⟩ => by
    rcases h with ⟨_, h⟩ | ⟨_, _, _, _, h⟩ <;> (rw [h]; simp)
  | .loop .., _, ⟨_, _, _, h, _⟩ => by rw [h]; simp
/-- A STATE AT RENAMED PLACES. -/
theorem iso_rel {ρ : Ren} {sc : AS} {w : World} (hR : Rel P ρ sc w) {N L n nxg l : Nat} {h g : T Blk} {ch : List Nat} {π : Prs} (hok : isoOk N L n nxg h sc.h g ch π = true) (hn : L + n = N) (hNg : N ≤ nxg) (hl : l ≤ nxg) (htop : ∀ a, nxg ≤ a → g.get a = none)
    {ρ0 : Ren} (hle : RenLe ρ0 ρ) (hdom0 : ∀ a, N ≤ a → ρ0 a = none) (hlow : ∀ a, a < L → sc.h.get a = g.get a) (hlowB : ∀ a k x, a < L → g.get a = some k → ρ0 a = some x → BRel P ρ0 x w k) (hren : ∀ a, a < N → ρ a = ρ0 a) :
    ∃ ρ', (∀ a, a < N → ρ' a = ρ0 a) ∧ Rel P ρ' ⟨g, nxg, l⟩ w ∧ ∀ b, Held ρ' ⟨g, nxg, l⟩ b → Held ρ sc b := by
  unfold isoOk at hok
  obtain ⟨d1, hok⟩ := bif_tt hok
  obtain ⟨d2, hok⟩ := bif_tt hok
  obtain ⟨d3, hok⟩ := bif_tt hok
  obtain ⟨d4, hok⟩ := bif_tt hok
  obtain ⟨d5, hok⟩ := bif_tt hok
  obtain ⟨d6, hok⟩ := bif_tt hok
  obtain ⟨d7, d8⟩ := bif_tt hok
  replace d1 := distinct_nodup d1
  replace d2 := distinct_nodup d2
  have d3 := fun {q : Nat × Nat} (hq : q ∈ π) => allGe_mem d3 _ (mem_fsts hq)
  have d4 := fun {q : Nat × Nat} (hq : q ∈ π) => allGe_mem d4 _ (mem_snds hq)
  have d5 := fun {q : Nat × Nat} (hq : q ∈ π) => allLt_mem d5 _ (mem_snds hq)
  let ρ' : Ren := fun b => if b < N then ρ0 b else match π.find? (fun p => p.2 == b) with | some p => ρ p.1 | none => none
  have hlt : ∀ a, a < N → ρ' a = ρ0 a := fun a ha => by show (if a < N then _ else _) = _; rw [if_pos ha]
  have hge : ∀ {a b}, (a, b) ∈ π → ρ' b = ρ a := fun {a b} hm => by
    show (if b < N then _ else _) = _
    have : N ≤ b := d4 hm
    rw [if_neg (by omega)]
    cases hf : π.find? (fun p => p.2 == b) with
    | none =>
      rw [List.find?_eq_none] at hf
      exact absurd (beq_self_eq_true b) (hf (a, b) hm)
    | some p =>
      have h1 := List.mem_of_find?_eq_some hf
      have h2 : p.2 = b := by simpa using List.find?_some hf
      have := snds_nodup d2 h1 hm h2
      subst this; rfl
  have hinv : ∀ {b x}, ρ' b = some x → (b < N ∧ ρ b = some x) ∨ (N ≤ b ∧ ∃ a, (a, b) ∈ π ∧ ρ a = some x) := fun {b x} e => by
    by_cases hb : b < N
    · left; refine ⟨hb, ?_⟩; rw [hlt b hb] at e; rw [hren b hb]; exact e
    · right
      refine ⟨by omega, ?_⟩
      have e : (if b < N then ρ0 b else match π.find? (fun p => p.2 == b) with | some p => ρ p.1 | none => none) = some x := e
      rw [if_neg hb] at e
      cases hf : π.find? (fun p => p.2 == b) with
      | none => rw [hf] at e; cases e
      | some p =>
        rw [hf] at e
        have h1 := List.mem_of_find?_eq_some hf
        have h2 : p.2 = b := by simpa using List.find?_some hf
        exact ⟨p.1, by rw [← h2]; exact h1, e⟩
  have hφ : ∀ a b x, piF N π a = some b → ρ a = some x → ρ' b = some x := fun a b x e e' => by
    rcases piF_some e with ⟨h1, rfl⟩ | ⟨h1, h2⟩
    · rw [hlt _ h1, ← hren _ h1]; exact e'
    · rw [hge h2]; exact e'
  have hle' : RenLe ρ0 ρ' := fun a x e => by
    have : a < N := Nat.lt_of_not_le fun hle => by rw [hdom0 a hle] at e; cases e
    rw [hlt a this]; exact e
  have corr : ∀ {b k x}, g.get b = some k → ρ' b = some x → ∃ a kf, sc.h.get a = some kf ∧ ρ a = some x ∧ isRo kf = isRo k ∧ BRel P ρ' x w k ∧ ((b < N ∧ a = b) ∨ (N ≤ b ∧ (a, b) ∈ π)) := fun {b k x} hg hx => by
    rcases hinv hx with ⟨hb, hx'⟩ | ⟨hb, a, hm, hx'⟩
    · by_cases hbL : b < L
      · refine ⟨b, k, by rw [hlow b hbL]; exact hg, hx', rfl, ?_, .inl ⟨hb, rfl⟩⟩
        exact (hlowB b k x hbL hg (by rw [← hren b hb]; exact hx')).mono hle'
      · have hc := cmpH_get d7 b (by omega) (by omega)
        rw [hg] at hc
        obtain ⟨kf, hkf, hc⟩ := cmpO_some hc
        obtain ⟨c1, c2⟩ := cmpB_ok hφ hc (hR.blk b kf x hkf hx').2
        exact ⟨b, kf, hkf, hx', c2, c1, .inl ⟨hb, rfl⟩⟩
    · have hc := cmpP_get d8 (a, b) hm
      simp only at hc
      rw [hg] at hc
      obtain ⟨kf, hkf, hc⟩ := cmpO_some hc
      obtain ⟨c1, c2⟩ := cmpB_ok hφ hc (hR.blk a kf x hkf hx').2
      exact ⟨a, kf, hkf, hx', c2, c1, .inr ⟨hb, hm⟩⟩
  have hheld : ∀ b, Held ρ' ⟨g, nxg, l⟩ b → Held ρ sc b := fun b hb => by
    obtain ⟨a, k, x, e1, e2, e3⟩ := hb
    obtain ⟨a', kf, c1, c2, _⟩ := corr e1 e2
    exact ⟨a', kf, x, c1, c2, e3⟩
  refine ⟨ρ', hlt, ⟨fun a ha => ?_, fun a ha => htop a ha, fun a k x e1 e2 => ?_, hl, fun a a' k k' x x' hne e1 e2 r1 r2 hb => ?_, fun gg gl vs g1 g2 => ?_⟩, hheld⟩
  · have ha : nxg ≤ a := ha
    cases e : ρ' a with
    | none => rfl
    | some x =>
      rcases hinv e with ⟨h1, _⟩ | ⟨_, a', hm, _⟩
      · omega
      · have : a < nxg := d5 hm; omega
  · obtain ⟨a', kf, c1, c2, c3, c4, c5⟩ := corr e1 e2
    exact ⟨(hR.blk a' kf x c1 c2).1, c4⟩
  · obtain ⟨b, kf, c1, c2, c3, c4, c5⟩ := corr e1 r1
    obtain ⟨b', kf', c1', c2', c3', c4', c5'⟩ := corr e2 r2
    have hne' : b ≠ b' := by
      rintro rfl
      rcases c5 with ⟨h1, h2⟩ | ⟨h1, h2⟩ <;> rcases c5' with ⟨h3, h4⟩ | ⟨h3, h4⟩
      · exact hne (h2.symm.trans h4)
      · have : N ≤ b := d3 h4; omega
      · have : N ≤ b := d3 h2; omega
      · exact hne (fsts_nodup d1 h2 h4)
    obtain ⟨q1, q2⟩ := hR.excl b b' kf kf' x x' hne' c1 c1' c2 c2' hb
    exact ⟨by rw [← c3]; exact q1, by rw [← c3']; exact q2⟩
  · obtain ⟨q1, q2, q3⟩ := hR.gl gg gl vs g1 g2
    exact ⟨q1, fun hh => q2 (hheld _ hh), q3⟩
/-- what was hidden is shown. -/
theorem show_rel {ρ' : Ren} {g h : T Blk} {nx l : Nat} {w : World} (hR : Rel P ρ' ⟨g, nx, l⟩ w) {H : List Nat} {h1 : T Blk} (hg : ∀ j, h.get j = if j ∈ H then h1.get j else g.get j)
    (hH : ∀ a ∈ H, ∀ k x, h1.get a = some k → ρ' a = some x → x.b < w.heap.size ∧ BRel P ρ' x w k ∧ ¬ Held ρ' ⟨g, nx, l⟩ x.b ∧ ∀ gg gl vs, P.globals[gg]? = some gl → gTab P gl.name = some vs → x.b ≠ gg)
    (hlt : ∀ a ∈ H, a < nx) (hHH : ∀ a ∈ H, ∀ a' ∈ H, ∀ k k' x x', a ≠ a' → h1.get a = some k → h1.get a' = some k' → ρ' a = some x → ρ' a' = some x' → x.b = x'.b → isRo k = true ∧ isRo k' = true) : Rel P ρ' ⟨h, nx, l⟩ w := by
  have hcase : ∀ {a k}, h.get a = some k → (a ∈ H ∧ h1.get a = some k) ∨ (a ∉ H ∧ g.get a = some k) := fun {a k} e => by
    rw [hg] at e
    split at e
    · exact .inl ⟨by assumption, e⟩
    · exact .inr ⟨by assumption, e⟩
  refine ⟨hR.dom, fun a ha => ?_, fun a k x e1 e2 => ?_, hR.lim, fun a a' k k' x x' hne e1 e2 r1 r2 hb => ?_, fun gg gl vs g1 g2 => ?_⟩
  · show h.get a = none
    have ha : nx ≤ a := ha
    rw [hg, if_neg (fun hm => by have := hlt a hm; omega)]
    exact hR.top a ha
  · rcases hcase e1 with ⟨m, e⟩ | ⟨m, e⟩
    · obtain ⟨c1, c2, _⟩ := hH a m k x e e2; exact ⟨c1, c2⟩
    · exact hR.blk a k x e e2
  · rcases hcase e1 with ⟨m, e⟩ | ⟨m, e⟩ <;> rcases hcase e2 with ⟨m', e'⟩ | ⟨m', e'⟩
    · exact hHH a m a' m' k k' x x' hne e e' r1 r2 hb
    · exact ((hH a m k x e r1).2.2.1 ⟨a', k', x', e', r2, hb.symm⟩).elim
    · exact ((hH a' m' k' x' e' r2).2.2.1 ⟨a, k, x, e, r1, hb⟩).elim
    · exact hR.excl a a' k k' x x' hne e e' r1 r2 hb
  · obtain ⟨q1, q2, q3⟩ := hR.gl gg gl vs g1 g2
    refine ⟨q1, ?_, q3⟩
    rintro ⟨a, k, x, e1, e2, e3⟩
    rcases hcase e1 with ⟨m, e⟩ | ⟨m, e⟩
    · exact (hH a m k x e e2).2.2.2 gg gl vs g1 g2 e3
    · exact q2 ⟨a, k, x, e, e2, e3⟩
def AS.wl (s : AS) (l : Nat) : AS := ⟨s.h, s.nx, l⟩
theorem Stp.relim {ρ ρ' : Ren} {s s' : AS} {w w' : World} {l : Nat} (h : Stp ρ s w ρ' s' w') (hl : l ≤ s.lim) : Stp ρ (s.wl l) w ρ' (s'.wl l) w' :=
  ⟨h.ren, h.nx, h.tape, h.os, h.out, h.size, h.frame, h.ph, h.lp, rfl, fun a ha => h.low a (Nat.lt_of_lt_of_le ha hl), fun a k x ha => h.lowW a k x (Nat.lt_of_lt_of_le ha hl)⟩
theorem Rel.relim {ρ : Ren} {s : AS} {w : World} {l : Nat} (h : Rel P ρ s w) (hl : l ≤ s.nx) : Rel P ρ (s.wl l) w := ⟨h.dom, h.top, h.blk, hl, h.excl, h.gl⟩
end Go.Eng
/-! Loops over maps: one round; the loop. -/
namespace Go.Eng
open Go
variable {P : Program}
theorem Inv.start {keep nt : Nat} {ρ : Ren} {tm : T Value} {a : Act} (h : EnvOk keep nt ρ tm a) {d : Nat} (hd : kept keep d = false) (hlt : d < nt) {v u : Value} (hv : VRel ρ v u) : Inv keep nt [] ρ (.cons d v .nil) tm (a.put (some d) u) := by
  have hsz : d < a.tmps.size := Nat.lt_of_lt_of_le hlt h.size
  refine ⟨⟨by simpa [Act.put] using h.size, h.tk, fun t w hw => ?_⟩, fun t w _ hk hw => ?_, fun p hp => (by cases hp)⟩
  · have hne : t ≠ d := fun e => by have := h.tk t w hw; rw [e, hd] at this; cases this
    obtain ⟨u', hu, hr⟩ := h.env t w hw
    exact ⟨u', by rw [get_put_ne hne]; exact hu, hr⟩
  · rw [lo_cons, bif'_eq] at hw
    split at hw
    · rename_i e
      have e := Nat.eq_of_beq_eq_true e
      cases hw
      subst e
      exact ⟨u, get_put_eq hsz, hv⟩
    · cases hw
theorem EnvOk.put {keep nt : Nat} {ρ : Ren} {tm tm1 : T Value} {a : Act} (h : EnvOk keep nt ρ tm a) {d : Nat} {v u : Value} (hd : kept keep d = true) (hlt : d < nt) (hv : VRel ρ v u) (hp : T.put (some v) tm d = some tm1) : EnvOk keep nt ρ tm1 (a.put (some d) u) := by
  have hsz : d < a.tmps.size := Nat.lt_of_lt_of_le hlt h.size
  have hg := T.get_put _ _ _ _ hp
  refine ⟨by simpa [Act.put] using h.size, fun t w hw => ?_, fun t w hw => ?_⟩
  · rw [hg] at hw
    split at hw
    · rename_i e; rw [e]; exact hd
    · exact h.tk t w hw
  · rw [hg] at hw
    split at hw
    · rename_i e; cases hw; rw [e]; exact ⟨u, get_put_eq hsz, hv⟩
    · rename_i e
      obtain ⟨u', hu, hr⟩ := h.env t w hw
      exact ⟨u', by rw [get_put_ne e]; exact hu, hr⟩
theorem EnvOk.put_other {keep nt : Nat} {ρ : Ren} {tm : T Value} {a : Act} (h : EnvOk keep nt ρ tm a) {d : Nat} {u : Value} (hd : kept keep d = false) : EnvOk keep nt ρ tm (a.put (some d) u) := by
  refine ⟨by simpa [Act.put] using h.size, h.tk, fun t w hw => ?_⟩
  have hne : t ≠ d := fun e => by have := h.tk t w hw; rw [e, hd] at this; cases this
  obtain ⟨u', hu, hr⟩ := h.env t w hw
  exact ⟨u', by rw [get_put_ne hne]; exact hu, hr⟩
/-- the block behind 'entry'. -/
theorem mapBlock_ok {keep nt : Nat} {ev : Ev} (hev : EvOk P ev) {F : Fence} (hF : WideF F) {body : Code} {c : CF} (hc : CFOk P keep nt body c) {i2 b1 : Nat} {r2 : Array Oper} {t2 : List Oper} {q : Oper} {l2 : List CI} (hl2 : mkRegion P keep nt r2.toList t2 [] = some l2) (hr2 : r2.toList = q :: t2)
    {d2 it : Nat} (hqg : q.guard = none) (hqd : q.dst = some d2) (hqo : q.op = .entry (.tmp it)) (hd2 : kept keep d2 = false) (hlt : d2 < nt) {ρ : Ren} {tm1 : T Value} {s : AS} {a : Act} {w : World} {k v k' v' : Value} {x : XExit} {tmx : T Value} {sx : AS}
    (hrun : blockOut b1 (seqOut (c ev) (runCIs ev l2 kEnd (.cons d2 (.tuple #[k, v]) .nil) tm1 s)) = .code x tmx sx) (hE : EnvOk keep nt ρ tm1 a) {n0 : Nat} (hn0 : n0 ≤ w.heap.size) (hM : Marks n0 ρ s w a.defers) (hL : ∀ l, F.round = some l → ∃ r, w.heap[l]? = some (Obj.loop r)) (hR : Rel P ρ s w)
    (hent : (Instr.entry (a.eval (.tmp it))).run P w = .ok (.tuple #[k', v']) w) (hk : VRel ρ k k') (hv : VRel ρ v v') {Q : Exit → Act → World → Prop} (hQ : Leaves' P n0 keep nt ρ s w x tmx sx Q) : (Code.block b1 (.seq (.region i2 r2 false) body)).wpIn F 0 P Q a w := by
  refine wpIn_block ?_
  refine wpIn_seq ?_
  refine wpIn_region ?_
  have hsz : r2.size = t2.length + 1 := by rw [← Array.length_toList, hr2]; rfl
  have hr : List.range r2.size = 0 :: List.range' 1 t2.length := by rw [hsz, List.range_eq_range', List.range'_succ]
  rw [hr]
  have h0 : r2[0]? = some q := by
    have : r2.toList[0]? = some q := by rw [hr2]; rfl
    simpa using this
  have hw : Region.wanted q (yielded r2 a.tmps) = true := by unfold Region.wanted; rw [hqg]
  simp only [wpOpsIn, h0]
  rw [if_pos hw]
  refine ⟨fun f _ => hF.fn f, ?_⟩
  rw [Oper.semAt_eq _ _ _ (fun c e => by rw [hqo] at e; cases e)]
  have hex : (execOp a.eval q).run P w = .ok (.value (.tuple #[k', v'])) w := by
    have he : execOp a.eval q = (do pure (.value (← Instr.entry (a.eval (.tmp it))))) := by unfold execOp; rw [hqo]
    rw [he]
    exact run_val hent
  rw [hex, Oper.uponIn_value, hqd]
  have hI := Inv.start hE hd2 hlt (VRel.tuple (a := #[k, v]) (b := #[k', v']) (.cons hk (.cons hv .nil)))
  cases hrg : runCIs ev l2 kEnd (.cons d2 (.tuple #[k, v]) .nil) tm1 s with
  | no => rw [hrg] at hrun; cases hrun
  | val => rw [hrg] at hrun; cases hrun
  | code xr tmr sr =>
    rw [hrg] at hrun
    refine region_ok hF hev (all := r2) (x := xr) (tm' := tmr) (s' := sr) t2 1 (by rw [hr2]; rfl) [] l2 hl2 ρ _ tm1 s _ w hrg hI hR (fun ρ1 a1 w1 hx hE1 hd1 hR1 hS1 => ?_)
    subst hx
    have hM1 : Marks n0 ρ1 sr w1 a1.defers := by rw [hd1]; exact hM.step hS1
    have hrun : blockOut b1 (c ev tmr sr) = .code x tmx sx := hrun
    cases ho : c ev tmr sr with
    | no => rw [ho] at hrun; cases hrun
    | val => rw [ho] at hrun; cases hrun
    | code e2 tm2 s2 =>
      rw [ho] at hrun
      refine hc ev hev F hF ρ1 tmr sr a1 w1 e2 tm2 s2 ho hE1 n0 (Nat.le_trans hn0 hS1.size) hM1 (loops_step hL hS1) hR1 _ (fun ρ2 a2 w2 hE2 hM2 hR2 hS2 => ?_)
      have hS := hS1.trans hS2
      cases e2 with
      | normal => cases hrun; exact hQ ρ2 a2 w2 hE2 hM2 hR2 hS
      | exit i =>
        have h : bif' (Nat.beq i b1) (.code .normal tm2 s2) (.code (.exit i) tm2 s2) = Out.code x tmx sx := hrun
        rw [bif'_eq] at h
        show (if i = b1 then Q .normal a2 w2 else Q (.exit i) a2 w2)
        split at h
        · rename_i hi
          cases h
          rw [if_pos (Nat.eq_of_beq_eq_true hi)]
          exact hQ ρ2 a2 w2 hE2 hM2 hR2 hS
        · rename_i hi
          cases h
          rw [if_neg (fun e => hi (by rw [e]; exact Nat.beq_refl _))]
          exact hQ ρ2 a2 w2 hE2 hM2 hR2 hS
      | goto l => cases hrun; exact hQ ρ2 a2 w2 hE2 hM2 hR2 hS
      | ret => cases hrun; exact hQ ρ2 a2 w2 hE2 hM2 hR2 hS
/-- the region of 'next'. -/
theorem nextRegion_ok {F : Fence} (hF : WideF F) {i1 d1 t9 it : Nat} {r1 : Array Oper} {o p : Oper} (hr1 : r1.toList = [o, p]) (hog : o.guard = none) (hod : o.dst = some d1) (hoo : o.op = .next (.tmp it) false) (hpg : p.guard = none) (hpd : p.dst = some t9) (hpo : p.op = .extract (.tmp d1) 0)
    {a : Act} {w w2 : World} {vs : Array Value} {b : Bool} (hvs : vs[0]? = some (.bool b)) (hlt : d1 < a.tmps.size) (hnext : ∀ ty, (Instr.next (a.eval (.tmp it)) false ty).run P w = .ok (.tuple vs) w2) {Q : Exit → Act → World → Prop}
    (hQ : Q .normal ((a.put (some d1) (.tuple vs)).put (some t9) (.bool b)) w2) : (Code.region i1 r1 false).wpIn F 0 P Q a w := by
  refine wpIn_region ?_
  have hsz : r1.size = 2 := by rw [← Array.length_toList, hr1]; rfl
  have hr : List.range r1.size = [0, 1] := by rw [hsz]; rfl
  rw [hr]
  have h0 : r1[0]? = some o := by
    have : r1.toList[0]? = some o := by rw [hr1]; rfl
    simpa using this
  have h1 : r1[1]? = some p := by
    have : r1.toList[1]? = some p := by rw [hr1]; rfl
    simpa using this
  have hw0 : Region.wanted o (yielded r1 a.tmps) = true := by unfold Region.wanted; rw [hog]
  simp only [wpOpsIn, h0, h1]
  rw [if_pos hw0]
  refine ⟨fun f _ => hF.fn f, ?_⟩
  rw [Oper.semAt_eq _ _ _ (fun c e => by rw [hoo] at e; cases e)]
  have hex : (execOp a.eval o).run P w = .ok (.value (.tuple vs)) w2 := by
    have he : execOp a.eval o = (do pure (.value (← Instr.next (a.eval (.tmp it)) false o.type))) := by unfold execOp; rw [hoo]
    rw [he]
    exact run_val (hnext _)
  rw [hex, Oper.uponIn_value, hod]
  show (if Region.wanted p _ = true then _ else _)
  rw [if_pos (by unfold Region.wanted; rw [hpg])]
  refine ⟨fun f _ => hF.fn f, ?_⟩
  rw [Oper.semAt_eq _ _ _ (fun c e => by rw [hpo] at e; cases e)]
  have hex2 : (execOp (a.put (some d1) (.tuple vs)).eval p).run P w2 = .ok (.value (.bool b)) w2 := by
    have he : execOp (a.put (some d1) (.tuple vs)).eval p = (do pure (.value (← Instr.extract ((a.put (some d1) (.tuple vs)).eval (.tmp d1)) 0))) := by unfold execOp; rw [hpo]
    rw [he, eval_tmp (get_put_eq hlt)]
    refine run_val ?_
    simp only [Instr.extract, hvs, Sem.run_pure]
  rw [hex2, Oper.uponIn_value, hpd]
  exact hQ
theorem mapShape_some {a : Code} {m : MShape} (h : mapShape a = some m) : ∃ i1 r1 i2 r2 o p q, a = .seq (.region i1 r1 false) (.seq (.cond (.tmp m.t9) .skip (.exit m.b0)) (.block m.b1 (.seq (.region i2 r2 false) m.body))) ∧
    r1.toList = [o, p] ∧ o.guard = none ∧ o.dst = some m.d1 ∧ o.op = .next (.tmp m.it) false ∧ p.guard = none ∧ p.dst = some m.t9 ∧ p.op = .extract (.tmp m.d1) 0 ∧
    m.r2 = r2.toList ∧ r2.toList = q :: m.t2 ∧ q.guard = none ∧ q.dst = some m.d2 ∧ q.op = .entry (.tmp m.it) := by
  unfold mapShape at h
  split at h
  · rename_i i1 r1 t b0 b1 i2 r2 body
    split at h
    · rename_i d1 it t9 d2 it' t2 hn he
      replace h := bif'_some h
      obtain ⟨h1, h⟩ := h
      replace h := bif'_some h
      obtain ⟨h2, h⟩ := h
      replace h1 := Nat.eq_of_beq_eq_true h1
      replace h2 := Nat.eq_of_beq_eq_true h2
      subst h1; subst h2
      cases h
      unfold nextOf at hn
      split at hn
      · rename_i o p hrl
        split at hn
        · rename_i a1 d a2 it2 a3 a4 t9' a5 d' a6
          replace hn := bif'_some hn
          obtain ⟨h3, hn⟩ := hn
          replace h3 := Nat.eq_of_beq_eq_true h3
          subst h3
          cases hn
          unfold entryOf at he
          split at he
          · rename_i q t hql
            split at he
            · cases he
              exact ⟨i1, r1, i2, r2, o, p, q, rfl, hrl, by assumption, by assumption, by assumption, by assumption, by assumption, by assumption, rfl, hql, by assumption, by assumption, by assumption⟩
            · cases he
          · cases he
        · cases hn
      · cases hn
    · cases h
  · cases h
theorem filter_less {seen : List Nat} {b : Nat} : ∀ {l : List MapEntry}, (∃ e ∈ l, e.born = b) → b ∉ seen → (l.filter fun e => !(seen ++ [b]).contains e.born).length < (l.filter fun e => !seen.contains e.born).length
  | [], ⟨e, he, _⟩, _ => by cases he
  | x :: l, ⟨e, he, hb⟩, hs => by
    have hle : ∀ l : List MapEntry, (l.filter fun e => !(seen ++ [b]).contains e.born).length ≤ (l.filter fun e => !seen.contains e.born).length := by
      intro l
      induction l with
      | nil => exact Nat.le_refl _
      | cons y l ih =>
        rw [List.filter_cons, List.filter_cons]
        by_cases h1 : y.born ∈ seen
        · simp [h1]; simpa using ih
        · by_cases h2 : y.born = b
          · simp [h1, h2, hs]; have := ih; simp at this; omega
          · simp [h1, h2]; simpa using ih
    rw [List.filter_cons, List.filter_cons]
    rcases List.mem_cons.1 he with rfl | he
    · subst hb
      have := hle l
      simp [hs]
      simp at this
      omega
    · have ih := filter_less ⟨e, he, hb⟩ hs
      by_cases h1 : x.born ∈ seen
      · simp [h1]; simpa using ih
      · by_cases h2 : x.born = b
        · simp [h1, h2, hs]; simp at ih; omega
        · simp [h1, h2]; simpa using ih
/-- A LOOP OVER A MAP. -/
theorem mapLoop_ok {keep nt : Nat} {a0 : Code} {m : MShape} {k : Code → Option CF} {ws : List Nat} {f : CF} (hshape : mapShape a0 = some m) (hmk : mkMapLoop P nt keep k ws m = some f) (hk : ∀ c cf, k c = some cf → CFOk P keep nt c cf) : CFOk P keep nt (.loop a0) f := by
  obtain ⟨i1, r1, i2, r2, o, p, q, rfl, hr1, hog, hod, hoo, hpg, hpd, hpo, hmr2, hr2, hqg, hqd, hqo⟩ := mapShape_some hshape
  unfold mkMapLoop at hmk
  replace hmk := bif'_some' hmk
  obtain ⟨hkd, hmk⟩ := hmk
  replace hmk := bif'_some hmk
  obtain ⟨hlts, hmk⟩ := hmk
  replace hmk := ob_some hmk
  obtain ⟨l2, hl2, hmk⟩ := hmk
  replace hmk := ob_some hmk
  obtain ⟨c, hc, hmk⟩ := hmk
  have hcok := hk _ _ hc
  obtain ⟨h1, hlts⟩ := bif_tt hlts
  obtain ⟨h2, hlts⟩ := bif_tt hlts
  obtain ⟨h3, hlts⟩ := bif_tt hlts
  obtain ⟨hk9, hlts⟩ := bif_tt hlts
  obtain ⟨hkit, hitne⟩ := bif_tt hlts
  have hit9 : m.it ≠ m.t9 := fun e => by rw [e, Nat.beq_refl] at hitne; cases hitne
  have hd1 : m.d1 < nt := Nat.le_of_ble_eq_true h1
  have hd2 : m.d2 < nt := Nat.le_of_ble_eq_true h2
  have h9 : m.t9 < nt := Nat.le_of_ble_eq_true h3
  have hkd1 : kept keep m.d1 = false := by
    cases hb : kept keep m.d1 with
    | false => rfl
    | true => rw [hb] at hkd; cases hkd
  have hkd2 : kept keep m.d2 = false := by
    rw [hkd1] at hkd; exact hkd
  rw [hmr2] at hl2
  intro ev hev F hF ρ tm s a w e tm' s' h hE n0 hn0 hM hL hR Q hQ
  cases hmk
  generalize hM' : (⟨m.b0, m.b1, opT m.it, m.t9, c, l2, m.d2, keptOf keep ws⟩ : MLoop) = M at h
  have hMit : M.it = opT m.it := by rw [← hM']
  have hMround : ∀ e tm s, mapRound M ev e tm s = Option.rec (motive := fun _ => Out) .no (fun tm1 => blockOut m.b1 (seqOut (c ev) (runCIs ev l2 kEnd (.cons m.d2 (.tuple #[e.1, e.2]) .nil) tm1 s))) (T.put (some (.bool true)) tm m.t9) := fun e tm s => by rw [← hM']; rfl
  have hMover : ∀ tm s, mapOver M tm s = Option.rec (motive := fun _ => Out) .no (fun tm1 => .code (.exit m.b0) tm1 s) (T.put (some (.bool false)) tm m.t9) := fun tm s => by rw [← hM']; rfl
  have h : Option.rec (motive := fun _ => Out) .no (fun tm0 => match M.it .nil tm0 with
    | some (.pointer (some ⟨ib, 0, none⟩)) => mapIterOf (s.h.get ib) fun r ck =>
        Option.rec (motive := fun _ => Out) .no (fun es => Option.rec (motive := fun _ => Out) .no (fun s1 => mapEndW M ev tm0 s1 r es (mapRounds M ev tm0 s1 es none)) (s.set ib none)) (entsOf s r ck)
    | _ => .no) (dropT M.ws tm) = .code e tm' s' := h
  cases hdr : dropT M.ws tm with
  | none => rw [hdr] at h; cases h
  | some tm0 =>
    rw [hdr] at h
    have h : (match M.it .nil tm0 with
      | some (.pointer (some ⟨ib, 0, none⟩)) => mapIterOf (s.h.get ib) fun r ck =>
          Option.rec (motive := fun _ => Out) .no (fun es => Option.rec (motive := fun _ => Out) .no (fun s1 => mapEndW M ev tm0 s1 r es (mapRounds M ev tm0 s1 es none)) (s.set ib none)) (entsOf s r ck)
      | _ => .no) = .code e tm' s' := h
    have hsub := dropT_get hdr
    have hE0 : EnvOk keep nt ρ tm0 a := ⟨hE.size, fun t v hv => hE.tk t v (hsub t v hv), fun t v hv => hE.env t v (hsub t v hv)⟩
    split at h
    · rename_i ib hit
      rw [hMit] at hit
      have hit : tm0.get m.it = some (.pointer (some ⟨ib, 0, none⟩)) := hit
      unfold mapIterOf at h
      split at h
      · rename_i r ck hblk
        have h : Option.rec (motive := fun _ => Out) .no (fun es => Option.rec (motive := fun _ => Out) .no (fun s1 => mapEndW M ev tm0 s1 r es (mapRounds M ev tm0 s1 es none)) (s.set ib none)) (entsOf s r ck) = .code e tm' s' := h
        cases hes : entsOf s r ck with
        | none => rw [hes] at h; cases h
        | some es =>
          rw [hes] at h
          cases hs1 : s.set ib none with
          | none => rw [hs1] at h; cases h
          | some s1 =>
            rw [hs1] at h
            have h : mapEndW M ev tm0 s1 r es (mapRounds M ev tm0 s1 es none) = .code e tm' s' := h
            -- the iterator's object
            have hptr : ∀ {a1 : Act}, EnvOk keep nt ρ tm0 a1 → ∃ x, ρ ib = some x ∧ a1.eval (.tmp m.it) = .pointer (some ⟨x.b, x.base, none⟩) := fun {a1} hE1 => by
              obtain ⟨u, hu, hv⟩ := hE1.env _ _ hit
              cases hv with
              | ptr off hx => exact ⟨_, hx, by rw [eval_tmp hu]; simp⟩
            obtain ⟨x, hx, _⟩ := hptr hE0
            obtain ⟨hxlt, hbase, hobj⟩ := hR.blk ib _ x hblk hx
            have hptr : ∀ {a1 : Act}, EnvOk keep nt ρ tm0 a1 → a1.eval (.tmp m.it) = .pointer (some ⟨x.b, 0, none⟩) := fun {a1} hE1 => by
              obtain ⟨x', hx', he⟩ := hptr hE1
              rw [hx] at hx'; cases hx'
              rw [he, hbase]
            obtain ⟨hR1, hS1⟩ := hR.forget hs1 hx
            have hnx1 : s1.nx = s.nx := (AS.set_eq hs1).1
            have hnh : ¬ Held ρ s1 x.b := by
              rintro ⟨a', k', x', e1, e2, e3⟩
              rw [(AS.set_eq hs1).2] at e1
              by_cases hne : a' = ib
              · rw [if_pos hne] at e1; cases e1
              · rw [if_neg hne] at e1
                have := (hR.excl a' ib k' _ x' x hne e1 hblk e2 hx e3).2
                cases this
            cases hrs : mapRounds M ev tm0 s1 es none with
            | none =>
              rw [hrs] at h
              have h : endW M ev tm0 s1 r es = .code e tm' s' := h
              cases r with
              | none => cases h
              | some mb =>
                rcases hobj with ⟨h0, _⟩ | ⟨mb', y, hmb', hy, hobj⟩
                · cases h0
                cases hmb'
                have hes : mapOf (s.h.get mb) (fun _ es ck' => bif' (Nat.beq ck ck') (some es) none) = some es := hes
                replace hes := mapOf_some hes
                obtain ⟨kt, es', ck', hmb, hes⟩ := hes
                replace hes := bif'_some hes
                obtain ⟨hck, hes⟩ := hes
                replace hck := Nat.eq_of_beq_eq_true hck
                subst hck
                cases hes
                have hne : mb ≠ ib := fun e => by rw [e, hblk] at hmb; cases hmb
                have hg1 : ∀ j, s1.h.get j = if j = ib then none else s.h.get j := (AS.set_eq hs1).2
                have hmb1 : s1.h.get mb = some (.map kt es ck) := by rw [hg1, if_neg hne]; exact hmb
                obtain ⟨hylt, ents, hents, hmr, hbn⟩ := hR.blk mb _ y hmb hy
                have hof1 : ∀ j k, s1.h.get j = some k → s.h.get j = some k ∧ j ≠ ib := fun j k e => by
                  rw [hg1] at e
                  by_cases hj : j = ib
                  · rw [if_pos hj] at e; cases e
                  · rw [if_neg hj] at e; exact ⟨e, hj⟩
                have hlt1 : ∀ j k, s1.h.get j = some k → j < s1.nx := fun j k e => Nat.lt_of_not_le fun hle => by rw [hR1.top j hle] at e; cases e
                have hofEnt : ∀ e ∈ ents.toList, ∃ p ∈ es, EntRel P ρ kt p e := fun e he => by
                  obtain ⟨l, hp, hf, _⟩ := hmr
                  exact F2.mem_right hf e (hp.mem_iff.2 he)
                have hofP : ∀ p ∈ es, ∃ e ∈ ents.toList, EntRel P ρ kt p e := fun p hp => by
                  obtain ⟨l, hpm, hf, _⟩ := hmr
                  obtain ⟨es1, es2, rfl⟩ := List.append_of_mem hp
                  obtain ⟨m1, b, m2, rfl, _, hr, _⟩ := hf.split
                  exact ⟨b, hpm.mem_iff.1 (by simp), hr⟩
                have hkn : (es.map (·.1)).Nodup := by obtain ⟨l, hpm, hf, hnd⟩ := hmr; exact hnd
                have hkeys : ∀ p ∈ es, ∀ q ∈ es, p.1 = q.1 → p = q := fun p hp q hq e => by
                  have hnd := hkn
                  obtain ⟨es1, es2, rfl⟩ := List.append_of_mem hp
                  rw [List.map_append, List.map_cons, List.nodup_append] at hnd
                  rcases List.mem_append.1 hq with hq | hq
                  · exact (hnd.2.2 q.1 (List.mem_map.2 ⟨q, hq, rfl⟩) p.1 (by simp) e.symm).elim
                  · rcases List.mem_cons.1 hq with rfl | hq
                    · rfl
                    · exact ((List.nodup_cons.1 hnd.2.1).1 (by rw [e]; exact List.mem_map.2 ⟨q, hq, rfl⟩)).elim
                have hsameEn : ∀ e' ∈ ents.toList, ∀ e ∈ ents.toList, e'.key = e.key → e' = e := fun e' he' e he hk => by
                  obtain ⟨l, hpm, hf, hnd⟩ := hmr
                  have hnd2 : (ents.toList.map (·.key)).Nodup := (hpm.map _).nodup_iff.1 (by rw [f2_keys (fun p e h => h.1) hf]; exact hnd)
                  obtain ⟨t1, t2, ht⟩ := List.append_of_mem he
                  rw [ht] at he' hnd2
                  rw [List.map_append, List.map_cons, List.nodup_append] at hnd2
                  rcases List.mem_append.1 he' with he' | he'
                  · exact (hnd2.2.2 e'.key (List.mem_map.2 ⟨e', he', rfl⟩) e.key (by simp) hk).elim
                  · rcases List.mem_cons.1 he' with rfl | he'
                    · rfl
                    · exact ((List.nodup_cons.1 hnd2.2.1).1 (by rw [← hk]; exact List.mem_map.2 ⟨e', he', rfl⟩)).elim
                have hborn : ∀ e ∈ ents.toList, ∀ e' ∈ ents.toList, e.born = e'.born → e = e' := fun e he e' he' hb => by
                  obtain ⟨t1, t2, ht⟩ := List.append_of_mem he
                  have hnd := hbn.1
                  rw [ht] at he' hnd
                  rw [List.map_append, List.map_cons, List.nodup_append] at hnd
                  rcases List.mem_append.1 he' with he' | he'
                  · exact (hnd.2.2 e'.born (List.mem_map.2 ⟨e', he', rfl⟩) e.born (by simp) hb.symm).elim
                  · rcases List.mem_cons.1 he' with rfl | he'
                    · rfl
                    · exact ((List.nodup_cons.1 hnd.2.1).1 (by rw [hb]; exact List.mem_map.2 ⟨e', he', rfl⟩)).elim
                have h : Option.rec (motive := fun _ => Out) .no (fun s2 => mapOver M tm0 s2) (loopWs M ev tm0 s1 mb es [64, 256, 1024, 1000000]) = .code e tm' s' := h
                cases hws : loopWs M ev tm0 s1 mb es [64, 256, 1024, 1000000] with
                | none => rw [hws] at h; cases h
                | some sz =>
                  rw [hws] at h
                  have h : mapOver M tm0 sz = .code e tm' s' := h
                  obtain ⟨L, hL1⟩ := loopWs_some hws
                  obtain ⟨od, s2, f1, q, g, hz, ch, hlL, hLn, hodq, hhid, hspl, hlay, hch, hnf, hgo, hsh, hsz⟩ := loopW_some hL1
                  obtain ⟨hi1, hi2, hi3, hi4⟩ := hideL_eq hhid
                  have hlim1 : s1.lim = s.lim := (AS.set_lim hs1).1
                  generalize hs2c : (⟨s2.h, s2.nx, L⟩ : AS) = sc0 at hgo
                  have hc0h : sc0.h = s2.h := by rw [← hs2c]
                  have hc0n : sc0.nx = s1.nx := by rw [← hs2c]; exact hi1
                  have hc0l : sc0.lim = L := by rw [← hs2c]
                  have hg2 : ∀ j, sc0.h.get j = if j ∈ mb :: od then none else s1.h.get j := fun j => by rw [hc0h]; exact hi4 j
                  have hodd : ∀ a ∈ mb :: od, ∀ k, s1.h.get a = some k → isRo k = false ∧ ∀ c sz n ro et, k ≠ .cells c sz n ro et := fun a ha k hk => by
                    rcases List.mem_cons.1 ha with rfl | ha
                    · rw [hmb1] at hk; cases hk; exact ⟨rfl, fun _ _ _ _ _ => by simp⟩
                    · have := (odds_mem hodq a ha).1
                      rw [hk] at this
                      cases k with
                      | cells => cases this
                      | map => cases this
                      | strIter => exact ⟨rfl, fun _ _ _ _ _ => by simp⟩
                      | mapIter => exact ⟨rfl, fun _ _ _ _ _ => by simp⟩
                      | loop => exact ⟨rfl, fun _ _ _ _ _ => by simp⟩
                  have hof2 : ∀ j k, sc0.h.get j = some k → s1.h.get j = some k ∧ j ∉ mb :: od := fun j k e => by
                    rw [hg2] at e
                    by_cases hj : j ∈ mb :: od
                    · rw [if_pos hj] at e; cases e
                    · rw [if_neg hj] at e; exact ⟨e, hj⟩
                  have hRc0 : Rel P ρ sc0 w := hR1.hide (fun j k e => (hof2 j k e).1) hc0n (by rw [hc0l, hc0n]; exact hLn)
                  have hHn0 : ∀ a ∈ mb :: od, ∀ k x', s1.h.get a = some k → ρ a = some x' → ¬ Held ρ sc0 x'.b := by
                    rintro a ha k x' e1 e2 ⟨a', k', x'', e3, e4, e5⟩
                    obtain ⟨c1, c2⟩ := hof2 _ _ e3
                    have := (hR1.excl a a' k k' x' x'' (fun e => c2 (by rw [← e]; exact ha)) e1 c1 e2 e4 e5.symm).1
                    rw [(hodd a ha k e1).1] at this; cases this
                  have hxn0 : ¬ Held ρ sc0 x.b := by
                    rintro ⟨a', k', x'', e3, e4, e5⟩
                    exact hnh ⟨a', k', x'', (hof2 _ _ e3).1, e4, e5⟩
                  have hHx : ∀ a ∈ mb :: od, ∀ k x', s1.h.get a = some k → ρ a = some x' → x'.b ≠ x.b := fun a ha k x' e1 e2 e3 => hnh ⟨a, k, x', e1, e2, e3⟩
                  have hS0 : Stp ρ s w ρ (sc0.wl s.lim) w := by
                    refine ⟨fun _ _ => rfl, by show s.nx ≤ sc0.nx; rw [hc0n, hnx1]; exact Nat.le_refl _, rfl, rfl, rfl, Nat.le_refl _, fun b hb hn => ⟨rfl, ?_⟩, fun a ha hn => ?_, fun b r hb => ⟨r, hb⟩, rfl, fun a ha => ?_, fun _ _ _ _ _ _ _ _ => rfl⟩
                    · rintro ⟨a', k', x'', e3, e4, e5⟩
                      exact hn ⟨a', k', x'', (hof1 _ _ (hof2 _ _ e3).1).1, e4, e5⟩
                    · show sc0.h.get a = s.h.get a ∨ sc0.h.get a = none
                      rw [hg2, hg1]
                      by_cases h1 : a ∈ mb :: od
                      · rw [if_pos h1]; exact .inr rfl
                      · rw [if_neg h1]
                        by_cases h2 : a = ib
                        · rw [if_pos h2]; exact .inr rfl
                        · rw [if_neg h2]; exact .inl rfl
                    · show sc0.h.get a = s.h.get a
                      rw [hg2, hg1, if_neg (fun hm => by have := hi3 a hm; omega), if_neg (fun e => by have := (AS.set_lim hs1).2; omega)]
                  let HI : Ren → AS → World → Prop := fun ρ1 sc w1 => ∀ a ∈ mb :: od, ∀ k x', s1.h.get a = some k → ρ a = some x' → w1.heap[x'.b]? = w.heap[x'.b]? ∧ ¬ Held ρ1 sc x'.b
                  let I : Act → World → Prop := fun a1 w1 => ∃ (ρ1 : Ren) (sc : AS) (W : List Ent0) (seen : Array Nat), EnvOk keep nt ρ tm0 a1 ∧ Marks n0 ρ1 sc w1 a1.defers ∧ Rel P ρ1 sc w1 ∧ Stp ρ s w ρ1 (sc.wl s.lim) w1 ∧ sc.lim = L ∧ (∀ a, a < L → sc.h.get a = sc0.h.get a) ∧ s1.nx ≤ sc.nx ∧
                    HI ρ1 sc w1 ∧ ¬ Held ρ1 sc x.b ∧ w1.heap[x.b]? = some (.mapIter (some y.b) ck seen ck) ∧ goW M ev tm0 q.1 (isoA s1.nx L (s1.nx - L) f1.nx s2.h g ch) W.length W sc = true ∧
                    (W.map (·.1)).Nodup ∧ (∀ p ∈ W, p ∈ es) ∧ (∀ en ∈ ents.toList, ∀ p ∈ es, EntRel P ρ kt p en → en.born ∈ seen.toList ∨ p ∈ q.1 ∨ p ∈ W) ∧ (∀ p ∈ W, ∃ en ∈ ents.toList, EntRel P ρ kt p en ∧ en.born ∉ seen.toList)
                  let μ : Act → World → Nat := fun _ w1 => match w1.heap[x.b]? with | some (.mapIter _ _ seen _) => (ents.toList.filter fun (e : MapEntry) => !seen.toList.contains e.born).length | _ => 0
                  obtain ⟨hq1, hq2, hq3⟩ := splitW_mem hspl
                  refine wpIn_loop I μ ⟨ρ, sc0, q.2, #[], hE0, ⟨fun d hd => ?_, hM.apart⟩, hRc0, hS0, hc0l, fun _ _ => rfl, by rw [hc0n]; exact Nat.le_refl _, fun a ha k x' e1 e2 => ⟨rfl, hHn0 a ha k x' e1 e2⟩, hxn0, hobj, hgo, hkn.sublist (hq2.map _), fun p hp => hq2.subset hp, fun en hen p hp _ => .inr (hq3 p hp), fun p hp => ?_⟩ (fun a1 w1 hI => ?_)
                  · obtain ⟨r, z1, z2, z3, z4, z5⟩ := hM.each d hd
                    exact ⟨r, z1, z2, z3, fun ⟨a', k', x'', e3, e4, e5⟩ => z4 ⟨a', k', x'', (hof1 _ _ (hof2 _ _ e3).1).1, e4, e5⟩, z5⟩
                  · obtain ⟨en, h1, h2⟩ := hofP p (hq2.subset hp)
                    exact ⟨en, h1, h2, by simp⟩
                  obtain ⟨ρ1, sc, W, seen, hE1, hM1, hRr, hSr, hscl, hlow, hnsc, hHI, hxn, hob, hgoW, hWn, hWs, hcov, huns⟩ := hI
                  have hle1 : RenLe ρ ρ1 := hSr.le hR
                  have hE1' : EnvOk keep nt ρ1 tm0 a1 := ⟨hE1.size, hE1.tk, EnvT.mono hle1 hE1.env⟩
                  have hmap : w1.heap[y.b]? = some (.map ents ck) := by rw [(hHI mb List.mem_cons_self _ y hmb1 hy).1]; exact hents
                  have hμ : μ a1 w1 = (ents.toList.filter fun e => !seen.toList.contains e.born).length := by
                    show (match w1.heap[x.b]? with | some (.mapIter _ _ seen _) => (ents.toList.filter fun (e : MapEntry) => !seen.toList.contains e.born).length | _ => 0) = _
                    rw [hob]
                  refine wpIn_seq ?_
                  rcases next_some (P := P) hob hmap hbn with ⟨w2, hall, hrun, hsame⟩ | ⟨en, w2, hen, hnew, hrun, hsame⟩
                  · -- all have come
                    refine nextRegion_ok hF hr1 hog hod hoo hpg hpd hpo (vs := #[.bool false]) (b := false) rfl (Nat.lt_of_lt_of_le hd1 hE1.size) (fun ty => by rw [hptr hE1]; exact hrun ty) ?_
                    have hW : W = [] := by
                      cases W with
                      | nil => rfl
                      | cons p W =>
                        obtain ⟨en, h1, _, h3⟩ := huns p List.mem_cons_self
                        exact (h3 (hall en h1)).elim
                    subst hW
                    obtain ⟨_, hleaf, _⟩ := goW_spec hgoW
                    obtain ⟨π, hiso⟩ := isoA_some (hleaf rfl)
                    obtain ⟨hch1, hch2⟩ := isoOk_parts hiso
                    have hR2 : Rel P ρ1 sc w2 := hRr.of_heap hsame.heap
                    have hS2 : Stp ρ s w ρ1 (sc.wl s.lim) w2 := hSr.trans (.of_heap hsame.heap hsame.tape hsame.os hsame.out)
                    have hM2 : Marks n0 ρ1 sc w2 a1.defers := hM1.step (.of_heap hsame.heap hsame.tape hsame.os hsame.out)
                    have hHI2 : HI ρ1 sc w2 := fun a ha k x' e1 e2 => by rw [hsame.heap]; exact hHI a ha k x' e1 e2
                    have hgget : ∀ j, (j < L ∨ f1.nx ≤ j) → g.get j = sc0.h.get j := fun j hj => by rw [hc0h]; exact layR_out hlay j (hj.imp id fun _ => by omega)
                    have hltN : ∀ {a k}, s.h.get a = some k → a < s1.nx := fun {a k} e => by rw [hnx1]; exact Nat.lt_of_not_le fun hle => by rw [hR.top a hle] at e; cases e
                    obtain ⟨ρ', hlt', hRg, hheld⟩ := iso_rel hR2 (l := s.lim) hiso (by omega) hnf (by have := hR.lim; omega) (fun a ha => by rw [hgget a (.inr ha)]; exact hRc0.top a (by rw [hc0n]; omega)) hle1 (fun a ha => hR.dom a (by rw [← hnx1]; exact ha)) (fun a ha => by rw [hlow a ha, hgget a (.inl ha)]) (fun a k x' ha e1 e2 => by
                      rw [hgget a (.inl ha)] at e1
                      exact brel_down hle1 (hRc0.blk a k x' e1 e2).2 (hR2.blk a k x' (by rw [hlow a ha]; exact e1) (hle1 _ _ e2)).2) (fun a ha => hS2.ren a (by omega))
                    have hle' : RenLe ρ ρ' := fun a x' e => by
                      have : a < s1.nx := Nat.lt_of_not_le fun hle => by rw [hR.dom a (by omega)] at e; cases e
                      rw [hlt' a this]; exact e
                    have hshg := showL_get hsh
                    have hback : ∀ {a k x'}, a ∈ mb :: od → s1.h.get a = some k → ρ' a = some x' → ρ a = some x' := fun {a k x'} _ e1 e2 => by rw [← hlt' a (hlt1 a k e1)]; exact e2
                    have hRz : Rel P ρ' ⟨hz, f1.nx, s.lim⟩ w2 := by
                      refine show_rel hRg hshg (fun a ha k x' e1 e2 => ?_) (fun a ha => ?_) (fun a ha a' ha' k k' x' x'' hne' e1 e2 r1 r2 hb => ?_)
                      · have e2' := hback ha e1 e2
                        obtain ⟨z1, z2⟩ := hR1.blk a k x' e1 e2'
                        obtain ⟨z3, z4⟩ := hHI2 a ha k x' e1 e2'
                        refine ⟨Nat.lt_of_lt_of_le z1 hS2.size, (z2.congr z3).mono hle', fun hh => z4 (hheld _ hh), fun gg gl vs g1 g2 e => ?_⟩
                        exact (hR1.gl gg gl vs g1 g2).2.1 ⟨a, k, x', e1, e2', e⟩
                      · rcases List.mem_cons.1 ha with rfl | ha
                        · have := hlt1 _ _ hmb1; omega
                        · have := (odds_mem hodq a ha).2.2; omega
                      · exact hR1.excl a a' k k' x' x'' hne' e1 e2 (hback ha e1 r1) (hback ha' e2 r2) hb
                    have hheldz : ∀ b, Held ρ' ⟨hz, f1.nx, s.lim⟩ b → Held ρ1 sc b ∨ ∃ a k x', a ∈ mb :: od ∧ s1.h.get a = some k ∧ ρ a = some x' ∧ x'.b = b := by
                      rintro b ⟨a, k, x', e1, e2, e3⟩
                      have e1 : hz.get a = some k := e1
                      rw [hshg] at e1
                      by_cases hm : a ∈ mb :: od
                      · rw [if_pos hm] at e1
                        exact .inr ⟨a, k, x', hm, e1, hback hm e1 e2, e3⟩
                      · rw [if_neg hm] at e1
                        exact .inl (hheld _ ⟨a, k, x', e1, e2, e3⟩)
                    have hSz : Stp ρ s w ρ' ⟨hz, f1.nx, s.lim⟩ w2 := by
                      refine ⟨fun a ha => hlt' a (by omega), by show s.nx ≤ f1.nx; omega, hS2.tape, hS2.os, hS2.out, hS2.size, fun b hb hn => ?_, fun a ha hn => ?_, hS2.lp, rfl, fun a ha => ?_, hS2.lowW⟩
                      · obtain ⟨z1, z2⟩ := hS2.frame b hb hn
                        refine ⟨z1, fun hh => ?_⟩
                        rcases hheldz b hh with hh | ⟨a, k, x', m1, m2, m3, m4⟩
                        · exact z2 hh
                        · exact hn ⟨a, k, x', (hof1 _ _ m2).1, m3, m4⟩
                      · show hz.get a = s.h.get a ∨ hz.get a = none
                        have hib : a ≠ ib := fun e => by rw [e, hx] at hn; cases hn
                        have h1a : s1.h.get a = s.h.get a := by rw [hg1, if_neg hib]
                        rw [hshg]
                        by_cases hm : a ∈ mb :: od
                        · rw [if_pos hm, h1a]; exact .inl rfl
                        · rw [if_neg hm]
                          have h2a : sc0.h.get a = s.h.get a := by rw [hg2, if_neg hm, h1a]
                          by_cases haL : a < L
                          · rw [hgget a (.inl haL), h2a]; exact .inl rfl
                          · rcases chgs_get hch a (by omega) (by omega) with hc | hc
                            · rcases hS2.ph a ha hn with hp | hp
                              · have hp : sc.h.get a = s.h.get a := hp
                                exact (hch1 a hc (by rw [hp, ← hc0h, h2a])).elim
                              · have hp : sc.h.get a = none := hp
                                exact .inr (hch2 a (by omega) (by omega) hp)
                            · rw [← hc, ← hc0h, h2a]; exact .inl rfl
                      · show hz.get a = s.h.get a
                        have ha : a < s.lim := ha
                        have hm : a ∉ mb :: od := fun hm => by have := hi3 a hm; omega
                        rw [hshg, if_neg hm, hgget a (.inl (by omega)), hg2, if_neg hm, hg1, if_neg (fun e => by have := (AS.set_lim hs1).2; omega)]
                    rw [hMover] at h
                    cases hp : T.put (some (.bool false)) tm0 m.t9 with
                    | none => rw [hp] at h; cases h
                    | some tm1 =>
                      rw [hp, hsz, hlim1] at h
                      cases h
                      have hE2 := hE1.put_other (u := .tuple #[.bool false]) hkd1
                      have hE3 := hE2.put hk9 h9 (.bool false) hp
                      refine wpIn_seq ?_
                      have he9 : ((a1.put (some m.d1) (.tuple #[.bool false])).put (some m.t9) (.bool false)).eval (.tmp m.t9) = .bool false := eval_tmp (get_put_eq (Nat.lt_of_lt_of_le h9 hE2.size))
                      refine wpIn_cond he9 ?_
                      refine wpIn_exit ?_
                      refine hQ ρ' _ _ ⟨hE3.size, hE3.tk, EnvT.mono hle' hE3.env⟩ ?_ hRz hSz
                      rw [put_defers', put_defers']
                      refine ⟨fun d hd => ?_, hM2.apart⟩
                      obtain ⟨r, z1, z2, z3, z4, z5⟩ := hM2.each d hd
                      refine ⟨r, z1, z2, z3, fun hh => ?_, z5⟩
                      rcases hheldz r hh with hh | ⟨a, k, x', m1, m2, m3, rfl⟩
                      · exact z4 hh
                      · exact brel_odd (hodd a m1 k m2) (((hR1.blk a k x' m2 m3).2).congr (hHI2 a m1 k x' m2 m3).1) z2
                  · -- one more
                    refine nextRegion_ok hF hr1 hog hod hoo hpg hpd hpo (vs := #[.bool true, en.key, en.val]) (b := true) rfl (Nat.lt_of_lt_of_le hd1 hE1.size) (fun ty => by rw [hptr hE1]; exact hrun ty) ?_
                    have hRw2 : Rel P ρ1 sc w2 := hRr.of_heap hsame.heap
                    generalize hw3 : ({ w2 with heap := w2.heap.setIfInBounds x.b (.mapIter (some y.b) ck (seen.push en.born) ck) } : World) = w3
                    have hR3 : Rel P ρ1 sc w3 := by rw [← hw3]; exact hRw2.unheld hxn (fun i => by simp [World.cell?, hsame.heap, hob])
                    have hxs : x.b < w2.heap.size := by
                      have := (Array.getElem?_eq_some_iff.1 hob).1
                      rw [hsame.heap]; exact this
                    have hob3 : w3.heap[x.b]? = some (.mapIter (some y.b) ck (seen.push en.born) ck) := by rw [← hw3]; simp [hxs]
                    have hyx : y.b ≠ x.b := hHx mb List.mem_cons_self _ y hmb1 hy
                    have hheap : ∀ b, b ≠ x.b → w3.heap[b]? = w1.heap[b]? := fun b hb => by
                      rw [← hw3]
                      simp only
                      rw [Array.getElem?_setIfInBounds_ne (Ne.symm hb), hsame.heap]
                    have hmap3 : w3.heap[y.b]? = some (.map ents ck) := by rw [hheap _ hyx]; exact hmap
                    have hsz3 : w3.heap.size = w1.heap.size := by rw [← hw3]; simp [hsame.heap]
                    have ht3 : w3.tape = w1.tape ∧ w3.os = w1.os ∧ w3.output = w1.output := by rw [← hw3]; exact ⟨hsame.tape, hsame.os, hsame.out⟩
                    have hxl : s.lim ≤ ib := (AS.set_lim hs1).2
                    have hS3 : Stp ρ s w ρ1 (sc.wl s.lim) w3 := by
                      refine ⟨hSr.ren, hSr.nx, by rw [ht3.1]; exact hSr.tape, by rw [ht3.2.1]; exact hSr.os, by rw [ht3.2.2]; exact hSr.out, by rw [hsz3]; exact hSr.size, fun b hb hn => ?_, hSr.ph, fun b l hb => ?_, hSr.lim, hSr.low, fun a' k' x' hl hn hk' hro hx' => ?_⟩
                      · have hbx : b ≠ x.b := fun e => hn ⟨ib, _, x, hblk, hx, e.symm⟩
                        obtain ⟨q1, q2⟩ := hSr.frame b hb hn
                        exact ⟨by rw [hheap b hbx]; exact q1, q2⟩
                      · have hbx : b ≠ x.b := fun e => by rw [e, hobj] at hb; cases hb
                        rw [hheap b hbx]
                        exact hSr.lp b l hb
                      · have hbx : x'.b ≠ x.b := fun e => by
                          have hne' : a' ≠ ib := by omega
                          have := (hR.excl a' ib k' _ x' x hne' hk' hblk hx' hx e).1
                          rw [hro] at this; cases this
                        rw [hheap _ hbx]
                        exact hSr.lowW a' k' x' hl hn hk' hro hx'
                    have hM3 : Marks n0 ρ1 sc w3 a1.defers := by
                      refine ⟨fun d hd => ?_, hM1.apart⟩
                      obtain ⟨r, q1, q2, q3, q4, q5⟩ := hM1.each d hd
                      have hrx : r ≠ x.b := fun e => by rw [e, hob] at q2; cases q2
                      exact ⟨r, q1, by rw [hheap r hrx]; exact q2, by rw [hsz3]; exact q3, q4, q5⟩
                    have hHI3 : HI ρ1 sc w3 := fun a ha k x' e1 e2 => by rw [hheap _ (hHx a ha k x' e1 e2)]; exact hHI a ha k x' e1 e2
                    have hL3 : ∀ l, F.round = some l → ∃ r, w3.heap[l]? = some (Obj.loop r) := loops_step hL hS3
                    have hn3 : n0 ≤ w3.heap.size := Nat.le_trans hn0 hS3.size
                    refine wpIn_seq ?_
                    have hE2 := hE1'.put_other (u := .tuple #[.bool true, en.key, en.val]) hkd1
                    have he9 : ((a1.put (some m.d1) (.tuple #[.bool true, en.key, en.val])).put (some m.t9) (.bool true)).eval (.tmp m.t9) = .bool true := eval_tmp (get_put_eq (Nat.lt_of_lt_of_le h9 hE2.size))
                    refine wpIn_cond he9 ?_
                    refine wpIn_skip ?_
                    show (Code.block m.b1 (.seq (.region i2 r2 false) m.body)).wpIn F 0 P _ _ w3
                    obtain ⟨pe, hpe, hent⟩ := hofEnt en hen
                    have hkv : VRel ρ1 pe.1 en.key := by
                      rw [hent.1]
                      have := hent.2.2.1
                      rw [hent.1] at this
                      exact plain_refl this
                    have hround : ∀ (sA : AS) (xx : XExit) (tx : T Value) (sx : AS), mapRound M ev (pe.1, pe.2.1) tm0 sA = .code xx tx sx → Rel P ρ1 sA w3 → Marks n0 ρ1 sA w3 a1.defers → ∀ Q' : Exit → Act → World → Prop, Leaves' P n0 keep nt ρ1 sA w3 xx tx sx Q' →
                        (Code.block m.b1 (.seq (.region i2 r2 false) m.body)).wpIn F 0 P Q' ((a1.put (some m.d1) (.tuple #[.bool true, en.key, en.val])).put (some m.t9) (.bool true)) w3 := by
                      intro sA xx tx sx hrd hRA hMA Q' hQ'
                      rw [hMround] at hrd
                      cases hp : T.put (some (.bool true)) tm0 m.t9 with
                      | none => rw [hp] at hrd; cases hrd
                      | some tm1 =>
                        rw [hp] at hrd
                        have hE3 := hE2.put hk9 h9 (.bool true) hp
                        have hitv : ((a1.put (some m.d1) (.tuple #[.bool true, en.key, en.val])).put (some m.t9) (.bool true)).eval (.tmp m.it) = .pointer (some ⟨x.b, 0, none⟩) := by
                          have hne1 : m.it ≠ m.d1 := fun e => by rw [e, hkd1] at hkit; cases hkit
                          rw [eval_put_ne (by intro e; exact hit9 (by injection e)), eval_put_ne (by intro e; exact hne1 (by injection e))]
                          exact hptr hE1
                        exact mapBlock_ok hev hF hcok hl2 hr2 hqg hqd hqo hkd2 hd2 (k := pe.1) (v := pe.2.1) hrd hE3 hn3 (by rw [put_defers', put_defers']; exact hMA) hL3 hRA (by rw [hitv]; exact run_entry hob3 hmap3 hbn hen) hkv (VRel.mono hle1 hent.2.2.2.1) hQ'
                    obtain ⟨hstill, _, hpick⟩ := goW_spec hgoW
                    have hμ' : ∀ {w' : World} {a' : Act}, w'.heap[x.b]? = some (.mapIter (some y.b) ck (seen.push en.born) ck) → μ a' w' < μ a1 w1 := fun {w' a'} hseen' => by
                      rw [hμ]
                      show (match w'.heap[x.b]? with | some (.mapIter _ _ seen _) => (ents.toList.filter fun (e : MapEntry) => !seen.toList.contains e.born).length | _ => 0) < _
                      rw [hseen']
                      simp only [Array.toList_push]
                      exact filter_less ⟨en, hen, rfl⟩ hnew
                    have hcov' : ∀ en' ∈ ents.toList, ∀ p ∈ es, EntRel P ρ kt p en' → p ≠ pe → en'.born ∈ (seen.push en.born).toList ∨ p ∈ q.1 ∨ p ∈ W := fun en' h1 p h2 h3 _ => by
                      rw [Array.toList_push]
                      exact (hcov en' h1 p h2 h3).imp (fun h => List.mem_append.2 (.inl h)) id
                    have hun' : ∀ p ∈ W, p ≠ pe → ∃ en' ∈ ents.toList, EntRel P ρ kt p en' ∧ en'.born ∉ (seen.push en.born).toList := fun p hp hne' => by
                      obtain ⟨en', h1, h2, h3⟩ := huns p hp
                      refine ⟨en', h1, h2, fun hm => ?_⟩
                      rw [Array.toList_push] at hm
                      rcases List.mem_append.1 hm with hm | hm
                      · exact h3 hm
                      · simp only [List.mem_singleton] at hm
                        have := hborn en' h1 en hen hm
                        subst this
                        exact hne' (hkeys p (hWs p hp) pe hpe (by rw [h2.1, hent.1]))
                    by_cases hpW : pe ∈ W
                    · -- one that writes
                      obtain ⟨l1, l2', hWe⟩ := List.append_of_mem hpW
                      obtain ⟨sn, hrw, hgon⟩ := hpick l1 pe l2' hWe
                      obtain ⟨tx, hrd, hsubT⟩ := roundW_some hrw
                      refine hround sc .normal tx sn hrd hR3 hM3 _ (fun ρ2 a' w' hE' hM' hR' hS' => ?_)
                      have hle2 := hS'.le hR3
                      have hlim' : s.lim ≤ sc.lim := by rw [hscl]; omega
                      have hx3 : x.b < w3.heap.size := (Array.getElem?_eq_some_iff.1 hob3).1
                      obtain ⟨hfx, hfx2⟩ := hS'.frame x.b hx3 hxn
                      have hseen' : w'.heap[x.b]? = some (.mapIter (some y.b) ck (seen.push en.born) ck) := by rw [hfx]; exact hob3
                      have hnpe : ∀ p ∈ l1 ++ l2', p ≠ pe ∧ p ∈ W := fun p hp => by
                        refine ⟨fun e => ?_, by rw [hWe]; rcases List.mem_append.1 hp with hp | hp <;> simp [hp]⟩
                        have hnd := hWn
                        rw [hWe, List.map_append, List.map_cons, List.nodup_append] at hnd
                        subst e
                        rcases List.mem_append.1 hp with hp | hp
                        · exact hnd.2.2 p.1 (List.mem_map.2 ⟨p, hp, rfl⟩) p.1 (by simp) rfl
                        · exact (List.nodup_cons.1 hnd.2.1).1 (List.mem_map.2 ⟨p, hp, rfl⟩)
                      refine ⟨⟨ρ2, sn, l1 ++ l2', seen.push en.born, ⟨hE'.size, hE0.tk, envT_down (fun a x' e => hle2 _ _ (hle1 _ _ e)) hE1.env (fun t v hv => hE'.env t v (subT_get hsubT t v hv))⟩, hM', hR', hS3.trans (hS'.relim hlim'), hS'.lim.trans hscl, fun a ha => ?_, Nat.le_trans hnsc hS'.nx, fun a ha k x' e1 e2 => ?_, hfx2, hseen', hgon, ?_, fun p hp => hWs p (hnpe p hp).2, fun en' h1 p h2 h3 => ?_, fun p hp => hun' p (hnpe p hp).2 (hnpe p hp).1⟩, hμ' (a' := a') hseen'⟩
                      · rw [hS'.low a (by rw [hscl]; exact ha)]; exact hlow a ha
                      · obtain ⟨z1, z2⟩ := hHI3 a ha k x' e1 e2
                        obtain ⟨z3, z4⟩ := hS'.frame x'.b (Nat.lt_of_lt_of_le (hR1.blk a k x' e1 e2).1 hS3.size) z2
                        exact ⟨z3.trans z1, z4⟩
                      · have hnd := hWn
                        rw [hWe] at hnd
                        exact hnd.sublist (((List.sublist_cons_self pe l2').append_left l1).map _)
                      · by_cases hpp : p = pe
                        · left
                          rw [hpp] at h3
                          have : en' = en := hsameEn en' h1 en hen (h3.1.symm.trans hent.1)
                          rw [this]; simp
                        · rcases hcov' en' h1 p h2 h3 hpp with hc | hc | hc
                          · exact .inl hc
                          · exact .inr (.inl hc)
                          · refine .inr (.inr ?_)
                            rw [hWe] at hc
                            rcases List.mem_append.1 hc with hc | hc
                            · exact List.mem_append.2 (.inl hc)
                            · rcases List.mem_cons.1 hc with hc | hc
                              · exact (hpp hc).elim
                              · exact List.mem_append.2 (.inr hc)
                    · -- one that does not
                      have hpN : pe ∈ q.1 := by
                        rcases hcov en hen pe hpe hent with hc | hc | hc
                        · exact (hnew hc).elim
                        · exact hc
                        · exact (hpW hc).elim
                      obtain ⟨tx, sx, hrd, hsubT⟩ := stillW_some (hstill pe hpN)
                      have hRL : Rel P ρ1 ⟨sc.h, sc.nx, sc.nx⟩ w3 := ⟨hR3.dom, hR3.top, hR3.blk, Nat.le_refl _, hR3.excl, hR3.gl⟩
                      refine hround _ .normal tx sx hrd hRL ⟨hM3.each, hM3.apart⟩ _ (fun ρ2 a' w' hE' hM' hR' hS' => ?_)
                      have hle := hS'.le hRL
                      have hsameH : ∀ q, q < sc.nx → sx.h.get q = sc.h.get q := fun q hq => hS'.low q hq
                      have hRd : Rel P ρ1 sc w' := hR3.down hR' hle hsameH
                      have hx3 : x.b < w3.heap.size := (Array.getElem?_eq_some_iff.1 hob3).1
                      have hfr : w'.heap[x.b]? = w3.heap[x.b]? := (hS'.frame x.b hx3 hxn).1
                      have hseen' : w'.heap[x.b]? = some (.mapIter (some y.b) ck (seen.push en.born) ck) := by rw [hfr]; exact hob3
                      have hSd : Stp ρ1 (sc.wl s.lim) w3 ρ1 (sc.wl s.lim) w' := by
                        refine ⟨fun _ _ => rfl, Nat.le_refl _, hS'.tape, hS'.os, hS'.out, hS'.size, fun b hb hn => ⟨(hS'.frame b hb hn).1, hn⟩, fun _ _ _ => .inl rfl, hS'.lp, rfl, fun _ _ => rfl, fun q k' x' hl hn hk' hro hx' => ?_⟩
                        have hl : q < s.lim := hl
                        have hn' : s.lim ≤ sc.nx := by have := hR.lim; omega
                        exact hS'.lowW q k' x' (Nat.lt_of_lt_of_le hl hn') hn hk' hro hx'
                      refine ⟨⟨ρ1, sc, W, seen.push en.born, ⟨hE'.size, hE0.tk, envT_down (fun a x' e => hle _ _ (hle1 _ _ e)) hE1.env (fun t v hv => hE'.env t v (subT_get hsubT t v hv))⟩, ⟨fun d hd => ?_, hM'.apart⟩, hRd, hS3.trans hSd, hscl, hlow, hnsc, fun a ha k x' e1 e2 => ?_, hxn, hseen', hgoW, hWn, hWs, fun en' h1 p h2 h3 => ?_, fun p hp => hun' p hp (fun e => hpW (by rw [← e]; exact hp))⟩, hμ' (a' := a') hseen'⟩
                      · obtain ⟨r, q1, q2, q3, q4, q5⟩ := hM'.each d hd
                        exact ⟨r, q1, q2, q3, fun hh => q4 (hh.up hR3 hle hsameH), q5⟩
                      · obtain ⟨z1, z2⟩ := hHI3 a ha k x' e1 e2
                        exact ⟨((hS'.frame x'.b (Nat.lt_of_lt_of_le (hR1.blk a k x' e1 e2).1 hS3.size) z2).1).trans z1, z2⟩
                      · by_cases hpp : p = pe
                        · exact .inr (.inl (by rw [hpp]; exact hpN))
                        · exact hcov' en' h1 p h2 h3 hpp
            | some found =>
              rw [hrs] at h
              obtain ⟨sp1, _, sp3⟩ := mapRounds_spec hrs
              -- the map is over
              have over : ∀ (a1 : Act) (w2 : World) (tup : Value), EnvOk keep nt ρ tm0 a1 → Marks n0 ρ s1 w2 a1.defers → Rel P ρ s1 w2 → Stp ρ s w ρ s1 w2 → found = none → ∀ QL : Exit → Act → World → Prop, QL (.exit m.b0) = Q (.exit m.b0) →
                  (Code.seq (.cond (.tmp m.t9) .skip (.exit m.b0)) (.block m.b1 (.seq (.region i2 r2 false) m.body))).wpIn F 0 P QL ((a1.put (some m.d1) tup).put (some m.t9) (.bool false)) w2 := by
                intro a1 w2 tup hE1 hM1 hR2 hS2 hf QL hQL
                subst hf
                have h : mapOver M tm0 s1 = .code e tm' s' := h
                rw [hMover] at h
                cases hp : T.put (some (.bool false)) tm0 m.t9 with
                | none => rw [hp] at h; cases h
                | some tm1 =>
                  rw [hp] at h
                  cases h
                  have hE3 := (hE1.put_other (u := tup) hkd1).put hk9 h9 (.bool false) hp
                  refine wpIn_seq ?_
                  have he9 : ((a1.put (some m.d1) tup).put (some m.t9) (.bool false)).eval (.tmp m.t9) = .bool false := eval_tmp (get_put_eq (Nat.lt_of_lt_of_le h9 (hE1.put_other (u := tup) hkd1).size))
                  refine wpIn_cond he9 ?_
                  refine wpIn_exit ?_
                  show QL (.exit m.b0) _ _
                  rw [hQL]
                  exact hQ ρ _ _ hE3 (by rw [put_defers', put_defers']; exact hM1) hR2 hS2
              rcases hobj with ⟨rfl, hobj⟩ | ⟨mb, y, rfl, hy, hobj⟩
              · -- a map that is nil
                have hes : some [] = some es := hes
                cases hes
                have hf : found = none := by
                  have hrs : some none = some found := hrs
                  cases hrs; rfl
                let I : Act → World → Prop := fun a1 w1 => EnvOk keep nt ρ tm0 a1 ∧ Marks n0 ρ s1 w1 a1.defers ∧ Rel P ρ s1 w1 ∧ Stp ρ s w ρ s1 w1 ∧ w1.heap[x.b]? = some (.mapIter none 0 #[] 0)
                refine wpIn_loop I (fun _ _ => 0) ⟨hE0, hM.step hS1, hR1, hS1, hobj⟩ (fun a1 w1 hI => ?_)
                obtain ⟨hE1, hM1, hRr, hSr, hob⟩ := hI
                refine wpIn_seq ?_
                refine nextRegion_ok hF hr1 hog hod hoo hpg hpd hpo (vs := #[.bool false]) (b := false) rfl (Nat.lt_of_lt_of_le hd1 hE1.size) (fun ty => by rw [hptr hE1]; exact next_nil hob) ?_
                exact over a1 w1 _ hE1 hM1 hRr hSr hf _ rfl
              · -- a map
                have hes : mapOf (s.h.get mb) (fun _ es ck' => bif' (Nat.beq ck ck') (some es) none) = some es := hes
                replace hes := mapOf_some hes
                obtain ⟨kt, es', ck', hmb, hes⟩ := hes
                replace hes := bif'_some hes
                obtain ⟨hck, hes⟩ := hes
                replace hck := Nat.eq_of_beq_eq_true hck
                subst hck
                cases hes
                have hne : mb ≠ ib := fun e => by rw [e, hblk] at hmb; cases hmb
                have hmb1 : s1.h.get mb = some (.map kt es ck) := by rw [(AS.set_eq hs1).2, if_neg hne]; exact hmb
                obtain ⟨hylt, ents, hents, hmr, hbn⟩ := hR.blk mb _ y hmb hy
                have hmblt : mb < s1.nx := by
                  rw [hnx1]
                  exact Nat.lt_of_not_le fun hle => by rw [hR.dom mb hle] at hy; cases hy
                have hofEnt : ∀ e ∈ ents.toList, ∃ p ∈ es, EntRel P ρ kt p e := fun e he => by
                  obtain ⟨l, hp, hf, _⟩ := hmr
                  exact F2.mem_right hf e (hp.mem_iff.2 he)
                have hofP : ∀ p ∈ es, ∃ e ∈ ents.toList, EntRel P ρ kt p e := fun p hp => by
                  obtain ⟨l, hpm, hf, _⟩ := hmr
                  obtain ⟨es1, es2, rfl⟩ := List.append_of_mem hp
                  obtain ⟨m1, b, m2, rfl, _, hr, _⟩ := hf.split
                  exact ⟨b, hpm.mem_iff.1 (by simp), hr⟩
                have hkeys : ∀ p ∈ es, ∀ q ∈ es, p.1 = q.1 → p = q := fun p hp q hq e => by
                  obtain ⟨l, hpm, hf, hnd⟩ := hmr
                  obtain ⟨es1, es2, rfl⟩ := List.append_of_mem hp
                  rw [List.map_append, List.map_cons, List.nodup_append] at hnd
                  rcases List.mem_append.1 hq with hq | hq
                  · exact (hnd.2.2 q.1 (List.mem_map.2 ⟨q, hq, rfl⟩) p.1 (by simp) e.symm).elim
                  · rcases List.mem_cons.1 hq with rfl | hq
                    · rfl
                    · exact ((List.nodup_cons.1 hnd.2.1).1 (by rw [e]; exact List.mem_map.2 ⟨q, hq, rfl⟩)).elim
                have hborn : ∀ e ∈ ents.toList, ∀ e' ∈ ents.toList, e.born = e'.born → e = e' := fun e he e' he' hb => by
                  obtain ⟨t1, t2, ht⟩ := List.append_of_mem he
                  have hnd := hbn.1
                  rw [ht] at he' hnd
                  rw [List.map_append, List.map_cons, List.nodup_append] at hnd
                  rcases List.mem_append.1 he' with he' | he'
                  · exact (hnd.2.2 e'.born (List.mem_map.2 ⟨e', he', rfl⟩) e.born (by simp) hb.symm).elim
                  · rcases List.mem_cons.1 he' with rfl | he'
                    · rfl
                    · exact ((List.nodup_cons.1 hnd.2.1).1 (by rw [hb]; exact List.mem_map.2 ⟨e', he', rfl⟩)).elim
                let Done : MapEntry → Prop := fun e => ∃ p ∈ es, EntRel P ρ kt p e ∧ RoundOk M ev tm0 s1 p
                let I : Act → World → Prop := fun a1 w1 => EnvOk keep nt ρ tm0 a1 ∧ Marks n0 ρ s1 w1 a1.defers ∧ Rel P ρ s1 w1 ∧ Stp ρ s w ρ s1 w1 ∧ w1.heap[y.b]? = some (.map ents ck) ∧
                  ∃ seen : Array Nat, w1.heap[x.b]? = some (.mapIter (some y.b) ck seen ck) ∧ ∀ e ∈ ents.toList, e.born ∈ seen.toList → Done e
                let μ : Act → World → Nat := fun _ w1 => match w1.heap[x.b]? with | some (.mapIter _ _ seen _) => (ents.toList.filter fun (e : MapEntry) => !seen.toList.contains e.born).length | _ => 0
                refine wpIn_loop I μ ⟨hE0, hM.step hS1, hR1, hS1, hents, #[], hobj, fun e _ h => by simp at h⟩ (fun a1 w1 hI => ?_)
                obtain ⟨hE1, hM1, hRr, hSr, hmap, seen, hob, hdone⟩ := hI
                have hμ : μ a1 w1 = (ents.toList.filter fun e => !seen.toList.contains e.born).length := by
                  show (match w1.heap[x.b]? with | some (.mapIter _ _ seen _) => (ents.toList.filter fun (e : MapEntry) => !seen.toList.contains e.born).length | _ => 0) = _
                  rw [hob]
                refine wpIn_seq ?_
                rcases next_some (P := P) hob hmap hbn with ⟨w2, hall, hrun, hsame⟩ | ⟨en, w2, hen, hnew, hrun, hsame⟩
                · refine nextRegion_ok hF hr1 hog hod hoo hpg hpd hpo (vs := #[.bool false]) (b := false) rfl (Nat.lt_of_lt_of_le hd1 hE1.size) (fun ty => by rw [hptr hE1]; exact hrun ty) ?_
                  have hf : found = none := by
                    cases hfd : found with
                    | none => rfl
                    | some o =>
                      exfalso
                      rcases sp3 o hfd with h | ⟨p, hp, hout⟩
                      · cases h
                      · obtain ⟨e1, he1, hr1'⟩ := hofP p hp
                        obtain ⟨p', hp', hr', ⟨⟨tA, sA, hnorm⟩, _⟩⟩ := hdone e1 he1 (hall e1 he1)
                        have : p' = p := hkeys p' hp' p hp (by rw [hr'.1, hr1'.1])
                        subst this
                        obtain ⟨ho, xx, t3, s3, ho2, hxn⟩ := hout
                        rw [hnorm, ho2] at ho
                        cases ho
                        exact hxn rfl
                  exact over a1 w2 _ hE1 (hM1.step (.of_heap hsame.heap hsame.tape hsame.os hsame.out)) (hRr.of_heap hsame.heap) (hSr.trans (.of_heap hsame.heap hsame.tape hsame.os hsame.out)) hf _ rfl
                · refine nextRegion_ok hF hr1 hog hod hoo hpg hpd hpo (vs := #[.bool true, en.key, en.val]) (b := true) rfl (Nat.lt_of_lt_of_le hd1 hE1.size) (fun ty => by rw [hptr hE1]; exact hrun ty) ?_
                  -- the world in which the round begins
                  have hRw2 : Rel P ρ s1 w2 := hRr.of_heap hsame.heap
                  have hSw2 : Stp ρ s1 w1 ρ s1 w2 := .of_heap hsame.heap hsame.tape hsame.os hsame.out
                  generalize hw3 : ({ w2 with heap := w2.heap.setIfInBounds x.b (.mapIter (some y.b) ck (seen.push en.born) ck) } : World) = w3
                  have hR3 : Rel P ρ s1 w3 := by rw [← hw3]; exact hRw2.unheld hnh (fun i => by simp [World.cell?, hsame.heap, hob])
                  have hxs : x.b < w2.heap.size := by
                    have := (Array.getElem?_eq_some_iff.1 hob).1
                    rw [hsame.heap]; exact this
                  have hob3 : w3.heap[x.b]? = some (.mapIter (some y.b) ck (seen.push en.born) ck) := by rw [← hw3]; simp [hxs]
                  have hyx : y.b ≠ x.b := fun e => hnh ⟨mb, _, y, hmb1, hy, e⟩
                  have hmap3 : w3.heap[y.b]? = some (.map ents ck) := by
                    rw [← hw3]
                    simp only
                    rw [Array.getElem?_setIfInBounds_ne (Ne.symm hyx), hsame.heap]
                    exact hmap
                  have hheap : ∀ b, b ≠ x.b → w3.heap[b]? = w1.heap[b]? := fun b hb => by
                    rw [← hw3]
                    simp only
                    rw [Array.getElem?_setIfInBounds_ne (Ne.symm hb), hsame.heap]
                  have hsz3 : w3.heap.size = w1.heap.size := by rw [← hw3]; simp [hsame.heap]
                  have ht3 : w3.tape = w1.tape ∧ w3.os = w1.os ∧ w3.output = w1.output := by rw [← hw3]; exact ⟨hsame.tape, hsame.os, hsame.out⟩
                  have hxl : s.lim ≤ ib := (AS.set_lim hs1).2
                  have hobj0 : w.heap[x.b]? = some (.mapIter (some y.b) ck #[] ck) := hobj
                  have hS3 : Stp ρ s w ρ s1 w3 := by
                    refine ⟨hSr.ren, hSr.nx, by rw [ht3.1]; exact hSr.tape, by rw [ht3.2.1]; exact hSr.os, by rw [ht3.2.2]; exact hSr.out, by rw [hsz3]; exact hSr.size, fun b hb hn => ?_, hSr.ph, fun b l hb => ?_, hSr.lim, hSr.low, fun a' k' x' hl hn hk' hro hx' => ?_⟩
                    · have hbx : b ≠ x.b := fun e => hn ⟨ib, _, x, hblk, hx, e.symm⟩
                      obtain ⟨q1, q2⟩ := hSr.frame b hb hn
                      exact ⟨by rw [hheap b hbx]; exact q1, q2⟩
                    · have hbx : b ≠ x.b := fun e => by rw [e, hobj0] at hb; cases hb
                      rw [hheap b hbx]
                      exact hSr.lp b l hb
                    · have hbx : x'.b ≠ x.b := fun e => by
                        have hne' : a' ≠ ib := by omega
                        have := (hR.excl a' ib k' _ x' x hne' hk' hblk hx' hx e).1
                        rw [hro] at this; cases this
                      rw [hheap _ hbx]
                      exact hSr.lowW a' k' x' hl hn hk' hro hx'
                  have hM3 : Marks n0 ρ s1 w3 a1.defers := by
                    refine ⟨fun d hd => ?_, hM1.apart⟩
                    obtain ⟨r, q1, q2, q3, q4, q5⟩ := hM1.each d hd
                    have hrx : r ≠ x.b := fun e => by rw [e, hob] at q2; cases q2
                    exact ⟨r, q1, by rw [hheap r hrx]; exact q2, by rw [hsz3]; exact q3, q4, q5⟩
                  have hL3 : ∀ l, F.round = some l → ∃ r, w3.heap[l]? = some (Obj.loop r) := loops_step hL hS3
                  have hn3 : n0 ≤ w3.heap.size := Nat.le_trans hn0 hS3.size
                  refine wpIn_seq ?_
                  have hE2 := hE1.put_other (u := .tuple #[.bool true, en.key, en.val]) hkd1
                  have he9 : ((a1.put (some m.d1) (.tuple #[.bool true, en.key, en.val])).put (some m.t9) (.bool true)).eval (.tmp m.t9) = .bool true := eval_tmp (get_put_eq (Nat.lt_of_lt_of_le h9 hE2.size))
                  refine wpIn_cond he9 ?_
                  refine wpIn_skip ?_
                  show (Code.block m.b1 (.seq (.region i2 r2 false) m.body)).wpIn F 0 P _ _ w3
                  obtain ⟨pe, hpe, hent⟩ := hofEnt en hen
                  have hkv : VRel ρ pe.1 en.key := by
                    rw [hent.1]
                    have := hent.2.2.1
                    rw [hent.1] at this
                    exact plain_refl this
                  have hround : ∀ (sA : AS) (xx : XExit) (tx : T Value) (sx : AS), mapRound M ev (pe.1, pe.2.1) tm0 sA = .code xx tx sx → Rel P ρ sA w3 → Marks n0 ρ sA w3 a1.defers → ∀ Q' : Exit → Act → World → Prop, Leaves' P n0 keep nt ρ sA w3 xx tx sx Q' →
                      (Code.block m.b1 (.seq (.region i2 r2 false) m.body)).wpIn F 0 P Q' ((a1.put (some m.d1) (.tuple #[.bool true, en.key, en.val])).put (some m.t9) (.bool true)) w3 := by
                    intro sA xx tx sx hrd hRA hMA Q' hQ'
                    rw [hMround] at hrd
                    cases hp : T.put (some (.bool true)) tm0 m.t9 with
                    | none => rw [hp] at hrd; cases hrd
                    | some tm1 =>
                      rw [hp] at hrd
                      have hE3 := hE2.put hk9 h9 (.bool true) hp
                      have hitv : ((a1.put (some m.d1) (.tuple #[.bool true, en.key, en.val])).put (some m.t9) (.bool true)).eval (.tmp m.it) = .pointer (some ⟨x.b, 0, none⟩) := by
                        have hne1 : m.it ≠ m.d1 := fun e => by rw [e, hkd1] at hkit; cases hkit
                        rw [eval_put_ne (by intro e; exact hit9 (by injection e)), eval_put_ne (by intro e; exact hne1 (by injection e))]
                        exact hptr hE1
                      exact mapBlock_ok hev hF hcok hl2 hr2 hqg hqd hqo hkd2 hd2 (k := pe.1) (v := pe.2.1) hrd hE3 hn3 (by rw [put_defers', put_defers']; exact hMA) hL3 hRA (by rw [hitv]; exact run_entry hob3 hmap3 hbn hen) hkv hent.2.2.2.1 hQ'
                  rcases sp1 pe hpe with hok | ⟨o, hfo, hout⟩
                  · have hok' := hok
                    obtain ⟨_, tx, sx, hrd, hsubT⟩ := hok'
                    have hRL : Rel P ρ ⟨s1.h, s1.nx, s1.nx⟩ w3 := ⟨hR3.dom, hR3.top, hR3.blk, Nat.le_refl _, hR3.excl, hR3.gl⟩
                    refine hround _ .normal tx sx hrd hRL ⟨hM3.each, hM3.apart⟩ _ (fun ρ' a' w' hE' hM' hR' hS' => ?_)
                    have hle := hS'.le hRL
                    have hsameH : ∀ q, q < s1.nx → sx.h.get q = s1.h.get q := fun q hq => hS'.low q hq
                    have hRd : Rel P ρ s1 w' := hR3.down hR' hle hsameH
                    have hfr : w'.heap[x.b]? = w3.heap[x.b]? := (hS'.frame x.b (by rw [hsz3]; exact (Array.getElem?_eq_some_iff.1 hob).1) hnh).1
                    have hfm : w'.heap[y.b]? = w3.heap[y.b]? := hS'.lowW mb _ y hmblt hmblt hmb1 rfl hy
                    have hSd : Stp ρ s1 w3 ρ s1 w' := by
                      refine ⟨fun _ _ => rfl, Nat.le_refl _, hS'.tape, hS'.os, hS'.out, hS'.size, fun b hb hn => ⟨(hS'.frame b hb hn).1, hn⟩, fun _ _ _ => .inl rfl, hS'.lp, rfl, fun _ _ => rfl, fun q k' x' hl hn hk' hro hx' => ?_⟩
                      exact hS'.lowW q k' x' (Nat.lt_of_lt_of_le hl hR3.lim) hn hk' hro hx'
                    have hseen' : w'.heap[x.b]? = some (.mapIter (some y.b) ck (seen.push en.born) ck) := by rw [hfr]; exact hob3
                    refine ⟨⟨⟨hE'.size, hE0.tk, envT_down hle hE1.env (fun t v hv => hE'.env t v (subT_get hsubT t v hv))⟩, ⟨fun d hd => ?_, hM'.apart⟩, hRd, hS3.trans hSd, by rw [hfm]; exact hmap3, _, hseen', fun e1 he1 hb1 => ?_⟩, ?_⟩
                    · obtain ⟨r, q1, q2, q3, q4, q5⟩ := hM'.each d hd
                      exact ⟨r, q1, q2, q3, fun hh => q4 (hh.up hR3 hle hsameH), q5⟩
                    · rw [Array.toList_push] at hb1
                      rcases List.mem_append.1 hb1 with hb1 | hb1
                      · exact hdone e1 he1 hb1
                      · simp only [List.mem_singleton] at hb1
                        have := hborn e1 he1 en hen hb1
                        subst this
                        exact ⟨pe, hpe, hent, hok⟩
                    · rw [hμ]
                      show (match w'.heap[x.b]? with | some (.mapIter _ _ seen _) => (ents.toList.filter fun (e : MapEntry) => !seen.toList.contains e.born).length | _ => 0) < _
                      rw [hseen']
                      simp only [Array.toList_push]
                      exact filter_less ⟨en, hen, rfl⟩ hnew
                  · obtain ⟨ho, xx, t3, s3, rfl, hxn⟩ := hout
                    subst hfo
                    have h : Out.code xx t3 s3 = .code e tm' s' := h
                    cases h
                    refine hround s1 e tm' s' ho hR3 hM3 _ (fun ρ' a' w' hE' hM' hR' hS' => ?_)
                    have := hQ ρ' a' w' hE' hM' hR' (hS3.trans hS')
                    cases e with
                    | normal => exact (hxn rfl).elim
                    | exit id => exact this
                    | goto l => exact this
                    | ret => exact this
      · cases h
    · cases h
end Go.Eng
/-! Code, functions, rounds; the evaluator. -/
namespace Go.Eng
open Go
variable {P : Program}
theorem no_ok {keep nt : Nat} (c : Code) : CFOk P keep nt c (fun _ _ _ => .no) := fun ev hev F hF ρ tm s a w x tm' s' h => by cases h
theorem orNo_some {o : Option CF} {f : CF} (h : orNo o = some f) : o = some f ∨ f = fun _ _ _ => .no := by
  cases o with
  | none => cases h; exact .inr rfl
  | some g => cases h; exact .inl rfl
theorem codeN_ok (hP : Plainly P) (hm : P.follows .mixedOrders = true) {keep nt fn : Nat} : ∀ (n : Nat) (c : Code) (f : CF), mkCodeN P fn nt keep n c = some f → CFOk P keep nt c f := by
  intro n
  induction n with
  | zero => intro c f h; cases h
  | succ n ih =>
    intro c
    cases c with
    | skip => intro f h; cases h; exact skip_ok
    | region id ops draw =>
      intro f h
      have h : orNo (bif' draw (orCF (mkDraw P keep nt ops.toList fun st last => some (fDraw st last)) (mkDrawM P keep nt ops.toList)) (ob (mkRegion P keep nt ops.toList ops.toList []) fRegC)) = some f := h
      rcases orNo_some h with h | rfl
      · cases draw with
        | true =>
          have h : orCF (mkDraw P keep nt ops.toList fun st last => some (fDraw st last)) (mkDrawM P keep nt ops.toList) = some f := h
          cases e : (mkDraw P keep nt ops.toList fun st last => some (fDraw st last)) with
          | none => rw [e] at h; exact drawM_ok hm h
          | some g => rw [e] at h; cases h; exact draw_ok hm e
        | false =>
          obtain ⟨l, hl, h⟩ := ob_some h
          rw [fRegC_eq] at h
          cases h
          exact region_code_ok hl
      · exact no_ok _
    | seq a b =>
      intro f h
      have h : ob (mkCodeN P fn nt keep n a) (fun a => ob (mkCodeN P fn nt keep n b) fun b => some (fSeq a b)) = some f := h
      obtain ⟨fa, ha, h⟩ := ob_some h
      obtain ⟨fb, hb, h⟩ := ob_some h
      cases h
      exact seq_ok (ih a fa ha) (ih b fb hb)
    | cond c a b =>
      intro f h
      have h : ob (mkOp keep [] c) (fun c => ob (mkCodeN P fn nt keep n a) fun a => ob (mkCodeN P fn nt keep n b) fun b => some (fCond c a b)) = some f := h
      obtain ⟨fc, hc, h⟩ := ob_some h
      obtain ⟨fa, ha, h⟩ := ob_some h
      obtain ⟨fb, hb, h⟩ := ob_some h
      cases h
      exact cond_ok hc (ih a fa ha) (ih b fb hb)
    | block id a =>
      intro f h
      have h : ob (mkCodeN P fn nt keep n a) (fun a => some (fBlock id a)) = some f := h
      obtain ⟨fa, ha, h⟩ := ob_some h
      cases h
      exact block_ok (ih a fa ha)
    | loop a =>
      intro f h
      have h : (match mapShape a with
        | some m => mkMapLoop P nt keep (mkCodeN P fn nt keep n) (writesC a) m
        | none => ob (mkCodeN P fn nt keep n a) fun a => some (fLoop a)) = some f := h
      split at h
      · rename_i m hs
        exact mapLoop_ok hs h (fun c cf hc => ih c cf hc)
      · obtain ⟨fa, ha, h⟩ := ob_some h
        cases h
        exact loop_ok (ih a fa ha)
    | rangeFunc g ps as bd =>
      intro f h
      have h : ob (mkOp keep [] g) (fun f => bif' (allB (fun p => Nat.blt p nt) ps.toList) (some (fRangeFunc P fn nt keep f ps.toList as bd)) none) = some f := h
      obtain ⟨fg, hg, h⟩ := ob_some h
      obtain ⟨hps, h⟩ := bif'_some h
      cases h
      exact rangeFunc_ok hP hg fun p hp => Nat.le_of_ble_eq_true (allB_spec hps p hp)
    | exit id => intro f h; cases h; exact exit_ok id
    | scope a =>
      intro f h
      have h : ob (mkCodeN P fn nt keep n a) (fun a => some (fScope a)) = some f := h
      obtain ⟨fa, ha, h⟩ := ob_some h
      cases h
      exact scope_ok (ih a fa ha)
    | label l => intro f h; cases h; exact label_ok l
    | goto l => intro f h; cases h; exact goto_ok l
    | ret => intro f h; cases h; exact ret_ok
    | refuse w => intro f h; cases h; exact no_ok _
theorem code_ok (hP : Plainly P) (hm : P.follows .mixedOrders = true) {keep nt fn : Nat} (c : Code) (f : CF) (h : mkCode P fn nt keep c = some f) : CFOk P keep nt c f := codeN_ok hP hm 1000 c f h
/-! A call's results. -/
def readVar (tmps : Array Value) : ResultVar → Sem Value
  | .tmp t => pure (tmps.getD t undef)
  | .cell a t => do loadVar t (← asAddr (tmps.getD a undef))
theorem resultV_ok {ρ : Ren} {s : AS} {w : World} {tm : T Value} {tmps : Array Value} {r : ResultVar} {v : Value} (hR : Rel P ρ s w) (hE : EnvT ρ tm tmps) (h : resultV P s tm r = some v) : ∃ u, (readVar tmps r).run P w = .ok u w ∧ VRel ρ v u := by
  cases r with
  | tmp t =>
    have h : tm.get t = some v := h
    obtain ⟨u, hu, hv⟩ := hE t v h
    refine ⟨u, ?_, hv⟩
    show Sem.run P (pure (tmps.getD t undef)) w = _
    rw [Array.getD_eq_getD_getElem?, hu]; rfl
  | cell a t =>
    have h : ob (tm.get a) (fun a => loadV P t s a) = some v := h
    obtain ⟨p, hp, h⟩ := ob_some h
    obtain ⟨u, hu, hv⟩ := hE a p hp
    obtain ⟨r, h1, h2⟩ := loadV_sound hR h hv
    refine ⟨r, ?_, h2⟩
    unfold loadV at h
    split at h
    · cases hv with | @ptr _ x off hx => ?_
      have e1 : (Instr.loadAt t (.pointer (some ⟨x.b, x.base + off, none⟩))) = loadVar t ⟨x.b, x.base + off, none⟩ := rfl
      show Sem.run P (do loadVar t (← asAddr (tmps.getD a undef))) w = _
      rw [Array.getD_eq_getD_getElem?, hu]
      rw [e1] at h1
      exact h1
    · unfold loadG at h
      split at h
      · rename_i g off _
        cases hv with | @glob g off => ?_
        have e1 : (Instr.loadAt t (.pointer (some ⟨g, off, none⟩))) = loadVar t ⟨g, off, none⟩ := rfl
        show Sem.run P (do loadVar t (← asAddr (tmps.getD a undef))) w = _
        rw [Array.getD_eq_getD_getElem?, hu]
        rw [e1] at h1
        exact h1
      · cases h
theorem mapM_vals {ρ : Ren} {s : AS} {w : World} {tm : T Value} {tmps : Array Value} (hR : Rel P ρ s w) (hE : EnvT ρ tm tmps) : ∀ (l : List ResultVar) (vs : List Value), resultsA P s tm l = some vs → ∃ us, (l.mapM (readVar tmps)).run P w = .ok us w ∧ VRels ρ vs us
  | [], vs, h => by
    have h : some [] = some vs := h
    cases h; exact ⟨[], rfl, .nil⟩
  | r :: l, vs, h => by
    have h : ob (resultV P s tm r) (fun v => ob (resultsA P s tm l) fun l => some (v :: l)) = some vs := h
    obtain ⟨v, hv, h⟩ := ob_some h
    obtain ⟨vs', hvs, h⟩ := ob_some h
    cases h
    obtain ⟨u, h1, h2⟩ := resultV_ok hR hE hv
    obtain ⟨us, h3, h4⟩ := mapM_vals hR hE l vs' hvs
    refine ⟨u :: us, ?_, .cons h2 h4⟩
    rw [List.mapM_cons]
    simp only [Sem.run_bind, h1, Result.andThen_ok, h3, Sem.run_pure]
theorem results_eq (fn : Func) (tmps : Array Value) : results fn tmps = (do let vs ← fn.results.mapM (readVar tmps); pure (if h : vs.size = 1 then vs[0] else .tuple vs)) := by
  unfold results
  congr 1
theorem results_ok {ρ : Ren} {s s' : AS} {w : World} {tm : T Value} {tmps : Array Value} {fn : Func} {v : Value} (hR : Rel P ρ s w) (hE : EnvT ρ tm tmps) (h : retOut P fn.results.toList tm s = .val v s') : s' = s ∧ ∃ u, (results fn tmps).run P w = .ok u w ∧ VRel ρ v u := by
  have h : Option.rec (motive := fun _ => Out) .no (fun vs => match vs with
    | [v] => .val v s
    | vs => .val (.tuple ⟨vs⟩) s) (resultsA P s tm fn.results.toList) = .val v s' := h
  cases hr : resultsA P s tm fn.results.toList with
  | none => rw [hr] at h; cases h
  | some vs =>
    rw [hr] at h
    obtain ⟨us, h1, h2⟩ := mapM_vals hR hE _ _ hr
    have hrun : (fn.results.mapM (readVar tmps)).run P w = .ok us.toArray w := by
      rw [Array.mapM_eq_mapM_toList]
      have : (Functor.map List.toArray (fn.results.toList.mapM (readVar tmps))) = (do let l ← fn.results.toList.mapM (readVar tmps); pure l.toArray) := by rw [map_eq_pure_bind]
      rw [this]
      simp only [Sem.run_bind, h1, Result.andThen_ok, Sem.run_pure]
    rw [results_eq]
    simp only [Sem.run_bind, hrun, Result.andThen_ok, Sem.run_pure]
    have hl := h2.length
    match vs, us, h2, h with
    | [v'], [u'], .cons hv .nil, h => cases h; exact ⟨rfl, u', rfl, hv⟩
    | [], [], h2, h => cases h; exact ⟨rfl, .tuple #[], rfl, .tuple .nil⟩
    | v1 :: v2 :: vs, u1 :: u2 :: us, h2, h =>
      cases h
      refine ⟨rfl, .tuple (u1 :: u2 :: us).toArray, ?_, .tuple h2⟩
      simp
/-! A function's body. -/
theorem run_takeDeferred {r : Nat} {w : World} (h : w.heap[r]? = some (.deferred (some []))) : (Instr.takeDeferred r).run P w = .ok [] { w with heap := w.heap.setIfInBounds r (.deferred none) } := by
  simp only [Instr.takeDeferred, Sem.run_bind, run_getObj' h (by simp), Result.andThen_ok, run_setObj' h (by simp), Sem.run_pure]
theorem leaves_marks {F : Fence} {fn : Func} {tmps : Array Value} {R : Ending → World → Prop} {n0 : Nat} {ρ0 ρ : Ren} {s0 s : AS} {w0 : World} (hn0 : n0 = w0.heap.size) {v : Value} (hv : ∀ w, Rel P ρ s w → ∃ u, (results fn tmps).run P w = .ok u w ∧ VRel ρ v u)
    (hQ : ∀ u w, VRel ρ v u → Rel P ρ s w → Stp ρ0 s0 w0 ρ s w → R (.returned u) w) : ∀ (ds : List Deferred) (w : World), Marks n0 ρ s w ds → Rel P ρ s w → Stp ρ0 s0 w0 ρ s w → LeavesInM F 0 P fn tmps R ds .returning w
  | [], w, _, hR, hS => by
    obtain ⟨u, h1, h2⟩ := hv w hR
    exact ⟨u, h1, hQ u w h2 hR hS⟩
  | d :: ds, w, hM, hR, hS => by
    obtain ⟨r, h1, h2, h3, h4, h5⟩ := hM.each d (by simp)
    refine ⟨by simp, .inl ⟨r, _, h1, run_takeDeferred h2, leaves_marks hn0 hv hQ ds _ ⟨fun d' hd' => ?_, (List.pairwise_cons.1 hM.apart).2⟩ (hR.unheld h4 (fun i => by simp [World.cell?, h2])) ?_⟩⟩
    · obtain ⟨r', e1, e2, e3, e4, e5⟩ := hM.each d' (by simp [hd'])
      have hne : r ≠ r' := fun e => (List.pairwise_cons.1 hM.apart).1 d' hd' r h1 (by rw [e1, e])
      exact ⟨r', e1, by simp [hne, e2], by simpa using e3, e4, e5⟩
    · refine ⟨hS.ren, hS.nx, hS.tape, hS.os, hS.out, by simpa using hS.size, fun b hb hn => ?_, hS.ph, fun b l hb => ?_, hS.lim, hS.low, fun a k x hl hn hk hro hx => ?_⟩
      · obtain ⟨a1, a2⟩ := hS.frame b hb hn
        have hne : r ≠ b := by omega
        exact ⟨by simp [hne, a1], a2⟩
      · obtain ⟨r', hr'⟩ := hS.lp b l hb
        have hne : r ≠ b := fun e => by rw [e, hr'] at h2; cases h2
        exact ⟨r', by simp [hne, hr']⟩
      · have hne : r ≠ x.b := fun e => h4 ⟨a, k, x, by rw [hS.low a hl]; exact hk, by rw [hS.ren a hn]; exact hx, e.symm⟩
        rw [← hS.lowW a k x hl hn hk hro hx]
        simp [hne]
theorem putKept_get {keep i : Nat} {v : Value} {t t' : T Value} (h : putKept keep i v t = some t') : ∀ j, t'.get j = if kept keep i = true ∧ j = i then some v else t.get j := by
  have h : bif' (kept keep i) (T.put (some v) t i) (some t) = some t' := h
  cases hk : kept keep i with
  | true =>
    rw [hk, bif'_true] at h
    intro j
    rw [T.get_put _ _ _ _ h j]
    simp
  | false => rw [hk, bif'_false] at h; cases h; intro j; simp
theorem putArgs_get {keep : Nat} : ∀ (l : List Value) (i : Nat) (t t' : T Value), putArgs keep l i t = some t' → ∀ j v, t'.get j = some v → (kept keep j = true ∧ i ≤ j ∧ l[j - i]? = some v) ∨ t.get j = some v
  | [], i, t, t', h, j, v, hv => by
    have h : some t = some t' := h
    cases h; exact .inr hv
  | a :: l, i, t, t', h, j, v, hv => by
    have h : ob (putKept keep i a t) (fun t' => putArgs keep l (Nat.succ i) t') = some t' := h
    obtain ⟨t1, h1, h⟩ := ob_some h
    rcases putArgs_get l _ _ _ h j v hv with ⟨e1, e2, e3⟩ | e
    · refine .inl ⟨e1, by omega, ?_⟩
      rw [show j - i = (j - (i + 1)) + 1 by omega]
      simpa using e3
    · rw [putKept_get h1] at e
      split at e
      · rename_i hc
        cases e
        obtain ⟨hk, rfl⟩ := hc
        exact .inl ⟨hk, by omega, by simp⟩
      · exact .inr e
theorem fn_ok (hP : Plainly P) (hm : P.follows .mixedOrders = true) {f keep : Nat} {fn : Func} {c : Code} (hf : P.funcs[f]? = some fn) (hb : fn.body = some c) {t0 : T Value} (ht0 : mkT fn.ntmps = some t0) {b : CF} (hc : mkCode P f fn.ntmps keep c = some b)
    {ev : Ev} (hev : EvOk P ev) {args args' : List Value} {s s' : AS} {v : Value} (h : fFn P keep t0 fn.results.toList b ev args s = .val v s') {ρ : Ren} {w : World} (hR : Rel P ρ s w) (ha : VRels ρ args args') :
    CallsIn Fence.wide 0 P f args'.toArray w fun e w' => ∃ u, e = .returned u ∧ ∃ ρ', VRel ρ' v u ∧ Rel P ρ' s' w' ∧ Stp ρ s w ρ' s' w' := by
  have h : Option.rec (motive := fun _ => Out) .no (fun tm => afterBody P fn.results.toList (b ev tm s)) (putArgs keep args 0 t0) = .val v s' := h
  cases hp : putArgs keep args 0 t0 with
  | none => rw [hp] at h; cases h
  | some tm =>
    rw [hp] at h
    have h : afterBody P fn.results.toList (b ev tm s) = .val v s' := h
    have hlen := ha.length
    have hE : EnvOk keep fn.ntmps ρ tm { tmps := args'.toArray ++ Array.replicate (fn.ntmps - args'.toArray.size) undef, defers := [] } := by
      refine ⟨by simp; omega, fun t v hv => ?_, fun t v hv => ?_⟩
      · rcases putArgs_get _ _ _ _ hp t v hv with ⟨h1, _, _⟩ | h1
        · exact h1
        · rw [mkT_get _ _ ht0] at h1; cases h1
      · rcases putArgs_get _ _ _ _ hp t v hv with ⟨_, _, h1⟩ | h1
        · obtain ⟨u, hu, hv'⟩ := ha.get h1
          refine ⟨u, ?_, hv'⟩
          have hlt : t < args'.length := by
            have := (List.getElem?_eq_some_iff.1 hu).1
            simpa using this
          rw [Array.getElem?_append_left (by simpa using hlt)]
          simpa using hu
        · rw [mkT_get _ _ ht0] at h1; cases h1
    refine callsIn_of_wp_marks hf hb trivial ?_
    cases ho : b ev tm s with
    | no => rw [ho] at h; cases h
    | val => rw [ho] at h; cases h
    | code x tm1 s1 =>
      rw [ho] at h
      have fin : ∀ ρ' a' w', EnvOk keep fn.ntmps ρ' tm1 a' → Marks w.heap.size ρ' s1 w' a'.defers → Rel P ρ' s1 w' → Stp ρ s w ρ' s1 w' → retOut P fn.results.toList tm1 s1 = .val v s' →
          LeavesInM Fence.wide 0 P fn a'.tmps (fun e w' => ∃ u, e = .returned u ∧ ∃ ρ', VRel ρ' v u ∧ Rel P ρ' s' w' ∧ Stp ρ s w ρ' s' w') a'.defers .returning w' := by
        intro ρ' a' w' hE' hM' hR' hS' hret
        obtain ⟨hss, _⟩ := results_ok hR' hE'.env hret
        rw [hss]
        exact leaves_marks (n0 := w.heap.size) rfl (fun w2 hR2 => (results_ok hR2 hE'.env hret).2) (fun u w2 hu hR2 hS2 => ⟨u, rfl, ρ', hu, hR2, hS2⟩) _ _ hM' hR' hS'
      refine code_ok hP hm c b hc ev hev Fence.wide (.inl rfl) ρ tm s _ w x tm1 s1 ho hE w.heap.size (Nat.le_refl _) ⟨fun d hd => (by cases hd), .nil⟩ (fun l hl => (by cases hl)) hR _ (fun ρ' a' w' hE' hM' hR' hS' => ?_)
      cases x with
      | normal => exact fin ρ' a' w' hE' hM' hR' hS' h
      | ret => exact fin ρ' a' w' hE' hM' hR' hS' h
      | exit id => cases h
      | goto l => cases h
/-! Rounds. -/
theorem setParams_get {kp : Nat} : ∀ (ps : List Tmp) (l : List Value) (t t' : T Value), setParams kp ps l t = some t' → ∀ {ρ : Ren} {l' : List Value} {tmps : Array Value}, VRels ρ l l' → EnvT ρ t tmps → (∀ p ∈ ps, p < tmps.size) → (∀ j v, t.get j = some v → kept kp j = true) →
    l'.length = ps.length ∧ EnvT ρ t' ((ps.toArray.zip l'.toArray).foldl (fun tmps (t, a) => tmps.setIfInBounds t a) tmps) ∧ (∀ j v, t'.get j = some v → kept kp j = true) ∧ ((ps.toArray.zip l'.toArray).foldl (fun tmps (t, a) => tmps.setIfInBounds t a) tmps).size = tmps.size
  | [], l, t, t', h, ρ, l', tmps, hl, hE, _, hk => by
    cases l with
    | nil =>
      have h : some t = some t' := h
      cases h; cases hl
      exact ⟨rfl, by simpa using hE, hk, by simp⟩
    | cons => cases h
  | p :: ps, l, t, t', h, ρ, l', tmps, hl, hE, hlt, hk => by
    cases l with
    | nil => cases h
    | cons v l =>
      have h : ob (putKept kp p v t) (fun t' => setParams kp ps l t') = some t' := h
      obtain ⟨t1, h1, h⟩ := ob_some h
      cases hl with | @cons _ u _ l' hv hs => ?_
      have hg := putKept_get h1
      obtain ⟨a1, a2, a3, a4⟩ := setParams_get ps l t1 t' h (tmps := tmps.setIfInBounds p u) hs (fun j w hw => by
        rw [hg] at hw
        by_cases e : j = p
        · subst e
          by_cases hkp : kept kp j = true
          · rw [if_pos ⟨hkp, rfl⟩] at hw; cases hw
            exact ⟨u, by simp [hlt j (by simp)], hv⟩
          · rw [if_neg (fun h => hkp h.1)] at hw
            exact (hkp (hk j w hw)).elim
        · rw [if_neg (fun h => e h.2)] at hw
          obtain ⟨u', hu', hr⟩ := hE j w hw
          exact ⟨u', by rw [Array.getElem?_setIfInBounds_ne (Ne.symm e)]; exact hu', hr⟩) (fun q hq => by simpa using hlt q (by simp [hq])) (fun j w hw => by
        rw [hg] at hw
        split at hw
        · rename_i hc; rw [hc.2]; exact hc.1
        · exact hk j w hw)
      refine ⟨by simp [a1], ?_, a3, ?_⟩
      · rw [List.zip_toArray] at a2 ⊢; simpa using a2
      · rw [List.zip_toArray] at a4 ⊢; simpa using a4
theorem run_getLoop {l : Nat} {r : Loop} {w : World} (h : w.heap[l]? = some (.loop r)) : (Instr.getLoop l).run P w = .ok r w := by
  simp only [Instr.getLoop, Sem.run_bind, run_getObj_loop h, Result.andThen_ok, Sem.run_pure]
theorem run_yield {l : Nat} {r : Loop} {w : World} {args : Array Value} (h : w.heap[l]? = some (.loop r)) (ha : args.size = r.params.size) :
    (Instr.yield l args).run P w = .ok (.round l r.fn ((r.params.zip args).foldl (fun tmps (t, a) => tmps.setIfInBounds t a) r.tmps) r.assign r.body) w := by
  simp only [Instr.yield, Sem.run_bind, run_getLoop h, Result.andThen_ok, ha, ne_eq, not_true_eq_false, if_false, Sem.run_pure]
theorem run_beginRound {l : Nat} {r : Loop} {w : World} (h : w.heap[l]? = some (.loop r)) (hs : r.state = .ready) : (Instr.beginRound l).run P w = .ok () (w.putObj l (.loop { r with state := .busy })) := by
  simp only [Instr.beginRound, Sem.run_bind, run_getLoop h, Result.andThen_ok, run_setObj_loop _ h, hs, Sem.run_pure]
theorem run_endRound {l : Nat} {r : Loop} {w : World} {j : Option Code} (h : w.heap[l]? = some (.loop r)) : (Instr.endRound l j).run P w = .ok (.bool j.isNone) (w.putObj l (.loop { r with state := if j.isNone then .ready else .done, pending := j })) := by
  simp only [Instr.endRound, Sem.run_bind, run_getLoop h, Result.andThen_ok, run_setObj_loop _ h, Sem.run_pure]
theorem runReady_some {ev : Ev} {o : Option CF} {tm : T Value} {s : AS} {x : XExit} {tm' : T Value} {s' : AS} (h : runReady ev o tm s = .code x tm' s') : ∃ f, o = some f ∧ f ev tm s = .code x tm' s' := by
  cases o with
  | none => cases h
  | some f => exact ⟨f, rfl, h⟩
theorem yield_ok (hP : Plainly P) (hm : P.follows .mixedOrders = true) {ev : Ev} (hev : EvOk P ev) {l : Nat} {args args' : List Value} {s s' : AS} {v : Value} (h : callYield P ev l args s = .val v s') {ρ : Ren} {w : World} {x : Loc} (hR : Rel P ρ s w) (hx : ρ l = some x) (ha : VRels ρ args args') :
    CallRun P (Instr.yield x.b args'.toArray) w fun u w' => ∃ ρ', VRel ρ' v u ∧ Rel P ρ' s' w' ∧ Stp ρ s w ρ' s' w' := by
  obtain ⟨st, pend, fn, nt, kp, tm, ps, as, bd, hblk, h⟩ := loopOf_some h (by simp)
  have h : st = .ready ∧ Option.rec (motive := fun _ => Out) .no (fun tm1 => beginRound ev l (mkCode P fn nt kp bd) (runReady ev (mkCode P fn nt kp as) tm1 s)) (setParams kp ps args tm) = .val v s' := by
    cases st <;> first | (cases h; done) | exact ⟨rfl, h⟩
  obtain ⟨rfl, h⟩ := h
  cases hsp : setParams kp ps args tm with
  | none => rw [hsp] at h; cases h
  | some tm1 =>
    rw [hsp] at h
    have h : beginRound ev l (mkCode P fn nt kp bd) (runReady ev (mkCode P fn nt kp as) tm1 s) = .val v s' := h
    obtain ⟨hlt, tmps, fn', d, hh, h1, h2, h3, h4⟩ := hR.blk l _ x hblk hx
    obtain ⟨a1, a2, a3, a4⟩ := setParams_get ps args tm tm1 hsp ha h1 (fun p hp => Nat.lt_of_lt_of_le (h4 p hp) h3) h2
    unfold CallRun
    rw [run_yield hh (by simpa using a1)]
    simp only
    cases ho : runReady ev (mkCode P fn nt kp as) tm1 s with
    | no => rw [ho] at h; cases h
    | val => rw [ho] at h; cases h
    | code e1 tm2 s2 =>
      rw [ho] at h
      have hn : e1 = .normal := by cases e1 <;> first | rfl | (cases h; done)
      subst hn
      have h : loopOf (s2.h.get l) (fun st pend fn2 nt2 kp2 tm ps assign body => match st with
        | .ready => setOut s2 l (.loop .busy pend fn2 nt2 kp2 tm ps assign body) fun s3 => endRound l (runReady ev (mkCode P fn nt kp bd) tm2 s3)
        | _ => .no) = .val v s' := h
      obtain ⟨st2, pend2, fn2, nt2, kp2, tm2', ps2, as2, bd2, hblk2, h⟩ := loopOf_some h (by simp)
      have h : st2 = .ready ∧ (setOut s2 l (.loop .busy pend2 fn2 nt2 kp2 tm2' ps2 as2 bd2) fun s3 => endRound l (runReady ev (mkCode P fn nt kp bd) tm2 s3)) = .val v s' := by
        cases st2 <;> first | (cases h; done) | exact ⟨rfl, h⟩
      obtain ⟨rfl, h⟩ := h
      obtain ⟨s3, hs3, h⟩ := setOut_some h (by simp)
      obtain ⟨fa, hfa, ho⟩ := runReady_some ho
      cases ho4 : runReady ev (mkCode P fn nt kp bd) tm2 s3 with
      | no => rw [ho4] at h; cases h
      | val => rw [ho4] at h; cases h
      | code e4 tm4 s4 =>
        rw [ho4] at h
        obtain ⟨fb, hfb, ho4⟩ := runReady_some ho4
        have h : loopOf (s4.h.get l) (fun _ _ fn nt kp tm ps assign body => match (generalizing := false) e4 with
          | .normal => setOut s4 l (.loop .ready none fn nt kp tm ps assign body) fun s5 => .val (.bool true) s5
          | .ret => setOut s4 l (.loop .done (some .ret) fn nt kp tm ps assign body) fun s5 => .val (.bool false) s5
          | .exit id => setOut s4 l (.loop .done (some (.exit id)) fn nt kp tm ps assign body) fun s5 => .val (.bool false) s5
          | .goto _ => .no) = .val v s' := h
        obtain ⟨st5, pend5, fn5, nt5, kp5, tm5, ps5, as5, bd5, hblk5, h⟩ := loopOf_some h (by simp)
        have hlnx : l < s.nx := Nat.lt_of_not_le fun hle => by rw [hR.dom l hle] at hx; cases hx
        refine roundIn_of_wpIn trivial ?_
        have hL : ∀ l', (Fence.wide.inRound x.b).round = some l' → ∃ r, w.heap[l']? = some (Obj.loop r) := fun l' hl' => by
          have : x.b = l' := Option.some.inj hl'
          rw [← this]; exact ⟨_, hh⟩
        refine code_ok hP hm as fa hfa ev hev (Fence.wide.inRound x.b) (.inr ⟨_, rfl⟩) ρ tm1 s { tmps := (ps.toArray.zip args'.toArray).foldl (fun tmps (t, a) => tmps.setIfInBounds t a) tmps, defers := [] } w .normal tm2 s2 ho ⟨Nat.le_trans h3 (Nat.le_of_eq a4.symm), a3, a2⟩ w.heap.size (Nat.le_refl _) ⟨fun d hd => (by cases hd), .nil⟩ hL hR _ (fun ρ2 a2' w2 hE2 hM2 hR2 hS2 => ?_)
        have hx2 : ρ2 l = some x := by rw [hS2.ren l hlnx]; exact hx
        obtain ⟨r2, hr2, rs2, _, _, _, _, _, _, _, _, hR3, hS3⟩ := loop_set hR2 hx2 hblk2 hs3
        refine ⟨_, run_beginRound hr2 rs2, ?_⟩
        have hrr : ({ r2 with state := LoopState.busy } : Loop) = { r2 with state := LoopState.busy, pending := pend2 } := by
          have : r2.pending = pend2 := by assumption
          rw [← this]
        rw [hrr]
        have hS03 := hS2.trans hS3
        refine code_ok hP hm bd fb hfb ev hev (Fence.wide.inRound x.b) (.inr ⟨_, rfl⟩) ρ2 tm2 s3 a2' _ e4 tm4 s4 ho4 hE2 w.heap.size hS03.size (hM2.step hS3) (loops_step hL hS03) hR3 _ (fun ρ4 a4' w4 hE4 _ hR4 hS4 => ?_)
        · have hS04 := hS03.trans hS4
          have hx4 : ρ4 l = some x := by rw [hS04.ren l hlnx]; exact hx
          have fin : ∀ (st' : LoopState) (j : Option Code), (setOut s4 l (.loop st' j fn5 nt5 kp5 tm5 ps5 as5 bd5) fun s5 => .val (.bool j.isNone) s5) = .val v s' → st' = (if j.isNone then .ready else .done) →
              ∃ v1 w5, (Instr.endRound x.b j).run P w4 = .ok v1 w5 ∧ ∃ u, Ending.returned v1 = .returned u ∧ ∃ ρ', VRel ρ' v u ∧ Rel P ρ' s' w5 ∧ Stp ρ s w ρ' s' w5 := by
            intro st' j hset hst'
            obtain ⟨s5, hs5, hset⟩ := setOut_some hset (by simp)
            cases hset
            obtain ⟨r5, hr5, _, _, _, _, _, _, _, _, _, hR5, hS5⟩ := loop_set hR4 hx4 hblk5 hs5
            refine ⟨_, _, run_endRound hr5, _, rfl, ρ4, .bool _, ?_, ?_⟩
            · rw [← hst']; exact hR5
            · rw [← hst']; exact hS04.trans hS5
          cases e4 with
          | normal => exact fin .ready none h rfl
          | ret => exact fin .done (some .ret) h rfl
          | exit id => exact fin .done (some (.exit id)) h rfl
          | goto l => cases h
end Go.Eng
/-! Functions without a body. -/
namespace Go.Eng
open Go
variable {P : Program} {ρ : Ren}
/-- a function made ready can be trusted. -/
def FFOk (P : Program) (f : Nat) (F : FF) : Prop := ∀ ev, EvOk P ev → ∀ args s v s', F ev args s = .val v s' → ∀ ρ w args', Rel P ρ s w → VRels ρ args args' →
  CallRun P (callFunc f args'.toArray) w fun u w' => ∃ ρ', VRel ρ' v u ∧ Rel P ρ' s' w' ∧ Stp ρ s w ρ' s' w'
/-- what a function without a body is. -/
def ExtFits (P : Program) (f : Nat) : Ext → Prop
  | .same => ∃ fn, P.funcs[f]? = some fn ∧ fn.body.isNone = true ∧ Extern.findNext fn = none ∧ Extern.find fn = some Extern.AbiNoEscape.same
  | .cmp => ∃ fn, P.funcs[f]? = some fn ∧ fn.body.isNone = true ∧ Extern.findNext fn = none ∧ Extern.find fn = some Extern.BytealgCompare.compare
  | .makeNoZero et => ∃ fn ps t, P.funcs[f]? = some fn ∧ fn.body.isNone = true ∧ Extern.findNext fn = none ∧ Extern.find fn = some (Extern.BytealgMakeNoZero.makeNoZero ps #[t]) ∧ P.underlying t = some (.slice et)
  | .overlaps et => ∃ fn tS tR, P.funcs[f]? = some fn ∧ fn.body.isNone = true ∧ Extern.findNext fn = none ∧ Extern.find fn = some (Extern.SlicesOverlaps.overlaps #[tS, tS] #[tR]) ∧ P.underlying tS = some (.slice et) ∧ P.underlying et = some (.int .i64) ∧ ∀ w, (sizeOf et).run P w = .ok 1 w
  | .indexByteString => ∃ fn, P.funcs[f]? = some fn ∧ fn.body.isNone = true ∧ Extern.findNext fn = none ∧ Extern.find fn = some Extern.BytealgIndexByte.indexByte
theorem compare_eq : ∀ (a b : List UInt8), Lib.compareBytes a b = if Op.bytesLess a b = true then -1 else if (a == b) = true then 0 else 1
  | [], [] => rfl
  | [], _ :: _ => rfl
  | _ :: _, [] => rfl
  | x :: a, y :: b => by
    have ih := compare_eq a b
    show (if x < y then (-1 : Int) else if y < x then 1 else Lib.compareBytes a b) = if (decide (x < y) || (x == y && Op.bytesLess a b)) = true then -1 else if (x :: a == y :: b) = true then 0 else 1
    by_cases h1 : x < y
    · simp [h1]
    · by_cases h2 : y < x
      · have hne : x ≠ y := fun e => by subst e; exact h1 h2
        simp [h1, h2, hne]
      · have he : x = y := by
          rw [UInt8.lt_iff_toNat_lt] at h1 h2
          exact UInt8.toNat_inj.1 (by omega)
        subst he
        rw [if_neg h1, ih]
        simp [h1]
theorem sem_val {m : Sem Value} {u : Value} {w w' : World} {f : Nat} {fn : Func} {e : Array Value → Sem Value} {args : Array Value} (hP : Plainly P) (hf : P.funcs[f]? = some fn) (hb : fn.body.isNone = true) (hn : Extern.findNext fn = none) (he : Extern.find fn = some e) (hm : e args = m)
    (hr : m.run P w = .ok u w') : (callFunc f args).run P w = .ok (.value u) w' := by
  rw [run_callFunc_extern hf (hP f fn hf) hb hn he, hm, hr]; rfl
theorem findByte_eq (c : Nat) : ∀ (l : List UInt8) (i : Nat), findByte c l i = match (List.range l.length).find? fun k => (l[k]?.getD 0).toNat == c with | some k => ((i + k : Nat) : Int) | none => -1
  | [], i => rfl
  | b :: l, i => by
    have ih := findByte_eq c l (i + 1)
    show bif' (Nat.beq b.toNat c) (.ofNat i) (findByte c l (Nat.succ i)) = _
    rw [List.length_cons, Lib.find_range_succ]
    have h0 : (((b :: l)[0]?.getD 0).toNat == c) = Nat.beq b.toNat c := by
      rw [Bool.eq_iff_iff]
      constructor
      · intro h; rw [Nat.beq_eq]; simpa using h
      · intro h; rw [Nat.beq_eq] at h; simpa using h
    rw [h0]
    cases hb : Nat.beq b.toNat c with
    | true => rfl
    | false =>
      rw [bif'_false, ih]
      have he : (fun k => (((b :: l)[k + 1]?.getD 0).toNat == c)) = fun k => (l[k]?.getD 0).toNat == c := by funext k; simp
      simp only [Bool.false_eq_true, if_false, he]
      cases (List.range l.length).find? fun k => (l[k]?.getD 0).toNat == c with
      | none => rfl
      | some k =>
        show ((i + 1 + k : Nat) : Int) = ((i + (k + 1) : Nat) : Int)
        congr 1; omega
theorem digits_int : ∀ (n t : Nat) (acc : Array Value), (∀ v ∈ acc.toList, oneCell v = true) → ∀ v ∈ (Extern.BytealgMakeNoZero.digits n t acc).toList, oneCell v = true
  | 0, _, _, h => h
  | n + 1, t, acc, h => by
    rw [Extern.BytealgMakeNoZero.digits]
    refine digits_int n _ _ fun v hv => ?_
    rw [Array.toList_push] at hv
    rcases List.mem_append.1 hv with hv | hv
    · exact h v hv
    · simp only [List.mem_singleton] at hv; subst hv; rfl
theorem junk_rels : ∀ (l : List Value), (∀ v ∈ l, oneCell v = true) → VRels ρ (List.replicate l.length (Value.complex .f32 0 0)) l
  | [], _ => .nil
  | v :: l, h => .cons (.junk _ _ _ (h v (by simp)) (fun e => by cases e)) (junk_rels l fun u hu => h u (by simp [hu]))
theorem find_congr {α : Type} {p q : α → Bool} : ∀ {l : List α}, (∀ x ∈ l, p x = q x) → l.find? p = l.find? q
  | [], _ => rfl
  | x :: l, h => by
    rw [List.find?_cons, List.find?_cons, h x (by simp), find_congr fun y hy => h y (by simp [hy])]
theorem flat_single {α : Type} (x : α) : ∀ n : Nat, (List.replicate n [x]).flatten = List.replicate n x
  | 0 => rfl
  | n + 1 => by rw [List.replicate_succ, List.flatten_cons, List.replicate_succ, flat_single x n]; rfl
theorem run_mnz (ps : Array TypeId) (t e : TypeId) (ht : P.underlying t = some (.slice e)) (n : Nat) (hn : n ≤ 281474976710656) (w : World) :
    ∃ cs : Array Value, (Extern.BytealgMakeNoZero.makeNoZero ps #[t] #[.int .i64 n]).run P w = .ok (.slice (some ⟨w.heap.size, 0, none⟩) n cs.size) (w.drew.drew.alloc (.cells cs e)) ∧ n ≤ cs.size ∧ ∀ v ∈ cs.toList, oneCell v = true := by
  obtain ⟨q, bad1, bad2, hdef, hq⟩ : ∃ (q : Question) (bad1 : Sem Value) (bad2 : Sem Unit), Extern.BytealgMakeNoZero.makeNoZero ps #[t] #[.int .i64 n] =
      (do
        let .slice elem ← underlying t | bad1
        if (n : Int) < 0 || (n : Int) > 2 ^ 48 then bad2
        let cap ← choose (.appendCap (n : Int).toNat 0 elem)
        askRoom cap
        let bytes ← choose q
        let a ← newRow elem (Extern.BytealgMakeNoZero.digits cap bytes #[])
        pure (.slice (some a) (n : Int).toNat cap)) ∧ q.forced = false := ⟨_, _, _, rfl, rfl⟩
  refine ⟨Extern.BytealgMakeNoZero.digits (grownCap w n 0 e) (q.cut (w.tape (w.drawn + 1) q)) #[], ?_, ?_, digits_int _ _ _ (by simp)⟩
  · rw [hdef]
    have h1 : ¬ (n : Int) < 0 := by omega
    have h2 : ¬ (281474976710656 : Int) < (n : Int) := by omega
    have h3 : ∀ a b, (Question.appendCap a 0 b).forced = false := fun _ _ => rfl
    simp [run_underlying ht, h1, h2, h3, hq, newRow, Lib.size_digits, grownCap]
  · rw [Lib.size_digits]
    simpa using grownCap_ge w n 0 e
theorem shape_lim {w : World} {b o t k : Nat} {u : Value} (hs : w.shape? b = some (t, k)) (hc : w.cell? ⟨b, o, none⟩ = some u) : k ≠ 0 := by
  unfold World.shape? at hs
  unfold World.cell? at hc
  cases hh : w.heap[b]? with
  | none => rw [hh] at hs; cases hs
  | some ob =>
    rw [hh] at hs hc
    cases ob <;> simp at hs hc
    obtain ⟨rfl, rfl⟩ := hs
    intro h0
    rw [Array.getElem?_eq_none (by omega)] at hc
    cases hc
theorem ext_ok (hP : Plainly P) {f : Nat} {e : Ext} (hf : ExtFits P f e) : FFOk P f (fun _ args s => outO (extA s e args)) := by
  intro ev hev args s v s' h ρ w args' hR ha
  have h : outO (extA s e args) = .val v s' := h
  have hx : extA s e args = some (v, s') := by
    cases hx : extA s e args with
    | none => rw [hx] at h; cases h
    | some p => rw [hx] at h; cases h; rfl
  clear h
  unfold CallRun
  unfold extA at hx
  split at hx
  · rename_i x
    cases hx
    obtain ⟨fn, h1, h2, h3, h4⟩ := hf
    obtain ⟨x', rfl, hv⟩ := VRels.onev ha
    rw [sem_val (m := pure x') (w' := w) (u := x') hP h1 h2 h3 h4 rfl rfl]
    exact ⟨ρ, hv, hR, .refl _ _ _⟩
  · rename_i a b
    cases hx
    obtain ⟨fn, h1, h2, h3, h4⟩ := hf
    obtain ⟨a', b', rfl, hva, hvb⟩ := VRels.two ha
    cases hva; cases hvb
    rw [sem_val (m := Extern.BytealgCompare.compare #[.string a, .string b]) (w' := w) hP h1 h2 h3 h4 rfl (Lib.run_compareString ..)]
    refine ⟨ρ, ?_, hR, .refl _ _ _⟩
    rw [compare_eq, bLt_eq, bEq_eq, bif'_eq, bif'_eq]
    have : (if Op.bytesLess a.data.toList b.data.toList = true then Int.negSucc 0 else if (a.data.toList == b.data.toList) = true then Int.ofNat 0 else Int.ofNat 1) = (if Op.bytesLess a.data.toList b.data.toList = true then (-1 : Int) else if (a.data.toList == b.data.toList) = true then 0 else 1) := rfl
    rw [this]
    exact .int _ _
  · rename_i et n
    obtain ⟨hn, hx⟩ := bif'_some hx
    obtain ⟨els, hels, hx⟩ := ob_some hx
    have hn : n ≤ 1000000 := Nat.le_of_ble_eq_true hn
    have hels := repl_eq _ _ _ hels
    subst hels
    obtain ⟨fn, ps, t, h1, h2, h3, h4, h5⟩ := hf
    obtain ⟨x', rfl, hv⟩ := VRels.onev ha
    cases hv
    obtain ⟨cs, hrun, hle, hone⟩ := run_mnz ps t et h5 n (by omega) w
    have hsv := sem_val (args := #[.int .i64 (.ofNat n)]) hP h1 h2 h3 h4 rfl hrun
    rw [hsv]
    have hcl : cs.toList.length = cs.size := by simp
    have hcs : cs = (cs.toList.take n ++ cs.toList.drop n).toArray := by apply Array.ext'; simp
    have hflat : (List.replicate n [Value.complex .f32 0 0]).flatten = List.replicate (cs.toList.take n).length (Value.complex .f32 0 0) := by
      have : (cs.toList.take n).length = n := by rw [List.length_take]; omega
      rw [this]
      exact flat_single _ n
    obtain ⟨ρ', hv, hR', hS'⟩ := rowLB_sound (w' := w.drew.drew.alloc (.cells cs et)) (cs := cs.toList.take n) (rest := cs.toList.drop n) (lo := 0) (hi := 0) (cap := cs.size) hR hx (by
      rw [hflat]; exact junk_rels _ fun v hv => hone v (List.mem_of_mem_take hv)) hle (by rw [List.length_take, List.length_drop]; omega) (fun o h1 h2 => by omega) (by rw [← hcs]; rfl) rfl rfl rfl
    exact ⟨ρ', hv, hR', hS'⟩
  · rename_i et a oa n ca b o m cb
    obtain ⟨hne, hx⟩ := bif'_some' hx
    obtain ⟨hap, hx⟩ := bif'_some hx
    cases hx
    have hab : a ≠ b := fun e => by rw [e, Nat.beq_refl] at hne; cases hne
    obtain ⟨fn, tS, tR, h1, h2, h3, h4, h5, h6, h7⟩ := hf
    obtain ⟨a', b', rfl, hva, hvb⟩ := VRels.two ha
    have hnm : 1 ≤ n ∧ 1 ≤ m := by
      rw [bif'_eq] at hne
      split at hne
      · cases hne
      · rw [bif'_eq] at hne
        split at hne
        · cases hne
        · rename_i h0
          have g0 : n ≠ 0 := fun e => h0 (by rw [e]; rfl)
          have g1 : m ≠ 0 := fun e => by rw [e] at hne; cases hne
          omega
    unfold apartA at hap
    split at hap
    · rename_i cA szA nA eA c sz nB eB hga hgb
      obtain ⟨q1, hap⟩ := bif_tt hap
      obtain ⟨q2, q3⟩ := bif_tt hap
      replace q1 := Nat.eq_of_beq_eq_true q1
      replace q2 := Nat.eq_of_beq_eq_true q2
      subst q1; subst q2
      cases hva with
      | @slice _ x _ _ _ capa ada hxa p1 p2 p3 p4 p5 =>
      cases hvb with
      | @slice _ y _ _ _ capb adb hyb r1 r2 r3 r4 r5 =>
      have hada : ada = ⟨x.b, x.base + oa, none⟩ := by rcases p4 with e | e; exact e; omega
      have hadb : adb = ⟨y.b, y.base + o, none⟩ := by rcases r4 with e | e; exact e; omega
      subst hada; subst hadb
      have hCa : CellsAt P ρ x w cA szA nA false eA := (hR.blk a _ x hga hxa).2
      have hCb : CellsAt P ρ y w c 1 nB false eB := (hR.blk b _ y hgb hyb).2
      have hbb : x.b ≠ y.b := fun e => by have := (hR.excl a b _ _ x y hab hga hgb hxa hyb e).1; cases this
      have hfz : ∀ o, w.frozen? ⟨x.b, o, none⟩ = false := fun o => by
        cases hf : w.frozen? ⟨x.b, o, none⟩ with
        | false => rfl
        | true => have := (hCa.free rfl o hf).2; rw [h6] at this; cases this
      have hk : y.lim ≠ 0 := by
        unfold firstCell at q3
        cases hg : c.get o with
        | none => rw [hg] at q3; cases q3
        | some l =>
          cases l with
          | nil => rw [hg] at q3; cases q3
          | cons v l =>
            obtain ⟨_, _, hc⟩ := hCb.cell o _ hg
            obtain ⟨u, hu, _⟩ := hc 0 v rfl
            exact shape_lim hCb.shape hu
      have hrun := Lib.run_overlaps_apart (P := P) w tS tR eA h5 1 h7 ⟨x.b, x.base + oa, none⟩ ⟨y.b, y.base + o, none⟩ n capa m capb hbb eA eB x.lim y.lim hCa.shape hCb.shape hk (hfz _) (hfz _)
      rw [sem_val (w' := w) (u := .bool false) hP h1 h2 h3 h4 rfl hrun]
      exact ⟨ρ, .bool _, hR, .refl _ _ _⟩
    · cases hap
  · rename_i a c
    obtain ⟨n, hn, hx⟩ := ob_some hx
    obtain ⟨hlt, hx⟩ := bif'_some hx
    obtain ⟨u, hu, hx⟩ := ob_some hx
    cases hx
    obtain ⟨fn, h1, h2, h3, h4⟩ := hf
    obtain ⟨a', b', rfl, hva, hvb⟩ := VRels.two ha
    cases hva; cases hvb
    have hlt : n < 256 := Nat.le_of_ble_eq_true hlt
    have hc : c = (n : Int) := by cases c with | ofNat m => cases hn; rfl | negSucc m => cases hn
    subst hc
    rw [sem_val (m := Extern.BytealgIndexByte.indexByte #[.string a, .int .u8 n]) hP h1 h2 h3 h4 rfl (run_indexByte_string a n w)]
    refine ⟨ρ, ?_, hR, .refl _ _ _⟩
    have hfi : firstIdx a (n : Int).toNat.toUInt8 = findByte n a.data.toList 0 := by
      rw [findByte_eq]
      unfold firstIdx
      have hsz : a.size = a.data.toList.length := by rw [Array.length_toList]; rfl
      have hp : ∀ i, i < a.size → (a[i]! == (n : Int).toNat.toUInt8) = ((a.data.toList[i]?.getD 0).toNat == n) := fun i hi => by
        have hg : a[i]! = a.data.toList[i]?.getD 0 := by
          have h' : i < a.data.size := hi
          have e1 : a[i]! = a[i] := getElem!_pos a i hi
          rw [e1, Array.getElem?_toList, Array.getElem?_eq_getElem h']
          rfl
        rw [hg, Int.toNat_natCast, Bool.eq_iff_iff]
        simp only [beq_iff_eq]
        constructor
        · intro h; rw [h]; simp; omega
        · intro h
          apply UInt8.toNat_inj.1
          rw [h]; simp; omega
      rw [← hsz]
      have : (List.range a.size).find? (fun i => a[i]! == (n : Int).toNat.toUInt8) = (List.range a.size).find? fun k => (a.data.toList[k]?.getD 0).toNat == n := by
        exact find_congr fun x hx => hp x (List.mem_range.1 hx)
      rw [this]
      cases (List.range a.size).find? fun k => (a.data.toList[k]?.getD 0).toNat == n with
      | none => rfl
      | some k => simp
    rw [fInt_eq] at hu
    cases hu
    rw [hfi]
    exact .int _ _
  · cases hx
end Go.Eng
/-! Calls whose answer is known. -/
namespace Go.Eng
open Go
variable {P : Program} {ρ : Ren}
theorem subH_get : ∀ {a b : T Blk}, subH a b = true → ∀ j k, a.get j = some k → b.get j = some k
  | .e, _, _, j, k, h => by rw [T.get_e] at h; cases h
  | .n v l r, .e, hs, j, k, h => by
    have hs : bif' (Option.rec (motive := fun _ => Bool) true (fun _ => false) v) (bif' (subH l .e) (subH r .e) false) false = true := hs
    obtain ⟨h0, hs⟩ := bif_tt hs
    obtain ⟨h1, h2⟩ := bif_tt hs
    rcases nat_cases3 j with rfl | ⟨m, rfl⟩ | ⟨m, rfl⟩
    · rw [T.get_n0] at h; subst h; cases h0
    · rw [T.get_odd] at h; have := subH_get h1 m k h; rw [T.get_e] at this; cases this
    · rw [T.get_even] at h; have := subH_get h2 m k h; rw [T.get_e] at this; cases this
  | .n v l r, .n v' l' r', hs, j, k, h => by
    have hs : bif' (Option.rec (motive := fun _ => Bool) true (fun k => Option.rec (motive := fun _ => Bool) false (fun k' => blkEq k k') v') v) (bif' (subH l l') (subH r r') false) false = true := hs
    obtain ⟨h0, hs⟩ := bif_tt hs
    obtain ⟨h1, h2⟩ := bif_tt hs
    rcases nat_cases3 j with rfl | ⟨m, rfl⟩ | ⟨m, rfl⟩
    · rw [T.get_n0] at h ⊢
      subst h
      cases v' with
      | none => cases h0
      | some k' => rw [blkEq_sound h0]
    · rw [T.get_odd] at h ⊢; exact subH_get h1 m k h
    · rw [T.get_even] at h ⊢; exact subH_get h2 m k h
theorem noRo_get : ∀ {a : T Blk}, noRo a = true → ∀ j k, a.get j = some k → isRo k = false
  | .e, _, j, k, h => by rw [T.get_e] at h; cases h
  | .n v l r, hs, j, k, h => by
    have hs : bif' (Option.rec (motive := fun _ => Bool) true (fun k => match k with | .cells _ _ _ ro _ => bNot ro | .map .. => true | _ => false) v) (bif' (noRo l) (noRo r) false) false = true := hs
    obtain ⟨h0, hs⟩ := bif_tt hs
    obtain ⟨h1, h2⟩ := bif_tt hs
    rcases nat_cases3 j with rfl | ⟨m, rfl⟩ | ⟨m, rfl⟩
    · rw [T.get_n0] at h; subst h
      cases k with
      | cells c sz n ro et => cases ro with | false => rfl | true => cases h0
      | map => rfl
      | strIter => cases h0
      | mapIter => cases h0
      | loop => cases h0
    · rw [T.get_odd] at h; exact noRo_get h1 m k h
    · rw [T.get_even] at h; exact noRo_get h2 m k h
theorem delH_get : ∀ (a h : T Blk) (j : Nat), (delH a h).get j = match a.get j with | some _ => none | none => h.get j
  | .e, h, j => by rw [T.get_e]; rfl
  | .n v l r, .e, j => by
    show (T.e : T Blk).get j = _
    rw [T.get_e]
    split <;> first | rfl | rw [T.get_e]
  | .n v l r, .n v' l' r', j => by
    show (T.n (Option.rec (motive := fun _ => Option Blk) v' (fun _ => none) v) (delH l l') (delH r r')).get j = _
    rcases nat_cases3 j with rfl | ⟨m, rfl⟩ | ⟨m, rfl⟩
    · rw [T.get_n0, T.get_n0, T.get_n0]; cases v <;> rfl
    · rw [T.get_odd, T.get_odd, T.get_odd]; exact delH_get l l' m
    · rw [T.get_even, T.get_even, T.get_even]; exact delH_get r r' m
theorem putH_get : ∀ (a h : T Blk) (j : Nat), (putH a h).get j = match a.get j with | some k => some k | none => h.get j
  | .e, h, j => by rw [T.get_e]; rfl
  | .n v l r, .e, j => by
    show (T.n v (putH l .e) (putH r .e)).get j = _
    rw [T.get_e]
    rcases nat_cases3 j with rfl | ⟨m, rfl⟩ | ⟨m, rfl⟩
    · rw [T.get_n0, T.get_n0]; cases v <;> rfl
    · rw [T.get_odd, T.get_odd, putH_get l .e m, T.get_e]
    · rw [T.get_even, T.get_even, putH_get r .e m, T.get_e]
  | .n v l r, .n v' l' r', j => by
    show (T.n (Option.rec (motive := fun _ => Option Blk) v' (fun k => some k) v) (putH l l') (putH r r')).get j = _
    rcases nat_cases3 j with rfl | ⟨m, rfl⟩ | ⟨m, rfl⟩
    · rw [T.get_n0, T.get_n0, T.get_n0]; cases v <;> rfl
    · rw [T.get_odd, T.get_odd, T.get_odd]; exact putH_get l l' m
    · rw [T.get_even, T.get_even, T.get_even]; exact putH_get r r' m
theorem fullT_get : ∀ (d j : Nat), (fullT d).get j = none
  | 0, j => T.get_e j
  | d + 1, j => by
    show (T.n none (fullT d) (fullT d)).get j = none
    rcases nat_cases3 j with rfl | ⟨m, rfl⟩ | ⟨m, rfl⟩
    · rw [T.get_n0]
    · rw [T.get_odd]; exact fullT_get d m
    · rw [T.get_even]; exact fullT_get d m
theorem roomH_get (a : T Blk) (j : Nat) : (roomH a).get j = a.get j := by
  unfold roomH
  rw [putH_get, fullT_get]
  cases a.get j <;> rfl
/-- fewer blocks. -/
theorem Rel.less {s : AS} {w : World} {h : T Blk} {lm : Nat} (hr : Rel P ρ s w) (hs : ∀ j k, h.get j = some k → s.h.get j = some k) (hl : lm ≤ s.nx) : Rel P ρ ⟨h, s.nx, lm⟩ w :=
  ⟨hr.dom, fun a ha => (by
    cases e : h.get a with
    | none => rfl
    | some k => have := hs a k e; rw [hr.top a ha] at this; cases this),
   fun a k x e e' => hr.blk a k x (hs a k e) e', hl, fun a a' k k' x x' hne e1 e2 r1 r2 hb => hr.excl a a' k k' x x' hne (hs _ _ e1) (hs _ _ e2) r1 r2 hb, hr.gl.of (Nat.le_refl _) fun b _ hn => ⟨rfl, fun ⟨j, k, y, e1, e2, e3⟩ => hn ⟨j, k, y, hs _ _ e1, e2, e3⟩⟩⟩
theorem Stp.less {ρ' : Ren} {s s' : AS} {w w' : World} {h : T Blk} (hS : Stp ρ s w ρ' s' w') (hs : ∀ j k, h.get j = some k → s'.h.get j = some k) (h0 : s.lim = 0) : Stp ρ s w ρ' ⟨h, s'.nx, s'.lim⟩ w' :=
  ⟨hS.ren, hS.nx, hS.tape, hS.os, hS.out, hS.size, fun b hb hn => ⟨(hS.frame b hb hn).1, fun ⟨j, k, x, e1, e2, e3⟩ => (hS.frame b hb hn).2 ⟨j, k, x, hs j k e1, e2, e3⟩⟩,
   fun a ha hn => (by
    show h.get a = s.h.get a ∨ h.get a = none
    cases e : h.get a with
    | none => exact .inr rfl
    | some k =>
      rcases hS.ph a ha hn with h1 | h1
      · rw [hs a k e] at h1; exact .inl h1
      · rw [hs a k e] at h1; cases h1),
   hS.lp, hS.lim, fun a ha => (by rw [h0] at ha; omega), fun a k x ha => (by rw [h0] at ha; omega)⟩
theorem Held.room {h : T Blk} {nx lm b : Nat} : Held ρ ⟨roomH h, nx, lm⟩ b ↔ Held ρ ⟨h, nx, lm⟩ b := by
  unfold Held
  simp only [roomH_get]
theorem Rel.room {w : World} {h : T Blk} {nx lm : Nat} (hr : Rel P ρ ⟨h, nx, lm⟩ w) : Rel P ρ ⟨roomH h, nx, lm⟩ w :=
  ⟨hr.dom, fun a ha => (roomH_get h a).trans (hr.top a ha), fun a k x e e' => hr.blk a k x ((roomH_get h a).symm.trans e) e', hr.lim,
   fun a a' k k' x x' hne e1 e2 r1 r2 hb => hr.excl a a' k k' x x' hne ((roomH_get h a).symm.trans e1) ((roomH_get h a').symm.trans e2) r1 r2 hb,
   fun g gl vs g1 g2 => (let ⟨a, b, c⟩ := hr.gl g gl vs g1 g2; ⟨a, fun hh => b (Held.room.1 hh), c⟩)⟩
theorem Stp.room {ρ' : Ren} {s' : AS} {w w' : World} {h : T Blk} {nx lm : Nat} (hS : Stp ρ ⟨roomH h, nx, lm⟩ w ρ' s' w') : Stp ρ ⟨h, nx, lm⟩ w ρ' s' w' :=
  ⟨hS.ren, hS.nx, hS.tape, hS.os, hS.out, hS.size, fun b hb hn => hS.frame b hb (fun hh => hn (Held.room.1 hh)),
   fun a ha hn => (hS.ph a ha hn).imp (fun e => e.trans (roomH_get h a)) id, hS.lp, hS.lim, fun a ha => (hS.low a ha).trans (roomH_get h a),
   fun a k x ha hn hk => hS.lowW a k x ha hn ((roomH_get h a).trans hk)⟩
/-- an entry can be trusted. -/
def EntryOk (P : Program) (e : Entry) : Prop := ∀ ρ w args', Rel P ρ ⟨e.hin, e.nx, 0⟩ w → VRels ρ e.args args' →
  CallRun P (callFunc e.f args'.toArray) w fun u w' => ∃ ρ', VRel ρ' e.v u ∧ Rel P ρ' ⟨e.hout, e.nxo, 0⟩ w' ∧ Stp ρ ⟨e.hin, e.nx, 0⟩ w ρ' ⟨e.hout, e.nxo, 0⟩ w'
theorem CallRun.mono {m : Sem Next} {w : World} {R R' : Value → World → Prop} (h : CallRun P m w R) (hr : ∀ u w', R u w' → R' u w') : CallRun P m w R' := by
  unfold CallRun at h ⊢
  split at h
  · exact hr _ _ h
  · exact CallsIn.mono h fun e w'' ⟨u, he, hR⟩ => ⟨u, he, hr _ _ hR⟩
  · exact RoundIn.mono h fun e w'' ⟨u, he, hR⟩ => ⟨u, he, hr _ _ hR⟩
  · exact h.elim
theorem tabGet {a b h : T Blk} {j : Nat} : (putH a (delH b h)).get j = match a.get j with | some k => some k | none => (match b.get j with | some _ => none | none => h.get j) := by
  rw [putH_get, delH_get]
theorem hcases {a b h : T Blk} {j : Nat} {k : Blk} (hk : (putH a (delH b h)).get j = some k) : a.get j = some k ∨ (a.get j = none ∧ b.get j = none ∧ h.get j = some k) := by
  rw [tabGet] at hk
  cases h1 : a.get j with
  | some k' => rw [h1] at hk; exact .inl hk
  | none =>
    rw [h1] at hk
    cases h2 : b.get j with
    | some _ => rw [h2] at hk; cases hk
    | none => rw [h2] at hk; exact .inr ⟨rfl, rfl, hk⟩
theorem hheld {s : AS} {w : World} {hin : T Blk} {nx : Nat} (hR : Rel P ρ s w) (hsub : ∀ j k, hin.get j = some k → s.h.get j = some k) (hro : ∀ j k, hin.get j = some k → isRo k = false) {j : Nat} {k : Blk} {x : Loc} (hn : hin.get j = none) (hk : s.h.get j = some k) (hx : ρ j = some x) : ¬ Held ρ ⟨hin, nx, 0⟩ x.b := by
  rintro ⟨j2, k2, x2, e1, e2, e3⟩
  have hne : j2 ≠ j := fun he => by rw [he] at e1; have e1 : hin.get j = some k2 := e1; rw [hn] at e1; cases e1
  have := (hR.excl j2 j k2 k x2 x hne (hsub _ _ e1) hk e2 hx e3).1
  rw [hro _ _ e1] at this; cases this
theorem entry_hit {e : Entry} (he : EntryOk P e) {args args' : List Value} {s s' : AS} {v : Value} {w : World} (hh : entryHit e args s = true) (ho : entryOut e s = .val v s') (hR : Rel P ρ s w) (ha : VRels ρ args args') :
    CallRun P (callFunc e.f args'.toArray) w fun u w' => ∃ ρ', VRel ρ' v u ∧ Rel P ρ' s' w' ∧ Stp ρ s w ρ' s' w' := by
  obtain ⟨h1, hh⟩ := bif_tt hh
  obtain ⟨h2, hh⟩ := bif_tt hh
  obtain ⟨h3, hh⟩ := bif_tt hh
  obtain ⟨h4, h5⟩ := bif_tt hh
  have hnx := Nat.eq_of_beq_eq_true h1
  have hlim := Nat.eq_of_beq_eq_true h2
  have hargs := vEqs12 h3
  have hro := noRo_get h4
  have hsub := subH_get h5
  cases ho
  subst hargs
  have hRi : Rel P ρ ⟨e.hin, e.nx, 0⟩ w := by
    have := hR.less hsub (Nat.zero_le s.nx)
    rw [hnx]; exact this
  refine (he ρ w args' hRi ha).mono fun u w' ⟨ρ', hv, hR', hS'⟩ => ⟨ρ', hv, ?_, ?_⟩
  all_goals have hcase : ∀ {j k}, (putH e.hout (delH e.hin s.h)).get j = some k → e.hout.get j = some k ∨ (e.hout.get j = none ∧ e.hin.get j = none ∧ s.h.get j = some k) := fun {j k} h => hcases h
  all_goals have hlt : ∀ {j k}, s.h.get j = some k → j < s.nx := fun {j k} h => Nat.lt_of_not_le fun hle => by rw [hR.top j hle] at h; cases h
  all_goals have hren : ∀ {j k}, s.h.get j = some k → ρ' j = ρ j := fun {j k} h => hS'.ren j (by show j < e.nx; rw [hnx]; exact hlt h)
  all_goals have hout : ∀ {j k x}, e.hin.get j = none → s.h.get j = some k → ρ j = some x → ¬ Held ρ ⟨e.hin, e.nx, 0⟩ x.b := fun {j k x} hn hk hx => hheld hR hsub hro hn hk hx
  · refine ⟨hR'.dom, fun a ha => ?_, fun a k x h hx => ?_, Nat.zero_le _, fun a a' k k' x x' hne g1 g2 r1 r2 hb => ?_, fun g gl vs g1 g2 => ?_⟩
    rotate_right
    · obtain ⟨a, b, c⟩ := hR'.gl g gl vs g1 g2
      obtain ⟨_, b0, _⟩ := hR.gl g gl vs g1 g2
      refine ⟨a, ?_, c⟩
      rintro ⟨j, k, x, h, hx, hb⟩
      rcases hcase h with h | ⟨_, _, h⟩
      · exact b ⟨j, k, x, h, hx, hb⟩
      · rw [hren h] at hx; exact b0 ⟨j, k, x, h, hx, hb⟩
    · cases h : (putH e.hout (delH e.hin s.h)).get a with
      | none => rfl
      | some k =>
        exfalso
        have ha : e.nxo ≤ a := ha
        rcases hcase h with h | ⟨_, _, h⟩
        · have := hR'.top a ha; have this : e.hout.get a = none := this; rw [h] at this; cases this
        · have h6 := hlt h
          have h7 : e.nx ≤ e.nxo := hS'.nx
          omega
    · rcases hcase h with h | ⟨_, hn, h⟩
      · exact hR'.blk a k x h hx
      · rw [hren h] at hx
        obtain ⟨b1, b2⟩ := hR.blk a k x h hx
        have hle : RenLe ρ ρ' := hS'.le hRi
        exact ⟨Nat.lt_of_lt_of_le b1 hS'.size, (b2.congr (hS'.frame _ b1 (hout hn h hx)).1).mono hle⟩
    · rcases hcase g1 with g1 | ⟨_, n1, g1⟩
      · rcases hcase g2 with g2 | ⟨_, n2, g2⟩
        · exact hR'.excl a a' k k' x x' hne g1 g2 r1 r2 hb
        · rw [hren g2] at r2
          have := (hS'.frame _ (hR.blk a' k' x' g2 r2).1 (hout n2 g2 r2)).2
          exact (this ⟨a, k, x, g1, r1, hb⟩).elim
      · rw [hren g1] at r1
        rcases hcase g2 with g2 | ⟨_, n2, g2⟩
        · have := (hS'.frame _ (hR.blk a k x g1 r1).1 (hout n1 g1 r1)).2
          exact (this ⟨a', k', x', g2, r2, hb.symm⟩).elim
        · rw [hren g2] at r2
          exact hR.excl a a' k k' x x' hne g1 g2 r1 r2 hb
  · refine ⟨fun a ha => hS'.ren a (by show a < e.nx; rw [hnx]; exact ha), by rw [← hnx]; exact hS'.nx, hS'.tape, hS'.os, hS'.out, hS'.size, fun b hb hn => ?_, fun a ha hn => ?_, hS'.lp, hlim.symm, fun a ha => by rw [hlim] at ha; omega, fun a k x ha => by rw [hlim] at ha; omega⟩
    · have hni : ¬ Held ρ ⟨e.hin, e.nx, 0⟩ b := by
        rintro ⟨j, k, x, e1, e2, e3⟩
        exact hn ⟨j, k, x, hsub _ _ e1, e2, e3⟩
      obtain ⟨f1, f2⟩ := hS'.frame b hb hni
      refine ⟨f1, ?_⟩
      rintro ⟨j, k, x, e1, e2, e3⟩
      rcases hcase e1 with h | ⟨_, _, h⟩
      · exact f2 ⟨j, k, x, h, e2, e3⟩
      · rw [hren h] at e2
        exact hn ⟨j, k, x, h, e2, e3⟩
    · show (putH e.hout (delH e.hin s.h)).get a = s.h.get a ∨ (putH e.hout (delH e.hin s.h)).get a = none
      have hph : e.hout.get a = e.hin.get a ∨ e.hout.get a = none := hS'.ph a (by show a < e.nx; rw [hnx]; exact ha) hn
      rw [tabGet]
      cases h1 : e.hout.get a with
      | some k =>
        rcases hph with h | h
        · rw [h1] at h
          exact .inl (hsub a k h.symm).symm
        · rw [h1] at h; cases h
      | none =>
        cases h2 : e.hin.get a with
        | some _ => exact .inr rfl
        | none => exact .inl rfl
theorem tabFF_ok {f : Nat} {F : FF} (hF : FFOk P f F) : ∀ es : List Entry, (∀ e ∈ es, e.f = f ∧ EntryOk P e) → FFOk P f (tabFF es F)
  | [], _ => hF
  | e :: es, h => by
    intro ev hev args s v s' hr ρ w args' hR ha
    have hr : bif' (entryHit e args s) (entryOut e s) (tabFF es F ev args s) = .val v s' := hr
    cases hh : entryHit e args s with
    | true =>
      rw [hh] at hr
      obtain ⟨hf, he⟩ := h e (by simp)
      rw [← hf]
      exact entry_hit he hh hr hR ha
    | false =>
      rw [hh] at hr
      exact tabFF_ok hF es (fun e' he' => h e' (by simp [he'])) ev hev args s v s' hr ρ w args' hR ha
theorem tabFor_mem {f : Nat} : ∀ {l : List Entry} {e : Entry}, e ∈ tabFor f l → e ∈ l ∧ e.f = f
  | [], e, h => by cases h
  | x :: l, e, h => by
    have h : e ∈ bif' (Nat.beq x.f f) (x :: tabFor f l) (tabFor f l) := h
    rw [bif'_eq] at h
    split at h
    · rename_i hb
      rcases List.mem_cons.1 h with rfl | h
      · exact ⟨by simp, Nat.eq_of_beq_eq_true hb⟩
      · have := tabFor_mem h; exact ⟨by simp [this.1], this.2⟩
    · have := tabFor_mem h; exact ⟨by simp [this.1], this.2⟩
end Go.Eng
/-! The evaluator can be trusted. -/
namespace Go.Eng
open Go
variable {P : Program}
/-- what the evaluator takes of a program. -/
structure CfgOk (P : Program) (X : Cfg) : Prop where
  plain : Plainly P
  mixed : P.follows .mixedOrders = true
  ext : ∀ f e, lookupE f X.ext = some e → ExtFits P f e
  tab : ∀ e ∈ X.tab, EntryOk P e
  sum : ∀ f e, lookupS f X.sum = some e → FFOk P f (sumFF e)
theorem fn_call {X : Cfg} (hX : CfgOk P X) {f : Nat} {F : FF} (h : mkFn P X f = some F) : FFOk P f F := by
  unfold mkFn at h
  split at h
  · rename_i e he
    cases h
    exact hX.sum f e he
  · split at h
    · rename_i fn hfn
      split at h
      · rename_i body hb
        obtain ⟨t0, ht0, h⟩ := ob_some h
        obtain ⟨b, hbc, h⟩ := ob_some h
        cases h
        refine tabFF_ok ?_ _ fun e he => ⟨(tabFor_mem he).2, hX.tab e (tabFor_mem he).1⟩
        intro ev hev args s v s' hr ρ w args' hR ha
        unfold CallRun
        rw [callFunc_body hX.plain hfn hb]
        exact fn_ok hX.plain hX.mixed hfn hb ht0 hbc hev hr hR ha
      · rename_i hb
        obtain ⟨e, he, h⟩ := ob_some h
        cases h
        exact ext_ok hX.plain (hX.ext f e he)
    · cases h
theorem step_ok {X : Cfg} (hX : CfgOk P X) {ev : Ev} (hev : EvOk P ev) : EvOk P (step P X ev) := by
  intro f args s v s' h ρ w f' args' hR hf ha
  unfold step at h
  split at h
  · rename_i fi first cap
    cases hf with | @func _ _ _ fa fb h1 h2 => ?_
    have h : Option.rec (motive := fun _ => Out) .no (fun F => F ev (app first.toList (app args cap.toList)) s) (mkFn P X fi) = .val v s' := h
    cases hF : mkFn P X fi with
    | none => rw [hF] at h; cases h
    | some F =>
      rw [hF] at h
      have ha' : VRels ρ (app first.toList (app args cap.toList)) (fa.toList ++ (args' ++ fb.toList)) := by
        rw [app_eq, app_eq]
        exact h1.append (ha.append h2)
      have := fn_call hX hF ev hev _ s v s' h ρ w _ hR ha'
      have he : callOf (.func (.func fi) fa fb) args' = callFunc fi (fa.toList ++ (args' ++ fb.toList)).toArray := by
        unfold callOf
        simp only [Deferred.ofValue, pure_bind, invoke]
        congr 1
        apply Array.ext'
        simp
      rw [he]
      exact this
  · rename_i l first cap
    cases hf with | @yield _ x _ _ fa fb hx h1 h2 => ?_
    have ha' : VRels ρ (app first.toList args) (fa.toList ++ args') := by
      rw [app_eq]; exact h1.append ha
    have := yield_ok hX.plain hX.mixed hev h hR hx ha'
    have he : callOf (.func (.yield x.b) fa fb) args' = Instr.yield x.b (fa.toList ++ args').toArray := by
      unfold callOf
      simp only [Deferred.ofValue, pure_bind, invoke]
      congr 1
      apply Array.ext'
      simp
    rw [he]
    exact this
  · cases h
/-- THE EVALUATOR CAN BE TRUSTED. -/
theorem eval_ok {X : Cfg} (hX : CfgOk P X) : ∀ n, EvOk P (eval P X n)
  | 0 => fun f args s v s' h => by cases h
  | n + 1 => step_ok hX (eval_ok hX n)
/-- an entry can be trusted, when the evaluator says it. -/
theorem entry_ok {X : Cfg} (hX : CfgOk P X) {n : Nat} {e : Entry} (h : outIs e (eval P X n (.func (.func e.f) #[] #[]) e.args ⟨roomH e.hin, e.nx, 0⟩) = true) : EntryOk P e := by
  intro ρ w args' hR ha
  cases ho : eval P X n (.func (.func e.f) #[] #[]) e.args ⟨roomH e.hin, e.nx, 0⟩ with
  | no => rw [ho] at h; cases h
  | code => rw [ho] at h; cases h
  | val v s =>
    rw [ho] at h
    obtain ⟨h1, h⟩ := bif_tt h
    obtain ⟨h2, h⟩ := bif_tt h
    obtain ⟨h3, h4⟩ := bif_tt h
    have hv := vEq_sound 12 _ _ h1
    have hnx := Nat.eq_of_beq_eq_true h2
    have hlim := Nat.eq_of_beq_eq_true h3
    have hsub := subH_get h4
    subst hv
    obtain ⟨sh, snx, slim⟩ := s
    cases hnx
    cases hlim
    have := eval_ok hX n _ _ _ _ _ ho ρ w (.func (.func e.f) #[] #[]) args' hR.room (.func e.f .nil .nil) ha
    have hc : callOf (.func (.func e.f) #[] #[]) args' = callFunc e.f args'.toArray := by
      unfold callOf
      simp only [Deferred.ofValue, pure_bind, invoke]
      congr 1
      apply Array.ext'
      simp
    rw [hc] at this
    refine this.mono fun u w' ⟨ρ', hv, hR', hS'⟩ => ⟨ρ', hv, hR'.less hsub (Nat.zero_le _), (hS'.less hsub rfl).room⟩
/-- the package variables whose tables are known lie in the world. -/
def GWorld (P : Program) (w : World) : Prop := ∀ g gl vs, P.globals[g]? = some gl → gTab P gl.name = some vs → g < w.heap.size ∧ ∀ (i : Nat) (v : Value), vs[i]? = some v → w.cell? ⟨g, i, none⟩ = some v
/-- a call that the evaluator answers, out of nothing: whatever the world; nothing that was there turns. -/
theorem eval_calls {X : Cfg} (hX : CfgOk P X) {n f : Nat} {fn : Func} {c : Code} {v : Value} {s' : AS} (hf : P.funcs[f]? = some fn) (hb : fn.body = some c) (h : eval P X n (.func (.func f) #[] #[]) [] ⟨roomH .e, 0, 0⟩ = .val v s') (w : World) (hG : GWorld P w) :
    Calls P f #[] w fun e w' => ∃ u ρ', e = .returned u ∧ VRel ρ' v u ∧ (∀ b, b < w.heap.size → w'.heap[b]? = w.heap[b]?) ∧ w.heap.size ≤ w'.heap.size ∧ w'.tape = w.tape ∧ w'.os = w.os ∧ w'.output = w.output := by
  have hR : Rel P (fun _ => none) ⟨roomH .e, 0, 0⟩ w := Rel.room ⟨fun _ _ => rfl, fun a _ => T.get_e a, fun a k x e => (by rw [T.get_e] at e; cases e), Nat.le_refl _, fun a a' k k' x x' _ e => (by rw [T.get_e] at e; cases e),
    fun g gl vs g1 g2 => ⟨(hG g gl vs g1 g2).1, fun ⟨a, k, x, e, _⟩ => (by rw [T.get_e] at e; cases e), (hG g gl vs g1 g2).2⟩⟩
  have := eval_ok hX n _ _ _ _ _ h _ w (.func (.func f) #[] #[]) [] hR (.func f .nil .nil) .nil
  unfold CallRun at this
  have hc : (callOf (.func (.func f) #[] #[]) []).run P w = .ok (.enter f #[]) w := by
    unfold callOf
    simp only [Deferred.ofValue, pure_bind, invoke]
    exact callFunc_body hX.plain hf hb _ w
  rw [hc] at this
  refine callsIn_wide.1 (CallsIn.mono this ?_)
  rintro e w' ⟨u, rfl, ρ', hv, hR', hS'⟩
  refine ⟨u, ρ', rfl, hv, fun b hb => (hS'.frame b hb ?_).1, hS'.size, hS'.tape, hS'.os, hS'.out⟩
  rintro ⟨a, k, x, e, _⟩
  have e : (roomH .e).get a = some k := e
  rw [roomH_get, T.get_e] at e; cases e
end Go.Eng
