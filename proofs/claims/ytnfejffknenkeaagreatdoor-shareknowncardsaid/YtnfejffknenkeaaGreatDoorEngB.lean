import Derived.Test.YtnfejffknenkeaaGreatDoorEngA
import Derived.Laws.Append
import Derived.Laws.NewFold
import Derived.Great.FillDense
import Derived.Laws.Tables
import Derived.Laws.BytesString
import Derived.Laws.IdiomStrings
import Derived.Lib.UnsafeStr
import Derived.Laws.StructEq
import Derived.ChangeKeysEq
set_option linter.unusedVariables false
set_option linter.unusedSimpArgs false
/- An evaluator of the code of the model, proved: what it answers, the program does, whatever the world. Part of the proof of ShareKnown. -/
/-! Cells are read and written; rows are made. -/
namespace Go.Eng
open Go
variable {P : Program} {ρ : Ren}
theorem rels_of {f : Nat → Option Value} : ∀ (l : List Value), (∀ (j : Nat) (v : Value), l[j]? = some v → ∃ u, f j = some u ∧ VRel ρ v u) → ∃ m, VRels ρ l m ∧ ∀ (j : Nat) (u : Value), m[j]? = some u → f j = some u := by
  intro l
  induction l generalizing f with
  | nil => intro _; exact ⟨[], .nil, fun j u h => by simp at h⟩
  | cons v l ih =>
    intro h
    obtain ⟨u, hu, hr⟩ := h 0 v rfl
    obtain ⟨m, hm, hg⟩ := ih (f := fun j => f (j + 1)) (fun j w hw => h (j + 1) w (by simpa using hw))
    refine ⟨u :: m, .cons hr hm, fun j x hx => ?_⟩
    cases j with
    | zero => cases hx; exact hu
    | succ j => exact hg j x (by simpa using hx)
theorem cellsOf?_some {β : Type} {b : Option Blk} {k : T (List Value) → Nat → Nat → Bool → TypeId → Option β} {v : β} (h : cellsOf? b k = some v) : ∃ c sz n ro et, b = some (.cells c sz n ro et) ∧ k c sz n ro et = some v := by
  cases b with
  | none => cases h
  | some b => cases b <;> first | (cases h; done) | exact ⟨_, _, _, _, _, rfl, h⟩
theorem mapOf_some {β : Type} {b : Option Blk} {k : TypeId → List (Value × Value × Nat) → Nat → Option β} {v : β} (h : mapOf b k = some v) : ∃ kt es ck, b = some (.map kt es ck) ∧ k kt es ck = some v := by
  cases b with
  | none => cases h
  | some b => cases b <;> first | (cases h; done) | exact ⟨_, _, _, rfl, h⟩
theorem orec_some {α β : Type} {o : Option α} {k : α → Option β} {v : β} (h : Option.rec (motive := fun _ => Option β) none k o = some v) : ∃ a, o = some a ∧ k a = some v := ob_some h
theorem loadN_sound {s : AS} {w : World} {a off k : Nat} {x : Loc} {l : List Value} (hr : Rel P ρ s w) (hx : ρ a = some x) (h : loadN s a off k = some l) :
    l.length = k ∧ ∃ m, VRels ρ l m ∧ ∀ (j : Nat) (u : Value), m[j]? = some u → w.cell? ⟨x.b, x.base + off + j, none⟩ = some u := by
  obtain ⟨c, sz, n, ro, et, hb, h⟩ := cellsOf?_some h
  obtain ⟨e, he, h⟩ := orec_some h
  obtain ⟨_, hC⟩ := hr.blk a _ x hb hx
  have hC : CellsAt P ρ x w c sz n ro et := hC
  obtain ⟨hi, hlen, hcell⟩ := hC.cell _ _ he
  have hdm : off / sz * sz + off % sz = off := by rw [Nat.mul_comm]; exact Nat.div_add_mod off sz
  have key : ∀ (l' : List Value) (j0 : Nat), (∀ j v, l'[j]? = some v → e[off % sz + j]? = some v) → ∃ m, VRels ρ l' m ∧ ∀ (j : Nat) (u : Value), m[j]? = some u → w.cell? ⟨x.b, x.base + off + j, none⟩ = some u := by
    intro l' _ hl'
    refine rels_of (f := fun j => w.cell? ⟨x.b, x.base + off + j, none⟩) l' (fun j v hv => ?_)
    obtain ⟨u, hu, hr'⟩ := hcell _ v (hl' j v hv)
    refine ⟨u, ?_, hr'⟩
    have e2 : x.base + (Nat.div off sz * sz + (off % sz + j)) = x.base + off + j := by
      have : Nat.div off sz = off / sz := rfl
      rw [this]; omega
    rw [e2] at hu
    exact hu
  rw [bif'_eq] at h
  split at h
  · rename_i hk
    have hk' := Nat.eq_of_beq_eq_true hk
    obtain ⟨h0, h⟩ := bif'_some h
    cases h
    have h0' : off % sz = 0 := Nat.eq_of_beq_eq_true h0
    exact ⟨by omega, key _ 0 (fun j v hv => by rw [h0', Nat.zero_add]; exact hv)⟩
  · obtain ⟨l1, h1, h⟩ := orec_some h
    obtain ⟨rfl, hd⟩ := dropO_eq _ _ _ h1
    obtain ⟨rfl, ht⟩ := takeO_eq _ _ _ h
    have e0 : Nat.mod off sz = off % sz := rfl
    rw [e0] at ht hd
    refine ⟨by simp at ht ⊢; rw [e0]; omega, key _ 0 (fun j v hv => ?_)⟩
    rw [e0] at hv
    rw [List.getElem?_take] at hv
    split at hv
    · rwa [List.getElem?_drop] at hv
    · cases hv
theorem globTab_rel {n : String} {vs : List Value} {i : Nat} {v : Value} (h : globTab n = some vs) (hv : vs[i]? = some v) : VRel ρ v v := by
  unfold globTab at h
  cases hb : (n == "internal/strconv.uint64pow10") with
  | false => rw [hb] at h; cases h
  | true =>
    rw [hb] at h; cases h
    obtain ⟨j, _, rfl⟩ := List.mem_map.1 (List.mem_of_getElem? hv)
    exact .int _ _
theorem loadG_sound {s : AS} {w : World} {t : TypeId} {a a' v : Value} (hr : Rel P ρ s w) (h : loadG P t a = some v) (ha : VRel ρ a a') : ∃ u, (Instr.loadAt t a').run P w = .ok u w ∧ VRel ρ v u := by
  unfold loadG at h
  split at h
  · rename_i g off
    cases ha with | @glob g off => ?_
    obtain ⟨b, hb, h⟩ := ob_some h
    have hA := run_isAgg' hb w
    rw [bif'_eq] at h
    split at h
    · cases h
    · rename_i hbf
      have hbf : b = false := by simpa using hbf
      subst hbf
      obtain ⟨gl, hg, h⟩ := ob_some h
      obtain ⟨vs, hvs, h⟩ := ob_some h
      obtain ⟨_, _, hc⟩ := hr.gl g gl vs hg (gTab_of hvs)
      have hc := hc off v h
      refine ⟨v, ?_, globTab_rel hvs h⟩
      simp only [Instr.loadAt, Instr.sureAddr, Sem.run_bind, Sem.run_pure, Result.andThen_ok, loadVar, hA, Bool.false_eq_true, if_false, run_load, hc]
  · cases h
theorem loadV_sound {s : AS} {w : World} {t : TypeId} {a a' v : Value} (hr : Rel P ρ s w) (h : loadV P t s a = some v) (ha : VRel ρ a a') : ∃ u, (Instr.loadAt t a').run P w = .ok u w ∧ VRel ρ v u := by
  unfold loadV at h
  split at h
  · rename_i ad
    cases ha with | @ptr a x off hx => ?_
    obtain ⟨b, hb, h⟩ := ob_some h
    have hA := run_isAgg' hb w
    rw [bif'_eq] at h
    split at h
    · rename_i hbt
      subst hbt
      obtain ⟨n, hn, h⟩ := ob_some h
      obtain ⟨l, hl, h⟩ := ob_some h
      cases h
      obtain ⟨hlen, m, hm, hg⟩ := loadN_sound hr hx hl
      have hml : m.length = n := by rw [← hm.length, hlen]
      have hrun := run_loadCells_list (P := P) w ⟨x.b, x.base + off, none⟩ m (fun j v hv => by rw [addr_add]; exact hg j v hv)
      rw [hml] at hrun
      exact ⟨.agg m.toArray, by simp only [Instr.loadAt, Instr.sureAddr, Sem.run_bind, Sem.run_pure, Result.andThen_ok, loadVar, hA, if_true, run_sizeOf' hn w, hrun], .agg hm⟩
    · rename_i hbf
      have hbf : b = false := by simpa using hbf
      subst hbf
      obtain ⟨l, hl, h⟩ := ob_some h
      obtain ⟨hlen, m, hm, hg⟩ := loadN_sound hr hx hl
      cases l with
      | nil => cases h
      | cons v0 r =>
        injection h with h
        subst h
        cases hm with
        | cons hv hs =>
          rename_i u ms
          have hc := hg 0 u rfl
          rw [Nat.add_zero] at hc
          refine ⟨u, ?_, hv⟩
          simp only [Instr.loadAt, Instr.sureAddr, Sem.run_bind, Sem.run_pure, Result.andThen_ok, loadVar, hA, Bool.false_eq_true, if_false, run_load, hc]
  · exact loadG_sound hr h ha

/-! Writing. -/
theorem setCells_size (b : Nat) : ∀ (vs : List Value) (o : Nat) (w : World), (w.setCells b o vs).heap.size = w.heap.size
  | [], _, _ => rfl
  | v :: r, o, w => by rw [World.setCells, setCells_size b r]; simp [World.setCell]
theorem setCells_other (b : Nat) : ∀ (vs : List Value) (o : Nat) (w : World) (k : Nat), k ≠ b → (w.setCells b o vs).heap[k]? = w.heap[k]?
  | [], _, _, _, _ => rfl
  | v :: r, o, w, k, h => by
    rw [World.setCells, setCells_other b r _ _ k h]
    simp [World.setCell, Array.getElem?_modify, Ne.symm h]
theorem setCells_rest (b : Nat) : ∀ (vs : List Value) (o : Nat) (w : World), (w.setCells b o vs).tape = w.tape ∧ (w.setCells b o vs).os = w.os ∧ (w.setCells b o vs).output = w.output ∧ (w.setCells b o vs).drawn = w.drawn
  | [], _, _ => ⟨rfl, rfl, rfl, rfl⟩
  | v :: r, o, w => by rw [World.setCells]; exact setCells_rest b r (o + 1) _
theorem shape?_setCell (w : World) (a : Addr) (v : Value) (r : Nat) : (w.setCell a v).shape? r = w.shape? r := by
  simp only [World.shape?, World.setCell, Array.getElem?_modify]
  by_cases h : a.block = r
  · rw [if_pos h]
    subst h
    cases hk : w.heap[a.block]? with
    | none => rfl
    | some o =>
      cases o <;> simp
      split <;> simp
  · rw [if_neg h]
theorem shape?_setCells (b : Nat) : ∀ (vs : List Value) (o : Nat) (w : World) (r : Nat), (w.setCells b o vs).shape? r = w.shape? r
  | [], _, _, _ => rfl
  | v :: rs, o, w, r => by rw [World.setCells, shape?_setCells b rs, shape?_setCell]
theorem oneCells_all : ∀ {l : List Value}, oneCells l = true → ∀ v ∈ l, oneCell v = true := by
  intro l
  induction l with
  | nil => intro _ v hv; cases hv
  | cons a l ih =>
    intro h v hv
    have h' : bif' (oneCell a) (oneCells l) false = true := h
    rw [bif'_eq] at h'
    split at h'
    · rename_i ha
      rcases List.mem_cons.1 hv with rfl | hv
      · exact ha
      · exact ih h' v hv
    · cases h'
theorem one_iff (v : Value) : v.oneCell' = oneCell v := by cases v <;> rfl
theorem VRels.ones {l m : List Value} (h : VRels ρ l m) (h1 : ∀ v ∈ l, oneCell v = true) : ∀ v ∈ m, v.oneCell' = true := by
  induction l generalizing m with
  | nil => cases h; intro v hv; cases hv
  | cons a l ih =>
    cases h with
    | cons h hs =>
      intro v hv
      rcases List.mem_cons.1 hv with rfl | hv
      · rw [one_iff]; exact h.one (h1 _ (by simp))
      · exact ih hs (fun v hv => h1 v (by simp [hv])) v hv
theorem storeN_sound {s s' : AS} {w : World} {a off : Nat} {x : Loc} {vs us : List Value} (hr : Rel P ρ s w) (hx : ρ a = some x) (h : storeN s a off vs = some s') (hv : VRels ρ vs us) :
    ∃ w', (storeCells ⟨x.b, x.base + off, none⟩ us).run P w = .ok () w' ∧ w' = w.setCells x.b (x.base + off) us ∧ Rel P ρ s' w' ∧ Stp ρ s w ρ s' w' := by
  unfold storeN at h
  obtain ⟨hone, h⟩ := bif'_some h
  obtain ⟨c, sz, n, ro, et, hb, h⟩ := cellsOf?_some h
  obtain ⟨hro, h⟩ := bif'_some' h
  subst hro
  obtain ⟨e, he, h⟩ := orec_some h
  obtain ⟨e', he', h⟩ := orec_some h
  obtain ⟨c', hc', h⟩ := orec_some h
  obtain ⟨hlt, hC⟩ := hr.blk a _ x hb hx
  have hC : CellsAt P ρ x w c sz n false et := hC
  obtain ⟨hi, hlen, hcell⟩ := hC.cell _ _ he
  obtain ⟨hel, hle⟩ := setL_eq _ _ _ _ he'
  have e0 : Nat.mod off sz = off % sz := rfl
  have e1 : Nat.div off sz = off / sz := rfl
  rw [e0] at hel hle
  rw [e1] at he hcell hc' hi
  have hdm : off / sz * sz + off % sz = off := by rw [Nat.mul_comm]; exact Nat.div_add_mod off sz
  have hvl := hv.length
  have hcs : ∀ j, j < us.length → (w.cell? ⟨x.b, x.base + off + j, none⟩).isSome = true := by
    intro j hj
    have hj2 : off % sz + j < e.length := by omega
    obtain ⟨u, hu, _⟩ := hcell (off % sz + j) _ (List.getElem?_eq_getElem hj2)
    have e2 : x.base + (off / sz * sz + (off % sz + j)) = x.base + off + j := by omega
    rw [e2] at hu
    rw [hu]; rfl
  have hfz : ∀ j, j < us.length → w.frozen? ⟨x.b, x.base + off + j, none⟩ = false := by
    intro j hj
    cases hf : w.frozen? ⟨x.b, x.base + off + j, none⟩ with
    | false => rfl
    | true => have := (hC.free rfl _ hf).1; have := hcs j hj; rw [‹w.cell? _ = none›] at this; cases this
  have hrun := run_storeCells_cells (P := P) x.b (x.base + off) us 0 w (by simpa using hcs) (by simpa using hfz) (hv.ones (oneCells_all hone))
  rw [Nat.add_zero] at hrun
  obtain ⟨ht, ho, hu, _⟩ := setCells_rest x.b us (x.base + off) w
  refine ⟨_, hrun, rfl, Rel.write hr h hb rfl hx (setCells_size _ _ _ _) (fun b hb' => setCells_other _ _ _ _ _ hb') ht ho hu ?_⟩
  refine ⟨fun i l hl => ?_, fun o ho' => ?_, fun _ o ho' => ?_, by rw [shape?_setCells]; exact hC.shape, hC.mult⟩
  · have hg := T.get_put _ _ _ _ hc' i
    rw [hg] at hl
    by_cases hii : i = off / sz
    · rw [if_pos hii] at hl
      cases hl
      have hel2 : e'.length = sz := by rw [hel]; simp; omega
      refine ⟨by rw [hii]; exact hi, hel2, fun j v hv' => ?_⟩
      subst hii
      have hjl : j < sz := by
        rcases Nat.lt_or_ge j sz with h | h
        · exact h
        · rw [List.getElem?_eq_none (by omega)] at hv'; cases hv'
      rw [hel] at hv'
      by_cases hj1 : j < off % sz
      · have hge : e[j]? = some v := by
          rw [List.append_assoc, List.getElem?_append_left (by simp; omega), List.getElem?_take_of_lt hj1] at hv'
          exact hv'
        obtain ⟨u, hu, hr'⟩ := hcell j v hge
        refine ⟨u, ?_, hr'⟩
        rw [World.cell?_setCells_out _ _ _ _ _ (fun _ _ => .inl (by show x.base + (off / sz * sz + j) < x.base + off; omega))]
        exact hu
      · by_cases hj2 : j < off % sz + vs.length
        · have hge : vs[j - off % sz]? = some v := by
            rw [List.getElem?_append_left (by simp; omega), List.getElem?_append_right (by simp; omega)] at hv'
            have : (List.take (off % sz) e).length = off % sz := by simp; omega
            rw [this] at hv'
            exact hv'
          obtain ⟨u, hu, hr'⟩ := hv.get hge
          refine ⟨u, ?_, hr'⟩
          obtain ⟨hjj, hju⟩ := List.getElem?_eq_some_iff.1 hu
          have := World.cell?_setCells_in x.b us (x.base + off) w hcs (j - off % sz) hjj
          have e2 : x.base + off + (j - off % sz) = x.base + (off / sz * sz + j) := by omega
          rw [e2] at this
          rw [this, hju]
        · have hge : e[j]? = some v := by
            rw [List.getElem?_append_right (by simp; omega)] at hv'
            have : (List.take (off % sz) e ++ vs).length = off % sz + vs.length := by simp; omega
            rw [this, List.getElem?_drop] at hv'
            have e3 : off % sz + vs.length + (j - (off % sz + vs.length)) = j := by omega
            rw [e3] at hv'
            exact hv'
          obtain ⟨u, hu, hr'⟩ := hcell j v hge
          refine ⟨u, ?_, hr'⟩
          rw [World.cell?_setCells_out _ _ _ _ _ (fun _ _ => .inr (by show x.base + off + us.length ≤ x.base + (off / sz * sz + j); omega))]
          exact hu
    · rw [if_neg hii] at hl
      obtain ⟨h1, h2, h3⟩ := hC.cell i l hl
      refine ⟨h1, h2, fun j v hv' => ?_⟩
      obtain ⟨u, hu, hr'⟩ := h3 j v hv'
      refine ⟨u, ?_, hr'⟩
      have hjl : j < sz := by
        rcases Nat.lt_or_ge j sz with h | h
        · exact h
        · rw [List.getElem?_eq_none (by omega)] at hv'; cases hv'
      rw [World.cell?_setCells_out _ _ _ _ _ (fun _ _ => ?_)]
      · exact hu
      · show x.base + (i * sz + j) < x.base + off ∨ x.base + off + us.length ≤ x.base + (i * sz + j)
        rcases Nat.lt_or_gt_of_ne hii with h | h
        · left
          have : (i + 1) * sz ≤ off / sz * sz := Nat.mul_le_mul_right _ h
          rw [Nat.add_mul] at this
          omega
        · right
          have : (off / sz + 1) * sz ≤ i * sz := Nat.mul_le_mul_right _ h
          rw [Nat.add_mul] at this
          omega
  · by_cases hin : x.base + off ≤ o ∧ o < x.base + off + us.length
    · have := World.cell?_setCells_in x.b us (x.base + off) w hcs (o - (x.base + off)) (by omega)
      rw [show x.base + off + (o - (x.base + off)) = o by omega] at this
      rw [this]; rfl
    · rw [World.cell?_setCells_out _ _ _ _ _ (fun _ _ => by show o < x.base + off ∨ x.base + off + us.length ≤ o; omega)]
      exact hC.all o ho'
  · rw [World.frozen?_setCells] at ho'
    obtain ⟨hn, hnb⟩ := hC.free rfl o ho'
    refine ⟨?_, hnb⟩
    by_cases hin : x.base + off ≤ o ∧ o < x.base + off + us.length
    · have := hcs (o - (x.base + off)) (by omega)
      rw [show x.base + off + (o - (x.base + off)) = o by omega, hn] at this
      cases this
    · rw [World.cell?_setCells_out _ _ _ _ _ (fun _ _ => by show o < x.base + off ∨ x.base + off + us.length ≤ o; omega)]
      exact hn
end Go.Eng
/-! Rows are made. -/
namespace Go.Eng
open Go
variable {P : Program} {ρ : Ren}
theorem rowT_get : ∀ (ls : List (List Value)) (i : Nat) (t t' : T (List Value)), rowT ls i t = some t' → ∀ j, t'.get j = if i ≤ j ∧ j < i + ls.length then ls[j - i]? else t.get j := by
  intro ls
  induction ls with
  | nil =>
    intro i t t' h j
    cases h
    rw [if_neg (by simp)]
  | cons l ls ih =>
    intro i t t' h j
    have h' : Option.rec (motive := fun _ => Option (T (List Value))) none (fun t1 => rowT ls (Nat.succ i) t1) (T.put (some l) t i) = some t' := h
    obtain ⟨t1, h1, h2⟩ := orec_some h'
    rw [ih _ _ _ h2 j, T.get_put _ _ _ _ h1 j]
    simp only [List.length_cons]
    by_cases hj : j = i
    · subst hj
      rw [if_neg (by omega), if_pos rfl, if_pos (by omega), Nat.sub_self]; rfl
    · by_cases hc : i ≤ j ∧ j < i + (ls.length + 1)
      · rw [if_pos (by omega), if_pos hc]
        have : j - i = (j - (i + 1)) + 1 := by omega
        rw [this]; rfl
      · rw [if_neg (by omega), if_neg hj, if_neg hc]
theorem sameLen_all {sz : Nat} : ∀ {ls : List (List Value)}, sameLen sz ls = true → ∀ l ∈ ls, l.length = sz := by
  intro ls
  induction ls with
  | nil => intro _ l hl; cases hl
  | cons a ls ih =>
    intro h l hl
    have h' : bif' (Nat.beq (len a) sz) (sameLen sz ls) false = true := h
    rw [bif'_eq] at h'
    split at h'
    · rename_i ha
      rcases List.mem_cons.1 hl with rfl | hl
      · rw [← len_eq]; exact Nat.eq_of_beq_eq_true ha
      · exact ih h' l hl
    · cases h'
theorem flat_len {sz : Nat} : ∀ {ls : List (List Value)}, (∀ l ∈ ls, l.length = sz) → ls.flatten.length = ls.length * sz := by
  intro ls
  induction ls with
  | nil => intro _; simp
  | cons a ls ih =>
    intro h
    rw [List.flatten_cons, List.length_append, ih (fun l hl => h l (by simp [hl])), h a (by simp), List.length_cons, Nat.add_mul]; omega
theorem flat_get {sz : Nat} : ∀ {ls : List (List Value)}, (∀ l ∈ ls, l.length = sz) → ∀ {i : Nat} {l : List Value}, ls[i]? = some l → ∀ j, j < sz → ls.flatten[i * sz + j]? = l[j]? := by
  intro ls
  induction ls with
  | nil => intro _ i l h; cases h
  | cons a ls ih =>
    intro h i l hl j hj
    have ha := h a (by simp)
    cases i with
    | zero =>
      cases hl
      rw [List.flatten_cons, Nat.zero_mul, Nat.zero_add, List.getElem?_append_left (by omega)]
    | succ i =>
      have := ih (fun l hl => h l (by simp [hl])) (i := i) (by simpa using hl) j hj
      rw [List.flatten_cons, List.getElem?_append_right (by rw [Nat.add_mul]; omega), ← this]
      congr 1
      rw [Nat.add_mul]; omega
theorem cell?_push (w : World) (C : Array Value) (t : TypeId) (fr : Nat × Nat) (w' : World) (hh : w'.heap = w.heap.push (.cells C t fr)) (j : Nat) : w'.cell? ⟨w.heap.size, j, none⟩ = C[j]? := by
  simp [World.cell?, hh]
theorem shape?_push (w : World) (C : Array Value) (t : TypeId) (fr : Nat × Nat) (w' : World) (hh : w'.heap = w.heap.push (.cells C t fr)) : w'.shape? w.heap.size = some (t, C.size) := by
  simp [World.shape?, hh]
theorem frozen?_push (w : World) (C : Array Value) (t : TypeId) (lo hi : Nat) (w' : World) (hh : w'.heap = w.heap.push (.cells C t (lo, hi))) (j : Nat) : w'.frozen? ⟨w.heap.size, j, none⟩ = (decide (lo ≤ j) && decide (j < hi)) := by
  simp [World.frozen?, hh]
/-- A NEW ROW. -/
theorem newRow_rel {β : Type} {s : AS} {w w' : World} {et : TypeId} {sz n : Nat} {els : List (List Value)} {k : Nat → AS → Option β} {r : β} {cs rest : List Value} {lo hi : Nat}
    (hr : Rel P ρ s w) (h : newRowO s et sz els n k = some r) (hc : VRels ρ els.flatten cs) (hfr : ∀ o, lo ≤ o → o < hi → cs.length + rest.length ≤ o ∧ P.underlying et = some (.int .u8))
    (hh : w'.heap = w.heap.push (.cells (cs ++ rest).toArray et (lo, hi))) (ht : w'.tape = w.tape) (ho : w'.os = w.os) (hu : w'.output = w.output) :
    els.length = n ∧ cs.length = n * sz ∧ ∃ s1, k s.nx s1 = some r ∧ Rel P (ρ.put s.nx ⟨w.heap.size, 0, cs.length + rest.length⟩) s1 w' ∧ Stp ρ s w (ρ.put s.nx ⟨w.heap.size, 0, cs.length + rest.length⟩) s1 w' := by
  unfold newRowO at h
  obtain ⟨hn, h⟩ := bif'_some h
  obtain ⟨hl, h⟩ := bif'_some h
  obtain ⟨t, ht', h⟩ := orec_some h
  obtain ⟨s1, hs1, h⟩ := orec_some h
  have hn : els.length = n := by rw [← len_eq]; exact Nat.eq_of_beq_eq_true hn
  have hl := sameLen_all hl
  have hfl := flat_len hl
  have hcl := hc.length
  rw [hfl, hn] at hcl
  refine ⟨hn, hcl.symm, s1, h, ?_⟩
  have hle : RenLe ρ (ρ.put s.nx ⟨w.heap.size, 0, cs.length + rest.length⟩) := fun a y e => by
    unfold Ren.put
    by_cases ha : a = s.nx
    · rw [ha, hr.dom _ (Nat.le_refl _)] at e; cases e
    · rw [if_neg ha]; exact e
  refine Rel.alloc hr hs1 rfl (by rw [hh]; simp) (fun b hb => by rw [hh]; simp [Array.getElem?_push, Nat.ne_of_lt hb]) ht ho hu ?_
  refine ⟨fun i l hil => ?_, fun o ho' => ?_, fun _ o ho' => ?_, ?_, ⟨0, by simp⟩⟩
  · rw [rowT_get _ _ _ _ ht' i] at hil
    by_cases hc' : 0 ≤ i ∧ i < 0 + els.length
    · rw [if_pos hc', Nat.sub_zero] at hil
      refine ⟨by omega, hl l (List.mem_of_getElem? hil), fun j v hv => ?_⟩
      have hj : j < sz := by
        rw [← hl l (List.mem_of_getElem? hil)]
        exact (List.getElem?_eq_some_iff.1 hv).1
      have hf := flat_get hl hil j hj
      rw [hv] at hf
      obtain ⟨u, hu', hr'⟩ := hc.get hf
      refine ⟨u, ?_, hr'.mono hle⟩
      rw [cell?_push w _ _ _ _ hh]
      simp only [Nat.zero_add, List.getElem?_toArray]
      rw [List.getElem?_append_left (List.getElem?_eq_some_iff.1 hu').1]
      exact hu'
    · rw [if_neg hc'] at hil; cases hil
  · rw [cell?_push w _ _ _ _ hh]
    have ho2 : o < (cs ++ rest).length := by simpa using ho'
    simp only [List.getElem?_toArray]
    rw [List.getElem?_eq_getElem ho2]; rfl
  · rw [frozen?_push w _ _ _ _ _ hh] at ho'
    simp only [Bool.and_eq_true, decide_eq_true_eq] at ho'
    obtain ⟨this, hbyte⟩ := hfr o ho'.1 ho'.2
    refine ⟨?_, hbyte⟩
    rw [cell?_push w _ _ _ _ hh]
    simp only [List.getElem?_toArray]
    exact List.getElem?_eq_none (by simp; omega)
  · rw [shape?_push w _ _ _ _ hh]; simp
theorem mkSl_some {b n c : Nat} {s : AS} {r : Value × AS} (h : mkSl b n c s = some r) : r = (.slice (some ⟨b, 0, none⟩) n c, s) := by
  unfold mkSl at h; simp only [fNat_eq] at h; cases h; rfl
theorem codeEx_div (n : Nat) : codeEx n / 512 = n := by show (512 * n + 1) / 512 = n; omega
theorem codeEx_mod (n : Nat) : codeEx n % 2 = 1 := by show (512 * n + 1) % 2 = 1; omega
theorem codeLB_div {n sz : Nat} (h : sz < 256) : codeLB n sz / 512 = n := by show (512 * n + 2 * sz) / 512 = n; omega
theorem codeLB_mod (n sz : Nat) : codeLB n sz % 2 = 0 := by show (512 * n + 2 * sz) % 2 = 0; omega
theorem codeLB_sz {n sz : Nat} (h : sz < 256) : codeLB n sz % 512 / 2 = sz := by show (512 * n + 2 * sz) % 512 / 2 = sz; omega
theorem put_self (ρ : Ren) (a : Nat) (x : Loc) : (ρ.put a x) a = some x := by unfold Ren.put; rw [if_pos rfl]
/-- a row whose capacity is not known. -/
theorem rowLB_sound {s : AS} {w w' : World} {et : TypeId} {sz n cap lo hi : Nat} {els : List (List Value)} {r : Value × AS} {cs rest : List Value}
    (hr : Rel P ρ s w) (h : rowLB s et sz els n = some r) (hc : VRels ρ els.flatten cs) (hcap : n ≤ cap) (hrest : cs.length + rest.length = cap * sz) (hfr : ∀ o, lo ≤ o → o < hi → cs.length + rest.length ≤ o ∧ P.underlying et = some (.int .u8))
    (hh : w'.heap = w.heap.push (.cells (cs ++ rest).toArray et (lo, hi))) (ht : w'.tape = w.tape) (ho : w'.os = w.os) (hu : w'.output = w.output) :
    ∃ ρ', VRel ρ' r.1 (.slice (some ⟨w.heap.size, 0, none⟩) n cap) ∧ Rel P ρ' r.2 w' ∧ Stp ρ s w ρ' r.2 w' := by
  unfold rowLB at h
  obtain ⟨hsz, h⟩ := bif'_some h
  have hsz : sz < 256 := Nat.le_of_ble_eq_true hsz
  obtain ⟨hn, hcl, s1, hk, hR, hS⟩ := newRow_rel hr h hc hfr hh ht ho hu
  rw [mkSl_some hk]
  refine ⟨_, ?_, hR, hS⟩
  have e : (⟨w.heap.size, 0, none⟩ : Addr) = ⟨(⟨w.heap.size, 0, cs.length + rest.length⟩ : Loc).b, (⟨w.heap.size, 0, cs.length + rest.length⟩ : Loc).base + 0, none⟩ := rfl
  refine .slice 0 n (codeLB n sz) cap _ (put_self _ _ _) (by rw [codeLB_div hsz]; exact Nat.le_refl _) (by rw [codeLB_div hsz]; exact hcap) (fun h => by rw [codeLB_mod] at h; cases h) (.inl e) (fun _ => ?_)
  rw [codeLB_sz hsz]
  show 0 + 0 + cap * sz ≤ cs.length + rest.length
  omega
/-- WHAT A MAKING OPERATION DOES, in whatever world: a new block, and what lies there. -/
def Made (P : Program) (ρ : Ren) (w : World) (a : Nat) (m : Sem Value) (v : Value) (k : Blk) : Prop :=
  ∃ x u w', m.run P w = .ok u w' ∧ x.b = w.heap.size ∧ w'.heap.size = w.heap.size + 1 ∧ (∀ b, b < w.heap.size → w'.heap[b]? = w.heap[b]?) ∧ w'.tape = w.tape ∧ w'.os = w.os ∧ w'.output = w.output ∧
    VRel (ρ.put a x) v u ∧ BRel P (ρ.put a x) x w' k
theorem put_le {ρ : Ren} {a : Nat} (h : ρ a = none) (x : Loc) : RenLe ρ (ρ.put a x) := fun b y e => by
  unfold Ren.put
  by_cases ha : b = a
  · rw [ha, h] at e; cases e
  · rw [if_neg ha]; exact e
theorem row_brel {w w' : World} {et : TypeId} {sz n : Nat} {els : List (List Value)} {cs rest : List Value} {lo hi : Nat} {t : T (List Value)} (ht : rowT els 0 .e = some t) (hl : ∀ l ∈ els, l.length = sz) (hn : els.length = n)
    (hc : VRels ρ els.flatten cs) (hfr : ∀ o, lo ≤ o → o < hi → cs.length + rest.length ≤ o ∧ P.underlying et = some (.int .u8)) (hh : w'.heap = w.heap.push (.cells (cs ++ rest).toArray et (lo, hi))) : BRel P ρ ⟨w.heap.size, 0, cs.length + rest.length⟩ w' (.cells t sz n false et) := by
  refine ⟨fun i l hil => ?_, fun o ho' => ?_, fun _ o ho' => ?_, ?_, ⟨0, by simp⟩⟩
  · rw [rowT_get _ _ _ _ ht i] at hil
    by_cases hc' : 0 ≤ i ∧ i < 0 + els.length
    · rw [if_pos hc', Nat.sub_zero] at hil
      refine ⟨by omega, hl l (List.mem_of_getElem? hil), fun j v hv => ?_⟩
      have hj : j < sz := by
        rw [← hl l (List.mem_of_getElem? hil)]
        exact (List.getElem?_eq_some_iff.1 hv).1
      have hf := flat_get hl hil j hj
      rw [hv] at hf
      obtain ⟨u, hu', hr'⟩ := hc.get hf
      refine ⟨u, ?_, hr'⟩
      rw [cell?_push w _ _ _ _ hh]
      simp only [Nat.zero_add, List.getElem?_toArray]
      rw [List.getElem?_append_left (List.getElem?_eq_some_iff.1 hu').1]
      exact hu'
    · rw [if_neg hc'] at hil; cases hil
  · rw [cell?_push w _ _ _ _ hh]
    have ho2 : o < (cs ++ rest).length := by simpa using ho'
    simp only [List.getElem?_toArray]
    rw [List.getElem?_eq_getElem ho2]; rfl
  · rw [frozen?_push w _ _ _ _ _ hh] at ho'
    simp only [Bool.and_eq_true, decide_eq_true_eq] at ho'
    obtain ⟨this, hbyte⟩ := hfr o ho'.1 ho'.2
    refine ⟨?_, hbyte⟩
    rw [cell?_push w _ _ _ _ hh]
    simp only [List.getElem?_toArray]
    exact List.getElem?_eq_none (by simp; omega)
  · rw [shape?_push w _ _ _ _ hh]; simp
theorem rowEx_made {s : AS} {et : TypeId} {sz l n : Nat} {els : List (List Value)} {r : Value × AS} (h : rowEx s et sz els l n = some r) (hln : l ≤ n) :
    ∃ k, s.new k = some r.2 ∧ ∀ {ρ : Ren} {w w' : World} {m : Sem Value} {cs : List Value}, ρ s.nx = none → VRels ρ els.flatten cs → m.run P w = .ok (.slice (some ⟨w.heap.size, 0, none⟩) l n) w' →
      w'.heap = w.heap.push (.cells cs.toArray et) → w'.tape = w.tape → w'.os = w.os → w'.output = w.output → Made P ρ w s.nx m r.1 k := by
  unfold rowEx newRowO at h
  obtain ⟨hn, h⟩ := bif'_some h
  obtain ⟨hl, h⟩ := bif'_some h
  obtain ⟨t, ht', h⟩ := orec_some h
  obtain ⟨s1, hs1, h⟩ := orec_some h
  have hn : els.length = n := by rw [← len_eq]; exact Nat.eq_of_beq_eq_true hn
  rw [mkSl_some h]
  refine ⟨_, hs1, fun {ρ w w' m cs} hρ hc hrun hh ht ho hu => ?_⟩
  have hle := put_le hρ ⟨w.heap.size, 0, cs.length + ([] : List Value).length⟩
  refine ⟨⟨w.heap.size, 0, cs.length + ([] : List Value).length⟩, _, w', hrun, rfl, by rw [hh]; simp, fun b hb => by rw [hh]; simp [Array.getElem?_push, Nat.ne_of_lt hb], ht, ho, hu, ?_, ?_⟩
  · have e : (⟨w.heap.size, 0, none⟩ : Addr) = ⟨(⟨w.heap.size, 0, cs.length + ([] : List Value).length⟩ : Loc).b, (⟨w.heap.size, 0, cs.length + ([] : List Value).length⟩ : Loc).base + 0, none⟩ := rfl
    exact .slice 0 l (codeEx n) n _ (put_self _ _ _) (by rw [codeEx_div]; exact hln) (by rw [codeEx_div]; exact Nat.le_refl _) (fun _ => (codeEx_div n).symm) (.inl e) (fun h => by rw [codeEx_mod] at h; cases h)
  · exact row_brel (rest := []) (lo := 0) (hi := 0) ht' (sameLen_all hl) hn (hc.mono hle) (fun o h1 h2 => by omega) (by simpa using hh)
theorem rowLB_made {s : AS} {et : TypeId} {sz n : Nat} {els : List (List Value)} {r : Value × AS} (h : rowLB s et sz els n = some r) :
    ∃ k, s.new k = some r.2 ∧ ∀ {ρ : Ren} {w w' : World} {m : Sem Value} {cs rest : List Value} {cap lo hi : Nat}, ρ s.nx = none → VRels ρ els.flatten cs → n ≤ cap → cs.length + rest.length = cap * sz → (∀ o, lo ≤ o → o < hi → cs.length + rest.length ≤ o ∧ P.underlying et = some (.int .u8)) →
      m.run P w = .ok (.slice (some ⟨w.heap.size, 0, none⟩) n cap) w' → w'.heap = w.heap.push (.cells (cs ++ rest).toArray et (lo, hi)) → w'.tape = w.tape → w'.os = w.os → w'.output = w.output → Made P ρ w s.nx m r.1 k := by
  unfold rowLB at h
  obtain ⟨hsz, h⟩ := bif'_some h
  have hsz : sz < 256 := Nat.le_of_ble_eq_true hsz
  unfold newRowO at h
  obtain ⟨hn, h⟩ := bif'_some h
  obtain ⟨hl, h⟩ := bif'_some h
  obtain ⟨t, ht', h⟩ := orec_some h
  obtain ⟨s1, hs1, h⟩ := orec_some h
  have hn : els.length = n := by rw [← len_eq]; exact Nat.eq_of_beq_eq_true hn
  rw [mkSl_some h]
  refine ⟨_, hs1, fun {ρ w w' m cs rest cap lo hi} hρ hc hcap hrest hfr hrun hh ht ho hu => ?_⟩
  have hle := put_le hρ ⟨w.heap.size, 0, cs.length + rest.length⟩
  refine ⟨⟨w.heap.size, 0, cs.length + rest.length⟩, _, w', hrun, rfl, by rw [hh]; simp, fun b hb => by rw [hh]; simp [Array.getElem?_push, Nat.ne_of_lt hb], ht, ho, hu, ?_, ?_⟩
  · have e : (⟨w.heap.size, 0, none⟩ : Addr) = ⟨(⟨w.heap.size, 0, cs.length + rest.length⟩ : Loc).b, (⟨w.heap.size, 0, cs.length + rest.length⟩ : Loc).base + 0, none⟩ := rfl
    refine .slice 0 n (codeLB n sz) cap _ (put_self _ _ _) (by rw [codeLB_div hsz]; exact Nat.le_refl _) (by rw [codeLB_div hsz]; exact hcap) (fun h => by rw [codeLB_mod] at h; cases h) (.inl e) (fun _ => ?_)
    rw [codeLB_sz hsz]
    show 0 + 0 + cap * sz ≤ cs.length + rest.length
    omega
  · exact row_brel ht' (sameLen_all hl) hn (hc.mono hle) hfr hh
theorem newVarA_made {s : AS} {et : TypeId} {vs : List Value} {r : Value × AS} (h : newVarA s et vs = some r) :
    ∃ k, s.new k = some r.2 ∧ ∀ {ρ : Ren} {w w' : World} {m : Sem Value} {us : List Value}, ρ s.nx = none → VRels ρ vs us → m.run P w = .ok (.pointer (some ⟨w.heap.size, 0, none⟩)) w' →
      w'.heap = w.heap.push (.cells us.toArray et) → w'.tape = w.tape → w'.os = w.os → w'.output = w.output → Made P ρ w s.nx m r.1 k := by
  unfold newVarA at h
  rw [fNat_eq] at h
  obtain ⟨s', hs', h⟩ := orec_some h
  cases h
  refine ⟨_, hs', fun {ρ w w' m us} hρ hv hrun hh ht ho hu => ?_⟩
  have hle := put_le hρ ⟨w.heap.size, 0, us.length⟩
  refine ⟨⟨w.heap.size, 0, us.length⟩, _, w', hrun, rfl, by rw [hh]; simp, fun b hb => by rw [hh]; simp [Array.getElem?_push, Nat.ne_of_lt hb], ht, ho, hu, VRel.ptr (x := ⟨w.heap.size, 0, us.length⟩) 0 (put_self _ _ _), ?_⟩
  refine ⟨fun i l hil => ?_, fun o ho' => ?_, fun _ o ho' => ?_, ?_, ⟨0, by simp⟩⟩
  · rcases nat_cases3 i with rfl | ⟨m, rfl⟩ | ⟨m, rfl⟩
    · rw [T.get_n0] at hil
      cases hil
      refine ⟨by omega, by rw [len_eq], fun j v hj => ?_⟩
      obtain ⟨u, hu', hr'⟩ := hv.get hj
      refine ⟨u, ?_, hr'.mono hle⟩
      rw [cell?_push w _ _ _ _ hh]
      simp only [Nat.zero_mul, Nat.zero_add, List.getElem?_toArray]
      exact hu'
    · rw [T.get_odd, T.get_e] at hil; cases hil
    · rw [T.get_even, T.get_e] at hil; cases hil
  · rw [cell?_push w _ _ _ _ hh]
    have ho2 : o < us.length := ho'
    simp only [List.getElem?_toArray]
    rw [List.getElem?_eq_getElem ho2]; rfl
  · rw [frozen?_push w _ _ _ _ _ hh] at ho'
    simp at ho'
  · rw [shape?_push w _ _ _ _ hh]; simp
end Go.Eng
/-! Elements of slices are read and written. -/
namespace Go.Eng
open Go
variable {P : Program} {ρ : Ren}
theorem elems_get {c : T (List Value)} : ∀ (n i : Nat) (els : List (List Value)), elems c n i = some els → els.length = n ∧ ∀ j l, els[j]? = some l → c.get (i + j) = some l := by
  intro n
  induction n with
  | zero => intro i els h; cases h; exact ⟨rfl, fun j l h => by simp at h⟩
  | succ n ih =>
    intro i els h
    have h' : Option.rec (motive := fun _ => Option (List (List Value))) none (fun l => Option.rec (motive := fun _ => Option (List (List Value))) none (fun r => some (l :: r)) (elems c n (Nat.succ i))) (c.get i) = some els := h
    obtain ⟨l, hl, h'⟩ := orec_some h'
    obtain ⟨r, hr, h'⟩ := orec_some h'
    cases h'
    obtain ⟨h1, h2⟩ := ih _ _ hr
    refine ⟨by simp [h1], fun j m hm => ?_⟩
    cases j with
    | zero => cases hm; exact hl
    | succ j => rw [show i + (j + 1) = Nat.succ i + j by omega]; exact h2 j m (by simpa using hm)
theorem chunk_eq {sz : Nat} : ∀ (n : Nat) (l : List Value) (els : List (List Value)), chunk sz n l = some els → els.length = n ∧ n * sz ≤ l.length ∧ els.flatten = l.take (n * sz) ∧ ∀ e ∈ els, e.length = sz := by
  intro n
  induction n with
  | zero => intro l els h; cases h; exact ⟨rfl, by omega, by simp, fun e he => by cases he⟩
  | succ n ih =>
    intro l els h
    have h' : Option.rec (motive := fun _ => Option (List (List Value))) none
      (fun a => Option.rec (motive := fun _ => Option (List (List Value))) none
        (fun b => Option.rec (motive := fun _ => Option (List (List Value))) none (fun r => some (a :: r)) (chunk sz n b)) (dropO sz l)) (takeO sz l) = some els := h
    obtain ⟨a, ha, h'⟩ := orec_some h'
    obtain ⟨b, hb, h'⟩ := orec_some h'
    obtain ⟨r, hr, h'⟩ := orec_some h'
    cases h'
    obtain ⟨rfl, hla⟩ := takeO_eq _ _ _ ha
    obtain ⟨rfl, _⟩ := dropO_eq _ _ _ hb
    obtain ⟨h1, h2, h3, h4⟩ := ih _ _ hr
    rw [List.length_drop] at h2
    refine ⟨by simp [h1], by rw [Nat.add_mul]; omega, ?_, fun e he => ?_⟩
    · rw [List.flatten_cons, h3, Nat.add_mul, Nat.one_mul, Nat.add_comm (n * sz) sz, List.take_add]
    · rcases List.mem_cons.1 he with rfl | he
      · simp; omega
      · exact h4 e he
theorem flat_some {sz : Nat} {ls : List (List Value)} (h : ∀ l ∈ ls, l.length = sz) {j : Nat} {v : Value} (hv : ls.flatten[j]? = some v) : 0 < sz ∧ ∃ l, ls[j / sz]? = some l ∧ l[j % sz]? = some v := by
  have hlt := (List.getElem?_eq_some_iff.1 hv).1
  rw [flat_len h] at hlt
  have hsz : 0 < sz := by
    rcases Nat.eq_zero_or_pos sz with rfl | h
    · simp at hlt
    · exact h
  have hi : j / sz < ls.length := Nat.div_lt_of_lt_mul (by rw [Nat.mul_comm]; exact hlt)
  refine ⟨hsz, _, List.getElem?_eq_getElem hi, ?_⟩
  have := flat_get h (List.getElem?_eq_getElem hi) (j % sz) (Nat.mod_lt _ hsz)
  rw [← this, Nat.mul_comm, Nat.div_add_mod]
  exact hv
/-- the elements of a row. -/
theorem blkElems_sound {s : AS} {w : World} {a off sz n : Nat} {x : Loc} {els : List (List Value)} (hr : Rel P ρ s w) (hx : ρ a = some x) (h : blkElems (s.h.get a) sz off n = some els) :
    els.length = n ∧ (∀ l ∈ els, l.length = sz) ∧ ∃ cs, VRels ρ els.flatten cs ∧ cs.length = n * sz ∧ ∀ (j : Nat) (u : Value), cs[j]? = some u → w.cell? ⟨x.b, x.base + off + j, none⟩ = some u := by
  obtain ⟨c, sz', m, ro, et, hb, h⟩ := cellsOf?_some h
  obtain ⟨_, hC⟩ := hr.blk a _ x hb hx
  have hC : CellsAt P ρ x w c sz' m ro et := hC
  obtain ⟨h0, hq⟩ := bif'_some' h
  clear h
  rw [bif'_eq] at hq
  have fin : els.length = n → (∀ l ∈ els, l.length = sz) → (∀ j v, els.flatten[j]? = some v → ∃ u, w.cell? ⟨x.b, x.base + off + j, none⟩ = some u ∧ VRel ρ v u) →
      els.length = n ∧ (∀ l ∈ els, l.length = sz) ∧ ∃ cs, VRels ρ els.flatten cs ∧ cs.length = n * sz ∧ ∀ (j : Nat) (u : Value), cs[j]? = some u → w.cell? ⟨x.b, x.base + off + j, none⟩ = some u := by
    intro hn hl hf
    obtain ⟨cs, hcs, hg⟩ := rels_of (f := fun j => w.cell? ⟨x.b, x.base + off + j, none⟩) els.flatten hf
    exact ⟨hn, hl, cs, hcs, by rw [← hcs.length, flat_len hl, hn], hg⟩
  split at hq
  · rename_i hs
    have hs := Nat.eq_of_beq_eq_true hs
    subst hs
    obtain ⟨hm, h⟩ := bif'_some hq
    have hm : off % sz = 0 := Nat.eq_of_beq_eq_true hm
    obtain ⟨hn, hg⟩ := elems_get _ _ _ h
    have hl : ∀ l ∈ els, l.length = sz := fun l hl => by
      obtain ⟨i, hi⟩ := List.mem_iff_getElem?.1 hl
      exact (hC.cell _ _ (hg i l hi)).2.1
    refine fin hn hl (fun j v hv => ?_)
    obtain ⟨hsz, l, h1, h2⟩ := flat_some hl hv
    obtain ⟨u, hu, hr'⟩ := (hC.cell _ _ (hg _ l h1)).2.2 _ v h2
    refine ⟨u, ?_, hr'⟩
    have e1 : Nat.div off sz * sz = off := by
      show off / sz * sz = off
      have := Nat.div_add_mod off sz
      rw [hm, Nat.mul_comm] at this
      simpa using this
    have e2 : j / sz * sz + j % sz = j := by rw [Nat.mul_comm]; exact Nat.div_add_mod j sz
    have e3 : x.base + ((Nat.div off sz + j / sz) * sz + j % sz) = x.base + off + j := by
      rw [Nat.add_mul, e1]; omega
    rw [e3] at hu
    exact hu
  · obtain ⟨e, he, h⟩ := ob_some hq
    obtain ⟨e1, he1, h⟩ := ob_some h
    obtain ⟨e2, he2, h⟩ := ob_some h
    obtain ⟨rfl, hd⟩ := dropO_eq _ _ _ he1
    obtain ⟨rfl, ht⟩ := takeO_eq _ _ _ he2
    obtain ⟨h1, h2, h3, h4⟩ := chunk_eq _ _ _ h
    refine fin h1 h4 (fun j v hv => ?_)
    rw [h3] at hv
    have hv' : e[off % sz' + j]? = some v := by
      rw [List.getElem?_take] at hv
      split at hv
      · rw [List.getElem?_take] at hv
        split at hv
        · rw [List.getElem?_drop] at hv; exact hv
        · cases hv
      · cases hv
    obtain ⟨u, hu, hr'⟩ := (hC.cell _ _ he).2.2 _ v hv'
    refine ⟨u, ?_, hr'⟩
    have e1 : off / sz' * sz' + off % sz' = off := by rw [Nat.mul_comm]; exact Nat.div_add_mod off sz'
    have e3 : x.base + (Nat.div off sz' * sz' + (off % sz' + j)) = x.base + off + j := by
      show x.base + (off / sz' * sz' + (off % sz' + j)) = x.base + off + j
      omega
    rw [e3] at hu
    exact hu
theorem byteCells_eq : ∀ {l : List UInt8} {els : List (List Value)}, byteCells l = some els → els = l.map (fun b => [Value.int .u8 (b.toNat : Int)]) := by
  intro l
  induction l with
  | nil => intro els h; cases h; rfl
  | cons b l ih =>
    intro els h
    have h' : fNat b.toNat (fun n => ob (byteCells l) fun r => some ([Value.int .u8 (.ofNat n)] :: r)) = some els := h
    rw [fNat_eq] at h'
    obtain ⟨r, hr, h'⟩ := ob_some h'
    cases h'
    rw [ih hr]; rfl
theorem byteRels (l : List UInt8) : VRels ρ (l.map (fun b => [Value.int .u8 (b.toNat : Int)])).flatten (l.map fun b => Value.int .u8 (b.toNat : Int)) := by
  induction l with
  | nil => exact .nil
  | cons b l ih => exact .cons (.int _ _) ih
theorem bytesA_list (s : ByteArray) (n : Nat) : ((s.extract 0 n).data.map fun b => Value.int .u8 b.toNat).toList = (s.data.toList.take n).map fun b => Value.int .u8 (b.toNat : Int) := by
  simp
theorem run_loadCells_zero (a : Addr) (w : World) : (loadCells a 0).run P w = .ok #[] w := by
  have := run_loadCells_list (P := P) w a [] (fun j v h => by simp at h)
  simpa using this
/-- what copy and append read. -/
theorem sliceElems_sound {s : AS} {w : World} {sz n : Nat} {v v' : Value} {els : List (List Value)} (hr : Rel P ρ s w) (h : sliceElems s sz v n = some els) (hv : VRel ρ v v') (hn : ∀ b m c, v = .slice b m c → n ≤ m) :
    (∀ l ∈ els, l.length = sz) ∧ els.length = n ∧ ∃ cs : List Value, VRels ρ els.flatten cs ∧ cs.length = n * sz ∧ (Builtin.firstCells sz n v').run P w = .ok cs.toArray w := by
  unfold sliceElems at h
  split at h
  · rename_i m c
    cases h
    cases hv
    have := hn _ _ _ rfl
    have hn0 : n = 0 := by omega
    subst hn0
    exact ⟨fun l hl => (by cases hl), rfl, [], .nil, by simp, by simp [Builtin.firstCells]⟩
  · rename_i a m c
    cases hv with | @slice a x off m c cap ad hx h1 h2 h3 h4 h5 => ?_
    have hnm := hn _ _ _ rfl
    cases n with
    | zero =>
      cases h
      exact ⟨fun l hl => (by cases hl), rfl, [], .nil, by simp, by simp [Builtin.firstCells, run_loadCells_zero]⟩
    | succ n =>
      have h : blkElems (s.h.get a) sz off (n + 1) = some els := h
      have had : ad = ⟨x.b, x.base + off, none⟩ := by
        rcases h4 with h4 | h4
        · exact h4
        · omega
      subst had
      obtain ⟨hl, h4, cs, hcs, hlen, hg⟩ := blkElems_sound hr hx h
      refine ⟨h4, hl, cs, hcs, hlen, ?_⟩
      have hrun := run_loadCells_list (P := P) w ⟨x.b, x.base + off, none⟩ cs (fun j v hv => by rw [addr_add]; exact hg j v hv)
      rw [hlen] at hrun
      simp only [Builtin.firstCells]
      exact hrun
  · rename_i b
    obtain ⟨hsz, h⟩ := bif'_some h
    have hsz := Nat.eq_of_beq_eq_true hsz
    subst hsz
    obtain ⟨l, hl, h⟩ := ob_some h
    obtain ⟨rfl, hle⟩ := takeB_eq _ _ _ hl
    have he := byteCells_eq h
    subst he
    cases hv
    refine ⟨fun l hl => ?_, by simp at hle ⊢; omega, _, byteRels _, by simp at hle ⊢; omega, ?_⟩
    · obtain ⟨b, _, rfl⟩ := List.mem_map.1 hl; rfl
    · simp only [Builtin.firstCells, Sem.run_pure]
      congr 1
      apply Array.ext'
      rw [bytesA_list]
  · cases h

/-! Writing. -/
theorem run_storeCells_append (a : Addr) (l2 : List Value) : ∀ (l1 : List Value) (i : Nat) (w : World), (storeCells a (l1 ++ l2) i).run P w = ((storeCells a l1 i).run P w).andThen fun _ w' => (storeCells a l2 (i + l1.length)).run P w'
  | [], i, w => by simp [storeCells]
  | v :: l1, i, w => by
    simp only [List.cons_append, storeCells, Sem.run_bind]
    cases h : (store (a.add i) v).run P w with
    | ok x w' =>
      simp only [Result.andThen_ok]
      rw [run_storeCells_append a l2 l1 (i + 1) w']
      simp only [List.length_cons]
      rw [show i + 1 + l1.length = i + (l1.length + 1) by omega]
    | halt e w' => rfl
theorem storeCells_shift (b o k : Nat) : ∀ (l : List Value) (i : Nat), storeCells ⟨b, o, none⟩ l (k + i) = storeCells ⟨b, o + k, none⟩ l i
  | [], i => rfl
  | v :: l, i => by
    simp only [storeCells, addr_add]
    rw [show k + i + 1 = k + (i + 1) by omega, storeCells_shift b o k l (i + 1), Nat.add_assoc]
theorem setCells_append (b : Nat) (l2 : List Value) : ∀ (l1 : List Value) (o : Nat) (w : World), w.setCells b o (l1 ++ l2) = (w.setCells b o l1).setCells b (o + l1.length) l2
  | [], o, w => rfl
  | v :: l1, o, w => by
    simp only [List.cons_append, World.setCells]
    rw [setCells_append b l2 l1 (o + 1)]
    simp only [List.length_cons]
    rw [show o + 1 + l1.length = o + (l1.length + 1) by omega]
theorem storeElems_sound {sz a : Nat} {x : Loc} (hx : ρ a = some x) : ∀ {els : List (List Value)} {s s' : AS} {w : World} {off : Nat} {us : List Value}, Rel P ρ s w → storeElems sz a els s off = some s' → VRels ρ els.flatten us → (∀ l ∈ els, l.length = sz) →
    ∃ w', (storeCells ⟨x.b, x.base + off, none⟩ us).run P w = .ok () w' ∧ Rel P ρ s' w' ∧ Stp ρ s w ρ s' w' := by
  intro els
  induction els with
  | nil =>
    intro s s' w off us hr h hv _
    cases h
    cases hv
    exact ⟨w, rfl, hr, .refl _ _ _⟩
  | cons l els ih =>
    intro s s' w off us hr h hv hl
    have h' : ob (storeN s a off l) (fun s' => storeElems sz a els s' (Nat.add off sz)) = some s' := h
    obtain ⟨s1, h1, h2⟩ := ob_some h'
    rw [List.flatten_cons] at hv
    have hlen := hl l (by simp)
    have hu1 := hv.take l.length
    have hu2 := hv.drop l.length
    rw [List.take_left] at hu1
    rw [List.drop_left] at hu2
    obtain ⟨w1, hrun1, _, hR1, hS1⟩ := storeN_sound hr hx h1 hu1
    obtain ⟨w2, hrun2, hR2, hS2⟩ := ih hR1 h2 hu2 (fun l hl' => hl l (by simp [hl']))
    refine ⟨w2, ?_, hR2, hS1.trans hS2⟩
    have e : us = us.take l.length ++ us.drop l.length := (List.take_append_drop _ _).symm
    rw [e, run_storeCells_append, hrun1, Result.andThen_ok, ← hu1.length]
    have := storeCells_shift x.b (x.base + off) l.length (us.drop l.length) 0
    rw [Nat.add_zero] at this
    rw [Nat.zero_add, this, hlen]
    rw [hlen] at hrun2
    have e4 : x.base + off + sz = x.base + off.add sz := Nat.add_assoc _ _ _
    rw [e4]
    exact hrun2
theorem repl_eq (z : List Value) : ∀ (n : Nat) (els : List (List Value)), repl z n = some els → els = List.replicate n z := by
  intro n
  induction n with
  | zero => intro els h; cases h; rfl
  | succ n ih =>
    intro els h
    have h' : ob (repl z n) (fun r => some (z :: r)) = some els := h
    obtain ⟨r, hr, h'⟩ := ob_some h'
    cases h'
    rw [ih _ hr]; rfl
theorem zeros_list (z : List Value) (n : Nat) : ((Array.range (n * z.length)).map fun i => z.toArray[i % z.length]!).toList = (List.replicate n z).flatten := by
  have hall : ∀ l ∈ List.replicate n z, l.length = z.length := fun l hl => by rw [(List.mem_replicate.1 hl).2]
  apply List.ext_getElem?
  intro j
  rw [Array.toList_map, List.getElem?_map, Array.toList_range]
  by_cases hj : j < n * z.length
  · have hz : 0 < z.length := by
      rcases Nat.eq_zero_or_pos z.length with h | h
      · rw [h] at hj; simp at hj
      · exact h
    rw [List.getElem?_range hj]
    have hi : j / z.length < n := Nat.div_lt_of_lt_mul (by rw [Nat.mul_comm]; exact hj)
    have hm := Nat.mod_lt j hz
    have hg := flat_get hall (i := j / z.length) (l := z) (by rw [List.getElem?_replicate, if_pos hi]) (j % z.length) hm
    rw [show j / z.length * z.length + j % z.length = j by rw [Nat.mul_comm]; exact Nat.div_add_mod j _] at hg
    rw [hg]
    simp [getElem!_def, hm]
  · rw [List.getElem?_eq_none (by simp; omega), List.getElem?_eq_none (by rw [flat_len hall]; simp; omega)]
    rfl
theorem VRels.replicate {z u : List Value} (h : VRels ρ z u) : ∀ n, VRels ρ (List.replicate n z).flatten (List.replicate n u).flatten
  | 0 => .nil
  | n + 1 => by
    rw [List.replicate_succ, List.replicate_succ, List.flatten_cons, List.flatten_cons]
    exact h.append (VRels.replicate h n)
end Go.Eng
/-! append, copy, clear; makers of rows. -/
namespace Go.Eng
open Go
variable {P : Program} {ρ : Ren}
/-- what an operation that makes or writes must give. -/
def Gives (P : Program) (ρ : Ren) (s : AS) (w : World) (m : Sem Value) (r : Value × AS) : Prop :=
  ∃ ρ' u w', m.run P w = .ok u w' ∧ VRel ρ' r.1 u ∧ Rel P ρ' r.2 w' ∧ Stp ρ s w ρ' r.2 w'
theorem elemInfo_some {e : TypeId} {sz : Nat} {z : List Value} (h : elemInfo P e = some (sz, z)) : ∃ i v, P.info? e = some i ∧ i.zero = some v ∧ z = v.cells.toList ∧ i.size = sz ∧ i.bytes ≤ 1000000 ∧ z.length = sz ∧ tsize P e = some sz ∧ VRels ρ z z ∧ tzeroV P e = some v := by
  unfold elemInfo at h
  obtain ⟨sz', hs, h⟩ := ob_some h
  obtain ⟨z', hz, h⟩ := ob_some h
  obtain ⟨b, hb, h⟩ := ob_some h
  obtain ⟨h1, h⟩ := bif'_some h
  obtain ⟨h2, h⟩ := bif'_some h
  cases h
  obtain ⟨v, hv, rfl⟩ := tzero_some hz
  obtain ⟨_, i, hi, hiz⟩ := tzeroV_some hv
  unfold tsize at hs
  unfold tbytes at hb
  rw [hi] at hs hb
  cases hs
  cases hb
  exact ⟨i, v, hi, hiz, rfl, rfl, Nat.le_of_ble_eq_true h1, by rw [← len_eq]; exact Nat.eq_of_beq_eq_true h2, by unfold tsize; rw [hi]; rfl, (tzeroV_rel hv).cells, hv⟩
theorem notInt_some {ts : Array TypeId} (h : notInt P ts = true) : ts[1]? = none ∨ ∃ t d, ts[1]? = some t ∧ P.underlying t = some d ∧ (∀ k, d ≠ .int k) := by
  unfold notInt at h
  split at h
  · rename_i ht; exact .inl ht
  · rename_i t ht
    split at h
    · cases h
    · rename_i d hne hd
      exact .inr ⟨t, d, ht, hd, fun k e => hne k (e ▸ rfl)⟩
    · cases h
section
variable {ts : Array TypeId} {t0 ty e : TypeId} {i : TypeInfo} {z x' : Value} {base : Option Addr} {n m cap : Nat} (w : World) (ht0 : ts[0]? = some t0) (hu : P.underlying t0 = some (.slice e)) (hi : P.info? e = some i)
  (hni : notInt P ts = true) (hlen : (Builtin.lenOf x').run P w = .ok m w)
include ht0 hu hi hni hlen
theorem run_append_in {new : Array Value} (hf : (Builtin.firstCells i.size m x').run P w = .ok new w) (hle : n + m ≤ cap) :
    (Builtin.append_ ts ty #[.slice base n cap, x']).run P w = (match base with
      | none => .ok (.slice none (n + m) cap) w
      | some a => ((storeCells (a.add (n * i.size)) new.toList).run P w).andThen fun _ w' => .ok (.slice (some a) (n + m) cap) w') := by
  have h0 : (#[Value.slice base n cap, x'] : Array Value)[0]? = some (.slice base n cap) := rfl
  have h1 : (#[Value.slice base n cap, x'] : Array Value)[1]? = some x' := rfl
  unfold Builtin.append_
  rcases notInt_some hni with ht1 | ⟨t1, d, ht1, hd, hne⟩
  · simp only [ht0, ht1, h0, h1, Sem.run_bind, run_underlying hu, Result.andThen_ok, sizeOf, typeInfo, hi, run_program, Sem.run_pure, Bool.false_eq_true, if_false, hlen, Bool.not_false, if_true, if_pos hle, hf]
    cases base <;> simp
  · cases d <;> first
      | exact (hne _ rfl).elim
      | (simp only [ht0, ht1, h0, h1, Sem.run_bind, run_underlying hu, run_underlying hd, Result.andThen_ok, sizeOf, typeInfo, hi, run_program, Sem.run_pure, Bool.false_eq_true, if_false, hlen, Bool.not_false, if_true, if_pos hle, hf]
         cases base <;> simp)
theorem run_append_new {z : Value} {new old : Array Value} (hz0 : i.zero = some z) (hfo : (Builtin.firstCells i.size n (.slice base n cap)).run P w.drew = .ok old w.drew) (hf : (Builtin.firstCells i.size m x').run P w.drew = .ok new w.drew)
    (hle : cap < n + m) (hm : n + m ≤ 1000000) (hb : i.bytes ≤ 1000000) :
    (Builtin.append_ ts ty #[.slice base n cap, x']).run P w = .ok (.slice (some ⟨w.heap.size, 0, none⟩) (n + m) (grownCap w (n + m) cap e))
      (w.drew.alloc (.cells (old ++ new ++ Builtin.zeroCells z.cells (grownCap w (n + m) cap e - (n + m))) e)) := by
  have h0 : (#[Value.slice base n cap, x'] : Array Value)[0]? = some (.slice base n cap) := rfl
  have h1 : (#[Value.slice base n cap, x'] : Array Value)[1]? = some x' := rfl
  have hn : ¬ (n + m ≤ cap) := by omega
  have h63' : ¬ (9223372036854775807 < ((n + m : Nat) : Int)) := by omega
  have hmul : (n + m) * i.bytes ≤ 1000000 * 1000000 := Nat.mul_le_mul hm hb
  have h48 := growslice_fits (bytes := i.bytes) hle (by omega)
  have h48' : ¬ (Builtin.nextslicecap (n + m) cap * i.bytes > 2 ^ 48) := by simpa using h48
  have hmax : IntKind.i64.max = 9223372036854775807 := rfl
  have hn63 : ¬ (((n + m : Nat) : Int) > IntKind.i64.max) := by rw [hmax]; exact h63'
  have hdrew : ({ w with drawn := w.drawn + 1 } : World) = w.drew := rfl
  unfold Builtin.append_
  rcases notInt_some hni with ht1 | ⟨t1, d, ht1, hd, hne⟩
  · simp only [ht0, ht1, h0, h1, Sem.run_bind, run_underlying hu, Result.andThen_ok, sizeOf, typeInfo, hi, run_program, Sem.run_pure, Bool.false_eq_true, if_false, hlen, Bool.not_false, if_true, if_neg hn, Bool.not_true,
      hn63, false_and, h48', run_choose, Question.forced, run_askRoom, hdrew, hfo, hf, zeroValue, hz0, newRow, run_newObj_alloc]
    rfl
  · cases d <;> first
      | exact (hne _ rfl).elim
      | (simp only [ht0, ht1, h0, h1, Sem.run_bind, run_underlying hu, run_underlying hd, Result.andThen_ok, sizeOf, typeInfo, hi, run_program, Sem.run_pure, Bool.false_eq_true, if_false, hlen, Bool.not_false, if_true, if_neg hn, Bool.not_true,
          hn63, false_and, h48', run_choose, Question.forced, run_askRoom, hdrew, hfo, hf, zeroValue, hz0, newRow, run_newObj_alloc]
         rfl)
end
theorem isIntT_some {ts : Array TypeId} (h : isIntT P ts = true) : ∃ t k, ts[1]? = some t ∧ P.underlying t = some (.int k) := by
  unfold isIntT at h
  split at h
  · cases h
  · rename_i t ht
    split at h
    · rename_i k hk; exact ⟨t, k, ht, hk⟩
    · cases h
theorem run_append_newZ {ts : Array TypeId} {t0 t1 ty e : TypeId} {i : TypeInfo} {z : Value} {base : Option Addr} {n m cap : Nat} {kk : IntKind} {old : Array Value} (w : World) (ht0 : ts[0]? = some t0) (hu : P.underlying t0 = some (.slice e)) (hi : P.info? e = some i)
    (ht1 : ts[1]? = some t1) (hd : P.underlying t1 = some (.int kk)) (hz0 : i.zero = some z) (hfo : (Builtin.firstCells i.size n (.slice base n cap)).run P w.drew = .ok old w.drew) (hm0 : 0 < m * i.size)
    (hle : cap < n + m) (hm : n + m ≤ 1000000) (hb : i.bytes ≤ 1000000) :
    (Builtin.append_ ts ty #[.slice base n cap, .int .i64 (m : Int)]).run P w = .ok (.slice (some ⟨w.heap.size, 0, none⟩) (n + m) (grownCap w (n + m) cap e))
      (w.drew.alloc (.cells (old ++ Builtin.zeroCells z.cells m ++ Builtin.zeroCells z.cells (grownCap w (n + m) cap e - (n + m))) e)) := by
  have h0 : (#[Value.slice base n cap, .int .i64 (m : Int)] : Array Value)[0]? = some (.slice base n cap) := rfl
  have h1 : (#[Value.slice base n cap, .int .i64 (m : Int)] : Array Value)[1]? = some (.int .i64 (m : Int)) := rfl
  have hn : ¬ (n + m ≤ cap) := by omega
  have hmul : (n + m) * i.bytes ≤ 1000000 * 1000000 := Nat.mul_le_mul hm hb
  have h48 := growslice_fits (bytes := i.bytes) hle (by omega)
  have h48' : ¬ (Builtin.nextslicecap (n + m) cap * i.bytes > 2 ^ 48) := by simpa using h48
  have hmax : IntKind.i64.max = 9223372036854775807 := rfl
  have hn63 : ¬ (((n + m : Nat) : Int) > IntKind.i64.max) := by rw [hmax]; omega
  have hdrew : ({ w with drawn := w.drawn + 1 } : World) = w.drew := rfl
  have hwrap : IntKind.i64.wrap (m : Int) = (m : Int) := by
    have : (m : Int) < 9223372036854775808 := by omega
    unfold IntKind.wrap
    simp [IntKind.signed, IntKind.bits]
    omega
  have hneg : ¬ ((m : Int) < 0) := by omega
  have hmb : m * i.bytes ≤ 1000000 * 1000000 := Nat.mul_le_mul (by omega) hb
  have hbig : ¬ ((m : Int) * (i.bytes : Int) > 2 ^ 48) := by
    have : (m : Int) * (i.bytes : Int) = ((m * i.bytes : Nat) : Int) := by simp
    rw [this]; omega
  have hz1 : ¬ (m * i.size = 0) := by omega
  have htn : (m : Int).toNat = m := by simp
  have hai : (asInt (.int .i64 (m : Int))).run P w = .ok (m : Int) w := rfl
  unfold Builtin.append_
  simp only [ht0, ht1, h0, h1, Sem.run_bind, run_underlying hu, run_underlying hd, Result.andThen_ok, sizeOf, typeInfo, hi, run_program, Sem.run_pure, if_true, hai, hwrap, hneg, if_false, hbig, htn, Bool.not_true, Bool.false_eq_true, hz1, if_neg hn,
    hn63, false_and, h48', run_choose, Question.forced, run_askRoom, hdrew, hfo, zeroValue, hz0, newRow, run_newObj_alloc]
  rfl
theorem capLB_le {base : Option Addr} {n c : Nat} {x' : Value} (h : VRel ρ (.slice base n c) x') : ∃ base' cap, x' = .slice base' n cap ∧ capLB base c ≤ cap ∧ n ≤ capLB base c ∧ (capEx base c = true → cap = capLB base c) := by
  cases h with
  | sliceNil => exact ⟨none, 0, rfl, Nat.le_refl _, Nat.le_refl _, fun _ => rfl⟩
  | slice off n c cap ad hx h1 h2 h3 h4 h5 => exact ⟨some ad, cap, rfl, h2, h1, fun h => h3 (Nat.eq_of_beq_eq_true h)⟩
theorem grownCap_le (w : World) {need : Nat} (old : Nat) (e : TypeId) : need ≤ grownCap w need old e := by
  show need ≤ need + _ % _
  omega
theorem lenOf_run {v v' : Value} {n : Nat} (w : World) (h : lenOf v = some n) (hv : VRel ρ v v') : (Builtin.lenOf v').run P w = .ok n w ∧ ∀ b m c, v = .slice b m c → n ≤ m := by
  unfold lenOf at h
  split at h
  · cases h
    obtain ⟨b, c, rfl, _⟩ := capLB_le hv
    exact ⟨rfl, fun b m c e => by cases e; exact Nat.le_refl _⟩
  · cases h
    cases hv
    refine ⟨?_, fun b m c e => by cases e⟩
    rw [len_eq]
    rfl
  · cases h
theorem zeroCells_list (z : Array Value) (n : Nat) : (Builtin.zeroCells z n).toList = (List.replicate n z.toList).flatten := by
  have := zeros_list z.toList n
  unfold Builtin.zeroCells
  simpa using this
theorem drew_rel {s : AS} {w : World} (h : Rel P ρ s w) : Rel P ρ s w.drew := h.of_heap rfl
/-- a row whose cells are all there, written or not. -/
theorem row_cell {t : T (List Value)} {ls : List (List Value)} {sz n b base : Nat} {cs : List Value} {w : World} (ht : rowT ls 0 .e = some t) (hl : ∀ l ∈ ls, l.length = sz) (hn : ls.length = n) (hc : VRels ρ ls.flatten cs)
    (hg : ∀ (j : Nat) (u : Value), cs[j]? = some u → w.cell? ⟨b, base + j, none⟩ = some u) :
    ∀ i l, t.get i = some l → i < n ∧ l.length = sz ∧ ∀ (j : Nat) (v : Value), l[j]? = some v → ∃ u, w.cell? ⟨b, base + (i * sz + j), none⟩ = some u ∧ VRel ρ v u := by
  intro i l hil
  rw [rowT_get _ _ _ _ ht i] at hil
  by_cases hc' : 0 ≤ i ∧ i < 0 + ls.length
  · rw [if_pos hc', Nat.sub_zero] at hil
    refine ⟨by omega, hl l (List.mem_of_getElem? hil), fun j v hv => ?_⟩
    have hj : j < sz := by
      rw [← hl l (List.mem_of_getElem? hil)]
      exact (List.getElem?_eq_some_iff.1 hv).1
    have hf := flat_get hl hil j hj
    rw [hv] at hf
    obtain ⟨u, hu', hr'⟩ := hc.get hf
    exact ⟨u, hg _ _ hu', hr'⟩
  · rw [if_neg hc'] at hil; cases hil
/-- A BLOCK IS FORGOTTEN, AND COMES BACK AS ANOTHER. -/
theorem Rel.again {s s1 s2 : AS} {w w' : World} {a : Nat} {k k' : Blk} {x y : Loc} (hr : Rel P ρ s w) (hs : s.set a none = some s1) (hs2 : s1.new k' = some s2)
    (hk : s.h.get a = some k) (hro : isRo k = false) (hx : ρ a = some x) (hy : y.b = x.b) (hsz : w'.heap.size = w.heap.size) (hold : ∀ b, b ≠ x.b → w'.heap[b]? = w.heap[b]?)
    (ht : w'.tape = w.tape) (ho : w'.os = w.os) (hu : w'.output = w.output) (hb : BRel P (ρ.put s.nx y) y w' k') (hlk : isLoop k = false) :
    Rel P (ρ.put s.nx y) s2 w' ∧ Stp ρ s w (ρ.put s.nx y) s2 w' := by
  obtain ⟨hnx, hg⟩ := AS.set_eq hs
  obtain ⟨hnx2, hg2⟩ := AS.new_eq hs2
  have halt : a < s.nx := by
    rcases Nat.lt_or_ge a s.nx with h | h
    · exact h
    · rw [hr.dom a h] at hx; cases hx
  have hlt := (hr.blk a k x hk hx).1
  have hne : ∀ a' k2 x2, a' ≠ a → s.h.get a' = some k2 → ρ a' = some x2 → x2.b ≠ x.b := fun a' k2 x2 h e r hb' => by
    have := (hr.excl a' a k2 k x2 x h e hk r hx hb').2
    rw [hro] at this; cases this
  have hle : RenLe ρ (ρ.put s.nx y) := fun b z e => by
    unfold Ren.put
    by_cases ha : b = s.nx
    · rw [ha, hr.dom _ (Nat.le_refl _)] at e; cases e
    · rw [if_neg ha]; exact e
  have hput : ∀ b, b ≠ s.nx → (ρ.put s.nx y) b = ρ b := fun a ha => by unfold Ren.put; rw [if_neg ha]
  have hget : ∀ {b k2}, s2.h.get b = some k2 → (b = s.nx ∧ k2 = k') ∨ (b ≠ s.nx ∧ b ≠ a ∧ s.h.get b = some k2) := fun {b k2} e => by
    rw [hg2, hnx] at e
    by_cases hb : b = s.nx
    · rw [if_pos hb] at e; cases e; exact .inl ⟨hb, rfl⟩
    · rw [if_neg hb, hg] at e
      by_cases ha : b = a
      · rw [if_pos ha] at e; cases e
      · rw [if_neg ha] at e; exact .inr ⟨hb, ha, e⟩
  have hl2 : s2.lim = s.lim := (AS.new_lim hs2).trans (AS.set_lim hs).1
  refine (fun (hS : Stp ρ s w (ρ.put s.nx y) s2 w') => ⟨⟨fun b hb' => ?_, fun b hb' => ?_, fun b k2 z e e' => ?_, by rw [hl2]; have := hr.lim; omega, fun b b' k1 k2 x1 x2 hne' e1 e2 r1 r2 hbb => ?_, hr.gl.of hS.size hS.frame⟩, hS⟩) ⟨fun b hb' => ?_, by omega, ht, ho, hu, by omega, fun b hb' hn => ?_, fun b hb' hn => ?_, fun b r hb' => ?_, hl2, fun b hb' => by rw [hg2, hnx, if_neg (by have := hr.lim; omega), AS.set_low hs b hb'], fun b k2 z hl _ hk2 _ hz => hold _ (hne b k2 z (by have := (AS.set_lim hs).2; omega) hk2 hz)⟩
  · rw [hput b (by omega)]
  · have hbx : b ≠ x.b := fun e => hn ⟨a, k, x, hk, hx, e.symm⟩
    refine ⟨hold b hbx, ?_⟩
    rintro ⟨c, k2, z, e, e', rfl⟩
    rcases hget e with ⟨rfl, rfl⟩ | ⟨h1, h2, h3⟩
    · rw [put_self] at e'; cases e'; exact hbx hy
    · rw [hput c h1] at e'; exact hn ⟨c, k2, z, h3, e', rfl⟩
  · exact .inl (by rw [hg2, hnx, if_neg (by omega), hg, if_neg (fun e => by rw [e, hx] at hn; cases hn)])
  · by_cases hbx : b = x.b
    · subst hbx
      have := brel_loop hb' (hr.blk a k x hk hx).2
      rw [hlk] at this; cases this
    · exact ⟨r, by rw [hold b hbx]; exact hb'⟩
  · rw [hput b (by omega)]; exact hr.dom b (by omega)
  · rw [hg2, hnx, if_neg (by omega), hg, if_neg (by omega)]; exact hr.top b (by omega)
  · rcases hget e with ⟨rfl, rfl⟩ | ⟨h1, h2, h3⟩
    · rw [put_self] at e'; cases e'; exact ⟨by rw [hy]; omega, hb⟩
    · rw [hput b h1] at e'
      obtain ⟨q1, q2⟩ := hr.blk b k2 z h3 e'
      exact ⟨by omega, (q2.congr (hold _ (hne b k2 z h2 h3 e'))).mono hle⟩
  · rcases hget e1 with ⟨rfl, rfl⟩ | ⟨h1, h2, h3⟩
    · rcases hget e2 with ⟨rfl, rfl⟩ | ⟨h1, h2, h3⟩
      · exact (hne' rfl).elim
      · rw [put_self] at r1; cases r1
        rw [hput b' h1] at r2
        exact (hne b' k2 x2 h2 h3 r2 (by rw [← hbb, hy])).elim
    · rw [hput b h1] at r1
      rcases hget e2 with ⟨rfl, rfl⟩ | ⟨h4, h5, h6⟩
      · rw [put_self] at r2; cases r2
        exact (hne b k1 x1 h2 h3 r1 (by rw [hbb, hy])).elim
      · rw [hput b' h4] at r2
        exact hr.excl b b' k1 k2 x1 x2 hne' h3 h6 r1 r2 hbb

end Go.Eng
namespace Go.Eng
open Go
variable {P : Program} {ρ : Ren}
theorem sliceElems_cells {s : AS} {w : World} {sz n off c a : Nat} {x : Loc} {els : List (List Value)} (hr : Rel P ρ s w) (hx : ρ a = some x) (h : sliceElems s sz (.slice (some ⟨a, off, none⟩) n c) n = some els) :
    (∀ l ∈ els, l.length = sz) ∧ els.length = n ∧ ∃ cs, VRels ρ els.flatten cs ∧ cs.length = n * sz ∧ ∀ (j : Nat) (u : Value), cs[j]? = some u → w.cell? ⟨x.b, x.base + off + j, none⟩ = some u := by
  cases n with
  | zero => cases h; exact ⟨fun l hl => (by cases hl), rfl, [], .nil, by simp, fun j u h => by simp at h⟩
  | succ n =>
    have h : blkElems (s.h.get a) sz off (n + 1) = some els := h
    obtain ⟨hl, h4, r⟩ := blkElems_sound hr hx h
    exact ⟨h4, hl, r⟩
theorem VRels.two {a b : Value} {l : List Value} (h : VRels ρ [a, b] l) : ∃ a' b', l = [a', b'] ∧ VRel ρ a a' ∧ VRel ρ b b' := by
  cases h with
  | cons h1 h =>
    cases h with
    | cons h2 h => cases h; exact ⟨_, _, rfl, h1, h2⟩
theorem VRels.onev {a : Value} {l : List Value} (h : VRels ρ [a] l) : ∃ a', l = [a'] ∧ VRel ρ a a' := by
  cases h with
  | cons h1 h => cases h; exact ⟨_, rfl, h1⟩
theorem oneCellss_all : ∀ {l : List (List Value)}, oneCellss l = true → ∀ v ∈ l.flatten, oneCell v = true := by
  intro l
  induction l with
  | nil => intro _ v hv; simp at hv
  | cons a l ih =>
    intro h v hv
    have h' : bif' (oneCells a) (oneCellss l) false = true := h
    rw [bif'_eq] at h'
    split at h'
    · rename_i ha
      rw [List.flatten_cons, List.mem_append] at hv
      rcases hv with hv | hv
      · exact oneCells_all ha v hv
      · exact ih h' v hv
    · cases h'
theorem rowLB_some {s : AS} {et : TypeId} {sz n : Nat} {els : List (List Value)} {r : Value × AS} (h : rowLB s et sz els n = some r) :
    sz < 256 ∧ els.length = n ∧ (∀ l ∈ els, l.length = sz) ∧ ∃ t s', rowT els 0 .e = some t ∧ s.new (.cells t sz n false et) = some s' ∧ r = (.slice (some ⟨s.nx, 0, none⟩) n (codeLB n sz), s') := by
  unfold rowLB at h
  replace h := bif'_some h; obtain ⟨hsz, h⟩ := h
  unfold newRowO at h
  replace h := bif'_some h; obtain ⟨hn, h⟩ := h
  replace h := bif'_some h; obtain ⟨hl, h⟩ := h
  replace h := orec_some h; obtain ⟨t, ht', h⟩ := h
  replace h := orec_some h; obtain ⟨s1, hs1, h⟩ := h
  exact ⟨Nat.le_of_ble_eq_true hsz, by rw [← len_eq]; exact Nat.eq_of_beq_eq_true hn, sameLen_all hl, t, s1, ht', hs1, mkSl_some h⟩
theorem CellsAt.ro {x : Loc} {w : World} {c sz n ro et} (h : CellsAt P ρ x w c sz n ro et) : CellsAt P ρ x w c sz n true et := ⟨h.cell, h.all, fun e => (by cases e), h.shape, h.mult⟩
theorem revive_ok {ρ' : Ren} {s s1 s2 : AS} {w w' : World} {i nm cd sz m : Nat} {et : TypeId} {x : Loc} {cc t : T (List Value)} {r : Value × AS} {u : Value} (hr0 : Rel P ρ s w) (hx : ρ i = some x) (hb : s.h.get i = some (.cells cc sz m false et)) (hs1 : s.set i none = some s1) (hnew : s1.new (.cells t sz nm false et) = some s2)
    (hR : Rel P ρ' s2 w') (hS : Stp ρ s w ρ' s2 w') (hC : CellsAt P ρ x w' cc sz m false et) (hxb : x.b < w'.heap.size) (hv : VRel ρ' (.slice (some ⟨s1.nx, 0, none⟩) nm cd) u) (h : reviveUp i cc sz m et (.slice (some ⟨s1.nx, 0, none⟩) nm cd, s2) = some r) : VRel ρ' r.1 u ∧ Rel P ρ' r.2 w' ∧ Stp ρ s w ρ' r.2 w' := by
  have h : (cellsOf? (s2.h.get s1.nx) fun cc2 sz2 m2 _ et2 => ob (s2.set s1.nx (some (.cells cc2 sz2 m2 true et2))) fun s3 => ob (s3.set i (some (.cells cc sz m true et))) fun s4 => some ((.slice (some ⟨s1.nx, 0, none⟩) nm cd : Value), s4)) = some r := h
  obtain ⟨hn1, hg1⟩ := AS.set_eq hs1
  obtain ⟨hn2, hg2⟩ := AS.new_eq hnew
  obtain ⟨hl1, hli⟩ := AS.set_lim hs1
  have hl2 := AS.new_lim hnew
  have hget2 : s2.h.get s1.nx = some (.cells t sz nm false et) := by rw [hg2, if_pos rfl]
  rw [hget2] at h
  have h : (ob (s2.set s1.nx (some (.cells t sz nm true et))) fun s3 => ob (s3.set i (some (.cells cc sz m true et))) fun s4 => some ((.slice (some ⟨s1.nx, 0, none⟩) nm cd : Value), s4)) = some r := h
  replace h := ob_some h
  obtain ⟨s3, hs3, h⟩ := h
  replace h := ob_some h
  obtain ⟨s4, hs4, h⟩ := h
  cases h
  obtain ⟨hn3, hg3⟩ := AS.set_eq hs3
  obtain ⟨hn4, hg4⟩ := AS.set_eq hs4
  have hl3 := (AS.set_lim hs3).1
  have hl4 := (AS.set_lim hs4).1
  have hilt : i < s.nx := Nat.lt_of_not_le fun hle => by rw [hr0.dom i hle] at hx; cases hx
  have hine : i ≠ s1.nx := by omega
  have hx' : ρ' i = some x := by rw [hS.ren i hilt]; exact hx
  have hle := hS.le hr0
  have hget : ∀ {j k}, s4.h.get j = some k → (j = i ∧ k = .cells cc sz m true et) ∨ (j = s1.nx ∧ k = .cells t sz nm true et) ∨ (j ≠ i ∧ j ≠ s1.nx ∧ s2.h.get j = some k ∧ s.h.get j = some k) := fun {j k} e => by
    rw [hg4] at e
    by_cases h1 : j = i
    · rw [if_pos h1] at e; cases e; exact .inl ⟨h1, rfl⟩
    · rw [if_neg h1, hg3] at e
      by_cases h2 : j = s1.nx
      · rw [if_pos h2] at e; cases e; exact .inr (.inl ⟨h2, rfl⟩)
      · rw [if_neg h2] at e
        refine .inr (.inr ⟨h1, h2, e, ?_⟩)
        rw [hg2, if_neg h2, hg1, if_neg h1] at e; exact e
  have other : ∀ {j k z}, j ≠ i → j ≠ s1.nx → s.h.get j = some k → ρ' j = some z → z.b ≠ x.b := fun {j k z} h1 h2 e e' hz => by
    have hj : j < s.nx := Nat.lt_of_not_le fun hle => by rw [hr0.top j hle] at e; cases e
    rw [hS.ren j hj] at e'
    have := (hr0.excl j i k _ z x h1 e hb e' hx hz).2
    cases this
  show VRel ρ' (.slice (some ⟨s1.nx, 0, none⟩) nm cd) u ∧ Rel P ρ' s4 w' ∧ Stp ρ s w ρ' s4 w'
  refine (fun (hS' : Stp ρ s w ρ' s4 w') => ⟨hv, ⟨fun a ha => hR.dom a (by omega), fun a ha => ?_, fun a k z e e' => ?_, by rw [hl4, hl3, hn4, hn3]; exact hR.lim, fun a a' k k' z z' hne e1 e2 r1 r2 hbb => ?_, hr0.gl.of hS'.size hS'.frame⟩, hS'⟩) ⟨hS.ren, by have := hS.nx; omega, hS.tape, hS.os, hS.out, hS.size, fun b hb' hn => ?_, fun a ha hn => ?_, hS.lp, by rw [hl4, hl3]; exact hS.lim, fun a ha => ?_, hS.lowW⟩
  · obtain ⟨q1, q2⟩ := hS.frame b hb' hn
    refine ⟨q1, ?_⟩
    rintro ⟨a, k, z, e, e', rfl⟩
    rcases hget e with ⟨rfl, rfl⟩ | ⟨rfl, rfl⟩ | ⟨_, _, h2, _⟩
    · rw [hx'] at e'; cases e'
      exact hn ⟨a, _, x, hb, hx, rfl⟩
    · exact q2 ⟨_, _, z, hget2, e', rfl⟩
    · exact q2 ⟨a, k, z, h2, e', rfl⟩
  · have h1 : a ≠ i := fun e => by rw [e, hx] at hn; cases hn
    rw [hg4, if_neg h1, hg3, if_neg (by omega)]
    exact hS.ph a ha hn
  · have := hr0.lim
    rw [hg4, if_neg (by omega), hg3, if_neg (by omega)]
    exact hS.low a ha
  · rw [hg4, if_neg (by omega), hg3, if_neg (by omega)]; exact hR.top a (by omega)
  · rcases hget e with ⟨rfl, rfl⟩ | ⟨rfl, rfl⟩ | ⟨_, _, h2, _⟩
    · rw [hx'] at e'; cases e'
      exact ⟨hxb, (hC.mono hle).ro⟩
    · obtain ⟨q1, q2⟩ := hR.blk _ _ z hget2 e'
      have q2 : CellsAt P ρ' z w' t sz nm false et := q2
      exact ⟨q1, q2.ro⟩
    · exact hR.blk a k z h2 e'
  · rcases hget e1 with ⟨rfl, rfl⟩ | ⟨rfl, rfl⟩ | ⟨p1, p2, p3, p4⟩
    · rcases hget e2 with ⟨rfl, rfl⟩ | ⟨rfl, rfl⟩ | ⟨q1, q2, q3, q4⟩
      · exact ⟨rfl, rfl⟩
      · exact ⟨rfl, rfl⟩
      · rw [hx'] at r1; cases r1
        exact (other q1 q2 q4 r2 hbb.symm).elim
    · rcases hget e2 with ⟨rfl, rfl⟩ | ⟨rfl, rfl⟩ | ⟨q1, q2, q3, q4⟩
      · exact ⟨rfl, rfl⟩
      · exact ⟨rfl, rfl⟩
      · have := (hR.excl _ a' _ k' z z' hne hget2 q3 r1 r2 hbb).1
        cases this
    · rcases hget e2 with ⟨rfl, rfl⟩ | ⟨rfl, rfl⟩ | ⟨q1, q2, q3, q4⟩
      · rw [hx'] at r2; cases r2
        exact (other p1 p2 p4 r1 hbb).elim
      · have := (hR.excl a _ k _ z z' hne p3 hget2 r1 r2 hbb).2
        cases this
      · exact hR.excl a a' k k' z z' hne p3 q3 r1 r2 hbb

theorem replFlat {z : List Value} : ∀ {n : Nat} {els : List (List Value)}, repl z n = some els → els = List.replicate n z
  | 0, els, h => by cases h; rfl
  | n + 1, els, h => by
    have h : ob (repl z n) (fun r => some (z :: r)) = some els := h
    obtain ⟨r, hr, h⟩ := ob_some h
    cases h
    rw [replFlat hr]; rfl
/-- so many zeros behind a slice whose capacity is known, and too small. -/
theorem appendZ_sound {ts : Array TypeId} {t0 t1 ty e : TypeId} {kk : IntKind} {sz : Nat} {z : List Value} {s : AS} {w : World} {l l' : List Value} {r : Value × AS} (hr : Rel P ρ s w) (hei : elemInfo P e = some (sz, z)) (ht0 : ts[0]? = some t0) (hu : P.underlying t0 = some (.slice e))
    (ht1 : ts[1]? = some t1) (hd : P.underlying t1 = some (.int kk)) (h : appendZ s e sz z l = some r) (hl : VRels ρ l l') : Gives P ρ s w (Builtin.append_ ts ty l'.toArray) r := by
  obtain ⟨i, zv, hi, hiz, hz, hsz, hbytes, hzl, hts, hzr, _⟩ := elemInfo_some (ρ := ρ) hei
  unfold appendZ at h
  split at h
  case h_2 => cases h
  rename_i base n c m
  replace h := bif'_some h; obtain ⟨hex, h⟩ := h
  replace h := bif'_some h; obtain ⟨hlt, h⟩ := h
  replace h := bif'_some h; obtain ⟨hm6, h⟩ := h
  replace h := bif'_some h; obtain ⟨hm0, h⟩ := h
  replace h := ob_some h; obtain ⟨old, hold, h⟩ := h
  replace h := ob_some h; obtain ⟨els, hels, h⟩ := h
  replace h := ob_some h; obtain ⟨all, hall, h⟩ := h
  rw [appO_eq] at hall
  replace hall : all = old ++ els := (Option.some.inj hall).symm
  obtain ⟨x', y', rfl, hx, hy⟩ := VRels.two hl
  cases hy
  have hargs : ([x', .int .i64 (m : Int)] : List Value).toArray = #[x', .int .i64 (m : Int)] := rfl
  show Gives P ρ s w (Builtin.append_ ts ty ([x', .int .i64 (m : Int)] : List Value).toArray) r
  rw [hargs]
  obtain ⟨base', cap, rfl, hc1, hc2, hc3⟩ := capLB_le hx
  have hcap := hc3 hex
  have hlt : capLB base c < n + m := by have := Nat.le_of_ble_eq_true hlt; exact this
  have hm6 : n + m ≤ 1000000 := Nat.le_of_ble_eq_true hm6
  have hm0 : 0 < m * sz := by have := Nat.le_of_ble_eq_true hm0; exact this
  obtain ⟨b1, b2, os, hos, hosl, hfo⟩ := sliceElems_sound (drew_rel hr) hold hx (fun b m c e => by cases e; exact Nat.le_refl _)
  rw [← hsz] at hfo
  have hrun := run_append_newZ (P := P) (ty := ty) w ht0 hu hi ht1 hd hiz hfo (by rw [hsz]; exact hm0) (show cap < n + m by omega) hm6 hbytes
  have hge := grownCap_le w (need := n + m) cap e
  have hels' := replFlat hels
  have hrepl : ∀ q, VRels ρ (List.replicate q z).flatten (List.replicate q z).flatten := fun q => by
    induction q with
    | zero => exact .nil
    | succ q ih => rw [List.replicate_succ, List.flatten_cons]; exact hzr.append ih
  have hflen : ∀ q, (List.replicate q z).flatten.length = q * sz := fun q => by
    rw [flat_len (sz := sz) (fun l hl => by rw [(List.mem_replicate.1 hl).2, hzl]), List.length_replicate]
  have hcell : os.toArray ++ Builtin.zeroCells zv.cells m ++ Builtin.zeroCells zv.cells (grownCap w (n + m) cap e - (n + m)) = ((os ++ (List.replicate m z).flatten) ++ (List.replicate (grownCap w (n + m) cap e - (n + m)) z).flatten).toArray := by
    apply Array.ext'
    rw [hz]
    simp only [Array.toList_append, zeroCells_list]
  rw [hcell] at hrun
  have hrel : VRels ρ all.flatten (os ++ (List.replicate m z).flatten) := by rw [hall, List.flatten_append, hels']; exact hos.append (hrepl m)
  obtain ⟨ρ', hv, hR, hS⟩ := rowLB_sound (rest := (List.replicate (grownCap w (n + m) cap e - (n + m)) z).flatten) (lo := 0) (hi := 0) (cap := grownCap w (n + m) cap e)
    (w' := w.drew.alloc (.cells ((os ++ (List.replicate m z).flatten) ++ (List.replicate (grownCap w (n + m) cap e - (n + m)) z).flatten).toArray e)) hr h hrel hge
    (by rw [List.length_append, hosl, hflen, hflen, ← Nat.add_mul, ← Nat.add_mul]; congr 1; omega) (fun o h1 h2 => by omega) rfl rfl rfl rfl
  exact ⟨ρ', _, _, hrun, hv, hR, hS⟩
theorem append2_sound {sh : Bool} {ts : Array TypeId} {ty : TypeId} {s : AS} {w : World} {l l' : List Value} {r : Value × AS} (hr : Rel P ρ s w) (h : append2 P sh ts s l = some r) (hl : VRels ρ l l') :
    Gives P ρ s w (Builtin.append_ ts ty l'.toArray) r := by
  unfold append2 at h
  replace h := ob_some h; obtain ⟨e, he, h⟩ := h
  replace h := ob_some h; obtain ⟨⟨sz, z⟩, hei, h⟩ := h
  obtain ⟨i, zv, hi, hiz, hz, hsz, hbytes, hzl, hts, _⟩ := elemInfo_some (ρ := ρ) hei
  have hut : ∃ t0, ts[0]? = some t0 ∧ P.underlying t0 = some (.slice e) := by
    unfold elemTs argT at he
    split at he
    · rename_i e' he'
      cases he
      split at he'
      · rename_i t ht; exact ⟨t, ht, he'⟩
      · cases he'
    · cases he
  obtain ⟨t0, ht0, hu⟩ := hut
  rw [bif'_eq] at h
  split at h
  case isFalse =>
    replace h := bif'_some h
    obtain ⟨hit, h⟩ := h
    obtain ⟨t1, kk, ht1, hd⟩ := isIntT_some hit
    exact appendZ_sound hr hei ht0 hu ht1 hd h hl
  rename_i hni
  split at h
  case h_2 => cases h
  rename_i x y
  replace h := ob_some h; obtain ⟨m, hm, h⟩ := h
  replace h := ob_some h; obtain ⟨els, hels, h⟩ := h
  obtain ⟨x', y', rfl, hx, hy⟩ := VRels.two hl
  have hargs : ([x', y'] : List Value).toArray = #[x', y'] := rfl
  rw [hargs]
  obtain ⟨hlen, hmle⟩ := lenOf_run w hm hy
  unfold appendA at h
  split at h
  case h_2 => cases h
  rename_i base n c
  change bif' (Nat.ble (Nat.add n m) (capLB base c)) (appendIn s sz base n m c els)
      (bif' (Nat.ble (Nat.add n m) 1000000) (ob (sliceElems s sz (.slice base n c) n) fun old => ob (appO old els) fun all =>
        bif' (capEx base c) (rowLB s e sz all (Nat.add n m)) (bif' (oneCellss els) (appendUp sh s e sz base n (Nat.add n m) c all) none)) none) = some r at h
  obtain ⟨base', cap, rfl, hc1, hc2, hc3⟩ := capLB_le hx
  -- a new row
  have hnew : cap < n + m → n + m ≤ 1000000 → ∀ {s1 : AS} {all old : List (List Value)} {r : Value × AS}, Rel P ρ s1 w → sliceElems s sz (.slice base n c) n = some old → all = old ++ els → rowLB s1 e sz all (Nat.add n m) = some r →
      ∃ ρ' u w', (Builtin.append_ ts ty #[.slice base' n cap, y']).run P w = .ok u w' ∧ VRel ρ' r.1 u ∧ Rel P ρ' r.2 w' ∧ Stp ρ s1 w ρ' r.2 w' ∧ (∀ b, b < w.heap.size → w'.heap[b]? = w.heap[b]?) := by
    intro hcap hm6 s1 all old r hr1 hold hall hrow
    obtain ⟨a1, a2, cs, hcs, hcsl, hf⟩ := sliceElems_sound (drew_rel hr) hels hy hmle
    obtain ⟨b1, b2, os, hos, hosl, hfo⟩ := sliceElems_sound (drew_rel hr) hold hx (fun b m c e => by cases e; exact Nat.le_refl _)
    rw [← hsz] at hf hfo
    have hrun := run_append_new (P := P) (ty := ty) w ht0 hu hi hni hlen hiz hfo hf hcap hm6 hbytes
    have hzr := zeroCells_list zv.cells (grownCap w (n + m) cap e - (n + m))
    have hcell : os.toArray ++ cs.toArray ++ Builtin.zeroCells zv.cells (grownCap w (n + m) cap e - (n + m)) = ((os ++ cs) ++ (List.replicate (grownCap w (n + m) cap e - (n + m)) z).flatten).toArray := by
      apply Array.ext'
      rw [hz]
      simp only [Array.toList_append, hzr]
    rw [hcell] at hrun
    have hge := grownCap_le w (need := n + m) cap e
    have hrel : VRels ρ all.flatten (os ++ cs) := by rw [hall, List.flatten_append]; exact hos.append hcs
    have hzfl : (List.replicate (grownCap w (n + m) cap e - (n + m)) z).flatten.length = (grownCap w (n + m) cap e - (n + m)) * sz := by
      rw [flat_len (sz := sz) (fun l hl => by rw [(List.mem_replicate.1 hl).2, hzl]), List.length_replicate]
    obtain ⟨ρ', hv, hR, hS⟩ := rowLB_sound (rest := (List.replicate (grownCap w (n + m) cap e - (n + m)) z).flatten) (lo := 0) (hi := 0) (cap := grownCap w (n + m) cap e)
      (w' := w.drew.alloc (.cells ((os ++ cs) ++ (List.replicate (grownCap w (n + m) cap e - (n + m)) z).flatten).toArray e)) hr1 hrow hrel hge
      (by rw [List.length_append, hosl, hcsl, hzfl, ← Nat.add_mul, ← Nat.add_mul]; congr 1; omega) (fun o h1 h2 => by omega) rfl rfl rfl rfl
    exact ⟨ρ', _, _, hrun, hv, hR, hS, fun b hb => by
      show (w.heap.push _)[b]? = _
      rw [Array.getElem?_push, if_neg (Nat.ne_of_lt hb)]⟩
  rw [bif'_eq] at h
  split at h
  · rename_i hble
    replace hble : n + m ≤ capLB base c := Nat.le_of_ble_eq_true hble
    obtain ⟨a1, a2, cs, hcs, hcsl, hf⟩ := sliceElems_sound hr hels hy hmle
    rw [← hsz] at hf
    have hrun := run_append_in (P := P) (ty := ty) (base := base') w ht0 hu hi hni hlen hf (show n + m ≤ cap by omega)
    unfold appendIn at h
    split at h
    · cases h
      cases hx
      have : m = 0 := by have : 0 + m ≤ 0 := hble; omega
      subst this
      exact ⟨ρ, _, w, hrun, .sliceNil, hr, .refl _ _ _⟩
    · rename_i a
      replace h := ob_some h; obtain ⟨s', hs', h⟩ := h
      rw [fNat_eq] at h
      cases h
      cases hx with | @slice a x off n c cap ad hx h1 h2 h3 h4 h5 => ?_
      have hval : VRel ρ (.slice (some ⟨a, off, none⟩) (n + m) c) (.slice (some ad) (n + m) cap) := .slice off (n + m) c cap ad hx hble h2 h3 h4 h5
      cases m with
      | zero =>
        have : els = [] := List.length_eq_zero_iff.1 a2
        subst this
        cases hs'
        have : cs = [] := List.length_eq_zero_iff.1 (by rw [hcsl]; simp)
        subst this
        exact ⟨ρ, _, w, hrun, hval, hr, .refl _ _ _⟩
      | succ m =>
        have had : ad = ⟨x.b, x.base + off, none⟩ := by
          rcases h4 with h4 | h4
          · exact h4
          · have : n + (m + 1) ≤ c / 512 := hble
            omega
        subst had
        obtain ⟨w', hst, hR, hS⟩ := storeElems_sound hx hr hs' hcs a1
        refine ⟨ρ, _, w', ?_, hval, hR, hS⟩
        rw [hrun]
        have e1 : (⟨x.b, x.base + off, none⟩ : Addr).add (n * i.size) = ⟨x.b, x.base + Nat.add off (Nat.mul n sz), none⟩ := by
          rw [addr_add, hsz]
          show (⟨x.b, x.base + off + n * sz, none⟩ : Addr) = ⟨x.b, x.base + (off + n * sz), none⟩
          rw [Nat.add_assoc]
        simp only [e1, hst, Result.andThen_ok]
  · rename_i hnb
    replace h := bif'_some h; obtain ⟨hm6, h⟩ := h
    replace hm6 : n + m ≤ 1000000 := Nat.le_of_ble_eq_true hm6
    replace hnb : ¬ (n + m ≤ capLB base c) := fun h => hnb (Nat.ble_eq_true_of_le h)
    replace h := ob_some h; obtain ⟨old, hold, h⟩ := h
    replace h := ob_some h; obtain ⟨all, hall, h⟩ := h
    rw [appO_eq] at hall
    replace hall : all = old ++ els := (Option.some.inj hall).symm
    rw [bif'_eq] at h
    split at h
    · rename_i hex
      have := hc3 hex
      obtain ⟨ρ', u, w', h1, h2, h3, h4, _⟩ := hnew (by omega) hm6 hr hold hall h
      exact ⟨ρ', u, w', h1, h2, h3, h4⟩
    · rename_i hex
      replace h := bif'_some h; obtain ⟨hone, h⟩ := h
      unfold appendUp at h
      split at h
      · cases h
      rename_i a
      replace h := bif'_some h; obtain ⟨hcs', h⟩ := h
      replace h := cellsOf?_some h; obtain ⟨cc, sz', n0, ro, et', hb, h⟩ := h
      replace h := bif'_some' h; obtain ⟨hro, h⟩ := h
      replace h := bif'_some h; obtain ⟨hss, h⟩ := h
      replace h := bif'_some h; obtain ⟨het, h⟩ := h
      replace h := bif'_some h; obtain ⟨hoff, h⟩ := h
      replace h := ob_some h; obtain ⟨s1, hs1, h⟩ := h
      replace h := ob_some h; obtain ⟨r0, hrow, hsh⟩ := h
      have h := hrow
      replace hss := Nat.eq_of_beq_eq_true hss
      replace het := Nat.eq_of_beq_eq_true het
      subst hss het hro
      cases hx with | @slice a x off n c cap ad hx h1 h2 h3 h4 h5 => ?_
      have hcsz : c % 512 / 2 = sz := Nat.eq_of_beq_eq_true hcs'
      have hoff : off % sz = 0 := Nat.eq_of_beq_eq_true hoff
      by_cases hin : n + m ≤ cap
      · have hcapb : n + m > c / 512 := Nat.lt_of_not_le hnb
        have had : ad = ⟨x.b, x.base + off, none⟩ := by
          rcases h4 with h4 | h4
          · exact h4
          · omega
        subst had
        have hmod : c % 2 = 0 := by
          have : capEx (some (⟨a, off, none⟩ : Addr)) c = Nat.beq (c % 2) 1 := rfl
          rw [this] at hex
          have : c % 2 ≠ 1 := fun e => hex (by rw [e]; rfl)
          omega
        have h5' := h5 hmod
        rw [hcsz] at h5'
        obtain ⟨a1, a2, cs, hcs, hcsl, hf⟩ := sliceElems_sound hr hels hy hmle
        rw [← hsz] at hf
        obtain ⟨b1, b2, os, hos, hosl, hog⟩ := sliceElems_cells hr hx hold
        replace hcsl : cs.length = m * sz := hcsl
        replace hosl : os.length = n * sz := hosl
        have hrun := run_append_in (P := P) (ty := ty) (base := some ⟨x.b, x.base + off, none⟩) w ht0 hu hi hni hlen hf hin
        obtain ⟨hlt, hC⟩ := hr.blk a _ x hb hx
        have hC : CellsAt P ρ x w cc sz n0 false e := hC
        have hmul : (n + m) * sz ≤ cap * sz := Nat.mul_le_mul_right _ hin
        rw [Nat.add_mul] at hmul
        have hcells : ∀ j, j < cs.length → (w.cell? ⟨x.b, x.base + off + n * sz + j, none⟩).isSome = true := fun j hj => hC.all _ (by rw [hcsl] at hj; omega)
        have hfz : ∀ j, j < cs.length → w.frozen? ⟨x.b, x.base + off + n * sz + j, none⟩ = false := by
          intro j hj
          cases hf : w.frozen? ⟨x.b, x.base + off + n * sz + j, none⟩ with
          | false => rfl
          | true => have := (hC.free rfl _ hf).1; have := hcells j hj; rw [‹w.cell? _ = none›] at this; cases this
        have hst := run_storeCells_cells (P := P) x.b (x.base + off + n * sz) cs 0 w (by simpa using hcells) (by simpa using hfz) (hcs.ones (oneCellss_all hone))
        rw [Nat.add_zero] at hst
        obtain ⟨g1, g2, g3, t, s2, hrt, hnew2, hreq⟩ := rowLB_some h
        have hnx1 : s1.nx = s.nx := (AS.set_eq hs1).1
        have hval : VRel (ρ.put s.nx ⟨x.b, x.base + off, x.lim⟩) (.slice (some ⟨s1.nx, 0, none⟩) (Nat.add n m) (codeLB (Nat.add n m) sz)) (.slice (some ⟨x.b, x.base + off, none⟩) (n + m) cap) := by
          rw [hnx1]
          refine .slice 0 (n + m) (codeLB (n + m) sz) cap _ (put_self _ _ _) (by rw [codeLB_div g1]; exact Nat.le_refl _) (by rw [codeLB_div g1]; exact hin) (fun h => by rw [codeLB_mod] at h; cases h) (.inl rfl) (fun _ => ?_)
          rw [codeLB_sz g1]
          exact h5'
        obtain ⟨q1, q2, q3, _⟩ := setCells_rest x.b cs (x.base + off + n * sz) w
        have hput : RenLe ρ (ρ.put s.nx ⟨x.b, x.base + off, x.lim⟩) := fun b z e => by
          unfold Ren.put
          by_cases ha : b = s.nx
          · rw [ha, hr.dom _ (Nat.le_refl _)] at e; cases e
          · rw [if_neg ha]; exact e
        have hA := Rel.again (P := P) (y := ⟨x.b, x.base + off, x.lim⟩) (w' := w.setCells x.b (x.base + off + n * sz) cs) hr hs1 hnew2 hb rfl hx rfl (setCells_size _ _ _ _) (fun b hb' => setCells_other _ _ _ _ _ hb') q1 q2 q3 (by
          refine ⟨?_, fun o ho' => ?_, fun _ o ho' => ?_, ?_, ?_⟩
          · have hrel : VRels ρ all.flatten (os ++ cs) := by rw [hall, List.flatten_append]; exact hos.append hcs
            refine row_cell hrt g3 g2 (hrel.mono hput) (fun j u hj => ?_)
            show World.cell? _ ⟨x.b, x.base + off + j, none⟩ = some u
            by_cases hjo : j < os.length
            · rw [List.getElem?_append_left hjo] at hj
              rw [World.cell?_setCells_out _ _ _ _ _ (fun _ _ => .inl (by show x.base + off + j < x.base + off + n * sz; omega))]
              exact hog j u hj
            · rw [List.getElem?_append_right (by omega)] at hj
              obtain ⟨hjj, hju⟩ := List.getElem?_eq_some_iff.1 hj
              have := World.cell?_setCells_in x.b cs (x.base + off + n * sz) w hcells (j - os.length) hjj
              rw [show x.base + off + n * sz + (j - os.length) = x.base + off + j by omega] at this
              rw [this, hju]
          · by_cases hinn : x.base + off + n * sz ≤ o ∧ o < x.base + off + n * sz + cs.length
            · have := World.cell?_setCells_in x.b cs (x.base + off + n * sz) w hcells (o - (x.base + off + n * sz)) (by omega)
              rw [show x.base + off + n * sz + (o - (x.base + off + n * sz)) = o by omega] at this
              show (World.cell? _ ⟨x.b, o, none⟩).isSome = true
              rw [this]; rfl
            · show (World.cell? _ ⟨x.b, o, none⟩).isSome = true
              rw [World.cell?_setCells_out _ _ _ _ _ (fun _ _ => by show o < x.base + off + n * sz ∨ x.base + off + n * sz + cs.length ≤ o; omega)]
              exact hC.all o ho'
          · have ho' : World.frozen? (w.setCells x.b (x.base + off + n * sz) cs) ⟨x.b, o, none⟩ = true := ho'
            rw [World.frozen?_setCells] at ho'
            obtain ⟨hn, hnb⟩ := hC.free rfl o ho'
            refine ⟨?_, hnb⟩
            show World.cell? _ ⟨x.b, o, none⟩ = none
            by_cases hinn : x.base + off + n * sz ≤ o ∧ o < x.base + off + n * sz + cs.length
            · have := hcells (o - (x.base + off + n * sz)) (by omega)
              rw [show x.base + off + n * sz + (o - (x.base + off + n * sz)) = o by omega, hn] at this
              cases this
            · rw [World.cell?_setCells_out _ _ _ _ _ (fun _ _ => by show o < x.base + off + n * sz ∨ x.base + off + n * sz + cs.length ≤ o; omega)]
              exact hn
          · show World.shape? _ x.b = some (e, x.lim)
            rw [shape?_setCells]; exact hC.shape
          · obtain ⟨q, hq⟩ := hC.mult
            refine ⟨q + off / sz, ?_⟩
            show x.base + off = (q + off / sz) * sz
            have := Nat.div_add_mod off sz
            rw [hoff, Nat.mul_comm] at this
            rw [Nat.add_mul]
            omega) rfl
        have hrunE : (Builtin.append_ ts ty #[.slice (some ⟨x.b, x.base + off, none⟩) n cap, y']).run P w = .ok (.slice (some ⟨x.b, x.base + off, none⟩) (n + m) cap) (w.setCells x.b (x.base + off + n * sz) cs) := by
          rw [hrun]
          have e1 : (⟨x.b, x.base + off, none⟩ : Addr).add (n * i.size) = ⟨x.b, x.base + off + n * sz, none⟩ := by rw [addr_add, hsz]
          simp only [e1, hst, Result.andThen_ok]
        subst hreq
        cases sh with
        | false =>
          cases hsh
          exact ⟨_, _, _, hrunE, hval, hA.1, hA.2⟩
        | true =>
          replace hsh := bif'_some hsh
          obtain ⟨hend, hsh⟩ := hsh
          replace hend : off / sz + n = n0 := Nat.eq_of_beq_eq_true hend
          have hos : x.base + off + n * sz = x.base + n0 * sz := by
            have := Nat.div_add_mod off sz
            rw [hoff, Nat.mul_comm] at this
            rw [← hend, Nat.add_mul]
            omega
          have hCk : CellsAt P ρ x (w.setCells x.b (x.base + off + n * sz) cs) cc sz n0 false e := by
            refine ⟨fun k l hk => ?_, fun o ho' => ?_, fun _ o ho' => ?_, by rw [shape?_setCells]; exact hC.shape, hC.mult⟩
            · obtain ⟨a1, a2, a3⟩ := hC.cell k l hk
              refine ⟨a1, a2, fun j v hv => ?_⟩
              obtain ⟨u, hu, hvr⟩ := a3 j v hv
              refine ⟨u, ?_, hvr⟩
              have hj : j < sz := by rw [← a2]; exact (List.getElem?_eq_some_iff.1 hv).1
              have hks : (k + 1) * sz ≤ n0 * sz := Nat.mul_le_mul_right _ a1
              rw [Nat.add_mul] at hks
              rw [World.cell?_setCells_out _ _ _ _ _ (fun _ _ => .inl (by show x.base + (k * sz + j) < x.base + off + n * sz; rw [hos]; omega))]
              exact hu
            · by_cases hinn : x.base + off + n * sz ≤ o ∧ o < x.base + off + n * sz + cs.length
              · have := World.cell?_setCells_in x.b cs (x.base + off + n * sz) w hcells (o - (x.base + off + n * sz)) (by omega)
                rw [show x.base + off + n * sz + (o - (x.base + off + n * sz)) = o by omega] at this
                rw [this]; rfl
              · rw [World.cell?_setCells_out _ _ _ _ _ (fun _ _ => by show o < x.base + off + n * sz ∨ x.base + off + n * sz + cs.length ≤ o; omega)]
                exact hC.all o ho'
            · rw [World.frozen?_setCells] at ho'
              obtain ⟨hn, hnb⟩ := hC.free rfl o ho'
              refine ⟨?_, hnb⟩
              by_cases hinn : x.base + off + n * sz ≤ o ∧ o < x.base + off + n * sz + cs.length
              · have := hcells (o - (x.base + off + n * sz)) (by omega)
                rw [show x.base + off + n * sz + (o - (x.base + off + n * sz)) = o by omega, hn] at this
                cases this
              · rw [World.cell?_setCells_out _ _ _ _ _ (fun _ _ => by show o < x.base + off + n * sz ∨ x.base + off + n * sz + cs.length ≤ o; omega)]
                exact hn
          obtain ⟨v1, v2, v3⟩ := revive_ok hr hx hb hs1 hnew2 hA.1 hA.2 hCk (by rw [setCells_size]; exact hlt) hval hsh
          exact ⟨_, _, _, hrunE, v1, v2, v3⟩
      · obtain ⟨hR1, hS1⟩ := Rel.forget hr hs1 hx
        obtain ⟨ρ', u, w', h1, h2, h3, h4, h5'⟩ := hnew (by omega) hm6 hR1 hold hall h
        cases sh with
        | false =>
          cases hsh
          exact ⟨ρ', u, w', h1, h2, h3, hS1.trans h4⟩
        | true =>
          replace hsh := bif'_some hsh
          obtain ⟨hend, hsh⟩ := hsh
          obtain ⟨g1, g2, g3, t, s2, hrt, hnew2, hreq⟩ := rowLB_some h
          subst hreq
          obtain ⟨hlt, hC⟩ := hr.blk a _ x hb hx
          have hC : CellsAt P ρ x w cc sz n0 false e := hC
          have hS := hS1.trans h4
          obtain ⟨v1, v2, v3⟩ := revive_ok hr hx hb hs1 hnew2 h3 hS (hC.congr (h5' _ hlt)) (Nat.lt_of_lt_of_le hlt hS.size) h2 hsh
          exact ⟨ρ', u, w', h1, v1, v2, v3⟩
end Go.Eng
/-! Makers: alloc, box, build, rows; copy, clear, store. -/
namespace Go.Eng
open Go
variable {P : Program} {ρ : Ren}
/-- what a writer with no value must give. -/
def GivesU (P : Program) (ρ : Ren) (s : AS) (w : World) (m : Sem Unit) (r : Value × AS) : Prop :=
  r.1 = .tuple #[] ∧ ∃ ρ' w', m.run P w = .ok () w' ∧ Rel P ρ' r.2 w' ∧ Stp ρ s w ρ' r.2 w'
theorem Made.gives {s s' : AS} {w : World} {m : Sem Value} {v : Value} {k : Blk} (h : Made P ρ w s.nx m v k) (hr : Rel P ρ s w) (hs : s.new k = some s') : Gives P ρ s w m (v, s') := by
  obtain ⟨x, u, w', h1, h2, h3, h4, h5, h6, h7, h8, h9⟩ := h
  obtain ⟨q1, q2⟩ := Rel.alloc hr hs h2 h3 h4 h5 h6 h7 h9
  exact ⟨_, u, w', h1, h8, q1, q2⟩
theorem allocA_made {t : TypeId} {s : AS} {r : Value × AS} (h : allocA P t s = some r) : ∃ k, s.new k = some r.2 ∧ ∀ {ρ : Ren} {w : World}, ρ s.nx = none → Made P ρ w s.nx (Instr.alloc t true (.tuple #[])) r.1 k := by
  unfold allocA at h
  obtain ⟨l, hl, h⟩ := ob_some h
  obtain ⟨z, hz, rfl⟩ := tzero_some hl
  obtain ⟨k, hk, hm⟩ := newVarA_made (P := P) h
  exact ⟨k, hk, fun {ρ w} hρ => hm (w' := w.alloc (.cells z.cells t)) hρ (tzeroV_rel hz).cells (by simp only [Instr.alloc, Sem.run_bind, run_zeroValue' hz w, Result.andThen_ok, newVar, newRow, run_newObj_alloc, Sem.run_pure]) rfl rfl rfl rfl⟩
theorem boxA_made {t : TypeId} {s : AS} {v : Value} {r : Value × AS} (h : boxA t s v = some r) : ∃ k, s.new k = some r.2 ∧ ∀ {ρ : Ren} {w : World} {v' : Value}, ρ s.nx = none → VRel ρ v v' → Made P ρ w s.nx (Instr.box t v') r.1 k := by
  obtain ⟨k, hk, hm⟩ := newVarA_made (P := P) h
  exact ⟨k, hk, fun {ρ w v'} hρ hv => hm (w' := w.alloc (.cells v'.cells t)) hρ hv.cells (by simp only [Instr.box, Sem.run_bind, Result.andThen_ok, newVar, newRow, run_newObj_alloc, Sem.run_pure]) rfl rfl rfl rfl⟩
theorem storeA_sound {t : TypeId} {s : AS} {w : World} {a a' v v' : Value} {r : Value × AS} (hr : Rel P ρ s w) (h : storeA P t s a v = some r) (ha : VRel ρ a a') (hv : VRel ρ v v') : GivesU P ρ s w (Instr.storeAt t a' v') r := by
  unfold storeA at h
  split at h
  · rename_i ad
    replace h := ob_some h; obtain ⟨n, hn, h⟩ := h
    replace h := bif'_some h; obtain ⟨hl, h⟩ := h
    replace h := ob_some h; obtain ⟨s', hs, h⟩ := h
    cases h
    have hl : v.cells.toList.length = n := by rw [← len_eq]; exact Nat.eq_of_beq_eq_true hl
    cases ha with | @ptr a x off hx => ?_
    obtain ⟨w', hrun, _, hR, hS⟩ := storeN_sound hr hx hs hv.cells
    have hsz : v'.cells.size = n := by rw [← hl, hv.cells.length]; simp
    refine ⟨rfl, ρ, w', ?_, hR, hS⟩
    simp only [Instr.storeAt, Instr.sureAddr, Sem.run_bind, Sem.run_pure, Result.andThen_ok, storeVar, run_sizeOf' hn w, hsz, ne_eq, not_true_eq_false, if_false, hrun]
  · cases h
theorem run_asInt (w : World) (k : IntKind) (n : Int) : (asInt (.int k n)).run P w = .ok n w := by simp [asInt, asIntOf]
theorem natOf_eq {b : Int} {n : Nat} (h : natOf b = some n) : b = (n : Int) := natOf_some h
theorem makeSliceA_made {t : TypeId} {s : AS} {l c : Value} {r : Value × AS} (h : makeSliceA P t s l c = some r) :
    ∃ k, s.new k = some r.2 ∧ ∀ {ρ : Ren} {w : World} {l' c' : Value}, ρ s.nx = none → VRel ρ l l' → VRel ρ c c' → Made P ρ w s.nx (Instr.makeSlice t l' c') r.1 k := by
  unfold makeSliceA at h
  split at h
  · rename_i k1 l k2 c
    replace h := ob_some h; obtain ⟨e, he, h⟩ := h
    replace h := ob_some h; obtain ⟨ln, hln, h⟩ := h
    replace h := ob_some h; obtain ⟨cn, hcn, h⟩ := h
    replace h := bif'_some h; obtain ⟨hlc, h⟩ := h
    replace h := bif'_some h; obtain ⟨hcm, h⟩ := h
    replace h := ob_some h; obtain ⟨⟨sz, z⟩, hei, h⟩ := h
    replace h := ob_some h; obtain ⟨els, hels, h⟩ := h
    have hln := natOf_some hln
    have hcn := natOf_some hcn
    subst hln hcn
    have hlc : ln ≤ cn := Nat.le_of_ble_eq_true hlc
    have hcm : cn ≤ 1000000 := Nat.le_of_ble_eq_true hcm
    have hels := repl_eq _ _ _ hels
    subst hels
    obtain ⟨k, hk, hmade⟩ := rowEx_made (P := P) h hlc
    refine ⟨k, hk, fun {ρ w l' c'} hρ hl hc => ?_⟩
    obtain ⟨i, zv, hi, hiz, hz, hsz, hbytes, hzl, hts, hzz, _⟩ := elemInfo_some (ρ := ρ) hei
    have hu : P.underlying t = some (.slice e) := by
      unfold elemOfT at he
      split at he
      · rename_i hu; cases he; exact hu
      · cases he
    cases hl
    cases hc
    have hzs : zv.cells.size = sz := by rw [← hzl, hz]; simp
    have hrow : ((Array.range (cn * sz)).map (zv.cells[· % zv.cells.size]!)) = ((List.replicate cn z).flatten).toArray := by
      apply Array.ext'
      have := zeros_list z cn
      rw [hzl, hz] at this
      rw [hzs]
      simpa [hz] using this
    refine hmade (w' := w.alloc (.cells ((List.replicate cn z).flatten).toArray e)) hρ (VRels.replicate hzz cn) ?_ rfl rfl rfl rfl
    have hw1 : IntKind.i64.wrap (ln : Int) = (ln : Int) := wrap_small ⟨by show (-9223372036854775808 : Int) ≤ _; omega, by show _ ≤ (9223372036854775807 : Int); omega⟩
    have hw2 : IntKind.i64.wrap (cn : Int) = (cn : Int) := wrap_small ⟨by show (-9223372036854775808 : Int) ≤ _; omega, by show _ ≤ (9223372036854775807 : Int); omega⟩
    have hmul : i.bytes * cn ≤ 1000000 * 1000000 := Nat.mul_le_mul hbytes hcm
    have hbig : ¬ ((i.bytes : Int) * (cn : Int) > 2 ^ 48) := by
      have : ((i.bytes : Int) * (cn : Int)) = ((i.bytes * cn : Nat) : Int) := by simp
      rw [this]
      have : (2 : Int) ^ 48 = 281474976710656 := by decide
      omega
    have hc0 : ¬ ((cn : Int) < 0) := by omega
    have hl0 : ¬ ((ln : Int) < 0) := by omega
    have hlc' : ¬ ((ln : Int) > (cn : Int)) := by omega
    have d1 : decide ((cn : Int) < 0) = false := decide_eq_false hc0
    have d2 : decide ((i.bytes : Int) * (cn : Int) > 2 ^ 48) = false := decide_eq_false hbig
    have d3 : decide ((ln : Int) < 0) = false := decide_eq_false hl0
    have d4 : decide ((ln : Int) > (cn : Int)) = false := decide_eq_false hlc'
    simp only [Instr.makeSlice, Sem.run_bind, run_underlying hu, Result.andThen_ok, run_asInt, typeInfo, hi, run_program, Sem.run_pure, hw1, hw2, d1, d2, d3, d4, Bool.or_self, Bool.false_eq_true, if_false, run_askRoom, sizeOf, Int.toNat_natCast, hsz, newRow]
    by_cases hn : cn * sz = 0
    · have hr0 : ((List.replicate cn z).flatten).toArray = #[] := by
        rw [← hrow, hn]; simp
      have hr1 : Array.range 0 = #[] := by apply Array.ext'; simp
      rw [if_pos hn, hr0, hn, hr1]
      simp
    · rw [if_neg hn]
      simp only [Sem.run_bind, run_zeroValue' ‹tzeroV P e = some zv› w, Sem.run_pure, Result.andThen_ok, run_newObj_alloc, hrow]
  · cases h
theorem setNth_get : ∀ (i : Nat) (l r : List (List Value)) (x : List Value), setNth x i l = some r → r.length = l.length ∧ i < l.length ∧ ∀ j, r[j]? = if j = i then some x else l[j]? := by
  intro i
  induction i with
  | zero =>
    intro l r x h
    cases l with
    | nil => cases h
    | cons a l =>
      cases h
      refine ⟨rfl, by simp, fun j => ?_⟩
      cases j with
      | zero => rfl
      | succ j => simp
  | succ i ih =>
    intro l r x h
    cases l with
    | nil => cases h
    | cons a l =>
      have h' : ob (setNth x i l) (fun r => some (a :: r)) = some r := h
      obtain ⟨r', hr', h'⟩ := ob_some h'
      cases h'
      obtain ⟨h1, h2, h3⟩ := ih _ _ _ hr'
      refine ⟨by simp [h1], by simp; omega, fun j => ?_⟩
      cases j with
      | zero => simp
      | succ j => simp [h3]
end Go.Eng
/-! build, buildSlice. -/
namespace Go.Eng
open Go
variable {P : Program} {ρ : Ren}
theorem foldl_cells (off : Nat) (cs : Array Value) (l : List Value) (h : off + l.length ≤ cs.size) :
    (l.zipIdx.foldl (fun cs (x : Value × Nat) => cs.setIfInBounds (off + x.2) x.1) cs) = (cs.toList.take off ++ l ++ cs.toList.drop (off + l.length)).toArray := by
  obtain ⟨h1, h2⟩ := Go.Great.foldl_set off l 0 cs
  apply Array.ext_getElem?
  intro k
  rw [h2 k]
  simp only [Nat.add_zero, List.getElem?_toArray]
  by_cases hk : off ≤ k ∧ k < off + l.length ∧ k < cs.size
  · rw [if_pos hk, List.append_assoc, List.getElem?_append_right (by simp; omega), List.getElem?_append_left (by simp; omega)]
    congr 1
    simp; omega
  · rw [if_neg hk]
    by_cases hk2 : k < off
    · rw [List.append_assoc, List.getElem?_append_left (by simp; omega), List.getElem?_take_of_lt hk2]; simp
    · rw [List.getElem?_append_right (by simp; omega), List.getElem?_drop]
      simp only [List.length_append, List.length_take, Array.length_toList, Array.getElem?_toList]
      congr 1
      omega
theorem zipIdx_cells (v : Value) (off : Nat) (cs : Array Value) : v.cells.zipIdx.foldl (fun cs (c, j) => cs.setIfInBounds (off + j) c) cs = v.cells.toList.zipIdx.foldl (fun cs (x : Value × Nat) => cs.setIfInBounds (off + x.2) x.1) cs := by
  rw [← Array.foldl_toList, Array.toList_zipIdx]
theorem zipP_rel {is : List Nat} : ∀ {vs us : List Value}, VRels ρ vs us → F2 (fun p q => p.1 = q.1 ∧ VRel ρ p.2 q.2) (zipP is vs) (zipP is us) := by
  induction is with
  | nil => intro vs us _; exact .nil
  | cons i is ih =>
    intro vs us h
    cases h with
    | nil => exact .nil
    | cons h hs => exact .cons ⟨rfl, h⟩ (ih hs)
theorem fillA_sound {place place' : Nat → Option (Nat × Nat)} (hp : ∀ i q, place i = some q → place' i = some q) :
    ∀ {ps ps' : List (Nat × Value)}, F2 (fun p q => p.1 = q.1 ∧ VRel ρ p.2 q.2) ps ps' → ∀ {l r l' : List Value}, fillA place ps l = some r → VRels ρ l l' → ∃ r', Instr.fill place' l'.toArray ps' = some r'.toArray ∧ VRels ρ r r' := by
  intro ps ps' hps
  induction hps with
  | nil => intro l r l' h hl; cases h; exact ⟨l', rfl, hl⟩
  | @cons p q ps ps' hpq _ ih =>
    intro l r l' h hl
    obtain ⟨i, v⟩ := p
    obtain ⟨i', v'⟩ := q
    obtain ⟨h1, hv⟩ := hpq
    simp only at h1 hv
    subst h1
    have h' : ob (place i) (fun q => bif' (Nat.beq (len v.cells.toList) q.2) (ob (setL v.cells.toList l q.1) (fillA place ps)) none) = some r := h
    obtain ⟨⟨off, sz⟩, hq, h'⟩ := ob_some h'
    obtain ⟨hlen, h'⟩ := bif'_some h'
    obtain ⟨l1, hl1, h'⟩ := ob_some h'
    have hlen : v.cells.toList.length = sz := by rw [← len_eq]; exact Nat.eq_of_beq_eq_true hlen
    obtain ⟨hl1e, hle⟩ := setL_eq _ _ _ _ hl1
    have hvl := hv.cells.length
    have hll := hl.length
    have hrel : VRels ρ l1 (l'.take off ++ v'.cells.toList ++ l'.drop (off + v'.cells.toList.length)) := by
      rw [hl1e, hvl]
      exact ((hl.take off).append hv.cells).append (hl.drop _)
    obtain ⟨r', hr', hrr⟩ := ih h' hrel
    refine ⟨r', ?_, hrr⟩
    have hsz : v'.cells.size = sz := by rw [← hlen, hvl]; simp
    have hle' : off + v'.cells.toList.length ≤ l'.toArray.size := by rw [← hvl, List.size_toArray, ← hll]; exact hle
    unfold Instr.fill
    rw [hp _ _ hq]
    have hc : (decide (v'.cells.size ≠ sz) || decide (off + v'.cells.size > l'.toArray.size)) = false := by
      have : ¬ (off + v'.cells.size > l'.toArray.size) := by simp at hle' ⊢; omega
      simp [hsz] at this ⊢
      exact this
    simp only
    rw [hc]
    simp only [Bool.false_eq_true, if_false]
    rw [zipIdx_cells, foldl_cells off l'.toArray _ hle']
    exact hr'
theorem fieldsOk_places {t : TypeId} {fs : Array Field} (hu : P.underlying t = some (.struct fs)) (h : fieldsOk P t = true) :
    ∃ places, fs.toList.mapM (fun (f : Field) => (P.info? f.type).map fun i => (f.offset, i.size)) = some places ∧ ∀ (i : Nat) (f : Field) (n : Nat), fs[i]? = some f → tsize P f.type = some n → places[i]? = some (f.offset, n) := by
  unfold fieldsOk at h
  rw [hu] at h
  simp only at h
  have key : ∀ (l : List Field), (List.rec (motive := fun _ => Bool) true (fun (f : Field) _ ih => match P.info? f.type with | some _ => ih | none => false) l) = true →
      ∃ places, l.mapM (fun (f : Field) => (P.info? f.type).map fun i => (f.offset, i.size)) = some places ∧ ∀ (i : Nat) (f : Field) (n : Nat), l[i]? = some f → tsize P f.type = some n → places[i]? = some (f.offset, n) := by
    intro l
    induction l with
    | nil => intro _; exact ⟨[], rfl, fun i f n h => by simp at h⟩
    | cons f l ih =>
      intro h
      simp only at h
      cases hi : P.info? f.type with
      | none => rw [hi] at h; cases h
      | some i =>
        rw [hi] at h
        obtain ⟨places, hp, hg⟩ := ih h
        refine ⟨(f.offset, i.size) :: places, by simp [List.mapM_cons, hi, hp], fun j g n hj hn => ?_⟩
        cases j with
        | zero =>
          cases hj
          unfold tsize at hn
          rw [hi] at hn
          cases hn
          rfl
        | succ j => exact hg j g n (by simpa using hj) hn
  obtain ⟨places, hp, hg⟩ := key _ h
  exact ⟨places, hp, fun i f n hf => hg i f n (by simpa using hf)⟩
theorem buildA_sound {t : TypeId} {is : List Nat} {vs us : List Value} {v : Value} (w : World) (h : buildA P t is vs = some v) (hv : VRels ρ vs us) : ∃ u, (Instr.build t (zipP is us).toArray).run P w = .ok u w ∧ VRel ρ v u := by
  unfold buildA at h
  obtain ⟨hok, h⟩ := bif'_some h
  obtain ⟨z, hz, h⟩ := ob_some h
  obtain ⟨r, hr, h⟩ := ob_some h
  cases h
  obtain ⟨zv, hzv, rfl⟩ := tzero_some hz
  obtain ⟨_, i, hi, hiz⟩ := tzeroV_some hzv
  have hps := zipP_rel (is := is) hv
  have hzz : VRels ρ zv.cells.toList zv.cells.toList := (tzeroV_rel hzv).cells
  have hb : ∃ r', P.built t (zipP is us) = some r' ∧ VRels ρ r r'.toList := by
    unfold Program.built
    rw [hi]
    cases hu : P.underlying t with
    | none => unfold fieldsOk at hok; rw [hu] at hok; cases hok
    | some d =>
      cases d <;> try (unfold fieldsOk at hok; rw [hu] at hok; cases hok; done)
      case array n e =>
        unfold fieldsOk at hok
        rw [hu] at hok
        simp only at hok
        cases hie : P.info? e with
        | none => rw [hie] at hok; cases hok
        | some ie =>
          obtain ⟨r', h1, h2⟩ := fillA_sound (place' := fun i => some (i * ie.size, ie.size)) (fun i q hq => by
            unfold placeF at hq
            rw [hu] at hq
            obtain ⟨n, hn, hq⟩ := ob_some hq
            unfold tsize at hn
            rw [hie] at hn
            cases hn; cases hq; rfl) hps hr hzz
          simp only [hiz, hie]
          exact ⟨_, h1, h2⟩
      case struct fs =>
        obtain ⟨places, hp, hg⟩ := fieldsOk_places hu hok
        obtain ⟨r', h1, h2⟩ := fillA_sound (place' := (places.toArray[·]?)) (fun i q hq => by
          unfold placeF at hq
          rw [hu] at hq
          simp only at hq
          split at hq
          · rename_i f hf
            obtain ⟨n, hn, hq⟩ := ob_some hq
            cases hq
            have := hg i f n hf hn
            simpa using this
          · cases hq) hps hr hzz
        simp only [hiz, hp]
        exact ⟨_, h1, h2⟩
  obtain ⟨r', h1, h2⟩ := hb
  exact ⟨_, run_build w t _ r' h1, .agg h2⟩
/-! rows with places filled. -/
theorem setNth_flat {sz : Nat} : ∀ (i : Nat) (l r : List (List Value)) (x : List Value), setNth x i l = some r → (∀ e ∈ l, e.length = sz) → x.length = sz → r.flatten = l.flatten.take (i * sz) ++ x ++ l.flatten.drop (i * sz + sz) ∧ (∀ e ∈ r, e.length = sz) ∧ i * sz + sz ≤ l.flatten.length := by
  intro i
  induction i with
  | zero =>
    intro l r x h hl hx
    cases l with
    | nil => cases h
    | cons a l =>
      cases h
      have ha := hl a (by simp)
      refine ⟨?_, fun e he => ?_, by simp; omega⟩
      · simp only [List.flatten_cons, Nat.zero_mul, List.take_zero, List.nil_append, Nat.zero_add]
        rw [← ha, List.drop_left]
      · rcases List.mem_cons.1 he with rfl | he
        · exact hx
        · exact hl e (by simp [he])
  | succ i ih =>
    intro l r x h hl hx
    cases l with
    | nil => cases h
    | cons a l =>
      have h' : ob (setNth x i l) (fun r => some (a :: r)) = some r := h
      obtain ⟨r', hr', h'⟩ := ob_some h'
      cases h'
      have ha := hl a (by simp)
      obtain ⟨h1, h2, h3⟩ := ih _ _ _ hr' (fun e he => hl e (by simp [he])) hx
      refine ⟨?_, fun e he => ?_, by simp only [List.flatten_cons, List.length_append, Nat.add_mul]; omega⟩
      · have e1 : (i + 1) * sz = a.length + i * sz := by rw [Nat.add_mul, ha]; omega
        have e2 : (i + 1) * sz + sz = a.length + (i * sz + sz) := by rw [Nat.add_mul, ha]; omega
        simp only [List.flatten_cons]
        rw [e2, e1, h1, List.take_append, List.drop_append]
        rw [List.take_of_length_le (l := a) (by omega), List.drop_eq_nil_of_le (as := a) (by omega)]
        simp
      · rcases List.mem_cons.1 he with rfl | he
        · exact ha
        · exact h2 e he
theorem fillRows_sound {sz : Nat} : ∀ {ps ps' : List (Nat × Value)}, F2 (fun p q => p.1 = q.1 ∧ VRel ρ p.2 q.2) ps ps' → ∀ {l r : List (List Value)} {l' : List Value}, fillRows sz ps l = some r → (∀ e ∈ l, e.length = sz) → VRels ρ l.flatten l' →
    ∃ r', Instr.fill (fun i => some (i * sz, sz)) l'.toArray ps' = some r'.toArray ∧ VRels ρ r.flatten r' := by
  intro ps ps' hps
  induction hps with
  | nil => intro l r l' h _ hl; cases h; exact ⟨l', rfl, hl⟩
  | @cons p q ps ps' hpq _ ih =>
    intro l r l' h hsz hl
    obtain ⟨i, v⟩ := p
    obtain ⟨i', v'⟩ := q
    obtain ⟨h1, hv⟩ := hpq
    simp only at h1 hv
    subst h1
    have h' : bif' (Nat.beq (len v.cells.toList) sz) (ob (setNth v.cells.toList i l) (fillRows sz ps)) none = some r := h
    obtain ⟨hlen, h'⟩ := bif'_some h'
    obtain ⟨l1, hl1, h'⟩ := ob_some h'
    have hlen : v.cells.toList.length = sz := by rw [← len_eq]; exact Nat.eq_of_beq_eq_true hlen
    obtain ⟨hl1e, hl1s, hle⟩ := setNth_flat _ _ _ _ hl1 hsz hlen
    have hvl := hv.cells.length
    have hll := hl.length
    have hvs : v'.cells.toList.length = sz := by rw [← hvl, hlen]
    have hrel : VRels ρ l1.flatten (l'.take (i * sz) ++ v'.cells.toList ++ l'.drop (i * sz + v'.cells.toList.length)) := by
      rw [hl1e, hvs]
      exact ((hl.take _).append hv.cells).append (hl.drop _)
    obtain ⟨r', hr', hrr⟩ := ih h' hl1s hrel
    refine ⟨r', ?_, hrr⟩
    have hsz' : v'.cells.size = sz := by rw [← hvs]; simp
    have hle' : i * sz + v'.cells.toList.length ≤ l'.toArray.size := by rw [hvs, List.size_toArray, ← hll]; exact hle
    unfold Instr.fill
    have hc : (decide (v'.cells.size ≠ sz) || decide (i * sz + v'.cells.size > l'.toArray.size)) = false := by
      have : ¬ (i * sz + v'.cells.size > l'.toArray.size) := by simp at hle' ⊢; omega
      simp [hsz'] at this ⊢
      exact this
    simp only
    rw [hc]
    simp only [Bool.false_eq_true, if_false]
    rw [zipIdx_cells, foldl_cells (i * sz) l'.toArray _ hle']
    exact hr'
theorem buildSliceA_made {t : TypeId} {n : Nat} {is : List Nat} {s : AS} {vs : List Value} {r : Value × AS} (h : buildSliceA P t n is s vs = some r) :
    ∃ k, s.new k = some r.2 ∧ ∀ {ρ : Ren} {w : World} {us : List Value}, ρ s.nx = none → VRels ρ vs us → Made P ρ w s.nx (Instr.buildSlice t n (zipP is us).toArray) r.1 k := by
  unfold buildSliceA at h
  replace h := ob_some h; obtain ⟨e, he, h⟩ := h
  replace h := ob_some h; obtain ⟨⟨sz, z⟩, hei, h⟩ := h
  replace h := bif'_some h; obtain ⟨hm, h⟩ := h
  replace h := ob_some h; obtain ⟨els0, h0, h⟩ := h
  replace h := ob_some h; obtain ⟨els, hels, h⟩ := h
  obtain ⟨k, hk, hmade⟩ := rowEx_made (P := P) h (Nat.le_refl _)
  refine ⟨k, hk, fun {ρ w us} hρ hv => ?_⟩
  obtain ⟨i, zv, hi, hiz, hz, hsz, hbytes, hzl, hts, hzz, hzv⟩ := elemInfo_some (ρ := ρ) hei
  have h0 := repl_eq _ _ _ h0
  subst h0
  have hm : n * sz ≤ 16000000 := Nat.le_of_ble_eq_true hm
  have hu : P.underlying t = some (.slice e) := by
    unfold elemOfT at he
    split at he
    · rename_i hu; cases he; exact hu
    · cases he
  have hbig : ¬ (n * sz > 2 ^ 24) := by omega
  obtain ⟨r', h1, h2⟩ := fillRows_sound (zipP_rel (is := is) hv) hels (fun e he => by rw [(List.mem_replicate.1 he).2]; exact hzl) (VRels.replicate hzz n)
  refine hmade (w' := w.alloc (.cells r'.toArray e)) hρ h2 ?_ rfl rfl rfl rfl
  have hzs : zv.cells.size = sz := by rw [← hzl, hz]; simp
  have hrow : ((Array.range (n * sz)).map (zv.cells[· % zv.cells.size]!)) = ((List.replicate n z).flatten).toArray := by
    apply Array.ext'
    have := zeros_list z n
    rw [hzl, hz] at this
    rw [hzs]
    simpa [hz] using this
  have h1 : Instr.fill (fun i => some (i * sz, sz)) ((List.replicate n z).flatten).toArray (zipP is us) = some r'.toArray := h1
  simp only [Instr.buildSlice, Sem.run_bind, run_underlying hu, Result.andThen_ok, run_sizeOf' hts w, if_neg hbig, newRow]
  by_cases hn : n * sz = 0
  · have hr0 : ((List.replicate n z).flatten).toArray = #[] := by
      rw [← hrow, hn]; simp
    have hr1 : Array.range 0 = #[] := by apply Array.ext'; simp
    rw [hr0] at h1
    simp [hn, hr1, h1]
  · simp only [if_neg hn, Sem.run_bind, run_zeroValue' hzv w, Sem.run_pure, Result.andThen_ok, hrow, h1, run_newObj_alloc]
end Go.Eng
/-! copy, clear; bytes and strings; pointers. -/
namespace Go.Eng
open Go
variable {P : Program} {ρ : Ren}
theorem elemTs_some {ts : Array TypeId} {e : TypeId} (he : elemTs P ts = some e) : ∃ t0, ts[0]? = some t0 ∧ P.underlying t0 = some (.slice e) := by
  unfold elemTs argT at he
  split at he
  · rename_i e' he'
    cases he
    split at he'
    · rename_i t ht; exact ⟨t, ht, he'⟩
    · cases he'
  · cases he
theorem argT_some {ts : Array TypeId} {i : Nat} {d : TypeDesc} (h : argT P ts i = some d) : ∃ t, ts[i]? = some t ∧ P.underlying t = some d := by
  unfold argT at h
  split at h
  · rename_i t ht; exact ⟨t, ht, h⟩
  · cases h
theorem copyA_sound {ts : Array TypeId} {ty : TypeId} {s : AS} {w : World} {l l' : List Value} {r : Value × AS} (hr : Rel P ρ s w) (h : copyA P ts s l = some r) (hl : VRels ρ l l') :
    Gives P ρ s w (Builtin.copy_ ts ty l'.toArray) r := by
  unfold copyA at h
  replace h := ob_some h; obtain ⟨e, he, h⟩ := h
  replace h := ob_some h; obtain ⟨sz, hs, h⟩ := h
  obtain ⟨t0, ht0, hu⟩ := elemTs_some he
  split at h
  case h_2 => cases h
  rename_i base dl c y
  obtain ⟨x', y', rfl, hx, hy⟩ := VRels.two hl
  replace h := ob_some h; obtain ⟨n, hn, h⟩ := h
  rw [fNat_eq] at h
  replace h := ob_some h; obtain ⟨els, hels, h⟩ := h
  obtain ⟨hlen, hnl⟩ := lenOf_run (P := P) w hn hy
  obtain ⟨a1, a2, cs, hcs, hcsl, hf⟩ := sliceElems_sound hr hels hy (fun b m c e => Nat.le_trans (Nat.min_le_left _ _) (hnl b m c e))
  have h0 : ∀ (x y : Value), (#[x, y] : Array Value)[0]? = some x := fun _ _ => rfl
  have h1 : ∀ (x y : Value), (#[x, y] : Array Value)[1]? = some y := fun _ _ => rfl
  have hargs : ([x', y'] : List Value).toArray = #[x', y'] := rfl
  rw [hargs]
  split at h
  · cases h
    cases hx
    refine ⟨ρ, _, w, ?_, .int _ _, hr, .refl _ _ _⟩
    simp only [Builtin.copy_, ht0, h0, h1, Sem.run_bind, run_underlying hu, Result.andThen_ok, hlen, run_sizeOf' hs w, hf, Sem.run_pure, goInt]
    rfl
  · rename_i a
    replace h := ob_some h; obtain ⟨s', hs', h⟩ := h
    cases h
    cases hx with | @slice a x off dl c cap ad hx q1 q2 q3 q4 q5 => ?_
    have hrun : ∀ w', (storeCells ad cs).run P w = .ok () w' → (Builtin.copy_ ts ty #[.slice (some ad) dl cap, y']).run P w = .ok (goInt (Nat.min n dl)) w' := by
      intro w' hw'
      simp only [Builtin.copy_, ht0, h0, h1, Sem.run_bind, run_underlying hu, Result.andThen_ok, hlen, run_sizeOf' hs w, hf, Sem.run_pure, hw']
    rcases Nat.eq_zero_or_pos (Nat.min n dl) with hm | hm
    · rw [hm] at a2 hcsl
      have := List.length_eq_zero_iff.1 a2
      subst this
      cases hs'
      have : cs = [] := List.length_eq_zero_iff.1 (by rw [hcsl]; simp)
      subst this
      exact ⟨ρ, _, w, hrun w rfl, .int _ _, hr, .refl _ _ _⟩
    · have had : ad = ⟨x.b, x.base + off, none⟩ := by
        rcases q4 with q4 | q4
        · exact q4
        · have := Nat.min_le_right n dl
          have : Nat.min n dl ≤ dl := this
          omega
      subst had
      obtain ⟨w', hst, hR, hS⟩ := storeElems_sound hx hr hs' hcs a1
      exact ⟨ρ, _, w', hrun w' hst, .int _ _, hR, hS⟩
theorem run_setObj' {w : World} {r : Nat} {o o' : Obj} (h : w.heap[r]? = some o) (hc : ∀ c e f, o ≠ .cells c e f) : (setObj r o').run P w = .ok () { w with heap := w.heap.setIfInBounds r o' } := by
  cases o <;> first | exact (hc _ _ _ rfl).elim | simp [setObj, Sem.run, h]
theorem run_getObj' {w : World} {r : Nat} {o : Obj} (h : w.heap[r]? = some o) (hc : ∀ c e f, o ≠ .cells c e f) : (getObj r).run P w = .ok o w := by
  cases o <;> first | exact (hc _ _ _ rfl).elim | simp [getObj, Sem.run, h]
/-- an object of its own is written. -/
theorem Rel.setObj {s s' : AS} {w : World} {a : Nat} {k k' : Blk} {x : Loc} {o' : Obj} (hr : Rel P ρ s w) (hs : s.set a (some k') = some s')
    (hk : s.h.get a = some k) (hro : isRo k = false) (hx : ρ a = some x) (hb : ∀ w' : World, w'.heap[x.b]? = some o' → BRel P ρ x w' k') (hlk : isLoop k = true → isLoop k' = true := by intro h; cases h) :
    Rel P ρ s' { w with heap := w.heap.setIfInBounds x.b o' } ∧ Stp ρ s w ρ s' { w with heap := w.heap.setIfInBounds x.b o' } :=
  have hlt := (hr.blk a k x hk hx).1
  Rel.write hr hs hk hro hx (by simp) (fun b hb' => by simp [Ne.symm hb']) rfl rfl rfl (hb _ (by simp [hlt])) hlk
theorem clearA_sound {ts : Array TypeId} {ty : TypeId} {s : AS} {w : World} {l l' : List Value} {r : Value × AS} (hr : Rel P ρ s w) (h : clearA P ts s l = some r) (hl : VRels ρ l l') :
    Gives P ρ s w (Builtin.clear_ ts ty l'.toArray) r := by
  unfold clearA at h
  split at h
  · rename_i hts
    cases h
    obtain ⟨t0, ht0, hu⟩ := argT_some hts
    obtain ⟨x', rfl, hx⟩ := VRels.onev hl
    cases hx
    refine ⟨ρ, _, w, ?_, .tuple .nil, hr, .refl _ _ _⟩
    have h0 : ∀ (x : Value), (#[x] : Array Value)[0]? = some x := fun _ => rfl
    simp only [Builtin.clear_, ht0, h0, Sem.run_bind, run_underlying hu, Result.andThen_ok, Sem.run_pure]
  · rename_i e a n c hts
    obtain ⟨t0, ht0, hu⟩ := argT_some hts
    obtain ⟨x', rfl, hx⟩ := VRels.onev hl
    replace h := ob_some h; obtain ⟨⟨sz, z⟩, hei, h⟩ := h
    replace h := ob_some h; obtain ⟨els, hels, h⟩ := h
    replace h := ob_some h; obtain ⟨s', hs', h⟩ := h
    cases h
    have hels := repl_eq _ _ _ hels
    subst hels
    obtain ⟨i, zv, hi, hiz, hz, hsz, hbytes, hzl, hts', hzz, hzv⟩ := elemInfo_some (ρ := ρ) hei
    have h0 : ∀ (x : Value), (#[x] : Array Value)[0]? = some x := fun _ => rfl
    cases hx with | @slice a x off n c cap ad hx q1 q2 q3 q4 q5 => ?_
    cases n with
    | zero =>
      cases hs'
      refine ⟨ρ, _, w, ?_, .tuple .nil, hr, .refl _ _ _⟩
      simp only [Builtin.clear_, ht0, h0, Sem.run_bind, run_underlying hu, Result.andThen_ok, Sem.run_pure]
    | succ n =>
      have had : ad = ⟨x.b, x.base + off, none⟩ := by
        rcases q4 with q4 | q4
        · exact q4
        · omega
      subst had
      obtain ⟨w', hst, hR, hS⟩ := storeElems_sound hx hr hs' (VRels.replicate hzz (n + 1)) (fun l hl => by rw [(List.mem_replicate.1 hl).2]; exact hzl)
      have hzc := zeroCells_list zv.cells (n + 1)
      rw [← hz] at hzc
      refine ⟨ρ, _, w', ?_, .tuple .nil, hR, hS⟩
      simp only [Builtin.clear_, ht0, h0, Sem.run_bind, run_underlying hu, Result.andThen_ok, Sem.run_pure, run_zeroValue' hzv w, hzc, hst]
  · rename_i k e r' hts
    obtain ⟨t0, ht0, hu⟩ := argT_some hts
    obtain ⟨x', rfl, hx⟩ := VRels.onev hl
    replace h := mapOf_some h; obtain ⟨kt, es, ck, hb, h⟩ := h
    replace h := ob_some h; obtain ⟨s', hs', h⟩ := h
    cases h
    have h0 : ∀ (x : Value), (#[x] : Array Value)[0]? = some x := fun _ => rfl
    cases hx with | @map a x hx => ?_
    obtain ⟨ents, hh, hm, _⟩ := (hr.blk _ _ x hb hx).2
    have hS := Rel.setObj (o' := .map #[] ck) hr hs' hb rfl hx (fun w' hw' => ⟨#[], hw', ⟨[], .nil, .nil, by simp⟩, by simp [Borns]⟩)
    refine ⟨ρ, _, _, ?_, .tuple .nil, hS.1, hS.2⟩
    simp only [Builtin.clear_, ht0, h0, Sem.run_bind, run_underlying hu, Result.andThen_ok, Sem.run_pure, run_getObj' hh (by simp), run_setObj' hh (by simp)]
  · cases h
end Go.Eng
namespace Go.Eng
open Go
variable {P : Program} {ρ : Ren}
theorem convP_sound {src dst : TypeId} {ds d : TypeDesc} {x x' v : Value} (w : World) (hs : P.underlying src = some ds) (hd : P.underlying dst = some d) (h : convP d x = some v) (hx : VRel ρ x x') :
    ∃ u, (convert src dst x').run P w = .ok u w ∧ VRel ρ v u := by
  unfold convP at h
  split at h
  · rw [fWrap_eq] at h
    cases h
    cases hx
    refine ⟨_, ?_, .int _ _⟩
    simp only [convert, Sem.run_bind, run_underlying hs, run_underlying hd, Result.andThen_ok, Conv.intToInt, Sem.run_pure]
  · cases h
    cases hx
    refine ⟨_, ?_, .string _⟩
    simp only [convert, Sem.run_bind, run_underlying hs, run_underlying hd, Result.andThen_ok, Conv.intToString, Sem.run_pure]
  · cases h
    cases hx
    refine ⟨_, ?_, .string _⟩
    simp only [convert, Sem.run_bind, run_underlying hs, run_underlying hd, Result.andThen_ok, Sem.run_pure]
  · cases h
theorem bytesFrom_eq : ∀ {els : List (List Value)} {l : List UInt8}, bytesFrom els = some l → els.flatten = l.map fun (b : UInt8) => Value.int .u8 (b.toNat : Int) := by
  intro els
  induction els with
  | nil => intro l h; cases h; rfl
  | cons e els ih =>
    intro l h
    have h' : (match (generalizing := false) e with
      | [.int k n] => bif' (kEq k .u8) (ob (natOf n) fun n => bif' (Nat.blt n 256) (ob (bytesFrom els) fun r => some (UInt8.ofNat n :: r)) none) none
      | _ => none) = some l := h
    split at h'
    · rename_i k n
      obtain ⟨hk, h'⟩ := bif'_some h'
      obtain ⟨m, hm, h'⟩ := ob_some h'
      obtain ⟨hlt, h'⟩ := bif'_some h'
      obtain ⟨r, hr, h'⟩ := ob_some h'
      cases h'
      have hk := kEq_iff.1 hk
      have hm := natOf_some hm
      subst hk hm
      have hlt : m < 256 := Nat.le_of_ble_eq_true hlt
      rw [List.flatten_cons, ih hr]
      have e1 : (UInt8.ofNat m).toNat = m := by simp [UInt8.toNat_ofNat']; omega
      simp [e1]
    · cases h'
theorem plainInts {l : List UInt8} {m : List Value} (h : VRels ρ (l.map fun (b : UInt8) => Value.int .u8 (b.toNat : Int)) m) : m = l.map fun (b : UInt8) => Value.int .u8 (b.toNat : Int) :=
  VRels.plain h (fun v hv => by obtain ⟨b, _, rfl⟩ := List.mem_map.1 hv; exact .int _ _)
theorem convR_sound {src dst e : TypeId} {s : AS} {w : World} {x x' v : Value} (hr : Rel P ρ s w) (hs : P.underlying src = some (.slice e)) (he : P.underlying e = some (.int .u8)) (hd : P.underlying dst = some .string)
    (h : convR s x = some v) (hx : VRel ρ x x') : ∃ u, (convert src dst x').run P w = .ok u w ∧ VRel ρ v u := by
  unfold convR at h
  split at h
  · rename_i base n c
    replace h := ob_some h; obtain ⟨els, hels, h⟩ := h
    replace h := ob_some h; obtain ⟨l, hl, h⟩ := h
    cases h
    obtain ⟨_, a2, cs, hcs, hcsl, hf⟩ := sliceElems_sound hr hels hx (fun b m c e => by cases e; exact Nat.le_refl _)
    rw [bytesFrom_eq hl] at hcs
    have hcs := plainInts hcs
    refine ⟨.string ⟨⟨l⟩⟩, ?_, .string _⟩
    cases hx with
    | sliceNil =>
      have : l = [] := by
        rw [Nat.zero_mul] at hcsl
        rw [hcs, List.length_map] at hcsl
        exact List.length_eq_zero_iff.1 hcsl
      subst this
      have : (convert src dst (.slice none 0 0)).run P w = .ok (.string .empty) w := by
        simp only [convert, Sem.run_bind, run_underlying hs, run_underlying hd, run_underlying he, Result.andThen_ok, Conv.bytesToString, Sem.run_pure]
      exact this
    | slice off n c cap ad hx q1 q2 q3 q4 q5 =>
      have hld : (loadCells ad n).run P w = .ok ((l.map (fun b => (b.toNat : Int))).map (Value.int .u8)).toArray w := by
        have := hf
        simp only [Builtin.firstCells, Nat.mul_one] at this
        rw [this, hcs, List.map_map]; rfl
      have := run_bytesToString (P := P) w ad n cap _ hld
      rw [foldl_push_byteCells] at this
      simp only [convert, Sem.run_bind, run_underlying hs, run_underlying hd, run_underlying he, Result.andThen_ok]
      rw [this]
      simp
  · cases h
theorem convN_made {src dst e : TypeId} {s : AS} {x : Value} {r : Value × AS} (hs : P.underlying src = some .string) (hd : P.underlying dst = some (.slice e)) (he : P.underlying e = some (.int .u8))
    (h : convN e s x = some r) : ∃ k, s.new k = some r.2 ∧ ∀ {ρ : Ren} {w : World} {x' : Value}, ρ s.nx = none → VRel ρ x x' → Made P ρ w s.nx (convert src dst x') r.1 k := by
  unfold convN at h
  split at h
  · rename_i b
    obtain ⟨hle, h⟩ := bif'_some h
    obtain ⟨els, hels, h⟩ := ob_some h
    have hels := byteCells_eq hels
    subst hels
    have hle : b.data.toList.length ≤ 1000000 := by rw [← len_eq]; exact Nat.le_of_ble_eq_true hle
    have hbs : b.size = b.data.toList.length := by simp
    rw [len_eq, ← hbs] at h
    obtain ⟨k, hk, hmade⟩ := rowLB_made (P := P) h
    refine ⟨k, hk, fun {ρ w x'} hρ hx => ?_⟩
    cases hx
    have hrun := run_bytes_of_string (P := P) w src dst e b hs hd he
    have hge := grownCap_le w (need := b.size) 0 e
    have hrow : bytesRow b (grownCap w b.size 0 e) = ((b.data.toList.map fun (b : UInt8) => Value.int .u8 (b.toNat : Int)) ++ List.replicate (grownCap w b.size 0 e - b.size) (Value.int .u8 0)).toArray := by
      apply Array.ext'
      simp [bytesRow]
    have hlen : (bytesRow b (grownCap w b.size 0 e)).size = grownCap w b.size 0 e := by
      rw [hrow]; simp at hbs ⊢; omega
    rw [hlen, hrow] at hrun
    exact hmade (rest := List.replicate (grownCap w b.size 0 e - b.size) (Value.int .u8 0)) (lo := grownCap w b.size 0 e) (hi := grownCap w b.size 0 e + 1) (cap := grownCap w b.size 0 e)
      (w' := w.drew.alloc (.cells ((b.data.toList.map fun (b : UInt8) => Value.int .u8 (b.toNat : Int)) ++ List.replicate (grownCap w b.size 0 e - b.size) (Value.int .u8 0)).toArray e (grownCap w b.size 0 e, grownCap w b.size 0 e + 1)))
      hρ (byteRels _) hge (by simp at hbs ⊢; omega) (fun o h1 h2 => ⟨by simp at hbs ⊢; omega, he⟩) hrun rfl rfl rfl rfl
  · cases h
end Go.Eng
/-! pointers seen as others; strings out of bytes; strings ranged over. -/
namespace Go.Eng
open Go
variable {P : Program} {ρ : Ren}
theorem cellsOf_eq {t : TypeId} {n : Nat} (h : tsize P t = some n) : P.cellsOf t = n := by
  unfold tsize at h; unfold Program.cellsOf; rw [h]; rfl
theorem cell_lt {w : World} {b o n : Nat} {e : TypeId} (hs : w.shape? b = some (e, n)) (hc : (w.cell? ⟨b, o, none⟩).isSome = true) : o < n := by
  unfold World.shape? at hs
  unfold World.cell? at hc
  split at hs
  · rename_i c el fr hb
    cases hs
    simp only [hb, Option.isSome_none, Bool.false_eq_true, if_false] at hc
    rcases Nat.lt_or_ge o c.size with h | h
    · exact h
    · rw [Array.getElem?_eq_none h] at hc; cases hc
  · cases hs
theorem liesAt_same {e : TypeId} {sz off count n : Nat} (hc : P.cellsOf e = sz) (h0 : 0 < sz) (hm : off % sz = 0) (hn : off / sz + n ≤ count) : liesAt P P.depth e count off e n = true := by
  have hd : P.depth = (2 * (P.types.size + Made.depth) + 1) + 1 := rfl
  rw [hd]
  simp only [liesAt, Bool.or_eq_true]
  left
  rw [hd]
  have : ¬ sz = 0 := by omega
  simp [rowAt, hc, hm, hn, sameLayout, this]
theorem run_seenAt {w : World} {b o : Nat} {sh : TypeId × Nat} (h : w.shape? b = some sh) : (Conv.seenAt ⟨b, o, none⟩).run P w = .ok ⟨b, o, none⟩ w := by
  have hv : (viewAt b).run P w = .ok none w := by simp [viewAt, h]
  simp only [Conv.seenAt, Sem.run_bind, hv, Result.andThen_ok, Sem.run_pure]
theorem isUPtr_some {d : Option TypeDesc} (h : isUPtr d = true) : d = some .unsafePointer := by
  unfold isUPtr at h
  split at h
  · rename_i d
    have h := Nat.eq_of_beq_eq_true h
    cases d <;> first | rfl | (simp [TypeDesc.ctorIdx] at h)
  · cases h
theorem convQ_sound {src dst e : TypeId} {back : Bool} {s : AS} {w : World} {x x' v : Value} (hr : Rel P ρ s w)
    (ht : (back = false ∧ P.underlying src = some (.pointer e) ∧ P.underlying dst = some .unsafePointer) ∨ (back = true ∧ P.underlying src = some .unsafePointer ∧ P.underlying dst = some (.pointer e)))
    (h : convQ P e back s x = some v) (hx : VRel ρ x x') : ∃ u w', (convert src dst x').run P w = .ok u w' ∧ w' = w ∧ VRel ρ v u := by
  unfold convQ at h
  split at h
  · cases h
    cases hx
    refine ⟨_, w, ?_, rfl, .ptrNil⟩
    rcases ht with ⟨_, h1, h2⟩ | ⟨_, h1, h2⟩ <;> simp only [convert, Conv.unsafePointer, Sem.run_bind, run_underlying h1, run_underlying h2, Result.andThen_ok, Sem.run_pure]
  · rename_i a
    replace h := ob_some h; obtain ⟨n, hn, h⟩ := h
    replace h := cellsOf?_some h; obtain ⟨c, sz, m, ro, et, hb, h⟩ := h
    replace h := bif'_some h; obtain ⟨h0, h⟩ := h
    replace h := bif'_some h; obtain ⟨hm, h⟩ := h
    replace h := bif'_some h; obtain ⟨hs, h⟩ := h
    replace h := ob_some h; obtain ⟨l, hl, h⟩ := h
    replace h := bif'_some h; obtain ⟨hbk, h⟩ := h
    cases h
    cases hx with | @ptr a x off hx => ?_
    obtain ⟨_, hC⟩ := hr.blk _ _ x hb hx
    have hC : CellsAt P ρ x w c sz m ro et := hC
    have hs := Nat.eq_of_beq_eq_true hs
    subst hs
    have h0 : 0 < n := Nat.le_of_ble_eq_true h0
    have hm : off % n = 0 := Nat.eq_of_beq_eq_true hm
    obtain ⟨q1, q2, q3⟩ := hC.cell _ _ hl
    have hdm : off / n * n = off := by
      have := Nat.div_add_mod off n
      rw [hm, Nat.mul_comm] at this
      simpa using this
    have hall : ∀ j, j < n → x.base + off + j < x.lim := fun j hj => by
      obtain ⟨u, hu, _⟩ := q3 j _ (List.getElem?_eq_getElem (by omega))
      have e1 : x.base + (Nat.div off n * n + j) = x.base + off + j := by
        show x.base + (off / n * n + j) = x.base + off + j
        omega
      rw [e1] at hu
      exact cell_lt hC.shape (by rw [hu]; rfl)
    refine ⟨_, w, ?_, rfl, .ptr off hx⟩
    have hn0 : ¬ n = 0 := by omega
    have hsee := run_seenAt (P := P) (o := x.base + off) hC.shape
    rcases ht with ⟨_, h1, h2⟩ | ⟨hb1, h1, h2⟩
    · have hci : (cellsIn x.b).run P w = .ok (some x.lim) w := by simp [cellsIn, hC.shape]
      have hlt : ¬ (x.base + off ≥ x.lim) := by have := hall 0 h0; omega
      have hno : (decide (x.base + off ≥ x.lim) && (⟨x.b, x.base + off, none⟩ : Addr).spot.isNone) = false := by
        rw [decide_eq_false hlt]; rfl
      simp only [convert, Conv.unsafePointer, Sem.run_bind, run_underlying h1, run_underlying h2, Result.andThen_ok, Sem.run_pure, hsee, hci, run_sizeOf' hn w, hno, hn0, decide_false, Bool.or_self, Bool.false_eq_true, if_false]
    · subst hb1
      have he : et = e := Nat.eq_of_beq_eq_true hbk
      subst he
      obtain ⟨q, hq⟩ := hC.mult
      have hmod : (x.base + off) % n = 0 := by
        rw [hq, ← hdm, ← Nat.add_mul]; simp
      have hlt := hall (n - 1) (by omega)
      have hvar : (variablesAt ⟨x.b, x.base + off, none⟩ et 1).run P w = .ok true w := by
        have hsh : (shape (⟨x.b, x.base + off, none⟩ : Addr).block).run P w = .ok (some (et, x.lim)) w := by rw [run_shape]; exact congrArg (fun z => Result.ok z w) hC.shape
        have hle : (x.base + off) / n + 1 ≤ x.lim / n := by
          rw [Nat.le_div_iff_mul_le h0, Nat.add_mul, Nat.one_mul]
          have := Nat.div_add_mod (x.base + off) n
          rw [hmod, Nat.mul_comm] at this
          omega
        simp only [variablesAt, Sem.run_bind, run_program, Result.andThen_ok, hsh, Sem.run_pure, cellsOf_eq hn]
        rw [liesAt_same (cellsOf_eq hn) h0 hmod hle]
      simp only [convert, Conv.unsafePointer, Sem.run_bind, run_underlying h1, run_underlying h2, Result.andThen_ok, Sem.run_pure, hsee, run_sizeOf' hn w, hvar, hn0, decide_false, Bool.or_true, if_true, Sem.run_pure]
  · cases h
theorem dataA_sound {ts : Array TypeId} {ty : TypeId} {l l' : List Value} {v : Value} (w : World) (h : dataA l = some v) (hl : VRels ρ l l') :
    ∃ u, (Builtin.unsafeSliceData_ ts ty l'.toArray).run P w = .ok u w ∧ VRel ρ v u := by
  unfold dataA at h
  split at h
  · cases h
    obtain ⟨x', rfl, hx⟩ := VRels.onev hl
    cases hx
    exact ⟨_, rfl, .ptrNil⟩
  · rename_i a0 n0 c0
    obtain ⟨x', rfl, hx⟩ := VRels.onev hl
    replace h := bif'_some h; obtain ⟨h0, h⟩ := h
    cases h
    cases hx with | @slice a x off _ _ cap ad hx q1 q2 q3 q4 q5 => ?_
    have h0 : 0 < c0 / 512 := Nat.le_of_ble_eq_true h0
    have had : ad = ⟨x.b, x.base + off, none⟩ := by
      rcases q4 with q4 | q4
      · exact q4
      · omega
    subst had
    exact ⟨_, Go.Lib.run_unsafeSliceData_row w ts ty _ n0 cap (by omega), .ptr off hx⟩
  · cases h
/-- A BLOCK'S CELLS ARE NO LONGER WRITTEN. -/
theorem Rel.freeze {s s' : AS} {w w' : World} {a : Nat} {x : Loc} {c : T (List Value)} {sz n : Nat} {ro : Bool} {et : TypeId} (hr : Rel P ρ s w) (hs : s.set a (some (.cells c sz n true et)) = some s')
    (hk : s.h.get a = some (.cells c sz n ro et)) (hx : ρ a = some x) (hsz : w'.heap.size = w.heap.size) (hold : ∀ b, b ≠ x.b → w'.heap[b]? = w.heap[b]?)
    (hc : ∀ o, w'.cell? ⟨x.b, o, none⟩ = w.cell? ⟨x.b, o, none⟩) (hsh : w'.shape? x.b = w.shape? x.b)
    (ht : w'.tape = w.tape) (ho : w'.os = w.os) (hu : w'.output = w.output) : Rel P ρ s' w' ∧ Stp ρ s w ρ s' w' := by
  obtain ⟨hnx, hg⟩ := AS.set_eq hs
  have halt : a < s.nx := by
    rcases Nat.lt_or_ge a s.nx with h | h
    · exact h
    · rw [hr.dom a h] at hx; cases hx
  obtain ⟨hlt, hC⟩ := hr.blk _ _ x hk hx
  have hC : CellsAt P ρ x w c sz n ro et := hC
  have tr : ∀ {y : Loc} {c' sz' n' et'}, y.b = x.b → ∀ {ro'}, CellsAt P ρ y w c' sz' n' ro' et' → CellsAt P ρ y w' c' sz' n' true et' := fun {y c' sz' n' et'} hy {ro'} h =>
    ⟨fun i l hl => (let ⟨p1, p2, p3⟩ := h.cell i l hl; ⟨p1, p2, fun j v hv => by rw [hy, hc, ← hy]; exact p3 j v hv⟩), fun o ho => by rw [hy, hc, ← hy]; exact h.all o ho, fun q => (by cases q), (by rw [hy, hsh, ← hy]; exact h.shape), h.mult⟩
  refine (fun (hS : Stp ρ s w ρ s' w') => ⟨⟨fun a ha => hr.dom a (by omega), fun b hb => ?_, fun b k2 y e e' => ?_, by rw [(AS.set_lim hs).1, hnx]; exact hr.lim, fun b b' k1 k2 x1 x2 hne' e1 e2 r1 r2 hbb => ?_, hr.gl.of hS.size hS.frame⟩, hS⟩) ⟨fun _ _ => rfl, by omega, ht, ho, hu, by omega, fun b hb' hn => ?_, fun b hb' hn => ?_, fun b r hb' => ?_, (AS.set_lim hs).1, AS.set_low hs, fun b k2 y hl _ hk2 hro hy => hold _ (fun e => by
    have hba : b ≠ a := by have := (AS.set_lim hs).2; omega
    have := (hr.excl b a k2 _ y x hba hk2 hk hy hx e).1
    rw [hro] at this; cases this)⟩
  · have hbx : b ≠ x.b := fun e => hn ⟨a, _, x, hk, hx, e.symm⟩
    refine ⟨hold b hbx, ?_⟩
    rintro ⟨c, k2, y, e, e', rfl⟩
    rw [hg] at e
    by_cases hc : c = a
    · rw [hc, hx] at e'; cases e'; exact hbx rfl
    · rw [if_neg hc] at e; exact hn ⟨c, k2, y, e, e', rfl⟩
  · exact .inl (by rw [hg, if_neg (fun e => by rw [e, hx] at hn; cases hn)])
  · by_cases hbx : b = x.b
    · subst hbx
      have : isLoop (.cells c sz n ro et) = true := brel_loop (P := P) (ρ := ρ) hb' (hr.blk _ _ x hk hx).2
      cases this
    · exact ⟨r, by rw [hold b hbx]; exact hb'⟩
  · rw [hg, if_neg (by omega)]; exact hr.top b (by omega)
  · rw [hg] at e
    by_cases hb' : b = a
    · subst hb'
      rw [if_pos rfl] at e; cases e
      rw [hx] at e'; cases e'
      exact ⟨by rw [hsz]; exact hlt, tr rfl hC⟩
    · rw [if_neg hb'] at e
      obtain ⟨h1, h2⟩ := hr.blk b k2 y e e'
      refine ⟨by omega, ?_⟩
      by_cases hyx : y.b = x.b
      · have hro := (hr.excl b a k2 _ y x hb' e hk e' hx hyx).1
        cases k2 with
        | cells c2 s2 n2 ro2 et2 =>
          have hro : ro2 = true := hro
          subst hro
          exact tr hyx h2
        | map => cases hro
        | strIter => cases hro
        | mapIter => cases hro
        | loop => cases hro
      · exact h2.congr (hold _ hyx)
  · have old : ∀ {b k}, s'.h.get b = some k → ∃ k0, s.h.get b = some k0 ∧ (isRo k0 = true → isRo k = true) := fun {b k} e => by
      rw [hg] at e
      by_cases hb : b = a
      · rw [if_pos hb] at e; cases e; exact ⟨_, by rw [hb]; exact hk, fun _ => rfl⟩
      · rw [if_neg hb] at e; exact ⟨k, e, id⟩
    obtain ⟨k1', f1, g1⟩ := old e1
    obtain ⟨k2', f2, g2⟩ := old e2
    obtain ⟨p1, p2⟩ := hr.excl b b' k1' k2' x1 x2 hne' f1 f2 r1 r2 hbb
    exact ⟨g1 p1, g2 p2⟩

theorem cell?_freeze (w : World) (a : Addr) (n : Nat) (x : Addr) : (w.freeze a n).cell? x = w.cell? x := by
  unfold World.freeze
  split
  · rfl
  · simp only [World.cell?, Array.getElem?_modify]
    by_cases h : a.block = x.block
    · rw [if_pos h]
      cases hk : w.heap[x.block]? with
      | none => simp
      | some o => cases o <;> simp
    · rw [if_neg h]
theorem shape?_freeze (w : World) (a : Addr) (n : Nat) (r : Nat) : (w.freeze a n).shape? r = w.shape? r := by
  unfold World.freeze
  split
  · rfl
  · simp only [World.shape?, Array.getElem?_modify]
    by_cases h : a.block = r
    · rw [if_pos h]
      cases hk : w.heap[r]? with
      | none => simp
      | some o => cases o <;> simp
    · rw [if_neg h]
theorem freeze_other (w : World) (a : Addr) (n : Nat) (b : Nat) (h : b ≠ a.block) : (w.freeze a n).heap[b]? = w.heap[b]? := by
  unfold World.freeze
  split
  · rfl
  · simp [Array.getElem?_modify, Ne.symm h]
theorem freeze_size (w : World) (a : Addr) (n : Nat) : (w.freeze a n).heap.size = w.heap.size := by
  unfold World.freeze; split <;> simp
theorem freeze_rest (w : World) (a : Addr) (n : Nat) : (w.freeze a n).tape = w.tape ∧ (w.freeze a n).os = w.os ∧ (w.freeze a n).output = w.output := by
  unfold World.freeze; split <;> exact ⟨rfl, rfl, rfl⟩
theorem strA_sound {ts : Array TypeId} {ty : TypeId} {s : AS} {w : World} {l l' : List Value} {r : Value × AS} (hr : Rel P ρ s w) (h : strA P ts s l = some r) (hl : VRels ρ l l') :
    Gives P ρ s w (Builtin.unsafeString_ ts ty l'.toArray) r := by
  have hmax : IntKind.i64.max = 9223372036854775807 := rfl
  unfold strA at h
  split at h
  · rename_i u k hts
    obtain ⟨t0, ht0, hu⟩ := argT_some hts
    obtain ⟨x', y', rfl, hx, hy⟩ := VRels.two hl
    cases hx
    cases hy
    cases h
    refine ⟨ρ, _, w, ?_, .string _, hr, .refl _ _ _⟩
    have hargs : ([Value.pointer none, .int k (.ofNat 0)] : List Value).toArray = #[.pointer none, .int k 0] := rfl
    rw [hargs]
    have h1 : ¬ ((0 : Int) < 0) := by decide
    have h2 : ¬ ((0 : Int) > IntKind.i64.max) := by decide
    rw [show Builtin.unsafeString_ ts ty #[.pointer none, .int k 0] = asInt (.int k 0) >>= _ from rfl]
    simp only [ht0, Sem.run_bind, run_asInt, Result.andThen_ok, if_neg h1, if_neg h2, if_pos, Sem.run_pure]
    rfl
  · rename_i u a k n hts
    obtain ⟨t0, ht0, hu⟩ := argT_some hts
    obtain ⟨x', y', rfl, hx, hy⟩ := VRels.two hl
    replace h := cellsOf?_some h; obtain ⟨c, sz, m, ro, et, hb, h⟩ := h
    replace h := bif'_some h; obtain ⟨het, h⟩ := h
    replace h := bif'_some h; obtain ⟨hsz, h⟩ := h
    replace h := bif'_some h; obtain ⟨hus, h⟩ := h
    replace h := bif'_some h; obtain ⟨hn, h⟩ := h
    replace h := ob_some h; obtain ⟨els, hels, h⟩ := h
    replace h := ob_some h; obtain ⟨bs, hbs, h⟩ := h
    replace h := ob_some h; obtain ⟨s', hs', h⟩ := h
    cases h
    cases hy
    cases hx with | @ptr a x off hx => ?_
    have het := Nat.eq_of_beq_eq_true het
    have hsz := Nat.eq_of_beq_eq_true hsz
    have hus := Nat.eq_of_beq_eq_true hus
    subst het hsz
    have hn : n < 1000000 := Nat.le_of_ble_eq_true hn
    have hsz1 : tsize P et = some 1 := by
      cases hq : tsize P et with
      | none => rw [hq] at hus; cases hus
      | some q => rw [hq] at hus; simp at hus; rw [hus]
    obtain ⟨hlt, hC⟩ := hr.blk _ _ x hb hx
    have hC : CellsAt P ρ x w c 1 m ro et := hC
    obtain ⟨hel, hg⟩ := elems_get _ _ _ hels
    have hlen : ∀ l ∈ els, l.length = 1 := fun l hl => by
      obtain ⟨i, hi⟩ := List.mem_iff_getElem?.1 hl
      exact (hC.cell _ _ (hg i l hi)).2.1
    have hfl := bytesFrom_eq hbs
    have hbl : bs.length = n := by
      have := flat_len hlen
      rw [hfl, List.length_map, hel] at this
      omega
    have hcell : ∀ j (b : UInt8), bs[j]? = some b → w.cell? ⟨x.b, x.base + off + j, none⟩ = some (.int .u8 b.toNat) := by
      intro j b hj
      have hf : els.flatten[j]? = some (.int .u8 (b.toNat : Int)) := by rw [hfl]; simp [hj]
      obtain ⟨_, l, q1, q2⟩ := flat_some hlen hf
      obtain ⟨u, hu, hr'⟩ := (hC.cell _ _ (hg _ l q1)).2.2 _ _ q2
      cases hr'
      have e1 : x.base + ((off + j / 1) * 1 + j % 1) = x.base + off + j := by simp [Nat.mod_one]; omega
      have e2 : x.base + (((⟨a, off, none⟩ : Addr).off + j / 1) * 1 + j % 1) = x.base + off + j := e1
      rw [e2] at hu
      exact hu
    have h1 : ¬ (((n : Nat) : Int) < 0) := by omega
    have h2 : ¬ (((n : Nat) : Int) > IntKind.i64.max) := by rw [hmax]; omega
    have hargs : ([Value.pointer (some ⟨x.b, x.base + off, none⟩), .int k (.ofNat n)] : List Value).toArray = #[.pointer (some ⟨x.b, x.base + off, none⟩), .int k (n : Int)] := rfl
    rw [hargs]
    cases n with
    | zero =>
      have : bs = [] := List.length_eq_zero_iff.1 hbl
      subst this
      obtain ⟨hR, hS⟩ := Rel.freeze hr hs' hb hx rfl (fun _ _ => rfl) (fun _ => rfl) rfl rfl rfl rfl
      refine ⟨ρ, _, w, ?_, .string _, hR, hS⟩
      rw [show Builtin.unsafeString_ ts ty #[.pointer (some ⟨x.b, x.base + off, none⟩), .int k ((0 : Nat) : Int)] = asInt (.int k ((0 : Nat) : Int)) >>= _ from rfl]
      simp only [ht0, Sem.run_bind, run_asInt, Result.andThen_ok, if_neg h1, if_neg h2]
      rfl
    | succ n =>
      have hne : ¬ (((n + 1 : Nat) : Int) = 0) := by omega
      have hlast : x.base + off + n < x.lim := by
        have hjl : n < bs.length := by omega
        have := hcell n _ (List.getElem?_eq_getElem hjl)
        exact cell_lt hC.shape (by rw [this]; rfl)
      have hvar : (variablesAt ⟨x.b, x.base + off, none⟩ et (n + 1)).run P w = .ok true w := by
        have hsh : (shape (⟨x.b, x.base + off, none⟩ : Addr).block).run P w = .ok (some (et, x.lim)) w := by rw [run_shape]; exact congrArg (fun z => Result.ok z w) hC.shape
        simp only [variablesAt, Sem.run_bind, run_program, Result.andThen_ok, hsh, Sem.run_pure, cellsOf_eq hsz1]
        rw [liesAt_same (cellsOf_eq hsz1) (by omega) (Nat.mod_one _) (by simp; omega)]
      have hld := Go.Lib.run_loadBytes (P := P) w bs ⟨x.b, x.base + off, none⟩ .empty (fun j b hj => by rw [addr_add]; exact hcell j b hj)
      rw [hbl] at hld
      obtain ⟨f1, f2, f3⟩ := freeze_rest w ⟨x.b, x.base + off, none⟩ (n + 1)
      obtain ⟨hR, hS⟩ := Rel.freeze (w' := w.freeze ⟨x.b, x.base + off, none⟩ (n + 1)) hr hs' hb hx (freeze_size _ _ _) (fun b hb' => freeze_other _ _ _ _ hb') (fun _ => cell?_freeze _ _ _ _) (shape?_freeze _ _ _ _) f1 f2 f3
      refine ⟨ρ, .string ⟨⟨bs⟩⟩, _, ?_, .string _, hR, hS⟩
      have helem : (elemOf t0).run P w = .ok et w := by simp [elemOf, run_underlying hu]
      have e0 : (⟨(ByteArray.empty).data ++ bs.toArray⟩ : ByteArray) = ⟨⟨bs⟩⟩ := by
        have : (ByteArray.empty).data = #[] := rfl
        rw [this]; simp
      rw [e0] at hld
      rw [show Builtin.unsafeString_ ts ty #[.pointer (some ⟨x.b, x.base + off, none⟩), .int k ((n + 1 : Nat) : Int)] = asInt (.int k ((n + 1 : Nat) : Int)) >>= _ from rfl]
      simp only [ht0, Sem.run_bind, run_asInt, Result.andThen_ok, if_neg h1, if_neg h2, if_neg hne, helem, Int.toNat_natCast, hvar, if_true, hld, run_freeze, Sem.run_pure]
  · cases h
theorem rangeA_sound {t : TypeId} {s : AS} {w : World} {x x' : Value} {r : Value × AS} (hr : Rel P ρ s w) (h : rangeA P t s x = some r) (hx : VRel ρ x x') : Gives P ρ s w (Instr.range t x') r := by
  unfold rangeA at h
  split at h
  · rename_i b hu
    replace h := ob_some h; obtain ⟨s', hs', h⟩ := h
    cases h
    cases hx
    have hha : (w.alloc (.stringIter b 0)).heap = w.heap.push (.stringIter b 0) := rfl
    have hA := Rel.alloc (P := P) (x := ⟨w.heap.size, 0, 0⟩) (w' := w.alloc (.stringIter b 0)) hr hs' rfl (by simp [hha]) (fun c hc => by simp [hha, Array.getElem?_push, Nat.ne_of_lt hc]) rfl rfl rfl ⟨rfl, by simp [hha]⟩
    refine ⟨_, _, _, ?_, VRel.ptr (x := ⟨w.heap.size, 0, 0⟩) 0 (put_self _ _ _), hA.1, hA.2⟩
    simp only [Instr.range, Sem.run_bind, run_underlying hu, Result.andThen_ok, Sem.run_pure, run_newObj_alloc]
  · rename_i k e hu
    replace h := ob_some h; obtain ⟨s', hs', h⟩ := h
    cases h
    cases hx
    have hha : (w.alloc (.mapIter none 0 #[] 0)).heap = w.heap.push (.mapIter none 0 #[] 0) := rfl
    have hA := Rel.alloc (P := P) (x := ⟨w.heap.size, 0, 0⟩) (w' := w.alloc (.mapIter none 0 #[] 0)) hr hs' rfl (by simp [hha]) (fun c hc => by simp [hha, Array.getElem?_push, Nat.ne_of_lt hc]) rfl rfl rfl ⟨rfl, .inl ⟨rfl, by simp [hha]⟩⟩
    refine ⟨_, _, _, ?_, VRel.ptr (x := ⟨w.heap.size, 0, 0⟩) 0 (put_self _ _ _), hA.1, hA.2⟩
    simp only [Instr.range, Sem.run_bind, run_underlying hu, Result.andThen_ok, Sem.run_pure, run_newObj_alloc]
  · rename_i m k e hu
    replace h := mapOf_some h; obtain ⟨kt, es, ck, hb, h⟩ := h
    replace h := ob_some h; obtain ⟨s', hs', h⟩ := h
    cases h
    cases hx with | @map _ y hy => ?_
    obtain ⟨ents, hh, _⟩ := (hr.blk _ _ y hb hy).2
    have hha : (w.alloc (.mapIter (some y.b) ck #[] ck)).heap = w.heap.push (.mapIter (some y.b) ck #[] ck) := rfl
    have hA := Rel.alloc (P := P) (x := ⟨w.heap.size, 0, 0⟩) (w' := w.alloc (.mapIter (some y.b) ck #[] ck)) hr hs' rfl (by simp [hha]) (fun c hc => by simp [hha, Array.getElem?_push, Nat.ne_of_lt hc]) rfl rfl rfl ⟨rfl, .inr ⟨m, y, rfl, put_le (hr.dom _ (Nat.le_refl _)) _ _ _ hy, by simp [hha]⟩⟩
    refine ⟨_, _, _, ?_, VRel.ptr (x := ⟨w.heap.size, 0, 0⟩) 0 (put_self _ _ _), hA.1, hA.2⟩
    simp only [Instr.range, Sem.run_bind, run_underlying hu, Result.andThen_ok, Sem.run_pure, run_getObj' hh (by simp), run_newObj_alloc]
  · cases h
theorem nextA_sound {ty : TypeId} {s : AS} {w : World} {x x' : Value} {r : Value × AS} (hr : Rel P ρ s w) (h : nextA s x = some r) (hx : VRel ρ x x') : Gives P ρ s w (Instr.next x' true ty) r := by
  unfold nextA at h
  split at h
  · rename_i a sp
    split at h
    · rename_i b pos hb
      cases hx with | @ptr a y off hy => ?_
      obtain ⟨_, h0, hh⟩ := hr.blk _ _ y hb hy
      rw [h0]
      rw [bif'_eq] at h
      split at h
      · rename_i hlt
        replace h := ob_some h; obtain ⟨s', hs', h⟩ := h
        cases h
        have hlt : pos < b.size := by
          have : pos < len b.data.toList := Nat.le_of_ble_eq_true hlt
          rw [len_eq] at this
          simpa using this
        have hS := Rel.setObj (o' := .stringIter b (pos + (Utf8.decode b pos).2)) hr hs' hb rfl hy (fun w' hw' => ⟨h0, hw'⟩)
        refine ⟨ρ, _, _, ?_, .tuple (.cons (.bool _) (.cons (.int _ _) (.cons (.int _ _) .nil))), hS.1, hS.2⟩
        simp only [Instr.next, Sem.run_bind, Sem.run_pure, Result.andThen_ok, run_getObj' hh (by simp), if_pos hlt, run_setObj' hh (by simp), goInt]
        try rfl
      · rename_i hlt
        cases h
        have hlt : ¬ pos < b.size := fun h => hlt (by
          have : pos < len b.data.toList := by rw [len_eq]; simpa using h
          exact Nat.ble_eq_true_of_le this)
        refine ⟨ρ, _, w, ?_, .tuple (.cons (.bool _) .nil), hr, .refl _ _ _⟩
        simp only [Instr.next, Sem.run_bind, Sem.run_pure, Result.andThen_ok, run_getObj' hh (by simp), if_neg hlt]
        try rfl
    · cases h
  · cases h
theorem lenM_sound {ts : Array TypeId} {ty : TypeId} {s : AS} {w : World} {l l' : List Value} {v : Value} (hr : Rel P ρ s w) (ht : isMapT (argT P ts 0) = true) (h : lenM s l = some v) (hl : VRels ρ l l') :
    ∃ u, (Builtin.len_ ts ty l'.toArray).run P w = .ok u w ∧ VRel ρ v u := by
  have ht' : ∃ t0 k e, ts[0]? = some t0 ∧ P.underlying t0 = some (.map k e) := by
    unfold isMapT at ht
    split at ht
    · rename_i k e hts
      obtain ⟨t0, h1, h2⟩ := argT_some hts
      exact ⟨t0, k, e, h1, h2⟩
    · cases ht
  obtain ⟨t0, k, e, ht0, hu⟩ := ht'
  have h0 : ∀ (x : Value), (#[x] : Array Value)[0]? = some x := fun _ => rfl
  unfold lenM at h
  split at h
  · cases h
    obtain ⟨x', rfl, hx⟩ := VRels.onev hl
    cases hx
    refine ⟨_, ?_, .int _ _⟩
    simp only [Builtin.len_, ht0, h0, Sem.run_bind, run_underlying hu, Result.andThen_ok, Sem.run_pure, goInt]
    rfl
  · obtain ⟨x', rfl, hx⟩ := VRels.onev hl
    replace h := mapOf_some h; obtain ⟨kt, es, ck, hb, h⟩ := h
    rw [fNat_eq] at h
    cases h
    cases hx with | @map a x hx => ?_
    obtain ⟨ents, hh, ⟨m, hp, hf, _⟩, _⟩ := (hr.blk _ _ x hb hx).2
    refine ⟨_, ?_, .int _ _⟩
    have hlen : len es = ents.size := by
      rw [len_eq]
      have h1 : ∀ {l : List (Value × Value × Nat)} {m : List MapEntry}, F2 (fun p e => p.1 = e.key ∧ keyFits P kt p.1 = true ∧ Plain p.1 ∧ VRel ρ p.2.1 e.val ∧ (p.2.2 = 0 ∨ p.2.2 = e.born + 1)) l m → l.length = m.length := by
        intro l m h
        induction h with
        | nil => rfl
        | cons _ _ ih => simp [ih]
      rw [h1 hf, hp.length_eq]; simp
    simp only [Builtin.len_, ht0, h0, Sem.run_bind, run_underlying hu, Result.andThen_ok, Sem.run_pure, goInt, run_getObj' hh (by simp), hlen]
    rfl
  · cases h
end Go.Eng
/-! keys of maps. -/
namespace Go.Eng
open Go
variable {P : Program} {ρ : Ren}
theorem cellsFit_cons {k : KK} {ks : List KK} {l : List Value} (h : cellsFit (k :: ks) l = true) : ∃ v r, l = v :: r ∧ kkFits k v = true ∧ cellsFit ks r = true := by
  cases l with
  | nil => cases h
  | cons v r =>
    have h' : bif' (kkFits k v) (cellsFit ks r) false = true := h
    rw [bif'_eq] at h'
    split at h'
    · exact ⟨v, r, rfl, ‹_›, h'⟩
    · cases h'
theorem cellsFit_nil {l : List Value} (h : cellsFit [] l = true) : l = [] := by
  cases l with
  | nil => rfl
  | cons v r => cases h
theorem cellsFit_len : ∀ {ks : List KK} {l : List Value}, cellsFit ks l = true → l.length = ks.length := by
  intro ks
  induction ks with
  | nil => intro l h; rw [cellsFit_nil h]; rfl
  | cons k ks ih => intro l h; obtain ⟨v, r, rfl, _, h⟩ := cellsFit_cons h; simp [ih h]
theorem cellsFit_append : ∀ {a b : List KK} {l : List Value}, cellsFit (a ++ b) l = true → cellsFit a (l.take a.length) = true ∧ cellsFit b (l.drop a.length) = true := by
  intro a
  induction a with
  | nil => intro b l h; exact ⟨rfl, h⟩
  | cons k a ih =>
    intro b l h
    obtain ⟨v, r, rfl, h1, h2⟩ := cellsFit_cons h
    obtain ⟨h3, h4⟩ := ih h2
    refine ⟨?_, h4⟩
    show bif' (kkFits k v) (cellsFit a (r.take a.length)) false = true
    rw [h1]; exact h3
theorem cellsFit_plain : ∀ {ks : List KK} {l : List Value}, cellsFit ks l = true → ∀ v ∈ l, Plain v ∧ oneCell v = true := by
  intro ks
  induction ks with
  | nil => intro l h; rw [cellsFit_nil h]; intro v hv; cases hv
  | cons k ks ih =>
    intro l h
    obtain ⟨v, r, rfl, h1, h2⟩ := cellsFit_cons h
    intro u hu
    rcases List.mem_cons.1 hu with rfl | hu
    · unfold kkFits at h1
      split at h1
      · exact ⟨.int _ _, rfl⟩
      · exact ⟨.string _, rfl⟩
      · exact ⟨.bool _, rfl⟩
      · cases h1
    · exact ih h2 u hu
theorem fitsV_plain {a : Option Bool} {ks : List KK} {v : Value} (h : fitsV a ks v = true) : Plain v := by
  unfold fitsV at h
  split at h
  · split at h
    · exact .agg _ (fun v hv => (cellsFit_plain h v hv).1)
    · cases h
  · split at h
    · cases h
    · exact (cellsFit_plain h _ (by simp)).1
  · cases h
/-- a fitting value's cells fit, and tell it. -/
theorem fitsV_cells {a : Option Bool} {ks : List KK} {v : Value} (h : fitsV a ks v = true) : cellsFit ks v.cells.toList = true := by
  unfold fitsV at h
  split at h
  · split at h
    · exact h
    · cases h
  · split at h
    · cases h
    · rename_i v' hne
      have : v.cells = #[v] := by
        cases v <;> first | rfl | exact (hne _ rfl).elim
      rw [this]; exact h
  · cases h
theorem fitsV_inj {a : Option Bool} {ks : List KK} {v v' : Value} (h : fitsV a ks v = true) (h' : fitsV a ks v' = true) : v = v' ↔ v.cells.toList = v'.cells.toList := by
  refine ⟨fun e => by rw [e], fun e => ?_⟩
  unfold fitsV at h h'
  split at h
  · split at h
    · simp only at h'
      split at h'
      · exact congrArg Value.agg (Array.ext' e)
      · cases h'
    · cases h
  · split at h
    · cases h
    · rename_i hne
      simp only at h'
      split at h'
      · cases h'
      · rename_i hne'
        have e1 : v.cells = #[v] := by cases v <;> first | rfl | exact (hne _ rfl).elim
        have e2 : v'.cells = #[v'] := by cases v' <;> first | rfl | exact (hne' _ rfl).elim
        rw [e1, e2] at e
        simpa using e
  · cases h
theorem keyPlan_agg {d : Nat} {t : TypeId} {ks : List KK} (h : keyPlan P d t = some ks) : ∃ b, isAgg P t = some b ∧ (b = false → ks.length = 1) := by
  cases d with
  | zero => cases h
  | succ d =>
    unfold keyPlan at h
    unfold isAgg
    cases hu : P.underlying t with
    | none => rw [hu] at h; cases h
    | some D =>
      rw [hu] at h
      cases D <;> first
        | (cases h; exact ⟨false, rfl, fun _ => rfl⟩)
        | exact ⟨true, rfl, fun h => by cases h⟩
        | (cases h; done)
theorem part_fits {t : TypeId} {ks : List KK} {cs : Array Value} {off d : Nat} (w : World) (hp : keyPlan P d t = some ks) (hs : tsize P t = some ks.length) (hc : cellsFit ks ((cs.toList.drop off).take ks.length) = true) :
    ∃ v, (part t cs off).run P w = .ok v w ∧ fitsV (isAgg P t) ks v = true ∧ v.cells.toList = (cs.toList.drop off).take ks.length := by
  obtain ⟨b, hb, h1⟩ := keyPlan_agg hp
  have hA := run_isAgg' hb w
  rw [hb]
  cases b with
  | true =>
    have e : (cs.extract off (off + ks.length)).toList = (cs.toList.drop off).take ks.length := by simp
    refine ⟨.agg (cs.extract off (off + ks.length)), ?_, ?_, e⟩
    · simp only [part, Sem.run_bind, hA, Result.andThen_ok, if_true, run_sizeOf' hs w, Sem.run_pure]
    · show cellsFit ks (cs.extract off (off + ks.length)).toList = true
      rw [e]; exact hc
  | false =>
    have hl := h1 rfl
    rw [hl] at hc ⊢
    have hlen := cellsFit_len hc
    rw [hl] at hlen
    have hoff : off < cs.size := by simp at hlen; omega
    have e : (cs.toList.drop off).take 1 = [cs[off]] := by
      rw [List.take_one]
      simp [hoff]
    rw [e] at hc ⊢
    have hone := (cellsFit_plain hc cs[off] (by simp)).2
    refine ⟨cs[off], ?_, ?_, ?_⟩
    · simp only [part, Sem.run_bind, hA, Result.andThen_ok, Bool.false_eq_true, if_false, Array.getElem?_eq_getElem hoff, Sem.run_pure]
    · generalize cs[off] = v at hc hone
      cases v <;> first | exact hc | cases hone
    · generalize cs[off] = v at hone
      cases v <;> first | rfl | cases hone
theorem planFields_cons {pl : TypeId → Option (List KK)} {f : Field} {fs : List Field} {off : Nat} {ks : List KK} (h : planFields P pl (f :: fs) off = some ks) :
    f.name ≠ "_" ∧ f.offset = off ∧ ∃ l r, pl f.type = some l ∧ tsize P f.type = some l.length ∧ planFields P pl fs (off + l.length) = some r ∧ ks = l ++ r := by
  unfold planFields at h
  split at h
  · cases h
  · rename_i hc
    simp only [Bool.or_eq_true, beq_iff_eq, bne_iff_ne, ne_eq, not_or, Decidable.not_not] at hc
    split at h
    · rename_i l hl
      split at h
      · rename_i hs
        split at h
        · rename_i r hr
          cases h
          exact ⟨hc.1, hc.2, l, r, hl, by simpa using hs, hr, rfl⟩
        · cases h
      · cases h
    · cases h
/-- what is known of a key's type. -/
def KeyAt (P : Program) (d dd : Nat) : Prop := ∀ (t : TypeId) (ks : List KK), keyPlan P d t = some ks → ∀ w : World,
  (∀ em v, fitsV (isAgg P t) ks v = true → (Instr.checkKey em dd t v).run P w = .ok () w) ∧
  (∀ v v', fitsV (isAgg P t) ks v = true → fitsV (isAgg P t) ks v' = true → ∃ r : Bool, (Op.equalIn dd t v v').run P w = .ok r w ∧ (r = true ↔ v = v'))
theorem step_at {d dd : Nat} (IH : KeyAt P d dd) {t : TypeId} {ks : List KK} {xs ys : Array Value} {off : Nat} (w : World) (hp : keyPlan P d t = some ks) (hs : tsize P t = some ks.length)
    (hx : cellsFit ks ((xs.toList.drop off).take ks.length) = true) (hy : cellsFit ks ((ys.toList.drop off).take ks.length) = true) :
    ∃ a b r, (part t xs off).run P w = .ok a w ∧ (part t ys off).run P w = .ok b w ∧ (Op.equalIn dd t a b).run P w = .ok r w ∧ (r = true ↔ (xs.toList.drop off).take ks.length = (ys.toList.drop off).take ks.length) := by
  obtain ⟨a, p1, f1, c1⟩ := part_fits w hp hs hx
  obtain ⟨b, p2, f2, c2⟩ := part_fits w hp hs hy
  obtain ⟨r, hr, hiff⟩ := (IH t ks hp w).2 a b f1 f2
  exact ⟨a, b, r, p1, p2, hr, by rw [hiff, fitsV_inj f1 f2, c1, c2]⟩
theorem split_eq (n : Nat) (a b : List Value) : a = b ↔ a.take n = b.take n ∧ a.drop n = b.drop n :=
  ⟨fun h => by rw [h]; exact ⟨rfl, rfl⟩, fun ⟨h1, h2⟩ => by rw [← List.take_append_drop n a, ← List.take_append_drop n b, h1, h2]⟩
theorem eqFields_at {d dd : Nat} (IH : KeyAt P d dd) (xs ys : Array Value) : ∀ (fs : List Field) (off : Nat) (ks : List KK) (w : World), planFields P (keyPlan P d) fs off = some ks → cellsFit ks (xs.toList.drop off) = true → cellsFit ks (ys.toList.drop off) = true →
    ∃ r : Bool, (Op.eqFields dd xs ys fs).run P w = .ok r w ∧ (r = true ↔ xs.toList.drop off = ys.toList.drop off) := by
  intro fs
  induction fs with
  | nil =>
    intro off ks w h hx hy
    cases h
    rw [cellsFit_nil hx, cellsFit_nil hy]
    exact ⟨true, rfl, by simp⟩
  | cons f fs ih =>
    intro off ks w h hx hy
    obtain ⟨hn, ho, l, r, hl, hs, hr, rfl⟩ := planFields_cons h
    obtain ⟨x1, x2⟩ := cellsFit_append hx
    obtain ⟨y1, y2⟩ := cellsFit_append hy
    obtain ⟨a, b, r1, p1, p2, p3, hiff⟩ := step_at IH w hl hs x1 y1
    rw [List.drop_drop] at x2 y2
    obtain ⟨r2, q, hiff2⟩ := ih _ _ w hr x2 y2
    rw [split_eq l.length, List.drop_drop, List.drop_drop]
    subst ho
    simp only [Op.eqFields, hn, ne_eq, not_false_eq_true, if_true, Sem.run_bind, p1, p2, p3, Result.andThen_ok]
    cases r1
    · exact ⟨false, by simp, by simp; intro e; exact absurd (hiff.2 e) (by simp)⟩
    · exact ⟨r2, by simpa using q, by rw [hiff2]; simp [hiff.1 rfl]⟩
theorem eqItems_at {d dd : Nat} (IH : KeyAt P d dd) (xs ys : Array Value) {e : TypeId} {l : List KK} (hl : keyPlan P d e = some l) (hs : tsize P e = some l.length) : ∀ (n i : Nat) (w : World), cellsFit (List.replicate n l).flatten (xs.toList.drop (i * l.length)) = true → cellsFit (List.replicate n l).flatten (ys.toList.drop (i * l.length)) = true →
    ∃ r : Bool, (Op.eqItems dd e l.length xs ys (List.range' i n)).run P w = .ok r w ∧ (r = true ↔ xs.toList.drop (i * l.length) = ys.toList.drop (i * l.length)) := by
  intro n
  induction n with
  | zero =>
    intro i w hx hy
    rw [cellsFit_nil hx, cellsFit_nil hy]
    exact ⟨true, rfl, by simp⟩
  | succ n ih =>
    intro i w hx hy
    rw [List.replicate_succ, List.flatten_cons] at hx hy
    obtain ⟨x1, x2⟩ := cellsFit_append hx
    obtain ⟨y1, y2⟩ := cellsFit_append hy
    obtain ⟨a, b, r1, p1, p2, p3, hiff⟩ := step_at IH w hl hs x1 y1
    rw [List.drop_drop, ← Nat.succ_mul] at x2 y2
    obtain ⟨r2, q, hiff2⟩ := ih _ w x2 y2
    rw [split_eq l.length, List.drop_drop, List.drop_drop, ← Nat.succ_mul]
    simp only [List.range'_succ, Op.eqItems, Sem.run_bind, p1, p2, p3, Result.andThen_ok]
    cases r1
    · exact ⟨false, by simp, by simp; intro e; exact absurd (hiff.2 e) (by simp)⟩
    · exact ⟨r2, by simpa using q, by rw [hiff2]; simp [hiff.1 rfl]⟩
theorem checkFields_at {d dd : Nat} (IH : KeyAt P d dd) (em : Bool) (xs : Array Value) (w : World) {g : Field → PUnit → Sem (ForInStep PUnit)}
    (hg : ∀ f a, f.name ≠ "_" → (part f.type xs f.offset).run P w = .ok a w → (Instr.checkKey em dd f.type a).run P w = .ok () w → (g f ⟨⟩).run P w = .ok (.yield ⟨⟩) w) :
    ∀ (fs : List Field) (off : Nat) (ks : List KK), planFields P (keyPlan P d) fs off = some ks → cellsFit ks (xs.toList.drop off) = true → (forIn fs PUnit.unit g).run P w = .ok PUnit.unit w := by
  intro fs
  induction fs with
  | nil => intro off ks h hx; rfl
  | cons f fs ih =>
    intro off ks h hx
    obtain ⟨hn, ho, l, r, hl, hs, hr, rfl⟩ := planFields_cons h
    obtain ⟨x1, x2⟩ := cellsFit_append hx
    rw [List.drop_drop] at x2
    obtain ⟨a, p1, f1, _⟩ := part_fits w hl hs x1
    have hck := (IH _ _ hl w).1 em a f1
    subst ho
    rw [List.forIn_cons]
    simp only [Sem.run_bind, hg f a hn p1 hck, Result.andThen_ok]
    exact ih _ _ hr x2
theorem checkItems_at {d dd : Nat} (IH : KeyAt P d dd) (em : Bool) (xs : Array Value) (w : World) {e : TypeId} {l : List KK} (hl : keyPlan P d e = some l) (hs : tsize P e = some l.length) {g : Nat → PUnit → Sem (ForInStep PUnit)}
    (hg : ∀ i a, (part e xs (i * l.length)).run P w = .ok a w → (Instr.checkKey em dd e a).run P w = .ok () w → (g i ⟨⟩).run P w = .ok (.yield ⟨⟩) w) :
    ∀ (n i : Nat), cellsFit (List.replicate n l).flatten (xs.toList.drop (i * l.length)) = true → (forIn (List.range' i n) PUnit.unit g).run P w = .ok PUnit.unit w := by
  intro n
  induction n with
  | zero => intro i hx; rfl
  | succ n ih =>
    intro i hx
    rw [List.replicate_succ, List.flatten_cons] at hx
    obtain ⟨x1, x2⟩ := cellsFit_append hx
    rw [List.drop_drop, ← Nat.succ_mul] at x2
    obtain ⟨a, p1, f1, _⟩ := part_fits w hl hs x1
    have hck := (IH _ _ hl w).1 em a f1
    rw [List.range'_succ, List.forIn_cons]
    simp only [Sem.run_bind, hg i a p1 hck, Result.andThen_ok]
    exact ih _ x2
theorem one_fits {a : Option Bool} {k : KK} {v : Value} (ha : a = some false) (h : fitsV a [k] v = true) : kkFits k v = true := by
  subst ha
  unfold fitsV at h
  simp only at h
  split at h
  · cases h
  · obtain ⟨u, r, e, h1, _⟩ := cellsFit_cons h
    cases e; exact h1
theorem agg_fits {a : Option Bool} {ks : List KK} {v : Value} (ha : a = some true) (h : fitsV a ks v = true) : ∃ cs, v = .agg cs ∧ cellsFit ks cs.toList = true := by
  subst ha
  unfold fitsV at h
  simp only at h
  split at h
  · exact ⟨_, rfl, h⟩
  · cases h
theorem key_at : ∀ (d m : Nat), KeyAt P d (m + d)
  | 0, m => fun t ks h => by cases h
  | d + 1, m => fun t ks h w => by
    have IH := key_at d m
    have hdd : m + (d + 1) = (m + d) + 1 := rfl
    rw [hdd]
    unfold keyPlan at h
    cases hu : P.underlying t with
    | none => rw [hu] at h; cases h
    | some D =>
      rw [hu] at h
      cases D <;> try (cases h; done)
      case bool =>
        have hag : isAgg P t = some false := by unfold isAgg; rw [hu]
        cases h
        refine ⟨fun em v hv => ?_, fun v v' hv hv' => ?_⟩
        · have := one_fits hag hv
          cases v <;> try (cases this; done)
          simp only [Instr.checkKey, Sem.run_bind, run_underlying hu, Result.andThen_ok, Sem.run_pure]
        · have h1 := one_fits hag hv
          have h2 := one_fits hag hv'
          cases v <;> try (cases h1; done)
          cases v' <;> try (cases h2; done)
          exact ⟨_, run_equalIn_bool' w _ t _ _ hu, by simp⟩
      case int k =>
        have hag : isAgg P t = some false := by unfold isAgg; rw [hu]
        cases h
        refine ⟨fun em v hv => ?_, fun v v' hv hv' => ?_⟩
        · have := one_fits hag hv
          cases v <;> try (cases this; done)
          simp only [Instr.checkKey, Sem.run_bind, run_underlying hu, Result.andThen_ok, Sem.run_pure]
        · have h1 := one_fits hag hv
          have h2 := one_fits hag hv'
          cases v <;> try (cases h1; done)
          cases v' <;> try (cases h2; done)
          rename_i k1 a k2 b
          have e1 : k = k1 := kEq_iff.1 h1
          have e2 : k = k2 := kEq_iff.1 h2
          subst e1 e2
          exact ⟨_, run_equalIn_int w _ t _ _ _ _ hu, by simp⟩
      case string =>
        have hag : isAgg P t = some false := by unfold isAgg; rw [hu]
        cases h
        refine ⟨fun em v hv => ?_, fun v v' hv hv' => ?_⟩
        · have := one_fits hag hv
          cases v <;> try (cases this; done)
          simp only [Instr.checkKey, Sem.run_bind, run_underlying hu, Result.andThen_ok, Sem.run_pure]
        · have h1 := one_fits hag hv
          have h2 := one_fits hag hv'
          cases v <;> try (cases h1; done)
          cases v' <;> try (cases h2; done)
          refine ⟨_, run_equalIn_string w _ t _ _ hu, ?_⟩
          rw [ByteArray.toList_eq, ByteArray.toList_eq, beq_iff_eq, Value.string.injEq]
          exact ⟨fun h => ByteArray.ext (Array.ext' h), fun h => by rw [h]⟩
      case array n e =>
        have hag : isAgg P t = some true := by unfold isAgg; rw [hu]
        simp only at h
        split at h
        · rename_i l hl
          split at h
          · rename_i hs
            have hs : tsize P e = some l.length := by simpa using hs
            cases h
            refine ⟨fun em v hv => ?_, fun v v' hv hv' => ?_⟩
            · obtain ⟨cs, rfl, hc⟩ := agg_fits hag hv
              simp only [Instr.checkKey, Sem.run_bind, run_underlying hu, Result.andThen_ok]
              simp only [Std.Legacy.Range.forIn_eq_forIn_range', Std.Legacy.Range.size, Nat.sub_zero, Nat.add_one_sub_one, Nat.div_one]
              rw [checkItems_at IH em cs w hl hs (fun i a h1 h2 => by simp only [Sem.run_bind, run_sizeOf' hs w, Result.andThen_ok, h1, h2, Sem.run_pure]) n 0 (by simpa using hc)]
              rfl
            · obtain ⟨xs, rfl, hx⟩ := agg_fits hag hv
              obtain ⟨ys, rfl, hy⟩ := agg_fits hag hv'
              have hi : ∃ i, P.info? e = some i := by
                unfold tsize at hs
                cases hi : P.info? e with
                | none => rw [hi] at hs; cases hs
                | some i => exact ⟨i, rfl⟩
              obtain ⟨i, hi⟩ := hi
              obtain ⟨r, hr, hiff⟩ := eqItems_at IH xs ys hl hs n 0 w (by simpa using hx) (by simpa using hy)
              refine ⟨r, ?_, ?_⟩
              · rw [run_equalIn_array (w := w) (m + d) xs ys hu hi, cellsOf_eq hs, List.range_eq_range']
                exact hr
              · rw [hiff]; simp
          · cases h
        · cases h
      case struct fs =>
        have hag : isAgg P t = some true := by unfold isAgg; rw [hu]
        simp only at h
        split at h
        · cases h
        · rename_i hst
          have hst : P.stoodInHeld t = false := by simpa using hst
          refine ⟨fun em v hv => ?_, fun v v' hv hv' => ?_⟩
          · obtain ⟨cs, rfl, hc⟩ := agg_fits hag hv
            simp only [Instr.checkKey, Sem.run_bind, run_underlying hu, Result.andThen_ok]
            rw [← Array.forIn_toList]
            rw [checkFields_at IH em cs w (fun f a hn h1 h2 => by simp only [hn, ne_eq, not_false_eq_true, if_true, Sem.run_bind, Result.andThen_ok, h1, h2, Sem.run_pure]) fs.toList 0 ks h (by simpa using hc)]
            rfl
          · obtain ⟨xs, rfl, hx⟩ := agg_fits hag hv
            obtain ⟨ys, rfl, hy⟩ := agg_fits hag hv'
            have hfo : P.fieldsOf t = fs := by unfold Program.fieldsOf; rw [hu]
            obtain ⟨r, hr, hiff⟩ := eqFields_at IH xs ys fs.toList 0 ks w h (by simpa using hx) (by simpa using hy)
            refine ⟨r, ?_, by rw [hiff]; simp⟩
            rw [run_equalIn_struct w (m + d) t xs ys (by rw [hfo]; exact hu) hst, hfo]
            exact hr
end Go.Eng
/-! maps are read and written. -/
namespace Go.Eng
open Go
variable {P : Program} {ρ : Ren}
theorem andM_some {o k : Option Bool} {r : Bool} (h : andM o k = some r) : (o = some true ∧ k = some r) ∨ (o = some false ∧ r = false) := by
  cases o with
  | none => cases h
  | some b =>
    have h : bif' b k (some false) = some r := h
    cases b with
    | true => exact .inl ⟨rfl, h⟩
    | false => have h : some false = some r := h; cases h; exact .inr ⟨rfl, rfl⟩
theorem mL_iff {f : Value → Mt} (hf : ∀ a b r, f a b = some r → (r = true ↔ a = b)) : ∀ (l m : List Value) (r : Bool), mL (mapM' f l) m = some r → (r = true ↔ l = m) := by
  intro l
  induction l with
  | nil =>
    intro m r h
    cases m with
    | nil => have h : some true = some r := h; cases h; simp
    | cons b m => cases h
  | cons a l ih =>
    intro m r h
    cases m with
    | nil => cases h
    | cons b m =>
      have h : andM (f a b) (mL (mapM' f l) m) = some r := h
      rcases andM_some h with ⟨hab, h⟩ | ⟨hab, rfl⟩
      · have := (hf a b true hab).1 rfl
        rw [ih m r h, this]; simp
      · have : ¬ a = b := fun e => by have := (hf a b false hab).2 e; cases this
        simp [this]
theorem mat_iff : ∀ (d : Nat) (a b : Value) (r : Bool), mat d a b = some r → (r = true ↔ a = b) := by
  intro d
  induction d with
  | zero => intro a b r h; cases h
  | succ d ih =>
    intro a b r h
    cases a with
    | bool x =>
      have h : mB x b = some r := h
      cases b with
      | bool y =>
        have h : some (bif' x y (bNot y)) = some r := h
        cases h
        cases x <;> cases y <;> simp [bif'_eq, bNot]
      | _ => cases h
    | int k n =>
      have h : mI k n b = some r := h
      cases b with
      | int k' m =>
        have h1 : bif' (kEq k k') (some (iEq n m)) none = some r := h
        clear h
        replace h1 := bif'_some h1; obtain ⟨hk, h1⟩ := h1
        replace hk := kEq_iff.1 hk
        subst hk
        cases h1
        rw [iEq_eq]; simp
      | _ => cases h
    | string s =>
      have h : mS s.data.toList b = some r := h
      cases b with
      | string s' =>
        have h : some (bEq s.data.toList s'.data.toList) = some r := h
        cases h
        rw [bEq_eq]
        simp only [beq_iff_eq, Value.string.injEq]
        exact ⟨fun h => ByteArray.ext (Array.ext' h), fun h => by rw [h]⟩
      | _ => cases h
    | agg x =>
      have h : mA (mapM' (mat d) x.toList) b = some r := h
      cases b with
      | agg y =>
        have h : mL (mapM' (mat d) x.toList) y.toList = some r := h
        rw [mL_iff ih _ _ _ h, Value.agg.injEq]
        exact ⟨fun h => Array.ext' h, fun h => by rw [h]⟩
      | _ => cases h
    | _ => cases h
theorem findM_spec {k : Value} {d : Nat} : ∀ {es : List (Value × Value × Nat)} {o : Option (Value × Nat)}, findM (mat d k) es = some o → (∃ v, o = some v ∧ (k, v) ∈ es) ∨ (o = none ∧ ∀ p ∈ es, p.1 ≠ k) := by
  intro es
  induction es with
  | nil => intro o h; have h : some none = some o := h; cases h; exact .inr ⟨rfl, fun p hp => by cases hp⟩
  | cons p es ih =>
    intro o h
    obtain ⟨k', v⟩ := p
    have h : Option.rec (motive := fun _ => Option (Option (Value × Nat))) none (fun b => bif' b (some (some v)) (findM (mat d k) es)) (mat d k k') = some o := h
    cases hk : mat d k k' with
    | none => rw [hk] at h; cases h
    | some b =>
      rw [hk] at h
      cases b with
      | true =>
        have h : some (some v) = some o := h
        cases h
        have := (mat_iff _ _ _ _ hk).1 rfl
        exact .inl ⟨v, rfl, by rw [this]; simp⟩
      | false =>
        have h : findM (mat d k) es = some o := h
        have hne : k' ≠ k := fun e => by have := (mat_iff _ _ _ _ hk).2 e.symm; cases this
        rcases ih h with ⟨v', h1, h2⟩ | ⟨h1, h2⟩
        · exact .inl ⟨v', h1, by simp [h2]⟩
        · refine .inr ⟨h1, fun p hp => ?_⟩
          rcases List.mem_cons.1 hp with rfl | hp
          · exact hne
          · exact h2 p hp
theorem emptyIx_get : ∀ (d i : Nat), T.get (emptyIx d) i = none
  | 0, i => T.get_e i
  | d + 1, i => by
    have e : emptyIx (d + 1) = .n none (emptyIx d) (emptyIx d) := rfl
    rw [e]
    rcases nat_cases3 i with rfl | ⟨m, rfl⟩ | ⟨m, rfl⟩
    · rw [T.get_n0]
    · rw [T.get_odd]; exact emptyIx_get d m
    · rw [T.get_even]; exact emptyIx_get d m
/-- what lies in a bucket: the entries of that number. -/
theorem idx_spec : ∀ {es : List Ent0} {t : T (List Ent0)}, idx es = some t → ∀ i p, p ∈ bucket t i ↔ p ∈ es ∧ ixV p.1 = i
  | [], t, h, i, p => by
    have h : some (emptyIx 11) = some t := h
    cases h
    unfold bucket
    rw [emptyIx_get]
    exact ⟨fun h => (by cases h), fun h => (by cases h.1)⟩
  | e :: es, t, h, i, p => by
    have h : ob (idx es) (fun t => insIx e t) = some t := h
    obtain ⟨t0, h0, h⟩ := ob_some h
    unfold insIx at h
    rw [fNat_eq] at h
    have ih := idx_spec h0
    unfold bucket
    rw [T.get_put _ _ _ _ h i]
    by_cases hi : i = ixV e.1
    · rw [if_pos hi]
      show p ∈ e :: bucket t0 (ixV e.1) ↔ _
      rw [List.mem_cons, ih, List.mem_cons, hi]
      constructor
      · rintro (rfl | ⟨h1, h2⟩)
        · exact ⟨.inl rfl, rfl⟩
        · exact ⟨.inr h1, h2⟩
      · rintro ⟨h1 | h1, h2⟩
        · exact .inl h1
        · exact .inr ⟨h1, h2⟩
    · rw [if_neg hi]
      show p ∈ bucket t0 i ↔ _
      rw [ih, List.mem_cons]
      constructor
      · rintro ⟨h1, h2⟩; exact ⟨.inr h1, h2⟩
      · rintro ⟨h1 | h1, h2⟩
        · subst h1; exact (hi h2.symm).elim
        · exact ⟨h1, h2⟩
theorem findE_spec {k : Value} {es : List (Value × Value × Nat)} {o : Option (Value × Nat)} (h : findE k es = some o) : (∃ v, o = some v ∧ (k, v) ∈ es) ∨ (o = none ∧ ∀ p ∈ es, p.1 ≠ k) := by
  have h2 : findM (mat 8 k) es = some o ∨ findI k es = some o := by
    unfold findE at h
    cases k <;> first | exact .inl h | exact .inr h
  rcases h2 with h | h
  · exact findM_spec h
  · unfold findI at h
    rw [fNat_eq] at h
    obtain ⟨t, ht, h⟩ := ob_some h
    have hb := idx_spec ht
    rcases findM_spec h with ⟨v, h1, h2⟩ | ⟨h1, h2⟩
    · exact .inl ⟨v, h1, ((hb _ _).1 h2).1⟩
    · exact .inr ⟨h1, fun p hp e => h2 p ((hb _ _).2 ⟨hp, by rw [e]⟩) e⟩
theorem putE_spec {k v : Value} {ck : Nat} : ∀ {es es' : List (Value × Value × Nat)}, putE k v ck es = some es' → (∃ es1 v0 b0 es2, es = es1 ++ (k, v0, b0) :: es2 ∧ es' = es1 ++ (k, v, b0) :: es2) ∨ ((∀ p ∈ es, p.1 ≠ k) ∧ es' = es ++ [(k, v, ck)]) := by
  intro es
  induction es with
  | nil => intro o h; have h : some [(k, v, ck)] = some o := h; cases h; exact .inr ⟨fun p hp => (by cases hp), rfl⟩
  | cons p es ih =>
    intro es' h
    obtain ⟨k', v', b'⟩ := p
    have h : Option.rec (motive := fun _ => Option (List (Value × Value × Nat))) none (fun b => bif' b (some ((k, v, b') :: es)) (ob (putE k v ck es) fun r => some ((k', v', b') :: r))) (mat 8 k k') = some es' := h
    cases hk : mat 8 k k' with
    | none => rw [hk] at h; cases h
    | some b =>
      rw [hk] at h
      cases b with
      | true =>
        have h : some ((k, v, b') :: es) = some es' := h
        cases h
        have := (mat_iff _ _ _ _ hk).1 rfl
        subst this
        exact .inl ⟨[], v', b', es, rfl, rfl⟩
      | false =>
        have h : ob (putE k v ck es) (fun r => some ((k', v', b') :: r)) = some es' := h
        have hne : k' ≠ k := fun e => by have := (mat_iff _ _ _ _ hk).2 e.symm; cases this
        obtain ⟨r, hr, h⟩ := ob_some h
        cases h
        rcases ih hr with ⟨es1, v0, b0, es2, rfl, rfl⟩ | ⟨h1, rfl⟩
        · exact .inl ⟨(k', v', b') :: es1, v0, b0, es2, rfl, rfl⟩
        · refine .inr ⟨fun p hp => ?_, rfl⟩
          rcases List.mem_cons.1 hp with rfl | hp
          · exact hne
          · exact h1 p hp
theorem putE_has {k v : Value} {ck : Nat} {es es' : List (Value × Value × Nat)} {x : Value × Nat} (hm : (k, x) ∈ es) (h : putE k v ck es = some es') : ∃ es1 v0 b0 es2, es = es1 ++ (k, v0, b0) :: es2 ∧ es' = es1 ++ (k, v, b0) :: es2 := by
  rcases putE_spec h with h | ⟨h, _⟩
  · exact h
  · exact (h _ hm rfl).elim
theorem delE_spec {k : Value} : ∀ {es es' : List (Value × Value × Nat)}, delE k es = some es' → (∃ es1 v0 es2, es = es1 ++ (k, v0) :: es2 ∧ es' = es1 ++ es2) ∨ ((∀ p ∈ es, p.1 ≠ k) ∧ es' = es) := by
  intro es
  induction es with
  | nil => intro o h; have h : some [] = some o := h; cases h; exact .inr ⟨fun p hp => (by cases hp), rfl⟩
  | cons p es ih =>
    intro es' h
    obtain ⟨k', v'⟩ := p
    have h : Option.rec (motive := fun _ => Option (List (Value × Value × Nat))) none (fun b => bif' b (some es) (ob (delE k es) fun r => some ((k', v') :: r))) (mat 8 k k') = some es' := h
    cases hk : mat 8 k k' with
    | none => rw [hk] at h; cases h
    | some b =>
      rw [hk] at h
      cases b with
      | true =>
        have h : some es = some es' := h
        cases h
        have := (mat_iff _ _ _ _ hk).1 rfl
        subst this
        exact .inl ⟨[], v', es, rfl, rfl⟩
      | false =>
        have h : ob (delE k es) (fun r => some ((k', v') :: r)) = some es' := h
        have hne : k' ≠ k := fun e => by have := (mat_iff _ _ _ _ hk).2 e.symm; cases this
        obtain ⟨r, hr, h⟩ := ob_some h
        cases h
        rcases ih hr with ⟨es1, v0, es2, rfl, rfl⟩ | ⟨h1, rfl⟩
        · exact .inl ⟨(k', v') :: es1, v0, es2, rfl, rfl⟩
        · refine .inr ⟨fun p hp => ?_, rfl⟩
          rcases List.mem_cons.1 hp with rfl | hp
          · exact hne
          · exact h1 p hp
/-- where a key stands. -/
noncomputable def specF (k : Value) : List MapEntry → Nat → Option (Nat × Value)
  | [], _ => none
  | e :: es, i => @ite _ (e.key = k) (Classical.propDecidable _) (some (i, e.val)) (specF k es (i + 1))
theorem specF_none {k : Value} : ∀ {l : List MapEntry} (j : Nat), (∀ e ∈ l, e.key ≠ k) → specF k l j = none := by
  intro l
  induction l with
  | nil => intro j _; rfl
  | cons e l ih =>
    intro j h
    unfold specF
    rw [if_neg (h e (by simp))]
    exact ih _ (fun x hx => h x (by simp [hx]))
theorem specF_some {k : Value} {e : MapEntry} (hk : e.key = k) : ∀ {l1 l2 : List MapEntry} (j : Nat), (∀ x ∈ l1, x.key ≠ k) → specF k (l1 ++ e :: l2) j = some (j + l1.length, e.val) := by
  intro l1
  induction l1 with
  | nil => intro l2 j _; show specF k (e :: l2) j = _; unfold specF; rw [if_pos hk]; rfl
  | cons x l1 ih =>
    intro l2 j h
    show specF k (x :: (l1 ++ e :: l2)) j = _
    unfold specF
    rw [if_neg (h x (by simp)), ih _ (fun y hy => h y (by simp [hy]))]
    simp only [List.length_cons]
    rw [show j + 1 + l1.length = j + (l1.length + 1) by omega]
theorem sameNow_iff {D : TypeDesc} {a b : Value} {r : Bool} (h : Instr.sameNow D a b = some r) : r = true ↔ a = b := by
  unfold Instr.sameNow at h
  split at h
  · split at h
    · rename_i hk; subst hk; cases h; simp
    · cases h
  · cases h
    rename_i a b
    rw [beq_toListBytes, ByteArray.toList_eq, ByteArray.toList_eq, beq_iff_eq, Value.string.injEq]
    exact ⟨fun h => ByteArray.ext (Array.ext' h), fun h => by rw [h]⟩
  · cases h; simp
  · cases h
theorem findNow_right {D : TypeDesc} {k : Value} : ∀ {l : List MapEntry} {i : Nat} {r : Option (Nat × Value)}, Instr.findNow D k l i = some r → r = specF k l i := by
  intro l
  induction l with
  | nil => intro i r h; cases h; rfl
  | cons e l ih =>
    intro i r h
    unfold Instr.findNow at h
    unfold specF
    split at h
    · rename_i hs
      cases h
      rw [if_pos ((sameNow_iff hs).1 rfl).symm]
    · rename_i hs
      have hne : ¬ e.key = k := fun e => by have := (sameNow_iff hs).2 e.symm; cases this
      rw [if_neg hne]
      exact ih h
    · cases h
theorem keyFits_at {kt : TypeId} {v : Value} (h : keyFits P kt v = true) : ∃ ks, keyPlan P 5 kt = some ks ∧ fitsV (isAgg P kt) ks v = true := by
  unfold keyFits at h
  split at h
  · exact ⟨_, ‹_›, h⟩
  · cases h
theorem keyFits_plain {kt : TypeId} {v : Value} (h : keyFits P kt v = true) : Plain v := by
  obtain ⟨ks, _, h⟩ := keyFits_at h
  exact fitsV_plain h
theorem run_checkKey' {kt : TypeId} {v : Value} (h : keyFits P kt v = true) (em : Bool) (w : World) : (Instr.checkKey em 10000 kt v).run P w = .ok () w := by
  obtain ⟨ks, hk, h⟩ := keyFits_at h
  exact (key_at 5 9995 kt ks hk w).1 em v h
theorem run_equalKey {kt : TypeId} {a b : Value} (ha : keyFits P kt a = true) (hb : keyFits P kt b = true) (w : World) : ∃ r : Bool, (Op.equal kt a b).run P w = .ok r w ∧ (r = true ↔ a = b) := by
  obtain ⟨ks, hk, ha⟩ := keyFits_at ha
  obtain ⟨ks', hk', hb⟩ := keyFits_at hb
  rw [hk] at hk'; cases hk'
  exact (key_at 5 9995 kt ks hk w).2 a b ha hb
theorem findAsking_run {kt : TypeId} {k : Value} (hk : keyFits P kt k = true) (w : World) : ∀ (l : List MapEntry) (i : Nat), (∀ e ∈ l, keyFits P kt e.key = true) → (Instr.findAsking kt k l i).run P w = .ok (specF k l i) w := by
  intro l
  induction l with
  | nil => intro i _; rfl
  | cons e l ih =>
    intro i h
    obtain ⟨r, hr, hiff⟩ := run_equalKey hk (h e (by simp)) w
    unfold Instr.findAsking specF
    rw [Sem.run_bind, hr, Result.andThen_ok]
    cases r with
    | true =>
      rw [if_pos rfl, if_pos (hiff.1 rfl).symm]; rfl
    | false =>
      have hne : ¬ e.key = k := fun e => by have := hiff.2 e.symm; cases this
      rw [if_neg (by simp), if_neg hne]
      exact ih _ (fun x hx => h x (by simp [hx]))
theorem findKey_run {kt : TypeId} {k : Value} (hk : keyFits P kt k = true) (w : World) {l : List MapEntry} (h : ∀ e ∈ l, keyFits P kt e.key = true) : (Instr.findKey kt k l).run P w = .ok (specF k l 0) w := by
  have hu : ∃ D, P.underlying kt = some D := by
    obtain ⟨ks, hp, _⟩ := keyFits_at hk
    obtain ⟨b, hb, _⟩ := keyPlan_agg hp
    unfold isAgg at hb
    split at hb
    · exact ⟨_, ‹_›⟩
    · exact ⟨_, ‹_›⟩
    · exact ⟨_, ‹_›⟩
    · cases hb
  obtain ⟨D, hu⟩ := hu
  unfold Instr.findKey
  rw [Sem.run_bind, run_underlying hu, Result.andThen_ok]
  split
  · rename_i r hr
    rw [findNow_right hr]; rfl
  · exact findAsking_run hk w l 0 h
theorem F2.split {α β : Type} {R : α → β → Prop} {a : α} {l2 : List α} : ∀ {l1 : List α} {m : List β}, F2 R (l1 ++ a :: l2) m → ∃ m1 b m2, m = m1 ++ b :: m2 ∧ F2 R l1 m1 ∧ R a b ∧ F2 R l2 m2 := by
  intro l1
  induction l1 with
  | nil => intro m h; cases h with | cons h hs => exact ⟨[], _, _, rfl, .nil, h, hs⟩
  | cons x l1 ih =>
    intro m h
    cases h with
    | cons h hs =>
      obtain ⟨m1, b, m2, rfl, h1, h2, h3⟩ := ih hs
      exact ⟨_ :: m1, b, m2, rfl, .cons h h1, h2, h3⟩
theorem F2.append {α β : Type} {R : α → β → Prop} {l2 : List α} {m2 : List β} (h2 : F2 R l2 m2) : ∀ {l1 : List α} {m1 : List β}, F2 R l1 m1 → F2 R (l1 ++ l2) (m1 ++ m2)
  | _, _, .nil => h2
  | _, _, .cons h hs => .cons h (F2.append h2 hs)
theorem F2.mem_right {α β : Type} {R : α → β → Prop} : ∀ {l : List α} {m : List β}, F2 R l m → ∀ b ∈ m, ∃ a ∈ l, R a b
  | _, _, .nil, _, hb => by cases hb
  | _, _, .cons h hs, b, hb => by
    rcases List.mem_cons.1 hb with rfl | hb
    · exact ⟨_, by simp, h⟩
    · obtain ⟨a, ha, hr⟩ := F2.mem_right hs b hb
      exact ⟨a, by simp [ha], hr⟩
abbrev EntRel (P : Program) (ρ : Ren) (kt : TypeId) (p : Value × Value × Nat) (e : MapEntry) : Prop := p.1 = e.key ∧ keyFits P kt p.1 = true ∧ Plain p.1 ∧ VRel ρ p.2.1 e.val ∧ (p.2.2 = 0 ∨ p.2.2 = e.born + 1)
theorem ent_keys {kt : TypeId} : ∀ {es : List (Value × Value × Nat)} {l : List MapEntry}, F2 (EntRel P ρ kt) es l → l.map (·.key) = es.map (·.1)
  | _, _, .nil => rfl
  | _, _, .cons h hs => by simp [ent_keys hs, h.1]
theorem MapRel.fits {kt : TypeId} {es : List (Value × Value × Nat)} {ents : Array MapEntry} (h : MapRel P ρ kt es ents) : ∀ e ∈ ents.toList, keyFits P kt e.key = true := by
  obtain ⟨l, hp, hf, hn⟩ := h
  intro e he
  obtain ⟨p, _, h1, h2, _⟩ := F2.mem_right hf e (hp.mem_iff.2 he)
  rw [← h1]; exact h2
theorem MapRel.nodup {kt : TypeId} {es : List (Value × Value × Nat)} {ents : Array MapEntry} (h : MapRel P ρ kt es ents) : (ents.toList.map (·.key)).Nodup := by
  obtain ⟨l, hp, hf, hn⟩ := h
  rw [← (hp.map _).nodup_iff, ent_keys hf]; exact hn
theorem MapRel.absent {kt : TypeId} {es : List (Value × Value × Nat)} {ents : Array MapEntry} {k : Value} (h : MapRel P ρ kt es ents) (hk : ∀ p ∈ es, p.1 ≠ k) : specF k ents.toList 0 = none := by
  obtain ⟨l, hp, hf, hn⟩ := h
  refine specF_none 0 (fun e he => ?_)
  obtain ⟨p, hp', h1, _⟩ := F2.mem_right hf e (hp.mem_iff.2 he)
  rw [← h1]; exact hk p hp'
/-- the entry of a key: it stands at one place. -/
theorem MapRel.present {kt : TypeId} {es1 es2 : List (Value × Value × Nat)} {ents : Array MapEntry} {k v : Value} {b : Nat} (h : MapRel P ρ kt (es1 ++ (k, v, b) :: es2) ents) :
    ∃ l1 e l2 t1 t2, F2 (EntRel P ρ kt) es1 l1 ∧ EntRel P ρ kt (k, v, b) e ∧ F2 (EntRel P ρ kt) es2 l2 ∧ (l1 ++ l2).Perm (t1 ++ t2) ∧ ents.toList = t1 ++ e :: t2 ∧ specF k ents.toList 0 = some (t1.length, e.val) := by
  have hnd := h.nodup
  obtain ⟨l, hp, hf, hn⟩ := h
  obtain ⟨l1, e, l2, rfl, h1, h2, h3⟩ := hf.split
  have he : e ∈ ents.toList := hp.mem_iff.1 (by simp)
  obtain ⟨t1, t2, ht⟩ := List.append_of_mem he
  refine ⟨l1, e, l2, t1, t2, h1, h2, h3, ?_, ht, ?_⟩
  · rw [ht] at hp
    have := (List.perm_middle.symm.trans hp).trans List.perm_middle
    exact this.cons_inv
  · rw [ht] at hnd ⊢
    have := specF_some (l1 := t1) (l2 := t2) h2.1.symm 0 (fun x hx hxk => ?_)
    · rw [this, Nat.zero_add]
    · rw [List.map_append, List.map_cons, List.nodup_append] at hnd
      exact hnd.2.2 x.key (List.mem_map.2 ⟨x, hx, rfl⟩) e.key (by simp) (by rw [hxk]; exact h2.1)
theorem keyOf_some {t : TypeId} {ke : TypeId × TypeId} (h : keyOf P t = some ke) : P.underlying t = some (.map ke.1 ke.2) := by
  unfold keyOf at h
  split at h
  · cases h; assumption
  · cases h
theorem lookRes_none {e : TypeId} {ok : Bool} {v : Value} (h : lookRes P e ok none = some v) : ∃ z, tzeroV P e = some z ∧ VRel ρ v (if ok then .tuple #[z, .bool false] else z) := by
  unfold lookRes at h
  obtain ⟨z, hz, h⟩ := ob_some h
  cases h
  refine ⟨z, hz, ?_⟩
  have := tzeroV_rel (ρ := ρ) hz
  rw [bif'_eq]
  cases ok with
  | true => exact .tuple (.cons this (.cons (.bool _) .nil))
  | false => exact this
theorem lookRes_has {e : TypeId} {ok : Bool} {x u v : Value} {b : Nat} (h : lookRes P e ok (some (x, b)) = some v) (hr : VRel ρ x u) : VRel ρ v (if ok then .tuple #[u, .bool true] else u) := by
  unfold lookRes at h
  cases h
  rw [bif'_eq]
  cases ok with
  | true => exact .tuple (.cons hr (.cons (.bool _) .nil))
  | false => exact hr
theorem Borns.of {ck : Nat} {ents ents' : Array MapEntry} {t1 t2 : List MapEntry} {e0 e1 : MapEntry} (h : Borns ck ents) (ht : ents.toList = t1 ++ e0 :: t2) (ht' : ents'.toList = t1 ++ e1 :: t2) (hb : e1.born = e0.born) : Borns ck ents' := by
  obtain ⟨h1, h2⟩ := h
  rw [ht] at h1 h2
  refine ⟨by rw [ht']; simpa [hb] using h1, fun e he => ?_⟩
  rw [ht'] at he
  rcases List.mem_append.1 he with he | he
  · exact h2 e (by simp [he])
  · rcases List.mem_cons.1 he with rfl | he
    · rw [hb]; exact h2 e0 (by simp)
    · exact h2 e (by simp [he])
theorem Borns.push {ck : Nat} {ents : Array MapEntry} {e : MapEntry} (h : Borns ck ents) (hb : e.born = ck) : Borns (ck + 1) (ents.push e) := by
  obtain ⟨h1, h2⟩ := h
  refine ⟨?_, fun x hx => ?_⟩
  · rw [Array.toList_push, List.map_append, List.nodup_append]
    refine ⟨h1, by simp, fun a ha b hb' => ?_⟩
    obtain ⟨x, hx, rfl⟩ := List.mem_map.1 ha
    have := h2 x hx
    simp at hb'
    omega
  · rw [Array.toList_push] at hx
    rcases List.mem_append.1 hx with hx | hx
    · have := h2 x hx; omega
    · simp at hx; subst hx; omega
theorem Borns.drop {ck : Nat} {ents ents' : Array MapEntry} {t1 t2 : List MapEntry} {e0 : MapEntry} (h : Borns ck ents) (ht : ents.toList = t1 ++ e0 :: t2) (ht' : ents'.toList = t1 ++ t2) : Borns ck ents' := by
  obtain ⟨h1, h2⟩ := h
  rw [ht] at h1 h2
  refine ⟨?_, fun e he => ?_⟩
  · rw [ht', List.map_append]
    rw [List.map_append, List.map_cons] at h1
    exact (List.nodup_cons.1 ((List.perm_middle.nodup_iff).1 h1)).2
  · rw [ht'] at he
    rcases List.mem_append.1 he with he | he
    · exact h2 e (by simp [he])
    · exact h2 e (by simp [he])
theorem lookupA_sound {s : AS} {w : World} {t : TypeId} {ok : Bool} {k k' x x' v : Value} (hr : Rel P ρ s w) (h : lookupA P s t ok k x = some v) (hk : VRel ρ k k') (hx : VRel ρ x x') : ∃ u, (Instr.lookup t x' k' ok).run P w = .ok u w ∧ VRel ρ v u := by
  unfold lookupA at h
  replace h := ob_some h; obtain ⟨⟨kt, e⟩, hke, h⟩ := h
  replace h := bif'_some h; obtain ⟨hkf, h⟩ := h
  replace hke := keyOf_some hke
  simp only at h hkf hke
  have hpl := keyFits_plain hkf
  have := hk.plain hpl
  subst this
  split at h
  · cases hx
    obtain ⟨z, hz, hv⟩ := lookRes_none (ρ := ρ) h
    refine ⟨_, ?_, hv⟩
    have hfk := findKey_run (P := P) hkf w (l := []) (fun e he => by cases he)
    have hfk : (Instr.findKey kt k' []).run P w = .ok none w := hfk
    simp only [Instr.lookup, Sem.run_bind, run_underlying hke, Result.andThen_ok, Sem.run_pure, run_checkKey' hkf, hfk, run_zeroValue' hz w]
  · rename_i r
    replace h := mapOf_some h; obtain ⟨kt', es, ck, hb, h⟩ := h
    replace h := bif'_some h; obtain ⟨hkt, h⟩ := h
    replace h := ob_some h; obtain ⟨o, ho, h⟩ := h
    replace hkt := Nat.eq_of_beq_eq_true hkt
    subst hkt
    cases hx with | @map a y hy => ?_
    obtain ⟨ents, hh, hm, hbn⟩ := (hr.blk _ _ y hb hy).2
    have hfk := findKey_run (P := P) hkf w hm.fits
    rcases findE_spec ho with ⟨⟨v0, b0⟩, rfl, hmem⟩ | ⟨rfl, hno⟩
    · obtain ⟨es1, es2, rfl⟩ := List.append_of_mem hmem
      obtain ⟨l1, e0, l2, t1, t2, _, h2, _, _, _, hs⟩ := hm.present
      have hv := lookRes_has h h2.2.2.2.1
      rw [hs] at hfk
      refine ⟨_, ?_, hv⟩
      simp only [Instr.lookup, Sem.run_bind, run_underlying hke, Result.andThen_ok, Sem.run_pure, run_getObj' hh (by simp), run_checkKey' hkf, hfk]
    · obtain ⟨z, hz, hv⟩ := lookRes_none (ρ := ρ) h
      rw [hm.absent hno] at hfk
      refine ⟨_, ?_, hv⟩
      simp only [Instr.lookup, Sem.run_bind, run_underlying hke, Result.andThen_ok, Sem.run_pure, run_getObj' hh (by simp), run_checkKey' hkf, hfk, run_zeroValue' hz w]
  · cases h
theorem sameBits_plain : ∀ (d : Nat) {ks : List KK} {v : Value} {a : Option Bool}, fitsV a ks v = true → Instr.sameBits (d + 2) v v = true := by
  intro d ks v a h
  have cell : ∀ (n : Nat) (ks : List KK) (l : List Value), cellsFit ks l = true → ∀ v ∈ l, Instr.sameBits (n + 1) v v = true := by
    intro n ks
    induction ks with
    | nil => intro l h; rw [cellsFit_nil h]; intro v hv; cases hv
    | cons k ks ih =>
      intro l h
      obtain ⟨v, r, rfl, h1, h2⟩ := cellsFit_cons h
      intro u hu
      rcases List.mem_cons.1 hu with rfl | hu
      · unfold kkFits at h1
        split at h1
        · simp [Instr.sameBits]
        · rename_i s
          simp only [Instr.sameBits]
          rw [beq_toListBytes]; simp
        · simp [Instr.sameBits]
        · cases h1
      · exact ih r h2 u hu
  unfold fitsV at h
  split at h
  · split at h
    · rename_i cs
      simp only [Instr.sameBits, beq_self_eq_true, Bool.true_and, List.all_eq_true]
      intro p hp
      obtain ⟨i, hi⟩ := List.mem_iff_getElem?.1 hp
      rw [List.getElem?_zip_eq_some] at hi
      have e : p.1 = p.2 := by
        have := hi.1.symm.trans hi.2
        simpa using this
      obtain ⟨p1, p2⟩ := p
      simp only at e
      subst e
      exact cell d _ _ h p1 (List.mem_of_getElem? hi.1)
    · cases h
  · split at h
    · cases h
    · exact cell (d + 1) _ _ h v (by simp)
  · cases h
theorem keyStays_run {kt : TypeId} {k : Value} (h : keyFits P kt k = true) (w : World) : (Instr.keyThatStays k k).run P w = .ok k w := by
  obtain ⟨ks, _, h⟩ := keyFits_at h
  unfold Instr.keyThatStays
  rw [if_pos (sameBits_plain 9998 h)]; rfl
theorem mapUpdateA_sound {s : AS} {w : World} {t : TypeId} {m m' k k' x x' : Value} {r : Value × AS} (hr : Rel P ρ s w) (h : mapUpdateA P t s m k x = some r) (hm : VRel ρ m m') (hk : VRel ρ k k') (hx : VRel ρ x x') :
    GivesU P ρ s w (Instr.mapUpdate t m' k' x') r := by
  unfold mapUpdateA at h
  replace h := ob_some h; obtain ⟨⟨kt, e⟩, hke, h⟩ := h
  replace h := bif'_some h; obtain ⟨hkf, h⟩ := h
  replace hke := keyOf_some hke
  simp only at h hkf hke
  have hpl := keyFits_plain hkf
  have := hk.plain hpl
  subst this
  split at h
  · rename_i b
    replace h := mapOf_some h; obtain ⟨kt', es, ck, hb, h⟩ := h
    replace h := bif'_some h; obtain ⟨hkt, h⟩ := h
    replace h := ob_some h; obtain ⟨o, ho, h⟩ := h
    replace hkt := Nat.eq_of_beq_eq_true hkt
    subst hkt
    cases hm with | @map a y hy => ?_
    obtain ⟨ents, hh, hmr, hbn⟩ := (hr.blk _ _ y hb hy).2
    have hfk := findKey_run (P := P) hkf w hmr.fits
    rcases findE_spec ho with ⟨⟨vx, bx⟩, rfl, hmem⟩ | ⟨rfl, hno⟩
    · replace h := ob_some h; obtain ⟨es', hes, h⟩ := h
      replace h := ob_some h; obtain ⟨s', hs', h⟩ := h
      cases h
      obtain ⟨es1, v0, b0, es2, rfl, rfl⟩ := putE_has hmem hes
      obtain ⟨l1, e0, l2, t1, t2, h1, h2, h3, hp, ht, hsp⟩ := hmr.present
      have hmod : (ents.modify t1.length fun e => { e with key := k', val := x' }) = (t1 ++ { e0 with key := k', val := x' } :: t2).toArray := by
        apply Array.ext_getElem?
        intro i
        have hg : ents[i]? = (t1 ++ e0 :: t2)[i]? := by rw [← ht]; simp
        rw [Array.getElem?_modify, hg]
        simp only [List.getElem?_toArray]
        by_cases hi : t1.length = i
        · subst hi; simp
        · rw [if_neg hi]
          rcases Nat.lt_or_gt_of_ne hi with h | h
          · rw [List.getElem?_append_right (by omega), List.getElem?_append_right (by omega)]
            obtain ⟨q, hq⟩ : ∃ q, i - t1.length = q + 1 := ⟨i - t1.length - 1, by omega⟩
            rw [hq]; rfl
          · rw [List.getElem?_append_left h, List.getElem?_append_left h]
      have hgi : (ents[t1.length]?).map (·.key) = some k' := by
        have : ents[t1.length]? = (t1 ++ e0 :: t2)[t1.length]? := by rw [← ht]; simp
        rw [this]; simp; exact h2.1.symm
      have hS := Rel.setObj (o' := .map (ents.modify t1.length fun e => { e with key := k', val := x' }) ck) hr hs' hb rfl hy (fun w' hw' => ⟨_, hw', ⟨l1 ++ { e0 with key := k', val := x' } :: l2, by
        rw [hmod]
        exact (List.perm_middle.trans (hp.cons _)).trans List.perm_middle.symm, F2.append (.cons ⟨rfl, h2.2.1, h2.2.2.1, hx, h2.2.2.2.2⟩ h3) h1, by
        have := hmr.choose_spec.2.2
        simpa using this⟩, hbn.of (e1 := { e0 with key := k', val := x' }) ht (by rw [hmod]) rfl⟩)
      refine ⟨rfl, ρ, _, ?_, hS.1, hS.2⟩
      rw [hsp] at hfk
      simp only [Instr.mapUpdate, Sem.run_bind, run_underlying hke, Result.andThen_ok, Sem.run_pure, run_getObj' hh (by simp), run_checkKey' hkf, hfk, hgi, Option.getD_some, keyStays_run hkf, run_setObj' hh (by simp)]
    · rw [fNat_eq] at h
      replace h := ob_some h; obtain ⟨s', hs', h⟩ := h
      cases h
      have hsp := hmr.absent hno
      obtain ⟨l, hp, hf, hn⟩ := hmr
      have hS := Rel.setObj (o' := .map (ents.push { key := k', val := x', born := ck }) (ck + 1)) hr hs' hb rfl hy (fun w' hw' => ⟨_, hw', ⟨{ key := k', val := x', born := ck } :: l, by
        rw [Array.toList_push]
        exact (hp.cons _).trans (List.perm_append_singleton _ _).symm, .cons ⟨rfl, hkf, hpl, hx, .inr rfl⟩ hf, by
        rw [List.map_cons, List.nodup_cons]
        refine ⟨fun ha => ?_, hn⟩
        obtain ⟨p, hp', he⟩ := List.mem_map.1 ha
        exact hno p hp' he⟩, hbn.push rfl⟩)
      refine ⟨rfl, ρ, _, ?_, hS.1, hS.2⟩
      rw [hsp] at hfk
      simp only [Instr.mapUpdate, Sem.run_bind, run_underlying hke, Result.andThen_ok, Sem.run_pure, run_getObj' hh (by simp), run_checkKey' hkf, hfk, run_setObj' hh (by simp)]
  · cases h
theorem modify_at {ents : Array MapEntry} {t1 t2 : List MapEntry} {e0 : MapEntry} (ht : ents.toList = t1 ++ e0 :: t2) (f : MapEntry → MapEntry) : ents.modify t1.length f = (t1 ++ f e0 :: t2).toArray := by
  apply Array.ext_getElem?
  intro i
  have hg : ents[i]? = (t1 ++ e0 :: t2)[i]? := by rw [← ht]; simp
  rw [Array.getElem?_modify, hg]
  simp only [List.getElem?_toArray]
  by_cases hi : t1.length = i
  · subst hi; simp
  · rw [if_neg hi]
    rcases Nat.lt_or_gt_of_ne hi with h | h
    · rw [List.getElem?_append_right (by omega), List.getElem?_append_right (by omega)]
      obtain ⟨q, hq⟩ : ∃ q, i - t1.length = q + 1 := ⟨i - t1.length - 1, by omega⟩
      rw [hq]; rfl
    · rw [List.getElem?_append_left h, List.getElem?_append_left h]
theorem mapEntryA_sound {s : AS} {w : World} {t : TypeId} {m m' k k' : Value} {r : Value × AS} (hr : Rel P ρ s w) (h : mapEntryA P t s m k = some r) (hm : VRel ρ m m') (hk : VRel ρ k k') :
    Gives P ρ s w (Instr.mapEntry t m' k') r := by
  unfold mapEntryA at h
  replace h := ob_some h; obtain ⟨⟨kt, e⟩, hke, h⟩ := h
  replace h := bif'_some h; obtain ⟨hkf, h⟩ := h
  replace hke := keyOf_some hke
  simp only at h hkf hke
  have hpl := keyFits_plain hkf
  have := hk.plain hpl
  subst this
  split at h
  · rename_i b
    replace h := mapOf_some h; obtain ⟨kt', es, ck, hb, h⟩ := h
    replace h := bif'_some h; obtain ⟨hkt, h⟩ := h
    replace h := ob_some h; obtain ⟨o, ho, h⟩ := h
    replace hkt := Nat.eq_of_beq_eq_true hkt
    subst hkt
    cases hm with | @map a y hy => ?_
    obtain ⟨ents, hh, hmr, hbn⟩ := (hr.blk _ _ y hb hy).2
    have hfk := findKey_run (P := P) hkf w hmr.fits
    rcases findE_spec ho with ⟨⟨v0, b0⟩, rfl, hmem⟩ | ⟨rfl, hno⟩
    · cases b0 with
      | zero => cases h
      | succ b0 => ?_
      replace h := ob_some h; obtain ⟨s', hs', h⟩ := h
      cases h
      obtain ⟨es1, es2, rfl⟩ := List.append_of_mem hmem
      obtain ⟨l1, e0, l2, t1, t2, h1, h2, h3, hp, ht, hsp⟩ := hmr.present
      have hmod := modify_at ht fun e => { e with key := k' }
      have hke0 : ({ e0 with key := k' } : MapEntry) = e0 := by have := h2.1; simp only at this; rw [this]
      rw [hke0] at hmod
      have hgi : ents[t1.length]? = some e0 := by
        have : ents[t1.length]? = (t1 ++ e0 :: t2)[t1.length]? := by rw [← ht]; simp
        rw [this]; simp
      have hS := Rel.setObj (o' := .map (ents.modify t1.length fun e => { e with key := k' }) ck) hr hs' hb rfl hy (fun w' hw' => ⟨_, hw', ⟨l1 ++ e0 :: l2, by
        rw [hmod]
        exact (List.perm_middle.trans (hp.cons _)).trans List.perm_middle.symm, F2.append (.cons h2 h3) h1, by
        have := hmr.choose_spec.2.2
        exact this⟩, hbn.of (e1 := e0) ht (by rw [hmod]) rfl⟩)
      rw [hsp] at hfk
      refine ⟨ρ, _, _, ?_, .tuple (.cons h2.2.2.2.1 (.cons (.int _ _) .nil)), hS.1, hS.2⟩
      have hborn : e0.born = b0 := by
        rcases h2.2.2.2.2 with h | h
        · cases h
        · exact (Nat.succ.inj h).symm
      simp only [Instr.mapEntry, Sem.run_bind, run_underlying hke, Result.andThen_ok, Sem.run_pure, run_getObj' hh (by simp), run_checkKey' hkf, hfk, hgi, Option.map_some, Option.getD_some, h2.1.symm, keyStays_run hkf, run_setObj' hh (by simp), hborn, goInt]
      rfl
    · replace h := ob_some h; obtain ⟨z, hz, h⟩ := h
      rw [fNat_eq] at h
      replace h := ob_some h; obtain ⟨s', hs', h⟩ := h
      cases h
      have hsp := hmr.absent hno
      obtain ⟨l, hp, hf, hn⟩ := hmr
      have hS := Rel.setObj (o' := .map (ents.push { key := k', val := z, born := ck }) (ck + 1)) hr hs' hb rfl hy (fun w' hw' => ⟨_, hw', ⟨{ key := k', val := z, born := ck } :: l, by
        rw [Array.toList_push]
        exact (hp.cons _).trans (List.perm_append_singleton _ _).symm, .cons ⟨rfl, hkf, hpl, tzeroV_rel hz, .inr rfl⟩ hf, by
        rw [List.map_cons, List.nodup_cons]
        refine ⟨fun ha => ?_, hn⟩
        obtain ⟨p, hp', he⟩ := List.mem_map.1 ha
        exact hno p hp' he⟩, hbn.push rfl⟩)
      refine ⟨ρ, _, _, ?_, .tuple (.cons (tzeroV_rel hz) (.cons (.int _ _) .nil)), hS.1, hS.2⟩
      rw [hsp] at hfk
      simp only [Instr.mapEntry, Sem.run_bind, run_underlying hke, Result.andThen_ok, Sem.run_pure, run_getObj' hh (by simp), run_checkKey' hkf, hfk, run_zeroValue' hz w, run_setObj' hh (by simp), goInt]
      rfl
  · cases h
theorem putB_spec {b : Nat} {x : Value} : ∀ {es es' : List (Value × Value × Nat)}, putB b x es = some es' → ∃ es1 k v0 es2, es = es1 ++ (k, v0, b) :: es2 ∧ es' = es1 ++ (k, x, b) :: es2
  | [], _, h => by cases h
  | (k', v', b') :: es, es', h => by
    unfold putB at h
    rw [bif'_eq] at h
    split at h
    · rename_i hb
      cases h
      have := Nat.eq_of_beq_eq_true hb
      subst this
      exact ⟨[], k', v', es, rfl, rfl⟩
    · rename_i hb
      split at h
      · rename_i r hr
        cases h
        obtain ⟨es1, k, v0, es2, rfl, rfl⟩ := putB_spec hr
        exact ⟨(k', v', b') :: es1, k, v0, es2, rfl, rfl⟩
      · cases h
theorem entryStoreA_sound {s : AS} {w : World} {t : TypeId} {m m' st st' x x' : Value} {r : Value × AS} (hr : Rel P ρ s w) (h : entryStoreA s m st x = some r) (hm : VRel ρ m m') (hst : VRel ρ st st') (hx : VRel ρ x x') :
    GivesU P ρ s w (Instr.entryStore t m' st' x') r := by
  unfold entryStoreA at h
  split at h
  · rename_i b kk n
    replace h := ob_some h; obtain ⟨bn, hbn, h⟩ := h
    replace h := mapOf_some h; obtain ⟨kt, es, ck, hb, h⟩ := h
    replace h := ob_some h; obtain ⟨es', hes, h⟩ := h
    replace h := ob_some h; obtain ⟨s', hs', h⟩ := h
    cases h
    cases hm with | @map a y hy => ?_
    cases hst
    obtain ⟨ents, hh, hmr, hbn⟩ := (hr.blk _ _ y hb hy).2
    obtain ⟨es1, k, v0, es2, rfl, rfl⟩ := putB_spec hes
    have hn : n = (bn : Int) := by cases n with | ofNat m => cases hbn; rfl | negSucc m => cases hbn
    obtain ⟨l1, e0, l2, t1, t2, h1, h2, h3, hp, ht, hsp⟩ := hmr.present
    have hborn : e0.born = bn := by
      rcases h2.2.2.2.2 with h | h
      · cases h
      · exact (Nat.succ.inj h).symm
    have hoth : ∀ e ∈ t1, e.born ≠ bn := fun e he heq => by
      have hnd := hbn.1
      rw [ht, List.map_append, List.map_cons, List.nodup_append] at hnd
      exact hnd.2.2 e.born (List.mem_map.2 ⟨e, he, rfl⟩) e0.born (by simp) (by rw [heq, hborn])
    have hfind : ents.findIdx? (fun e => (e.born : Int) == n) = some t1.length := by
      have hen : ents = (t1 ++ e0 :: t2).toArray := by rw [← ht]
      rw [hen, List.findIdx?_toArray, List.findIdx?_append, List.findIdx?_cons]
      have hnone : t1.findIdx? (fun e => (e.born : Int) == n) = none := by
        rw [List.findIdx?_eq_none_iff]
        intro e he
        have := hoth e he
        rw [hn]; simp; omega
      rw [hnone, hborn, hn]; simp
    have hmod := modify_at ht fun e => { e with val := x' }
    have hS := Rel.setObj (o' := .map (ents.modify t1.length fun e => { e with val := x' }) ck) hr hs' hb rfl hy (fun w' hw' => ⟨_, hw', ⟨l1 ++ { e0 with val := x' } :: l2, by
      rw [hmod]
      exact (List.perm_middle.trans (hp.cons _)).trans List.perm_middle.symm, F2.append (.cons ⟨h2.1, h2.2.1, h2.2.2.1, hx, h2.2.2.2.2⟩ h3) h1, by
      have := hmr.choose_spec.2.2
      simpa using this⟩, hbn.of (e1 := { e0 with val := x' }) ht (by rw [hmod]) rfl⟩)
    refine ⟨rfl, ρ, _, ?_, hS.1, hS.2⟩
    simp only [Instr.entryStore, asInt, asIntOf, Sem.run_bind, Result.andThen_ok, Sem.run_pure, run_getObj' hh (by simp), hfind, run_setObj' hh (by simp)]
  · cases h
theorem deleteA_sound {ts : Array TypeId} {ty : TypeId} {s : AS} {w : World} {l l' : List Value} {r : Value × AS} (hr : Rel P ρ s w) (h : deleteA P ts s l = some r) (hl : VRels ρ l l') :
    Gives P ρ s w (Builtin.delete_ ts ty l'.toArray) r := by
  unfold deleteA at h
  split at h
  · rename_i t0 b k ht0
    replace h := ob_some h; obtain ⟨⟨kt, e⟩, hke, h⟩ := h
    replace h := bif'_some h; obtain ⟨hkf, h⟩ := h
    replace hke := keyOf_some hke
    simp only at h hkf hke
    obtain ⟨m', k', rfl, hm, hk⟩ := VRels.two hl
    have hpl := keyFits_plain hkf
    have := hk.plain hpl
    subst this
    replace h := mapOf_some h; obtain ⟨kt', es, ck, hb, h⟩ := h
    replace h := bif'_some h; obtain ⟨hkt, h⟩ := h
    replace h := ob_some h; obtain ⟨es', hes, h⟩ := h
    replace h := ob_some h; obtain ⟨s', hs', h⟩ := h
    replace hkt := Nat.eq_of_beq_eq_true hkt
    subst hkt
    cases h
    cases hm with | @map a y hy => ?_
    obtain ⟨ents, hh, hmr, hbn⟩ := (hr.blk _ _ y hb hy).2
    have hfk := findKey_run (P := P) hkf w hmr.fits
    have h0 : ∀ (x y : Value), (#[x, y] : Array Value)[0]? = some x := fun _ _ => rfl
    have h1 : ∀ (x y : Value), (#[x, y] : Array Value)[1]? = some y := fun _ _ => rfl
    rcases delE_spec hes with ⟨es1, ⟨v0, b0⟩, es2, rfl, rfl⟩ | ⟨hno, rfl⟩
    · obtain ⟨l1, e0, l2, t1, t2, q1, q2, q3, hp, ht, hsp⟩ := hmr.present
      have hmod : (ents.eraseIdxIfInBounds t1.length) = (t1 ++ t2).toArray := by
        apply Array.ext'
        rw [Array.toList_eraseIdxIfInBounds, ht]
        rw [List.eraseIdx_append_of_length_le (Nat.le_refl _), Nat.sub_self]
        rfl
      have hS := Rel.setObj (o' := .map (ents.eraseIdxIfInBounds t1.length) ck) hr hs' hb rfl hy (fun w' hw' => ⟨_, hw', ⟨l1 ++ l2, by rw [hmod]; exact hp, F2.append q3 q1, by
        have := hmr.choose_spec.2.2
        rw [List.map_append, List.map_cons] at this
        rw [List.map_append]
        have := (List.perm_middle.nodup_iff).1 this
        exact (List.nodup_cons.1 this).2⟩, hbn.drop ht (by rw [hmod])⟩)
      refine ⟨ρ, _, _, ?_, .tuple .nil, hS.1, hS.2⟩
      rw [hsp] at hfk
      simp only [Builtin.delete_, ht0, h0, h1, Sem.run_bind, run_underlying hke, Result.andThen_ok, Sem.run_pure, run_getObj' hh (by simp), run_checkKey' hkf, hfk, run_setObj' hh (by simp)]
    · have hsp := hmr.absent hno
      have hS := Rel.setObj (o' := .map ents ck) hr hs' hb rfl hy (fun w' hw' => ⟨_, hw', hmr, hbn⟩)
      refine ⟨ρ, _, _, ?_, .tuple .nil, hS.1, hS.2⟩
      rw [hsp] at hfk
      simp only [Builtin.delete_, ht0, h0, h1, Sem.run_bind, run_underlying hke, Result.andThen_ok, Sem.run_pure, run_getObj' hh (by simp), run_checkKey' hkf, hfk, run_setObj' hh (by simp)]
  · cases h
theorem makeMapA_made {t : TypeId} {kt : TypeId} {a : Nat} {ρ : Ren} {w : World} : Made P ρ w a (Instr.makeMap t none) (.map (some a)) (.map kt [] 0) := by
  have hha : (w.alloc (.map #[] 0)).heap = w.heap.push (.map #[] 0) := rfl
  refine ⟨⟨w.heap.size, 0, 0⟩, _, w.alloc (.map #[] 0), ?_, rfl, by simp [hha], (fun c hc => by simp [hha, Array.getElem?_push, Nat.ne_of_lt hc]), rfl, rfl, rfl, VRel.map (x := ⟨w.heap.size, 0, 0⟩) (put_self _ _ _), ⟨#[], by simp [hha], ⟨[], .nil, .nil, by simp⟩, by simp [Borns]⟩⟩
  simp only [Instr.makeMap, Sem.run_bind, Result.andThen_ok, Sem.run_pure, run_newObj_alloc]
end Go.Eng
/-! The operations. -/
namespace Go.Eng
open Go
variable {P : Program}
def OpsRel (ρ : Ren) (keep : Nat) (al : Al) (lo : Lo) (tm : T Value) (rf : Operand → Value) (ops : Array Operand) : Prop := ∀ x f v, x ∈ ops → mkOp keep al x = some f → f lo tm = some v → VRel ρ v (rf x)
theorem OpsRel.list {ρ : Ren} {keep : Nat} {al : Al} {lo : Lo} {tm : T Value} {rf : Operand → Value} {ops : Array Operand} (h : OpsRel ρ keep al lo tm rf ops) : ∀ {xs : List Operand} {fs : List Opd} {l : List Value}, (∀ x ∈ xs, x ∈ ops) → mkOps keep al xs = some fs → opvs fs lo tm = some l → VRels ρ l (xs.map rf) := by
  intro xs
  induction xs with
  | nil => intro fs l _ hm hv; cases hm; cases hv; exact .nil
  | cons x xs ih =>
    intro fs l hin hm hv
    have hm' : ob (mkOp keep al x) (fun x => ob (mkOps keep al xs) fun r => some (x :: r)) = some fs := hm
    obtain ⟨f, hf, hm'⟩ := ob_some hm'
    obtain ⟨r, hr, hm'⟩ := ob_some hm'
    cases hm'
    have hv' : Option.rec (motive := fun _ => Option (List Value)) none (fun v => Option.rec (motive := fun _ => Option (List Value)) none (fun r => some (v :: r)) (opvs r lo tm)) (f lo tm) = some l := hv
    obtain ⟨v, h1, hv'⟩ := orec_some hv'
    obtain ⟨l', h2, hv'⟩ := orec_some hv'
    cases hv'
    exact .cons (h _ _ _ (hin _ (by simp)) hf h1) (ih (fun y hy => hin y (by simp [hy])) hr h2)
/-- what an operation gives: in its run. -/
def POk (P : Program) (keep : Nat) (al : Al) (o : Oper) (f : VF) : Prop :=
  (∀ lo tm s s', f lo tm s = f lo tm s') ∧ ∀ ρ lo tm s v w rf, f lo tm s = some v → OpsRel ρ keep al lo tm rf o.op.operands → ∃ u, (execOp rf o).run P w = .ok (.value u) w ∧ VRel ρ v u
def ROk (P : Program) (keep : Nat) (al : Al) (o : Oper) (f : VF) : Prop :=
  ∀ ρ lo tm s v w rf, f lo tm s = some v → Rel P ρ s w → OpsRel ρ keep al lo tm rf o.op.operands → ∃ u, (execOp rf o).run P w = .ok (.value u) w ∧ VRel ρ v u
def AOk (P : Program) (keep : Nat) (al : Al) (o : Oper) (f : SF) : Prop :=
  ∀ lo tm s r, f lo tm s = some r → ∃ k, s.new k = some r.2 ∧ ∀ ρ w rf, ρ s.nx = none → OpsRel ρ keep al lo tm rf o.op.operands → ∃ m : Sem Value, execOp rf o = (do pure (.value (← m))) ∧ Made P ρ w s.nx m r.1 k
def NextRel (ρ : Ren) (v : Value) (nx : Next) : Prop := (∃ u, nx = .value u ∧ VRel ρ v u) ∨ (nx = .skip ∧ v = .tuple #[])
def WOk (P : Program) (keep : Nat) (al : Al) (o : Oper) (f : SF) : Prop :=
  ∀ ρ lo tm s r w rf, f lo tm s = some r → Rel P ρ s w → OpsRel ρ keep al lo tm rf o.op.operands → ∃ ρ' nx w', (execOp rf o).run P w = .ok nx w' ∧ NextRel ρ' r.1 nx ∧ Rel P ρ' r.2 w' ∧ Stp ρ s w ρ' r.2 w'
def callOf (f : Value) (args : List Value) : Sem Next := do let d ← Deferred.ofValue f args.toArray; invoke d.target d.args
def RdOk (P : Program) (keep : Nat) (al : Al) (o : Oper) : Rd → Prop
  | .p f => POk P keep al o f
  | .r f => ROk P keep al o f
  | .a f => AOk P keep al o f
  | .w f => WOk P keep al o f
  | .c f as => ∃ c, o.op = .call c ∧ mkOps keep al c.args.toList = some as ∧ ∀ ρ lo tm fv rf, f lo tm = some fv → OpsRel ρ keep al lo tm rf o.op.operands → ∃ f', VRel ρ fv f' ∧ ∀ w, (execOp rf o).run P w = (callOf f' (c.args.toList.map rf)).run P w
section
variable {keep : Nat} {al : Al} {o : Oper}
theorem run_val {m : Sem Value} {u : Value} {w w' : World} (h : m.run P w = .ok u w') : ((do pure (Next.value (← m)) : Sem Next)).run P w = .ok (.value u) w' := by
  simp only [Sem.run_bind, h, Result.andThen_ok, Sem.run_pure]
theorem run_unit {m : Sem Unit} {w w' : World} (h : m.run P w = .ok () w') : ((do m; pure Next.skip : Sem Next)).run P w = .ok .skip w' := by
  simp only [Sem.run_bind, h, Result.andThen_ok, Sem.run_pure]
theorem v1_ok {x : Operand} {f : Opd} {k : Value → Option Value} (hm : mkOp keep al x = some f)
    (h : ∀ ρ v v' u w rf, k v = some u → VRel ρ v v' → rf x = v' → ∃ u', (execOp rf o).run P w = .ok (.value u') w ∧ VRel ρ u u') (hin : x ∈ o.op.operands := by simp [*, Op.operands, Call.operands]) : POk P keep al o (v1 f k) := by
  refine ⟨fun _ _ _ _ => rfl, fun ρ lo tm s v w rf hv hR => ?_⟩
  obtain ⟨a, ha, hv⟩ := ob_some hv
  exact h ρ a _ v w rf hv (hR x f a hin hm ha) rfl
theorem v2_ok {x y : Operand} {f g : Opd} {k : Value → Value → Option Value} (hm : mkOp keep al x = some f) (hm2 : mkOp keep al y = some g)
    (h : ∀ ρ a b u w rf, k a b = some u → VRel ρ a (rf x) → VRel ρ b (rf y) → ∃ u', (execOp rf o).run P w = .ok (.value u') w ∧ VRel ρ u u') (hin : x ∈ o.op.operands := by simp [*, Op.operands, Call.operands]) (hin2 : y ∈ o.op.operands := by simp [*, Op.operands, Call.operands]) : POk P keep al o (v2 f g k) := by
  refine ⟨fun _ _ _ _ => rfl, fun ρ lo tm s v w rf hv hR => ?_⟩
  obtain ⟨a, ha, hv⟩ := ob_some hv
  obtain ⟨b, hb, hv⟩ := ob_some hv
  exact h ρ a b v w rf hv (hR x f a hin hm ha) (hR y g b hin2 hm2 hb)
theorem vl_ok {xs : List Operand} {fs : List Opd} {k : List Value → Option Value} (hm : mkOps keep al xs = some fs)
    (h : ∀ ρ l u w rf, k l = some u → VRels ρ l (xs.map rf) → ∃ u', (execOp rf o).run P w = .ok (.value u') w ∧ VRel ρ u u') (hin : ∀ x ∈ xs, x ∈ o.op.operands := by simp [*, Op.operands, Call.operands] <;> grind) : POk P keep al o (vl fs k) := by
  refine ⟨fun _ _ _ _ => rfl, fun ρ lo tm s v w rf hv hR => ?_⟩
  obtain ⟨l, hl, hv⟩ := ob_some hv
  exact h ρ l v w rf hv (hR.list hin hm hl)
theorem r1_ok {x : Operand} {f : Opd} {k : AS → Value → Option Value} (hm : mkOp keep al x = some f)
    (h : ∀ ρ s v u w rf, k s v = some u → Rel P ρ s w → VRel ρ v (rf x) → ∃ u', (execOp rf o).run P w = .ok (.value u') w ∧ VRel ρ u u') (hin : x ∈ o.op.operands := by simp [*, Op.operands, Call.operands]) : ROk P keep al o (r1 f k) := by
  intro ρ lo tm s v w rf hv hr hR
  obtain ⟨a, ha, hv⟩ := ob_some hv
  exact h ρ s a v w rf hv hr (hR x f a hin hm ha)
theorem r2_ok {x y : Operand} {f g : Opd} {k : AS → Value → Value → Option Value} (hm : mkOp keep al x = some f) (hm2 : mkOp keep al y = some g)
    (h : ∀ ρ s a b u w rf, k s a b = some u → Rel P ρ s w → VRel ρ a (rf x) → VRel ρ b (rf y) → ∃ u', (execOp rf o).run P w = .ok (.value u') w ∧ VRel ρ u u') (hin : x ∈ o.op.operands := by simp [*, Op.operands, Call.operands]) (hin2 : y ∈ o.op.operands := by simp [*, Op.operands, Call.operands]) : ROk P keep al o (r2 f g k) := by
  intro ρ lo tm s v w rf hv hr hR
  obtain ⟨a, ha, hv⟩ := ob_some hv
  obtain ⟨b, hb, hv⟩ := ob_some hv
  exact h ρ s a b v w rf hv hr (hR x f a hin hm ha) (hR y g b hin2 hm2 hb)
theorem rl_ok {xs : List Operand} {fs : List Opd} {k : AS → List Value → Option Value} (hm : mkOps keep al xs = some fs)
    (h : ∀ ρ s l u w rf, k s l = some u → Rel P ρ s w → VRels ρ l (xs.map rf) → ∃ u', (execOp rf o).run P w = .ok (.value u') w ∧ VRel ρ u u') (hin : ∀ x ∈ xs, x ∈ o.op.operands := by simp [*, Op.operands, Call.operands] <;> grind) : ROk P keep al o (rl fs k) := by
  intro ρ lo tm s v w rf hv hr hR
  obtain ⟨l, hl, hv⟩ := ob_some hv
  exact h ρ s l v w rf hv hr (hR.list hin hm hl)
theorem gives_next {ρ : Ren} {s : AS} {w : World} {m : Sem Value} {r : Value × AS} {rf : Operand → Value} (he : execOp rf o = (do pure (.value (← m)))) (h : Gives P ρ s w m r) :
    ∃ ρ' nx w', (execOp rf o).run P w = .ok nx w' ∧ NextRel ρ' r.1 nx ∧ Rel P ρ' r.2 w' ∧ Stp ρ s w ρ' r.2 w' := by
  obtain ⟨ρ', u, w', h1, h2, h3, h4⟩ := h
  exact ⟨ρ', _, w', by rw [he]; exact run_val h1, .inl ⟨u, rfl, h2⟩, h3, h4⟩
theorem givesU_next {ρ : Ren} {s : AS} {w : World} {m : Sem Unit} {r : Value × AS} {rf : Operand → Value} (he : execOp rf o = (do m; pure .skip)) (h : GivesU P ρ s w m r) :
    ∃ ρ' nx w', (execOp rf o).run P w = .ok nx w' ∧ NextRel ρ' r.1 nx ∧ Rel P ρ' r.2 w' ∧ Stp ρ s w ρ' r.2 w' := by
  obtain ⟨h0, ρ', w', h1, h3, h4⟩ := h
  exact ⟨ρ', _, w', by rw [he]; exact run_unit h1, .inr ⟨rfl, h0⟩, h3, h4⟩
theorem s1_ok {x : Operand} {f : Opd} {k : AS → Value → Option (Value × AS)} (hm : mkOp keep al x = some f)
    (h : ∀ ρ s a r w rf, k s a = some r → Rel P ρ s w → VRel ρ a (rf x) → ∃ ρ' nx w', (execOp rf o).run P w = .ok nx w' ∧ NextRel ρ' r.1 nx ∧ Rel P ρ' r.2 w' ∧ Stp ρ s w ρ' r.2 w') (hin : x ∈ o.op.operands := by simp [*, Op.operands, Call.operands]) : WOk P keep al o (s1 f k) := by
  intro ρ lo tm s r w rf hv hr hR
  obtain ⟨a, ha, hv⟩ := ob_some hv
  exact h ρ s a r w rf hv hr (hR x f a hin hm ha)
theorem s2_ok {x y : Operand} {f g : Opd} {k : AS → Value → Value → Option (Value × AS)} (hm : mkOp keep al x = some f) (hm2 : mkOp keep al y = some g)
    (h : ∀ ρ s a b r w rf, k s a b = some r → Rel P ρ s w → VRel ρ a (rf x) → VRel ρ b (rf y) → ∃ ρ' nx w', (execOp rf o).run P w = .ok nx w' ∧ NextRel ρ' r.1 nx ∧ Rel P ρ' r.2 w' ∧ Stp ρ s w ρ' r.2 w') (hin : x ∈ o.op.operands := by simp [*, Op.operands, Call.operands]) (hin2 : y ∈ o.op.operands := by simp [*, Op.operands, Call.operands]) : WOk P keep al o (s2 f g k) := by
  intro ρ lo tm s r w rf hv hr hR
  obtain ⟨a, ha, hv⟩ := ob_some hv
  obtain ⟨b, hb, hv⟩ := ob_some hv
  exact h ρ s a b r w rf hv hr (hR x f a hin hm ha) (hR y g b hin2 hm2 hb)
theorem s3_ok {x y z : Operand} {f g e : Opd} {k : AS → Value → Value → Value → Option (Value × AS)} (hm : mkOp keep al x = some f) (hm2 : mkOp keep al y = some g) (hm3 : mkOp keep al z = some e)
    (h : ∀ ρ s a b c r w rf, k s a b c = some r → Rel P ρ s w → VRel ρ a (rf x) → VRel ρ b (rf y) → VRel ρ c (rf z) → ∃ ρ' nx w', (execOp rf o).run P w = .ok nx w' ∧ NextRel ρ' r.1 nx ∧ Rel P ρ' r.2 w' ∧ Stp ρ s w ρ' r.2 w') (hin : x ∈ o.op.operands := by simp [*, Op.operands, Call.operands]) (hin2 : y ∈ o.op.operands := by simp [*, Op.operands, Call.operands]) (hin3 : z ∈ o.op.operands := by simp [*, Op.operands, Call.operands]) : WOk P keep al o (s3 f g e k) := by
  intro ρ lo tm s r w rf hv hr hR
  obtain ⟨a, ha, hv⟩ := ob_some hv
  obtain ⟨b, hb, hv⟩ := ob_some hv
  obtain ⟨c, hc, hv⟩ := ob_some hv
  exact h ρ s a b c r w rf hv hr (hR x f a hin hm ha) (hR y g b hin2 hm2 hb) (hR z e c hin3 hm3 hc)
theorem sl_ok {xs : List Operand} {fs : List Opd} {k : AS → List Value → Option (Value × AS)} (hm : mkOps keep al xs = some fs)
    (h : ∀ ρ s l r w rf, k s l = some r → Rel P ρ s w → VRels ρ l (xs.map rf) → ∃ ρ' nx w', (execOp rf o).run P w = .ok nx w' ∧ NextRel ρ' r.1 nx ∧ Rel P ρ' r.2 w' ∧ Stp ρ s w ρ' r.2 w') (hin : ∀ x ∈ xs, x ∈ o.op.operands := by simp [*, Op.operands, Call.operands] <;> grind) : WOk P keep al o (sl fs k) := by
  intro ρ lo tm s r w rf hv hr hR
  obtain ⟨l, hl, hv⟩ := ob_some hv
  exact h ρ s l r w rf hv hr (hR.list hin hm hl)
theorem c1_some {x : Operand} {k : Opd → Rd} {r : Rd} (h : c1 keep al x k = some r) : ∃ f, mkOp keep al x = some f ∧ r = k f := by
  obtain ⟨f, hf, h⟩ := ob_some h; cases h; exact ⟨f, hf, rfl⟩
theorem c2_some {x y : Operand} {k : Opd → Opd → Rd} {r : Rd} (h : c2 keep al x y k = some r) : ∃ f g, mkOp keep al x = some f ∧ mkOp keep al y = some g ∧ r = k f g := by
  obtain ⟨f, hf, h⟩ := ob_some h; obtain ⟨g, hg, h⟩ := ob_some h; cases h; exact ⟨f, g, hf, hg, rfl⟩
theorem c3_some {x y z : Operand} {k : Opd → Opd → Opd → Rd} {r : Rd} (h : c3 keep al x y z k = some r) : ∃ f g e, mkOp keep al x = some f ∧ mkOp keep al y = some g ∧ mkOp keep al z = some e ∧ r = k f g e := by
  obtain ⟨f, hf, h⟩ := ob_some h; obtain ⟨g, hg, h⟩ := ob_some h; obtain ⟨e, he, h⟩ := ob_some h; cases h; exact ⟨f, g, e, hf, hg, he, rfl⟩
theorem cl_some {xs : List Operand} {k : List Opd → Rd} {r : Rd} (h : cl keep al xs k = some r) : ∃ fs, mkOps keep al xs = some fs ∧ r = k fs := by
  obtain ⟨f, hf, h⟩ := ob_some h; cases h; exact ⟨f, hf, rfl⟩
theorem nilOk_sound {ρ : Ren} {v v' u : Value} {x : Operand} {rf : Operand → Value} (ho : o.op = .nilCheck x) (w : World) (h : nilOk v = some u) (hv : VRel ρ v v') (hx : rf x = v') : ∃ u', (execOp rf o).run P w = .ok (.value u') w ∧ VRel ρ u u' := by
  unfold nilOk at h
  split at h <;> first | (cases h; done) | (cases h; refine ⟨v', ?_, hv⟩; cases hv <;> (unfold execOp; rw [ho]; simp only [hx, Sem.run_pure]))
theorem opt_rel {ρ : Ren} {lo : Lo} {tm : T Value} {rf : Operand → Value} {ops : Array Operand} (hR : OpsRel ρ keep al lo tm rf ops) {x : Option Operand} {f : Option Opd} {v : Option Value} (hm : mkOpt keep al x = some f) (hv : optv f lo tm = some v) (hin : ∀ y, x = some y → y ∈ ops) : VRelO ρ v (x.map rf) := by
  cases x with
  | none => cases hm; cases hv; exact .none
  | some x =>
    obtain ⟨g, hg, hm⟩ := ob_some hm
    cases hm
    obtain ⟨a, ha, hv⟩ := ob_some hv
    cases hv
    exact .some (hR x g a (hin x rfl) hg ha)
end
theorem zipP_map (ps : List (Nat × Operand)) (rf : Operand → Value) : zipP (ps.map (·.1)) ((ps.map (·.2)).map rf) = ps.map fun p => (p.1, rf p.2) := by
  induction ps with
  | nil => rfl
  | cons p ps ih => exact congrArg (_ :: ·) ih
theorem parts_eq (ps : Array (Nat × Operand)) (rf : Operand → Value) : (ps.map fun (i, x) => (i, rf x)) = (zipP (ps.toList.map (·.1)) ((ps.toList.map (·.2)).map rf)).toArray := by
  rw [zipP_map]
  apply Array.ext'
  simp
section
variable {keep : Nat} {al : Al} {o : Oper}
theorem resolve_builtin {c : Call} {b : Builtin} {t : TypeId} {rf : Operand → Value} (hc : c.callee = .builtin b) : resolve rf c t = pure { target := .builtin b c.argTypes t (c.args.map fun | .const _ => true | _ => false), args := c.args.map rf } := by
  unfold resolve; rw [hc]; rfl
theorem exec_builtin {c : Call} {b : Builtin} {rf : Operand → Value} (ho : o.op = .call c) (hc : c.callee = .builtin b) :
    execOp rf o = builtin b c.argTypes o.type (c.args.map fun | .const _ => true | _ => false) (c.args.map rf) := by
  unfold execOp
  rw [ho]
  simp only [resolve_builtin hc, pure_bind, invoke]
theorem args_eq (xs : Array Operand) (rf : Operand → Value) : xs.map rf = (xs.toList.map rf).toArray := by apply Array.ext'; simp
theorem rdBuiltin_ok {sh : Bool} {c : Call} {b : Builtin} {fs : List Opd} {r : Rd} (ho : o.op = .call c) (hc : c.callee = .builtin b) (hm : mkOps keep al c.args.toList = some fs) (h : rdBuiltin P sh b c.argTypes fs = some r) : RdOk P keep al o r := by
  have he := fun rf : Operand → Value => exec_builtin (rf := rf) ho hc
  unfold rdBuiltin at h
  split at h
  · rw [bif'_eq] at h
    split at h
    · cases h
      rename_i hmap
      refine rl_ok hm (fun ρ s l u w rf hv hr hl => ?_)
      obtain ⟨u', h1, h2⟩ := lenM_sound (ty := o.type) hr hmap hv hl
      exact ⟨u', by rw [he, args_eq]; exact run_val h1, h2⟩
    · cases h
      refine vl_ok hm (fun ρ l u w rf hv hl => ?_)
      obtain ⟨h1, h2⟩ := lenA_sound (ty := o.type) w hv hl
      exact ⟨u, by rw [he, args_eq]; exact run_val h1, h2⟩
  · cases h
    refine vl_ok hm (fun ρ l u w rf hv hl => ?_)
    obtain ⟨u', h1, h2⟩ := capA_sound (ty := o.type) w hv hl
    exact ⟨u', by rw [he, args_eq]; exact run_val h1, h2⟩
  · cases h
    refine sl_ok hm (fun ρ s l r w rf hv hr hl => gives_next (m := Builtin.append_ c.argTypes o.type (c.args.map rf)) (by rw [he]; rfl) ?_)
    rw [args_eq]; exact append2_sound hr hv hl
  · cases h
    refine sl_ok hm (fun ρ s l r w rf hv hr hl => gives_next (m := Builtin.copy_ c.argTypes o.type (c.args.map rf)) (by rw [he]; rfl) ?_)
    rw [args_eq]; exact copyA_sound hr hv hl
  · cases h
    refine sl_ok hm (fun ρ s l r w rf hv hr hl => gives_next (m := Builtin.delete_ c.argTypes o.type (c.args.map rf)) (by rw [he]; rfl) ?_)
    rw [args_eq]; exact deleteA_sound hr hv hl
  · cases h
    refine sl_ok hm (fun ρ s l r w rf hv hr hl => gives_next (m := Builtin.clear_ c.argTypes o.type (c.args.map rf)) (by rw [he]; rfl) ?_)
    rw [args_eq]; exact clearA_sound hr hv hl
  · cases h
    refine vl_ok hm (fun ρ l u w rf hv hl => ?_)
    obtain ⟨u', h1, h2⟩ := max_sound (ts := c.argTypes) (ty := o.type) w hv hl
    exact ⟨u', by rw [he, args_eq]; exact run_val h1, h2⟩
  · cases h
    refine vl_ok hm (fun ρ l u w rf hv hl => ?_)
    obtain ⟨u', h1, h2⟩ := min_sound (ts := c.argTypes) (ty := o.type) w hv hl
    exact ⟨u', by rw [he, args_eq]; exact run_val h1, h2⟩
  · rw [bif'_eq] at h
    split at h
    · rename_i hidx
      cases h
      have hb : b.ctorIdx = 20 := Nat.eq_of_beq_eq_true hidx
      refine vl_ok hm (fun ρ l u w rf hv hl => ?_)
      obtain ⟨u', h1, h2⟩ := dataA_sound (ts := c.argTypes) (ty := o.type) w hv hl
      refine ⟨u', ?_, h2⟩
      rw [he, args_eq]
      cases b <;> first | (exact run_val h1) | (simp [Builtin.ctorIdx] at hb)
    · replace h := bif'_some h; obtain ⟨hidx, h⟩ := h
      cases h
      have hb : b.ctorIdx = 21 := Nat.eq_of_beq_eq_true hidx
      refine sl_ok hm (fun ρ s l r w rf hv hr hl => gives_next (m := Builtin.unsafeString_ c.argTypes o.type (c.args.map rf)) ?_ ?_)
      · rw [he]
        cases b <;> first | rfl | (simp [Builtin.ctorIdx] at hb)
      · rw [args_eq]; exact strA_sound hr hv hl
theorem rdConv_ok {src dst : TypeId} {x : Operand} {f : Opd} {r : Rd} (ho : o.op = .convert src dst x) (hm : mkOp keep al x = some f) (h : rdConv P src dst f = some r) : RdOk P keep al o r := by
  have he : ∀ rf, execOp rf o = (do pure (.value (← convert src dst (rf x)))) := fun rf => by unfold execOp; rw [ho]
  unfold rdConv at h
  rw [bif'_eq] at h
  split at h
  · rename_i hd
    have hd := isUPtr_some hd
    split at h
    · rename_i e hs
      cases h
      refine r1_ok hm (fun ρ s v u w rf hv hr hx => ?_)
      obtain ⟨u', w', h1, rfl, h2⟩ := convQ_sound hr (.inl ⟨rfl, hs, hd⟩) hv hx
      exact ⟨u', by rw [he]; exact run_val h1, h2⟩
    · cases h
  · rw [bif'_eq] at h
    split at h
    · rename_i hs
      have hs := isUPtr_some hs
      split at h
      · rename_i e hd
        cases h
        refine r1_ok hm (fun ρ s v u w rf hv hr hx => ?_)
        obtain ⟨u', w', h1, rfl, h2⟩ := convQ_sound hr (.inr ⟨rfl, hs, hd⟩) hv hx
        exact ⟨u', by rw [he]; exact run_val h1, h2⟩
      · cases h
    · split at h
      · rename_i e hs hd
        split at h
        · rename_i hu
          cases h
          refine r1_ok hm (fun ρ s v u w rf hv hr hx => ?_)
          obtain ⟨u', h1, h2⟩ := convR_sound hr hs hu hd hv hx
          exact ⟨u', by rw [he]; exact run_val h1, h2⟩
        · cases h
      · rename_i e hs hd
        split at h
        · rename_i hu
          replace h := bif'_some h; obtain ⟨_, h⟩ := h
          cases h
          intro lo tm s r hv
          obtain ⟨a, ha, hv⟩ := ob_some hv
          obtain ⟨k, hk, hmade⟩ := convN_made (P := P) hs hd hu hv
          exact ⟨k, hk, fun ρ w rf hρ hR => ⟨_, he rf, hmade hρ (hR x f a (by rw [ho]; simp [Op.operands]) hm ha)⟩⟩
        · cases h
      · rename_i ds d _ _ hs hd
        cases h
        refine v1_ok hm (fun ρ v v' u w rf hv hx hrf => ?_)
        obtain ⟨u', h1, h2⟩ := convP_sound (P := P) w hs hd hv hx
        exact ⟨u', by rw [he, hrf]; exact run_val h1, h2⟩
      · cases h
theorem opts_v {x : Operand} {lo hi mx : Option Operand} {t : TypeId} {f : Opd} {l h m : Option Opd} (ho : o.op = .slice t x lo hi mx) (hx : mkOp keep al x = some f) (hl : mkOpt keep al lo = some l) (hh : mkOpt keep al hi = some h) (hm : mkOpt keep al mx = some m) :
    POk P keep al o (vSlice P t f l h m) := by
  have he : ∀ rf, execOp rf o = (do pure (.value (← Instr.sliceAt t (rf x) (lo.map rf) (hi.map rf) (mx.map rf)))) := fun rf => by unfold execOp; rw [ho]
  refine ⟨fun _ _ _ _ => rfl, fun ρ lo' tm s v w rf hv hR => ?_⟩
  obtain ⟨a, ha, hv⟩ := ob_some hv
  obtain ⟨b, hb, hv⟩ := ob_some hv
  obtain ⟨c, hc, hv⟩ := ob_some hv
  obtain ⟨d, hd, hv⟩ := ob_some hv
  obtain ⟨u, h1, h2⟩ := sliceA_sound w hv (hR x f a (by rw [ho]; simp [Op.operands]) hx ha) (opt_rel hR hl hb (fun y e => by rw [ho, e]; simp [Op.operands])) (opt_rel hR hh hc (fun y e => by rw [ho, e]; simp [Op.operands])) (opt_rel hR hm hd (fun y e => by rw [ho, e]; simp [Op.operands]))
  exact ⟨u, by rw [he]; exact run_val h1, h2⟩
theorem bound_run {name : String} {t : TypeId} {v v' fv : Value} (h : boundM P name t v = some fv) (w : World) : ∃ f, fv = .func (.func f) #[v] #[] ∧ (method (P.types.size + Made.depth) t v' name).run P w = .ok (f, v') w := by
  unfold boundM at h
  split at h
  · rename_i i hi
    have hti : (typeInfo t).run P w = .ok i w := by simp [typeInfo, hi]
    split at h
    · rename_i m hm
      split at h
      · rename_i f p hpath hfunc
        obtain ⟨n, hfu⟩ : ∃ n, P.types.size + Made.depth = n + 1 := ⟨_, rfl⟩
        split at h
        · rename_i e hu
          cases h
          refine ⟨f, rfl, ?_⟩
          rw [hfu]
          unfold method
          simp only [Sem.run_bind, hti, Result.andThen_ok, hm, hpath, follow, Sem.run_pure, hfunc, receiverAt, run_underlying hu, Place.get]
        · cases h
        · rename_i d hne hu
          cases h
          refine ⟨f, rfl, ?_⟩
          rw [hfu]
          unfold method
          simp only [Sem.run_bind, hti, Result.andThen_ok, hm, hpath, follow, Sem.run_pure, hfunc, receiverAt, run_underlying hu, Place.get]
        · cases h
      · cases h
    · cases h
  · cases h
theorem invoke_run {o : Oper} {c : Call} {g : Operand} {name : String} {rf : Operand → Value} {ρ : Ren} {iv fv : Value} (ho : o.op = .call c) (hc : c.callee = .invoke g name) (hg : VRel ρ iv (rf g))
    (h : boundV P name iv = some fv) : ∃ f', VRel ρ fv f' ∧ ∀ w, (execOp rf o).run P w = (callOf f' (c.args.toList.map rf)).run P w := by
  cases iv with
  | iface t v =>
    have h : boundM P name t v = some fv := h
    generalize hrg : rf g = u at hg
    cases hg with | @iface _ _ v' hv => ?_
    obtain ⟨f, rfl, _⟩ := bound_run (v' := v') h default
    refine ⟨.func (.func f) #[v'] #[], .func f (.cons hv .nil) .nil, fun w => ?_⟩
    obtain ⟨f2, he, hm⟩ := bound_run (v' := v') h w
    have hff : f = f2 := by injection he with h1; injection h1
    subst hff
    unfold execOp callOf
    rw [ho]
    have e1 : (#[Value.iface t v'] ++ c.args.map rf)[0]? = some (.iface t v') := by rw [Array.getElem?_append_left (by simp)]; rfl
    have e2 : (#[Value.iface t v'] ++ c.args.map rf).extract 1 (#[Value.iface t v'] ++ c.args.map rf).size = c.args.map rf := by
      apply Array.ext'; simp [List.take_of_length_le]
    have e3 : #[v'] ++ (c.args.toList.map rf).toArray ++ #[] = #[v'] ++ c.args.map rf := by
      apply Array.ext'; simp
    simp only [resolve, hc, hrg, Deferred.ofValue, pure_bind, invoke, e1, e2, e3, callMethod, Sem.run_bind, run_program, Result.andThen_ok, hm]
  | _ => cases h
theorem rdOf_ok {r : Rd} (h : rdOf P keep al o.op = some r) : RdOk P keep al o r := by
  cases ho : o.op <;> rw [ho] at h <;> (try (cases h; done))
  case move x =>
    obtain ⟨f, hf, rfl⟩ := c1_some h
    exact v1_ok hf (fun ρ v v' u w rf hv hx hrf => ⟨v', by unfold execOp; rw [ho]; simp only [hrf, Sem.run_pure], by cases hv; exact hx⟩)
  case assign x =>
    obtain ⟨f, hf, rfl⟩ := c1_some h
    exact v1_ok hf (fun ρ v v' u w rf hv hx hrf => ⟨v', by unfold execOp; rw [ho]; simp only [hrf, Sem.run_pure], by cases hv; exact hx⟩)
  case pick c a b =>
    obtain ⟨f, g, e, hf, hg, he, rfl⟩ := c3_some h
    refine ⟨fun _ _ _ _ => rfl, fun ρ lo tm s v w rf hv hR => ?_⟩
    obtain ⟨x, hx, hv⟩ := ob_some hv
    have hc := hR c f x (by rw [ho]; simp [Op.operands]) hf hx
    unfold pickA at hv
    split at hv
    · rename_i y
      generalize hrc : rf c = cv at hc
      cases hc
      rw [bif'_eq] at hv
      cases y with
      | true =>
        refine ⟨rf a, ?_, hR a g v (by rw [ho]; simp [Op.operands]) hg hv⟩
        unfold execOp; rw [ho]
        simp only [hrc, asBool, Sem.run_bind, Sem.run_pure, Result.andThen_ok, if_true]
      | false =>
        refine ⟨rf b, ?_, hR b e v (by rw [ho]; simp [Op.operands]) he hv⟩
        unfold execOp; rw [ho]
        simp only [hrc, asBool, Sem.run_bind, Sem.run_pure, Result.andThen_ok, Bool.false_eq_true, if_false]
    · cases hv
  case alloc t =>
    cases h
    intro lo tm s r hv
    obtain ⟨k, hk, hm⟩ := allocA_made (P := P) hv
    exact ⟨k, hk, fun ρ w rf hρ hR => ⟨_, by unfold execOp; rw [ho], hm hρ⟩⟩
  case box t x =>
    obtain ⟨f, hf, rfl⟩ := c1_some h
    intro lo tm s r hv
    obtain ⟨a, ha, hv⟩ := ob_some hv
    obtain ⟨k, hk, hm⟩ := boxA_made (P := P) hv
    exact ⟨k, hk, fun ρ w rf hρ hR => ⟨_, by unfold execOp; rw [ho], hm hρ (hR x f a (by rw [ho]; simp [Op.operands]) hf ha)⟩⟩
  case build t ps =>
    obtain ⟨fs, hf, rfl⟩ := cl_some h
    refine vl_ok hf (fun ρ l u w rf hv hl => ?_)
    obtain ⟨u', h1, h2⟩ := buildA_sound w hv hl
    rw [← parts_eq] at h1
    exact ⟨u', by unfold execOp; rw [ho]; exact run_val h1, h2⟩
  case buildSlice t n ps =>
    obtain ⟨fs, hf, rfl⟩ := cl_some h
    intro lo tm s r hv
    obtain ⟨l, hl, hv⟩ := ob_some hv
    obtain ⟨k, hk, hm⟩ := buildSliceA_made (P := P) hv
    refine ⟨k, hk, fun ρ w rf hρ hR => ⟨Instr.buildSlice t n (ps.map fun (i, x) => (i, rf x)), by unfold execOp; rw [ho], ?_⟩⟩
    rw [parts_eq]
    exact hm hρ (hR.list (by rw [ho]; simp [Op.operands]) hf hl)
  case load t a =>
    obtain ⟨f, hf, rfl⟩ := c1_some h
    refine r1_ok hf (fun ρ s v u w rf hv hr hx => ?_)
    rw [loadF_eq] at hv
    obtain ⟨u', h1, h2⟩ := loadV_sound hr hv hx
    exact ⟨u', by unfold execOp; rw [ho]; exact run_val h1, h2⟩
  case store t a x =>
    obtain ⟨f, g, hf, hg, rfl⟩ := c2_some h
    exact s2_ok hf hg (fun ρ s a' x' r w rf hv hr ha hx => givesU_next (m := Instr.storeAt t (rf a) (rf x)) (by unfold execOp; rw [ho]) (storeA_sound hr (by rw [storeF_eq] at hv; exact hv) ha hx))
  case nilCheck x =>
    obtain ⟨f, hf, rfl⟩ := c1_some h
    exact v1_ok hf (fun ρ v v' u w rf hv hx hrf => nilOk_sound ho w hv hx hrf)
  case binOp op t x y c =>
    obtain ⟨f, g, hf, hg, rfl⟩ := c2_some h
    refine v2_ok hf hg (fun ρ a b u w rf hv ha hb => ?_)
    rw [bin2F_eq] at hv
    obtain ⟨h1, h2⟩ := bin2_sound (P := P) (ox := x) (oy := y) w (fun hc => by
      rw [bif'_eq] at hc
      split at hc
      · exact .inl ‹_›
      · exact .inr hc) hv ha hb
    exact ⟨u, by unfold execOp; rw [ho]; exact run_val h1, h2⟩
  case unOp op t x =>
    obtain ⟨f, hf, rfl⟩ := c1_some h
    refine v1_ok hf (fun ρ v v' u w rf hv hx hrf => ?_)
    obtain ⟨h1, h2⟩ := unA_sound (P := P) w hv hx
    exact ⟨u, by unfold execOp; rw [ho, ]; simp only [hrf]; exact run_val h1, h2⟩
  case convert a b x =>
    obtain ⟨f, hf, h⟩ := ob_some h
    exact rdConv_ok ho hf h
  case makeInterface t x =>
    change (match P.underlying t with | some (.interface _) => none | some _ => c1 keep al x fun x => Rd.p (v1 x fun v => some (.iface t v)) | none => none) = some r at h
    split at h
    · cases h
    · rename_i d hne hu
      obtain ⟨f, hf, rfl⟩ := c1_some h
      refine v1_ok hf (fun ρ v v' u w rf hv hx hrf => ?_)
      cases hv
      refine ⟨.iface t v', ?_, .iface t hx⟩
      unfold execOp; rw [ho]
      simp only [hrf]
      refine run_val ?_
      simp only [Instr.makeInterface, Sem.run_bind, run_underlying hu, Result.andThen_ok]
      cases d <;> first | rfl | exact (hne _ rfl).elim
    · cases h
  case makeFunc fn a b =>
    obtain ⟨fa, hfa, h⟩ := ob_some h
    obtain ⟨fb, hfb, h⟩ := ob_some h
    cases h
    refine ⟨fun _ _ _ _ => rfl, fun ρ lo tm s v w rf hv hR => ?_⟩
    obtain ⟨la, hla, hv⟩ := ob_some hv
    replace hv := ob_some hv; obtain ⟨lb, hlb, hv⟩ := hv
    have hfn : ∃ fi, fn = .func fi ∧ v = .func (.func fi) ⟨la⟩ ⟨lb⟩ := by
      cases fn <;> first | (cases hv; done) | (cases hv; exact ⟨_, rfl, rfl⟩)
    obtain ⟨fi, rfl, rfl⟩ := hfn
    refine ⟨.func (.func fi) (a.map rf) (b.map rf), ?_, ?_⟩
    · unfold execOp; rw [ho]; rfl
    · have h1 := hR.list (by rw [ho]; simp [Op.operands]; grind) hfa hla
      have h2 := hR.list (by rw [ho]; simp [Op.operands]; grind) hfb hlb
      rw [← Array.toList_map] at h1 h2
      exact .func _ h1 h2
  case makeMap t r' =>
    cases r' with
    | some x => cases h
    | none =>
      obtain ⟨ke, hke, h⟩ := ob_some h
      cases h
      intro lo tm s r hv
      obtain ⟨s', hs', hv⟩ := ob_some hv
      cases hv
      exact ⟨_, hs', fun ρ w rf hρ hR => ⟨_, by unfold execOp; rw [ho]; rfl, makeMapA_made⟩⟩
  case makeSlice t l c =>
    obtain ⟨f, g, hf, hg, rfl⟩ := c2_some h
    intro lo tm s r hv
    obtain ⟨a, ha, hv⟩ := ob_some hv
    obtain ⟨b, hb, hv⟩ := ob_some hv
    obtain ⟨k, hk, hm⟩ := makeSliceA_made (P := P) hv
    exact ⟨k, hk, fun ρ w rf hρ hR => ⟨_, by unfold execOp; rw [ho], hm hρ (hR l f a (by rw [ho]; simp [Op.operands]) hf ha) (hR c g b (by rw [ho]; simp [Op.operands]) hg hb)⟩⟩
  case slice t x lo hi mx =>
    obtain ⟨f, hf, h⟩ := ob_some h
    obtain ⟨a, ha, h⟩ := ob_some h
    obtain ⟨b, hb, h⟩ := ob_some h
    obtain ⟨c, hc, h⟩ := ob_some h
    cases h
    exact opts_v ho hf ha hb hc
  case fieldAddr t x fl =>
    obtain ⟨f, hf, rfl⟩ := c1_some h
    refine v1_ok hf (fun ρ v v' u w rf hv hx hrf => ?_)
    rw [fieldAddrF_eq] at hv
    obtain ⟨u', h1, h2⟩ := fieldAddrA_sound (P := P) w hv hx
    exact ⟨u', by unfold execOp; rw [ho]; simp only [hrf]; exact run_val h1, h2⟩
  case field t x fl =>
    obtain ⟨f, hf, rfl⟩ := c1_some h
    refine v1_ok hf (fun ρ v v' u w rf hv hx hrf => ?_)
    obtain ⟨u', h1, h2⟩ := fieldA_sound (P := P) w hv hx
    exact ⟨u', by unfold execOp; rw [ho]; simp only [hrf]; exact run_val h1, h2⟩
  case indexAddr t x i =>
    obtain ⟨f, g, hf, hg, rfl⟩ := c2_some h
    refine v2_ok hf hg (fun ρ a b u w rf hv ha hb => ?_)
    rw [indexAddrF_eq] at hv
    obtain ⟨u', h1, h2⟩ := indexAddrA_sound (P := P) w hv ha hb
    exact ⟨u', by unfold execOp; rw [ho]; exact run_val h1, h2⟩
  case index t x i =>
    obtain ⟨f, g, hf, hg, rfl⟩ := c2_some h
    refine v2_ok hf hg (fun ρ a b u w rf hv ha hb => ?_)
    obtain ⟨u', h1, h2⟩ := indexA_sound (P := P) w hv ha hb
    exact ⟨u', by unfold execOp; rw [ho]; exact run_val h1, h2⟩
  case lookup t x i ok =>
    obtain ⟨f, g, hf, hg, rfl⟩ := c2_some h
    refine r2_ok hf hg (fun ρ s a b u w rf hv hr ha hb => ?_)
    obtain ⟨u', h1, h2⟩ := lookupA_sound hr hv hb ha
    exact ⟨u', by unfold execOp; rw [ho]; exact run_val h1, h2⟩
  case mapUpdate t m i x =>
    obtain ⟨f, g, e, hf, hg, he, rfl⟩ := c3_some h
    exact s3_ok hf hg he (fun ρ s a b c r w rf hv hr ha hb hc => givesU_next (m := Instr.mapUpdate t (rf m) (rf i) (rf x)) (by unfold execOp; rw [ho]) (mapUpdateA_sound hr hv ha hb hc))
  case insert t m i x =>
    obtain ⟨f, g, e, hf, hg, he, rfl⟩ := c3_some h
    exact s3_ok hf hg he (fun ρ s a b c r w rf hv hr ha hb hc => givesU_next (m := Instr.mapUpdate t (rf m) (rf i) (rf x)) (by unfold execOp; rw [ho]) (mapUpdateA_sound hr hv ha hb hc))
  case mapEntry t m i =>
    obtain ⟨f, g, hf, hg, rfl⟩ := c2_some h
    exact s2_ok hf hg (fun ρ s a b r w rf hv hr ha hb => gives_next (m := Instr.mapEntry t (rf m) (rf i)) (by unfold execOp; rw [ho]) (mapEntryA_sound hr hv ha hb))
  case entryStore t m st x =>
    obtain ⟨f, g, e, hf, hg, he, rfl⟩ := c3_some h
    exact s3_ok hf hg he (fun ρ s a b c r w rf hv hr ha hb hc => givesU_next (m := Instr.entryStore t (rf m) (rf st) (rf x)) (by unfold execOp; rw [ho]) (entryStoreA_sound hr hv ha hb hc))
  case range t x =>
    obtain ⟨f, hf, rfl⟩ := c1_some h
    exact s1_ok hf (fun ρ s a r w rf hv hr ha => gives_next (m := Instr.range t (rf x)) (by unfold execOp; rw [ho]) (rangeA_sound hr hv ha))
  case next x b =>
    cases b with
    | false => cases h
    | true =>
      obtain ⟨f, hf, rfl⟩ := c1_some h
      exact s1_ok hf (fun ρ s a r w rf hv hr ha => gives_next (m := Instr.next (rf x) true o.type) (by unfold execOp; rw [ho]) (nextA_sound hr hv ha))
  case extract x i =>
    obtain ⟨f, hf, rfl⟩ := c1_some h
    refine v1_ok hf (fun ρ v v' u w rf hv hx hrf => ?_)
    obtain ⟨u', h1, h2⟩ := extractA_sound (P := P) w hv hx
    exact ⟨u', by unfold execOp; rw [ho]; simp only [hrf]; exact run_val h1, h2⟩
  case call c =>
    change (match c.callee with
      | .value f => ob (mkOp keep al f) fun f => cl keep al c.args.toList fun as => Rd.c f as
      | .builtin b => ob (mkOps keep al c.args.toList) fun as => rdBuiltin P (shareHint keep c.args.toList) b c.argTypes as
      | .invoke r name => ob (mkOp keep al r) fun r => cl keep al c.args.toList fun as => Rd.c (methodO P name r) as) = some r at h
    split at h
    · rename_i g hc
      obtain ⟨f, hf, h⟩ := ob_some h
      obtain ⟨as, has, rfl⟩ := cl_some h
      refine ⟨c, ho, has, fun ρ lo tm fv rf hv hops => ⟨rf g, hops _ _ _ (by simp [ho, Op.operands, Call.operands, hc]) hf hv, fun w => ?_⟩⟩
      have : execOp rf o = callOf (rf g) (c.args.toList.map rf) := by
        unfold execOp
        rw [ho]
        simp only [resolve, hc, callOf]
        rw [args_eq]
      rw [this]
    · rename_i b hc
      obtain ⟨as, has, h⟩ := ob_some h
      exact rdBuiltin_ok ho hc has h
    · rename_i g name hc
      obtain ⟨f, hf, h⟩ := ob_some h
      obtain ⟨as, has, rfl⟩ := cl_some h
      refine ⟨c, ho, has, fun ρ lo tm fv rf hv hops => ?_⟩
      obtain ⟨iv, hiv, hv⟩ := ob_some hv
      have hg := hops _ _ _ (by simp [ho, Op.operands, Call.operands, hc]) hf hiv
      exact invoke_run ho hc hg hv
end
end Go.Eng
