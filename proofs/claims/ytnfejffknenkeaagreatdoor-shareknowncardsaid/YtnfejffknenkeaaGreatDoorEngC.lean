import Derived.Test.YtnfejffknenkeaaGreatDoorEngB
import Derived.RangeFuncIn
import Derived.RangeFuncLeaves
import Derived.RangeFuncRecord
set_option linter.unusedVariables false
set_option linter.unusedSimpArgs false
/- An evaluator of the code of the model, proved: what it answers, the program does, whatever the world. Part of the proof of ShareKnown. -/
/-! Operands, destinations, regions in their order. -/
namespace Go.Eng
open Go
variable {P : Program}
/-- what the evaluator's temporaries tell of the model's. -/
structure EnvOk (keep nt : Nat) (ρ : Ren) (tm : T Value) (a : Act) : Prop where
  size : nt ≤ a.tmps.size
  tk : ∀ t v, tm.get t = some v → kept keep t = true
  env : EnvT ρ tm a.tmps
structure Inv (keep nt : Nat) (al : Al) (ρ : Ren) (lo : Lo) (tm : T Value) (a : Act) : Prop extends EnvOk keep nt ρ tm a where
  lo : ∀ t v, (∀ p ∈ al, p.1 ≠ t) → kept keep t = false → Lo.get t lo = some v → ∃ u, a.tmps[t]? = some u ∧ VRel ρ v u
  al : ∀ p ∈ al, kept keep p.1 = false ∧ p.1 < nt ∧ ((∃ g : Nat, p.2 = .const (.complex .f32 g 0)) ∨ (a.tmps[p.1]? = some (a.eval p.2) ∧ ((∃ c, p.2 = .const c) ∨ ∃ x, p.2 = .tmp x ∧ ∀ q ∈ al, q.1 ≠ x)))
theorem EnvOk.mono {keep nt : Nat} {ρ ρ' : Ren} {tm : T Value} {a : Act} (h : EnvOk keep nt ρ tm a) (hle : RenLe ρ ρ') : EnvOk keep nt ρ' tm a := ⟨h.size, h.tk, h.env.mono hle⟩
theorem Inv.mono {keep nt : Nat} {al : Al} {ρ ρ' : Ren} {lo : Lo} {tm : T Value} {a : Act} (h : Inv keep nt al ρ lo tm a) (hle : RenLe ρ ρ') : Inv keep nt al ρ' lo tm a :=
  { h.toEnvOk.mono hle with lo := fun t v h1 h2 h3 => let ⟨u, hu, hr⟩ := h.lo t v h1 h2 h3; ⟨u, hu, hr.mono hle⟩, al := h.al }
theorem alGet_cons (t : Nat) (p : Nat × Operand) (al : Al) : alGet t (p :: al) = bif' (Nat.beq p.1 t) (some p.2) (alGet t al) := rfl
theorem alGet_some {t : Nat} {y : Operand} : ∀ {al : Al}, alGet t al = some y → (t, y) ∈ al := by
  intro al
  induction al with
  | nil => intro h; cases h
  | cons p al ih =>
    intro h
    rw [alGet_cons, bif'_eq] at h
    split at h
    · rename_i hb
      cases h
      have := Nat.eq_of_beq_eq_true hb
      subst this
      simp
    · exact List.mem_cons_of_mem _ (ih h)
theorem alGet_none {t : Nat} : ∀ {al : Al}, alGet t al = none → ∀ p ∈ al, p.1 ≠ t := by
  intro al
  induction al with
  | nil => intro _ p hp; cases hp
  | cons p al ih =>
    intro h q hq
    rw [alGet_cons, bif'_eq] at h
    split at h
    · cases h
    · rename_i hb
      rcases List.mem_cons.1 hq with rfl | hq
      · intro e; exact hb (by rw [e]; exact Nat.beq_refl _)
      · exact ih h q hq
theorem lo_cons (t t' : Nat) (v : Value) (r : Lo) : Lo.get t (.cons t' v r) = bif' (Nat.beq t t') (some v) (Lo.get t r) := rfl
theorem eval_tmp {a : Act} {t : Nat} {u : Value} (h : a.tmps[t]? = some u) : a.eval (.tmp t) = u := by
  show a.tmps.getD t undef = u
  rw [Array.getD_eq_getD_getElem?, h]; rfl
theorem plainConst_rel {ρ : Ren} {v v' : Value} (h : plainConst v = some v') : VRel ρ v' v := by
  unfold plainConst at h
  split at h <;> cases h
  · exact .bool _
  · exact .int _ _
  · exact .string _
  · exact .ptrNil
  · exact .sliceNil
  · exact .mapNil
  · exact .nilFunc
  · exact .nilIface
theorem mkOp0_rel {keep nt : Nat} {al : Al} {ρ : Ren} {lo : Lo} {tm : T Value} {a : Act} (hI : Inv keep nt al ρ lo tm a) {y : Operand} {f : Opd} {v : Value} (hm : mkOp0 keep y = some f) (hv : f lo tm = some v)
    (hy : ∀ x, y = .tmp x → ∀ q ∈ al, q.1 ≠ x) : VRel ρ v (a.eval y) := by
  unfold mkOp0 at hm
  split at hm
  · rename_i t
    rw [bif'_eq] at hm
    split at hm
    · cases hm
      obtain ⟨u, hu, hr⟩ := hI.env t v hv
      rw [eval_tmp hu]; exact hr
    · rename_i hk
      cases hm
      obtain ⟨u, hu, hr⟩ := hI.lo t v (hy t rfl) (by simpa using hk) hv
      rw [eval_tmp hu]; exact hr
  · split at hm
    · rename_i hc
      cases hm
      cases hv
      exact plainConst_rel hc
    · cases hm; cases hv
  · cases hm; cases hv
    exact .glob _ 0
  · cases hm; cases hv
    exact .func _ .nil .nil
theorem Inv.ops {keep nt : Nat} {al : Al} {ρ : Ren} {lo : Lo} {tm : T Value} {a : Act} (hI : Inv keep nt al ρ lo tm a) {ops : Array Operand} : OpsRel ρ keep al lo tm a.eval ops := by
  intro x f v _ hm hv
  unfold mkOp alUsed at hm
  split at hm
  · rename_i t
    split at hm
    · rename_i y hy
      obtain ⟨h1, h2, h3⟩ := hI.al _ (alGet_some hy)
      rcases h3 with ⟨g, hg⟩ | ⟨h3, h4⟩
      · simp only at hg; subst hg; cases hm; cases hv
      · simp only at h3 h4
        rw [eval_tmp h3]
        refine mkOp0_rel hI hm hv (fun x hx => ?_)
        rcases h4 with ⟨c, hc⟩ | ⟨x', hx', h5⟩
        · rw [hc] at hx; cases hx
        · rw [hx'] at hx; cases hx; exact h5
    · rename_i hy
      exact mkOp0_rel hI hm hv (fun x hx => by cases hx; exact alGet_none hy)
  · rename_i hne
    exact mkOp0_rel hI hm hv (fun x hx => (hne x hx).elim)
theorem alDrop_mem {d : Nat} : ∀ {al : Al} {p : Nat × Operand}, p ∈ alDrop d al → p.1 ≠ d ∧ ((∃ y, (p.1, y) ∈ al ∧ p.2 = .const (.complex .f32 0 0)) ∨ (p ∈ al ∧ p.2 ≠ .tmp d)) := by
  intro al
  induction al with
  | nil => intro p h; cases h
  | cons q al ih =>
    intro p h
    have h' : p ∈ bif' (Nat.beq q.1 d) (alDrop d al) (bif' (isTmp d q.2) ((q.1, .const (.complex .f32 0 0)) :: alDrop d al) (q :: alDrop d al)) := h
    have up : p ∈ alDrop d al → p.1 ≠ d ∧ ((∃ y, (p.1, y) ∈ q :: al ∧ p.2 = .const (.complex .f32 0 0)) ∨ (p ∈ q :: al ∧ p.2 ≠ .tmp d)) := fun h => by
      obtain ⟨h1, h2⟩ := ih h
      refine ⟨h1, ?_⟩
      rcases h2 with ⟨y, h2, h3⟩ | ⟨h2, h3⟩
      · exact .inl ⟨y, List.mem_cons_of_mem _ h2, h3⟩
      · exact .inr ⟨List.mem_cons_of_mem _ h2, h3⟩
    rw [bif'_eq] at h'
    split at h'
    · exact up h'
    · rename_i hq
      have hqd : q.1 ≠ d := fun e => hq (by rw [e]; exact Nat.beq_refl _)
      rw [bif'_eq] at h'
      split at h'
      · rcases List.mem_cons.1 h' with rfl | h'
        · exact ⟨hqd, .inl ⟨q.2, by simp, rfl⟩⟩
        · exact up h'
      · rename_i hs
        rcases List.mem_cons.1 h' with rfl | h'
        · refine ⟨hqd, .inr ⟨by simp, fun e => hs (by rw [e]; exact Nat.beq_refl d)⟩⟩
        · exact up h'
theorem alDrop_keys {d : Nat} {t : Nat} : ∀ {al : Al}, (∀ p ∈ alDrop d al, p.1 ≠ t) → t ≠ d → ∀ p ∈ al, p.1 ≠ t := by
  intro al
  induction al with
  | nil => intro _ _ p hp; cases hp
  | cons q al ih =>
    intro h hd p hp
    have h' : ∀ p ∈ bif' (Nat.beq q.1 d) (alDrop d al) (bif' (isTmp d q.2) ((q.1, .const (.complex .f32 0 0)) :: alDrop d al) (q :: alDrop d al)), p.1 ≠ t := h
    rw [bif'_eq] at h'
    split at h'
    · rename_i hq
      have hq := Nat.eq_of_beq_eq_true hq
      rcases List.mem_cons.1 hp with rfl | hp
      · rw [hq]; exact hd.symm
      · exact ih h' hd p hp
    · rw [bif'_eq] at h'
      split at h'
      · rcases List.mem_cons.1 hp with rfl | hp
        · exact h' (p.1, .const (.complex .f32 0 0)) (List.mem_cons_self ..)
        · exact ih (fun p hp => h' p (List.mem_cons_of_mem _ hp)) hd p hp
      · rcases List.mem_cons.1 hp with rfl | hp
        · exact h' _ (List.mem_cons_self ..)
        · exact ih (fun p hp => h' p (List.mem_cons_of_mem _ hp)) hd p hp
theorem get_put_ne {a : Act} {d t : Nat} {u : Value} (h : t ≠ d) : (a.put (some d) u).tmps[t]? = a.tmps[t]? := by
  simp [Act.put, Ne.symm h]
theorem get_put_eq {a : Act} {d : Nat} {u : Value} (h : d < a.tmps.size) : (a.put (some d) u).tmps[d]? = some u := by
  simp [Act.put, h]
theorem eval_put_ne {a : Act} {d : Nat} {u : Value} {y : Operand} (h : y ≠ .tmp d) : (a.put (some d) u).eval y = a.eval y := by
  cases y with
  | tmp t =>
    have : t ≠ d := fun e => h (by rw [e])
    simp [Act.eval, Act.put, Ne.symm this]
  | const v => rfl
  | global g => rfl
  | func f => rfl
/-- the old entries, behind a write. -/
theorem Inv.al_put {keep nt : Nat} {al : Al} {ρ : Ren} {lo : Lo} {tm : T Value} {a : Act} (hI : Inv keep nt al ρ lo tm a) {d : Nat} {u : Value} :
    ∀ p ∈ alDrop d al, kept keep p.1 = false ∧ p.1 < nt ∧ ((∃ g : Nat, p.2 = .const (.complex .f32 g 0)) ∨ ((a.put (some d) u).tmps[p.1]? = some ((a.put (some d) u).eval p.2) ∧ ((∃ c, p.2 = .const c) ∨ ∃ x, p.2 = .tmp x ∧ x ≠ d ∧ ∀ q ∈ al, q.1 ≠ x))) := by
  intro p hp
  obtain ⟨h1, h2⟩ := alDrop_mem hp
  rcases h2 with ⟨y, h2, h3⟩ | ⟨h2, h3⟩
  · obtain ⟨q1, q2, _⟩ := hI.al _ h2
    exact ⟨q1, q2, .inl ⟨0, h3⟩⟩
  · obtain ⟨q1, q2, q3⟩ := hI.al _ h2
    refine ⟨q1, q2, ?_⟩
    rcases q3 with q3 | ⟨q3, q4⟩
    · exact .inl q3
    · refine .inr ⟨by rw [get_put_ne h1, eval_put_ne h3]; exact q3, ?_⟩
      rcases q4 with q4 | ⟨x, q4, q5⟩
      · exact .inl q4
      · exact .inr ⟨x, q4, fun e => h3 (by rw [q4, e]), q5⟩
theorem drop_src {al : Al} {d x : Nat} (h : ∀ q ∈ al, q.1 ≠ x) : ∀ q ∈ alDrop d al, q.1 ≠ x := by
  intro q hq
  rcases (alDrop_mem hq).2 with ⟨y, h2, _⟩ | ⟨h2, _⟩
  · exact h (q.1, y) h2
  · exact h q h2
noncomputable def alPut (dst : Option Tmp) (al : Al) : Al := match dst with | some d => alDrop d al | none => al
/-- A VALUE IS PUT WHERE IT BELONGS. -/
theorem putD_ok {keep nt : Nat} {al : Al} {ρ ρ' : Ren} {lo : Lo} {tm : T Value} {a : Act} (hI : Inv keep nt al ρ lo tm a) (hle : RenLe ρ ρ') {dst : Option Tmp} {d : DI} (hd : mkDst keep nt dst = some d) {v u : Value} (hv : VRel ρ' v u)
    {k : K} {s : AS} {x : XExit} {tm' : T Value} {s' : AS} (h : putD d v k lo tm s = .code x tm' s') :
    ∃ lo1 tm1, k lo1 tm1 s = .code x tm' s' ∧ Inv keep nt (alPut dst al) ρ' lo1 tm1 (a.put dst u) := by
  unfold mkDst at hd
  split at hd
  · cases hd
    exact ⟨lo, tm, h, hI.mono hle⟩
  · rename_i t
    obtain ⟨hlt, hd⟩ := bif'_some hd
    have hlt : t < nt := Nat.le_of_ble_eq_true hlt
    have hsz : t < a.tmps.size := Nat.lt_of_lt_of_le hlt hI.size
    have hI' := hI.mono hle
    have hsize : nt ≤ (a.put (some t) u).tmps.size := by simp [Act.put]; exact hI.size
    have hal : ∀ p ∈ alDrop t al, kept keep p.1 = false ∧ p.1 < nt ∧ ((∃ g : Nat, p.2 = .const (.complex .f32 g 0)) ∨ ((a.put (some t) u).tmps[p.1]? = some ((a.put (some t) u).eval p.2) ∧ ((∃ c, p.2 = .const c) ∨ ∃ x, p.2 = .tmp x ∧ ∀ q ∈ alDrop t al, q.1 ≠ x))) := fun p hp => by
      obtain ⟨h1, h2, h3⟩ := hI'.al_put (u := u) p hp
      refine ⟨h1, h2, ?_⟩
      rcases h3 with h3 | ⟨h3, h4⟩
      · exact .inl h3
      · refine .inr ⟨h3, ?_⟩
        rcases h4 with h4 | ⟨x, h4, _, h5⟩
        · exact .inl h4
        · exact .inr ⟨x, h4, drop_src h5⟩
    rw [bif'_eq] at hd
    split at hd
    · rename_i hk
      cases hd
      have h' : Option.rec (motive := fun _ => Out) .no (fun tm' => k lo tm' s) (T.put (some v) tm t) = .code x tm' s' := h
      cases hp : T.put (some v) tm t with
      | none => rw [hp] at h'; cases h'
      | some tm1 =>
        rw [hp] at h'
        have hg := T.get_put _ _ _ _ hp
        refine ⟨lo, tm1, h', ⟨⟨hsize, fun t' w hw => ?_, fun t' w hw => ?_⟩, fun t' w h1 h2 h3 => ?_, hal⟩⟩
        · rw [hg] at hw
          by_cases e : t' = t
          · rw [e]; exact hk
          · rw [if_neg e] at hw; exact hI.tk t' w hw
        · rw [hg] at hw
          by_cases e : t' = t
          · rw [if_pos e] at hw; cases hw
            rw [e]; exact ⟨u, get_put_eq hsz, hv⟩
          · rw [if_neg e] at hw
            obtain ⟨u', hu', hr⟩ := hI'.env t' w hw
            exact ⟨u', by rw [get_put_ne e]; exact hu', hr⟩
        · have e : t' ≠ t := fun e => by rw [e, hk] at h2; cases h2
          obtain ⟨u', hu', hr⟩ := hI'.lo t' w (alDrop_keys h1 e) h2 h3
          exact ⟨u', by rw [get_put_ne e]; exact hu', hr⟩
    · rename_i hk
      cases hd
      have h' : k (.cons t v lo) tm s = .code x tm' s' := h
      refine ⟨.cons t v lo, tm, h', ⟨⟨hsize, hI.tk, fun t' w hw => ?_⟩, fun t' w h1 h2 h3 => ?_, hal⟩⟩
      · have e : t' ≠ t := fun e => by have := hI.tk t' w hw; rw [e] at this; exact hk this
        obtain ⟨u', hu', hr⟩ := hI'.env t' w hw
        exact ⟨u', by rw [get_put_ne e]; exact hu', hr⟩
      · rw [lo_cons, bif'_eq] at h3
        split at h3
        · rename_i e
          have e := Nat.eq_of_beq_eq_true e
          cases h3
          subst e
          exact ⟨u, get_put_eq hsz, hv⟩
        · rename_i e
          have e : t' ≠ t := fun e' => e (by rw [e']; exact Nat.beq_refl _)
          obtain ⟨u', hu', hr⟩ := hI'.lo t' w (alDrop_keys h1 e) h2 h3
          exact ⟨u', by rw [get_put_ne e]; exact hu', hr⟩
end Go.Eng
namespace Go.Eng
open Go
variable {P : Program}
theorem isTmp_false {d : Nat} {y : Operand} (h : isTmp d y = false) : y ≠ .tmp d := fun e => by
  rw [e] at h
  have : Nat.beq d d = false := h
  rw [show Nat.beq d d = true from Nat.beq_refl d] at this
  cases this
/-- a move that is not carried out: the source is looked at instead. -/
theorem Inv.alias {keep nt : Nat} {al : Al} {ρ : Ren} {lo : Lo} {tm : T Value} {a : Act} (hI : Inv keep nt al ρ lo tm a) {d : Nat} {x : Operand} (hx : (∃ t, x = .tmp t) ∨ ∃ c, x = .const c) (hk : kept keep d = false) (hlt : d < nt)
    (hn : isTmp d (alUsed al x) = false) : Inv keep nt ((d, alUsed al x) :: alDrop d al) ρ lo tm (a.put (some d) (a.eval x)) := by
  have hsz : d < a.tmps.size := Nat.lt_of_lt_of_le hlt hI.size
  have hne := isTmp_false hn
  have hsize : nt ≤ (a.put (some d) (a.eval x)).tmps.size := by simp [Act.put]; exact hI.size
  refine ⟨⟨hsize, hI.tk, fun t' w hw => ?_⟩, fun t' w h1 h2 h3 => ?_, fun p hp => ?_⟩
  · have e : t' ≠ d := fun e => by have := hI.tk t' w hw; rw [e, hk] at this; cases this
    obtain ⟨u', hu', hr⟩ := hI.env t' w hw
    exact ⟨u', by rw [get_put_ne e]; exact hu', hr⟩
  · have e : t' ≠ d := fun e => h1 (d, alUsed al x) (List.mem_cons_self ..) e.symm
    obtain ⟨u', hu', hr⟩ := hI.lo t' w (alDrop_keys (fun p hp => h1 p (List.mem_cons_of_mem _ hp)) e) h2 h3
    exact ⟨u', by rw [get_put_ne e]; exact hu', hr⟩
  · have keys : ∀ {x'}, x' ≠ d → (∀ q ∈ al, q.1 ≠ x') → ∀ q ∈ (d, alUsed al x) :: alDrop d al, q.1 ≠ x' := fun {x'} h1 h2 q hq => by
      rcases List.mem_cons.1 hq with rfl | hq
      · exact h1.symm
      · exact drop_src h2 q hq
    rcases List.mem_cons.1 hp with rfl | hp
    · refine ⟨hk, hlt, ?_⟩
      rcases hx with ⟨t, rfl⟩ | ⟨c, rfl⟩
      · unfold alUsed at hne ⊢
        simp only at hne ⊢
        cases hg : alGet t al with
        | none =>
          rw [hg] at hne
          simp only at hne ⊢
          have htd : t ≠ d := fun e => hne (by rw [e])
          refine .inr ⟨by rw [get_put_eq hsz, eval_put_ne hne], .inr ⟨t, rfl, ?_⟩⟩
          intro q hq
          rcases List.mem_cons.1 hq with rfl | hq
          · exact htd.symm
          · exact drop_src (alGet_none hg) q hq
        | some y =>
          rw [hg] at hne
          simp only at hne ⊢
          obtain ⟨_, _, h3⟩ := hI.al _ (alGet_some hg)
          rcases h3 with ⟨g, h3⟩ | ⟨h3, h4⟩
          · exact .inl ⟨g, h3⟩
          · simp only at h3 h4
            refine .inr ⟨by rw [get_put_eq hsz, eval_put_ne hne, eval_tmp h3], ?_⟩
            rcases h4 with h4 | ⟨x', h4, h5⟩
            · exact .inl h4
            · refine .inr ⟨x', h4, ?_⟩
              have hxd : x' ≠ d := fun e => hne (by rw [h4, e])
              intro q hq
              rcases List.mem_cons.1 hq with rfl | hq
              · exact hxd.symm
              · exact drop_src h5 q hq
      · exact .inr ⟨by rw [get_put_eq hsz]; rfl, .inl ⟨c, rfl⟩⟩
    · obtain ⟨h1, h2, h3⟩ := hI.al_put (u := a.eval x) p hp
      refine ⟨h1, h2, ?_⟩
      rcases h3 with h3 | ⟨h3, h4⟩
      · exact .inl h3
      · refine .inr ⟨h3, ?_⟩
        rcases h4 with h4 | ⟨x', h4, h5, h6⟩
        · exact .inl h4
        · exact .inr ⟨x', h4, keys h5 h6⟩

/-! Calls. -/
def CallRun (P : Program) (m : Sem Next) (w : World) (R : Value → World → Prop) : Prop :=
  match m.run P w with
  | .ok (.value u) w' => R u w'
  | .ok (.enter f args) w' => CallsIn Fence.wide 0 P f args w' fun e w'' => ∃ u, e = .returned u ∧ R u w''
  | .ok (.round l f tmps assign body) w' => RoundIn Fence.wide 0 P l f tmps assign body w' fun e w'' => ∃ u, e = .returned u ∧ R u w''
  | _ => False
/-- AN EVALUATOR OF CALLS THAT CAN BE TRUSTED. -/
def EvOk (P : Program) (ev : Ev) : Prop := ∀ f args s v s', ev f args s = .val v s' → ∀ ρ w f' args', Rel P ρ s w → VRel ρ f f' → VRels ρ args args' →
  CallRun P (callOf f' args') w fun u w' => ∃ ρ', VRel ρ' v u ∧ Rel P ρ' s' w' ∧ Stp ρ s w ρ' s' w'
/-- a fence that holds nothing back. -/
def WideF (F : Fence) : Prop := F = Fence.wide ∨ ∃ l, F = Fence.wide.inRound l
theorem CallsIn.wideF {F : Fence} (hF : WideF F) {f : FuncId} {args : Array Value} {w : World} {R : Ending → World → Prop} (h : CallsIn Fence.wide 0 P f args w R) : CallsIn F 0 P f args w R := by
  rcases hF with rfl | ⟨l, rfl⟩
  · exact h
  · exact h
theorem RoundIn.wideF {F : Fence} (hF : WideF F) {l : Nat} {f : FuncId} {tmps : Array Value} {as bd : Code} {w : World} {R : Ending → World → Prop} (h : RoundIn Fence.wide 0 P l f tmps as bd w R) : RoundIn F 0 P l f tmps as bd w R := by
  rcases hF with rfl | ⟨l, rfl⟩
  · exact h
  · exact h
theorem WideF.fn {F : Fence} (hF : WideF F) (f : FuncId) : F.fn f := by
  rcases hF with rfl | ⟨l, rfl⟩ <;> trivial
theorem WideF.depth {F : Fence} (hF : WideF F) : F.depth = none := by
  rcases hF with rfl | ⟨l, rfl⟩ <;> rfl
section
variable {F : Fence} {keep nt : Nat} {al : Al} {ρ : Ren} {lo : Lo} {tm : T Value} {a : Act} {s : AS} {w : World} {o : Oper} {ev : Ev}
/-- what goes on behind an operation. -/
def Goes (P : Program) (keep nt : Nat) (al : Al) (ρ : Ren) (s : AS) (w : World) (a : Act) (k : K) (out : Out) (N : Act → World → Prop) : Prop :=
  ∀ ρ' lo1 tm1 s1 a1 w1, k lo1 tm1 s1 = out → Inv keep nt al ρ' lo1 tm1 a1 → a1.defers = a.defers → Rel P ρ' s1 w1 → Stp ρ s w ρ' s1 w1 → N a1 w1
theorem put_defers' (a : Act) (dst : Option Tmp) (v : Value) : (a.put dst v).defers = a.defers := by cases dst <;> rfl
theorem alAfter_eq (o : Oper) (al : Al) : alAfter o al = alPut o.dst al := rfl
theorem ci_fin (hF : WideF F) (hev : EvOk P ev) {r : Rd} (hr : rdOf P keep al o.op = some r) {d : DI} {k : K} {x : XExit} {tm' : T Value} {s' : AS} (h : runCI ev (ciOf r d) k lo tm s = .code x tm' s')
    (hops : OpsRel ρ keep al lo tm a.eval o.op.operands) (hR : Rel P ρ s w) {N : Act → World → Prop} {Q : Exit → Act → World → Prop}
    (fin : ∀ {ρ' : Ren} {v u : Value} {s1 : AS} {w1 : World}, putD d v k lo tm s1 = .code x tm' s' → VRel ρ' v u → Rel P ρ' s1 w1 → Stp ρ s w ρ' s1 w1 → N (a.put o.dst u) w1) : o.wpIn F 0 P a w N Q := by
  have hrd := rdOf_ok hr
  have hdf : ∀ c, o.op ≠ .defer c := fun c e => by rw [e] at hr; cases hr
  refine ⟨fun f _ => hF.fn f, ?_⟩
  rw [Oper.semAt_eq _ _ _ hdf]
  cases r with
  | p f =>
    have h' : Option.rec (motive := fun _ => Out) .no (fun v => putD d v k lo tm s) (f lo tm s) = .code x tm' s' := h
    cases hv : f lo tm s with
    | none => rw [hv] at h'; cases h'
    | some v =>
      rw [hv] at h'
      obtain ⟨u, hu, hvu⟩ := hrd.2 ρ lo tm s v w a.eval hv hops
      rw [hu]
      exact fin h' hvu hR (.refl _ _ _)
  | r f =>
    have h' : Option.rec (motive := fun _ => Out) .no (fun v => putD d v k lo tm s) (f lo tm s) = .code x tm' s' := h
    cases hv : f lo tm s with
    | none => rw [hv] at h'; cases h'
    | some v =>
      rw [hv] at h'
      obtain ⟨u, hu, hvu⟩ := hrd ρ lo tm s v w a.eval hv hR hops
      rw [hu]
      exact fin h' hvu hR (.refl _ _ _)
  | a f =>
    have h' : Option.rec (motive := fun _ => Out) .no (fun p => putD d p.1 k lo tm p.2) (f lo tm s) = .code x tm' s' := h
    cases hv : f lo tm s with
    | none => rw [hv] at h'; cases h'
    | some r =>
      rw [hv] at h'
      obtain ⟨b, hb, hm⟩ := hrd lo tm s r hv
      obtain ⟨m, he, hmade⟩ := hm ρ w a.eval (hR.dom _ (Nat.le_refl _)) hops
      obtain ⟨ρ', u, w', h1, h2, h3, h4⟩ := hmade.gives hR hb
      rw [he, run_val h1]
      exact fin h' h2 h3 h4
  | w f =>
    have h' : Option.rec (motive := fun _ => Out) .no (fun p => putD d p.1 k lo tm p.2) (f lo tm s) = .code x tm' s' := h
    cases hv : f lo tm s with
    | none => rw [hv] at h'; cases h'
    | some r =>
      rw [hv] at h'
      obtain ⟨ρ', nx, w', h1, h2, h3, h4⟩ := hrd ρ lo tm s r w a.eval hv hR hops
      rw [h1]
      rcases h2 with ⟨u, rfl, hu⟩ | ⟨rfl, he⟩
      · exact fin h' hu h3 h4
      · exact fin h' (by rw [he]; exact .tuple .nil) h3 h4
  | c f as =>
    obtain ⟨c, ho, has, hcl⟩ := hrd
    have h' : Option.rec (motive := fun _ => Out) .no (fun l => Option.rec (motive := fun _ => Out) .no (fun f => afterCall d k lo tm (ev f l s)) (f lo tm)) (opvs as lo tm) = .code x tm' s' := h
    cases hl : opvs as lo tm with
    | none => rw [hl] at h'; cases h'
    | some l =>
      cases hv : f lo tm with
      | none => rw [hl, hv] at h'; cases h'
      | some fv =>
        rw [hl, hv] at h'
        have h' : afterCall d k lo tm (ev fv l s) = .code x tm' s' := h'
        cases he : ev fv l s with
        | no => rw [he] at h'; cases h'
        | code => rw [he] at h'; cases h'
        | val v s1 =>
          rw [he] at h'
          have h' : putD d v k lo tm s1 = .code x tm' s' := h'
          obtain ⟨g, hg, hex⟩ := hcl ρ lo tm fv a.eval hv hops
          have hcall := hev _ _ _ _ _ he ρ w _ _ hR hg (hops.list (by simp [ho, Op.operands, Call.operands] <;> grind) has hl)
          rw [hex w]
          unfold CallRun at hcall
          generalize (callOf g (c.args.toList.map a.eval)).run P w = res at hcall
          cases res with
          | halt => exact hcall.elim
          | ok nx w1 =>
            cases nx with
            | value u =>
              obtain ⟨ρ', h1, h2, h3⟩ := hcall
              exact fin h' h1 h2 h3
            | enter f args =>
              refine ⟨fun hd => (by rw [hF.depth] at hd; cases hd), CallsIn.mono (CallsIn.wideF hF hcall) ?_⟩
              rintro e w2 ⟨u, rfl, ρ', h1, h2, h3⟩
              exact fin h' h1 h2 h3
            | round l f tmps as bd =>
              refine ⟨fun hd => (by rw [hF.depth] at hd; cases hd), RoundIn.mono (RoundIn.wideF hF hcall) ?_⟩
              rintro e w2 ⟨u, rfl, ρ', h1, h2, h3⟩
              exact fin h' h1 h2 h3
            | _ => exact hcall.elim
theorem ci_ok (hF : WideF F) (hev : EvOk P ev) {r : Rd} (hr : rdOf P keep al o.op = some r) {d : DI} (hd : mkDst keep nt o.dst = some d) {k : K} {x : XExit} {tm' : T Value} {s' : AS} (h : runCI ev (ciOf r d) k lo tm s = .code x tm' s')
    (hI : Inv keep nt al ρ lo tm a) (hR : Rel P ρ s w) {N : Act → World → Prop} {Q : Exit → Act → World → Prop} (hN : Goes P keep nt (alAfter o al) ρ s w a k (.code x tm' s') N) : o.wpIn F 0 P a w N Q :=
  ci_fin hF hev hr h hI.ops hR fun hp hv h1 h2 => by
    obtain ⟨lo1, tm1, hk, hI1⟩ := putD_ok hI (h2.le hR) hd hv hp
    exact hN _ lo1 tm1 _ _ _ hk (by rw [alAfter_eq]; exact hI1) (put_defers' _ _ _) h1 h2
end
end Go.Eng
namespace Go.Eng
open Go
variable {P : Program}
section
variable {F : Fence} {keep nt : Nat} {ev : Ev}
theorem yielded_bool {ops : Array Oper} {tmps : Array Value} {j d : Nat} {o : Oper} {b : Bool} (hj : ops[j]? = some o) (hd : o.dst = some d) (ht : tmps.getD d undef = .bool b) : yielded ops tmps j = some b := by
  unfold yielded
  rw [hj, Option.bind_some, hd, Option.bind_some]
  rw [Array.getD_eq_getD_getElem?] at ht
  cases hq : tmps[d]? with
  | none => rw [hq] at ht; cases ht
  | some v => rw [hq] at ht; simp only [Option.getD_some] at ht; rw [ht]
theorem yielded_tuple {ops : Array Oper} {tmps : Array Value} {j d : Nat} {o : Oper} {c : Array Value} (hj : ops[j]? = some o) (hd : o.dst = some d) (ht : tmps.getD d undef = .tuple c) : yielded ops tmps j = none := by
  unfold yielded
  rw [hj, Option.bind_some, hd, Option.bind_some]
  rw [Array.getD_eq_getD_getElem?] at ht
  cases hq : tmps[d]? with
  | none => rfl
  | some v => rw [hq] at ht; simp only [Option.getD_some] at ht; rw [ht]
/-- the guard's word, and the model's. -/
theorem wantO_ok {all : Array Oper} {al : Al} {ρ : Ren} {lo : Lo} {tm : T Value} {a : Act} {j : Nat} (hops : ∀ d g v, (∃ o', all[j]? = some o' ∧ o'.dst = some d) → mkOp keep al (.tmp d) = some g → g lo tm = some v → VRel ρ v (a.eval (.tmp d))) {o : Oper} {want y : Bool} {g : Opd} (hg : o.guard = some (j, want)) (hm : guardOpd keep al all.toList j = some g)
    (hy : wantO want (g lo tm) = some y) : Region.wanted o (yielded all a.tmps) = y := by
  unfold guardOpd at hm
  split at hm
  · rename_i o' ho'
    split at hm
    · rename_i d hd
      have hj : all[j]? = some o' := by simpa using ho'
      unfold Region.wanted
      rw [hg]
      simp only
      unfold wantO at hy
      split at hy
      · rename_i b hgb
        cases hy
        have hv := hops _ _ _ ⟨o', hj, hd⟩ hm hgb
        have ht : a.tmps.getD d undef = .bool b := by
          have : a.eval (.tmp d) = a.tmps.getD d undef := rfl
          rw [← this]
          generalize a.eval (.tmp d) = u at hv
          cases hv; rfl
        rw [yielded_bool hj hd ht]
        cases b <;> cases want <;> rfl
      · rename_i c hgb
        cases hy
        have hv := hops _ _ _ ⟨o', hj, hd⟩ hm hgb
        have ht : ∃ c', a.tmps.getD d undef = .tuple c' := by
          have : a.eval (.tmp d) = a.tmps.getD d undef := rfl
          rw [← this]
          generalize a.eval (.tmp d) = u at hv
          cases hv; exact ⟨_, rfl⟩
        obtain ⟨c', ht⟩ := ht
        rw [yielded_tuple hj hd ht]
        cases want <;> rfl
      · cases hy
    · cases hm
  · cases hm
/-- one operation, with its guard. -/
theorem op_ok (hF : WideF F) (hev : EvOk P ev) {all : Array Oper} {al : Al} {ρ : Ren} {lo : Lo} {tm : T Value} {a : Act} {s : AS} {w : World} {o : Oper} {i : Nat} (hi : all[i]? = some o) {c : CI} (hc : mkCI P keep nt al all.toList o = some c) {k : K} {x : XExit} {tm' : T Value} {s' : AS}
    (h : runCI ev c k lo tm s = .code x tm' s') (hI : Inv keep nt al ρ lo tm a) (hR : Rel P ρ s w) {rest : List Nat} {Q : Exit → Act → World → Prop}
    (hN : Goes P keep nt (alAfter o al) ρ s w a k (.code x tm' s') (wpOpsIn F 0 P all Q rest)) : wpOpsIn F 0 P all Q (i :: rest) a w := by
  obtain ⟨r, hr, hc⟩ := ob_some hc
  obtain ⟨d, hd, hc⟩ := ob_some hc
  simp only [wpOpsIn, hi]
  unfold withGuard at hc
  split at hc
  · rename_i hg
    cases hc
    have hw : Region.wanted o (yielded all a.tmps) = true := by unfold Region.wanted; rw [hg]
    rw [if_pos hw]
    exact ci_ok hF hev hr hd h hI hR hN
  · rename_i j want hg
    obtain ⟨g, hgo, hc⟩ := ob_some hc
    cases hc
    have h' : ifO (wantO want (g lo tm)) (runCI ev (ciOf r d) k lo tm s) (putD d (.tuple #[]) k lo tm s) = .code x tm' s' := h
    cases hy : wantO want (g lo tm) with
    | none => rw [hy] at h'; cases h'
    | some y =>
      rw [hy] at h'
      have hw := wantO_ok (fun d g v _ hm hv => hI.ops (ops := #[.tmp d]) _ _ _ (by simp) hm hv) hg hgo hy
      cases y with
      | true =>
        rw [if_pos hw]
        exact ci_ok hF hev hr hd h' hI hR hN
      | false =>
        rw [if_neg (by rw [hw]; simp)]
        refine ⟨fun f _ => hF.fn f, ?_⟩
        obtain ⟨lo1, tm1, hk, hI1⟩ := putD_ok (u := undef) hI (RenLe.refl ρ) hd (.tuple .nil) h'
        exact hN ρ lo1 tm1 s _ w hk (by rw [alAfter_eq]; exact hI1) (put_defers' _ _ _) hR (.refl _ _ _)
theorem moveOf_some {o : Oper} {d : Nat} {x : Operand} (h : moveOf o = some (d, x)) : o.guard = none ∧ o.dst = some d ∧ o.op = .move x ∧ ((∃ t, x = .tmp t) ∨ ∃ c, x = .const c) := by
  unfold moveOf at h
  split at h
  · cases h; exact ⟨‹_›, ‹_›, ‹_›, .inl ⟨_, rfl⟩⟩
  · cases h; exact ⟨‹_›, ‹_›, ‹_›, .inr ⟨_, rfl⟩⟩
  · cases h
/-- A REGION IN ITS ORDER. -/
theorem region_ok (hF : WideF F) (hev : EvOk P ev) {all : Array Oper} {x : XExit} {tm' : T Value} {s' : AS} {Q : Exit → Act → World → Prop} : ∀ (rest : List Oper) (i : Nat), all.toList.drop i = rest → ∀ (al : Al) (cs : List CI), mkRegion P keep nt all.toList rest al = some cs →
    ∀ (ρ : Ren) (lo : Lo) (tm : T Value) (s : AS) (a : Act) (w : World), runCIs ev cs kEnd lo tm s = .code x tm' s' → Inv keep nt al ρ lo tm a → Rel P ρ s w →
    (∀ ρ' a' w', x = .normal → EnvOk keep nt ρ' tm' a' → a'.defers = a.defers → Rel P ρ' s' w' → Stp ρ s w ρ' s' w' → Q .normal a' w') → wpOpsIn F 0 P all Q (List.range' i rest.length) a w := by
  intro rest
  induction rest with
  | nil =>
    intro i _ al cs hc ρ lo tm s a w h hI hR hQ
    cases hc
    cases h
    exact hQ ρ a w rfl hI.toEnvOk rfl hR (.refl _ _ _)
  | cons o rest ih =>
    intro i hdrop al cs hc ρ lo tm s a w h hI hR hQ
    have hi : all[i]? = some o := by
      have : all.toList[i]? = some o := by
        have := congrArg (·[0]?) hdrop
        simpa using this
      simpa using this
    have hdrop' : all.toList.drop (i + 1) = rest := by
      rw [← List.drop_drop, hdrop]; rfl
    have step : ∀ {c r}, mkCI P keep nt al all.toList o = some c → mkRegion P keep nt all.toList rest (alAfter o al) = some r → cs = c :: r → wpOpsIn F 0 P all Q (List.range' i (o :: rest).length) a w := by
      intro c r h1 h2 e
      subst e
      have h' : runCI ev c (runCIs ev r kEnd) lo tm s = .code x tm' s' := h
      show wpOpsIn F 0 P all Q (i :: List.range' (i + 1) rest.length) a w
      refine op_ok hF hev hi h1 h' hI hR (fun ρ1 lo1 tm1 s1 a1 w1 hk hI1 hd1 hR1 hS1 => ?_)
      refine ih (i + 1) hdrop' _ _ h2 ρ1 lo1 tm1 s1 a1 w1 hk hI1 hR1 (fun ρ' a' w' hx hE hd hR' hS' => hQ ρ' a' w' hx hE (hd.trans hd1) hR' (hS1.trans hS'))
    have hc' : (match moveOf o with
      | some (d, x) => bif' (bif' (kept keep d) true (bif' (Nat.ble nt d) true (bif' (isTmp d (alUsed al x)) true (writes (alUsed al x) rest)))) (ob (mkCI P keep nt al all.toList o) fun c => ob (mkRegion P keep nt all.toList rest (alAfter o al)) fun r => some (c :: r)) (mkRegion P keep nt all.toList rest ((d, alUsed al x) :: alDrop d al))
      | none => ob (mkCI P keep nt al all.toList o) fun c => ob (mkRegion P keep nt all.toList rest (alAfter o al)) fun r => some (c :: r)) = some cs := hc
    split at hc'
    · rename_i d y hmv
      rw [bif'_eq] at hc'
      split at hc'
      · obtain ⟨c, h1, hc'⟩ := ob_some hc'
        obtain ⟨r, h2, hc'⟩ := ob_some hc'
        cases hc'
        exact step h1 h2 rfl
      · rename_i hcond
        rw [bif'_eq] at hcond
        split at hcond
        · exact (hcond rfl).elim
        · rename_i hk
          rw [bif'_eq] at hcond
          split at hcond
          · exact (hcond rfl).elim
          · rename_i hlt
            have hk : kept keep d = false := by simpa using hk
            have hlt : d < nt := Nat.lt_of_not_le fun h => hlt (Nat.ble_eq_true_of_le h)
            have hnt : isTmp d (alUsed al y) = false := by
              cases ht : isTmp d (alUsed al y) with
              | false => rfl
              | true => rw [ht] at hcond; exact (hcond rfl).elim
            obtain ⟨hg, hd, hop, hxy⟩ := moveOf_some hmv
            show wpOpsIn F 0 P all Q (i :: List.range' (i + 1) rest.length) a w
            simp only [wpOpsIn, hi]
            have hw : Region.wanted o (yielded all a.tmps) = true := by unfold Region.wanted; rw [hg]
            rw [if_pos hw]
            refine ⟨fun f _ => hF.fn f, ?_⟩
            rw [Oper.semAt_eq _ _ _ (fun c e => by rw [hop] at e; cases e)]
            have he : (execOp a.eval o).run P w = .ok (.value (a.eval y)) w := by unfold execOp; rw [hop]; rfl
            rw [he]
            show wpOpsIn F 0 P all Q (List.range' (i + 1) rest.length) (a.put o.dst (a.eval y)) w
            rw [hd]
            have hI' := hI.alias hxy hk hlt hnt
            exact ih (i + 1) hdrop' _ _ hc' ρ lo tm s _ w h hI' hR (fun ρ' a' w' hx hE hd' hR' hS' => hQ ρ' a' w' hx hE (hd'.trans (put_defers' _ _ _)) hR' hS')
    · obtain ⟨c, h1, hc'⟩ := ob_some hc'
      obtain ⟨r, h2, hc'⟩ := ob_some hc'
      cases hc'
      exact step h1 h2 rfl
end
end Go.Eng
/-! Code. -/
namespace Go.Eng
open Go
variable {P : Program}
def toExit : XExit → Exit
  | .normal => .normal
  | .exit id => .exit id
  | .goto l => .goto l
  | .ret => .ret
/-- the deferred calls of a frame: marks of loops alone, that hand over nothing. -/
structure Marks (n0 : Nat) (ρ : Ren) (s : AS) (w : World) (ds : List Deferred) : Prop where
  each : ∀ d ∈ ds, ∃ r, d.target = .collected r ∧ w.heap[r]? = some (.deferred (some [])) ∧ r < w.heap.size ∧ ¬ Held ρ s r ∧ n0 ≤ r
  apart : ds.Pairwise fun d d' => ∀ r, d.target = .collected r → d'.target ≠ .collected r
theorem Marks.step {n0 : Nat} {ρ ρ' : Ren} {s s' : AS} {w w' : World} {ds : List Deferred} (h : Marks n0 ρ s w ds) (hS : Stp ρ s w ρ' s' w') : Marks n0 ρ' s' w' ds := ⟨fun d hd => by
  obtain ⟨r, h1, h2, h3, h4, h5⟩ := h.each d hd
  obtain ⟨e, n⟩ := hS.frame r h3 h4
  exact ⟨r, h1, by rw [e]; exact h2, Nat.lt_of_lt_of_le h3 hS.size, n, h5⟩, h.apart⟩
/-- what a piece of code leaves. -/
def Leaves' (P : Program) (n0 keep nt : Nat) (ρ : Ren) (s : AS) (w : World) (x : XExit) (tm' : T Value) (s' : AS) (Q : Exit → Act → World → Prop) : Prop :=
  ∀ ρ' a' w', EnvOk keep nt ρ' tm' a' → Marks n0 ρ' s' w' a'.defers → Rel P ρ' s' w' → Stp ρ s w ρ' s' w' → Q (toExit x) a' w'
def CFOk (P : Program) (keep nt : Nat) (c : Code) (cf : CF) : Prop := ∀ ev, EvOk P ev → ∀ F, WideF F → ∀ ρ tm s a w x tm' s', cf ev tm s = .code x tm' s' → EnvOk keep nt ρ tm a → ∀ n0, n0 ≤ w.heap.size → Marks n0 ρ s w a.defers → (∀ l, F.round = some l → ∃ r, w.heap[l]? = some (Obj.loop r)) → Rel P ρ s w →
  ∀ Q, Leaves' P n0 keep nt ρ s w x tm' s' Q → c.wpIn F 0 P Q a w
section
variable {keep nt : Nat}
theorem loops_step {F : Fence} {ρ ρ' : Ren} {s s' : AS} {w w' : World} (h : ∀ l, F.round = some l → ∃ r, w.heap[l]? = some (Obj.loop r)) (hS : Stp ρ s w ρ' s' w') : ∀ l, F.round = some l → ∃ r, w'.heap[l]? = some (Obj.loop r) := fun l hl => let ⟨r, hr⟩ := h l hl; hS.lp l r hr
theorem EnvOk.inv {ρ : Ren} {tm : T Value} {a : Act} (h : EnvOk keep nt ρ tm a) : Inv keep nt [] ρ .nil tm a := ⟨h, fun t v _ _ h => (by cases h), fun p hp => (by cases hp)⟩
theorem skip_ok : CFOk P keep nt .skip (fOut .normal) := fun ev hev F hF ρ tm s a w x tm' s' h hE n0 hn0 hM hL hR Q hQ => by
  cases h
  exact wpIn_skip (hQ ρ a w hE hM hR (.refl _ _ _))
theorem label_ok (l : Nat) : CFOk P keep nt (.label l) (fOut .normal) := fun ev hev F hF ρ tm s a w x tm' s' h hE n0 hn0 hM hL hR Q hQ => by
  cases h
  exact wpIn_label (hQ ρ a w hE hM hR (.refl _ _ _))
theorem exit_ok (id : Nat) : CFOk P keep nt (.exit id) (fOut (.exit id)) := fun ev hev F hF ρ tm s a w x tm' s' h hE n0 hn0 hM hL hR Q hQ => by
  cases h
  exact wpIn_exit (hQ ρ a w hE hM hR (.refl _ _ _))
theorem goto_ok (l : Nat) : CFOk P keep nt (.goto l) (fOut (.goto l)) := fun ev hev F hF ρ tm s a w x tm' s' h hE n0 hn0 hM hL hR Q hQ => by
  cases h
  exact wpIn_goto (hQ ρ a w hE hM hR (.refl _ _ _))
theorem ret_ok : CFOk P keep nt .ret (fOut .ret) := fun ev hev F hF ρ tm s a w x tm' s' h hE n0 hn0 hM hL hR Q hQ => by
  cases h
  exact wpIn_ret (hQ ρ a w hE hM hR (.refl _ _ _))
theorem seq_ok {x y : Code} {f g : CF} (hf : CFOk P keep nt x f) (hg : CFOk P keep nt y g) : CFOk P keep nt (.seq x y) (fSeq f g) := fun ev hev F hF ρ tm s a w e tm' s' h hE n0 hn0 hM hL hR Q hQ => by
  have h : seqOut (g ev) (f ev tm s) = .code e tm' s' := h
  refine wpIn_seq ?_
  cases ho : f ev tm s with
  | no => rw [ho] at h; cases h
  | val => rw [ho] at h; cases h
  | code e1 tm1 s1 =>
    rw [ho] at h
    refine hf ev hev F hF ρ tm s a w e1 tm1 s1 ho hE n0 hn0 hM hL hR _ (fun ρ1 a1 w1 hE1 hM1 hR1 hS1 => ?_)
    cases e1 with
    | normal =>
      exact hg ev hev F hF ρ1 tm1 s1 a1 w1 e tm' s' h hE1 n0 (Nat.le_trans hn0 hS1.size) hM1 (loops_step hL hS1) hR1 Q (fun ρ2 a2 w2 h1 h2 h3 h4 => hQ ρ2 a2 w2 h1 h2 h3 (hS1.trans h4))
    | exit id => cases h; exact hQ ρ1 a1 w1 hE1 hM1 hR1 hS1
    | goto l => cases h; exact hQ ρ1 a1 w1 hE1 hM1 hR1 hS1
    | ret => cases h; exact hQ ρ1 a1 w1 hE1 hM1 hR1 hS1
theorem cond_ok {c : Operand} {x y : Code} {co : Opd} {f g : CF} (hc : mkOp keep [] c = some co) (hf : CFOk P keep nt x f) (hg : CFOk P keep nt y g) : CFOk P keep nt (.cond c x y) (fCond co f g) := fun ev hev F hF ρ tm s a w e tm' s' h hE n0 hn0 hM hL hR Q hQ => by
  have h : condF (co .nil tm) (f ev tm s) (g ev tm s) = .code e tm' s' := h
  rw [condF_eq] at h
  unfold condOut at h
  split at h
  · rename_i b hb
    have hv := hE.inv.ops (ops := #[c]) _ _ _ (by simp) hc hb
    have he : a.eval c = .bool b := by
      generalize a.eval c = u at hv
      cases hv; rfl
    refine wpIn_cond he ?_
    rw [bif'_eq] at h
    cases b with
    | true => exact hf ev hev F hF ρ tm s a w e tm' s' h hE n0 hn0 hM hL hR Q hQ
    | false => exact hg ev hev F hF ρ tm s a w e tm' s' h hE n0 hn0 hM hL hR Q hQ
  · cases h
theorem stepR_scope {b : Frame} {a : Act} {k : List Item} {cs : List Frame} {w : World} {c : Code} : _root_.Go.step P (lone (b.atR a (.code (.scope c) :: k)) cs w) = .next (lone (b.atR a (.code c :: .inScope c :: k)) cs w) :=
  step_lone_go (by simp [stepG, stepG.exec, Frame.atR])
theorem stepR_inScope {b : Frame} {a : Act} {k : List Item} {cs : List Frame} {w : World} {c : Code} : _root_.Go.step P (lone (b.atR a (.inScope c :: k)) cs w) = .next (lone (b.atR a k) cs w) :=
  step_lone_go (by simp [stepG, stepG.exec, Frame.atR])
/-- a scope whose body does not jump. -/
theorem wpIn_scope {F : Fence} {n : Nat} {Q Q' : Exit → Act → World → Prop} {a : Act} {w : World} {c : Code} (h : c.wpIn F n P Q' a w) (hQ : ∀ e a w, Q' e a w → (∀ l, e ≠ .goto l) ∧ Q e a w) : (Code.scope c).wpIn F n P Q a w := by
  intro b k cs hro hb hr
  have h0 : (lone (b.atR a (.code (.scope c) :: k)) cs w).fenced P F := fenced_calm hb hr rfl
  obtain ⟨e, a₁, w₁, hq, harr⟩ := h b (.inScope c :: k) cs hro hb hr
  obtain ⟨hg, hq⟩ := hQ e a₁ w₁ hq
  cases e with
  | normal => exact ⟨.normal, a₁, w₁, hq, .head h0 stepR_scope (StepsIn.trans harr (.one (fenced_calm hb hr rfl) stepR_inScope))⟩
  | exit id' =>
    have hx : exitTo id' (.inScope c :: k) = exitTo id' k := by simp [exitTo]
    exact ⟨.exit id', a₁, w₁, hq, fun k' hk => .head h0 stepR_scope (harr.1 k' (by rw [hx]; exact hk)),
      fun hr' hk => let ⟨k₁, h1, h2⟩ := harr.2 hr' (by rw [hx]; exact hk); ⟨k₁, h1, .head h0 stepR_scope h2⟩⟩
  | goto l => exact (hg l rfl).elim
  | ret => exact ⟨_, a₁, w₁, hq, .of_steps (.one h0 stepR_scope) harr⟩
  | panic ch => exact ⟨_, a₁, w₁, hq, .of_steps (.one h0 stepR_scope) harr⟩
  | outgrown => exact ⟨_, a₁, w₁, hq, .of_steps (.one h0 stepR_scope) harr⟩
theorem scope_ok {x : Code} {f : CF} (hf : CFOk P keep nt x f) : CFOk P keep nt (.scope x) (fScope f) := fun ev hev F hF ρ tm s a w e tm' s' h hE n0 hn0 hM hL hR Q hQ => by
  have h : scopeOut (f ev tm s) = .code e tm' s' := h
  cases ho : f ev tm s with
  | no => rw [ho] at h; cases h
  | val => rw [ho] at h; cases h
  | code e1 tm1 s1 =>
    rw [ho] at h
    refine wpIn_scope (Q' := fun e a w => (∀ l, e ≠ .goto l) ∧ Q e a w) (hf ev hev F hF ρ tm s a w e1 tm1 s1 ho hE n0 hn0 hM hL hR _ (fun ρ1 a1 w1 hE1 hM1 hR1 hS1 => ?_)) (fun _ _ _ h => h)
    cases e1 with
    | normal => cases h; exact ⟨fun l e => (by cases e), hQ ρ1 a1 w1 hE1 hM1 hR1 hS1⟩
    | exit i => cases h; exact ⟨fun l e => (by cases e), hQ ρ1 a1 w1 hE1 hM1 hR1 hS1⟩
    | goto l => cases h
    | ret => cases h; exact ⟨fun l e => (by cases e), hQ ρ1 a1 w1 hE1 hM1 hR1 hS1⟩
theorem block_ok {id : Nat} {x : Code} {f : CF} (hf : CFOk P keep nt x f) : CFOk P keep nt (.block id x) (fBlock id f) := fun ev hev F hF ρ tm s a w e tm' s' h hE n0 hn0 hM hL hR Q hQ => by
  have h : blockOut id (f ev tm s) = .code e tm' s' := h
  refine wpIn_block ?_
  cases ho : f ev tm s with
  | no => rw [ho] at h; cases h
  | val => rw [ho] at h; cases h
  | code e1 tm1 s1 =>
    rw [ho] at h
    refine hf ev hev F hF ρ tm s a w e1 tm1 s1 ho hE n0 hn0 hM hL hR _ (fun ρ1 a1 w1 hE1 hM1 hR1 hS1 => ?_)
    cases e1 with
    | normal => cases h; exact hQ ρ1 a1 w1 hE1 hM1 hR1 hS1
    | exit i =>
      have h : bif' (Nat.beq i id) (.code .normal tm1 s1) (.code (.exit i) tm1 s1) = Out.code e tm' s' := h
      rw [bif'_eq] at h
      show (if i = id then Q .normal a1 w1 else Q (.exit i) a1 w1)
      split at h
      · rename_i hi
        cases h
        rw [if_pos (Nat.eq_of_beq_eq_true hi)]
        exact hQ ρ1 a1 w1 hE1 hM1 hR1 hS1
      · rename_i hi
        cases h
        rw [if_neg (fun e => hi (by rw [e]; exact Nat.beq_refl _))]
        exact hQ ρ1 a1 w1 hE1 hM1 hR1 hS1
    | goto l => cases h; exact hQ ρ1 a1 w1 hE1 hM1 hR1 hS1
    | ret => cases h; exact hQ ρ1 a1 w1 hE1 hM1 hR1 hS1
theorem region_code_ok {id : Nat} {ops : Array Oper} {l : List CI} (hl : mkRegion P keep nt ops.toList ops.toList [] = some l) : CFOk P keep nt (.region id ops false) (fRegion l) := fun ev hev F hF ρ tm s a w e tm' s' h hE n0 hn0 hM hL hR Q hQ => by
  refine wpIn_region ?_
  have := region_ok (Q := Q) hF hev (all := ops) (x := e) (tm' := tm') (s' := s') ops.toList 0 (by simp) [] l hl ρ .nil tm s a w h hE.inv hR (fun ρ' a' w' hx hE' hd hR' hS' => by
    subst hx
    exact hQ ρ' a' w' hE' (by rw [hd]; exact hM.step hS') hR' hS')
  rw [List.range_eq_range']
  simpa using this
theorem exists_least {p : Nat → Prop} (h : ∃ j, p j) : ∃ j, p j ∧ ∀ i, p i → j ≤ i := by
  obtain ⟨n, hn⟩ := h
  induction n using Nat.strongRecOn with
  | _ n ih =>
    by_cases h : ∃ i, i < n ∧ p i
    · obtain ⟨i, hi, hp⟩ := h
      exact ih i hi hp
    · exact ⟨n, hn, fun i hp => Nat.le_of_not_lt fun hi => h ⟨i, hi, hp⟩⟩
open Classical in
noncomputable def least (p : Nat → Prop) : Nat := if h : ∃ j, p j then Classical.choose (exists_least h) else 0
theorem least_spec {p : Nat → Prop} (h : ∃ j, p j) : p (least p) := by
  unfold least; rw [dif_pos h]; exact (Classical.choose_spec (exists_least h)).1
theorem least_le {p : Nat → Prop} {i : Nat} (hi : p i) : least p ≤ i := by
  have h : ∃ j, p j := ⟨i, hi⟩
  unfold least; rw [dif_pos h]; exact (Classical.choose_spec (exists_least h)).2 i hi
theorem loop_ok {c : Code} {f : CF} (hf : CFOk P keep nt c f) : CFOk P keep nt (.loop c) (fLoop f) := fun ev hev F hF ρ tm s a w e tm' s' h hE n0 hn0 hM hL hR Q hQ => by
  let Ij : Act → World → Nat → Prop := fun a1 w1 j => ∃ ρ1 tm1 s1, loopN (f ev) j tm1 s1 = .code e tm' s' ∧ EnvOk keep nt ρ1 tm1 a1 ∧ Marks n0 ρ1 s1 w1 a1.defers ∧ Rel P ρ1 s1 w1 ∧ Stp ρ s w ρ1 s1 w1
  refine wpIn_loop (fun a1 w1 => ∃ j, Ij a1 w1 j) (fun a1 w1 => least (Ij a1 w1)) ⟨1000000, ρ, tm, s, h, hE, hM, hR, .refl _ _ _⟩ (fun a1 w1 hI => ?_)
  have hsp := least_spec hI
  generalize hj : least (Ij a1 w1) = j at hsp
  obtain ⟨ρ1, tm1, s1, hl, hE1, hM1, hR1, hS1⟩ := hsp
  cases j with
  | zero => cases hl
  | succ j =>
    have hl : seqOut (loopN (f ev) j) (f ev tm1 s1) = .code e tm' s' := hl
    cases ho : f ev tm1 s1 with
    | no => rw [ho] at hl; cases hl
    | val => rw [ho] at hl; cases hl
    | code e2 tm2 s2 =>
      rw [ho] at hl
      refine hf ev hev F hF ρ1 tm1 s1 a1 w1 e2 tm2 s2 ho hE1 n0 (Nat.le_trans hn0 hS1.size) hM1 (loops_step hL hS1) hR1 _ (fun ρ2 a2 w2 hE2 hM2 hR2 hS2 => ?_)
      cases e2 with
      | normal =>
        have hIj : Ij a2 w2 j := ⟨ρ2, tm2, s2, hl, hE2, hM2, hR2, hS1.trans hS2⟩
        refine ⟨⟨j, hIj⟩, ?_⟩
        show least (Ij a2 w2) < j + 1
        exact Nat.lt_succ_of_le (least_le hIj)
      | exit id => cases hl; exact hQ ρ2 a2 w2 hE2 hM2 hR2 (hS1.trans hS2)
      | goto l => cases hl; exact hQ ρ2 a2 w2 hE2 hM2 hR2 (hS1.trans hS2)
      | ret => cases hl; exact hQ ρ2 a2 w2 hE2 hM2 hR2 (hS1.trans hS2)
end
end Go.Eng
/-! Regions that draw their order: what their masks say. -/
namespace Go.Eng
open Go
variable {P : Program}
theorem bitOf_eq (m i : Nat) : bitOf m i = m.testBit i := by
  unfold bitOf Nat.testBit
  show Nat.beq (m >>> i &&& 1) 1 = (1 &&& (m >>> i) != 0)
  rw [Nat.and_comm (m >>> i) 1, Nat.one_and_eq_mod_two]
  have : m >>> i % 2 < 2 := Nat.mod_lt _ (by omega)
  generalize m >>> i % 2 = r at *
  match r, this with
  | 0, _ => rfl
  | 1, _ => rfl
theorem shl_one (j : Nat) : Nat.shiftLeft 1 j = 2 ^ j := by
  show 1 <<< j = 2 ^ j
  rw [Nat.shiftLeft_eq, Nat.one_mul]
theorem maskOf_bit (ms : List Nat) (j : Nat) : ∀ es : List Edge, bitOf (maskOf ms es) j = true ↔ ∃ e ∈ es, Region.binds .any e = true ∧ (e.on = j ∨ bitOf (ms.getD e.on 0) j = true)
  | [] => by
    show bitOf 0 j = true ↔ _
    rw [bitOf_eq]; simp
  | e :: es => by
    have ih := maskOf_bit ms j es
    show bitOf (bif' (Region.binds .any e) (Nat.lor (Nat.lor (Nat.shiftLeft 1 e.on) (ms.getD e.on 0)) (maskOf ms es)) (maskOf ms es)) j = true ↔ _
    cases hb : Region.binds .any e with
    | false => rw [bif'_false, ih]; simp [hb]
    | true =>
      rw [bif'_true, shl_one]
      show bitOf ((2 ^ e.on ||| ms.getD e.on 0) ||| maskOf ms es) j = true ↔ _
      rw [bitOf_eq, Nat.testBit_or, Nat.testBit_or, Nat.testBit_two_pow, ← bitOf_eq, ← bitOf_eq]
      simp only [Bool.or_eq_true, ih, decide_eq_true_eq, List.mem_cons]
      constructor
      · rintro ((h | h) | ⟨e', h1, h2, h3⟩)
        · exact ⟨e, .inl rfl, hb, .inl h⟩
        · exact ⟨e, .inl rfl, hb, .inr h⟩
        · exact ⟨e', .inr h1, h2, h3⟩
      · rintro ⟨e', rfl | h1, h2, h3⟩
        · exact .inl h3
        · exact .inr ⟨e', h1, h2, h3⟩
theorem masks_spec : ∀ (l : List Oper) (ms0 ms : List Nat), masks l ms0 = some ms → ∃ r, ms = ms0 ++ r ∧ r.length = l.length ∧ ∀ i o, l[i]? = some o → ms[ms0.length + i]? = some (maskOf (ms.take (ms0.length + i)) o.after.toList)
  | [], ms0, ms, h => by
    have h : some ms0 = some ms := h
    cases h; exact ⟨[], by simp, rfl, fun i o h => by simp at h⟩
  | o :: l, ms0, ms, h => by
    have h : fNat (maskOf ms0 o.after.toList) (fun m => ob (appO ms0 [m]) (masks l)) = some ms := h
    rw [fNat_eq, appO_eq] at h
    have h : masks l (ms0 ++ [maskOf ms0 o.after.toList]) = some ms := h
    obtain ⟨r, h1, h2, h3⟩ := masks_spec l _ _ h
    refine ⟨maskOf ms0 o.after.toList :: r, by simp [h1], by simp [h2], fun i o' hi => ?_⟩
    cases i with
    | zero =>
      cases hi
      rw [h1]; simp
    | succ i =>
      have := h3 i o' (by simpa using hi)
      simp only [List.length_append, List.length_cons, List.length_nil, Nat.zero_add] at this
      rw [show ms0.length + (i + 1) = ms0.length + 1 + i by omega]
      exact this
theorem dops_spec {keep : Nat} : ∀ (l : List Oper) (i : Nat) (ms : List Nat) (r : List DOp), dops P keep l i ms = some r → ∃ k, r.length = l.length ∧ l.length + k = ms.length ∧
    ∀ j x, r[j]? = some x → x.i = i + j ∧ l[j]? = some x.o ∧ ms[j]? = some x.m ∧ x.m < 2 ^ (i + j) ∧ rdOf P keep [] x.o.op = some x.r
  | [], i, ms, r, h => by
    have h : some [] = some r := h
    cases h; exact ⟨ms.length, rfl, by simp, fun j x h => by simp at h⟩
  | o :: l, i, [], r, h => by cases h
  | o :: l, i, m :: ms, r, h => by
    have h : bif' (Nat.blt m (Nat.pow 2 i)) (ob (rdOf P keep [] o.op) fun r => fNat i fun i => ob (dops P keep l (Nat.succ i) ms) fun l => some (⟨i, m, o, r⟩ :: l)) none = some r := h
    obtain ⟨hm, h⟩ := bif'_some h
    obtain ⟨rd, hrd, h⟩ := ob_some h
    rw [fNat_eq] at h
    obtain ⟨r', hr', h⟩ := ob_some h
    cases h
    obtain ⟨k, h1, h2, h3⟩ := dops_spec l (i + 1) ms r' hr'
    have hm : m < 2 ^ i := by
      have := Nat.le_of_ble_eq_true hm
      exact this
    refine ⟨k, by simp [h1], by simp; omega, fun j x hj => ?_⟩
    cases j with
    | zero => cases hj; exact ⟨rfl, rfl, rfl, hm, hrd⟩
    | succ j =>
      obtain ⟨a1, a2, a3, a4, a5⟩ := h3 j x (by simpa using hj)
      exact ⟨by omega, by simpa using a2, by simpa using a3, by rw [show i + (j + 1) = i + 1 + j by omega]; exact a4, a5⟩
/-- what is known of a region that draws its order. -/
structure DReg (P : Program) (keep : Nat) (all : Array Oper) (l : List DOp) (I : DOp → Prop) : Prop where
  at_ : ∀ (i : Nat) (x : DOp), l[i]? = some x → x.i = i
  len : l.length = all.size
  op : ∀ x ∈ l, all[x.i]? = some x.o
  rd : ∀ x ∈ l, ¬ I x → rdOf P keep [] x.o.op = some x.r
  ins : ∀ x ∈ l, I x → ∃ f, x.r = .p f
  below : ∀ x ∈ l, ∀ j, bitOf x.m j = true → j < x.i
  trans : ∀ x ∈ l, ∀ y ∈ l, bitOf x.m y.i = true → ∀ j, bitOf y.m j = true → bitOf x.m j = true
  dir : ∀ x ∈ l, ∀ e ∈ x.o.after.toList, Region.binds .any e = true → bitOf x.m e.on = true
  back : ∀ x ∈ l, ∀ j, bitOf x.m j = true → ∃ e ∈ x.o.after.toList, Region.binds .any e = true ∧ (e.on = j ∨ ∃ y ∈ l, y.i = e.on ∧ bitOf y.m j = true)
theorem DReg.mem {keep : Nat} {I : DOp → Prop} {all : Array Oper} {l : List DOp} (h : DReg P keep all l I) {x : DOp} (hx : x ∈ l) : l[x.i]? = some x := by
  obtain ⟨i, hi, rfl⟩ := List.getElem_of_mem hx
  have := h.at_ i l[i] (by simp [hi])
  rw [this]; simp [hi]
theorem DReg.inj {keep : Nat} {I : DOp → Prop} {all : Array Oper} {l : List DOp} (h : DReg P keep all l I) {x y : DOp} (hx : x ∈ l) (hy : y ∈ l) (e : x.i = y.i) : x = y := by
  have h1 := h.mem hx
  have h2 := h.mem hy
  rw [e, h2] at h1
  exact (Option.some.inj h1).symm
theorem DReg.ofOp {keep : Nat} {I : DOp → Prop} {all : Array Oper} {l : List DOp} (h : DReg P keep all l I) {i : Nat} {o : Oper} (ho : all[i]? = some o) : ∃ x ∈ l, x.i = i ∧ x.o = o := by
  have hi : i < l.length := by rw [h.len]; exact (Array.getElem?_eq_some_iff.1 ho).1
  have hx := h.at_ i l[i] (by simp [hi])
  have := h.op l[i] (by simp)
  rw [hx, ho] at this
  exact ⟨l[i], by simp, hx, (Option.some.inj this).symm⟩
theorem dreg_of {keep : Nat} {all : Array Oper} {ms : List Nat} {l : List DOp} (hms : masks all.toList [] = some ms) (hl : dops P keep all.toList 0 ms = some l) : DReg P keep all l (fun _ => False) := by
  obtain ⟨r, h1, h2, h3⟩ := masks_spec _ _ _ hms
  obtain ⟨k, d1, d2, d3⟩ := dops_spec _ _ _ _ hl
  simp only [List.length_nil, Nat.zero_add] at h3 d3
  have key : ∀ x ∈ l, l[x.i]? = some x := fun x hx => by
    obtain ⟨i, hi, rfl⟩ := List.getElem_of_mem hx
    have := (d3 i l[i] (by simp [hi])).1
    rw [this]; simp [hi]
  have mk : ∀ x ∈ l, x.m = maskOf (ms.take x.i) x.o.after.toList := fun x hx => by
    obtain ⟨_, a2, a3, _, _⟩ := d3 x.i x (key x hx)
    have := h3 x.i x.o a2
    rw [a3] at this
    exact Option.some.inj this
  have below : ∀ x ∈ l, ∀ j, bitOf x.m j = true → j < x.i := fun x hx j hj => by
    obtain ⟨_, _, _, a4, _⟩ := d3 x.i x (key x hx)
    rw [bitOf_eq] at hj
    have := Nat.ge_two_pow_of_testBit hj
    exact (Nat.pow_lt_pow_iff_right (by omega)).1 (Nat.lt_of_le_of_lt this a4)
  have dir : ∀ x ∈ l, ∀ e ∈ x.o.after.toList, Region.binds .any e = true → bitOf x.m e.on = true := fun x hx e he hb => by
    rw [mk x hx, maskOf_bit]; exact ⟨e, he, hb, .inl rfl⟩
  have sub : ∀ x ∈ l, ∀ i, i < x.i → ∃ y ∈ l, y.i = i ∧ (ms.take x.i).getD i 0 = y.m := fun x hx i hi => by
    have hxl : x.i < l.length := (List.getElem?_eq_some_iff.1 (key x hx)).1
    have hil : i < l.length := by omega
    obtain ⟨b1, _, b3, _, _⟩ := d3 i l[i] (by simp [hil])
    refine ⟨l[i], by simp, b1, ?_⟩
    rw [List.getD_eq_getElem?_getD, List.getElem?_take, if_pos hi, b3]; rfl
  have back : ∀ x ∈ l, ∀ j, bitOf x.m j = true → ∃ e ∈ x.o.after.toList, Region.binds .any e = true ∧ (e.on = j ∨ ∃ y ∈ l, y.i = e.on ∧ bitOf y.m j = true) := fun x hx j hj => by
    have hj' := hj
    rw [mk x hx, maskOf_bit] at hj
    obtain ⟨e, he, hb, h⟩ := hj
    refine ⟨e, he, hb, h.imp id fun h => ?_⟩
    obtain ⟨y, hy, hyi, hym⟩ := sub x hx e.on (below x hx _ (dir x hx e he hb))
    rw [hym] at h
    exact ⟨y, hy, hyi, h⟩
  have mem2 : ∀ x ∈ l, ∀ y ∈ l, x.i = y.i → x = y := fun x hx y hy e => by
    have h1 := key x hx; have h2 := key y hy
    rw [e, h2] at h1; exact (Option.some.inj h1).symm
  have fwd : ∀ x ∈ l, ∀ e ∈ x.o.after.toList, Region.binds .any e = true → ∀ y ∈ l, y.i = e.on → ∀ j, bitOf y.m j = true → bitOf x.m j = true := fun x hx e he hb y hy hyi j hj => by
    obtain ⟨z, hz, hzi, hzm⟩ := sub x hx e.on (below x hx _ (dir x hx e he hb))
    have : z = y := mem2 z hz y hy (hzi.trans hyi.symm)
    subst this
    rw [mk x hx, maskOf_bit]
    exact ⟨e, he, hb, .inr (by rw [hzm]; exact hj)⟩
  refine ⟨fun i x h => ((d3 i x h).1), by rw [d1]; simp, fun x hx => ?_, fun x hx _ => ((d3 x.i x (key x hx)).2.2.2.2), fun _ _ h => h.elim, below, ?_, dir, back⟩
  · have := (d3 x.i x (key x hx)).2.1
    simpa using this
  · intro x hx
    generalize hn : x.i = n
    induction n using Nat.strongRecOn generalizing x with
    | _ n ih =>
      intro y hy hxy j hj
      obtain ⟨e, he, hb, h | ⟨z, hz, hzi, hzy⟩⟩ := back x hx _ hxy
      · exact fwd x hx e he hb y hy h.symm j hj
      · have hlt : z.i < n := by rw [hzi, ← hn]; exact below x hx _ (dir x hx e he hb)
        exact fwd x hx e he hb z hz hzi j (ih z.i hlt z hz rfl y hy hzy j hj)
end Go.Eng
/-! Regions that draw their order: levels. -/
namespace Go.Eng
open Go
variable {P : Program} {keep : Nat} {all : Array Oper} {l : List DOp} {I : DOp → Prop}
theorem wsOf_eq : ∀ l : List DOp, wsOf l = l.filter fun x => isW x.r
  | [] => rfl
  | x :: l => by
    show bif' (isW x.r) (x :: wsOf l) (wsOf l) = _
    rw [wsOf_eq l, List.filter_cons]
    cases isW x.r <;> rfl
theorem level_nil (m : Nat) : level m [] = 0 := rfl
theorem level_cons (m : Nat) (x : DOp) (ws : List DOp) : level m (x :: ws) = if bitOf m x.i = true then level m ws + 1 else level m ws := by
  show bif' (bitOf m x.i) (Nat.succ (level m ws)) (level m ws) = _
  cases bitOf m x.i <;> rfl
theorem highest_nil (i : Nat) : highest i [] = 0 := rfl
theorem highest_cons (i : Nat) (x : DOp) (ws : List DOp) : highest i (x :: ws) = if bitOf x.m i = true then highest i ws else highest i ws + 1 := by
  show bif' (bitOf x.m i) (highest i ws) (Nat.succ (highest i ws)) = _
  cases bitOf x.m i <;> rfl
/-- how many of some are in a set. -/
noncomputable def cnt (p : Nat → Bool) (ws : List DOp) : Nat := (ws.filter fun x => p x.i).length
theorem cnt_cons (p : Nat → Bool) (x : DOp) (ws : List DOp) : cnt p (x :: ws) = if p x.i = true then cnt p ws + 1 else cnt p ws := by
  unfold cnt; rw [List.filter_cons]; split <;> simp_all
theorem level_cnt (m : Nat) : ∀ ws : List DOp, level m ws = cnt (bitOf m) ws
  | [] => rfl
  | x :: ws => by rw [level_cons, cnt_cons, level_cnt m ws]
theorem cnt_le {p q : Nat → Bool} : ∀ {ws : List DOp}, (∀ x ∈ ws, p x.i = true → q x.i = true) → cnt p ws ≤ cnt q ws
  | [], _ => Nat.le_refl _
  | x :: ws, h => by
    rw [cnt_cons, cnt_cons]
    have ih := cnt_le (p := p) (q := q) (ws := ws) fun y hy => h y (by simp [hy])
    split
    · rw [if_pos (h x (by simp) ‹_›)]; omega
    · split <;> omega
theorem cnt_lt {p q : Nat → Bool} : ∀ {ws : List DOp}, (∀ x ∈ ws, p x.i = true → q x.i = true) → ∀ y ∈ ws, p y.i = false → q y.i = true → cnt p ws < cnt q ws
  | [], _, y, hy, _, _ => by simp at hy
  | x :: ws, h, y, hy, h1, h2 => by
    rw [cnt_cons, cnt_cons]
    have ih := cnt_le (p := p) (q := q) (ws := ws) fun y hy => h y (by simp [hy])
    rcases List.mem_cons.1 hy with rfl | hy
    · rw [h1, h2]; simp; omega
    · have := cnt_lt (p := p) (q := q) (ws := ws) (fun y hy => h y (by simp [hy])) y hy h1 h2
      split
      · rw [if_pos (h x (by simp) ‹_›)]; omega
      · split <;> omega
theorem cnt_high {p : Nat → Bool} {i : Nat} : ∀ {ws : List DOp}, (∀ x ∈ ws, p x.i = true → bitOf x.m i = false) → cnt p ws ≤ highest i ws
  | [], _ => Nat.le_refl _
  | x :: ws, h => by
    rw [cnt_cons, highest_cons]
    have ih := cnt_high (p := p) (i := i) (ws := ws) fun y hy => h y (by simp [hy])
    split
    · rw [if_neg (by rw [h x (by simp) ‹_›]; simp)]; omega
    · split <;> omega
theorem cnt_all {p : Nat → Bool} : ∀ {ws : List DOp}, (∀ x ∈ ws, p x.i = true) → cnt p ws = ws.length
  | [], _ => rfl
  | x :: ws, h => by rw [cnt_cons, if_pos (h x (by simp)), cnt_all fun y hy => h y (by simp [hy])]; rfl
theorem cnt_none {p : Nat → Bool} : ∀ {ws : List DOp}, (∀ x ∈ ws, p x.i = false) → cnt p ws = 0
  | [], _ => rfl
  | x :: ws, h => by rw [cnt_cons, if_neg (by rw [h x (by simp)]; simp), cnt_none fun y hy => h y (by simp [hy])]
theorem cnt_append (p : Nat → Bool) (a b : List DOp) : cnt p (a ++ b) = cnt p a + cnt p b := by
  unfold cnt; rw [List.filter_append, List.length_append]
theorem cnt_congr {p q : Nat → Bool} {ws : List DOp} (h : ∀ x ∈ ws, p x.i = q x.i) : cnt p ws = cnt q ws :=
  Nat.le_antisymm (cnt_le fun x hx e => by rw [← h x hx]; exact e) (cnt_le fun x hx e => by rw [h x hx]; exact e)
/-- the writing ones stand in one row. -/
structure DWr (all : Array Oper) (l : List DOp) : Prop where
  chain : ∀ x ∈ wsOf l, ∀ y ∈ wsOf l, x.i < y.i → bitOf y.m x.i = true
  sorted : (wsOf l).Pairwise fun x y => x.i < y.i
  dsts : ∀ x ∈ l, ∀ y ∈ l, ∀ d, y.o.dst = some d → x.o.dst = some d → x = y
  uses : ∀ x ∈ l, ∀ y ∈ l, ∀ d, y.o.dst = some d → d ∈ usesOf all.toList x.o → useOk x y = true
theorem allB_spec {α : Type} {f : α → Bool} : ∀ {l : List α}, allB f l = true → ∀ x ∈ l, f x = true
  | [], _, x, hx => by simp at hx
  | a :: l, h, x, hx => by
    have h : bif' (f a) (allB f l) false = true := h
    cases hf : f a with
    | false => rw [hf] at h; cases h
    | true =>
      rw [hf] at h
      rcases List.mem_cons.1 hx with rfl | hx
      · exact hf
      · exact allB_spec h x hx
theorem mem_ws {x : DOp} : x ∈ wsOf l ↔ x ∈ l ∧ isW x.r = true := by rw [wsOf_eq, List.mem_filter]
theorem chain_aux (hD : DReg P keep all l I) : ∀ (ws : List DOp) (p : Option Nat), (∀ x ∈ ws, x ∈ l) → chainOk ws p = true → (∀ q ∈ p, ∃ y ∈ l, y.i = q) → ws.Pairwise (fun x y => x.i < y.i) →
    (∀ q ∈ p, ∀ y ∈ ws, bitOf y.m q = true) ∧ ws.Pairwise fun x y => bitOf y.m x.i = true
  | [], p, _, _, _, _ => ⟨fun q _ y hy => by simp at hy, .nil⟩
  | x :: ws, p, hin, h, hp, hs => by
    have hx := hin x (by simp)
    rw [List.pairwise_cons] at hs
    have h1 : chainOk ws (some x.i) = true ∧ ∀ q ∈ p, bitOf x.m q = true := by
      cases p with
      | none => exact ⟨h, fun q hq => by cases hq⟩
      | some q =>
        have h : bif' (bitOf x.m q) (chainOk ws (some x.i)) false = true := h
        cases hb : bitOf x.m q with
        | false => rw [hb] at h; cases h
        | true => rw [hb] at h; exact ⟨h, fun q' hq' => by cases hq'; exact hb⟩
    obtain ⟨i1, i2⟩ := chain_aux hD ws (some x.i) (fun y hy => hin y (by simp [hy])) h1.1 (fun q hq => by cases hq; exact ⟨x, hx, rfl⟩) hs.2
    refine ⟨fun q hq y hy => ?_, List.pairwise_cons.2 ⟨fun y hy => i1 x.i rfl y hy, i2⟩⟩
    rcases List.mem_cons.1 hy with rfl | hy
    · exact h1.2 q hq
    · exact hD.trans y (hin y (by simp [hy])) x hx (i1 x.i rfl y hy) q (h1.2 q hq)
theorem sorted_of (hD : DReg P keep all l I) : l.Pairwise fun x y => x.i < y.i := by
  rw [List.pairwise_iff_getElem]
  intro i j hi hj hij
  rw [hD.at_ i _ (by simp [hi]), hD.at_ j _ (by simp [hj])]
  exact hij
theorem emptyT_get {α : Type} : ∀ (d i : Nat), T.get (emptyT (α := α) d) i = none
  | 0, i => T.get_e i
  | d + 1, i => by
    have e : emptyT (α := α) (d + 1) = .n none (emptyT d) (emptyT d) := rfl
    rw [e]
    rcases nat_cases3 i with rfl | ⟨m, rfl⟩ | ⟨m, rfl⟩
    · rw [T.get_n0]
    · rw [T.get_odd]; exact emptyT_get d m
    · rw [T.get_even]; exact emptyT_get d m
theorem dtab_spec : ∀ {l : List DOp} {t : T DOp}, dtab l = some t → (∀ d y, T.get t d = some y → y ∈ l ∧ y.o.dst = some d) ∧ (∀ y ∈ l, ∀ d, y.o.dst = some d → T.get t d = some y)
  | [], t, h => by
    have h : some (emptyT 12) = some t := h
    cases h
    exact ⟨fun d y h => (by rw [emptyT_get] at h; cases h), fun y hy => (by cases hy)⟩
  | x :: l, t, h => by
    have h : (match x.o.dst with
      | none => dtab l
      | some d => ob (dtab l) fun t => Option.rec (motive := fun _ => Option (T DOp)) (T.put (some x) t d) (fun _ => none) (T.get t d)) = some t := h
    split at h
    · rename_i hd
      obtain ⟨i1, i2⟩ := dtab_spec h
      refine ⟨fun d y hy => ⟨List.mem_cons_of_mem _ (i1 d y hy).1, (i1 d y hy).2⟩, fun y hy d hyd => ?_⟩
      rcases List.mem_cons.1 hy with rfl | hy
      · rw [hd] at hyd; cases hyd
      · exact i2 y hy d hyd
    · rename_i d hd
      obtain ⟨t0, h0, h⟩ := ob_some h
      obtain ⟨i1, i2⟩ := dtab_spec h0
      cases hg : T.get t0 d with
      | some y => rw [hg] at h; cases h
      | none =>
        rw [hg] at h
        have h : T.put (some x) t0 d = some t := h
        have hput := T.get_put _ _ _ _ h
        refine ⟨fun e y hy => ?_, fun y hy e hye => ?_⟩
        · rw [hput] at hy
          by_cases he : e = d
          · rw [if_pos he] at hy; cases hy; exact ⟨List.mem_cons_self .., by rw [he]; exact hd⟩
          · rw [if_neg he] at hy; exact ⟨List.mem_cons_of_mem _ (i1 e y hy).1, (i1 e y hy).2⟩
        · rw [hput]
          rcases List.mem_cons.1 hy with rfl | hy
          · rw [hd] at hye; cases hye; rw [if_pos rfl]
          · have := i2 y hy e hye
            by_cases he : e = d
            · rw [he, hg] at this; cases this
            · rw [if_neg he]; exact this
theorem pairs_spec {l : List DOp} (h : pairsOk all.toList l = true) : (∀ x ∈ l, ∀ y ∈ l, ∀ d, y.o.dst = some d → x.o.dst = some d → x = y) ∧ (∀ x ∈ l, ∀ y ∈ l, ∀ d, y.o.dst = some d → d ∈ usesOf all.toList x.o → useOk x y = true) := by
  unfold pairsOk at h
  cases ht : dtab l with
  | none => rw [ht] at h; cases h
  | some t =>
    rw [ht] at h
    obtain ⟨i1, i2⟩ := dtab_spec ht
    refine ⟨fun x hx y hy d h1 h2 => ?_, fun x hx y hy d h1 h2 => ?_⟩
    · have e1 := i2 x hx d h2
      have e2 := i2 y hy d h1
      rw [e1] at e2; cases e2; rfl
    · have := allB_spec (allB_spec h x hx) d h2
      rw [i2 y hy d h1] at this
      exact this
theorem dwr_of (hD : DReg P keep all l I) (h1 : chainOk (wsOf l) none = true) (h2 : pairsOk all.toList l = true) : DWr all l := by
  have hs : (wsOf l).Pairwise fun x y => x.i < y.i := by rw [wsOf_eq]; exact (sorted_of hD).filter _
  obtain ⟨_, hc⟩ := chain_aux hD (wsOf l) none (fun x hx => (mem_ws.1 hx).1) h1 (fun q hq => by cases hq) hs
  refine ⟨fun x hx y hy hxy => ?_, hs, (pairs_spec h2).1, (pairs_spec h2).2⟩
  obtain ⟨i, hi, rfl⟩ := List.getElem_of_mem hx
  obtain ⟨j, hj, rfl⟩ := List.getElem_of_mem hy
  rcases Nat.lt_trichotomy i j with h | h | h
  · exact List.pairwise_iff_getElem.1 hc i j hi hj h
  · subst h; omega
  · have := List.pairwise_iff_getElem.1 hs j i hj hi h; omega
theorem DWr.dst (hW : DWr all l) {x y : DOp} (hx : x ∈ l) (hy : y ∈ l) (hne : x.i ≠ y.i) {d : Nat} (h : y.o.dst = some d) : x.o.dst ≠ some d := fun e =>
  hne (by rw [hW.dsts x hx y hy d h e])
theorem DWr.use (hW : DWr all l) {x y : DOp} (hx : x ∈ l) (hy : y ∈ l) {d : Nat} (h : y.o.dst = some d) (hu : d ∈ usesOf all.toList x.o) : x.i ≠ y.i ∧ (y.i < x.i → bitOf x.m y.i = true) ∧ (x.i < y.i → bitOf y.m x.i = true) := by
  have hp := hW.uses x hx y hy d h hu
  unfold useOk at hp
  by_cases hi : x.i = y.i
  · rw [bif'_eq, if_pos (by rw [hi]; exact Nat.beq_refl _)] at hp; cases hp
  · rw [bif'_eq, if_neg (fun e => hi (Nat.eq_of_beq_eq_true e))] at hp
    rw [bif'_eq] at hp
    split at hp
    · rename_i hlt
      have hlt : y.i < x.i := Nat.le_of_ble_eq_true hlt
      exact ⟨hi, fun _ => hp, fun h => by omega⟩
    · rename_i hlt
      have hlt : ¬ y.i < x.i := fun h => hlt (Nat.ble_eq_true_of_le h)
      exact ⟨hi, fun h => (hlt h).elim, fun _ => hp⟩
end Go.Eng
/-! Regions that draw their order: what the evaluator has run, and what the model has. -/
namespace Go.Eng
open Go
variable {P : Program}
noncomputable def envget (keep : Nat) (lo : Lo) (tm : T Value) (t : Nat) : Option Value := bif' (kept keep t) (tm.get t) (Lo.get t lo)
theorem mkOp_tmp {keep t : Nat} {f : Opd} (h : mkOp keep [] (.tmp t) = some f) (lo : Lo) (tm : T Value) : f lo tm = envget keep lo tm t := by
  have h : bif' (kept keep t) (some (opT t)) (some (opL t)) = some f := h
  unfold envget
  rw [bif'_eq] at h ⊢
  split at h <;> cases h
  · rw [if_pos ‹_›]; rfl
  · rw [if_neg ‹_›]; rfl
theorem putD_env {keep nt : Nat} {dst : Option Tmp} {d : DI} (hd : mkDst keep nt dst = some d) {v : Value} {k : K} {lo : Lo} {tm : T Value} {s : AS} {x : XExit} {tm' : T Value} {s' : AS}
    (htk : ∀ t v, tm.get t = some v → kept keep t = true) (h : putD d v k lo tm s = .code x tm' s') :
    ∃ lo1 tm1, k lo1 tm1 s = .code x tm' s' ∧ (∀ t, envget keep lo1 tm1 t = if dst = some t then some v else envget keep lo tm t) ∧ (∀ t v, tm1.get t = some v → kept keep t = true) ∧ ∀ d', dst = some d' → d' < nt := by
  cases dst with
  | none =>
    cases hd
    exact ⟨lo, tm, h, fun t => by simp, htk, fun _ e => by cases e⟩
  | some t0 =>
    obtain ⟨hlt, hd⟩ := bif'_some hd
    have hlt : t0 < nt := Nat.le_of_ble_eq_true hlt
    rw [bif'_eq] at hd
    split at hd
    · rename_i hk
      cases hd
      have h' : Option.rec (motive := fun _ => Out) .no (fun tm' => k lo tm' s) (T.put (some v) tm t0) = .code x tm' s' := h
      cases hp : T.put (some v) tm t0 with
      | none => rw [hp] at h'; cases h'
      | some tm1 =>
        rw [hp] at h'
        have hg := T.get_put _ _ _ _ hp
        refine ⟨lo, tm1, h', fun t => ?_, fun t w hw => ?_, fun _ e => by cases e; exact hlt⟩
        · unfold envget
          rw [hg]
          by_cases e : t = t0
          · subst e; simp [hk, bif'_true]
          · rw [if_neg e, if_neg (fun e' => e (Option.some.inj e').symm)]
        · rw [hg] at hw
          by_cases e : t = t0
          · rw [e]; exact hk
          · rw [if_neg e] at hw; exact htk t w hw
    · rename_i hk
      cases hd
      refine ⟨.cons t0 v lo, tm, h, fun t => ?_, htk, fun _ e => by cases e; exact hlt⟩
      unfold envget
      rw [lo_cons]
      by_cases e : t = t0
      · subst e
        rw [Nat.beq_refl, bif'_true, if_pos rfl]
        have : kept keep t = false := by simpa using hk
        rw [this, bif'_false]
      · rw [if_neg (fun e' => e (Option.some.inj e').symm)]
        have : Nat.beq t t0 = false := by
          cases hb : Nat.beq t t0 with
          | true => exact (e (Nat.eq_of_beq_eq_true hb)).elim
          | false => rfl
        rw [this, bif'_false]
noncomputable def lev (l : List DOp) (x : DOp) : Nat := level x.m (wsOf l)
/-- the evaluator runs y ahead of x. -/
def Bef (l : List DOp) (y x : DOp) : Prop := lev l y < lev l x ∨ (lev l y = lev l x ∧ isW y.r = false ∧ (isW x.r = true ∨ y.i < x.i))
/-- what has been run in the midst of stage n. -/
def Xs (l : List DOp) (n m : Nat) (y : DOp) : Prop := lev l y < n ∨ (lev l y = n ∧ isW y.r = false ∧ y.i < m)
theorem bef_irrefl {l : List DOp} {x : DOp} : ¬ Bef l x x := by
  rintro (h | ⟨_, h1, h2 | h2⟩)
  · omega
  · rw [h1] at h2; cases h2
  · omega
theorem bef_asym {l : List DOp} {x y : DOp} (h : Bef l x y) : ¬ Bef l y x := by
  intro h'
  rcases h with h | ⟨h, h1, h2⟩ <;> rcases h' with h' | ⟨h', h3, h4⟩
  · omega
  · omega
  · omega
  · rcases h2 with h2 | h2
    · rw [h3] at h2; cases h2
    · rcases h4 with h4 | h4
      · rw [h1] at h4; cases h4
      · omega
section
variable {keep nt : Nat} {all : Array Oper} {l : List DOp} {I : DOp → Prop}
theorem bef_pred (hD : DReg P keep all l I) {x y : DOp} (hx : x ∈ l) (hy : y ∈ l) (h : bitOf x.m y.i = true) : Bef l y x := by
  have hlt := hD.below x hx _ h
  have sub : ∀ z ∈ wsOf l, bitOf y.m z.i = true → bitOf x.m z.i = true := fun z _ hz => hD.trans x hx y hy h _ hz
  cases hw : isW y.r with
  | true =>
    left
    unfold lev
    rw [level_cnt, level_cnt]
    refine cnt_lt sub y (mem_ws.2 ⟨hy, hw⟩) ?_ h
    cases hb : bitOf y.m y.i with
    | false => rfl
    | true => have := hD.below y hy _ hb; omega
  | false =>
    have hle : lev l y ≤ lev l x := by unfold lev; rw [level_cnt, level_cnt]; exact cnt_le sub
    rcases Nat.lt_or_eq_of_le hle with h | h
    · exact .inl h
    · exact .inr ⟨h, hw, .inr hlt⟩
def Ran0 (P : Program) (l : List DOp) (ρ : Ren) (B : Nat → Nat → Prop) (cs : List Chk) (S : AS) (x : DOp) (lo : Lo) (tm : T Value) (v : Value) : Prop :=
  match x.r with
  | .p f => ∃ s, f lo tm s = some v
  | .r f => (highest x.i (wsOf l), fun s' => vEqO v (f lo tm s')) ∈ cs
  | .a f => ∃ s1 s1', f lo tm s1 = some (v, s1') ∧ B x.i s1.nx ∧ s1.nx < S.nx ∧ ρ s1.nx = none ∧ (S.h.get s1.nx = s1'.h.get s1.nx ∨ S.h.get s1.nx = none)
  | _ => False
def Ran (P : Program) (keep : Nat) (all : Array Oper) (l : List DOp) (ρ : Ren) (B : Nat → Nat → Prop) (cs : List Chk) (S : AS) (x : DOp) (lo : Lo) (tm : T Value) (v : Value) : Prop :=
  match x.o.guard with
  | none => Ran0 P l ρ B cs S x lo tm v
  | some (j, want) => ∃ g y, guardOpd keep [] all.toList j = some g ∧ wantO want (g lo tm) = some y ∧ (y = true → Ran0 P l ρ B cs S x lo tm v) ∧ (y = false → v = .tuple #[])
theorem Ran0.mono {ρ ρ' : Ren} {B B' : Nat → Nat → Prop} {cs cs' : List Chk} {S S' : AS} {x : DOp} {lo : Lo} {tm : T Value} {v : Value} (h : Ran0 P l ρ B cs S x lo tm v) (hB : ∀ b, B x.i b → B' x.i b) (hcs : ∀ c ∈ cs, c ∈ cs')
    (hS : ∀ b, B x.i b → b < S.nx → ρ b = none → b < S'.nx ∧ ρ' b = none ∧ (S'.h.get b = S.h.get b ∨ S'.h.get b = none)) : Ran0 P l ρ' B' cs' S' x lo tm v := by
  unfold Ran0 at h ⊢
  split at h
  · exact h
  · exact hcs _ h
  · obtain ⟨s1, s1', h1, h2, h3, h4, h5⟩ := h
    obtain ⟨a1, a2, a3⟩ := hS _ h2 h3 h4
    refine ⟨s1, s1', h1, hB _ h2, a1, a2, ?_⟩
    rcases a3 with a3 | a3
    · rw [a3]; exact h5
    · exact .inr a3
  · exact h
theorem Ran.mono {ρ ρ' : Ren} {B B' : Nat → Nat → Prop} {cs cs' : List Chk} {S S' : AS} {x : DOp} {lo : Lo} {tm : T Value} {v : Value} (h : Ran P keep all l ρ B cs S x lo tm v) (hB : ∀ b, B x.i b → B' x.i b) (hcs : ∀ c ∈ cs, c ∈ cs')
    (hS : ∀ b, B x.i b → b < S.nx → ρ b = none → b < S'.nx ∧ ρ' b = none ∧ (S'.h.get b = S.h.get b ∨ S'.h.get b = none)) : Ran P keep all l ρ' B' cs' S' x lo tm v := by
  unfold Ran at h ⊢
  split at h
  · exact Ran0.mono h hB hcs hS
  · obtain ⟨g, y, h1, h2, h3, h4⟩ := h
    exact ⟨g, y, h1, h2, fun e => Ran0.mono (h3 e) hB hcs hS, h4⟩
/-- where the evaluator stands, and where the model does. -/
structure St (P : Program) (keep nt : Nat) (all : Array Oper) (l : List DOp) (E0 : Nat → Option Value) (ρ0 : Ren) (s0 : AS) (w0 : World) (a0 : Act) (X : DOp → Prop) (D : Nat → Prop) (B : Nat → Nat → Prop) (ρ : Ren) (cs : List Chk) (lo : Lo) (tm : T Value) (S : AS) (a : Act) (w : World) : Prop where
  tk : ∀ t v, tm.get t = some v → kept keep t = true
  env0 : ∀ t, (∀ y ∈ l, X y → y.o.dst ≠ some t) → envget keep lo tm t = E0 t
  rcd : ∀ x ∈ l, X x → isW x.r = false → ¬ D x.i → ∃ lo' tm' v, Ran P keep all l ρ B cs S x lo' tm' v ∧ (∀ d, x.o.dst = some d → d < nt ∧ envget keep lo tm d = some v) ∧
    (∀ t, (∀ y ∈ l, y.o.dst = some t → Bef l y x → envget keep lo' tm' t = envget keep lo tm t) ∧ ((∀ y ∈ l, y.o.dst = some t → ¬ Bef l y x) → envget keep lo' tm' t = E0 t))
  bB : ∀ i b, B i b → b < S.nx ∧ s0.nx ≤ b
  bI : ∀ i j b, B i b → B j b → i = j
  dX : ∀ y ∈ l, D y.i → X y
  md : ∀ y ∈ l, D y.i → ∀ d, y.o.dst = some d → ∃ v u, envget keep lo tm d = some v ∧ a.tmps[d]? = some u ∧ VRel ρ v u
  m0 : ∀ t, (∀ y ∈ l, D y.i → y.o.dst ≠ some t) → a.tmps[t]? = a0.tmps[t]?
  e0 : ∀ t v, E0 t = some v → ∃ u, a0.tmps[t]? = some u ∧ VRel ρ v u
  rel : Rel P ρ S w
  stp : Stp ρ0 s0 w0 ρ S w
  df : a.defers = a0.defers
  sz : nt ≤ a.tmps.size
variable {E0 : Nat → Option Value} {ρ0 : Ren} {s0 : AS} {w0 : World} {a0 : Act} {D : Nat → Prop} {B : Nat → Nat → Prop} {ρ : Ren} {cs : List Chk} {lo : Lo} {tm : T Value} {S : AS} {a : Act} {w : World}
/-- the evaluator runs one operation that does not write. -/
theorem St.grow {n : Nat} {x : DOp} (hD : DReg P keep all l I) (hW : DWr all l) (h : St P keep nt all l E0 ρ0 s0 w0 a0 (Xs l n x.i) D B ρ cs lo tm S a w) (hx : x ∈ l) (hxw : isW x.r = false) (hn : lev l x = n)
    {v : Value} {lo1 : Lo} {tm1 : T Value} {S1 : AS} {cs1 : List Chk} {B1 : Nat → Nat → Prop}
    (henv : ∀ t, envget keep lo1 tm1 t = if x.o.dst = some t then some v else envget keep lo tm t) (htk : ∀ t v, tm1.get t = some v → kept keep t = true) (hnt : ∀ d, x.o.dst = some d → d < nt)
    (hran : Ran P keep all l ρ B1 cs1 S1 x lo tm v) (hcs : ∀ c ∈ cs, c ∈ cs1) (hBB : ∀ i b, B i b → B1 i b) (hB1 : ∀ i b, B1 i b → b < S1.nx ∧ s0.nx ≤ b) (hB2 : ∀ i j b, B1 i b → B1 j b → i = j)
    (hnx : S.nx ≤ S1.nx) (hh : ∀ b, b < S.nx → S1.h.get b = S.h.get b) (hrel : Rel P ρ S1 w) (hstp : Stp ρ0 s0 w0 ρ S1 w) : St P keep nt all l E0 ρ0 s0 w0 a0 (Xs l n (x.i + 1)) D B1 ρ cs1 lo1 tm1 S1 a w := by
  have hX : ∀ y, Xs l n x.i y → Xs l n (x.i + 1) y := fun y hy => hy.imp id fun ⟨h1, h2, h3⟩ => ⟨h1, h2, by omega⟩
  have hXx : Xs l n (x.i + 1) x := .inr ⟨hn, hxw, by omega⟩
  have hnX : ¬ Xs l n x.i x := by rintro (h | ⟨_, _, h⟩) <;> omega
  have hxD : ¬ D x.i := fun hd => hnX (h.dX x hx hd)
  have hXb : ∀ y, Xs l n x.i y → Bef l y x := fun y hy => by
    rcases hy with hy | ⟨h1, h2, h3⟩
    · left; omega
    · right; exact ⟨by omega, h2, .inr h3⟩
  have other : ∀ y ∈ l, y ≠ x → ∀ d, y.o.dst = some d → x.o.dst ≠ some d := fun y hy hne d hd => hW.dst hx hy (fun e => hne (hD.inj hy hx e.symm)) hd
  have keepEnv : ∀ y ∈ l, y ≠ x → ∀ d, y.o.dst = some d → envget keep lo1 tm1 d = envget keep lo tm d := fun y hy hne d hd => by rw [henv, if_neg (other y hy hne d hd)]
  refine ⟨htk, fun t ht => ?_, fun y hy hXy hyw hyD => ?_, hB1, hB2, fun y hy hd => hX y (h.dX y hy hd), fun y hy hd d hdst => ?_, h.m0, h.e0, hrel, hstp, h.df, h.sz⟩
  · rw [henv, if_neg (ht x hx hXx)]
    exact h.env0 t fun y hy hXy => ht y hy (hX y hXy)
  · by_cases e : y = x
    · subst e
      refine ⟨lo, tm, v, hran, fun d hd => ⟨hnt d hd, by rw [henv, if_pos hd]⟩, fun t => ⟨fun z hz hdz hb => ?_, fun hb => ?_⟩⟩
      · exact (keepEnv z hz (fun e => by subst e; exact bef_irrefl hb) t hdz).symm
      · exact h.env0 t fun z hz hXz hdz => hb z hz hdz (hXb z hXz)
    · have hXy' : Xs l n x.i y := by
        rcases hXy with h | ⟨h1, h2, h3⟩
        · exact .inl h
        · refine .inr ⟨h1, h2, ?_⟩
          have : y.i ≠ x.i := fun e' => e (hD.inj hy hx e')
          omega
      obtain ⟨lo', tm', v', r1, r2, r3⟩ := h.rcd y hy hXy' hyw hyD
      refine ⟨lo', tm', v', r1.mono (hBB y.i) hcs (fun b hb hlt hr => ⟨by omega, hr, .inl (hh b hlt)⟩), fun d hd => ⟨(r2 d hd).1, by rw [keepEnv y hy e d hd]; exact (r2 d hd).2⟩, fun t => ⟨fun z hz hdz hb => ?_, (r3 t).2⟩⟩
      rw [(r3 t).1 z hz hdz hb]
      refine (keepEnv z hz (fun e' => ?_) t hdz).symm
      subst e'
      exact bef_asym (hXb y hXy') hb
  · rw [keepEnv y hy (fun e => by subst e; exact hxD hd) d hdst]
    exact h.md y hy hd d hdst
/-- what an operation looks at. -/
theorem St.use {X : DOp → Prop} (hD : DReg P keep all l I) (hW : DWr all l) (h : St P keep nt all l E0 ρ0 s0 w0 a0 X D B ρ cs lo tm S a w) (hdown : ∀ y ∈ l, D y.i → ∀ j, bitOf y.m j = true → D j) {x : DOp} (hx : x ∈ l) (hxD : ¬ D x.i) (hpre : ∀ j, bitOf x.m j = true → D j)
    {lo' : Lo} {tm' : T Value} (ht : ∀ t, (∀ y ∈ l, y.o.dst = some t → Bef l y x → envget keep lo' tm' t = envget keep lo tm t) ∧ ((∀ y ∈ l, y.o.dst = some t → ¬ Bef l y x) → envget keep lo' tm' t = E0 t))
    {t : Nat} (hu : t ∈ usesOf all.toList x.o) {v : Value} (hv : envget keep lo' tm' t = some v) : VRel ρ v (a.eval (.tmp t)) := by
  have base : (∀ y ∈ l, y.o.dst = some t → ¬ Bef l y x) → (∀ y ∈ l, D y.i → y.o.dst ≠ some t) → VRel ρ v (a.eval (.tmp t)) := fun h1 h2 => by
    rw [(ht t).2 h1] at hv
    obtain ⟨u, hu', hr⟩ := h.e0 t v hv
    rw [← h.m0 t h2] at hu'
    rw [eval_tmp hu']; exact hr
  by_cases hex : ∃ y ∈ l, y.o.dst = some t
  · obtain ⟨y, hy, hyd⟩ := hex
    obtain ⟨hne, h1, h2⟩ := hW.use hx hy hyd hu
    have uniq : ∀ z ∈ l, z.o.dst = some t → z = y := fun z hz hzd => by
      by_cases e : z.i = y.i
      · exact hD.inj hz hy e
      · exact (hW.dst hz hy e hyd hzd).elim
    rcases Nat.lt_or_gt_of_ne hne with hlt | hlt
    · have hb := h2 hlt
      have hyD : ¬ D y.i := fun hd => hxD (hdown y hy hd _ hb)
      refine base (fun z hz hzd => ?_) (fun z hz hzD hzd => ?_)
      · rw [uniq z hz hzd]; exact bef_asym (bef_pred hD hy hx hb)
      · rw [uniq z hz hzd] at hzD; exact hyD hzD
    · have hb := h1 hlt
      have hyD := hpre _ hb
      rw [(ht t).1 y hy hyd (bef_pred hD hx hy hb)] at hv
      obtain ⟨v', u, e1, e2, e3⟩ := h.md y hy hyD t hyd
      rw [hv] at e1; cases e1
      rw [eval_tmp e2]; exact e3
  · exact base (fun z hz hzd => (hex ⟨z, hz, hzd⟩).elim) (fun z hz _ hzd => hex ⟨z, hz, hzd⟩)
theorem uses_op {o : Oper} {t : Nat} (h : Operand.tmp t ∈ o.op.operands) : t ∈ usesOf all.toList o := by
  unfold usesOf
  rw [app_eq, List.mem_append]
  exact .inl (List.mem_filterMap.2 ⟨.tmp t, by simpa using h, rfl⟩)
theorem uses_guard {o o' : Oper} {j t : Nat} {want : Bool} (hg : o.guard = some (j, want)) (hj : all[j]? = some o') (hd : o'.dst = some t) : t ∈ usesOf all.toList o := by
  unfold usesOf
  rw [app_eq, List.mem_append]
  right
  rw [hg]
  have : all.toList[j]? = some o' := by simpa using hj
  simp [this, hd]
theorem opsRel_of {o : Oper} {lo' : Lo} {tm' : T Value} (h : ∀ t ∈ usesOf all.toList o, ∀ v, envget keep lo' tm' t = some v → VRel ρ v (a.eval (.tmp t))) : OpsRel ρ keep [] lo' tm' a.eval o.op.operands := by
  intro x f v hx hm hv
  cases x with
  | tmp t =>
    rw [mkOp_tmp hm] at hv
    exact h t (uses_op hx) v hv
  | const c =>
    have hm' : (match plainConst c with | some v => some (opC v) | none => some (fun _ _ => none)) = some f := hm
    split at hm'
    · rename_i hc
      cases hm'; cases hv
      exact plainConst_rel hc
    · cases hm'; cases hv
  | global g => cases hm; cases hv; exact .glob g 0
  | func g =>
    cases hm; cases hv
    exact .func g .nil .nil
/-- the model runs one that does not write. -/
theorem St.real {X : DOp → Prop} (hD : DReg P keep all l I) (hW : DWr all l) (h : St P keep nt all l E0 ρ0 s0 w0 a0 X D B ρ cs lo tm S a w) {x : DOp} (hx : x ∈ l) (hX : X x) {v u : Value} (hd : ∀ d, x.o.dst = some d → d < nt ∧ envget keep lo tm d = some v)
    {ρ' : Ren} {w1 : World} (hv : VRel ρ' v u) (hle : RenLe ρ ρ') (hrel : Rel P ρ' S w1) (hstp : Stp ρ0 s0 w0 ρ' S w1) (hB : ∀ j b, B j b → j ≠ x.i → ρ b = none → ρ' b = none) :
    St P keep nt all l E0 ρ0 s0 w0 a0 X (fun i => D i ∨ i = x.i) B ρ' cs lo tm S (a.put x.o.dst u) w1 := by
  refine ⟨h.tk, h.env0, fun y hy hXy hyw hyD => ?_, h.bB, h.bI, fun y hy hd' => ?_, fun y hy hyD d hyd => ?_, fun t ht => ?_, fun t v ht => ?_, hrel, hstp, by rw [put_defers']; exact h.df, ?_⟩
  · obtain ⟨lo', tm', v', r1, r2, r3⟩ := h.rcd y hy hXy hyw (fun e => hyD (.inl e))
    exact ⟨lo', tm', v', r1.mono (fun _ h => h) (fun _ h => h) (fun b hb hlt hr => ⟨hlt, hB y.i b hb (fun e => hyD (.inr e)) hr, .inl rfl⟩), r2, r3⟩
  · rcases hd' with hd' | hd'
    · exact h.dX y hy hd'
    · rw [hD.inj hy hx hd']; exact hX
  · by_cases e : y = x
    · subst e
      obtain ⟨h1, h2⟩ := hd d hyd
      refine ⟨v, u, h2, ?_, hv⟩
      rw [hyd]
      exact get_put_eq (Nat.lt_of_lt_of_le h1 h.sz)
    · have hyD' : D y.i := hyD.resolve_right fun e' => e (hD.inj hy hx e')
      obtain ⟨v', u', e1, e2, e3⟩ := h.md y hy hyD' d hyd
      refine ⟨v', u', e1, ?_, e3.mono hle⟩
      cases hxd : x.o.dst with
      | none => exact e2
      | some dx =>
        have hne : d ≠ dx := fun e' => by
          subst e'
          exact hW.dst hx hy (fun e' => e (hD.inj hy hx e'.symm)) hyd hxd
        rw [get_put_ne hne]; exact e2
  · have hx' := ht x hx (.inr rfl)
    have := h.m0 t fun y hy hyD => ht y hy (.inl hyD)
    rw [← this]
    cases hxd : x.o.dst with
    | none => rfl
    | some dx => exact get_put_ne fun e => hx' (by rw [hxd, e])
  · obtain ⟨u', h1, h2⟩ := h.e0 t v ht
    exact ⟨u', h1, h2.mono hle⟩
  · cases hxd : x.o.dst with
    | none => exact h.sz
    | some dx => simpa [Act.put] using h.sz
/-- one that writes: the model and the evaluator run it alike. -/
theorem St.wrote {n : Nat} (hD : DReg P keep all l I) (hW : DWr all l) (h : St P keep nt all l E0 ρ0 s0 w0 a0 (Xs l n l.length) D B ρ cs lo tm S a w) {x : DOp} (hx : x ∈ l) (hxw : isW x.r = true) (hn : lev l x = n) (huniq : ∀ y ∈ l, isW y.r = true → lev l y = n → y = x)
    {v u : Value} {ρ' : Ren} {lo1 : Lo} {tm1 : T Value} {S1 : AS} {w1 : World} (henv : ∀ t, envget keep lo1 tm1 t = if x.o.dst = some t then some v else envget keep lo tm t) (htk : ∀ t v, tm1.get t = some v → kept keep t = true) (hnt : ∀ d, x.o.dst = some d → d < nt)
    (hv : VRel ρ' v u) (hrel : Rel P ρ' S1 w1) (hstp : Stp ρ S w ρ' S1 w1) :
    St P keep nt all l E0 ρ0 s0 w0 a0 (Xs l (n + 1) 0) (fun i => D i ∨ i = x.i) B ρ' cs lo1 tm1 S1 (a.put x.o.dst u) w1 := by
  have hle := hstp.le h.rel
  have hX : ∀ y ∈ l, Xs l (n + 1) 0 y → Xs l n l.length y ∨ y = x := fun y hy hXy => by
    rcases hXy with hXy | ⟨_, _, h3⟩
    · rcases Nat.lt_or_eq_of_le (Nat.le_of_lt_succ hXy) with h' | h'
      · exact .inl (.inl h')
      · cases hw : isW y.r with
        | true => exact .inr (huniq y hy hw h')
        | false => exact .inl (.inr ⟨h', hw, (List.getElem?_eq_some_iff.1 (hD.mem hy)).1⟩)
    · omega
  have hX' : ∀ y, Xs l n l.length y → Xs l (n + 1) 0 y := fun y hy => .inl (by rcases hy with h' | ⟨h', _, _⟩ <;> omega)
  have hXx : Xs l (n + 1) 0 x := .inl (by omega)
  have hnX : ¬ Xs l n l.length x := by
    rintro (h' | ⟨_, h', _⟩)
    · omega
    · rw [hxw] at h'; cases h'
  have other : ∀ y ∈ l, y ≠ x → ∀ d, y.o.dst = some d → x.o.dst ≠ some d := fun y hy hne d hd => hW.dst hx hy (fun e => hne (hD.inj hy hx e.symm)) hd
  have keepEnv : ∀ y ∈ l, y ≠ x → ∀ d, y.o.dst = some d → envget keep lo1 tm1 d = envget keep lo tm d := fun y hy hne d hd => by rw [henv, if_neg (other y hy hne d hd)]
  refine ⟨htk, fun t ht => ?_, fun y hy hXy hyw hyD => ?_, fun i b hb => ⟨Nat.lt_of_lt_of_le (h.bB i b hb).1 hstp.nx, (h.bB i b hb).2⟩, h.bI, fun y hy hd' => ?_, fun y hy hyD d hyd => ?_, fun t ht => ?_, fun t v ht => ?_, hrel, h.stp.trans hstp, by rw [put_defers']; exact h.df, ?_⟩
  · rw [henv, if_neg (ht x hx hXx)]
    exact h.env0 t fun y hy hXy => ht y hy (hX' y hXy)
  · have hyx : y ≠ x := fun e => by rw [e, hxw] at hyw; cases hyw
    have hXy' := (hX y hy hXy).resolve_right hyx
    obtain ⟨lo', tm', v', r1, r2, r3⟩ := h.rcd y hy hXy' hyw (fun e => hyD (.inl e))
    refine ⟨lo', tm', v', r1.mono (fun _ h => h) (fun _ h => h) (fun b hb hlt hr => ⟨Nat.lt_of_lt_of_le hlt hstp.nx, by rw [hstp.ren b hlt]; exact hr, hstp.ph b hlt hr⟩), fun d hd => ⟨(r2 d hd).1, by rw [keepEnv y hy hyx d hd]; exact (r2 d hd).2⟩, fun t => ⟨fun z hz hdz hb => ?_, (r3 t).2⟩⟩
    rw [(r3 t).1 z hz hdz hb]
    refine (keepEnv z hz (fun e' => ?_) t hdz).symm
    subst e'
    rcases hb with hb | ⟨_, hb, _⟩
    · rcases hXy' with h' | ⟨h', _, _⟩ <;> omega
    · rw [hxw] at hb; cases hb
  · rcases hd' with hd' | hd'
    · exact hX' y (h.dX y hy hd')
    · rw [hD.inj hy hx hd']; exact hXx
  · by_cases e : y = x
    · subst e
      refine ⟨v, u, by rw [henv, if_pos hyd], ?_, hv⟩
      rw [hyd]
      exact get_put_eq (Nat.lt_of_lt_of_le (hnt d hyd) h.sz)
    · have hyD' : D y.i := hyD.resolve_right fun e' => e (hD.inj hy hx e')
      obtain ⟨v', u', e1, e2, e3⟩ := h.md y hy hyD' d hyd
      refine ⟨v', u', by rw [keepEnv y hy e d hyd]; exact e1, ?_, e3.mono hle⟩
      cases hxd : x.o.dst with
      | none => exact e2
      | some dx =>
        have hne : d ≠ dx := fun e' => by
          subst e'
          exact other y hy e d hyd hxd
        rw [get_put_ne hne]; exact e2
  · have hx' := ht x hx (.inr rfl)
    have := h.m0 t fun y hy hyD => ht y hy (.inl hyD)
    rw [← this]
    cases hxd : x.o.dst with
    | none => rfl
    | some dx => exact get_put_ne fun e => hx' (by rw [hxd, e])
  · obtain ⟨u', h1, h2⟩ := h.e0 t v ht
    exact ⟨u', h1, h2.mono hle⟩
  · cases hxd : x.o.dst with
    | none => exact h.sz
    | some dx => simpa [Act.put] using h.sz
end
end Go.Eng
/-! Regions that draw their order: the evaluator's stages. -/
namespace Go.Eng
open Go
variable {P : Program}
theorem Rel.phantom {ρ : Ren} {s s' : AS} {w : World} {k : Blk} (h : Rel P ρ s w) (hs : s.new k = some s') : Rel P ρ s' w := by
  obtain ⟨hnx, hg⟩ := AS.new_eq hs
  have hno : ρ s.nx = none := h.dom _ (Nat.le_refl _)
  have hof : ∀ {a k x}, s'.h.get a = some k → ρ a = some x → s.h.get a = some k := fun {a k x} e e' => by
    rw [hg] at e
    by_cases ha : a = s.nx
    · rw [ha, hno] at e'; cases e'
    · rw [if_neg ha] at e; exact e
  exact ⟨fun a ha => h.dom a (by omega), fun a ha => by rw [hg, if_neg (by omega)]; exact h.top a (by omega), fun a k x e e' => h.blk a k x (hof e e') e', by rw [AS.new_lim hs]; have := h.lim; omega,
    fun a a' k k' x x' hne e1 e2 r1 r2 hb => h.excl a a' k k' x x' hne (hof e1 r1) (hof e2 r2) r1 r2 hb, h.gl.of (Nat.le_refl _) fun b _ hn => ⟨rfl, fun ⟨j, k, y, e1, e2, e3⟩ => hn ⟨j, k, y, hof e1 e2, e2, e3⟩⟩⟩
theorem Stp.phantom {ρ0 ρ : Ren} {s0 s s' : AS} {w0 w : World} {k : Blk} (hS : Stp ρ0 s0 w0 ρ s w) (h : Rel P ρ s w) (hs : s.new k = some s') : Stp ρ0 s0 w0 ρ s' w := by
  obtain ⟨hnx, hg⟩ := AS.new_eq hs
  have hno : ρ s.nx = none := h.dom _ (Nat.le_refl _)
  refine ⟨hS.ren, by have := hS.nx; omega, hS.tape, hS.os, hS.out, hS.size, fun b hb hn => ?_, fun a ha hn => ?_, hS.lp, (AS.new_lim hs).trans hS.lim, fun a ha => by rw [AS.new_low hs h.lim a (by rw [hS.lim]; exact ha), hS.low a ha], hS.lowW⟩
  · obtain ⟨h1, h2⟩ := hS.frame b hb hn
    refine ⟨h1, ?_⟩
    rintro ⟨a, k', x, e, e', rfl⟩
    rw [hg] at e
    by_cases ha : a = s.nx
    · rw [ha, hno] at e'; cases e'
    · rw [if_neg ha] at e; exact h2 ⟨a, k', x, e, e', rfl⟩
  · rw [hg, if_neg (by have := hS.nx; omega)]; exact hS.ph a ha hn
/-- a phantom block is made. -/
theorem Rel.realize {ρ : Ren} {s : AS} {w w' : World} {b : Nat} {k : Blk} {x : Loc} (hr : Rel P ρ s w) (hb : b < s.nx) (hno : ρ b = none) (hk : s.h.get b = some k)
    (hx : x.b = w.heap.size) (hsz : w'.heap.size = w.heap.size + 1) (hold : ∀ b, b < w.heap.size → w'.heap[b]? = w.heap[b]?) (hbr : BRel P (ρ.put b x) x w' k) : Rel P (ρ.put b x) s w' := by
  have hle : RenLe ρ (ρ.put b x) := put_le hno x
  have hput : ∀ a, a ≠ b → (ρ.put b x) a = ρ a := fun a ha => by unfold Ren.put; rw [if_neg ha]
  have hputs : (ρ.put b x) b = some x := by unfold Ren.put; rw [if_pos rfl]
  refine ⟨fun a ha => by rw [hput a (by omega)]; exact hr.dom a ha, hr.top, fun a k' y e e' => ?_, hr.lim, fun a a' k1 k2 x1 x2 hne e1 e2 r1 r2 hbb => ?_, hr.gl.of (by omega) fun c hc hn => ⟨hold c hc, fun ⟨j, k', y, e1, e2, e3⟩ => ?_⟩⟩
  rotate_right
  · by_cases ha : j = b
    · rw [ha, hputs] at e2; cases e2; omega
    · rw [hput j ha] at e2; exact hn ⟨j, k', y, e1, e2, e3⟩
  · by_cases ha : a = b
    · subst ha
      rw [hputs] at e'; cases e'
      rw [hk] at e; cases e
      exact ⟨by omega, hbr⟩
    · rw [hput a ha] at e'
      obtain ⟨h1, h2⟩ := hr.blk a k' y e e'
      exact ⟨by omega, (h2.congr (hold _ h1)).mono hle⟩
  · by_cases ha : a = b
    · rw [ha, hputs] at r1; cases r1
      have ha' : a' ≠ b := fun e => hne (ha.trans e.symm)
      rw [hput a' ha'] at r2
      have := (hr.blk a' k2 x2 e2 r2).1
      omega
    · rw [hput a ha] at r1
      by_cases ha' : a' = b
      · rw [ha', hputs] at r2; cases r2
        have := (hr.blk a k1 x1 e1 r1).1
        omega
      · rw [hput a' ha'] at r2
        exact hr.excl a a' k1 k2 x1 x2 hne e1 e2 r1 r2 hbb
/-- a phantom block that is forgotten already. -/
theorem Rel.realize0 {ρ : Ren} {s : AS} {w w' : World} {b : Nat} {x : Loc} (hr : Rel P ρ s w) (hb : b < s.nx) (hno : ρ b = none) (hk : s.h.get b = none)
    (hsz : w'.heap.size = w.heap.size + 1) (hold : ∀ b, b < w.heap.size → w'.heap[b]? = w.heap[b]?) : Rel P (ρ.put b x) s w' := by
  have hle : RenLe ρ (ρ.put b x) := put_le hno x
  have hput : ∀ a, a ≠ b → (ρ.put b x) a = ρ a := fun a ha => by unfold Ren.put; rw [if_neg ha]
  have hne : ∀ {a k}, s.h.get a = some k → a ≠ b := fun {a k} e h => by rw [h, hk] at e; cases e
  refine ⟨fun a ha => by rw [hput a (by omega)]; exact hr.dom a ha, hr.top, fun a k' y e e' => ?_, hr.lim, fun a a' k1 k2 x1 x2 hne' e1 e2 r1 r2 hbb => ?_, hr.gl.of (by omega) fun c hc hn => ⟨hold c hc, fun ⟨j, k', y, e1, e2, e3⟩ => hn ⟨j, k', y, e1, by rw [hput j (hne e1)] at e2; exact e2, e3⟩⟩⟩
  · rw [hput a (hne e)] at e'
    obtain ⟨h1, h2⟩ := hr.blk a k' y e e'
    exact ⟨by omega, (h2.congr (hold _ h1)).mono hle⟩
  · rw [hput a (hne e1)] at r1
    rw [hput a' (hne e2)] at r2
    exact hr.excl a a' k1 k2 x1 x2 hne' e1 e2 r1 r2 hbb
theorem Stp.realize {ρ0 ρ : Ren} {s0 s : AS} {w0 w w' : World} {b : Nat} {x : Loc} (hr : Rel P ρ s w) (hS : Stp ρ0 s0 w0 ρ s w) (hb0 : s0.nx ≤ b)
    (hx : x.b = w.heap.size) (hsz : w'.heap.size = w.heap.size + 1) (hold : ∀ b, b < w.heap.size → w'.heap[b]? = w.heap[b]?) (ht : w'.tape = w.tape) (ho : w'.os = w.os) (hu : w'.output = w.output) : Stp ρ0 s0 w0 (ρ.put b x) s w' := by
  have hput : ∀ a, a ≠ b → (ρ.put b x) a = ρ a := fun a ha => by unfold Ren.put; rw [if_neg ha]
  have hputs : (ρ.put b x) b = some x := by unfold Ren.put; rw [if_pos rfl]
  refine ⟨fun a ha => by rw [hput a (by omega)]; exact hS.ren a ha, hS.nx, by rw [ht, hS.tape], by rw [ho, hS.os], by rw [hu, hS.out], by have := hS.size; omega, fun c hc hn => ?_, hS.ph, fun c r hc => ?_, hS.lim, hS.low, fun a k y hl hn hk hro hy => by
    have h1 := hS.lowW a k y hl hn hk hro hy
    rw [← h1]
    exact hold _ (hr.blk a k y (by rw [hS.low a hl]; exact hk) (by rw [hS.ren a hn]; exact hy)).1⟩
  · obtain ⟨h1, h2⟩ := hS.frame c hc hn
    have hcw : c < w.heap.size := Nat.lt_of_lt_of_le hc hS.size
    refine ⟨by rw [hold c hcw]; exact h1, ?_⟩
    rintro ⟨a, k', y, e, e', rfl⟩
    by_cases ha : a = b
    · rw [ha, hputs] at e'; cases e'; omega
    · rw [hput a ha] at e'; exact h2 ⟨a, k', y, e, e', rfl⟩
  · obtain ⟨r', hr'⟩ := hS.lp c r hc
    exact ⟨r', by rw [hold c (Array.getElem?_eq_some_iff.1 hr').1]; exact hr'⟩
section
variable {keep nt : Nat} {all : Array Oper} {l : List DOp} {I : DOp → Prop} {E0 : Nat → Option Value} {ρ0 : Ren} {s0 : AS} {w0 : World} {a0 : Act} {D : Nat → Prop} {B : Nat → Nat → Prop} {ρ : Ren} {cs : List Chk} {lo : Lo} {tm : T Value} {S : AS} {a : Act} {w : World} {ev : Ev}
variable {x' : XExit} {tm' : T Value} {s' : AS}
theorem withGuard_some {o : Oper} {d : DI} {c c' : CI} {al : List Oper} (h : withGuard keep [] al o d c = some c') : (o.guard = none ∧ c' = c) ∨ ∃ j want g, o.guard = some (j, want) ∧ guardOpd keep [] al j = some g ∧ c' = .gd g want d c := by
  unfold withGuard at h
  split at h
  · rename_i hg; cases h; exact .inl ⟨hg, rfl⟩
  · rename_i j want hg
    obtain ⟨g, hg', h⟩ := ob_some h
    cases h
    exact .inr ⟨j, want, g, hg, hg', rfl⟩
theorem ifO_code {o : Option Bool} {p q : Out} {x : XExit} {tm' : T Value} {s' : AS} (h : ifO o p q = .code x tm' s') : ∃ y, o = some y ∧ (if y = true then p else q) = .code x tm' s' := by
  cases o with
  | none => cases h
  | some y => exact ⟨y, rfl, by cases y <;> exact h⟩
/-- plain ones: what the evaluator runs, without the guard. -/
theorem plain_ran {x : DOp} (hrd : (∃ f, x.r = .p f) ∨ rdOf P keep [] x.o.op = some x.r) (hxw : isW x.r = false) (hnr : ∀ f, x.r ≠ .r f) {d : DI} {k : K} (h : runCI ev (ciOf x.r d) k lo tm S = .code x' tm' s') :
    ∃ v S1, putD d v k lo tm S1 = .code x' tm' s' ∧ (∀ (B1 : Nat → Nat → Prop) cs, (∀ s1k, S.new s1k = some S1 → B1 x.i S.nx) → ρ S.nx = none → Ran0 P l ρ B1 cs S1 x lo tm v) ∧ (S1 = S ∨ ∃ k, S.new k = some S1) := by
  cases hr : x.r with
  | p f =>
    rw [hr] at h
    have h' : Option.rec (motive := fun _ => Out) .no (fun v => putD d v k lo tm S) (f lo tm S) = .code x' tm' s' := h
    cases hv : f lo tm S with
    | none => rw [hv] at h'; cases h'
    | some v =>
      rw [hv] at h'
      exact ⟨v, S, h', fun B1 cs _ _ => by unfold Ran0; rw [hr]; exact ⟨S, hv⟩, .inl rfl⟩
  | r f => exact (hnr f hr).elim
  | a f =>
    have hok := rdOf_ok (hrd.resolve_left fun ⟨f', e⟩ => by rw [hr] at e; cases e)
    rw [hr] at h hok
    have h' : Option.rec (motive := fun _ => Out) .no (fun p => putD d p.1 k lo tm p.2) (f lo tm S) = .code x' tm' s' := h
    cases hv : f lo tm S with
    | none => rw [hv] at h'; cases h'
    | some r =>
      rw [hv] at h'
      obtain ⟨b, hb, _⟩ := hok lo tm S r hv
      obtain ⟨v, S1⟩ := r
      refine ⟨v, S1, h', fun B1 cs hB hno => ?_, .inr ⟨b, hb⟩⟩
      unfold Ran0; rw [hr]
      have := AS.new_eq hb
      exact ⟨S, S1, hv, hB b hb, by rw [this.1]; exact Nat.lt_succ_self _, hno, .inl rfl⟩
  | w f => rw [hr] at hxw; cases hxw
  | c f as => rw [hr] at hxw; cases hxw
theorem DReg.look (hD : DReg P keep all l I) (x : DOp) (hx : x ∈ l) : (∃ f, x.r = .p f) ∨ rdOf P keep [] x.o.op = some x.r := by
  by_cases h : I x
  · exact .inl (hD.ins x hx h)
  · exact .inr (hD.rd x hx h)
/-- what the evaluator may change while the model waits: no temporary that is written already; no block that was there. -/
structure Grow (l : List DOp) (keep : Nat) (ρ : Ren) (X : DOp → Prop) (lo : Lo) (tm : T Value) (S : AS) (lo1 : Lo) (tm1 : T Value) (S1 : AS) : Prop where
  env : ∀ t, (∀ y ∈ l, ¬ X y → y.o.dst ≠ some t) → envget keep lo1 tm1 t = envget keep lo tm t
  nx : S.nx ≤ S1.nx
  old : ∀ b, b < S.nx → S1.h.get b = S.h.get b
  new : ∀ b, S.nx ≤ b → ρ b = none
theorem Grow.refl {X : DOp → Prop} (h : Rel P ρ S w) : Grow l keep ρ X lo tm S lo tm S := ⟨fun _ _ => rfl, Nat.le_refl _, fun _ _ => rfl, fun b hb => h.dom b hb⟩
theorem Grow.trans {X X1 : DOp → Prop} {lo1 lo2 : Lo} {tm1 tm2 : T Value} {S1 S2 : AS} (h : Grow l keep ρ X lo tm S lo1 tm1 S1) (h1 : Grow l keep ρ X1 lo1 tm1 S1 lo2 tm2 S2) (hX : ∀ y, X y → X1 y) : Grow l keep ρ X lo tm S lo2 tm2 S2 :=
  ⟨fun t ht => by rw [h1.env t fun y hy hn => ht y hy fun hx => hn (hX y hx), h.env t ht], Nat.le_trans h.nx h1.nx, fun b hb => by rw [h1.old b (Nat.lt_of_lt_of_le hb h.nx), h.old b hb], h.new⟩
theorem eval_op {n : Nat} {x : DOp} (hD : DReg P keep all l I) (hW : DWr all l) (h : St P keep nt all l E0 ρ0 s0 w0 a0 (Xs l n x.i) D B ρ cs lo tm S a w) (hx : x ∈ l) (hxw : isW x.r = false) (hn : lev l x = n) {dr : DR} (hdr : drOf keep nt all.toList (wsOf l) x = some dr)
    {k : KC} (hk : runDR ev dr k cs lo tm S = .code x' tm' s') : ∃ B1 cs1 lo1 tm1 S1, St P keep nt all l E0 ρ0 s0 w0 a0 (Xs l n (x.i + 1)) D B1 ρ cs1 lo1 tm1 S1 a w ∧ Grow l keep ρ (Xs l n x.i) lo tm S lo1 tm1 S1 ∧ k cs1 lo1 tm1 S1 = .code x' tm' s' := by
  obtain ⟨d, hd, hdr⟩ := ob_some hdr
  -- one way in which it ends
  have fin : ∀ {v : Value} {cs1 : List Chk} {S1 : AS}, putD d v (k cs1) lo tm S1 = .code x' tm' s' → (∀ c ∈ cs, c ∈ cs1) → (S1 = S ∨ ∃ kb, S.new kb = some S1) →
      (∀ (B1 : Nat → Nat → Prop), (∀ s1k, S.new s1k = some S1 → B1 x.i S.nx) → ρ S.nx = none → Ran P keep all l ρ B1 cs1 S1 x lo tm v) →
      ∃ B1 cs1 lo1 tm1 S1, St P keep nt all l E0 ρ0 s0 w0 a0 (Xs l n (x.i + 1)) D B1 ρ cs1 lo1 tm1 S1 a w ∧ Grow l keep ρ (Xs l n x.i) lo tm S lo1 tm1 S1 ∧ k cs1 lo1 tm1 S1 = .code x' tm' s' := by
    intro v cs1 S1 hp hcs hS hran
    obtain ⟨lo1, tm1, hk1, henv, htk, hnt⟩ := putD_env hd h.tk hp
    have hno : ρ S.nx = none := h.rel.dom _ (Nat.le_refl _)
    have hnX : ¬ Xs l n x.i x := by rintro (h | ⟨_, _, h⟩) <;> omega
    have genv : ∀ t, (∀ y ∈ l, ¬ Xs l n x.i y → y.o.dst ≠ some t) → envget keep lo1 tm1 t = envget keep lo tm t := fun t ht => by rw [henv, if_neg (ht x hx hnX)]
    rcases hS with rfl | ⟨kb, hkb⟩
    · refine ⟨B, cs1, lo1, tm1, _, h.grow hD hW hx hxw hn henv htk hnt (hran B (fun s1k e => ?_) hno) hcs (fun _ _ h => h) h.bB h.bI (Nat.le_refl _) (fun _ _ => rfl) h.rel h.stp, ⟨genv, Nat.le_refl _, fun _ _ => rfl, fun b hb => h.rel.dom b hb⟩, hk1⟩
      have := (AS.new_eq e).1; omega
    · obtain ⟨e1, e2⟩ := AS.new_eq hkb
      refine ⟨fun i b => B i b ∨ (i = x.i ∧ b = S.nx), cs1, lo1, tm1, S1, h.grow hD hW hx hxw hn henv htk hnt (hran _ (fun _ _ => .inr ⟨rfl, rfl⟩) hno) hcs (fun _ _ h => .inl h) (fun i b hb => ?_) (fun i j b hi hj => ?_) (by omega) (fun b hb => by rw [e2, if_neg (by omega)])
        (h.rel.phantom hkb) (h.stp.phantom h.rel hkb), ⟨genv, by omega, fun b hb => by rw [e2, if_neg (by omega)], fun b hb => h.rel.dom b hb⟩, hk1⟩
      · rcases hb with hb | ⟨_, rfl⟩
        · have := h.bB i b hb; exact ⟨by omega, this.2⟩
        · exact ⟨by omega, h.stp.nx⟩
      · rcases hi with hi | ⟨hi, hb⟩ <;> rcases hj with hj | ⟨hj, hb'⟩
        · exact h.bI i j b hi hj
        · have := (h.bB i b hi).1; omega
        · have := (h.bB j b hj).1; omega
        · omega
  -- reading
  have rd : ∀ {f : VF} {hi : Nat}, x.r = .r f → hi = highest x.i (wsOf l) → rdStep f d hi k cs lo tm S = .code x' tm' s' → (∀ v (B1 : Nat → Nat → Prop) cs1, Ran0 P l ρ B1 cs1 S x lo tm v → Ran P keep all l ρ B1 cs1 S x lo tm v) →
      ∃ B1 cs1 lo1 tm1 S1, St P keep nt all l E0 ρ0 s0 w0 a0 (Xs l n (x.i + 1)) D B1 ρ cs1 lo1 tm1 S1 a w ∧ Grow l keep ρ (Xs l n x.i) lo tm S lo1 tm1 S1 ∧ k cs1 lo1 tm1 S1 = .code x' tm' s' := by
    intro f hi hr hhi hst hup
    have hst' : Option.rec (motive := fun _ => Out) .no (fun v => putD d v (k ((hi, fun s' => vEqO v (f lo tm s')) :: cs)) lo tm S) (f lo tm S) = .code x' tm' s' := hst
    cases hv : f lo tm S with
    | none => rw [hv] at hst'; cases hst'
    | some v =>
      rw [hv] at hst'
      refine fin (v := v) hst' (fun c hc => by simp [hc]) (.inl rfl) (fun B1 _ _ => hup v B1 _ ?_)
      unfold Ran0; rw [hr, hhi]; simp
  have plain : (∀ f, x.r ≠ .r f) → ob (withGuard keep [] all.toList x.o d (ciOf x.r d)) (fun c => some (DR.pa c)) = some dr → ∃ B1 cs1 lo1 tm1 S1, St P keep nt all l E0 ρ0 s0 w0 a0 (Xs l n (x.i + 1)) D B1 ρ cs1 lo1 tm1 S1 a w ∧ Grow l keep ρ (Xs l n x.i) lo tm S lo1 tm1 S1 ∧ k cs1 lo1 tm1 S1 = .code x' tm' s' := by
    intro hnr hdr
    obtain ⟨c, hc, hdr⟩ := ob_some hdr
    cases hdr
    have hk : runCI ev c (k cs) lo tm S = .code x' tm' s' := hk
    rcases withGuard_some hc with ⟨hg, rfl⟩ | ⟨j, want, g, hg, hgo, rfl⟩
    · obtain ⟨v, S1, hp, hran, hS⟩ := plain_ran (l := l) (ρ := ρ) (hD.look x hx) hxw hnr hk
      exact fin hp (fun _ h => h) hS (fun B1 hB hno => by unfold Ran; rw [hg]; exact hran B1 cs hB hno)
    · have hk' : ifO (wantO want (g lo tm)) (runCI ev (ciOf x.r d) (k cs) lo tm S) (putD d (.tuple #[]) (k cs) lo tm S) = .code x' tm' s' := hk
      obtain ⟨y, hy, hk'⟩ := ifO_code hk'
      cases y with
      | true =>
        obtain ⟨v, S1, hp, hran, hS⟩ := plain_ran (l := l) (ρ := ρ) (hD.look x hx) hxw hnr hk'
        exact fin hp (fun _ h => h) hS (fun B1 hB hno => by unfold Ran; rw [hg]; exact ⟨g, true, hgo, hy, fun _ => hran B1 cs hB hno, fun e => by cases e⟩)
      | false =>
        exact fin (S1 := S) hk' (fun _ h => h) (.inl rfl) (fun B1 hB hno => by unfold Ran; rw [hg]; exact ⟨g, false, hgo, hy, fun e => (by cases e), fun _ => rfl⟩)
  cases hr : x.r with
  | r f =>
    rw [hr] at hdr
    simp only at hdr
    split at hdr
    · rename_i hg
      rw [fNat_eq] at hdr
      cases hdr
      exact rd hr rfl hk (fun v B1 cs1 h0 => by unfold Ran; rw [hg]; exact h0)
    · rename_i j want hg
      obtain ⟨g, hgo, hdr⟩ := ob_some hdr
      rw [fNat_eq] at hdr
      cases hdr
      have hk' : ifO (wantO want (g lo tm)) (rdStep f d (highest x.i (wsOf l)) k cs lo tm S) (putD d (.tuple #[]) (k cs) lo tm S) = .code x' tm' s' := hk
      obtain ⟨y, hy, hk'⟩ := ifO_code hk'
      cases y with
      | true => exact rd hr rfl hk' (fun v B1 cs1 h0 => by unfold Ran; rw [hg]; exact ⟨g, true, hgo, hy, fun _ => h0, fun e => by cases e⟩)
      | false => exact fin (S1 := S) hk' (fun _ h => h) (.inl rfl) (fun B1 hB hno => by unfold Ran; rw [hg]; exact ⟨g, false, hgo, hy, fun e => (by cases e), fun _ => rfl⟩)
  | p f => exact plain (by rw [hr]; intro f e; cases e) (by rw [hr] at hdr ⊢; exact hdr)
  | a f => exact plain (by rw [hr]; intro f e; cases e) (by rw [hr] at hdr ⊢; exact hdr)
  | w f => rw [hr] at hxw; cases hxw
  | c f as => rw [hr] at hxw; cases hxw
theorem St.congrX {X X' : DOp → Prop} (h : St P keep nt all l E0 ρ0 s0 w0 a0 X D B ρ cs lo tm S a w) (hX : ∀ y ∈ l, X y ↔ X' y) : St P keep nt all l E0 ρ0 s0 w0 a0 X' D B ρ cs lo tm S a w :=
  ⟨h.tk, fun t ht => h.env0 t fun y hy hXy => ht y hy ((hX y hy).1 hXy), fun x hx hXx => h.rcd x hx ((hX x hx).2 hXx), h.bB, h.bI, fun y hy hd => (hX y hy).1 (h.dX y hy hd), h.md, h.m0, h.e0, h.rel, h.stp, h.df, h.sz⟩
/-- a stage's operations. -/
theorem pre_run {n : Nat} (hD : DReg P keep all l I) (hW : DWr all l) {k : KC} : ∀ (l2 : List DOp) (m : Nat), l.drop m = l2 → ∀ (dl : List DR), stageOps keep nt all.toList (wsOf l) n l2 = some dl → ∀ B cs lo tm S, St P keep nt all l E0 ρ0 s0 w0 a0 (Xs l n m) D B ρ cs lo tm S a w →
    runDRs ev dl k cs lo tm S = .code x' tm' s' → ∃ B1 cs1 lo1 tm1 S1, St P keep nt all l E0 ρ0 s0 w0 a0 (Xs l n l.length) D B1 ρ cs1 lo1 tm1 S1 a w ∧ Grow l keep ρ (Xs l n m) lo tm S lo1 tm1 S1 ∧ k cs1 lo1 tm1 S1 = .code x' tm' s'
  | [], m, hm, dl, hdl, B, cs, lo, tm, S, h, hk => by
    cases hdl
    have hlen : l.length ≤ m := by
      have := congrArg List.length hm
      simp at this; omega
    refine ⟨B, cs, lo, tm, S, h.congrX (fun y hy => ?_), .refl h.rel, hk⟩
    have := (List.getElem?_eq_some_iff.1 (hD.mem hy)).1
    unfold Xs
    constructor
    · rintro (h | ⟨h1, h2, _⟩)
      · exact .inl h
      · exact .inr ⟨h1, h2, this⟩
    · rintro (h | ⟨h1, h2, _⟩)
      · exact .inl h
      · exact .inr ⟨h1, h2, by omega⟩
  | x :: l2, m, hm, dl, hdl, B, cs, lo, tm, S, h, hk => by
    have hxm : l[m]? = some x := by
      have := congrArg (·[0]?) hm
      simpa using this
    have hx : x ∈ l := List.mem_of_getElem? hxm
    have hi : x.i = m := hD.at_ m x hxm
    have hm' : l.drop (m + 1) = l2 := by rw [← List.drop_drop, hm]; rfl
    have xup : ∀ y, Xs l n m y → Xs l n (m + 1) y := fun y hy => hy.imp id fun ⟨h1, h2, h3⟩ => ⟨h1, h2, by omega⟩
    have skip : ¬ (lev l x = n ∧ isW x.r = false) → St P keep nt all l E0 ρ0 s0 w0 a0 (Xs l n (m + 1)) D B ρ cs lo tm S a w := fun hno => h.congrX fun y hy => by
      unfold Xs
      constructor
      · rintro (h | ⟨h1, h2, h3⟩)
        · exact .inl h
        · exact .inr ⟨h1, h2, by omega⟩
      · rintro (h | ⟨h1, h2, h3⟩)
        · exact .inl h
        · refine .inr ⟨h1, h2, ?_⟩
          have : y.i ≠ m := fun e => by
            have := hD.inj hy hx (by omega)
            subst this
            exact hno ⟨h1, h2⟩
          omega
    have hdl' : bif' (isW x.r) (stageOps keep nt all.toList (wsOf l) n l2) (bif' (Nat.beq (level x.m (wsOf l)) n) (ob (drOf keep nt all.toList (wsOf l) x) fun d => ob (stageOps keep nt all.toList (wsOf l) n l2) fun r => some (d :: r)) (stageOps keep nt all.toList (wsOf l) n l2)) = some dl := hdl
    cases hw : isW x.r with
    | true =>
      rw [hw, bif'_true] at hdl'
      obtain ⟨B1, cs1, lo1, tm1, S1, h1, g1, hk1⟩ := pre_run hD hW l2 (m + 1) hm' dl hdl' B cs lo tm S (skip (fun e => by rw [hw] at e; cases e.2)) hk
      exact ⟨B1, cs1, lo1, tm1, S1, h1, (Grow.refl h.rel).trans g1 xup, hk1⟩
    | false =>
      rw [hw, bif'_false] at hdl'
      cases hb : Nat.beq (level x.m (wsOf l)) n with
      | false =>
        rw [hb, bif'_false] at hdl'
        have := pre_run hD hW l2 (m + 1) hm' dl hdl' B cs lo tm S (skip (fun e => ?_)) hk
        · obtain ⟨B1, cs1, lo1, tm1, S1, h1, g1, hk1⟩ := this
          exact ⟨B1, cs1, lo1, tm1, S1, h1, (Grow.refl h.rel).trans g1 xup, hk1⟩
        have : level x.m (wsOf l) = n := e.1
        rw [this, Nat.beq_refl] at hb; cases hb
      | true =>
        rw [hb, bif'_true] at hdl'
        obtain ⟨dr, hdr, hdl'⟩ := ob_some hdl'
        obtain ⟨r, hr, hdl'⟩ := ob_some hdl'
        cases hdl'
        have hk' : runDR ev dr (runDRs ev r k) cs lo tm S = .code x' tm' s' := hk
        rw [← hi] at h
        obtain ⟨B1, cs1, lo1, tm1, S1, h1, g1, hk1⟩ := eval_op hD hW h hx hw (Nat.eq_of_beq_eq_true hb) hdr hk'
        rw [hi] at h1 g1
        obtain ⟨B2, cs2, lo2, tm2, S2, h2, g2, hk2⟩ := pre_run hD hW l2 (m + 1) hm' r hr B1 cs1 lo1 tm1 S1 h1 hk1
        exact ⟨B2, cs2, lo2, tm2, S2, h2, g1.trans g2 xup, hk2⟩
/-- what is left to run, at a stage's end. -/
def Cont (P : Program) (keep nt : Nat) (all : Array Oper) (l : List DOp) (ev : Ev) (last : List DR) (kf : K) (todo : List DOp) (c : Nat) (cs : List Chk) (lo : Lo) (tm : T Value) (S : AS) (out : Out) : Prop :=
  match todo with
  | [] => kf lo tm S = out
  | x :: rest => ∃ d cw sts, mkDst keep nt x.o.dst = some d ∧ withGuard keep [] all.toList x.o d (ciOf x.r d) = some cw ∧ stages keep nt all.toList (wsOf l) l rest (c + 1) = some sts ∧ runCI ev cw (runStages ev sts last kf (c + 1) cs) lo tm S = out
theorem stage_end {c : Nat} {k : KC} {out : XExit × T Value × AS} (h : endStage c k cs lo tm S = .code out.1 out.2.1 out.2.2) : chksOk c S cs = true ∧ k cs lo tm S = .code out.1 out.2.1 out.2.2 := by
  have h : bif' (chksOk c S cs) (k cs lo tm S) .no = .code out.1 out.2.1 out.2.2 := h
  cases hc : chksOk c S cs with
  | false => rw [hc] at h; cases h
  | true => rw [hc] at h; exact ⟨rfl, h⟩
theorem stage_run {c : Nat} {kf : K} (hD : DReg P keep all l I) (hW : DWr all l) {todo : List DOp} {sts : List Stage} {last : List DR} (hst : stages keep nt all.toList (wsOf l) l todo c = some sts) (hlast : stageOps keep nt all.toList (wsOf l) (wsOf l).length l = some last) (hc : c + todo.length = (wsOf l).length)
    (h : St P keep nt all l E0 ρ0 s0 w0 a0 (Xs l c 0) D B ρ cs lo tm S a w) (hk : runStages ev sts last kf c cs lo tm S = .code x' tm' s') :
    ∃ B1 cs1 lo1 tm1 S1, St P keep nt all l E0 ρ0 s0 w0 a0 (Xs l c l.length) D B1 ρ cs1 lo1 tm1 S1 a w ∧ Grow l keep ρ (Xs l c 0) lo tm S lo1 tm1 S1 ∧ chksOk c S1 cs1 = true ∧ Cont P keep nt all l ev last kf todo c cs1 lo1 tm1 S1 (.code x' tm' s') := by
  cases todo with
  | nil =>
    cases hst
    have hc : c = (wsOf l).length := by simpa using hc
    have hk' : runDRs ev last (endStage c fun _ => kf) cs lo tm S = .code x' tm' s' := hk
    rw [← hc] at hlast
    obtain ⟨B1, cs1, lo1, tm1, S1, h1, g1, hk1⟩ := pre_run hD hW l 0 (by simp) last hlast B cs lo tm S h hk'
    obtain ⟨e1, e2⟩ := stage_end (out := (x', tm', s')) hk1
    exact ⟨B1, cs1, lo1, tm1, S1, h1, g1, e1, e2⟩
  | cons x rest =>
    have hst' : ob (stageOps keep nt all.toList (wsOf l) c l) (fun pre => ob (mkDst keep nt x.o.dst) fun d => ob (withGuard keep [] all.toList x.o d (ciOf x.r d)) fun cw => fNat (Nat.succ c) fun n => ob (stages keep nt all.toList (wsOf l) l rest n) fun r => some (⟨pre, cw⟩ :: r)) = some sts := hst
    obtain ⟨pre, hpre, hst'⟩ := ob_some hst'
    obtain ⟨d, hd, hst'⟩ := ob_some hst'
    obtain ⟨cw, hcw, hst'⟩ := ob_some hst'
    rw [fNat_eq] at hst'
    obtain ⟨r, hr, hst'⟩ := ob_some hst'
    cases hst'
    have hk' : runDRs ev pre (endStage c fun cs => runCI ev cw (runStages ev r last kf (c + 1) cs)) cs lo tm S = .code x' tm' s' := hk
    obtain ⟨B1, cs1, lo1, tm1, S1, h1, g1, hk1⟩ := pre_run hD hW l 0 (by simp) pre hpre B cs lo tm S h hk'
    obtain ⟨e1, e2⟩ := stage_end (out := (x', tm', s')) hk1
    exact ⟨B1, cs1, lo1, tm1, S1, h1, g1, e1, d, cw, r, hd, hcw, hr, e2⟩
end
end Go.Eng
/-! Regions that draw their order: the model's run. -/
namespace Go.Eng
open Go
variable {P : Program}
theorem bif_tt {a b : Bool} (h : bif' a b false = true) : a = true ∧ b = true := by
  cases a with
  | true => exact ⟨rfl, h⟩
  | false => cases h
theorem adrSame_sound {a b : Addr} (h : adrSame a b = true) : a = b := by
  unfold adrSame at h
  split at h
  · rename_i h1 h2
    rw [bif'_eq] at h
    split at h
    · rename_i hb
      obtain ⟨b1, o1, s1⟩ := a
      obtain ⟨b2, o2, s2⟩ := b
      simp only at h1 h2 hb h
      subst h1; subst h2
      rw [Nat.eq_of_beq_eq_true hb, Nat.eq_of_beq_eq_true h]
    · cases h
  · cases h
theorem adrSameO_sound {a b : Option Addr} (h : adrSameO a b = true) : a = b := by
  unfold adrSameO at h
  split at h
  · rfl
  · rw [adrSame_sound h]
  · cases h
theorem natSameO_sound {a b : Option Nat} (h : natSameO a b = true) : a = b := by
  unfold natSameO at h
  split at h
  · rfl
  · rw [Nat.eq_of_beq_eq_true h]
  · cases h
theorem fnSame_sound {a b : Fn} (h : fnSame a b = true) : a = b := by
  unfold fnSame at h
  split at h
  · rw [Nat.eq_of_beq_eq_true h]
  · rw [Nat.eq_of_beq_eq_true h]
  · cases h
theorem vEqs_sound {f : Value → Value → Bool} (hf : ∀ x y, f x y = true → x = y) : ∀ a b : List Value, vEqs f a b = true → a = b
  | [], [], _ => rfl
  | [], _ :: _, h => by cases h
  | _ :: _, [], h => by cases h
  | x :: a, y :: b, h => by
    have h : bif' (f x y) (vEqs f a b) false = true := h
    cases hx : f x y with
    | false => rw [hx] at h; cases h
    | true => rw [hx] at h; rw [hf x y hx, vEqs_sound hf a b h]
theorem arr_ext {a b : Array Value} (h : a.toList = b.toList) : a = b := Array.ext' h
theorem vEq_sound : ∀ (n : Nat) (v u : Value), vEq n v u = true → v = u
  | 0, _, _, h => by cases h
  | n + 1, v, u, h => by
    have ih := vEq_sound n
    have h : (match (generalizing := false) v, u with
      | .bool a, .bool b => bif' a b (bNot b)
      | .int k a, .int k' b => bif' (kEq k k') (iEq a b) false
      | .string a, .string b => bEq a.data.toList b.data.toList
      | .pointer a, .pointer b => adrSameO a b
      | .slice a n c, .slice b m d => bif' (adrSameO a b) (bif' (Nat.beq n m) (Nat.beq c d) false) false
      | .map a, .map b => natSameO a b
      | .func f a b, .func g c d => bif' (fnSame f g) (bif' (vEqs (vEq n) a.toList c.toList) (vEqs (vEq n) b.toList d.toList) false) false
      | .nilFunc, .nilFunc => true
      | .nilIface, .nilIface => true
      | .iface t a, .iface u b => bif' (Nat.beq t u) (vEq n a b) false
      | .agg a, .agg b => vEqs (vEq n) a.toList b.toList
      | .tuple a, .tuple b => vEqs (vEq n) a.toList b.toList
      | _, _ => false) = true := h
    rename_i hold
    clear hold
    split at h
    · rename_i a b; cases a <;> cases b <;> first | rfl | (exact (Bool.noConfusion h))
    · obtain ⟨h1, h2⟩ := bif_tt h
      rw [iEq_eq] at h2
      rw [kEq_iff.1 h1, of_decide_eq_true h2]
    · rename_i a b
      rw [bEq_eq] at h
      obtain ⟨a⟩ := a; obtain ⟨b⟩ := b
      have : a = b := Array.ext' (eq_of_beq h)
      rw [this]
    · rw [adrSameO_sound h]
    · obtain ⟨h1, h⟩ := bif_tt h
      obtain ⟨h2, h3⟩ := bif_tt h
      rw [adrSameO_sound h1, Nat.eq_of_beq_eq_true h2, Nat.eq_of_beq_eq_true h3]
    · rw [natSameO_sound h]
    · obtain ⟨h1, h⟩ := bif_tt h
      obtain ⟨h2, h3⟩ := bif_tt h
      rw [fnSame_sound h1, arr_ext (vEqs_sound ih _ _ h2), arr_ext (vEqs_sound ih _ _ h3)]
    · rfl
    · rfl
    · obtain ⟨h1, h2⟩ := bif_tt h
      rw [Nat.eq_of_beq_eq_true h1, ih _ _ h2]
    · rw [arr_ext (vEqs_sound ih _ _ h)]
    · rw [arr_ext (vEqs_sound ih _ _ h)]
    · cases h
theorem vEqO_sound {v : Value} {o : Option Value} (h : vEqO v o = true) : o = some v := by
  cases o with
  | none => cases h
  | some u => rw [vEq_sound 12 v u h]
theorem chksOk_spec {n : Nat} {s : AS} : ∀ {l : List Chk}, chksOk n s l = true → ∀ c ∈ l, n ≤ c.1 → c.2 s = true
  | [], _, c, hc, _ => by simp at hc
  | c0 :: l, h, c, hc, hn => by
    have h : bif' (Nat.ble n c0.1) (bif' (c0.2 s) (chksOk n s l) false) (chksOk n s l) = true := h
    rw [bif'_eq] at h
    rcases List.mem_cons.1 hc with rfl | hc
    · rw [if_pos (Nat.ble_eq_true_of_le hn)] at h
      exact (bif_tt h).1
    · refine chksOk_spec ?_ c hc hn
      split at h
      · exact (bif_tt h).2
      · exact h
end Go.Eng
/-! Regions that draw their order: the model's run. -/
namespace Go.Eng
open Go
variable {P : Program}
section
variable {keep nt : Nat} {all : Array Oper} {l : List DOp} {I : DOp → Prop} {E0 : Nat → Option Value} {ρ0 : Ren} {s0 : AS} {w0 : World} {a0 : Act} {D : Nat → Prop} {B : Nat → Nat → Prop} {ρ : Ren} {cs : List Chk} {lo : Lo} {tm : T Value} {S : AS} {a : Act} {w : World} {ev : Ev}
variable {x' : XExit} {tm' : T Value} {s' : AS} {F : Fence} {c : Nat}
/-- what an operation that does not write does to the world. -/
structure Quiet (ρ : Ren) (w : World) (ρ' : Ren) (w' : World) : Prop where
  old : ∀ b, b < w.heap.size → w'.heap[b]? = w.heap[b]?
  size : w.heap.size ≤ w'.heap.size
  new : ∀ a y, ρ a = none → ρ' a = some y → w.heap.size ≤ y.b
theorem Quiet.refl (ρ : Ren) (w : World) : Quiet ρ w ρ w := ⟨fun _ _ => rfl, Nat.le_refl _, fun a y e e' => by rw [e] at e'; cases e'⟩
theorem ran0_exec {X : DOp → Prop} (hD : DReg P keep all l I) (h : St P keep nt all l E0 ρ0 s0 w0 a0 X D B ρ cs lo tm S a w) (hchk : chksOk c S cs = true) {x : DOp} (hx : x ∈ l) (hI : ¬ I x) (hhi : c ≤ highest x.i (wsOf l)) {lo' : Lo} {tm' : T Value} {v : Value}
    (hr : Ran0 P l ρ B cs S x lo' tm' v) (hops : OpsRel ρ keep [] lo' tm' a.eval x.o.op.operands) :
    ∃ u ρ' w', (execOp a.eval x.o).run P w = .ok (.value u) w' ∧ VRel ρ' v u ∧ RenLe ρ ρ' ∧ Rel P ρ' S w' ∧ Stp ρ0 s0 w0 ρ' S w' ∧ (∀ j b, B j b → j ≠ x.i → ρ b = none → ρ' b = none) ∧ Quiet ρ w ρ' w' := by
  have hok := rdOf_ok (hD.rd x hx hI)
  unfold Ran0 at hr
  split at hr
  · rename_i f hf
    rw [hf] at hok
    obtain ⟨s, hv⟩ := hr
    obtain ⟨u, h1, h2⟩ := hok.2 ρ lo' tm' s v w a.eval hv hops
    exact ⟨u, ρ, w, h1, h2, .refl _, h.rel, h.stp, fun _ _ _ _ e => e, .refl _ _⟩
  · rename_i f hf
    rw [hf] at hok
    have hv := vEqO_sound (chksOk_spec hchk _ hr hhi)
    obtain ⟨u, h1, h2⟩ := hok ρ lo' tm' S v w a.eval hv h.rel hops
    exact ⟨u, ρ, w, h1, h2, .refl _, h.rel, h.stp, fun _ _ _ _ e => e, .refl _ _⟩
  · rename_i f hf
    rw [hf] at hok
    obtain ⟨s1, s1', hv, hB, hlt, hno, hg⟩ := hr
    obtain ⟨k, hk, hm⟩ := hok lo' tm' s1 _ hv
    obtain ⟨m, he, x0, u, w', e1, e2, e3, e4, e5, e6, e7, e8, e9⟩ := hm ρ w a.eval hno hops
    have hrel : Rel P (ρ.put s1.nx x0) S w' := by
      rcases hg with hg | hg
      · have hget : S.h.get s1.nx = some k := by rw [hg, (AS.new_eq hk).2, if_pos rfl]
        exact h.rel.realize hlt hno hget e2 e3 e4 e9
      · exact h.rel.realize0 hlt hno hg e3 e4
    refine ⟨u, ρ.put s1.nx x0, w', by rw [he]; exact run_val e1, e8, put_le hno x0, hrel, h.stp.realize h.rel (h.bB _ _ hB).2 e2 e3 e4 e5 e6 e7, fun j b hb hj hn => ?_, e4, by omega, fun a y h0 h1 => ?_⟩
    rotate_left
    · unfold Ren.put at h1
      split at h1
      · cases h1; omega
      · rw [h0] at h1; cases h1
    unfold Ren.put
    rw [if_neg (fun e => ?_)]
    · exact hn
    · subst e; exact hj (h.bI _ _ _ hb hB)
  · exact hr.elim
/-- one operation that does not write. -/
theorem model_op (hF : WideF F) (hD : DReg P keep all l I) (hW : DWr all l) (h : St P keep nt all l E0 ρ0 s0 w0 a0 (Xs l c l.length) D B ρ cs lo tm S a w) (hchk : chksOk c S cs = true) (hdown : ∀ y ∈ l, D y.i → ∀ j, bitOf y.m j = true → D j)
    {x : DOp} (hx : x ∈ l) (hI : ¬ I x) (hxw : isW x.r = false) (hxX : Xs l c l.length x) (hxD : ¬ D x.i) (hpre : ∀ j, bitOf x.m j = true → D j) (hhi : c ≤ highest x.i (wsOf l)) {Q : Exit → Act → World → Prop} {N : Act → World → Prop}
    (hN : ∀ ρ' a' w', St P keep nt all l E0 ρ0 s0 w0 a0 (Xs l c l.length) (fun i => D i ∨ i = x.i) B ρ' cs lo tm S a' w' → RenLe ρ ρ' → Quiet ρ w ρ' w' → N a' w') : wpOpIn F 0 P all Q x.i N a w := by
  obtain ⟨lo', tm', v, hran, hd, ht⟩ := h.rcd x hx hxX hxw hxD
  have huse : ∀ t ∈ usesOf all.toList x.o, ∀ v, envget keep lo' tm' t = some v → VRel ρ v (a.eval (.tmp t)) := fun t hu v hv => h.use hD hW hdown hx hxD hpre ht hu hv
  have hops := opsRel_of huse
  have hdf : ∀ c, x.o.op ≠ .defer c := fun c e => by have := hD.rd x hx hI; rw [e] at this; cases this
  unfold wpOpIn
  rw [hD.op x hx]
  simp only
  have run0 : Ran0 P l ρ B cs S x lo' tm' v → x.o.wpIn F 0 P a w N Q := fun hr => by
    obtain ⟨u, ρ', w', h1, h2, h3, h4, h5, h6, h7⟩ := ran0_exec hD h hchk hx hI hhi hr hops
    refine ⟨fun f _ => hF.fn f, ?_⟩
    rw [Oper.semAt_eq _ _ _ hdf, h1]
    exact hN _ _ _ (h.real hD hW hx hxX hd h2 h3 h4 h5 h6) h3 h7
  unfold Ran at hran
  split at hran
  · rename_i hg
    have hw : Region.wanted x.o (yielded all a.tmps) = true := by unfold Region.wanted; rw [hg]
    rw [if_pos hw]
    exact run0 hran
  · rename_i j want hg
    obtain ⟨g, y, hgo, hy, h1, h2⟩ := hran
    have hw := wantO_ok (ρ := ρ) (al := []) (fun d g v ⟨o', ho', hd'⟩ hm hv => by
      rw [mkOp_tmp hm] at hv
      exact huse d (uses_guard hg ho' hd') v hv) hg hgo hy
    cases y with
    | true => rw [if_pos hw]; exact run0 (h1 rfl)
    | false =>
      rw [if_neg (by rw [hw]; simp)]
      refine ⟨fun f _ => hF.fn f, hN _ _ _ (h.real hD hW hx hxX hd (by rw [h2 rfl]; exact .tuple .nil) (.refl _) h.rel h.stp (fun _ _ _ _ e => e)) (.refl _) (.refl _ _)⟩
theorem ready_iff {listed : Array Bool} {i : Nat} : i ∈ Region.ready .any all listed ↔ i < all.size ∧ listed.getD i true = false ∧ ∃ o, all[i]? = some o ∧ ∀ e ∈ o.after.toList, Region.binds .any e = true → listed.getD e.on false = true := by
  unfold Region.ready
  rw [List.mem_filter, List.mem_range, Bool.and_eq_true]
  refine and_congr Iff.rfl (and_congr (by simp) ?_)
  cases ho : all[i]? with
  | none => simp
  | some o =>
    simp only [Option.map_some, Option.getD_some, Array.all_eq_true']
    constructor
    · intro h
      refine ⟨o, rfl, fun e he hb => ?_⟩
      have := h e (by simpa using he)
      simpa [hb] using this
    · rintro ⟨o', ho', h⟩ e he
      cases ho'
      cases hb : Region.binds .any e with
      | false => simp
      | true => simpa using h e (by simpa using he) hb
theorem unlisted_set {listed : Array Bool} {i : Nat} : ∀ (r : List Nat), r.Nodup → i ∈ r → i < listed.size → listed.getD i true = false →
    (r.filter fun j => !(listed.setIfInBounds i true).getD j true).length + 1 = (r.filter fun j => !listed.getD j true).length
  | [], _, hi, _, _ => by simp at hi
  | j :: r, hn, hi, hlt, hf => by
    rw [List.nodup_cons] at hn
    have other : ∀ k, k ≠ i → (listed.setIfInBounds i true).getD k true = listed.getD k true := fun k hk => by
      rw [Array.getD_eq_getD_getElem?, Array.getD_eq_getD_getElem?, Array.getElem?_setIfInBounds_ne (Ne.symm hk)]
    by_cases e : j = i
    · subst e
      have h1 : (listed.setIfInBounds j true).getD j true = true := by
        rw [Array.getD_eq_getD_getElem?, Array.getElem?_setIfInBounds_self_of_lt hlt]; rfl
      rw [List.filter_cons, List.filter_cons, h1, hf]
      simp only [Bool.not_true, Bool.false_eq_true, if_false, Bool.not_false, if_true, List.length_cons]
      congr 2
      refine List.filter_congr fun k hk => ?_
      rw [other k (fun e => by subst e; exact hn.1 hk)]
    · have hi' : i ∈ r := (List.mem_cons.1 hi).resolve_left (Ne.symm e)
      have ih := unlisted_set r hn.2 hi' hlt hf
      rw [List.filter_cons, List.filter_cons, other j e]
      split
      · simp only [List.length_cons]; omega
      · exact ih
/-- when all has been carried out. -/
theorem St.envOk {X : DOp → Prop} (h : St P keep nt all l E0 ρ0 s0 w0 a0 X D B ρ cs lo tm S a w) (hall : ∀ y ∈ l, D y.i) : EnvOk keep nt ρ tm a := by
  refine ⟨h.sz, h.tk, fun t v hv => ?_⟩
  have hg : envget keep lo tm t = some v := by unfold envget; rw [h.tk t v hv]; exact hv
  by_cases hex : ∃ y ∈ l, y.o.dst = some t
  · obtain ⟨y, hy, hyd⟩ := hex
    obtain ⟨v', u, e1, e2, e3⟩ := h.md y hy (hall y hy) t hyd
    rw [hg] at e1; cases e1
    exact ⟨u, e2, e3⟩
  · rw [h.env0 t fun y hy _ hyd => hex ⟨y, hy, hyd⟩] at hg
    obtain ⟨u, e1, e2⟩ := h.e0 t v hg
    exact ⟨u, by rw [h.m0 t fun y hy _ hyd => hex ⟨y, hy, hyd⟩]; exact e1, e2⟩
theorem draw_run {kf : K} {J : (Nat → Prop) → Ren → AS → Lo → T Value → World → Prop} {Sp : DOp → Prop} (hF : WideF F) (hev : EvOk P ev) (hD : DReg P keep all l I) (hW : DWr all l) {last : List DR} (hlast : stageOps keep nt all.toList (wsOf l) (wsOf l).length l = some last) {Q : Exit → Act → World → Prop}
    (hQ : ∀ D B ρ cs lo tm S a w, (∀ y ∈ l, D y.i) → St P keep nt all l E0 ρ0 s0 w0 a0 (Xs l (wsOf l).length l.length) D B ρ cs lo tm S a w → J D ρ S lo tm w → kf lo tm S = .code x' tm' s' → Q .normal a w)
    (hSp : ∀ x ∈ l, I x → Sp x) (hSw : ∀ x ∈ l, Sp x → isW x.r = false)
    (hJg : ∀ (D : Nat → Prop) (c : Nat) ρ S lo tm w lo1 tm1 S1, 1 ≤ c → (∀ y ∈ l, D y.i → Xs l c 0 y) → J D ρ S lo tm w → Grow l keep ρ (Xs l c 0) lo tm S lo1 tm1 S1 → J D ρ S1 lo1 tm1 w)
    (hJr : ∀ (D : Nat → Prop) ρ S lo tm w x ρ' w', x ∈ l → ¬ Sp x → J D ρ S lo tm w → RenLe ρ ρ' → Quiet ρ w ρ' w' → J (fun i => D i ∨ i = x.i) ρ' S lo tm w')
    (hJs : ∀ (c : Nat) (D : Nat → Prop) B ρ cs lo tm S a w x (N : Act → World → Prop), x ∈ l → Sp x → ¬ D x.i → (∀ j, bitOf x.m j = true → D j) → (∀ y ∈ l, D y.i → ∀ j, bitOf y.m j = true → D j) → Xs l c l.length x → St P keep nt all l E0 ρ0 s0 w0 a0 (Xs l c l.length) D B ρ cs lo tm S a w → J D ρ S lo tm w →
      (∀ ρ' a' w', St P keep nt all l E0 ρ0 s0 w0 a0 (Xs l c l.length) (fun i => D i ∨ i = x.i) B ρ' cs lo tm S a' w' → J (fun i => D i ∨ i = x.i) ρ' S lo tm w' → N a' w') → wpOpIn F 0 P all Q x.i N a w)
    (hJw : ∀ (c : Nat) (D : Nat → Prop) B ρ cs S lo tm a w x ρ' S1 lo1 tm1 w1 v, x ∈ l → isW x.r = true → ¬ D x.i → St P keep nt all l E0 ρ0 s0 w0 a0 (Xs l c l.length) D B ρ cs lo tm S a w → (∀ t, x.o.dst = some t → ¬ ∃ y ∈ l, y ≠ x ∧ y.o.dst = some t) → lev l x = c → J D ρ S lo tm w → Rel P ρ' S1 w1 → Stp ρ S w ρ' S1 w1 → (∀ t, envget keep lo1 tm1 t = if x.o.dst = some t then some v else envget keep lo tm t) → J (fun i => D i ∨ i = x.i) ρ' S1 lo1 tm1 w1) :
    ∀ (fuel : Nat) (listed : Array Bool) (D : Nat → Prop) (B : Nat → Nat → Prop) (ρ : Ren) (cs : List Chk) (lo : Lo) (tm : T Value) (S : AS) (a : Act) (w : World) (done todo : List DOp),
      listed.size = all.size → (∀ i, D i ↔ listed.getD i false = true) → (∀ y ∈ l, D y.i → ∀ j, bitOf y.m j = true → D j) → ((List.range all.size).filter (fun i => !listed.getD i true)).length ≤ fuel →
      wsOf l = done ++ todo → (∀ y ∈ done, D y.i) → (∀ y ∈ todo, ¬ D y.i) → St P keep nt all l E0 ρ0 s0 w0 a0 (Xs l done.length l.length) D B ρ cs lo tm S a w → J D ρ S lo tm w → chksOk done.length S cs = true →
      Cont P keep nt all l ev last kf todo done.length cs lo tm S (.code x' tm' s') → wpAnyIn F 0 P .any all Q fuel listed a w := by
  intro fuel
  induction fuel with
  | zero =>
    intro listed D B ρ cs lo tm S a w done todo hsz hDl hdown hfuel hsplit hdone htodo h hJ hchk hcont
    have hall : ∀ i, i < all.size → listed.getD i true = true := fun i hi => by
      cases hb : listed.getD i true with
      | true => rfl
      | false =>
        have hm : i ∈ (List.range all.size).filter (fun i => !listed.getD i true) := List.mem_filter.2 ⟨List.mem_range.2 hi, by rw [hb]; rfl⟩
        have := List.length_pos_of_mem hm
        omega
    have hr : Region.ready .any all listed = [] := by
      rw [List.eq_nil_iff_forall_not_mem]
      intro i hi
      obtain ⟨h1, h2, _⟩ := ready_iff.1 hi
      rw [hall i h1] at h2; cases h2
    refine ⟨hr, ?_⟩
    have hDall : ∀ y ∈ l, D y.i := fun y hy => by
      have hlt : y.i < all.size := by rw [← hD.len]; exact (List.getElem?_eq_some_iff.1 (hD.mem hy)).1
      have := hall y.i hlt
      rw [hDl, Array.getD_eq_getD_getElem?]
      rw [Array.getD_eq_getD_getElem?] at this
      rw [Array.getElem?_eq_getElem (by omega)] at this ⊢
      exact this
    have htn : todo = [] := by
      cases todo with
      | nil => rfl
      | cons z rest => exact (htodo z (by simp) (hDall z ((mem_ws (l := l)).1 (by rw [hsplit]; simp)).1)).elim
    subst htn
    have hlen : done.length = (wsOf l).length := by rw [hsplit]; simp
    rw [hlen] at h
    exact hQ D B ρ cs lo tm S a w hDall h hJ hcont
  | succ fuel ih =>
    intro listed D B ρ cs lo tm S a w done todo hsz hDl hdown hfuel hsplit hdone htodo h hJ hchk hcont
    refine ⟨fun hr => ?_, fun i hi => ?_⟩
    · -- nothing is ready: all has been carried out
      have hDall : ∀ n, ∀ y ∈ l, y.i = n → D y.i := by
        intro n
        induction n using Nat.strongRecOn with
        | _ n ihn =>
          intro y hy hyn
          by_cases hb : D y.i
          · exact hb
          exfalso
          have hlt : y.i < all.size := by rw [← hD.len]; exact (List.getElem?_eq_some_iff.1 (hD.mem hy)).1
          have hmem : y.i ∈ Region.ready .any all listed := ready_iff.2 ⟨hlt, by
              have : ¬ listed.getD y.i false = true := fun e => hb ((hDl _).2 e)
              rw [Array.getD_eq_getD_getElem?, Array.getElem?_eq_getElem (by omega)] at this ⊢
              simpa using this, y.o, hD.op y hy, fun e he hbe => by
              have hlt' := hD.below y hy _ (hD.dir y hy e he hbe)
              have hel : e.on < l.length := by have := (List.getElem?_eq_some_iff.1 (hD.mem hy)).1; omega
              have hz := hD.at_ e.on l[e.on] (by simp [hel])
              have := ihn e.on (by omega) l[e.on] (by simp) hz
              rw [hz] at this
              exact (hDl _).1 this⟩
          rw [hr] at hmem; cases hmem
      have hDall : ∀ y ∈ l, D y.i := fun y hy => hDall y.i y hy rfl
      have htn : todo = [] := by
        cases todo with
        | nil => rfl
        | cons z rest => exact (htodo z (by simp) (hDall z ((mem_ws (l := l)).1 (by rw [hsplit]; simp)).1)).elim
      subst htn
      have hlen : done.length = (wsOf l).length := by rw [hsplit]; simp
      rw [hlen] at h
      exact hQ D B ρ cs lo tm S a w hDall h hJ hcont
    · obtain ⟨hlt, hnl, o, ho, hafter⟩ := ready_iff.1 hi
      obtain ⟨x, hx, rfl, rfl⟩ := hD.ofOp ho
      have hlsz : x.i < listed.size := by omega
      have hxD : ¬ D x.i := fun e => by
        have := (hDl _).1 e
        rw [Array.getD_eq_getD_getElem?, Array.getElem?_eq_getElem hlsz] at this hnl
        simp only [Option.getD_some] at this hnl
        rw [hnl] at this; cases this
      have hpre : ∀ j, bitOf x.m j = true → D j := fun j hj => by
        obtain ⟨e, he, hb, h1 | ⟨y, hy, hye, hyj⟩⟩ := hD.back x hx j hj
        · rw [← h1]; exact (hDl _).2 (hafter e he hb)
        · exact hdown y hy (by rw [hye]; exact (hDl _).2 (hafter e he hb)) j hyj
      -- what is listed behind it
      have hsz' : (listed.setIfInBounds x.i true).size = all.size := by simpa using hsz
      have hDl' : ∀ i, (D i ∨ i = x.i) ↔ (listed.setIfInBounds x.i true).getD i false = true := fun i => by
        rw [Array.getD_eq_getD_getElem?]
        by_cases e : i = x.i
        · subst e
          rw [Array.getElem?_setIfInBounds_self_of_lt hlsz]; simp
        · rw [Array.getElem?_setIfInBounds_ne (Ne.symm e), ← Array.getD_eq_getD_getElem?, ← hDl]
          simp [e]
      have hdown' : ∀ y ∈ l, (D y.i ∨ y.i = x.i) → ∀ j, bitOf y.m j = true → (D j ∨ j = x.i) := fun y hy hyD j hj => by
        rcases hyD with hyD | hyD
        · exact .inl (hdown y hy hyD j hj)
        · rw [hD.inj hy hx hyD] at hj
          exact .inl (hpre j hj)
      have hfuel' : ((List.range all.size).filter (fun i => !(listed.setIfInBounds x.i true).getD i true)).length ≤ fuel := by
        have := unlisted_set (listed := listed) (i := x.i) (List.range all.size) List.nodup_range (List.mem_range.2 hlt) hlsz hnl
        omega
      have hcntD : cnt (fun i => listed.getD i false) (wsOf l) = done.length := by
        rw [hsplit, cnt_append, cnt_all (fun y hy => (hDl _).1 (hdone y hy)), cnt_none (fun y hy => by
          cases hb : listed.getD y.i false with
          | false => rfl
          | true => exact (htodo y hy ((hDl _).2 hb)).elim), Nat.add_zero]
      have hlev : lev l x ≤ done.length := by
        unfold lev
        rw [level_cnt, ← hcntD]
        exact cnt_le fun y _ hb => (hDl _).1 (hpre _ hb)
      cases hxw : isW x.r with
      | false =>
        have hxX : Xs l done.length l.length x := by
          rcases Nat.lt_or_eq_of_le hlev with h' | h'
          · exact .inl h'
          · exact .inr ⟨h', hxw, (List.getElem?_eq_some_iff.1 (hD.mem hx)).1⟩
        have hhi : done.length ≤ highest x.i (wsOf l) := by
          rw [← hcntD]
          refine cnt_high fun y hy hyD => ?_
          cases hb : bitOf y.m x.i with
          | false => rfl
          | true => exact (hxD (hdown y (mem_ws.1 hy).1 ((hDl _).2 hyD) _ hb)).elim
        have htd : ∀ y ∈ todo, ¬ (D y.i ∨ y.i = x.i) := fun y hy hyD => by
          rcases hyD with hyD | hyD
          · exact htodo y hy hyD
          · have hyw := (mem_ws (l := l)).1 (show y ∈ wsOf l by rw [hsplit]; simp [hy])
            rw [hD.inj hyw.1 hx hyD, hxw] at hyw
            cases hyw.2
        by_cases hsp : Sp x
        · exact hJs done.length D B ρ cs lo tm S a w x _ hx hsp hxD hpre hdown hxX h hJ fun ρ' a' w' h' hJ' =>
            ih _ _ B ρ' cs lo tm S a' w' done todo hsz' hDl' hdown' hfuel' hsplit (fun y hy => .inl (hdone y hy)) htd h' hJ' hchk hcont
        · exact model_op hF hD hW h hchk hdown hx (fun hi => hsp (hSp x hx hi)) hxw hxX hxD hpre hhi fun ρ' a' w' h' hle hq =>
            ih _ _ B ρ' cs lo tm S a' w' done todo hsz' hDl' hdown' hfuel' hsplit (fun y hy => .inl (hdone y hy)) htd h' (hJr D ρ S lo tm w x ρ' w' hx hsp hJ hle hq) hchk hcont
      | true =>
        have hnI : ¬ I x := fun hi => by have := hSw x hx (hSp x hx hi); rw [hxw] at this; cases this
        have hxws : x ∈ wsOf l := mem_ws.2 ⟨hx, hxw⟩
        have hxtodo : x ∈ todo := by
          rw [hsplit, List.mem_append] at hxws
          exact hxws.resolve_left fun e => hxD (hdone x e)
        have hsorted := hW.sorted
        rw [hsplit, List.pairwise_append] at hsorted
        obtain ⟨hs1, hs2, hs3⟩ := hsorted
        cases todo with
        | nil => cases hxtodo
        | cons z rest =>
          have hzws : z ∈ wsOf l := by rw [hsplit]; simp
          have hzx : z = x := by
            rcases List.mem_cons.1 hxtodo with e | e
            · exact e.symm
            · rw [List.pairwise_cons] at hs2
              have hlt := hs2.1 x e
              exact (htodo z (by simp) (hpre _ (hW.chain z hzws x hxws hlt))).elim
          subst hzx
          have hn : lev l z = done.length := by
            unfold lev
            rw [level_cnt, hsplit, cnt_append, cnt_all (fun y hy => hW.chain y (by rw [hsplit]; simp [hy]) z hzws (hs3 y hy z (by simp))), cnt_none (fun y hy => ?_), Nat.add_zero]
            cases hb : bitOf z.m y.i with
            | false => rfl
            | true =>
              have h1 := hD.below z hx _ hb
              rw [List.pairwise_cons] at hs2
              rcases List.mem_cons.1 hy with rfl | hy
              · omega
              · have := hs2.1 y hy; omega
          have huniq : ∀ y ∈ l, isW y.r = true → lev l y = done.length → y = z := fun y hy hyw hyl => by
            have hyws := mem_ws.2 ⟨hy, hyw⟩
            rcases Nat.lt_trichotomy y.i z.i with e | e | e
            · rcases bef_pred hD hx hy (hW.chain y hyws z hzws e) with h' | ⟨_, h', _⟩
              · omega
              · rw [hyw] at h'; cases h'
            · exact hD.inj hy hx e
            · rcases bef_pred hD hy hx (hW.chain z hzws y hyws e) with h' | ⟨_, h', _⟩
              · omega
              · rw [hxw] at h'; cases h'
          obtain ⟨d, cw, sts, hd, hcw, hsts, hrun⟩ := hcont
          have ht : ∀ t, (∀ y ∈ l, y.o.dst = some t → Bef l y z → envget keep lo tm t = envget keep lo tm t) ∧ ((∀ y ∈ l, y.o.dst = some t → ¬ Bef l y z) → envget keep lo tm t = E0 t) := fun t =>
            ⟨fun _ _ _ _ => rfl, fun hb => h.env0 t fun y hy hyX hyd => hb y hy hyd (by
              rcases hyX with h' | ⟨h1, h2, _⟩
              · left; omega
              · right; exact ⟨by omega, h2, .inl hxw⟩)⟩
          have huse : ∀ t ∈ usesOf all.toList z.o, ∀ v, envget keep lo tm t = some v → VRel ρ v (a.eval (.tmp t)) := fun t hu v hv => h.use hD hW hdown hx hxD hpre ht hu hv
          have hops := opsRel_of huse
          have next : ∀ {ρ' : Ren} {v u : Value} {s1 : AS} {w1 : World}, putD d v (runStages ev sts last kf (done.length + 1) cs) lo tm s1 = .code x' tm' s' → VRel ρ' v u → Rel P ρ' s1 w1 → Stp ρ S w ρ' s1 w1 →
              wpAnyIn F 0 P .any all Q fuel (listed.setIfInBounds z.i true) (a.put z.o.dst u) w1 := by
            intro ρ' v u s1 w1 hp hv hR1 hS1
            obtain ⟨lo1, tm1, hk1, henv, htk, hnt⟩ := putD_env hd h.tk hp
            have h1 := h.wrote hD hW hx hxw hn huniq henv htk hnt hv hR1 hS1
            have hlen : done.length + 1 + rest.length = (wsOf l).length := by rw [hsplit]; simp; omega
            obtain ⟨B2, cs2, lo2, tm2, S2, h2, g2, hchk2, hcont2⟩ := stage_run hD hW hsts hlast hlen h1 hk1
            have hJ1 := hJw done.length D B ρ cs S lo tm a w z ρ' s1 lo1 tm1 w1 v hx hxw hxD h (fun t ht ⟨y, hy, hne, hyt⟩ => hW.dst hx hy (fun e => hne (hD.inj hy hx e.symm)) hyt ht) hn hJ hR1 hS1 henv
            have hJ2 := hJg _ _ _ _ _ _ _ _ _ _ (Nat.le_add_left _ _) h1.dX hJ1 g2
            refine ih _ _ B2 ρ' cs2 lo2 tm2 S2 _ w1 (done ++ [z]) rest hsz' hDl' hdown' hfuel' (by rw [hsplit]; simp) (fun y hy => ?_) (fun y hy hyD => ?_) (by simpa using h2) hJ2 (by simpa using hchk2) (by simpa using hcont2)
            · rcases List.mem_append.1 hy with hy | hy
              · exact .inl (hdone y hy)
              · simp only [List.mem_singleton] at hy; rw [hy]; exact .inr rfl
            · rcases hyD with hyD | hyD
              · exact htodo y (by simp [hy]) hyD
              · rw [List.pairwise_cons] at hs2
                have := hs2.1 y hy
                omega
          unfold wpOpIn
          rw [hD.op z hx]
          simp only
          rcases withGuard_some hcw with ⟨hg, rfl⟩ | ⟨j, want, g, hg, hgo, rfl⟩
          · have hw : Region.wanted z.o (yielded all a.tmps) = true := by unfold Region.wanted; rw [hg]
            rw [if_pos hw]
            exact ci_fin hF hev (hD.rd z hx hnI) hrun hops h.rel next
          · have hrun' : ifO (wantO want (g lo tm)) (runCI ev (ciOf z.r d) (runStages ev sts last kf (done.length + 1) cs) lo tm S) (putD d (.tuple #[]) (runStages ev sts last kf (done.length + 1) cs) lo tm S) = .code x' tm' s' := hrun
            obtain ⟨y, hy, hrun'⟩ := ifO_code hrun'
            have hw := wantO_ok (ρ := ρ) (al := []) (fun d g v ⟨o', ho', hd'⟩ hm hv => by
              rw [mkOp_tmp hm] at hv
              exact huse d (uses_guard hg ho' hd') v hv) hg hgo hy
            cases y with
            | true => rw [if_pos hw]; exact ci_fin hF hev (hD.rd z hx hnI) hrun' hops h.rel next
            | false =>
              rw [if_neg (by rw [hw]; simp)]
              exact ⟨fun f _ => hF.fn f, next hrun' (.tuple .nil) h.rel (.refl _ _ _)⟩
end
theorem draw_ok {keep nt id : Nat} {ops : Array Oper} {f : CF} (hm : P.follows .mixedOrders = true) (h : mkDraw P keep nt ops.toList (fun st last => some (fDraw st last)) = some f) : CFOk P keep nt (.region id ops true) f := by
  have h : (ob (masks ops.toList []) fun ms => ob (dops P keep ops.toList 0 ms) fun l =>
    bif' (chainOk (wsOf l) none) (bif' (pairsOk ops.toList l)
      (ob (stages keep nt ops.toList (wsOf l) l (wsOf l) 0) fun st => ob (stageOps keep nt ops.toList (wsOf l) (len (wsOf l)) l) fun last => some (fDraw st last)) none) none) = some f := h
  obtain ⟨ms, hms, h⟩ := ob_some h
  obtain ⟨l, hl, h⟩ := ob_some h
  obtain ⟨hch, h⟩ := bif'_some h
  obtain ⟨hpa, h⟩ := bif'_some h
  obtain ⟨st, hst, h⟩ := ob_some h
  obtain ⟨last, hlast, h⟩ := ob_some h
  cases h
  have hD := dreg_of hms hl
  have hW := dwr_of hD hch hpa
  rw [len_eq] at hlast
  intro ev hev F hF ρ tm s a w x tm' s' hr hE n0 hn0 hM hL hR Q hQ
  have hr : runStages ev st last kEnd 0 [] .nil tm s = .code x tm' s' := hr
  refine wpIn_region_any hm ?_
  have hR' : Rel P ρ s { w with drawn := w.drawn + 1 } := hR.of_heap rfl
  have h0 : St P keep nt ops l (envget keep .nil tm) ρ s w a (Xs l 0 0) (fun _ => False) (fun _ _ => False) ρ [] .nil tm s a { w with drawn := w.drawn + 1 } := by
    refine ⟨hE.tk, fun t _ => rfl, fun y _ hX _ _ => ?_, fun _ _ h => h.elim, fun _ _ _ h => h.elim, fun _ _ h => h.elim, fun _ _ h => h.elim, fun _ _ => rfl, fun t v hv => ?_, hR', .of_heap rfl rfl rfl rfl, rfl, hE.size⟩
    · rcases hX with h | ⟨_, _, h⟩ <;> omega
    · unfold envget at hv
      rw [bif'_eq] at hv
      split at hv
      · exact hE.env t v hv
      · cases hv
  obtain ⟨B1, cs1, lo1, tm1, S1, h1, _, hchk, hcont⟩ := stage_run hD hW hst hlast (by simp) h0 hr
  refine draw_run (J := fun _ _ _ _ _ _ => True) (Sp := fun _ => False) hF hev hD hW hlast (fun D B ρ cs lo tm S a w hall h _ hk => ?_) (fun _ _ h => h) (fun _ _ h => h.elim) (by intros; trivial) (by intros; trivial) (fun _ _ _ _ _ _ _ _ _ _ _ _ _ h => h.elim) (by intros; trivial)
    ops.size (Array.replicate ops.size false) _ B1 ρ cs1 lo1 tm1 S1 a _ [] (wsOf l) (by simp) (fun i => ?_) (fun _ _ h => h.elim) ?_ rfl (fun _ h => by cases h) (fun _ _ h => h) h1 trivial hchk hcont
  · cases hk
    exact hQ ρ a w (h.envOk hall) (by rw [h.df]; exact hM.step h.stp) h.rel h.stp
  · rw [Array.getD_eq_getD_getElem?, Array.getElem?_replicate]
    constructor
    · exact fun h => h.elim
    · intro h
      split at h <;> cases h
  · exact Nat.le_trans (List.length_filter_le _ _) (by simp)
end Go.Eng
/-! Regions that draw their order, and fill a new map on the way: the insertions stand in no order. -/
namespace Go.Eng
open Go
variable {P : Program}
/-- a block of which nothing is told is turned. -/
theorem Rel.other {ρ : Ren} {s : AS} {w : World} {b : Nat} {o' : Obj} (hr : Rel P ρ s w) (hn : ¬ Held ρ s b) (hno : ∀ i, w.cell? ⟨b, i, none⟩ = none) : Rel P ρ s { w with heap := w.heap.setIfInBounds b o' } :=
  ⟨hr.dom, hr.top, fun a k x e e' => by
    obtain ⟨h1, h2⟩ := hr.blk a k x e e'
    have hne : b ≠ x.b := fun he => hn ⟨a, k, x, e, e', he.symm⟩
    exact ⟨by simpa using h1, h2.congr (by simp [hne])⟩, hr.lim, hr.excl, fun g gl vs g1 g2 => by
    obtain ⟨a, b', c⟩ := hr.gl g gl vs g1 g2
    have hne := hr.gl.ne hno g1 g2
    exact ⟨by simpa using a, b', fun i v hv => by rw [cell?_congr (w := w) (by simp [hne])]; exact c i v hv⟩⟩
theorem Stp.other {ρ0 ρ : Ren} {s0 s : AS} {w0 w : World} {b : Nat} {o' : Obj} (hS : Stp ρ0 s0 w0 ρ s w) (hR0 : Rel P ρ0 s0 w0) (hb : w0.heap.size ≤ b) : Stp ρ0 s0 w0 ρ s { w with heap := w.heap.setIfInBounds b o' } := by
  have hk : ∀ c, c < w0.heap.size → ({ w with heap := w.heap.setIfInBounds b o' } : World).heap[c]? = w.heap[c]? := fun c hc => by
    have : b ≠ c := by omega
    simp [this]
  refine ⟨hS.ren, hS.nx, hS.tape, hS.os, hS.out, by simpa using hS.size, fun c hc hn => ⟨by rw [hk c hc]; exact (hS.frame c hc hn).1, (hS.frame c hc hn).2⟩, hS.ph, fun c r hc => ?_, hS.lim, hS.low, fun a k x ha hn e hro e' => ?_⟩
  · obtain ⟨r', h1⟩ := hS.lp c r hc
    exact ⟨r', by rw [hk c (Array.getElem?_eq_some_iff.1 hc).1]; exact h1⟩
  · rw [hk _ (hR0.blk a k x e e').1]; exact hS.lowW a k x ha hn e hro e'
theorem F2.permM {α β : Type} {R : α → β → Prop} : ∀ {l l' : List α} {m : List β}, l.Perm l' → F2 R l m → ∃ m', m.Perm m' ∧ F2 R l' m' := by
  intro l l' m hp
  induction hp generalizing m with
  | nil => intro h; exact ⟨m, .refl _, h⟩
  | cons x _ ih =>
    intro h
    cases h with
    | cons h hs =>
      obtain ⟨m', h1, h2⟩ := ih hs
      exact ⟨_ :: m', h1.cons _, .cons h h2⟩
  | swap x y l =>
    intro h
    cases h with
    | cons h hs => cases hs with | cons h' hs => exact ⟨_, .swap _ _ _, .cons h' (.cons h hs)⟩
  | trans _ _ ih1 ih2 =>
    intro h
    obtain ⟨m1, h1, h2⟩ := ih1 h
    obtain ⟨m2, h3, h4⟩ := ih2 h2
    exact ⟨m2, h1.trans h3, h4⟩
theorem F2.length {α β : Type} {R : α → β → Prop} : ∀ {l : List α} {m : List β}, F2 R l m → l.length = m.length
  | _, _, .nil => rfl
  | _, _, .cons _ hs => by simp [F2.length hs]
theorem F2.imp {α β : Type} {R R' : α → β → Prop} : ∀ {l : List α} {m : List β}, F2 R l m → (∀ a ∈ l, ∀ b ∈ m, R a b → R' a b) → F2 R' l m
  | _, _, .nil, _ => .nil
  | _, _, .cons h hs, hi => .cons (hi _ (by simp) _ (by simp) h) (F2.imp hs fun a ha b hb => hi a (by simp [ha]) b (by simp [hb]))
/-- an insertion of a new key, in the model. -/
theorem mapIns_run {ρ : Ren} {w : World} {t kt e : TypeId} {mb ck : Nat} {ents : Array MapEntry} {es : List (Value × Value × Nat)} {k x' : Value} (hke : P.underlying t = some (.map kt e)) (hh : w.heap[mb]? = some (.map ents ck)) (hmr : MapRel P ρ kt es ents)
    (hkf : keyFits P kt k = true) (hno : ∀ p ∈ es, p.1 ≠ k) : (Instr.mapUpdate t (.map (some mb)) k x').run P w = .ok () { w with heap := w.heap.setIfInBounds mb (.map (ents.push { key := k, val := x', born := ck }) (ck + 1)) } := by
  have hfk := findKey_run (P := P) hkf w hmr.fits
  rw [hmr.absent hno] at hfk
  simp only [Instr.mapUpdate, Sem.run_bind, run_underlying hke, Result.andThen_ok, Sem.run_pure, run_getObj' hh (by simp), run_checkKey' hkf, hfk, run_setObj' hh (by simp)]
theorem mapIns_rel {ρ : Ren} {kt : TypeId} {ck : Nat} {ents : Array MapEntry} {es : List (Value × Value × Nat)} {k x x' : Value} (hmr : MapRel P ρ kt es ents) (hkf : keyFits P kt k = true) (hno : ∀ p ∈ es, p.1 ≠ k) (hx : VRel ρ x x') :
    MapRel P ρ kt (es ++ [(k, x, 0)]) (ents.push { key := k, val := x', born := ck }) := by
  obtain ⟨l, hp, hf, hn⟩ := hmr
  refine ⟨l ++ [{ key := k, val := x', born := ck }], by rw [Array.toList_push]; exact hp.append_right _, F2.append (.cons ⟨rfl, hkf, keyFits_plain hkf, hx, .inl rfl⟩ .nil) hf, ?_⟩
  rw [List.map_append, List.nodup_append]
  refine ⟨hn, by simp, fun a ha b hb => ?_⟩
  obtain ⟨p, hp', rfl⟩ := List.mem_map.1 ha
  simp only [List.map_cons, List.map_nil, List.mem_singleton] at hb
  subst hb
  exact hno p hp'
theorem MapRel.permL {ρ : Ren} {kt : TypeId} {ents : Array MapEntry} {es es' : List (Value × Value × Nat)} (h : MapRel P ρ kt es ents) (hp : es.Perm es') : MapRel P ρ kt es' ents := by
  obtain ⟨l, h1, h2, h3⟩ := h
  obtain ⟨l', h4, h5⟩ := h2.permM hp
  exact ⟨l', h4.symm.trans h1, h5, (hp.map _).nodup_iff.1 h3⟩
/-- the stamps are forgotten. -/
theorem MapRel.zero {ρ : Ren} {kt : TypeId} {ents : Array MapEntry} {es es' : List (Value × Value × Nat)} (h : MapRel P ρ kt es ents) (hz : F2 (fun p q => p.1 = q.1 ∧ p.2.1 = q.2.1 ∧ q.2.2 = 0) es es') : MapRel P ρ kt es' ents := by
  obtain ⟨l, h1, h2, h3⟩ := h
  have key : ∀ {es es' : List (Value × Value × Nat)} {l : List MapEntry}, F2 (fun p q => p.1 = q.1 ∧ p.2.1 = q.2.1 ∧ q.2.2 = 0) es es' → F2 (EntRel P ρ kt) es l → F2 (EntRel P ρ kt) es' l ∧ es'.map (·.1) = es.map (·.1) := by
    intro es es' l hz
    induction hz generalizing l with
    | nil => intro h; cases h; exact ⟨.nil, rfl⟩
    | cons hh _ ih =>
      intro h
      cases h with
      | cons a b =>
        obtain ⟨i1, i2⟩ := ih b
        obtain ⟨e1, e2, e3⟩ := hh
        obtain ⟨a1, a2, a3, a4, _⟩ := a
        exact ⟨.cons ⟨by rw [← e1]; exact a1, by rw [← e1]; exact a2, by rw [← e1]; exact a3, by rw [← e2]; exact a4, .inl e3⟩ i1, by simp [i2, e1]⟩
  obtain ⟨k1, k2⟩ := key hz h2
  exact ⟨l, h1, k1, by rw [k2]; exact h3⟩
theorem opd_env {keep : Nat} {v : Operand} {f : Opd} (h : mkOp keep [] v = some f) {lo lo1 : Lo} {tm tm1 : T Value} (he : ∀ t, v = .tmp t → envget keep lo1 tm1 t = envget keep lo tm t) : f lo1 tm1 = f lo tm := by
  cases v with
  | tmp t => rw [mkOp_tmp h, mkOp_tmp h, he t rfl]
  | const c =>
    have h : (match plainConst c with | some v => some (opC v) | none => some (fun _ _ => none)) = some f := h
    split at h <;> (cases h; rfl)
  | global g => cases h; rfl
  | func g => cases h; rfl
theorem insOf_some {keep : Nat} {o : Oper} {q : InsI} (h : insOf keep o = some q) : ∃ c v, o.guard = none ∧ o.dst = none ∧ o.op = .insert q.t (.tmp q.m) (.const c) v ∧ plainConst c = some q.k ∧ mkOp keep [] v = some q.v := by
  unfold insOf at h
  split at h
  · rename_i t m k v h1 h2 h3
    obtain ⟨k', hk, h⟩ := ob_some h
    obtain ⟨v', hv, h⟩ := ob_some h
    cases h
    exact ⟨k, v, h1, h2, h3, hk, hv⟩
  · cases h
theorem plainConst_id {v v' : Value} (h : plainConst v = some v') : v' = v := by
  unfold plainConst at h
  split at h <;> first | (cases h; rfl) | cases h
/-- what is known of the insertions. -/
structure MReg (P : Program) (keep : Nat) (l : List DOp) (x0 : DOp) (t mt : Nat) (kt : TypeId) : Prop where
  mem : x0 ∈ l
  guard : x0.o.guard = none
  dst : x0.o.dst = some mt
  op : x0.o.op = .makeMap t none
  lev : lev l x0 = 0
  key : ∃ e, P.underlying t = some (.map kt e)
  look : ∀ x ∈ l, isInsO x.o = true → ∃ q, insOf keep x.o = some q ∧ q.t = t ∧ q.m = mt ∧ keyFits P kt q.k = true ∧ bitOf x.m x0.i = true ∧ (∀ T m k s, x.o.op = .insert T m k (.tmp s) → ∀ y ∈ l, y.o.dst = some s → bitOf x.m y.i = true) ∧ x.r = .p (fun lo tm _ => ob (q.v lo tm) fun _ => some (.tuple #[]))
  apart : ∀ x ∈ l, ∀ y ∈ l, isInsO x.o = true → isInsO y.o = true → x ≠ y → ∀ q q', insOf keep x.o = some q → insOf keep y.o = some q' → q.k ≠ q'.k
/-- an entry, and the insertion that has put it there. -/
def MEnt (keep : Nat) (l : List DOp) (D : Nat → Prop) (lo : Lo) (tm : T Value) (x : DOp) (e : Value × Value × Nat) : Prop :=
  ∃ q, insOf keep x.o = some q ∧ e.1 = q.k ∧ q.v lo tm = some e.2.1 ∧ ∀ T m k s, x.o.op = .insert T m k (.tmp s) → ∀ y ∈ l, y.o.dst = some s → D y.i
theorem MEnt.env {keep : Nat} {l : List DOp} {D D' : Nat → Prop} {lo lo1 : Lo} {tm tm1 : T Value} {x : DOp} {e : Value × Value × Nat} (h : MEnt keep l D lo tm x e) (hD : ∀ i, D i → D' i) (he : ∀ t, (∀ y ∈ l, y.o.dst = some t → D y.i) → envget keep lo1 tm1 t = envget keep lo tm t) : MEnt keep l D' lo1 tm1 x e := by
  obtain ⟨q, h1, h2, h3, h4⟩ := h
  refine ⟨q, h1, h2, ?_, fun T m k s e y hy hd => hD _ (h4 T m k s e y hy hd)⟩
  obtain ⟨c, v, _, _, ho, _, hv⟩ := insOf_some h1
  rw [← h3]
  exact opd_env hv fun t et => he t (h4 _ _ _ t (by rw [ho, et]))
def MJ (P : Program) (keep : Nat) (l : List DOp) (x0 : DOp) (mt : Nat) (kt : TypeId) (s0 : AS) (w0 : World) (bm : Nat) (D : Nat → Prop) (ρ : Ren) (S : AS) (lo : Lo) (tm : T Value) (w : World) : Prop :=
  envget keep lo tm mt = some (.map (some bm)) ∧ S.h.get bm = none ∧ bm < S.nx ∧ s0.nx ≤ bm ∧
  (D x0.i → ∃ loc L es, ρ bm = some loc ∧ loc.b < w.heap.size ∧ w0.heap.size ≤ loc.b ∧ ¬ Held ρ S loc.b ∧ BRel P ρ loc w (.map kt es es.length) ∧ List.Nodup L ∧ (∀ x, x ∈ L ↔ x ∈ l ∧ isInsO x.o = true ∧ D x.i) ∧ F2 (MEnt keep l D lo tm) L es)
section
variable {keep nt : Nat} {all : Array Oper} {l : List DOp} {I : DOp → Prop} {E0 : Nat → Option Value} {ρ0 : Ren} {s0 : AS} {w0 : World} {a0 : Act} {D : Nat → Prop} {B : Nat → Nat → Prop} {ρ : Ren} {cs : List Chk} {lo : Lo} {tm : T Value} {S : AS} {a : Act} {w : World} {ev : Ev}
variable {x0 : DOp} {t mt bm : Nat} {kt : TypeId}
/-- as long as the map is not made, its block is a phantom. -/
theorem phantom_at {X : DOp → Prop} (hD : DReg P keep all l I) (hM : MReg P keep l x0 t mt kt) (hI : ¬ I x0) (h : St P keep nt all l E0 ρ0 s0 w0 a0 X D B ρ cs lo tm S a w) (hX : X x0) (hJ : envget keep lo tm mt = some (.map (some bm))) (hn : ¬ D x0.i) : ρ bm = none ∧ B x0.i bm := by
  have hrd := hD.rd x0 hM.mem hI
  rw [hM.op] at hrd
  obtain ⟨ke, hke, hrd⟩ := ob_some hrd
  have hw : isW x0.r = false := by rw [← Option.some.inj hrd]; rfl
  obtain ⟨lo', tm', v, hran, hd, _⟩ := h.rcd x0 hM.mem hX hw hn
  unfold Ran at hran
  rw [hM.guard] at hran
  unfold Ran0 at hran
  rw [← Option.some.inj hrd] at hran
  obtain ⟨s1, s1', h1, h2, h3, h4, h5⟩ := hran
  obtain ⟨s2, hs2, h1⟩ := ob_some h1
  have := (hd mt hM.dst).2
  rw [hJ] at this
  cases h1
  cases this
  exact ⟨h4, h2⟩
theorem MJ.grow {c : Nat} {lo1 : Lo} {tm1 : T Value} {S1 : AS} (hD : DReg P keep all l I) (hW : DWr all l) (hM : MReg P keep l x0 t mt kt) (hc : 1 ≤ c) (hX : ∀ y ∈ l, D y.i → Xs l c 0 y) (hJ : MJ P keep l x0 mt kt s0 w0 bm D ρ S lo tm w) (g : Grow l keep ρ (Xs l c 0) lo tm S lo1 tm1 S1) :
    MJ P keep l x0 mt kt s0 w0 bm D ρ S1 lo1 tm1 w := by
  obtain ⟨j1, j2, j3, j4, j5⟩ := hJ
  have hx0 : Xs l c 0 x0 := .inl (by rw [hM.lev]; omega)
  refine ⟨?_, by rw [g.old bm j3]; exact j2, Nat.lt_of_lt_of_le j3 g.nx, j4, fun hd => ?_⟩
  · rw [g.env mt fun y hy hn hyd => ?_]
    · exact j1
    · have : y = x0 := by
        by_cases e : y.i = x0.i
        · exact hD.inj hy hM.mem e
        · exact (hW.dst hy hM.mem e hM.dst hyd).elim
      rw [this] at hn; exact hn hx0
  · obtain ⟨loc, L, es, k1, k2, k3, k4, k5, k6, k7, k8⟩ := j5 hd
    refine ⟨loc, L, es, k1, k2, k3, fun ⟨b, k, x, e1, e2, e3⟩ => ?_, k5, k6, k7, k8.mono fun x e hxe => hxe.env (fun _ h => h) fun s hs => g.env s fun y hy hn hyd => hn (hX y hy (hs y hy hyd))⟩
    by_cases hb : b < S.nx
    · rw [g.old b hb] at e1
      exact k4 ⟨b, k, x, e1, e2, e3⟩
    · rw [g.new b (by omega)] at e2; cases e2
theorem MJ.quiet {x : DOp} {ρ' : Ren} {w' : World} (hx : x ∈ l) (hne : x.i ≠ x0.i) (hins : isInsO x.o = false) (hD : DReg P keep all l I) (hJ : MJ P keep l x0 mt kt s0 w0 bm D ρ S lo tm w) (hle : RenLe ρ ρ') (hq : Quiet ρ w ρ' w') :
    MJ P keep l x0 mt kt s0 w0 bm (fun i => D i ∨ i = x.i) ρ' S lo tm w' := by
  obtain ⟨j1, j2, j3, j4, j5⟩ := hJ
  refine ⟨j1, j2, j3, j4, fun hd => ?_⟩
  obtain ⟨loc, L, es, k1, k2, k3, k4, k5, k6, k7, k8⟩ := j5 (hd.resolve_right fun e => hne e.symm)
  refine ⟨loc, L, es, hle _ _ k1, Nat.lt_of_lt_of_le k2 hq.size, k3, fun ⟨b, k, y, e1, e2, e3⟩ => ?_, (k5.congr (hq.old _ k2)).mono hle, k6, fun z => ?_, k8.mono fun z e hze => hze.env (fun _ h => .inl h) fun _ _ => rfl⟩
  · cases h : ρ b with
    | none => have := hq.new b y h e2; omega
    | some y' =>
      have := hle b y' h
      rw [e2] at this; cases this
      exact k4 ⟨b, k, _, e1, h, e3⟩
  · rw [k7]
    constructor
    · rintro ⟨h1, h2, h3⟩; exact ⟨h1, h2, .inl h3⟩
    · rintro ⟨h1, h2, h3 | h3⟩
      · exact ⟨h1, h2, h3⟩
      · rw [hD.inj h1 hx h3, hins] at h2; cases h2
theorem MJ.wrote {c : Nat} {x : DOp} {ρ' : Ren} {S1 : AS} {lo1 : Lo} {tm1 : T Value} {w1 : World} {v : Value} (hD : DReg P keep all l I) (hM : MReg P keep l x0 t mt kt) (hI : ¬ I x0) (hx : x ∈ l) (hxw : isW x.r = true) (hins : isInsO x.o = false) (hxD : ¬ D x.i)
    (h : St P keep nt all l E0 ρ0 s0 w0 a0 (Xs l c l.length) D B ρ cs lo tm S a w) (huniq : ∀ t, x.o.dst = some t → ¬ ∃ y ∈ l, y ≠ x ∧ y.o.dst = some t) (hJ : MJ P keep l x0 mt kt s0 w0 bm D ρ S lo tm w) (hS : Stp ρ S w ρ' S1 w1)
    (henv : ∀ t, envget keep lo1 tm1 t = if x.o.dst = some t then some v else envget keep lo tm t) : MJ P keep l x0 mt kt s0 w0 bm (fun i => D i ∨ i = x.i) ρ' S1 lo1 tm1 w1 := by
  have hw0 : isW x0.r = false := by
    have hrd := hD.rd x0 hM.mem hI
    rw [hM.op] at hrd
    obtain ⟨ke, hke, hrd⟩ := ob_some hrd
    rw [← Option.some.inj hrd]; rfl
  have hx0 : x0 ≠ x := fun e => by rw [e, hxw] at hw0; cases hw0
  have hX0 : Xs l c l.length x0 := by
    rcases Nat.eq_zero_or_pos c with h0 | h0
    · exact .inr ⟨by rw [hM.lev, h0], hw0, (List.getElem?_eq_some_iff.1 (hD.mem hM.mem)).1⟩
    · exact .inl (by rw [hM.lev]; exact h0)
  have hle := hS.le h.rel
  have hJ' := hJ
  obtain ⟨j1, j2, j3, j4, j5⟩ := hJ
  have hnone : S1.h.get bm = none := by
    by_cases hd : D x0.i
    · obtain ⟨loc, L, es, k1, k2, k3, k4, _⟩ := j5 hd
      cases e : S1.h.get bm with
      | none => rfl
      | some k => exact ((hS.frame loc.b k2 k4).2 ⟨bm, k, loc, e, hle _ _ k1, rfl⟩).elim
    · have hno := (phantom_at hD hM hI h hX0 hJ'.1 hd).1
      rcases hS.ph bm j3 hno with e | e
      · rw [e]; exact j2
      · exact e
  refine ⟨?_, hnone, Nat.lt_of_lt_of_le j3 hS.nx, j4, fun hd => ?_⟩
  · rw [henv, if_neg (fun e => huniq mt e ⟨x0, hM.mem, hx0, hM.dst⟩)]; exact j1
  · have hd : D x0.i := hd.resolve_right fun e => hx0 (hD.inj hM.mem hx e)
    obtain ⟨loc, L, es, k1, k2, k3, k4, k5, k6, k7, k8⟩ := j5 hd
    obtain ⟨f1, f2⟩ := hS.frame loc.b k2 k4
    refine ⟨loc, L, es, hle _ _ k1, Nat.lt_of_lt_of_le k2 hS.size, k3, f2, (k5.congr f1).mono hle, k6, fun z => ?_, k8.mono fun z e hze => hze.env (fun _ h => .inl h) fun s hs => ?_⟩
    · rw [k7]
      constructor
      · rintro ⟨h1, h2, h3⟩; exact ⟨h1, h2, .inl h3⟩
      · rintro ⟨h1, h2, h3 | h3⟩
        · exact ⟨h1, h2, h3⟩
        · rw [hD.inj h1 hx h3, hins] at h2; cases h2
    · rw [henv]
      by_cases e : x.o.dst = some s
      · exact (hxD (hs x hx e)).elim
      · rw [if_neg e]
variable {F : Fence} {c : Nat}
/-- the map is made. -/
theorem MJ.made (hF : WideF F) (hD : DReg P keep all l I) (hW : DWr all l) (hM : MReg P keep l x0 t mt kt) (hI : ¬ I x0) (hxD : ¬ D x0.i) (hpre : ∀ j, bitOf x0.m j = true → D j) (hdown : ∀ y ∈ l, D y.i → ∀ j, bitOf y.m j = true → D j)
    (hinsD : ∀ y ∈ l, isInsO y.o = true → D y.i → D x0.i) (hxX : Xs l c l.length x0) (h : St P keep nt all l E0 ρ0 s0 w0 a0 (Xs l c l.length) D B ρ cs lo tm S a w) (hJ : MJ P keep l x0 mt kt s0 w0 bm D ρ S lo tm w) {Q : Exit → Act → World → Prop} {N : Act → World → Prop}
    (hN : ∀ ρ' a' w', St P keep nt all l E0 ρ0 s0 w0 a0 (Xs l c l.length) (fun i => D i ∨ i = x0.i) B ρ' cs lo tm S a' w' → MJ P keep l x0 mt kt s0 w0 bm (fun i => D i ∨ i = x0.i) ρ' S lo tm w' → N a' w') : wpOpIn F 0 P all Q x0.i N a w := by
  have hx := hM.mem
  have hrd := hD.rd x0 hx hI
  have hok := rdOf_ok hrd
  rw [hM.op] at hrd
  obtain ⟨ke, hke, hrd⟩ := ob_some hrd
  have hr := (Option.some.inj hrd).symm
  have hkt : ke.1 = kt := by
    obtain ⟨e, he⟩ := hM.key
    have := keyOf_some hke
    rw [he] at this
    injection this with this
    injection this with h1 _
    exact h1.symm
  have hxw : isW x0.r = false := by rw [hr]; rfl
  obtain ⟨lo', tm', v, hran, hd, ht⟩ := h.rcd x0 hx hxX hxw hxD
  have huse : ∀ t ∈ usesOf all.toList x0.o, ∀ v, envget keep lo' tm' t = some v → VRel ρ v (a.eval (.tmp t)) := fun t hu v hv => h.use hD hW hdown hx hxD hpre ht hu hv
  have hops := opsRel_of huse
  have hdf : ∀ c, x0.o.op ≠ .defer c := fun c e => by rw [hM.op] at e; cases e
  obtain ⟨hno, hB⟩ := phantom_at hD hM hI h hxX hJ.1 hxD
  obtain ⟨j1, j2, j3, j4, _⟩ := hJ
  unfold Ran at hran
  rw [hM.guard] at hran
  unfold Ran0 at hran
  rw [hr] at hran hok
  obtain ⟨s1, s1', hv, h2, h3, h4, h5⟩ := hran
  obtain ⟨k, hk, hm⟩ := hok lo' tm' s1 _ hv
  obtain ⟨s2, hs2, hv'⟩ := ob_some hv
  have hbm : s1.nx = bm := by
    have := (hd mt hM.dst).2
    rw [j1] at this
    cases hv'
    cases this; rfl
  have hk' : k = .map kt [] 0 := by
    cases hv'
    have e1 := (AS.new_eq hk).2 s1.nx
    have e2 := (AS.new_eq hs2).2 s1.nx
    rw [if_pos rfl] at e1 e2
    rw [e1] at e2
    rw [← hkt]
    exact Option.some.inj e2
  subst hk'
  obtain ⟨m, he, x, u, w', e1, e2, e3, e4, e5, e6, e7, e8, e9⟩ := hm ρ w a.eval h4 hops
  rw [hbm] at e8 e9
  unfold wpOpIn
  rw [hD.op x0 hx]
  simp only
  have hw : Region.wanted x0.o (yielded all a.tmps) = true := by unfold Region.wanted; rw [hM.guard]
  rw [if_pos hw]
  refine ⟨fun f _ => hF.fn f, ?_⟩
  rw [Oper.semAt_eq _ _ _ hdf, he, run_val e1]
  have hputs : (ρ.put bm x) bm = some x := by unfold Ren.put; rw [if_pos rfl]
  refine hN _ _ _ (h.real hD hW hx hxX hd e8 (put_le hno x) (h.rel.realize0 j3 hno j2 e3 e4) (h.stp.realize h.rel j4 e2 e3 e4 e5 e6 e7) fun j b hb hj hn => ?_)
    ⟨j1, j2, j3, j4, fun _ => ⟨x, [], [], hputs, by omega, by rw [e2]; exact h.stp.size, fun ⟨b, k, y, f1, f2, f3⟩ => ?_, e9, by simp, fun z => ?_, .nil⟩⟩
  · unfold Ren.put
    rw [if_neg (fun e => by subst e; exact hj (h.bI _ _ _ hb hB))]
    exact hn
  · unfold Ren.put at f2
    split at f2
    · rename_i e; subst e; rw [j2] at f1; cases f1
    · have := (h.rel.blk b k y f1 f2).1; omega
  · simp only [List.not_mem_nil, false_iff]
    rintro ⟨g1, g2, g3 | g3⟩
    · exact hxD (hinsD z g1 g2 g3)
    · rw [hD.inj g1 hx g3, show isInsO x0.o = false by unfold isInsO; rw [hM.op]] at g2; cases g2
/-- an insertion. -/
theorem MJ.put (hF : WideF F) (hD : DReg P keep all l I) (hW : DWr all l) (hM : MReg P keep l x0 t mt kt) (hR0 : Rel P ρ0 s0 w0) {x : DOp} (hx : x ∈ l) (hins : isInsO x.o = true) (hxD : ¬ D x.i) (hpre : ∀ j, bitOf x.m j = true → D j) (hdown : ∀ y ∈ l, D y.i → ∀ j, bitOf y.m j = true → D j)
    (hxX : Xs l c l.length x) (h : St P keep nt all l E0 ρ0 s0 w0 a0 (Xs l c l.length) D B ρ cs lo tm S a w) (hJ : MJ P keep l x0 mt kt s0 w0 bm D ρ S lo tm w) {Q : Exit → Act → World → Prop} {N : Act → World → Prop}
    (hN : ∀ ρ' a' w', St P keep nt all l E0 ρ0 s0 w0 a0 (Xs l c l.length) (fun i => D i ∨ i = x.i) B ρ' cs lo tm S a' w' → MJ P keep l x0 mt kt s0 w0 bm (fun i => D i ∨ i = x.i) ρ' S lo tm w' → N a' w') : wpOpIn F 0 P all Q x.i N a w := by
  obtain ⟨q, hq, rfl, rfl, hkf, hbit, hah, hr⟩ := hM.look x hx hins
  obtain ⟨kc, vo, og, od, oo, okc, ovo⟩ := insOf_some hq
  have hkc := plainConst_id okc
  have hxw : isW x.r = false := by rw [hr]; rfl
  obtain ⟨lo', tm', v, hran, hd, ht⟩ := h.rcd x hx hxX hxw hxD
  have huse : ∀ t ∈ usesOf all.toList x.o, ∀ v, envget keep lo' tm' t = some v → VRel ρ v (a.eval (.tmp t)) := fun t hu v hv => h.use hD hW hdown hx hxD hpre ht hu hv
  have hops := opsRel_of huse
  have hdf : ∀ c, x.o.op ≠ .defer c := fun c e => by rw [oo] at e; cases e
  unfold Ran at hran
  rw [og] at hran
  unfold Ran0 at hran
  rw [hr] at hran
  obtain ⟨s1, hv⟩ := hran
  obtain ⟨vv, hvv, _⟩ := ob_some hv
  -- the operands, as they stand now
  have henv : ∀ s, (∀ y ∈ l, y.o.dst = some s → bitOf x.m y.i = true) → envget keep lo tm s = envget keep lo' tm' s := fun s hs => by
    by_cases hex : ∃ y ∈ l, y.o.dst = some s
    · obtain ⟨y, hy, hyd⟩ := hex
      exact ((ht s).1 y hy hyd (bef_pred hD hx hy (hs y hy hyd))).symm
    · rw [(ht s).2 fun y hy hyd => (hex ⟨y, hy, hyd⟩).elim, h.env0 s fun y hy _ hyd => hex ⟨y, hy, hyd⟩]
  have hvv' : q.v lo tm = some vv := by
    rw [← hvv]
    exact opd_env ovo fun s e => henv s (hah _ _ _ s (by rw [oo, e]))
  have hvr : VRel ρ vv (a.eval vo) := hops vo q.v vv (by rw [oo]; simp [Op.operands]) ovo hvv
  obtain ⟨j1, j2, j3, j4, j5⟩ := hJ
  obtain ⟨loc, L, es, k1, k2, k3, k4, k5, k6, k7, k8⟩ := j5 (hpre _ hbit)
  have hmv : VRel ρ (.map (some bm)) (a.eval (.tmp q.m)) := huse q.m (uses_op (by rw [oo]; simp [Op.operands])) _ (by
    rw [← henv q.m fun y hy hyd => ?_]
    · exact j1
    · have : y = x0 := by
        by_cases e : y.i = x0.i
        · exact hD.inj hy hM.mem e
        · exact (hW.dst hy hM.mem e hM.dst hyd).elim
      rw [this]; exact hbit)
  have hme : a.eval (.tmp q.m) = .map (some loc.b) := by
    generalize a.eval (.tmp q.m) = u at hmv
    cases hmv with | map hy => rw [k1] at hy; cases hy; rfl
  obtain ⟨e, hke⟩ := hM.key
  obtain ⟨ents, hh, hmr, hbn⟩ := k5
  have hno : ∀ p ∈ es, p.1 ≠ q.k := fun p hp => by
    obtain ⟨z, hz, qz, hqz, hpk, _⟩ := F2.mem_right k8 p hp
    obtain ⟨z1, z2, z3⟩ := (k7 z).1 hz
    rw [hpk]
    exact hM.apart z z1 x hx z2 hins (fun e => hxD (by rw [← e]; exact z3)) qz q hqz hq
  have hrun := mapIns_run (w := w) (x' := a.eval vo) hke hh hmr hkf hno
  unfold wpOpIn
  rw [hD.op x hx]
  simp only
  have hw : Region.wanted x.o (yielded all a.tmps) = true := by unfold Region.wanted; rw [og]
  rw [if_pos hw]
  refine ⟨fun f _ => hF.fn f, ?_⟩
  have hexec : (execOp a.eval x.o).run P w = .ok .skip { w with heap := w.heap.setIfInBounds loc.b (.map (ents.push { key := q.k, val := a.eval vo, born := es.length }) (es.length + 1)) } := by
    unfold execOp
    rw [oo]
    have hk : a.eval (.const kc) = q.k := hkc.symm
    show (do Instr.mapUpdate q.t (a.eval (.tmp q.m)) (a.eval (.const kc)) (a.eval vo); pure Next.skip : Sem Next).run P w = _
    rw [hme, hk]
    exact run_unit hrun
  rw [Oper.semAt_eq _ _ _ hdf, hexec]
  refine hN _ _ _ (h.real hD hW hx hxX (fun d e => by rw [od] at e; cases e) (.tuple .nil : VRel ρ (.tuple #[]) (.tuple #[])) (.refl _) (h.rel.other k4 (fun i => by simp [World.cell?, hh])) (h.stp.other hR0 k3) fun _ _ _ _ e => e)
    ⟨j1, j2, j3, j4, fun _ => ⟨loc, L ++ [x], es ++ [(q.k, vv, 0)], k1, by simpa using k2, k3, k4, ⟨ents.push { key := q.k, val := a.eval vo, born := es.length }, by simp [k2], mapIns_rel hmr hkf hno hvr, by rw [List.length_append]; exact hbn.push rfl⟩, ?_, fun z => ?_, F2.append (.cons ⟨q, hq, rfl, hvv', fun T m k s e y hy hyd => .inl (hpre _ (hah T m k s e y hy hyd))⟩ .nil) (k8.mono fun z e hze => hze.env (fun _ h => .inl h) fun _ _ => rfl)⟩⟩
  · rw [List.nodup_append]
    refine ⟨k6, by simp, fun z hz y hy => ?_⟩
    simp only [List.mem_singleton] at hy
    subst hy
    intro e
    subst e
    exact hxD ((k7 z).1 hz).2.2
  · simp only [List.mem_append, List.mem_singleton, k7]
    constructor
    · rintro (⟨h1, h2, h3⟩ | rfl)
      · exact ⟨h1, h2, .inl h3⟩
      · exact ⟨hx, hins, .inr rfl⟩
    · rintro ⟨h1, h2, h3 | h3⟩
      · exact .inl ⟨h1, h2, h3⟩
      · exact .inr (hD.inj h1 hx h3)
end
theorem mapD_eq (f : DOp → DOp) : ∀ l, mapD f l = l.map f
  | [] => rfl
  | x :: l => by
    show f x :: mapD f l = _
    rw [mapD_eq f l]; rfl
theorem insFix_fields (keep : Nat) (x : DOp) : (insFix keep x).i = x.i ∧ (insFix keep x).m = x.m ∧ (insFix keep x).o = x.o := by
  unfold insFix
  split <;> exact ⟨rfl, rfl, rfl⟩
theorem insOf_ins {keep : Nat} {o : Oper} {q : InsI} (h : insOf keep o = some q) : isInsO o = true := by
  obtain ⟨c, v, _, _, ho, _⟩ := insOf_some h
  unfold isInsO; rw [ho]
theorem dreg_fix {keep : Nat} {all : Array Oper} {l0 : List DOp} (h : DReg P keep all l0 (fun _ => False)) (hg : ∀ x ∈ l0, isInsO x.o = true → ∃ q, insOf keep x.o = some q) : DReg P keep all (l0.map (insFix keep)) (fun x => isInsO x.o = true) := by
  have hmem : ∀ x ∈ l0.map (insFix keep), ∃ y ∈ l0, x = insFix keep y ∧ x.i = y.i ∧ x.m = y.m ∧ x.o = y.o := fun x hx => by
    obtain ⟨y, hy, rfl⟩ := List.mem_map.1 hx
    obtain ⟨f1, f2, f3⟩ := insFix_fields keep y
    exact ⟨y, hy, rfl, f1, f2, f3⟩
  have hup : ∀ y ∈ l0, insFix keep y ∈ l0.map (insFix keep) := fun y hy => List.mem_map.2 ⟨y, hy, rfl⟩
  refine ⟨fun i x hx => ?_, by simpa using h.len, fun x hx => ?_, fun x hx hi => ?_, fun x hx hi => ?_, fun x hx j hj => ?_, fun x hx y hy hb j hj => ?_, fun x hx e he hb => ?_, fun x hx j hj => ?_⟩
  · rw [List.getElem?_map] at hx
    cases e : l0[i]? with
    | none => rw [e] at hx; cases hx
    | some y =>
      rw [e] at hx; cases hx
      rw [(insFix_fields keep y).1]; exact h.at_ i y e
  · obtain ⟨y, hy, _, f1, f2, f3⟩ := hmem x hx
    rw [f1, f3]; exact h.op y hy
  · obtain ⟨y, hy, e, f1, f2, f3⟩ := hmem x hx
    rw [f3] at hi ⊢
    have : insFix keep y = y := by
      unfold insFix
      split
      · rename_i q hq; exact (hi (insOf_ins hq)).elim
      · rfl
    rw [e, this]
    exact h.rd y hy (fun h => h)
  · obtain ⟨y, hy, e, f1, f2, f3⟩ := hmem x hx
    rw [f3] at hi
    obtain ⟨q, hq⟩ := hg y hy hi
    rw [e]
    unfold insFix
    rw [hq]
    exact ⟨_, rfl⟩
  · obtain ⟨y, hy, e, f1, f2, f3⟩ := hmem x hx
    rw [f1]; rw [f2] at hj
    exact h.below y hy j hj
  · obtain ⟨x', hx', e, f1, f2, f3⟩ := hmem x hx
    obtain ⟨y', hy', e', g1, g2, g3⟩ := hmem y hy
    rw [f2, g1] at hb
    rw [g2] at hj
    rw [f2]
    exact h.trans x' hx' y' hy' hb j hj
  · obtain ⟨y, hy, _, f1, f2, f3⟩ := hmem x hx
    rw [f3] at he
    rw [f2]; exact h.dir y hy e he hb
  · obtain ⟨y, hy, _, f1, f2, f3⟩ := hmem x hx
    rw [f2] at hj
    rw [f3]
    obtain ⟨e, he, hb, hor⟩ := h.back y hy j hj
    refine ⟨e, he, hb, hor.imp id fun ⟨z, hz, h1, h2⟩ => ⟨insFix keep z, hup z hz, by rw [(insFix_fields keep z).1]; exact h1, by rw [(insFix_fields keep z).2.1]; exact h2⟩⟩
theorem findMk_some : ∀ {l : List DOp} {x : DOp} {t m : Nat}, findMk l = some (x, t, m) → x ∈ l ∧ mkmOf x.o = some (t, m)
  | [], x, t, m, h => by cases h
  | y :: l, x, t, m, h => by
    have h : (match mkmOf y.o with | some q => some (y, q.1, q.2) | none => findMk l) = some (x, t, m) := h
    split at h
    · rename_i q hq
      cases h
      exact ⟨by simp, hq⟩
    · have := findMk_some h
      exact ⟨by simp [this.1], this.2⟩
theorem mkmOf_some {o : Oper} {t m : Nat} (h : mkmOf o = some (t, m)) : o.guard = none ∧ o.dst = some m ∧ o.op = .makeMap t none := by
  unfold mkmOf at h
  split at h
  · rename_i h1 h2 h3; cases h; exact ⟨h1, h2, h3⟩
  · cases h
theorem keysApart_pair {keep : Nat} : ∀ {l : List DOp}, keysApart (insList keep l) = true → l.Pairwise fun x y => ∀ q q', insOf keep x.o = some q → insOf keep y.o = some q' → q.k ≠ q'.k
  | [], _ => .nil
  | x :: l, h => by
    have hl : insList keep (x :: l) = match insOf keep x.o with | some q => q :: insList keep l | none => insList keep l := rfl
    rw [hl] at h
    have hmem : ∀ y ∈ l, ∀ q, insOf keep y.o = some q → q ∈ insList keep l := by
      clear h hl
      induction l with
      | nil => intro y hy; cases hy
      | cons z l ih =>
        intro y hy q hq
        have hl : insList keep (z :: l) = match insOf keep z.o with | some q => q :: insList keep l | none => insList keep l := rfl
        rw [hl]
        rcases List.mem_cons.1 hy with rfl | hy
        · rw [hq]; simp
        · have := ih y hy q hq
          split <;> simp [this]
    cases e : insOf keep x.o with
    | none =>
      rw [e] at h
      exact .cons (fun y hy q q' h1 => by rw [e] at h1; cases h1) (keysApart_pair h)
    | some q =>
      rw [e] at h
      have h : bif' (allB (fun y => someF (mat 8 q.k y.k)) (insList keep l)) (keysApart (insList keep l)) false = true := h
      obtain ⟨h1, h2⟩ := bif_tt h
      refine .cons (fun y hy q1 q2 e1 e2 => ?_) (keysApart_pair h2)
      rw [e] at e1; cases e1
      have := allB_spec h1 q2 (hmem y hy q2 e2)
      unfold someF at this
      split at this
      · rename_i hp
        intro he
        have := (mat_iff 8 q.k q2.k false hp).2 he
        cases this
      · cases this
theorem insEs_rel {keep : Nat} {lo : Lo} {tm : T Value} : ∀ {l : List DOp} {es : List (Value × Value × Nat)}, (∀ x ∈ l, isInsO x.o = true → ∃ q, insOf keep x.o = some q) → insEs (insList keep l) lo tm = some es →
    F2 (fun x e => ∃ q, insOf keep x.o = some q ∧ e.1 = q.k ∧ q.v lo tm = some e.2.1 ∧ e.2.2 = 0) ((l.map (insFix keep)).filter fun x => isInsO x.o) es ∧ (insList keep l).length = es.length
  | [], es, _, h => by cases h; exact ⟨.nil, rfl⟩
  | x :: l, es, hg, h => by
    have hl : insList keep (x :: l) = match insOf keep x.o with | some q => q :: insList keep l | none => insList keep l := rfl
    rw [hl] at h ⊢
    have hg' : ∀ x ∈ l, isInsO x.o = true → ∃ q, insOf keep x.o = some q := fun y hy => hg y (by simp [hy])
    have ho := (insFix_fields keep x).2.2
    cases e : insOf keep x.o with
    | none =>
      rw [e] at h
      have hn : isInsO (insFix keep x).o = false := by
        rw [ho]
        cases hi : isInsO x.o with
        | false => rfl
        | true => obtain ⟨q, hq⟩ := hg x (by simp) hi; rw [e] at hq; cases hq
      obtain ⟨i1, i2⟩ := insEs_rel hg' h
      rw [List.map_cons, List.filter_cons, hn]
      exact ⟨i1, i2⟩
    | some q =>
      rw [e] at h
      have h : ob (q.v lo tm) (fun v => ob (insEs (insList keep l) lo tm) fun r => some ((q.k, v, 0) :: r)) = some es := h
      replace h := ob_some h
      obtain ⟨v, hv, h⟩ := h
      replace h := ob_some h
      obtain ⟨r, hr, h⟩ := h
      cases h
      have hn : isInsO (insFix keep x).o = true := by rw [ho]; exact insOf_ins e
      obtain ⟨i1, i2⟩ := insEs_rel hg' hr
      rw [List.map_cons, List.filter_cons, hn]
      exact ⟨.cons ⟨q, by rw [ho]; exact e, rfl, hv, rfl⟩ i1, by simp [i2]⟩
theorem F2.both {α β γ : Type} {R1 : α → β → Prop} {R2 : α → γ → Prop} {T : β → γ → Prop} (hT : ∀ x p q, R1 x p → R2 x q → T p q) : ∀ {l : List α} {m : List β} {n : List γ}, F2 R1 l m → F2 R2 l n → F2 T m n
  | _, _, _, .nil, h => by cases h; exact .nil
  | _, _, _, .cons a b, h => by cases h with | cons c d => exact .cons (hT _ _ _ a c) (F2.both hT b d)
theorem Rel.fewer {ρ : Ren} {s s' : AS} {w : World} (hr : Rel P ρ s w) (hs : ∀ j k, s'.h.get j = some k → s.h.get j = some k) (hn : s'.nx = s.nx) (hl : s'.lim = s.lim) : Rel P ρ s' w :=
  ⟨fun a ha => hr.dom a (by rw [← hn]; exact ha), fun a ha => (by
    cases e : s'.h.get a with
    | none => rfl
    | some k => have := hs a k e; rw [hr.top a (by rw [← hn]; exact ha)] at this; cases this),
   fun a k x e e' => hr.blk a k x (hs a k e) e', by rw [hn, hl]; exact hr.lim, fun a a' k k' x x' hne e1 e2 r1 r2 hb => hr.excl a a' k k' x x' hne (hs _ _ e1) (hs _ _ e2) r1 r2 hb, hr.gl.of (Nat.le_refl _) fun b _ hn => ⟨rfl, fun ⟨j, k, y, e1, e2, e3⟩ => hn ⟨j, k, y, hs _ _ e1, e2, e3⟩⟩⟩
/-- a block that was forgotten is told again. -/
theorem Rel.revive {ρ : Ren} {s s' : AS} {w : World} {b : Nat} {k : Blk} {x : Loc} (hr : Rel P ρ s w) (hs : s.set b (some k) = some s') (hno : s.h.get b = none) (hx : ρ b = some x) (hlt : x.b < w.heap.size) (hnh : ¬ Held ρ s x.b) (hb : BRel P ρ x w k) (hbn : b < s.nx) (hno' : ∀ i, w.cell? ⟨x.b, i, none⟩ = none) : Rel P ρ s' w := by
  obtain ⟨hnx, hg⟩ := AS.set_eq hs
  refine ⟨fun a ha => hr.dom a (by omega), fun a ha => by rw [hg, if_neg (by omega)]; exact hr.top a (by omega), fun a k' y e e' => ?_, by rw [hnx, (AS.set_lim hs).1]; exact hr.lim, fun a a' k1 k2 x1 x2 hne e1 e2 r1 r2 hbb => ?_, fun g gl vs g1 g2 => ?_⟩
  rotate_right
  · obtain ⟨a, b', c⟩ := hr.gl g gl vs g1 g2
    refine ⟨a, fun ⟨j, k', y, e1, e2, e3⟩ => ?_, c⟩
    rw [hg] at e1
    by_cases hj : j = b
    · rw [hj, hx] at e2; cases e2
      exact hr.gl.ne hno' g1 g2 e3
    · rw [if_neg hj] at e1; exact b' ⟨j, k', y, e1, e2, e3⟩
  · rw [hg] at e
    by_cases ha : a = b
    · subst ha
      rw [if_pos rfl] at e; cases e
      rw [hx] at e'; cases e'
      exact ⟨hlt, hb⟩
    · rw [if_neg ha] at e; exact hr.blk a k' y e e'
  · rw [hg] at e1 e2
    by_cases ha : a = b
    · subst ha
      rw [hx] at r1; cases r1
      rw [if_neg (Ne.symm hne)] at e2
      exact (hnh ⟨a', k2, x2, e2, r2, hbb.symm⟩).elim
    · rw [if_neg ha] at e1
      by_cases ha' : a' = b
      · subst ha'
        rw [hx] at r2; cases r2
        exact (hnh ⟨a, k1, x1, e1, r1, hbb⟩).elim
      · rw [if_neg ha'] at e2
        exact hr.excl a a' k1 k2 x1 x2 hne e1 e2 r1 r2 hbb
theorem Stp.setNew {ρ0 ρ : Ren} {s0 s s' : AS} {w0 w : World} {b : Nat} {k : Option Blk} (hS : Stp ρ0 s0 w0 ρ s w) (hs : s.set b k = some s') (hb : s0.nx ≤ b) (hlim : s0.lim ≤ s0.nx) (hH : ∀ c, c < w0.heap.size → Held ρ s' c → Held ρ s c) : Stp ρ0 s0 w0 ρ s' w := by
  obtain ⟨hnx, hg⟩ := AS.set_eq hs
  refine ⟨hS.ren, by rw [hnx]; exact hS.nx, hS.tape, hS.os, hS.out, hS.size, fun c hc hn => ⟨(hS.frame c hc hn).1, fun h => (hS.frame c hc hn).2 (hH c hc h)⟩, fun a ha hn => ?_, hS.lp, by rw [(AS.set_lim hs).1]; exact hS.lim, fun a ha => ?_, hS.lowW⟩
  · rw [hg, if_neg (by omega)]; exact hS.ph a ha hn
  · rw [hg, if_neg (by omega)]; exact hS.low a ha
section
variable {keep nt : Nat} {all : Array Oper} {l : List DOp} {I : DOp → Prop} {E0 : Nat → Option Value} {ρ0 : Ren} {s0 : AS} {w0 : World} {a0 : Act} {D : Nat → Prop} {B : Nat → Nat → Prop} {ρ : Ren} {cs : List Chk} {lo : Lo} {tm : T Value} {S : AS} {a : Act} {w : World} {ev : Ev}
variable {x' : XExit} {tm' : T Value} {s' : AS}
theorem St.forget {X : DOp → Prop} {S2 : AS} {bm : Nat} (h : St P keep nt all l E0 ρ0 s0 w0 a0 X D B ρ cs lo tm S a w) (hs : S.set bm none = some S2) (hb : s0.nx ≤ bm) (hlim : s0.lim ≤ s0.nx) : St P keep nt all l E0 ρ0 s0 w0 a0 X D B ρ cs lo tm S2 a w := by
  obtain ⟨hnx, hg⟩ := AS.set_eq hs
  have hsub : ∀ j k, S2.h.get j = some k → S.h.get j = some k := fun j k e => by
    rw [hg] at e
    split at e
    · cases e
    · exact e
  refine ⟨h.tk, h.env0, fun x hx hX hw hd => ?_, fun i b hb' => by rw [hnx]; exact h.bB i b hb', h.bI, h.dX, h.md, h.m0, h.e0, h.rel.fewer hsub hnx (AS.set_lim hs).1, h.stp.setNew hs hb hlim fun c _ ⟨j, k, y, e1, e2, e3⟩ => ⟨j, k, y, hsub j k e1, e2, e3⟩, h.df, h.sz⟩
  obtain ⟨lo', tm', v, r1, r2, r3⟩ := h.rcd x hx hX hw hd
  refine ⟨lo', tm', v, r1.mono (fun _ h => h) (fun _ h => h) (fun b hb' hlt hno => ⟨by rw [hnx]; exact hlt, hno, ?_⟩), r2, r3⟩
  rw [hg]
  split
  · exact .inr rfl
  · exact .inl rfl
theorem stage_runH {kf : K} {m : Opd} {nx0 : Nat} (hD : DReg P keep all l I) (hW : DWr all l) {sts : List Stage} {last : List DR} (hst : stages keep nt all.toList (wsOf l) l (wsOf l) 0 = some sts) (hlast : stageOps keep nt all.toList (wsOf l) (wsOf l).length l = some last)
    (h : St P keep nt all l E0 ρ0 s0 w0 a0 (Xs l 0 0) D B ρ cs lo tm S a w) (hk : runStagesH ev sts last kf (forgetK m nx0) cs lo tm S = .code x' tm' s') :
    ∃ B1 cs1 lo1 tm1 S1 S2 bm, St P keep nt all l E0 ρ0 s0 w0 a0 (Xs l 0 l.length) D B1 ρ cs1 lo1 tm1 S1 a w ∧ m lo1 tm1 = some (.map (some bm)) ∧ nx0 ≤ bm ∧ S1.set bm none = some S2 ∧ chksOk 0 S2 cs1 = true ∧ Cont P keep nt all l ev last kf (wsOf l) 0 cs1 lo1 tm1 S2 (.code x' tm' s') := by
  have forget : ∀ {kc : KC} {cs1 : List Chk} {lo1 : Lo} {tm1 : T Value} {S1 : AS}, forgetK m nx0 kc cs1 lo1 tm1 S1 = .code x' tm' s' → ∃ bm S2, m lo1 tm1 = some (.map (some bm)) ∧ nx0 ≤ bm ∧ S1.set bm none = some S2 ∧ kc cs1 lo1 tm1 S2 = .code x' tm' s' := by
    intro kc cs1 lo1 tm1 S1 hf
    unfold forgetK at hf
    split at hf
    · rename_i b hb
      rw [bif'_eq] at hf
      split at hf
      · rename_i hle
        cases e : S1.set b none with
        | none => rw [e] at hf; cases hf
        | some S2 => rw [e] at hf; exact ⟨b, S2, hb, Nat.le_of_ble_eq_true hle, e, hf⟩
      · cases hf
    · cases hf
  cases hw : wsOf l with
  | nil =>
    rw [hw] at hst
    cases hst
    have hk' : runDRs ev last (forgetK m nx0 (endStage 0 fun _ => kf)) cs lo tm S = .code x' tm' s' := hk
    have hlast' : stageOps keep nt all.toList (wsOf l) 0 l = some last := by rw [hw] at hlast ⊢; exact hlast
    obtain ⟨B1, cs1, lo1, tm1, S1, h1, _, hk1⟩ := pre_run hD hW l 0 (by simp) last hlast' B cs lo tm S h hk'
    obtain ⟨bm, S2, f1, f2, f3, f4⟩ := forget hk1
    obtain ⟨e1, e2⟩ := stage_end (out := (x', tm', s')) f4
    exact ⟨B1, cs1, lo1, tm1, S1, S2, bm, h1, f1, f2, f3, e1, e2⟩
  | cons x rest =>
    rw [hw] at hst
    have hst' : ob (stageOps keep nt all.toList (wsOf l) 0 l) (fun pre => ob (mkDst keep nt x.o.dst) fun d => ob (withGuard keep [] all.toList x.o d (ciOf x.r d)) fun cw => fNat (Nat.succ 0) fun n => ob (stages keep nt all.toList (wsOf l) l rest n) fun r => some (⟨pre, cw⟩ :: r)) = some sts := by rw [hw]; exact hst
    obtain ⟨pre, hpre, hst'⟩ := ob_some hst'
    obtain ⟨d, hd, hst'⟩ := ob_some hst'
    obtain ⟨cw, hcw, hst'⟩ := ob_some hst'
    rw [fNat_eq] at hst'
    obtain ⟨r, hr, hst'⟩ := ob_some hst'
    cases hst'
    have hk' : runDRs ev pre (forgetK m nx0 (endStage 0 fun cs => runCI ev cw (runStages ev r last kf 1 cs))) cs lo tm S = .code x' tm' s' := hk
    obtain ⟨B1, cs1, lo1, tm1, S1, h1, _, hk1⟩ := pre_run hD hW l 0 (by simp) pre hpre B cs lo tm S h hk'
    obtain ⟨bm, S2, f1, f2, f3, f4⟩ := forget hk1
    obtain ⟨e1, e2⟩ := stage_end (out := (x', tm', s')) f4
    exact ⟨B1, cs1, lo1, tm1, S1, S2, bm, h1, f1, f2, f3, e1, d, cw, r, hd, hcw, hr, e2⟩
end
theorem drawM_ok {keep nt id : Nat} {ops : Array Oper} {f : CF} (hm : P.follows .mixedOrders = true) (h : mkDrawM P keep nt ops.toList = some f) : CFOk P keep nt (.region id ops true) f := by
  unfold mkDrawM at h
  obtain ⟨ms, hms, h⟩ := ob_some h
  obtain ⟨l0, hl0, h⟩ := ob_some h
  obtain ⟨⟨x0, t, mt⟩, hpl, h⟩ := ob_some h
  obtain ⟨ke, hke, h⟩ := ob_some h
  obtain ⟨hgood, h⟩ := bif'_some h
  obtain ⟨hap, h⟩ := bif'_some h
  obtain ⟨hlv, h⟩ := bif'_some h
  simp only [mapD_eq] at hlv h
  obtain ⟨hch, h⟩ := bif'_some h
  obtain ⟨hpa, h⟩ := bif'_some h
  obtain ⟨st, hst, h⟩ := ob_some h
  obtain ⟨last, hlast, h⟩ := ob_some h
  obtain ⟨m, hmo, h⟩ := ob_some h
  cases h
  simp only at hgood hlv hmo hke
  have hD0 := dreg_of hms hl0
  have hgood := allB_spec hgood
  have hg1 : ∀ x ∈ l0, isInsO x.o = true → ∃ q, insOf keep x.o = some q := fun x hx hi => by
    have := hgood x hx
    unfold insGood at this
    split at this
    · rename_i q hq; exact ⟨q, hq⟩
    · rw [hi] at this; cases this
  have hD := dreg_fix hD0 hg1
  have hW := dwr_of hD hch hpa
  obtain ⟨hx0, hmk⟩ := findMk_some hpl
  obtain ⟨og, od, oo⟩ := mkmOf_some hmk
  have hx0i : isInsO x0.o = false := by unfold isInsO; rw [oo]
  have hfix : insFix keep x0 = x0 := by
    unfold insFix
    split
    · rename_i q hq; rw [insOf_ins hq] at hx0i; cases hx0i
    · rfl
  have hx0l : x0 ∈ l0.map (insFix keep) := List.mem_map.2 ⟨x0, hx0, hfix⟩
  have hback : ∀ x ∈ l0.map (insFix keep), ∃ y ∈ l0, x = insFix keep y ∧ x.i = y.i ∧ x.m = y.m ∧ x.o = y.o := fun x hx => by
    obtain ⟨y, hy, rfl⟩ := List.mem_map.1 hx
    obtain ⟨f1, f2, f3⟩ := insFix_fields keep y
    exact ⟨y, hy, rfl, f1, f2, f3⟩
  have hkey := keyOf_some hke
  have hMR : MReg P keep (l0.map (insFix keep)) x0 t mt ke.1 := by
    refine ⟨hx0l, og, od, oo, Nat.eq_of_beq_eq_true hlv, ⟨_, hkey⟩, fun x hx hi => ?_, fun x hx y hy hxi hyi hne q q' hq hq' => ?_⟩
    · obtain ⟨y, hy, e, f1, f2, f3⟩ := hback x hx
      rw [f3] at hi
      obtain ⟨q, hq⟩ := hg1 y hy hi
      have hg := hgood y hy
      unfold insGood at hg
      rw [hq] at hg
      obtain ⟨g1, hg⟩ := bif_tt hg
      obtain ⟨g2, hg⟩ := bif_tt hg
      obtain ⟨g3, hg⟩ := bif_tt hg
      obtain ⟨g4, g5⟩ := bif_tt hg
      refine ⟨q, by rw [f3]; exact hq, Nat.eq_of_beq_eq_true g1, Nat.eq_of_beq_eq_true g2, g3, by rw [f2]; exact g4, fun T m k s ho z hz hzd => ?_, ?_⟩
      · rw [f3] at ho
        unfold aheadOk at g5
        rw [ho] at g5
        obtain ⟨z', hz', _, z1, z2, z3⟩ := hback z hz
        have := allB_spec g5 z' hz'
        rw [z3] at hzd
        rw [hzd] at this
        simp only [Nat.beq_refl, bif'_true] at this
        rw [f2, z1]; exact this
      · rw [e]; unfold insFix; rw [hq]
    · obtain ⟨x1, hx1, e1, f1, f2, f3⟩ := hback x hx
      obtain ⟨y1, hy1, e2, g1, g2, g3⟩ := hback y hy
      rw [f3] at hq
      rw [g3] at hq'
      have hp := List.pairwise_iff_getElem.1 (keysApart_pair hap)
      obtain ⟨i, hi, rfl⟩ := List.getElem_of_mem hx1
      obtain ⟨j, hj, rfl⟩ := List.getElem_of_mem hy1
      rcases Nat.lt_trichotomy i j with hlt | heq | hlt
      · exact hp i j hi hj hlt q q' hq hq'
      · subst heq; exact (hne (e1.trans e2.symm)).elim
      · exact (hp j i hj hi hlt q' q hq' hq).symm
  have hnI : ¬ (isInsO x0.o = true) := by rw [hx0i]; simp
  have hw0 : isW x0.r = false := by
    have hrd := hD.rd x0 hx0l hnI
    rw [oo] at hrd
    obtain ⟨ke', _, hrd⟩ := ob_some hrd
    rw [← Option.some.inj hrd]; rfl
  rw [len_eq] at hlast
  intro ev hev F hF ρ tm s a w x tm' s' hr hE n0 hn0 hM hL hR Q hQ
  have hr : runStagesH ev st last (finK m ke.1 (insList keep l0)) (forgetK m s.nx) [] .nil tm s = .code x tm' s' := hr
  refine wpIn_region_any hm ?_
  have hR' : Rel P ρ s { w with drawn := w.drawn + 1 } := hR.of_heap rfl
  have h0 : St P keep nt ops (l0.map (insFix keep)) (envget keep .nil tm) ρ s w a (Xs (l0.map (insFix keep)) 0 0) (fun _ => False) (fun _ _ => False) ρ [] .nil tm s a { w with drawn := w.drawn + 1 } := by
    refine ⟨hE.tk, fun t _ => rfl, fun y _ hX _ _ => ?_, fun _ _ h => h.elim, fun _ _ _ h => h.elim, fun _ _ h => h.elim, fun _ _ h => h.elim, fun _ _ => rfl, fun t v hv => ?_, hR', .of_heap rfl rfl rfl rfl, rfl, hE.size⟩
    · rcases hX with h | ⟨_, _, h⟩ <;> omega
    · unfold envget at hv
      rw [bif'_eq] at hv
      split at hv
      · exact hE.env t v hv
      · cases hv
  obtain ⟨B1, cs1, lo1, tm1, S1, S2, bm, h1, hmv, hbm, hset, hchk, hcont⟩ := stage_runH hD hW hst hlast h0 hr
  have hx0X : Xs (l0.map (insFix keep)) 0 (l0.map (insFix keep)).length x0 := .inr ⟨Nat.eq_of_beq_eq_true hlv, hw0, (List.getElem?_eq_some_iff.1 (hD.mem hx0l)).1⟩
  rw [mkOp_tmp hmo] at hmv
  obtain ⟨_, hBm⟩ := phantom_at hD hMR hnI h1 hx0X hmv (fun h => h)
  have hbm1 := (h1.bB _ _ hBm).1
  have h2 := h1.forget hset hbm hR.lim
  obtain ⟨q1, q2⟩ := AS.set_eq hset
  have hJ0 : MJ P keep (l0.map (insFix keep)) x0 mt ke.1 s w bm (fun _ => False) ρ S2 lo1 tm1 { w with drawn := w.drawn + 1 } := ⟨hmv, by rw [q2, if_pos rfl], by rw [q1]; exact hbm1, hbm, fun h => h.elim⟩
  refine draw_run (J := MJ P keep (l0.map (insFix keep)) x0 mt ke.1 s w bm) (Sp := fun x => isInsO x.o = true ∨ x.i = x0.i) hF hev hD hW hlast (fun D B ρ cs lo tm S a' w' hall h hJ hk => ?_) (fun _ _ h => .inl h) (fun x hx hsp => ?_)
    (fun D c ρ S lo tm w lo1 tm1 S1 hc hX hJ g => hJ.grow hD hW hMR hc hX g)
    (fun D ρ S lo tm w x ρ' w' hx hsp hJ hle hq => hJ.quiet hx (fun e => hsp (.inr e)) (by cases e : isInsO x.o with | false => rfl | true => exact (hsp (.inl e)).elim) hD hle hq)
    (fun c D B ρ cs lo tm S a w x N hx hsp hxD hpre hdown hxX h hJ hN => ?_)
    (fun c D B ρ cs S lo tm a w x ρ' S1 lo1 tm1 w1 v hx hxw hxD h huniq hlev hJ hR1 hS1 henv => hJ.wrote hD hMR hnI hx hxw (by
      cases e : isInsO x.o with
      | false => rfl
      | true =>
        obtain ⟨q, _, _, _, _, _, _, hr⟩ := hMR.look x hx e
        rw [hr] at hxw; cases hxw) hxD h huniq hS1 henv)
    ops.size (Array.replicate ops.size false) _ B1 ρ cs1 lo1 tm1 S2 a _ [] (wsOf (l0.map (insFix keep))) (by simp) (fun i => ?_) (fun _ _ h => h.elim) ?_ rfl (fun _ h => by cases h) (fun _ _ h => h) h2 hJ0 hchk hcont
  · -- the map is told again
    obtain ⟨j1, j2, j3, j4, j5⟩ := hJ
    obtain ⟨loc, L, es, k1, k2, k3, k4, k5, k6, k7, k8⟩ := j5 (hall x0 hx0l)
    unfold finK at hk
    rw [mkOp_tmp hmo, j1] at hk
    simp only at hk
    cases hes : insEs (insList keep l0) lo tm with
    | none => rw [hes] at hk; cases hk
    | some esf =>
      rw [hes] at hk
      simp only at hk
      cases hs : S.set bm (some (.map ke.1 esf (len (insList keep l0)))) with
      | none => rw [hs] at hk; cases hk
      | some s1 =>
        rw [hs] at hk
        cases hk
        obtain ⟨i1, i2⟩ := insEs_rel hg1 hes
        have hnd : ((l0.map (insFix keep)).filter fun x => isInsO x.o).Nodup := by
          have hs : (l0.map (insFix keep)).Nodup := (sorted_of hD).imp (fun {x y : DOp} (h : x.i < y.i) => (fun e => by subst e; omega : x ≠ y))
          exact hs.filter _
        have hpm : L.Perm ((l0.map (insFix keep)).filter fun x => isInsO x.o) := (List.perm_ext_iff_of_nodup k6 hnd).2 fun z => by
          rw [k7, List.mem_filter]
          exact ⟨fun ⟨z1, z2, _⟩ => ⟨z1, z2⟩, fun ⟨z1, z2⟩ => ⟨z1, z2, hall z z1⟩⟩
        obtain ⟨es', p1, p2⟩ := k8.permM hpm
        obtain ⟨ents, hh, hmr, hbn⟩ := k5
        have hz : F2 (fun p q => p.1 = q.1 ∧ p.2.1 = q.2.1 ∧ q.2.2 = 0) es' esf := F2.both (fun x p q ⟨q1, a1, a2, a3, _⟩ ⟨q2, b1, b2, b3, b4⟩ => by
          rw [a1] at b1; cases b1
          rw [a3] at b3
          exact ⟨a2.trans b2.symm, Option.some.inj b3, b4⟩) p2 i1
        have hlen : len (insList keep l0) = es.length := by rw [len_eq, i2, ← hz.length, p1.length_eq]
        have hbr : BRel P ρ loc w' (.map ke.1 esf (len (insList keep l0))) := by
          rw [hlen]; exact ⟨ents, hh, (hmr.permL p1).zero hz, hbn⟩
        have hrel := h.rel.revive hs j2 k1 k2 k4 hbr j3 (fun i => by simp [World.cell?, hh])
        have hstp := h.stp.setNew hs j4 hR.lim fun c hc ⟨j, k, y, e1, e2, e3⟩ => by
          rw [(AS.set_eq hs).2] at e1
          split at e1
          · rename_i e; subst e
            rw [k1] at e2; cases e2
            have : w.heap.size ≤ loc.b := k3
            have hc : c < w.heap.size := hc
            omega
          · exact ⟨j, k, y, e1, e2, e3⟩
        exact hQ ρ a' w' (h.envOk hall) (by rw [h.df]; exact hM.step hstp) hrel hstp
  · rcases hsp with hi | hi
    · obtain ⟨q, _, _, _, _, _, _, hr⟩ := hMR.look x hx hi
      rw [hr]; rfl
    · rw [hD.inj hx hx0l hi]; exact hw0
  · by_cases hi : isInsO x.o = true
    · exact hJ.put hF hD hW hMR hR hx hi hxD hpre hdown hxX h hN
    · have hxe : x = x0 := hD.inj hx hx0l (hsp.resolve_left hi)
      rw [hxe] at hxD hpre hxX hN ⊢
      exact hJ.made hF hD hW hMR hnI hxD hpre hdown (fun y hy hyi hyD => by
        obtain ⟨q, _, _, _, _, hb, _⟩ := hMR.look y hy hyi
        exact hdown y hy hyD _ hb) hxX h hN
  · rw [Array.getD_eq_getD_getElem?, Array.getElem?_replicate]
    constructor
    · exact fun h => h.elim
    · intro h
      split at h <;> cases h
  · exact Nat.le_trans (List.length_filter_le _ _) (by simp)
end Go.Eng
/-! Ranges over functions. -/
namespace Go.Eng
open Go
variable {P : Program}
/-- no function of a name that the machine knows. -/
def Plainly (P : Program) : Prop := ∀ (f : Nat) (fn : Func), P.funcs[f]? = some fn → (fn.name == "runtime.NumGoroutine") = false
theorem Rel.extend {ρ : Ren} {s : AS} {w w' : World} {o : Obj} (h : Rel P ρ s w) (hh : w'.heap = w.heap.push o) : Rel P ρ s w' :=
  ⟨h.dom, h.top, fun a k x e e' => let ⟨h1, h2⟩ := h.blk a k x e e'; ⟨by rw [hh, Array.size_push]; omega, h2.congr (by rw [hh, Array.getElem?_push, if_neg (Nat.ne_of_lt h1)])⟩, h.lim, h.excl, h.gl.of (by rw [hh, Array.size_push]; omega) fun b hb hn => ⟨by rw [hh, Array.getElem?_push, if_neg (Nat.ne_of_lt hb)], hn⟩⟩
theorem Stp.extend {ρ : Ren} {s : AS} {w w' : World} {o : Obj} (hr : Rel P ρ s w) (hh : w'.heap = w.heap.push o) (ht : w'.tape = w.tape) (ho : w'.os = w.os) (hu : w'.output = w.output) : Stp ρ s w ρ s w' :=
  ⟨fun _ _ => rfl, Nat.le_refl _, ht, ho, hu, by rw [hh, Array.size_push]; omega, fun b hb h => ⟨by rw [hh, Array.getElem?_push, if_neg (Nat.ne_of_lt hb)], h⟩, fun _ _ _ => .inl rfl,
    fun b r h => ⟨r, by rw [hh, Array.getElem?_push, if_neg (Nat.ne_of_lt (Array.getElem?_eq_some_iff.1 h).1)]; exact h⟩, rfl, fun _ _ => rfl, fun a k x _ _ hk _ hx => by rw [hh, Array.getElem?_push, if_neg (Nat.ne_of_lt (hr.blk a k x hk hx).1)]⟩
theorem held_lt {ρ : Ren} {s : AS} {w : World} {b : Nat} (h : Rel P ρ s w) (hb : Held ρ s b) : b < w.heap.size := by
  obtain ⟨a, k, x, e, e', rfl⟩ := hb
  exact (h.blk a k x e e').1
/-- the loop's record. -/
def recOf (fn : FuncId) (tmps : Array Value) (ps : List Tmp) (as bd : Code) (r : Nat) : Loop := { state := .ready, pending := none, fn, tmps, params := ps.toArray, assign := as, body := bd, defers := r }
theorem loop_new {ρ : Ren} {s s1 : AS} {w w1 : World} {keep nt fn : Nat} {tm : T Value} {a : Act} {ps : List Tmp} {as bd : Code} {fn' r : Nat} (hR : Rel P ρ s w) (hE : EnvOk keep nt ρ tm a) (hps : ∀ p ∈ ps, p < nt) (hs : s.new (.loop .ready none fn nt keep tm ps as bd) = some s1)
    (hh : w1.heap = w.heap.push (.loop (recOf fn' a.tmps ps as bd r))) (ht : w1.tape = w.tape) (ho : w1.os = w.os) (hu : w1.output = w.output) : Rel P (ρ.put s.nx ⟨w.heap.size, 0, 0⟩) s1 w1 ∧ Stp ρ s w (ρ.put s.nx ⟨w.heap.size, 0, 0⟩) s1 w1 := by
  refine Rel.alloc hR hs rfl (by rw [hh, Array.size_push]) (fun b hb => by rw [hh, Array.getElem?_push, if_neg (Nat.ne_of_lt hb)]) ht ho hu ⟨a.tmps, fn', r, ?_, hE.env.mono (put_le (hR.dom _ (Nat.le_refl _)) _), hE.tk, hE.size, hps⟩
  show w1.heap[w.heap.size]? = _
  rw [hh, Array.getElem?_push, if_pos rfl]; rfl
theorem enterLoop_ok {F : Fence} {ρ : Ren} {s s1 : AS} {w : World} {keep nt fn n0 : Nat} {tm : T Value} {a : Act} {ps : Array Tmp} {as bd : Code} {fn' : FuncId} (hR : Rel P ρ s w) (hE : EnvOk keep nt ρ tm a) (hn0 : n0 ≤ w.heap.size) (hM : Marks n0 ρ s w a.defers)
    (hL : ∀ l, F.round = some l → ∃ r, w.heap[l]? = some (Obj.loop r)) (hps : ∀ p ∈ ps.toList, p < nt) (hs : s.new (.loop .ready none fn nt keep tm ps.toList as bd) = some s1) :
    ∃ l mark w1 ρ1, (Instr.enterLoop fn' a.tmps ps as bd F.round).run P w = .ok (l, mark) w1 ∧ ρ1 s.nx = some ⟨l, 0, 0⟩ ∧ Rel P ρ1 s1 w1 ∧ Stp ρ s w ρ1 s1 w1 ∧ Marks n0 ρ1 s1 w1 (mark ++ a.defers) := by
  cases hro : F.round with
  | some l0 =>
    obtain ⟨r0, hr0⟩ := hL l0 hro
    have hrun : (Instr.enterLoop fn' a.tmps ps as bd (some l0)).run P w = .ok (w.heap.size, []) (w.alloc (.loop (recOf fn' a.tmps ps.toList as bd r0.defers))) := by
      simp only [Instr.enterLoop, Instr.getLoop, Sem.run_bind, run_getObj_loop hr0, Result.andThen_ok, Sem.run_pure, run_newObj_alloc]
      rfl
    obtain ⟨h1, h2⟩ := loop_new (w1 := w.alloc (.loop (recOf fn' a.tmps ps.toList as bd r0.defers))) hR hE hps hs rfl rfl rfl rfl
    exact ⟨_, _, _, _, hrun, put_self _ _ _, h1, h2, by simpa using hM.step h2⟩
  | none =>
    let wA := w.alloc (.deferred (some []))
    have hA : wA.heap = w.heap.push (.deferred (some [])) := rfl
    have hRA : Rel P ρ s wA := hR.extend hA
    have hSA : Stp ρ s w ρ s wA := .extend hR hA rfl rfl rfl
    have hrun : (Instr.enterLoop fn' a.tmps ps as bd none).run P w = .ok (wA.heap.size, [{ target := .collected w.heap.size, args := #[] }]) (wA.alloc (.loop (recOf fn' a.tmps ps.toList as bd w.heap.size))) := by
      simp only [Instr.enterLoop, Sem.run_bind, Result.andThen_ok, Sem.run_pure, run_newObj_alloc]
      rfl
    obtain ⟨h1, h2⟩ := loop_new (w1 := wA.alloc (.loop (recOf fn' a.tmps ps.toList as bd w.heap.size))) hRA hE hps hs rfl rfl rfl rfl
    have hM1 : Marks n0 ρ s wA ([{ target := .collected w.heap.size, args := #[] }] ++ a.defers) := by
      have hMA := hM.step hSA
      refine ⟨fun d hd => ?_, ?_⟩
      · rcases List.mem_cons.1 hd with rfl | hd
        · exact ⟨w.heap.size, rfl, by rw [hA, Array.getElem?_push, if_pos rfl], by rw [hA, Array.size_push]; omega, fun hh => Nat.lt_irrefl _ (held_lt hR hh), hn0⟩
        · exact hMA.each d hd
      · refine List.pairwise_cons.2 ⟨fun d hd r hr hr' => ?_, hMA.apart⟩
        obtain ⟨r1, e1, _, e3, _⟩ := hM.each d hd
        cases hr
        rw [e1] at hr'
        injection hr' with hr'
        omega
    exact ⟨_, _, _, _, hrun, put_self _ _ _, h1, hSA.trans h2, hM1.step h2⟩
theorem hasBody_some {v : Value} (h : hasBody P v = true) : ∃ f a b fn c, v = .func (.func f) a b ∧ P.funcs[f]? = some fn ∧ fn.body = some c := by
  unfold hasBody at h
  split at h
  · rename_i f a b
    split at h
    · rename_i fn hf
      split at h
      · rename_i c hc
        exact ⟨f, a, b, fn, c, rfl, hf, hc⟩
      · cases h
    · cases h
  · cases h
theorem callFunc_body (hP : Plainly P) {f : Nat} {fn : Func} {c : Code} (hf : P.funcs[f]? = some fn) (hb : fn.body = some c) (args : Array Value) (w : World) : (callFunc f args).run P w = .ok (.enter f args) w := by
  unfold callFunc
  have hpr : Sem.run P program w = .ok P w := rfl
  simp only [Sem.run_bind, hpr, Result.andThen_ok, hf, hP f fn hf, Bool.false_eq_true, if_false, hb, Option.isNone_some, Sem.run_pure]
theorem loopOf_some {b : Option Blk} {k : LoopState → Option Code → Nat → Nat → Nat → T Value → List Tmp → Code → Code → Out} {o : Out} (h : loopOf b k = o) (ho : o ≠ .no) : ∃ st pend fn nt kp tm ps as bd, b = some (.loop st pend fn nt kp tm ps as bd) ∧ k st pend fn nt kp tm ps as bd = o := by
  cases b with
  | none => exact (ho h.symm).elim
  | some b => cases b <;> first | exact (ho h.symm).elim | exact ⟨_, _, _, _, _, _, _, _, _, rfl, h⟩
theorem setOut_some {s : AS} {i : Nat} {b : Blk} {k : AS → Out} {o : Out} (h : setOut s i b k = o) (ho : o ≠ .no) : ∃ s', s.set i (some b) = some s' ∧ k s' = o := by
  have h : Option.rec (motive := fun _ => Out) .no k (s.set i (some b)) = o := h
  cases hs : s.set i (some b) with
  | none => rw [hs] at h; exact (ho h.symm).elim
  | some s' => rw [hs] at h; exact ⟨s', rfl, h⟩
/-- a loop's record is written. -/
theorem loop_set {ρ : Ren} {s s' : AS} {w : World} {l : Nat} {x : Loc} {st st' : LoopState} {pend pend' : Option Code} {fn nt kp : Nat} {tm : T Value} {ps : List Tmp} {as bd : Code} (hR : Rel P ρ s w) (hx : ρ l = some x)
    (hk : s.h.get l = some (.loop st pend fn nt kp tm ps as bd)) (hs : s.set l (some (.loop st' pend' fn nt kp tm ps as bd)) = some s') :
    ∃ r : Loop, w.heap[x.b]? = some (.loop r) ∧ r.state = st ∧ r.pending = pend ∧ r.params = ps.toArray ∧ r.assign = as ∧ r.body = bd ∧ EnvT ρ tm r.tmps ∧ (∀ t v, tm.get t = some v → kept kp t = true) ∧ nt ≤ r.tmps.size ∧ (∀ p ∈ ps, p < nt) ∧
      Rel P ρ s' (w.putObj x.b (.loop { r with state := st', pending := pend' })) ∧ Stp ρ s w ρ s' (w.putObj x.b (.loop { r with state := st', pending := pend' })) := by
  obtain ⟨hlt, tmps, fn', d, hh, h1, h2, h3, h4⟩ := hR.blk l _ x hk hx
  refine ⟨_, hh, rfl, rfl, rfl, rfl, rfl, h1, h2, h3, h4, ?_⟩
  exact Rel.setObj hR hs hk rfl hx (fun w' hw' => ⟨tmps, fn', d, hw', h1, h2, h3, h4⟩) (fun _ => rfl)
theorem run_endLoop {l : Nat} {r : Loop} {w : World} (h : w.heap[l]? = some (.loop r)) (hb : r.state ≠ .busy) : (Instr.endLoop l).run P w = .ok r.pending (w.putObj l (.loop { r with state := .exhausted })) := by
  have : (r.state == .busy) = false := by cases hs : r.state <;> first | rfl | exact (hb hs).elim
  simp only [Instr.endLoop, Instr.getLoop, Sem.run_bind, run_getObj_loop h, Result.andThen_ok, Sem.run_pure, this, Bool.false_eq_true, if_false, run_setObj_loop _ h]
theorem rangeFunc_ok {keep nt fn : Nat} (hP : Plainly P) {g : Operand} {fo : Opd} {ps : Array Tmp} {as bd : Code} (hg : mkOp keep [] g = some fo) (hps : ∀ p ∈ ps.toList, p < nt) :
    CFOk P keep nt (.rangeFunc g ps as bd) (fRangeFunc P fn nt keep fo ps.toList as bd) := fun ev hev F hF ρ tm s a w e tm' s' h hE n0 hn0 hM hL hR Q hQ => by
  have h : Option.rec (motive := fun _ => Out) .no (fun fv => bif' (hasBody P fv) (Option.rec (motive := fun _ => Out) .no
    (fun s1 => afterLoop s.nx tm (ev fv [.func (.yield s.nx) #[] #[]] s1)) (s.new (.loop .ready none fn nt keep tm ps.toList as bd))) .no) (fo .nil tm) = .code e tm' s' := h
  cases hv : fo .nil tm with
  | none => rw [hv] at h; cases h
  | some fv =>
    rw [hv] at h
    have h : bif' (hasBody P fv) (Option.rec (motive := fun _ => Out) .no
      (fun s1 => afterLoop s.nx tm (ev fv [.func (.yield s.nx) #[] #[]] s1)) (s.new (.loop .ready none fn nt keep tm ps.toList as bd))) .no = .code e tm' s' := h
    cases hb : hasBody P fv with
    | false => rw [hb] at h; cases h
    | true =>
      rw [hb, bif'_true] at h
      obtain ⟨fi, fa, fb, fnc, c, rfl, hfi, hbody⟩ := hasBody_some hb
      cases hs : s.new (.loop .ready none fn nt keep tm ps.toList as bd) with
      | none => rw [hs] at h; cases h
      | some s1 =>
        rw [hs] at h
        have h : afterLoop s.nx tm (ev (.func (.func fi) fa fb) [.func (.yield s.nx) #[] #[]] s1) = .code e tm' s' := h
        cases ho : ev (.func (.func fi) fa fb) [.func (.yield s.nx) #[] #[]] s1 with
        | no => rw [ho] at h; cases h
        | code => rw [ho] at h; cases h
        | val v s2 =>
          rw [ho] at h
          have hfv := hE.inv.ops (ops := #[g]) _ _ _ (by simp) hg hv
          generalize hge : a.eval g = gv at hfv
          cases hfv with | @func _ _ _ fa' fb' hfa hfb => ?_
          refine wpIn_rangeFunc (fun fn' _ => ?_)
          obtain ⟨l, mark, w1, ρ1, hent, hl, hR1, hS1, hM1⟩ := enterLoop_ok (F := F) (fn' := fn') hR hE hn0 hM hL hps hs
          have hle1 := hS1.le hR
          have hcall := hev _ _ _ _ _ ho ρ1 w1 (.func (.func fi) fa' fb') [.func (.yield l) #[] #[]] hR1 (.func fi (hfa.mono hle1) (hfb.mono hle1)) (.cons (.yield (x := ⟨l, 0, 0⟩) hl .nil .nil) .nil)
          have hrun : ∀ args, (invoke (.fn (.func fi) fb') args).run P w1 = .ok (.enter fi (args ++ fb')) w1 := fun args => callFunc_body hP hfi hbody _ w1
          have hcr : (callOf (.func (.func fi) fa' fb') [.func (.yield l) #[] #[]]).run P w1 = .ok (.enter fi (fa' ++ #[.func (.yield l) #[] #[]] ++ fb')) w1 := by
            unfold callOf
            simp only [Deferred.ofValue, pure_bind, hrun]
          unfold CallRun at hcall
          rw [hcr] at hcall
          refine ⟨l, mark, w1, { target := .fn (.func fi) fb', args := fa' ++ #[.func (.yield l) #[] #[]] }, w1, fi, _, w1, hent, ?_, fun f' _ => hF.fn f', hrun _, fun hd => (by rw [hF.depth] at hd; cases hd), CallsIn.mono (CallsIn.wideF hF hcall) ?_⟩
          · unfold resolve
            have hm : Array.map a.eval #[Operand.const (.func (.yield l) #[] #[])] = #[.func (.yield l) #[] #[]] := by simp [Act.eval]
            simp only [hge, Deferred.ofValue, hm, Sem.run_pure]
          rintro e3 w3 ⟨u, rfl, ρ2, h1, hR2, hS2⟩
          have hS02 := hS1.trans hS2
          -- the loop's record, behind the call
          have h : loopOf (s2.h.get s.nx) (fun st pend fn' nt' kp' tm' ps' as' bd' =>
            match st with
            | .busy => .no
            | _ => setOut s2 s.nx (.loop .exhausted pend fn' nt' kp' tm' ps' as' bd') fun s3 => match pend with
              | none => .code .normal tm s3
              | some c => pendOut c tm s3) = .code e tm' s' := h
          obtain ⟨st, pend, fn2, nt2, kp2, tm2, ps2, as2, bd2, hblk, h⟩ := loopOf_some h (by simp)
          have hl2 : ρ2 s.nx = some ⟨l, 0, 0⟩ := by rw [hS2.ren _ (by have := (AS.new_eq hs).1; omega)]; exact hl
          have h : st ≠ .busy ∧ (setOut s2 s.nx (.loop .exhausted pend fn2 nt2 kp2 tm2 ps2 as2 bd2) fun s3 => match (generalizing := false) pend with
              | none => .code .normal tm s3
              | some c => pendOut c tm s3) = .code e tm' s' := by
            cases st <;> first | (cases h; done) | exact ⟨by simp, h⟩
          obtain ⟨hnb, h⟩ := h
          obtain ⟨s3, hs3, h⟩ := setOut_some h (by simp)
          obtain ⟨r, hr, rst, rpend, _, _, _, _, _, _, _, hR3, hS3⟩ := loop_set hR2 hl2 hblk hs3
          refine ⟨r.pending, _, run_endLoop hr (by rw [rst]; exact hnb), ?_⟩
          have hrr : ({ r with state := LoopState.exhausted } : Loop) = { r with state := LoopState.exhausted, pending := pend } := by rw [← rpend]
          rw [hrr]
          have hS03 := hS02.trans hS3
          have fin : ∀ x, Out.code x tm s3 = .code e tm' s' → Q (toExit x) { a with defers := mark ++ a.defers } (w3.putObj l (.loop { r with state := .exhausted, pending := pend })) := fun x hx => by
            cases hx
            exact hQ ρ2 _ _ ⟨hE.size, hE.tk, hE.env.mono (hS02.le hR)⟩ ((hM1.step hS2).step hS3) hR3 hS03
          rw [rpend]
          cases pend with
          | none => exact fin .normal h
          | some c2 =>
            have h : pendOut c2 tm s3 = .code e tm' s' := h
            unfold pendOut at h
            split at h
            · exact wpIn_ret (fin .ret h)
            · exact wpIn_exit (fin (.exit _) h)
            · cases h
end Go.Eng
/-! Loops over maps. -/
namespace Go.Eng
open Go
variable {P : Program}
mutual
theorem plain_refl {ρ : Ren} : ∀ {v : Value}, Plain v → VRel ρ v v
  | _, .bool b => .bool b
  | _, .int k n => .int k n
  | _, .string s => .string s
  | _, .agg a h => .agg (plain_refls a.toList h)
theorem plain_refls {ρ : Ren} : ∀ (l : List Value), (∀ v ∈ l, Plain v) → VRels ρ l l
  | [], _ => .nil
  | v :: l, h => .cons (plain_refl (h v (by simp))) (plain_refls l fun u hu => h u (by simp [hu]))
end
/-! A value that was known before is known by the old places. -/
mutual
theorem vrel_down {ρ ρ' : Ren} (hr : RenLe ρ ρ') : ∀ {v u0 u : Value}, VRel ρ v u0 → VRel ρ' v u → VRel ρ v u
  | _, _, _, .bool b, h => by cases h; exact .bool b
  | _, _, _, .int k n, h => by cases h; exact .int k n
  | _, _, _, .string s, h => by cases h; exact .string s
  | _, _, _, .junk m n v _ _, h => by cases h with | junk _ _ _ h h' => exact .junk m n _ h h'
  | _, _, _, .glob g off, h => by cases h; exact .glob g off
  | _, _, _, .ptrNil, h => by cases h; exact .ptrNil
  | _, _, _, .ptr off hx, h => by
    cases h with
    | ptr _ hx' => rw [hr _ _ hx] at hx'; cases hx'; exact .ptr off hx
  | _, _, _, .sliceNil, h => by cases h; exact .sliceNil
  | _, _, _, .slice off n c cap ad hx _ _ _ _ _, h => by
    cases h with
    | slice _ _ _ cap' ad' hx' h1 h2 h3 h4 h5 => rw [hr _ _ hx] at hx'; cases hx'; exact .slice off n c cap' ad' hx h1 h2 h3 h4 h5
  | _, _, _, .mapNil, h => by cases h; exact .mapNil
  | _, _, _, .map hx, h => by
    cases h with
    | map hx' => rw [hr _ _ hx] at hx'; cases hx'; exact .map hx
  | _, _, _, .func f ha hb, h => by
    cases h with
    | func _ ha' hb' => exact .func f (vrels_down hr ha ha') (vrels_down hr hb hb')
  | _, _, _, .yield hx ha hb, h => by
    cases h with
    | yield hx' ha' hb' => rw [hr _ _ hx] at hx'; cases hx'; exact .yield hx (vrels_down hr ha ha') (vrels_down hr hb hb')
  | _, _, _, .nilFunc, h => by cases h; exact .nilFunc
  | _, _, _, .nilIface, h => by cases h; exact .nilIface
  | _, _, _, .iface t hv, h => by
    cases h with
    | iface _ hv' => exact .iface t (vrel_down hr hv hv')
  | _, _, _, .agg ha, h => by
    cases h with
    | agg ha' => exact .agg (vrels_down hr ha ha')
  | _, _, _, .tuple ha, h => by
    cases h with
    | tuple ha' => exact .tuple (vrels_down hr ha ha')
theorem vrels_down {ρ ρ' : Ren} (hr : RenLe ρ ρ') : ∀ {l m0 m : List Value}, VRels ρ l m0 → VRels ρ' l m → VRels ρ l m
  | _, _, _, .nil, h => by cases h; exact .nil
  | _, _, _, .cons hv hs, h => by
    cases h with
    | cons hv' hs' => exact .cons (vrel_down hr hv hv') (vrels_down hr hs hs')
end
theorem envT_down {ρ ρ' : Ren} (hr : RenLe ρ ρ') {tm : T Value} {t0 t1 : Array Value} (h0 : EnvT ρ tm t0) (h : EnvT ρ' tm t1) : EnvT ρ tm t1 := fun t v e => by
  obtain ⟨u0, _, hv0⟩ := h0 t v e
  obtain ⟨u, hu, hv⟩ := h t v e
  exact ⟨u, hu, vrel_down hr hv0 hv⟩
theorem f2_down {ρ ρ' : Ren} (hr : RenLe ρ ρ') {kt : TypeId} : ∀ {es : List (Value × Value × Nat)} {l0 l : List MapEntry}, F2 (EntRel P ρ kt) es l0 → F2 (EntRel P ρ' kt) es l → F2 (EntRel P ρ kt) es l
  | _, _, _, .nil, .nil => .nil
  | _, _, _, .cons h' hs', .cons h hs => .cons ⟨h.1, h.2.1, h.2.2.1, vrel_down hr h'.2.2.2.1 h.2.2.2.1, h.2.2.2.2⟩ (f2_down hr hs' hs)
theorem mapRel_down {ρ ρ' : Ren} (hr : RenLe ρ ρ') {kt : TypeId} {es : List (Value × Value × Nat)} {e0 e1 : Array MapEntry} (h0 : MapRel P ρ kt es e0) (h : MapRel P ρ' kt es e1) : MapRel P ρ kt es e1 := by
  obtain ⟨l0, _, hf0, _⟩ := h0
  obtain ⟨l, hp, hf, hn⟩ := h
  exact ⟨l, hp, f2_down hr hf0 hf, hn⟩
theorem brel_down {ρ ρ' : Ren} (hr : RenLe ρ ρ') {x : Loc} {w0 w : World} : ∀ {k : Blk}, BRel P ρ x w0 k → BRel P ρ' x w k → BRel P ρ x w k
  | .cells .., h0, h => ⟨fun i l e => by
      obtain ⟨a, b, c⟩ := h.cell i l e
      obtain ⟨_, _, c0⟩ := h0.cell i l e
      refine ⟨a, b, fun j v hv => ?_⟩
      obtain ⟨u, hu, hv'⟩ := c j v hv
      obtain ⟨_, _, hv0⟩ := c0 j v hv
      exact ⟨u, hu, vrel_down hr hv0 hv'⟩, h.all, h.free, h.shape, h.mult⟩
  | .map .., ⟨_, _, hm0, _⟩, ⟨e, h, hm, hb⟩ => ⟨e, h, mapRel_down hr hm0 hm, hb⟩
  | .strIter .., _, h => h
  | .mapIter .., ⟨_, h0⟩, ⟨hb, h⟩ => ⟨hb, by
      rcases h with ⟨rfl, h⟩ | ⟨a, y, rfl, hy, h⟩
      · exact .inl ⟨rfl, h⟩
      · rcases h0 with ⟨h0, _⟩ | ⟨a0, y0, ha0, hy0, _⟩
        · cases h0
        · cases ha0
          have := hr _ _ hy0
          rw [hy] at this; cases this
          exact .inr ⟨a, y, rfl, hy0, h⟩⟩
  | .loop .., ⟨_, _, _, _, he0, _⟩, ⟨t, f, r, h, he, hn⟩ => ⟨t, f, r, h, envT_down hr he0 he, hn⟩
/-- what a round has made is let go. -/
theorem Rel.down {ρ ρ' : Ren} {s se : AS} {w0 w : World} (h0 : Rel P ρ s w0) (h : Rel P ρ' se w) (hle : RenLe ρ ρ') (hsame : ∀ a, a < s.nx → se.h.get a = s.h.get a) : Rel P ρ s w := by
  have hlt : ∀ {a x}, ρ a = some x → a < s.nx := fun {a x} e => Nat.lt_of_not_le fun hle => by rw [h0.dom a hle] at e; cases e
  refine ⟨h0.dom, h0.top, fun a k x e e' => ?_, h0.lim, fun a a' k k' x x' hne e1 e2 r1 r2 hb => h0.excl a a' k k' x x' hne e1 e2 r1 r2 hb, fun g gl vs g1 g2 => (let ⟨_, b, _⟩ := h0.gl g gl vs g1 g2; let ⟨a', _, c'⟩ := h.gl g gl vs g1 g2; ⟨a', b, c'⟩)⟩
  obtain ⟨h1, h2⟩ := h.blk a k x (by rw [hsame a (hlt e')]; exact e) (hle _ _ e')
  exact ⟨h1, brel_down hle (h0.blk a k x e e').2 h2⟩
theorem Held.up {ρ ρ' : Ren} {s se : AS} {w0 : World} (h0 : Rel P ρ s w0) (hle : RenLe ρ ρ') (hsame : ∀ a, a < s.nx → se.h.get a = s.h.get a) {b : Nat} (h : Held ρ s b) : Held ρ' se b := by
  obtain ⟨a, k, x, e, e', hb⟩ := h
  have : a < s.nx := Nat.lt_of_not_le fun hle => by rw [h0.dom a hle] at e'; cases e'
  exact ⟨a, k, x, by rw [hsame a this]; exact e, hle _ _ e', hb⟩
theorem Rel.unheld {ρ : Ren} {s : AS} {w : World} {r : Nat} {o : Obj} (h : Rel P ρ s w) (hn : ¬ Held ρ s r) (hno : ∀ i, w.cell? ⟨r, i, none⟩ = none) : Rel P ρ s { w with heap := w.heap.setIfInBounds r o } :=
  ⟨h.dom, h.top, fun a k x e e' => by
    obtain ⟨h1, h2⟩ := h.blk a k x e e'
    have hne : r ≠ x.b := fun e2 => hn ⟨a, k, x, e, e', e2.symm⟩
    exact ⟨by simpa using h1, h2.congr (by simp [hne])⟩, h.lim, h.excl, fun g gl vs g1 g2 => by
    obtain ⟨a, b, c⟩ := h.gl g gl vs g1 g2
    refine ⟨by simpa using a, b, fun i v hv => ?_⟩
    have hc := c i v hv
    have hne : r ≠ g := fun e => by rw [← e, hno i] at hc; cases hc
    rw [cell?_congr (w := w) (by simp [hne])]; exact hc⟩
/-! The evaluator's helpers. -/
theorem subT_get : ∀ {a b : T Value}, subT a b = true → ∀ t v, a.get t = some v → b.get t = some v
  | .e, _, _, t, v, hv => by rw [T.get_e] at hv; cases hv
  | .n v0 l r, .e, h, t, v, hv => by
    cases v0 with
    | some v0 => cases h
    | none =>
      have h : bif' (subT l .e) (subT r .e) false = true := h
      obtain ⟨h1, h2⟩ := bif_tt h
      rcases nat_cases3 t with rfl | ⟨m, rfl⟩ | ⟨m, rfl⟩
      · rw [T.get_n0] at hv; cases hv
      · rw [T.get_odd] at hv; have := subT_get h1 m v hv; rw [T.get_e] at this; cases this
      · rw [T.get_even] at hv; have := subT_get h2 m v hv; rw [T.get_e] at this; cases this
  | .n v0 l r, .n v1 l' r', h, t, v, hv => by
    have h : bif' (match (generalizing := false) v0 with | none => true | some v => vEqO v v1) (bif' (subT l l') (subT r r') false) false = true := h
    obtain ⟨h0, h⟩ := bif_tt h
    obtain ⟨h1, h2⟩ := bif_tt h
    rcases nat_cases3 t with rfl | ⟨m, rfl⟩ | ⟨m, rfl⟩
    · rw [T.get_n0] at hv ⊢
      subst hv
      exact vEqO_sound h0
    · rw [T.get_odd] at hv ⊢; exact subT_get h1 m v hv
    · rw [T.get_even] at hv ⊢; exact subT_get h2 m v hv
theorem dropT_get : ∀ {ws : List Nat} {tm tm0 : T Value}, dropT ws tm = some tm0 → ∀ t v, tm0.get t = some v → tm.get t = some v
  | [], tm, tm0, h, t, v, hv => by
    have h : some tm = some tm0 := h
    cases h; exact hv
  | w :: ws, tm, tm0, h, t, v, hv => by
    have h : ob (T.put none tm w) (dropT ws) = some tm0 := h
    obtain ⟨t1, h1, h⟩ := ob_some h
    have := dropT_get h t v hv
    rw [T.get_put _ _ _ _ h1] at this
    split at this
    · cases this
    · exact this
/-- what is known of each entry's round. -/
def RoundOk (m : MLoop) (ev : Ev) (tm : T Value) (s : AS) (p : Value × Value × Nat) : Prop :=
  (∃ tm' s', mapRound m ev (p.1, p.2.1) tm s = .code .normal tm' s') ∧ ∃ tm' s', mapRound m ev (p.1, p.2.1) tm ⟨s.h, s.nx, s.nx⟩ = .code .normal tm' s' ∧ subT tm tm' = true
/-- a round that leaves the loop. -/
def RoundOut (m : MLoop) (ev : Ev) (tm : T Value) (s : AS) (p : Value × Value × Nat) (o : Out) : Prop :=
  mapRound m ev (p.1, p.2.1) tm s = o ∧ ∃ x tm' s', o = .code x tm' s' ∧ x ≠ .normal
theorem mapRounds_spec {m : MLoop} {ev : Ev} {tm : T Value} {s : AS} : ∀ {es : List (Value × Value × Nat)} {f0 f : Option Out}, mapRounds m ev tm s es f0 = some f →
    (∀ p ∈ es, RoundOk m ev tm s p ∨ ∃ o, f = some o ∧ RoundOut m ev tm s p o) ∧ (∀ o, f0 = some o → f = some o) ∧ (∀ o, f = some o → f0 = some o ∨ ∃ p ∈ es, RoundOut m ev tm s p o)
  | [], f0, f, h => by
    have h : some f0 = some f := h
    cases h
    exact ⟨fun p hp => (by cases hp), fun o h => h, fun o h => .inl h⟩
  | p :: es, f0, f, h => by
    have h : (match (generalizing := false) mapRound m ev (p.1, p.2.1) tm s with
      | .code .normal _ _ => bif' (isNormal tm (mapRound m ev (p.1, p.2.1) tm ⟨s.h, s.nx, s.nx⟩)) (mapRounds m ev tm s es f0) none
      | .code x tm1 s1 => match (generalizing := false) f0 with | none => mapRounds m ev tm s es (some (.code x tm1 s1)) | some _ => none
      | _ => none) = some f := h
    split at h
    · rename_i tm1 s1 heq
      obtain ⟨h1, h⟩ := bif'_some h
      obtain ⟨i1, i2, i3⟩ := mapRounds_spec h
      refine ⟨fun q hq => ?_, i2, fun o ho => (i3 o ho).imp id fun ⟨q, hq, hr⟩ => ⟨q, by simp [hq], hr⟩⟩
      rcases List.mem_cons.1 hq with rfl | hq
      · left
        refine ⟨⟨tm1, s1, heq⟩, ?_⟩
        unfold isNormal at h1
        split at h1
        · exact ⟨_, _, ‹_›, h1⟩
        · cases h1
      · exact i1 q hq
    · rename_i x tm1 s1 hne heq
      have hx : x ≠ .normal := fun e => hne e
      split at h
      · obtain ⟨i1, i2, i3⟩ := mapRounds_spec h
        have hout : RoundOut m ev tm s p (.code x tm1 s1) := ⟨heq, x, tm1, s1, rfl, hx⟩
        refine ⟨fun q hq => ?_, fun o ho => (by cases ho), fun o ho => ?_⟩
        · rcases List.mem_cons.1 hq with rfl | hq
          · exact .inr ⟨_, i2 _ rfl, hout⟩
          · exact i1 q hq
        · right
          rcases i3 o ho with h | ⟨q, hq, hr⟩
          · cases h; exact ⟨p, by simp, hout⟩
          · exact ⟨q, by simp [hq], hr⟩
      · cases h
    · cases h
end Go.Eng
/-! Loops over maps: the iterator; one round; the loop. -/
namespace Go.Eng
open Go
variable {P : Program}
/-- worlds alike but for draws. -/
structure SameHeap (w w' : World) : Prop where
  heap : w'.heap = w.heap
  tape : w'.tape = w.tape
  os : w'.os = w.os
  out : w'.output = w.output
theorem choose_next (k : Nat) (w : World) : ∃ n w', (choose (.mapNext k)).run P w = .ok n w' ∧ SameHeap w w' ∧ (0 < k → n < k) := by
  rw [run_choose_drew]
  by_cases h : (Question.mapNext k).forced = true
  · rw [if_pos h]
    exact ⟨0, w, rfl, ⟨rfl, rfl, rfl, rfl⟩, id⟩
  · rw [if_neg h]
    exact ⟨_, w.drew, rfl, ⟨rfl, rfl, rfl, rfl⟩, fun h => Nat.mod_lt _ h⟩
theorem next_nil {w : World} {x : Nat} {ty : TypeId} (h : w.heap[x]? = some (.mapIter none 0 #[] 0)) : (Instr.next (.pointer (some ⟨x, 0, none⟩)) false ty).run P w = .ok (.tuple #[.bool false]) w := by
  simp only [Instr.next, Sem.run_bind, run_getObj' h (by simp), Result.andThen_ok, Sem.run_pure]
theorem next_some {w : World} {x m ck : Nat} {seen : Array Nat} {ents : Array MapEntry} (hi : w.heap[x]? = some (.mapIter (some m) ck seen ck)) (hm : w.heap[m]? = some (.map ents ck)) (hb : Borns ck ents) :
    (∃ w', (∀ e ∈ ents.toList, e.born ∈ seen.toList) ∧ (∀ ty, (Instr.next (.pointer (some ⟨x, 0, none⟩)) false ty).run P w = .ok (.tuple #[.bool false]) w') ∧ SameHeap w w') ∨
    ∃ e w1, e ∈ ents.toList ∧ e.born ∉ seen.toList ∧ (∀ ty, (Instr.next (.pointer (some ⟨x, 0, none⟩)) false ty).run P w = .ok (.tuple #[.bool true, e.key, e.val]) { w1 with heap := w1.heap.setIfInBounds x (.mapIter (some m) ck (seen.push e.born) ck) }) ∧ SameHeap w w1 := by
  have hold : ((ents.filter fun e => !seen.contains e.born).filter fun e => decide (e.born < ck)) = (ents.filter fun e => !seen.contains e.born) := by
    rw [Array.filter_eq_self]
    intro e he
    have := hb.2 e (by simpa using (Array.mem_filter.1 he).1)
    simpa using this
  have hnew : ((ents.filter fun e => !seen.contains e.born).filter fun e => decide (e.born ≥ ck)) = #[] := by
    rw [Array.filter_eq_empty_iff]
    intro e he
    have := hb.2 e (by simpa using (Array.mem_filter.1 he).1)
    simp; omega
  have hbad : (!seen.isEmpty && !ents.isEmpty && ents.all fun e => decide (e.born ≥ ck)) = false := by
    cases hemp : ents.isEmpty with
    | true => simp
    | false =>
      have hne : 0 < ents.size := by
        refine Nat.pos_of_ne_zero fun h0 => ?_
        rw [Array.isEmpty, h0] at hemp
        exact absurd hemp (by simp)
      have h0 := hb.2 ents[0] (by simp)
      have : (ents.all fun e => decide (e.born ≥ ck)) = false := by
        rw [Array.all_eq_false]
        exact ⟨0, hne, by simp; omega⟩
      rw [this]; simp
  generalize hleft : (ents.filter fun e => !seen.contains e.born) = left at hold hnew
  have hmem : ∀ e ∈ left.toList, e ∈ ents.toList ∧ e.born ∉ seen.toList := fun e he => by
    rw [← hleft] at he
    simpa using he
  have run0 : ∃ bad : Sem Value, ∀ (cand : Array (Option MapEntry)), cand = (if left.isEmpty then #[none] else #[]) ++ (left ++ #[]).map some → ∀ n w', (choose (.mapNext cand.size)).run P w = .ok n w' → SameHeap w w' →
      ∀ ty, (Instr.next (.pointer (some ⟨x, 0, none⟩)) false ty).run P w = Sem.run P (match cand[n]? with
        | some (some e) => do
          setObj x (.mapIter (some m) ck (seen.push e.born) ck)
          pure (.tuple #[.bool true, e.key, e.val])
        | some none => pure (.tuple #[.bool false])
        | none => bad) w' := by
    apply Exists.intro
    intro cand hc n w' hch hs ty
    simp only [Instr.next, Sem.run_bind, run_getObj' hi (by simp), run_getObj' hm (by simp), Result.andThen_ok, Sem.run_pure, hbad, Bool.false_eq_true, if_false, hleft, hold, hnew]
    rw [← hc, hch]
    rfl
  obtain ⟨bad, run0⟩ := run0
  obtain ⟨n, w', hch, hs, hn⟩ := choose_next (P := P) ((if left.isEmpty then #[none] else #[]) ++ (left ++ #[]).map some : Array (Option MapEntry)).size w
  have hrun := run0 _ rfl n w' hch hs
  by_cases hemp : left.isEmpty = true
  · have hl : left = #[] := by simpa [Array.isEmpty] using hemp
    left
    refine ⟨w', fun e he => ?_, ?_, hs⟩
    · have hne : e ∉ left.toList := by rw [hl]; simp
      rw [← hleft] at hne
      have he' : e ∈ ents := by simpa using he
      simp only [Array.mem_toList_iff, Array.mem_filter, not_and] at hne
      have := hne he'
      simpa using this
    · intro ty
      rw [hrun, if_pos hemp]
      subst hl
      have : n = 0 := by have := hn (by simp); simpa using this
      subst this
      simp [Sem.run_pure]
  · right
    rw [if_neg hemp] at hn
    simp only [if_neg hemp, Array.append_empty, Array.empty_append] at hrun
    simp only [Array.append_empty, Array.empty_append, Array.size_map] at hn
    have hpos : 0 < left.size := by
      refine Nat.pos_of_ne_zero fun h0 => hemp ?_
      rw [Array.isEmpty, h0]; rfl
    have hlt := hn hpos
    have hget : (left.map some)[n]? = some (some left[n]) := by simp [hlt]
    obtain ⟨h1, h2⟩ := hmem left[n] (by simp)
    refine ⟨left[n], w', h1, h2, ?_, hs⟩
    intro ty
    rw [hrun, hget]
    have hi' : w'.heap[x]? = some (.mapIter (some m) ck seen ck) := by rw [hs.heap]; exact hi
    simp only [Sem.run_bind, run_setObj' hi' (by simp), Result.andThen_ok, Sem.run_pure]
theorem find_born {ents : Array MapEntry} {ck : Nat} {e : MapEntry} (hb : Borns ck ents) (he : e ∈ ents.toList) : ents.find? (fun x => x.born == e.born) = some e := by
  obtain ⟨t1, t2, ht⟩ := List.append_of_mem he
  have hen : ents = (t1 ++ e :: t2).toArray := by rw [← ht]
  have hnd := hb.1
  rw [ht, List.map_append, List.map_cons, List.nodup_append] at hnd
  rw [hen, List.find?_toArray, List.find?_append]
  have : t1.find? (fun x => x.born == e.born) = none := by
    rw [List.find?_eq_none]
    intro x hx
    have := hnd.2.2 x.born (List.mem_map.2 ⟨x, hx, rfl⟩) e.born (by simp)
    simpa using this
  rw [this]
  simp
theorem run_entry {w : World} {x m ck : Nat} {seen : Array Nat} {ents : Array MapEntry} {e : MapEntry} (hi : w.heap[x]? = some (.mapIter (some m) ck (seen.push e.born) ck)) (hm : w.heap[m]? = some (.map ents ck)) (hb : Borns ck ents) (he : e ∈ ents.toList) :
    (Instr.entry (.pointer (some ⟨x, 0, none⟩))).run P w = .ok (.tuple #[e.key, e.val]) w := by
  have hbk : (seen.push e.born).back? = some e.born := by simp
  simp only [Instr.entry, Sem.run_bind, run_getObj' hi (by simp), run_getObj' hm (by simp), Result.andThen_ok, Sem.run_pure, hbk, bne_self_eq_false, Bool.false_eq_true, if_false, find_born hb he]
end Go.Eng
/-! Values at renamed places; equality that can be trusted. -/
namespace Go.Eng
open Go
variable {P : Program}
theorem renL_rels {R1 R2 : Value → Value → Prop} {r : Value → Option Value} (hr : ∀ v v' u, r v = some v' → R1 v u → R2 v' u) : ∀ {l l' m : List Value}, renL r l = some l' → F2 R1 l m → F2 R2 l' m
  | [], l', m, h, hm => by cases h; cases hm; exact .nil
  | v :: l, l', m, h, hm => by
    have h : ob (r v) (fun v' => ob (renL r l) fun l' => some (v' :: l')) = some l' := h
    replace h := ob_some h
    obtain ⟨v1, h1, h⟩ := h
    replace h := ob_some h
    obtain ⟨l1, h2, h⟩ := h
    cases h
    cases hm with | cons a b => exact .cons (hr _ _ _ h1 a) (renL_rels hr h2 b)
theorem vrels_f2 {ρ : Ren} : ∀ {l m : List Value}, VRels ρ l m → F2 (VRel ρ) l m
  | _, _, .nil => .nil
  | _, _, .cons h hs => .cons h (vrels_f2 hs)
theorem f2_vrels {ρ : Ren} : ∀ {l m : List Value}, F2 (VRel ρ) l m → VRels ρ l m
  | _, _, .nil => .nil
  | _, _, .cons h hs => .cons h (f2_vrels hs)
theorem renV_fwd {ρ1 ρ2 : Ren} {φ : Nat → Option Nat} (h : ∀ a b x, φ a = some b → ρ1 a = some x → ρ2 b = some x) : ∀ (n : Nat) (v v' u : Value), renV φ n v = some v' → VRel ρ1 v u → VRel ρ2 v' u
  | 0, v, v', u, hv, _ => by cases hv
  | n + 1, v, v', u, hv, hr => by
    have ihl : ∀ {l l' m : List Value}, renL (renV φ n) l = some l' → VRels ρ1 l m → VRels ρ2 l' m := fun h1 h2 => f2_vrels (renL_rels (fun v v' u => renV_fwd h n v v' u) h1 (vrels_f2 h2))
    cases hr with
    | bool b => cases b <;> (cases hv; exact .bool _)
    | int k m =>
      have hv : fInt k m = some v' := hv
      rw [fInt_eq] at hv; cases hv; exact .int k m
    | string s => cases hv; exact .string s
    | junk a b w hw hw' => cases hv; exact .junk a b _ hw hw'
    | glob g off => cases hv; exact .glob g off
    | ptrNil => cases hv; exact .ptrNil
    | @ptr a x off hx =>
      have hv : (ob (φ a) fun b' => fNat off fun o' => some (.pointer (some ⟨b', o', none⟩))) = some v' := hv
      obtain ⟨b', h1, hv⟩ := ob_some hv
      rw [fNat_eq] at hv; cases hv
      exact .ptr off (h _ _ _ h1 hx)
    | sliceNil => cases hv; exact .sliceNil
    | @slice a x off m c cap ad hx g1 g2 g3 g4 g5 =>
      have hv : (ob (φ a) fun b' => fNat off fun o' => fNat m fun m' => fNat c fun c' => some (.slice (some ⟨b', o', none⟩) m' c')) = some v' := hv
      obtain ⟨b', h1, hv⟩ := ob_some hv
      simp only [fNat_eq] at hv; cases hv
      exact .slice off m c cap ad (h _ _ _ h1 hx) g1 g2 g3 g4 g5
    | mapNil => cases hv; exact .mapNil
    | @map a x hx =>
      have hv : (ob (φ a) fun b' => some (.map (some b'))) = some v' := hv
      obtain ⟨b', h1, hv⟩ := ob_some hv
      cases hv
      exact .map (h _ _ _ h1 hx)
    | @func f a b a' b' ha hb =>
      have hv : (ob (renL (renV φ n) a.toList) fun a' => ob (renL (renV φ n) b.toList) fun b' => some (.func (.func f) ⟨a'⟩ ⟨b'⟩)) = some v' := hv
      obtain ⟨a1, h1, hv⟩ := ob_some hv
      obtain ⟨b1, h2, hv⟩ := ob_some hv
      cases hv
      exact .func f (ihl h1 ha) (ihl h2 hb)
    | yield => cases hv
    | nilFunc => cases hv; exact .nilFunc
    | nilIface => cases hv; exact .nilIface
    | @iface t x x' hx =>
      have hv : (ob (renV φ n x) fun x' => some (.iface t x')) = some v' := hv
      obtain ⟨x1, h1, hv⟩ := ob_some hv
      cases hv
      exact .iface t (renV_fwd h n _ _ _ h1 hx)
    | @agg a b ha =>
      have hv : (ob (renL (renV φ n) a.toList) fun a' => some (.agg ⟨a'⟩)) = some v' := hv
      obtain ⟨a1, h1, hv⟩ := ob_some hv
      cases hv
      exact .agg (ihl h1 ha)
    | @tuple a b ha =>
      have hv : (ob (renL (renV φ n) a.toList) fun a' => some (.tuple ⟨a'⟩)) = some v' := hv
      obtain ⟨a1, h1, hv⟩ := ob_some hv
      cases hv
      exact .tuple (ihl h1 ha)
theorem renL_get {r : Value → Option Value} : ∀ {l l' : List Value}, renL r l = some l' → l'.length = l.length ∧ ∀ (j : Nat) (v' : Value), l'[j]? = some v' → ∃ v, l[j]? = some v ∧ r v = some v'
  | [], l', h => by cases h; exact ⟨rfl, fun j v' hj => by simp at hj⟩
  | v :: l, l', h => by
    have h : ob (r v) (fun v' => ob (renL r l) fun l' => some (v' :: l')) = some l' := h
    replace h := ob_some h
    obtain ⟨v1, h1, h⟩ := h
    replace h := ob_some h
    obtain ⟨l1, h2, h⟩ := h
    cases h
    obtain ⟨i1, i2⟩ := renL_get h2
    refine ⟨by simp [i1], fun j v' hj => ?_⟩
    cases j with
    | zero => simp at hj; subst hj; exact ⟨v, rfl, h1⟩
    | succ j => simp at hj ⊢; exact i2 j v' hj
theorem distinct_nodup : ∀ {l : List Nat}, distinctN l = true → l.Nodup
  | [], _ => List.nodup_nil
  | x :: t, h => by
    have h : bif' (List.rec (motive := fun _ => Bool) false (fun y _ i => bif' (Nat.beq x y) true i) t) false (distinctN t) = true := h
    have hm : ∀ t : List Nat, (List.rec (motive := fun _ => Bool) false (fun y _ i => bif' (Nat.beq x y) true i) t : Bool) = false → x ∉ t := by
      intro t
      induction t with
      | nil => simp
      | cons y t ih =>
        intro h
        have h : bif' (Nat.beq x y) true (List.rec (motive := fun _ => Bool) false (fun y _ i => bif' (Nat.beq x y) true i) t) = false := h
        rw [bif'_eq] at h
        split at h
        · cases h
        · rename_i hb
          intro hx
          rcases List.mem_cons.1 hx with rfl | hx
          · exact hb (Nat.beq_refl x)
          · exact ih h hx
    cases e : (List.rec (motive := fun _ => Bool) false (fun y _ i => bif' (Nat.beq x y) true i) t : Bool) with
    | true => rw [e] at h; cases h
    | false =>
      rw [e] at h
      exact List.nodup_cons.2 ⟨hm t e, distinct_nodup h⟩
theorem allLt_mem {n : Nat} : ∀ {l : List Nat}, allLt n l = true → ∀ x ∈ l, x < n
  | [], _, x, hx => by cases hx
  | y :: t, h, x, hx => by
    have h : bif' (Nat.blt y n) (allLt n t) false = true := h
    obtain ⟨h0, h⟩ := bif_tt h
    rcases List.mem_cons.1 hx with rfl | hx
    · have := Nat.le_of_ble_eq_true h0; omega
    · exact allLt_mem h x hx
theorem allGe_mem {n : Nat} : ∀ {l : List Nat}, allGe n l = true → ∀ x ∈ l, n ≤ x
  | [], _, x, hx => by cases hx
  | y :: t, h, x, hx => by
    have h : bif' (Nat.ble n y) (allGe n t) false = true := h
    obtain ⟨h0, h⟩ := bif_tt h
    rcases List.mem_cons.1 hx with rfl | hx
    · exact Nat.le_of_ble_eq_true h0
    · exact allGe_mem h x hx
theorem vEqs12 {a b : List Value} (h : vEqs (vEq 12) a b = true) : a = b := vEqs_sound (vEq_sound 12) a b h
theorem eqC_sound : ∀ {a b : T (List Value)}, eqC a b = true → a = b
  | .e, .e, _ => rfl
  | .e, .n _ _ _, h => by cases h
  | .n _ _ _, .e, h => by cases h
  | .n v l r, .n v' l' r', h => by
    have h : bif' (Option.rec (motive := fun _ => Bool) (Option.rec (motive := fun _ => Bool) true (fun _ => false) v') (fun x => Option.rec (motive := fun _ => Bool) false (fun y => vEqs (vEq 12) x y) v') v) (bif' (eqC l l') (eqC r r') false) false = true := h
    obtain ⟨h0, h⟩ := bif_tt h
    obtain ⟨h1, h2⟩ := bif_tt h
    rw [eqC_sound h1, eqC_sound h2]
    cases v with
    | none => cases v' with | none => rfl | some _ => cases h0
    | some x => cases v' with | none => cases h0 | some y => rw [vEqs12 h0]
theorem eqEs_sound : ∀ {a b : List (Value × Value × Nat)}, eqEs a b = true → a = b
  | [], [], _ => rfl
  | [], _ :: _, h => by cases h
  | _ :: _, [], h => by cases h
  | (k, v, n) :: a, (k', v', n') :: b, h => by
    have h : bif' (vEq 12 k k') (bif' (vEq 12 v v') (bif' (Nat.beq n n') (eqEs a b) false) false) false = true := h
    obtain ⟨h0, h⟩ := bif_tt h
    obtain ⟨h1, h⟩ := bif_tt h
    obtain ⟨h2, h⟩ := bif_tt h
    rw [vEq_sound 12 _ _ h0, vEq_sound 12 _ _ h1, Nat.eq_of_beq_eq_true h2, eqEs_sound h]
theorem blkEq_sound {a b : Blk} (h : blkEq a b = true) : a = b := by
  unfold blkEq at h
  split at h
  · rename_i c sz n ro et c' sz' n' ro' et'
    obtain ⟨h0, h⟩ := bif_tt h
    obtain ⟨h1, h⟩ := bif_tt h
    obtain ⟨h2, h⟩ := bif_tt h
    obtain ⟨h3, h⟩ := bif_tt h
    have hro : ro = ro' := by cases ro <;> cases ro' <;> first | rfl | exact (Bool.noConfusion h3)
    rw [Nat.eq_of_beq_eq_true h0, Nat.eq_of_beq_eq_true h1, Nat.eq_of_beq_eq_true h2, hro, eqC_sound h]
  · obtain ⟨h0, h⟩ := bif_tt h
    obtain ⟨h1, h⟩ := bif_tt h
    rw [Nat.eq_of_beq_eq_true h0, Nat.eq_of_beq_eq_true h1, eqEs_sound h]
  · cases h
end Go.Eng
