import Derived.Test.YtlbdbieoodakeaaGreatDoorEngB
import Derived.RangeFuncRecord
import Derived.Lib.MakeNoZero
import Derived.Lib.Bytealg
import Derived.Laws.Externs
set_option linter.unusedVariables false
set_option linter.unusedSimpArgs false
/- An evaluator of the code of the model, proved: what it answers, the program does, whatever the world. Part of the proof of FarkasKnown. -/
/-! Regions that draw their order: what the evaluator has run, and what the model has. -/
namespace Go.Eng
open Go
variable {P : Program}
noncomputable def envget (keep : Nat) (lo : Lo) (tm : T Value) (t : Nat) : Option Value := bif' (kept keep t) (tm.get t) (Lo.get t lo)
theorem mkOp_tmp {keep t : Nat} {f : Opd} (h : mkOp keep [] (.tmp t) = some f) (lo : Lo) (tm : T Value) : f lo tm = envget keep lo tm t := by
  have h : bif' (kept keep t) (some (opT t)) (some (opL t)) = some f := h
  unfold envget
  rw [bif'_eq] at h ⊢
  split at h <;> cases h
  · rw [if_pos ‹_›]; rfl
  · rw [if_neg ‹_›]; rfl
theorem putD_env {keep nt : Nat} {dst : Option Tmp} {d : DI} (hd : mkDst keep nt dst = some d) {v : Value} {k : K} {lo : Lo} {tm : T Value} {s : AS} {x : XExit} {tm' : T Value} {s' : AS}
    (htk : ∀ t v, tm.get t = some v → kept keep t = true) (h : putD d v k lo tm s = .code x tm' s') :
    ∃ lo1 tm1, k lo1 tm1 s = .code x tm' s' ∧ (∀ t, envget keep lo1 tm1 t = if dst = some t then some v else envget keep lo tm t) ∧ (∀ t v, tm1.get t = some v → kept keep t = true) ∧ ∀ d', dst = some d' → d' < nt := by
  cases dst with
  | none =>
    cases hd
    exact ⟨lo, tm, h, fun t => by simp, htk, fun _ e => by cases e⟩
  | some t0 =>
    obtain ⟨hlt, hd⟩ := bif'_some hd
    have hlt : t0 < nt := Nat.le_of_ble_eq_true hlt
    rw [bif'_eq] at hd
    split at hd
    · rename_i hk
      cases hd
      have h' : Option.rec (motive := fun _ => Out) .no (fun tm' => k lo tm' s) (T.put (some v) tm t0) = .code x tm' s' := h
      cases hp : T.put (some v) tm t0 with
      | none => rw [hp] at h'; cases h'
      | some tm1 =>
        rw [hp] at h'
        have hg := T.get_put _ _ _ _ hp
        refine ⟨lo, tm1, h', fun t => ?_, fun t w hw => ?_, fun _ e => by cases e; exact hlt⟩
        · unfold envget
          rw [hg]
          by_cases e : t = t0
          · subst e; simp [hk, bif'_true]
          · rw [if_neg e, if_neg (fun e' => e (Option.some.inj e').symm)]
        · rw [hg] at hw
          by_cases e : t = t0
          · rw [e]; exact hk
          · rw [if_neg e] at hw; exact htk t w hw
    · rename_i hk
      cases hd
      refine ⟨.cons t0 v lo, tm, h, fun t => ?_, htk, fun _ e => by cases e; exact hlt⟩
      unfold envget
      rw [lo_cons]
      by_cases e : t = t0
      · subst e
        rw [Nat.beq_refl, bif'_true, if_pos rfl]
        have : kept keep t = false := by simpa using hk
        rw [this, bif'_false]
      · rw [if_neg (fun e' => e (Option.some.inj e').symm)]
        have : Nat.beq t t0 = false := by
          cases hb : Nat.beq t t0 with
          | true => exact (e (Nat.eq_of_beq_eq_true hb)).elim
          | false => rfl
        rw [this, bif'_false]
noncomputable def lev (l : List DOp) (x : DOp) : Nat := level x.m (wsOf l)
/-- the evaluator runs y ahead of x. -/
def Bef (l : List DOp) (y x : DOp) : Prop := lev l y < lev l x ∨ (lev l y = lev l x ∧ isW y.r = false ∧ (isW x.r = true ∨ y.i < x.i))
/-- what has been run in the midst of stage n. -/
def Xs (l : List DOp) (n m : Nat) (y : DOp) : Prop := lev l y < n ∨ (lev l y = n ∧ isW y.r = false ∧ y.i < m)
theorem bef_irrefl {l : List DOp} {x : DOp} : ¬ Bef l x x := by
  rintro (h | ⟨_, h1, h2 | h2⟩)
  · omega
  · rw [h1] at h2; cases h2
  · omega
theorem bef_asym {l : List DOp} {x y : DOp} (h : Bef l x y) : ¬ Bef l y x := by
  intro h'
  rcases h with h | ⟨h, h1, h2⟩ <;> rcases h' with h' | ⟨h', h3, h4⟩
  · omega
  · omega
  · omega
  · rcases h2 with h2 | h2
    · rw [h3] at h2; cases h2
    · rcases h4 with h4 | h4
      · rw [h1] at h4; cases h4
      · omega
section
variable {keep nt : Nat} {all : Array Oper} {l : List DOp}
theorem bef_pred (hD : DReg P keep all l) {x y : DOp} (hx : x ∈ l) (hy : y ∈ l) (h : bitOf x.m y.i = true) : Bef l y x := by
  have hlt := hD.below x hx _ h
  have sub : ∀ z ∈ wsOf l, bitOf y.m z.i = true → bitOf x.m z.i = true := fun z _ hz => hD.trans x hx y hy h _ hz
  cases hw : isW y.r with
  | true =>
    left
    unfold lev
    rw [level_cnt, level_cnt]
    refine cnt_lt sub y (mem_ws.2 ⟨hy, hw⟩) ?_ h
    cases hb : bitOf y.m y.i with
    | false => rfl
    | true => have := hD.below y hy _ hb; omega
  | false =>
    have hle : lev l y ≤ lev l x := by unfold lev; rw [level_cnt, level_cnt]; exact cnt_le sub
    rcases Nat.lt_or_eq_of_le hle with h | h
    · exact .inl h
    · exact .inr ⟨h, hw, .inr hlt⟩
def Ran0 (P : Program) (l : List DOp) (ρ : Ren) (B : Nat → Nat → Prop) (cs : List Chk) (S : AS) (x : DOp) (lo : Lo) (tm : T Value) (v : Value) : Prop :=
  match x.r with
  | .p f => ∃ s, f lo tm s = some v
  | .r f => (highest x.i (wsOf l), fun s' => vEqO v (f lo tm s')) ∈ cs
  | .a f => ∃ s1 s1', f lo tm s1 = some (v, s1') ∧ B x.i s1.nx ∧ s1.nx < S.nx ∧ ρ s1.nx = none ∧ (S.h.get s1.nx = s1'.h.get s1.nx ∨ S.h.get s1.nx = none)
  | _ => False
def Ran (P : Program) (keep : Nat) (all : Array Oper) (l : List DOp) (ρ : Ren) (B : Nat → Nat → Prop) (cs : List Chk) (S : AS) (x : DOp) (lo : Lo) (tm : T Value) (v : Value) : Prop :=
  match x.o.guard with
  | none => Ran0 P l ρ B cs S x lo tm v
  | some (j, want) => ∃ g y, guardOpd keep [] all.toList j = some g ∧ wantO want (g lo tm) = some y ∧ (y = true → Ran0 P l ρ B cs S x lo tm v) ∧ (y = false → v = .tuple #[])
theorem Ran0.mono {ρ ρ' : Ren} {B B' : Nat → Nat → Prop} {cs cs' : List Chk} {S S' : AS} {x : DOp} {lo : Lo} {tm : T Value} {v : Value} (h : Ran0 P l ρ B cs S x lo tm v) (hB : ∀ b, B x.i b → B' x.i b) (hcs : ∀ c ∈ cs, c ∈ cs')
    (hS : ∀ b, B x.i b → b < S.nx → ρ b = none → b < S'.nx ∧ ρ' b = none ∧ (S'.h.get b = S.h.get b ∨ S'.h.get b = none)) : Ran0 P l ρ' B' cs' S' x lo tm v := by
  unfold Ran0 at h ⊢
  split at h
  · exact h
  · exact hcs _ h
  · obtain ⟨s1, s1', h1, h2, h3, h4, h5⟩ := h
    obtain ⟨a1, a2, a3⟩ := hS _ h2 h3 h4
    refine ⟨s1, s1', h1, hB _ h2, a1, a2, ?_⟩
    rcases a3 with a3 | a3
    · rw [a3]; exact h5
    · exact .inr a3
  · exact h
theorem Ran.mono {ρ ρ' : Ren} {B B' : Nat → Nat → Prop} {cs cs' : List Chk} {S S' : AS} {x : DOp} {lo : Lo} {tm : T Value} {v : Value} (h : Ran P keep all l ρ B cs S x lo tm v) (hB : ∀ b, B x.i b → B' x.i b) (hcs : ∀ c ∈ cs, c ∈ cs')
    (hS : ∀ b, B x.i b → b < S.nx → ρ b = none → b < S'.nx ∧ ρ' b = none ∧ (S'.h.get b = S.h.get b ∨ S'.h.get b = none)) : Ran P keep all l ρ' B' cs' S' x lo tm v := by
  unfold Ran at h ⊢
  split at h
  · exact Ran0.mono h hB hcs hS
  · obtain ⟨g, y, h1, h2, h3, h4⟩ := h
    exact ⟨g, y, h1, h2, fun e => Ran0.mono (h3 e) hB hcs hS, h4⟩
/-- where the evaluator stands, and where the model does. -/
structure St (P : Program) (keep nt : Nat) (all : Array Oper) (l : List DOp) (E0 : Nat → Option Value) (ρ0 : Ren) (s0 : AS) (w0 : World) (a0 : Act) (X : DOp → Prop) (D : Nat → Prop) (B : Nat → Nat → Prop) (ρ : Ren) (cs : List Chk) (lo : Lo) (tm : T Value) (S : AS) (a : Act) (w : World) : Prop where
  tk : ∀ t v, tm.get t = some v → kept keep t = true
  env0 : ∀ t, (∀ y ∈ l, X y → y.o.dst ≠ some t) → envget keep lo tm t = E0 t
  rcd : ∀ x ∈ l, X x → isW x.r = false → ¬ D x.i → ∃ lo' tm' v, Ran P keep all l ρ B cs S x lo' tm' v ∧ (∀ d, x.o.dst = some d → d < nt ∧ envget keep lo tm d = some v) ∧
    (∀ t, (∀ y ∈ l, y.o.dst = some t → Bef l y x → envget keep lo' tm' t = envget keep lo tm t) ∧ ((∀ y ∈ l, y.o.dst = some t → ¬ Bef l y x) → envget keep lo' tm' t = E0 t))
  bB : ∀ i b, B i b → b < S.nx ∧ s0.nx ≤ b
  bI : ∀ i j b, B i b → B j b → i = j
  dX : ∀ y ∈ l, D y.i → X y
  md : ∀ y ∈ l, D y.i → ∀ d, y.o.dst = some d → ∃ v u, envget keep lo tm d = some v ∧ a.tmps[d]? = some u ∧ VRel ρ v u
  m0 : ∀ t, (∀ y ∈ l, D y.i → y.o.dst ≠ some t) → a.tmps[t]? = a0.tmps[t]?
  e0 : ∀ t v, E0 t = some v → ∃ u, a0.tmps[t]? = some u ∧ VRel ρ v u
  rel : Rel P ρ S w
  stp : Stp ρ0 s0 w0 ρ S w
  df : a.defers = a0.defers
  sz : nt ≤ a.tmps.size
variable {E0 : Nat → Option Value} {ρ0 : Ren} {s0 : AS} {w0 : World} {a0 : Act} {D : Nat → Prop} {B : Nat → Nat → Prop} {ρ : Ren} {cs : List Chk} {lo : Lo} {tm : T Value} {S : AS} {a : Act} {w : World}
/-- the evaluator runs one operation that does not write. -/
theorem St.grow {n : Nat} {x : DOp} (hD : DReg P keep all l) (hW : DWr all l) (h : St P keep nt all l E0 ρ0 s0 w0 a0 (Xs l n x.i) D B ρ cs lo tm S a w) (hx : x ∈ l) (hxw : isW x.r = false) (hn : lev l x = n)
    {v : Value} {lo1 : Lo} {tm1 : T Value} {S1 : AS} {cs1 : List Chk} {B1 : Nat → Nat → Prop}
    (henv : ∀ t, envget keep lo1 tm1 t = if x.o.dst = some t then some v else envget keep lo tm t) (htk : ∀ t v, tm1.get t = some v → kept keep t = true) (hnt : ∀ d, x.o.dst = some d → d < nt)
    (hran : Ran P keep all l ρ B1 cs1 S1 x lo tm v) (hcs : ∀ c ∈ cs, c ∈ cs1) (hBB : ∀ i b, B i b → B1 i b) (hB1 : ∀ i b, B1 i b → b < S1.nx ∧ s0.nx ≤ b) (hB2 : ∀ i j b, B1 i b → B1 j b → i = j)
    (hnx : S.nx ≤ S1.nx) (hh : ∀ b, b < S.nx → S1.h.get b = S.h.get b) (hrel : Rel P ρ S1 w) (hstp : Stp ρ0 s0 w0 ρ S1 w) : St P keep nt all l E0 ρ0 s0 w0 a0 (Xs l n (x.i + 1)) D B1 ρ cs1 lo1 tm1 S1 a w := by
  have hX : ∀ y, Xs l n x.i y → Xs l n (x.i + 1) y := fun y hy => hy.imp id fun ⟨h1, h2, h3⟩ => ⟨h1, h2, by omega⟩
  have hXx : Xs l n (x.i + 1) x := .inr ⟨hn, hxw, by omega⟩
  have hnX : ¬ Xs l n x.i x := by rintro (h | ⟨_, _, h⟩) <;> omega
  have hxD : ¬ D x.i := fun hd => hnX (h.dX x hx hd)
  have hXb : ∀ y, Xs l n x.i y → Bef l y x := fun y hy => by
    rcases hy with hy | ⟨h1, h2, h3⟩
    · left; omega
    · right; exact ⟨by omega, h2, .inr h3⟩
  have other : ∀ y ∈ l, y ≠ x → ∀ d, y.o.dst = some d → x.o.dst ≠ some d := fun y hy hne d hd => hW.dst hx hy (fun e => hne (hD.inj hy hx e.symm)) hd
  have keepEnv : ∀ y ∈ l, y ≠ x → ∀ d, y.o.dst = some d → envget keep lo1 tm1 d = envget keep lo tm d := fun y hy hne d hd => by rw [henv, if_neg (other y hy hne d hd)]
  refine ⟨htk, fun t ht => ?_, fun y hy hXy hyw hyD => ?_, hB1, hB2, fun y hy hd => hX y (h.dX y hy hd), fun y hy hd d hdst => ?_, h.m0, h.e0, hrel, hstp, h.df, h.sz⟩
  · rw [henv, if_neg (ht x hx hXx)]
    exact h.env0 t fun y hy hXy => ht y hy (hX y hXy)
  · by_cases e : y = x
    · subst e
      refine ⟨lo, tm, v, hran, fun d hd => ⟨hnt d hd, by rw [henv, if_pos hd]⟩, fun t => ⟨fun z hz hdz hb => ?_, fun hb => ?_⟩⟩
      · exact (keepEnv z hz (fun e => by subst e; exact bef_irrefl hb) t hdz).symm
      · exact h.env0 t fun z hz hXz hdz => hb z hz hdz (hXb z hXz)
    · have hXy' : Xs l n x.i y := by
        rcases hXy with h | ⟨h1, h2, h3⟩
        · exact .inl h
        · refine .inr ⟨h1, h2, ?_⟩
          have : y.i ≠ x.i := fun e' => e (hD.inj hy hx e')
          omega
      obtain ⟨lo', tm', v', r1, r2, r3⟩ := h.rcd y hy hXy' hyw hyD
      refine ⟨lo', tm', v', r1.mono (hBB y.i) hcs (fun b hb hlt hr => ⟨by omega, hr, .inl (hh b hlt)⟩), fun d hd => ⟨(r2 d hd).1, by rw [keepEnv y hy e d hd]; exact (r2 d hd).2⟩, fun t => ⟨fun z hz hdz hb => ?_, (r3 t).2⟩⟩
      rw [(r3 t).1 z hz hdz hb]
      refine (keepEnv z hz (fun e' => ?_) t hdz).symm
      subst e'
      exact bef_asym (hXb y hXy') hb
  · rw [keepEnv y hy (fun e => by subst e; exact hxD hd) d hdst]
    exact h.md y hy hd d hdst
/-- what an operation looks at. -/
theorem St.use {X : DOp → Prop} (hD : DReg P keep all l) (hW : DWr all l) (h : St P keep nt all l E0 ρ0 s0 w0 a0 X D B ρ cs lo tm S a w) (hdown : ∀ y ∈ l, D y.i → ∀ j, bitOf y.m j = true → D j) {x : DOp} (hx : x ∈ l) (hxD : ¬ D x.i) (hpre : ∀ j, bitOf x.m j = true → D j)
    {lo' : Lo} {tm' : T Value} (ht : ∀ t, (∀ y ∈ l, y.o.dst = some t → Bef l y x → envget keep lo' tm' t = envget keep lo tm t) ∧ ((∀ y ∈ l, y.o.dst = some t → ¬ Bef l y x) → envget keep lo' tm' t = E0 t))
    {t : Nat} (hu : t ∈ usesOf all.toList x.o) {v : Value} (hv : envget keep lo' tm' t = some v) : VRel ρ v (a.eval (.tmp t)) := by
  have base : (∀ y ∈ l, y.o.dst = some t → ¬ Bef l y x) → (∀ y ∈ l, D y.i → y.o.dst ≠ some t) → VRel ρ v (a.eval (.tmp t)) := fun h1 h2 => by
    rw [(ht t).2 h1] at hv
    obtain ⟨u, hu', hr⟩ := h.e0 t v hv
    rw [← h.m0 t h2] at hu'
    rw [eval_tmp hu']; exact hr
  by_cases hex : ∃ y ∈ l, y.o.dst = some t
  · obtain ⟨y, hy, hyd⟩ := hex
    obtain ⟨hne, h1, h2⟩ := hW.use hx hy hyd hu
    have uniq : ∀ z ∈ l, z.o.dst = some t → z = y := fun z hz hzd => by
      by_cases e : z.i = y.i
      · exact hD.inj hz hy e
      · exact (hW.dst hz hy e hyd hzd).elim
    rcases Nat.lt_or_gt_of_ne hne with hlt | hlt
    · have hb := h2 hlt
      have hyD : ¬ D y.i := fun hd => hxD (hdown y hy hd _ hb)
      refine base (fun z hz hzd => ?_) (fun z hz hzD hzd => ?_)
      · rw [uniq z hz hzd]; exact bef_asym (bef_pred hD hy hx hb)
      · rw [uniq z hz hzd] at hzD; exact hyD hzD
    · have hb := h1 hlt
      have hyD := hpre _ hb
      rw [(ht t).1 y hy hyd (bef_pred hD hx hy hb)] at hv
      obtain ⟨v', u, e1, e2, e3⟩ := h.md y hy hyD t hyd
      rw [hv] at e1; cases e1
      rw [eval_tmp e2]; exact e3
  · exact base (fun z hz hzd => (hex ⟨z, hz, hzd⟩).elim) (fun z hz _ hzd => hex ⟨z, hz, hzd⟩)
theorem uses_op {o : Oper} {t : Nat} (h : Operand.tmp t ∈ o.op.operands) : t ∈ usesOf all.toList o := by
  unfold usesOf
  rw [app_eq, List.mem_append]
  exact .inl (List.mem_filterMap.2 ⟨.tmp t, by simpa using h, rfl⟩)
theorem uses_guard {o o' : Oper} {j t : Nat} {want : Bool} (hg : o.guard = some (j, want)) (hj : all[j]? = some o') (hd : o'.dst = some t) : t ∈ usesOf all.toList o := by
  unfold usesOf
  rw [app_eq, List.mem_append]
  right
  rw [hg]
  have : all.toList[j]? = some o' := by simpa using hj
  simp [this, hd]
theorem opsRel_of {o : Oper} {lo' : Lo} {tm' : T Value} (h : ∀ t ∈ usesOf all.toList o, ∀ v, envget keep lo' tm' t = some v → VRel ρ v (a.eval (.tmp t))) : OpsRel ρ keep [] lo' tm' a.eval o.op.operands := by
  intro x f v hx hm hv
  cases x with
  | tmp t =>
    rw [mkOp_tmp hm] at hv
    exact h t (uses_op hx) v hv
  | const c =>
    have hm' : ob (plainConst c) (fun v => some (opC v)) = some f := hm
    obtain ⟨c', hc, hm'⟩ := ob_some hm'
    cases hm'; cases hv
    exact plainConst_rel hc
  | global g => cases hm; cases hv
  | func g =>
    cases hm; cases hv
    exact .func g .nil .nil
/-- the model runs one that does not write. -/
theorem St.real {X : DOp → Prop} (hD : DReg P keep all l) (hW : DWr all l) (h : St P keep nt all l E0 ρ0 s0 w0 a0 X D B ρ cs lo tm S a w) {x : DOp} (hx : x ∈ l) (hX : X x) {v u : Value} (hd : ∀ d, x.o.dst = some d → d < nt ∧ envget keep lo tm d = some v)
    {ρ' : Ren} {w1 : World} (hv : VRel ρ' v u) (hle : RenLe ρ ρ') (hrel : Rel P ρ' S w1) (hstp : Stp ρ0 s0 w0 ρ' S w1) (hB : ∀ j b, B j b → j ≠ x.i → ρ b = none → ρ' b = none) :
    St P keep nt all l E0 ρ0 s0 w0 a0 X (fun i => D i ∨ i = x.i) B ρ' cs lo tm S (a.put x.o.dst u) w1 := by
  refine ⟨h.tk, h.env0, fun y hy hXy hyw hyD => ?_, h.bB, h.bI, fun y hy hd' => ?_, fun y hy hyD d hyd => ?_, fun t ht => ?_, fun t v ht => ?_, hrel, hstp, by rw [put_defers']; exact h.df, ?_⟩
  · obtain ⟨lo', tm', v', r1, r2, r3⟩ := h.rcd y hy hXy hyw (fun e => hyD (.inl e))
    exact ⟨lo', tm', v', r1.mono (fun _ h => h) (fun _ h => h) (fun b hb hlt hr => ⟨hlt, hB y.i b hb (fun e => hyD (.inr e)) hr, .inl rfl⟩), r2, r3⟩
  · rcases hd' with hd' | hd'
    · exact h.dX y hy hd'
    · rw [hD.inj hy hx hd']; exact hX
  · by_cases e : y = x
    · subst e
      obtain ⟨h1, h2⟩ := hd d hyd
      refine ⟨v, u, h2, ?_, hv⟩
      rw [hyd]
      exact get_put_eq (Nat.lt_of_lt_of_le h1 h.sz)
    · have hyD' : D y.i := hyD.resolve_right fun e' => e (hD.inj hy hx e')
      obtain ⟨v', u', e1, e2, e3⟩ := h.md y hy hyD' d hyd
      refine ⟨v', u', e1, ?_, e3.mono hle⟩
      cases hxd : x.o.dst with
      | none => exact e2
      | some dx =>
        have hne : d ≠ dx := fun e' => by
          subst e'
          exact hW.dst hx hy (fun e' => e (hD.inj hy hx e'.symm)) hyd hxd
        rw [get_put_ne hne]; exact e2
  · have hx' := ht x hx (.inr rfl)
    have := h.m0 t fun y hy hyD => ht y hy (.inl hyD)
    rw [← this]
    cases hxd : x.o.dst with
    | none => rfl
    | some dx => exact get_put_ne fun e => hx' (by rw [hxd, e])
  · obtain ⟨u', h1, h2⟩ := h.e0 t v ht
    exact ⟨u', h1, h2.mono hle⟩
  · cases hxd : x.o.dst with
    | none => exact h.sz
    | some dx => simpa [Act.put] using h.sz
/-- one that writes: the model and the evaluator run it alike. -/
theorem St.wrote {n : Nat} (hD : DReg P keep all l) (hW : DWr all l) (h : St P keep nt all l E0 ρ0 s0 w0 a0 (Xs l n l.length) D B ρ cs lo tm S a w) {x : DOp} (hx : x ∈ l) (hxw : isW x.r = true) (hn : lev l x = n) (huniq : ∀ y ∈ l, isW y.r = true → lev l y = n → y = x)
    {v u : Value} {ρ' : Ren} {lo1 : Lo} {tm1 : T Value} {S1 : AS} {w1 : World} (henv : ∀ t, envget keep lo1 tm1 t = if x.o.dst = some t then some v else envget keep lo tm t) (htk : ∀ t v, tm1.get t = some v → kept keep t = true) (hnt : ∀ d, x.o.dst = some d → d < nt)
    (hv : VRel ρ' v u) (hrel : Rel P ρ' S1 w1) (hstp : Stp ρ S w ρ' S1 w1) :
    St P keep nt all l E0 ρ0 s0 w0 a0 (Xs l (n + 1) 0) (fun i => D i ∨ i = x.i) B ρ' cs lo1 tm1 S1 (a.put x.o.dst u) w1 := by
  have hle := hstp.le h.rel
  have hX : ∀ y ∈ l, Xs l (n + 1) 0 y → Xs l n l.length y ∨ y = x := fun y hy hXy => by
    rcases hXy with hXy | ⟨_, _, h3⟩
    · rcases Nat.lt_or_eq_of_le (Nat.le_of_lt_succ hXy) with h' | h'
      · exact .inl (.inl h')
      · cases hw : isW y.r with
        | true => exact .inr (huniq y hy hw h')
        | false => exact .inl (.inr ⟨h', hw, (List.getElem?_eq_some_iff.1 (hD.mem hy)).1⟩)
    · omega
  have hX' : ∀ y, Xs l n l.length y → Xs l (n + 1) 0 y := fun y hy => .inl (by rcases hy with h' | ⟨h', _, _⟩ <;> omega)
  have hXx : Xs l (n + 1) 0 x := .inl (by omega)
  have hnX : ¬ Xs l n l.length x := by
    rintro (h' | ⟨_, h', _⟩)
    · omega
    · rw [hxw] at h'; cases h'
  have other : ∀ y ∈ l, y ≠ x → ∀ d, y.o.dst = some d → x.o.dst ≠ some d := fun y hy hne d hd => hW.dst hx hy (fun e => hne (hD.inj hy hx e.symm)) hd
  have keepEnv : ∀ y ∈ l, y ≠ x → ∀ d, y.o.dst = some d → envget keep lo1 tm1 d = envget keep lo tm d := fun y hy hne d hd => by rw [henv, if_neg (other y hy hne d hd)]
  refine ⟨htk, fun t ht => ?_, fun y hy hXy hyw hyD => ?_, fun i b hb => ⟨Nat.lt_of_lt_of_le (h.bB i b hb).1 hstp.nx, (h.bB i b hb).2⟩, h.bI, fun y hy hd' => ?_, fun y hy hyD d hyd => ?_, fun t ht => ?_, fun t v ht => ?_, hrel, h.stp.trans hstp, by rw [put_defers']; exact h.df, ?_⟩
  · rw [henv, if_neg (ht x hx hXx)]
    exact h.env0 t fun y hy hXy => ht y hy (hX' y hXy)
  · have hyx : y ≠ x := fun e => by rw [e, hxw] at hyw; cases hyw
    have hXy' := (hX y hy hXy).resolve_right hyx
    obtain ⟨lo', tm', v', r1, r2, r3⟩ := h.rcd y hy hXy' hyw (fun e => hyD (.inl e))
    refine ⟨lo', tm', v', r1.mono (fun _ h => h) (fun _ h => h) (fun b hb hlt hr => ⟨Nat.lt_of_lt_of_le hlt hstp.nx, by rw [hstp.ren b hlt]; exact hr, hstp.ph b hlt hr⟩), fun d hd => ⟨(r2 d hd).1, by rw [keepEnv y hy hyx d hd]; exact (r2 d hd).2⟩, fun t => ⟨fun z hz hdz hb => ?_, (r3 t).2⟩⟩
    rw [(r3 t).1 z hz hdz hb]
    refine (keepEnv z hz (fun e' => ?_) t hdz).symm
    subst e'
    rcases hb with hb | ⟨_, hb, _⟩
    · rcases hXy' with h' | ⟨h', _, _⟩ <;> omega
    · rw [hxw] at hb; cases hb
  · rcases hd' with hd' | hd'
    · exact hX' y (h.dX y hy hd')
    · rw [hD.inj hy hx hd']; exact hXx
  · by_cases e : y = x
    · subst e
      refine ⟨v, u, by rw [henv, if_pos hyd], ?_, hv⟩
      rw [hyd]
      exact get_put_eq (Nat.lt_of_lt_of_le (hnt d hyd) h.sz)
    · have hyD' : D y.i := hyD.resolve_right fun e' => e (hD.inj hy hx e')
      obtain ⟨v', u', e1, e2, e3⟩ := h.md y hy hyD' d hyd
      refine ⟨v', u', by rw [keepEnv y hy e d hyd]; exact e1, ?_, e3.mono hle⟩
      cases hxd : x.o.dst with
      | none => exact e2
      | some dx =>
        have hne : d ≠ dx := fun e' => by
          subst e'
          exact other y hy e d hyd hxd
        rw [get_put_ne hne]; exact e2
  · have hx' := ht x hx (.inr rfl)
    have := h.m0 t fun y hy hyD => ht y hy (.inl hyD)
    rw [← this]
    cases hxd : x.o.dst with
    | none => rfl
    | some dx => exact get_put_ne fun e => hx' (by rw [hxd, e])
  · obtain ⟨u', h1, h2⟩ := h.e0 t v ht
    exact ⟨u', h1, h2.mono hle⟩
  · cases hxd : x.o.dst with
    | none => exact h.sz
    | some dx => simpa [Act.put] using h.sz
end
end Go.Eng
/-! Regions that draw their order: the evaluator's stages. -/
namespace Go.Eng
open Go
variable {P : Program}
theorem Rel.phantom {ρ : Ren} {s s' : AS} {w : World} {k : Blk} (h : Rel P ρ s w) (hs : s.new k = some s') : Rel P ρ s' w := by
  obtain ⟨hnx, hg⟩ := AS.new_eq hs
  have hno : ρ s.nx = none := h.dom _ (Nat.le_refl _)
  have hof : ∀ {a k x}, s'.h.get a = some k → ρ a = some x → s.h.get a = some k := fun {a k x} e e' => by
    rw [hg] at e
    by_cases ha : a = s.nx
    · rw [ha, hno] at e'; cases e'
    · rw [if_neg ha] at e; exact e
  exact ⟨fun a ha => h.dom a (by omega), fun a ha => by rw [hg, if_neg (by omega)]; exact h.top a (by omega), fun a k x e e' => h.blk a k x (hof e e') e', by rw [AS.new_lim hs]; have := h.lim; omega,
    fun a a' k k' x x' hne e1 e2 r1 r2 hb => h.excl a a' k k' x x' hne (hof e1 r1) (hof e2 r2) r1 r2 hb⟩
theorem Stp.phantom {ρ0 ρ : Ren} {s0 s s' : AS} {w0 w : World} {k : Blk} (hS : Stp ρ0 s0 w0 ρ s w) (h : Rel P ρ s w) (hs : s.new k = some s') : Stp ρ0 s0 w0 ρ s' w := by
  obtain ⟨hnx, hg⟩ := AS.new_eq hs
  have hno : ρ s.nx = none := h.dom _ (Nat.le_refl _)
  refine ⟨hS.ren, by have := hS.nx; omega, hS.tape, hS.os, hS.out, hS.size, fun b hb hn => ?_, fun a ha hn => ?_, hS.lp, (AS.new_lim hs).trans hS.lim, fun a ha => by rw [AS.new_low hs h.lim a (by rw [hS.lim]; exact ha), hS.low a ha], hS.lowW⟩
  · obtain ⟨h1, h2⟩ := hS.frame b hb hn
    refine ⟨h1, ?_⟩
    rintro ⟨a, k', x, e, e', rfl⟩
    rw [hg] at e
    by_cases ha : a = s.nx
    · rw [ha, hno] at e'; cases e'
    · rw [if_neg ha] at e; exact h2 ⟨a, k', x, e, e', rfl⟩
  · rw [hg, if_neg (by have := hS.nx; omega)]; exact hS.ph a ha hn
/-- a phantom block is made. -/
theorem Rel.realize {ρ : Ren} {s : AS} {w w' : World} {b : Nat} {k : Blk} {x : Loc} (hr : Rel P ρ s w) (hb : b < s.nx) (hno : ρ b = none) (hk : s.h.get b = some k)
    (hx : x.b = w.heap.size) (hsz : w'.heap.size = w.heap.size + 1) (hold : ∀ b, b < w.heap.size → w'.heap[b]? = w.heap[b]?) (hbr : BRel P (ρ.put b x) x w' k) : Rel P (ρ.put b x) s w' := by
  have hle : RenLe ρ (ρ.put b x) := put_le hno x
  have hput : ∀ a, a ≠ b → (ρ.put b x) a = ρ a := fun a ha => by unfold Ren.put; rw [if_neg ha]
  have hputs : (ρ.put b x) b = some x := by unfold Ren.put; rw [if_pos rfl]
  refine ⟨fun a ha => by rw [hput a (by omega)]; exact hr.dom a ha, hr.top, fun a k' y e e' => ?_, hr.lim, fun a a' k1 k2 x1 x2 hne e1 e2 r1 r2 hbb => ?_⟩
  · by_cases ha : a = b
    · subst ha
      rw [hputs] at e'; cases e'
      rw [hk] at e; cases e
      exact ⟨by omega, hbr⟩
    · rw [hput a ha] at e'
      obtain ⟨h1, h2⟩ := hr.blk a k' y e e'
      exact ⟨by omega, (h2.congr (hold _ h1)).mono hle⟩
  · by_cases ha : a = b
    · rw [ha, hputs] at r1; cases r1
      have ha' : a' ≠ b := fun e => hne (ha.trans e.symm)
      rw [hput a' ha'] at r2
      have := (hr.blk a' k2 x2 e2 r2).1
      omega
    · rw [hput a ha] at r1
      by_cases ha' : a' = b
      · rw [ha', hputs] at r2; cases r2
        have := (hr.blk a k1 x1 e1 r1).1
        omega
      · rw [hput a' ha'] at r2
        exact hr.excl a a' k1 k2 x1 x2 hne e1 e2 r1 r2 hbb
/-- a phantom block that is forgotten already. -/
theorem Rel.realize0 {ρ : Ren} {s : AS} {w w' : World} {b : Nat} {x : Loc} (hr : Rel P ρ s w) (hb : b < s.nx) (hno : ρ b = none) (hk : s.h.get b = none)
    (hsz : w'.heap.size = w.heap.size + 1) (hold : ∀ b, b < w.heap.size → w'.heap[b]? = w.heap[b]?) : Rel P (ρ.put b x) s w' := by
  have hle : RenLe ρ (ρ.put b x) := put_le hno x
  have hput : ∀ a, a ≠ b → (ρ.put b x) a = ρ a := fun a ha => by unfold Ren.put; rw [if_neg ha]
  have hne : ∀ {a k}, s.h.get a = some k → a ≠ b := fun {a k} e h => by rw [h, hk] at e; cases e
  refine ⟨fun a ha => by rw [hput a (by omega)]; exact hr.dom a ha, hr.top, fun a k' y e e' => ?_, hr.lim, fun a a' k1 k2 x1 x2 hne' e1 e2 r1 r2 hbb => ?_⟩
  · rw [hput a (hne e)] at e'
    obtain ⟨h1, h2⟩ := hr.blk a k' y e e'
    exact ⟨by omega, (h2.congr (hold _ h1)).mono hle⟩
  · rw [hput a (hne e1)] at r1
    rw [hput a' (hne e2)] at r2
    exact hr.excl a a' k1 k2 x1 x2 hne' e1 e2 r1 r2 hbb
theorem Stp.realize {ρ0 ρ : Ren} {s0 s : AS} {w0 w w' : World} {b : Nat} {x : Loc} (hr : Rel P ρ s w) (hS : Stp ρ0 s0 w0 ρ s w) (hb0 : s0.nx ≤ b)
    (hx : x.b = w.heap.size) (hsz : w'.heap.size = w.heap.size + 1) (hold : ∀ b, b < w.heap.size → w'.heap[b]? = w.heap[b]?) (ht : w'.tape = w.tape) (ho : w'.os = w.os) (hu : w'.output = w.output) : Stp ρ0 s0 w0 (ρ.put b x) s w' := by
  have hput : ∀ a, a ≠ b → (ρ.put b x) a = ρ a := fun a ha => by unfold Ren.put; rw [if_neg ha]
  have hputs : (ρ.put b x) b = some x := by unfold Ren.put; rw [if_pos rfl]
  refine ⟨fun a ha => by rw [hput a (by omega)]; exact hS.ren a ha, hS.nx, by rw [ht, hS.tape], by rw [ho, hS.os], by rw [hu, hS.out], by have := hS.size; omega, fun c hc hn => ?_, hS.ph, fun c r hc => ?_, hS.lim, hS.low, fun a k y hl hn hk hro hy => by
    have h1 := hS.lowW a k y hl hn hk hro hy
    rw [← h1]
    exact hold _ (hr.blk a k y (by rw [hS.low a hl]; exact hk) (by rw [hS.ren a hn]; exact hy)).1⟩
  · obtain ⟨h1, h2⟩ := hS.frame c hc hn
    have hcw : c < w.heap.size := Nat.lt_of_lt_of_le hc hS.size
    refine ⟨by rw [hold c hcw]; exact h1, ?_⟩
    rintro ⟨a, k', y, e, e', rfl⟩
    by_cases ha : a = b
    · rw [ha, hputs] at e'; cases e'; omega
    · rw [hput a ha] at e'; exact h2 ⟨a, k', y, e, e', rfl⟩
  · obtain ⟨r', hr'⟩ := hS.lp c r hc
    exact ⟨r', by rw [hold c (Array.getElem?_eq_some_iff.1 hr').1]; exact hr'⟩
section
variable {keep nt : Nat} {all : Array Oper} {l : List DOp} {E0 : Nat → Option Value} {ρ0 : Ren} {s0 : AS} {w0 : World} {a0 : Act} {D : Nat → Prop} {B : Nat → Nat → Prop} {ρ : Ren} {cs : List Chk} {lo : Lo} {tm : T Value} {S : AS} {a : Act} {w : World} {ev : Ev}
variable {x' : XExit} {tm' : T Value} {s' : AS}
theorem withGuard_some {o : Oper} {d : DI} {c c' : CI} {al : List Oper} (h : withGuard keep [] al o d c = some c') : (o.guard = none ∧ c' = c) ∨ ∃ j want g, o.guard = some (j, want) ∧ guardOpd keep [] al j = some g ∧ c' = .gd g want d c := by
  unfold withGuard at h
  split at h
  · rename_i hg; cases h; exact .inl ⟨hg, rfl⟩
  · rename_i j want hg
    obtain ⟨g, hg', h⟩ := ob_some h
    cases h
    exact .inr ⟨j, want, g, hg, hg', rfl⟩
theorem ifO_code {o : Option Bool} {p q : Out} {x : XExit} {tm' : T Value} {s' : AS} (h : ifO o p q = .code x tm' s') : ∃ y, o = some y ∧ (if y = true then p else q) = .code x tm' s' := by
  cases o with
  | none => cases h
  | some y => exact ⟨y, rfl, by cases y <;> exact h⟩
/-- plain ones: what the evaluator runs, without the guard. -/
theorem plain_ran {x : DOp} (hrd : rdOf P keep [] x.o.op = some x.r) (hxw : isW x.r = false) (hnr : ∀ f, x.r ≠ .r f) {d : DI} {k : K} (h : runCI ev (ciOf x.r d) k lo tm S = .code x' tm' s') :
    ∃ v S1, putD d v k lo tm S1 = .code x' tm' s' ∧ (∀ (B1 : Nat → Nat → Prop) cs, (∀ s1k, S.new s1k = some S1 → B1 x.i S.nx) → ρ S.nx = none → Ran0 P l ρ B1 cs S1 x lo tm v) ∧ (S1 = S ∨ ∃ k, S.new k = some S1) := by
  have hok := rdOf_ok hrd
  cases hr : x.r with
  | p f =>
    rw [hr] at h hok
    have h' : Option.rec (motive := fun _ => Out) .no (fun v => putD d v k lo tm S) (f lo tm S) = .code x' tm' s' := h
    cases hv : f lo tm S with
    | none => rw [hv] at h'; cases h'
    | some v =>
      rw [hv] at h'
      exact ⟨v, S, h', fun B1 cs _ _ => by unfold Ran0; rw [hr]; exact ⟨S, hv⟩, .inl rfl⟩
  | r f => exact (hnr f hr).elim
  | a f =>
    rw [hr] at h hok
    have h' : Option.rec (motive := fun _ => Out) .no (fun p => putD d p.1 k lo tm p.2) (f lo tm S) = .code x' tm' s' := h
    cases hv : f lo tm S with
    | none => rw [hv] at h'; cases h'
    | some r =>
      rw [hv] at h'
      obtain ⟨b, hb, _⟩ := hok lo tm S r hv
      obtain ⟨v, S1⟩ := r
      refine ⟨v, S1, h', fun B1 cs hB hno => ?_, .inr ⟨b, hb⟩⟩
      unfold Ran0; rw [hr]
      have := AS.new_eq hb
      exact ⟨S, S1, hv, hB b hb, by rw [this.1]; exact Nat.lt_succ_self _, hno, .inl rfl⟩
  | w f => rw [hr] at hxw; cases hxw
  | c f as => rw [hr] at hxw; cases hxw
theorem eval_op {n : Nat} {x : DOp} (hD : DReg P keep all l) (hW : DWr all l) (h : St P keep nt all l E0 ρ0 s0 w0 a0 (Xs l n x.i) D B ρ cs lo tm S a w) (hx : x ∈ l) (hxw : isW x.r = false) (hn : lev l x = n) {dr : DR} (hdr : drOf keep nt all.toList (wsOf l) x = some dr)
    {k : KC} (hk : runDR ev dr k cs lo tm S = .code x' tm' s') : ∃ B1 cs1 lo1 tm1 S1, St P keep nt all l E0 ρ0 s0 w0 a0 (Xs l n (x.i + 1)) D B1 ρ cs1 lo1 tm1 S1 a w ∧ k cs1 lo1 tm1 S1 = .code x' tm' s' := by
  obtain ⟨d, hd, hdr⟩ := ob_some hdr
  -- one way in which it ends
  have fin : ∀ {v : Value} {cs1 : List Chk} {S1 : AS}, putD d v (k cs1) lo tm S1 = .code x' tm' s' → (∀ c ∈ cs, c ∈ cs1) → (S1 = S ∨ ∃ kb, S.new kb = some S1) →
      (∀ (B1 : Nat → Nat → Prop), (∀ s1k, S.new s1k = some S1 → B1 x.i S.nx) → ρ S.nx = none → Ran P keep all l ρ B1 cs1 S1 x lo tm v) →
      ∃ B1 cs1 lo1 tm1 S1, St P keep nt all l E0 ρ0 s0 w0 a0 (Xs l n (x.i + 1)) D B1 ρ cs1 lo1 tm1 S1 a w ∧ k cs1 lo1 tm1 S1 = .code x' tm' s' := by
    intro v cs1 S1 hp hcs hS hran
    obtain ⟨lo1, tm1, hk1, henv, htk, hnt⟩ := putD_env hd h.tk hp
    have hno : ρ S.nx = none := h.rel.dom _ (Nat.le_refl _)
    rcases hS with rfl | ⟨kb, hkb⟩
    · refine ⟨B, cs1, lo1, tm1, _, h.grow hD hW hx hxw hn henv htk hnt (hran B (fun s1k e => ?_) hno) hcs (fun _ _ h => h) h.bB h.bI (Nat.le_refl _) (fun _ _ => rfl) h.rel h.stp, hk1⟩
      have := (AS.new_eq e).1; omega
    · obtain ⟨e1, e2⟩ := AS.new_eq hkb
      refine ⟨fun i b => B i b ∨ (i = x.i ∧ b = S.nx), cs1, lo1, tm1, S1, h.grow hD hW hx hxw hn henv htk hnt (hran _ (fun _ _ => .inr ⟨rfl, rfl⟩) hno) hcs (fun _ _ h => .inl h) (fun i b hb => ?_) (fun i j b hi hj => ?_) (by omega) (fun b hb => by rw [e2, if_neg (by omega)])
        (h.rel.phantom hkb) (h.stp.phantom h.rel hkb), hk1⟩
      · rcases hb with hb | ⟨_, rfl⟩
        · have := h.bB i b hb; exact ⟨by omega, this.2⟩
        · exact ⟨by omega, h.stp.nx⟩
      · rcases hi with hi | ⟨hi, hb⟩ <;> rcases hj with hj | ⟨hj, hb'⟩
        · exact h.bI i j b hi hj
        · have := (h.bB i b hi).1; omega
        · have := (h.bB j b hj).1; omega
        · omega
  -- reading
  have rd : ∀ {f : VF} {hi : Nat}, x.r = .r f → hi = highest x.i (wsOf l) → rdStep f d hi k cs lo tm S = .code x' tm' s' → (∀ v (B1 : Nat → Nat → Prop) cs1, Ran0 P l ρ B1 cs1 S x lo tm v → Ran P keep all l ρ B1 cs1 S x lo tm v) →
      ∃ B1 cs1 lo1 tm1 S1, St P keep nt all l E0 ρ0 s0 w0 a0 (Xs l n (x.i + 1)) D B1 ρ cs1 lo1 tm1 S1 a w ∧ k cs1 lo1 tm1 S1 = .code x' tm' s' := by
    intro f hi hr hhi hst hup
    have hst' : Option.rec (motive := fun _ => Out) .no (fun v => putD d v (k ((hi, fun s' => vEqO v (f lo tm s')) :: cs)) lo tm S) (f lo tm S) = .code x' tm' s' := hst
    cases hv : f lo tm S with
    | none => rw [hv] at hst'; cases hst'
    | some v =>
      rw [hv] at hst'
      refine fin (v := v) hst' (fun c hc => by simp [hc]) (.inl rfl) (fun B1 _ _ => hup v B1 _ ?_)
      unfold Ran0; rw [hr, hhi]; simp
  have plain : (∀ f, x.r ≠ .r f) → ob (withGuard keep [] all.toList x.o d (ciOf x.r d)) (fun c => some (DR.pa c)) = some dr → ∃ B1 cs1 lo1 tm1 S1, St P keep nt all l E0 ρ0 s0 w0 a0 (Xs l n (x.i + 1)) D B1 ρ cs1 lo1 tm1 S1 a w ∧ k cs1 lo1 tm1 S1 = .code x' tm' s' := by
    intro hnr hdr
    obtain ⟨c, hc, hdr⟩ := ob_some hdr
    cases hdr
    have hk : runCI ev c (k cs) lo tm S = .code x' tm' s' := hk
    rcases withGuard_some hc with ⟨hg, rfl⟩ | ⟨j, want, g, hg, hgo, rfl⟩
    · obtain ⟨v, S1, hp, hran, hS⟩ := plain_ran (l := l) (ρ := ρ) (hD.rd x hx) hxw hnr hk
      exact fin hp (fun _ h => h) hS (fun B1 hB hno => by unfold Ran; rw [hg]; exact hran B1 cs hB hno)
    · have hk' : ifO (wantO want (g lo tm)) (runCI ev (ciOf x.r d) (k cs) lo tm S) (putD d (.tuple #[]) (k cs) lo tm S) = .code x' tm' s' := hk
      obtain ⟨y, hy, hk'⟩ := ifO_code hk'
      cases y with
      | true =>
        obtain ⟨v, S1, hp, hran, hS⟩ := plain_ran (l := l) (ρ := ρ) (hD.rd x hx) hxw hnr hk'
        exact fin hp (fun _ h => h) hS (fun B1 hB hno => by unfold Ran; rw [hg]; exact ⟨g, true, hgo, hy, fun _ => hran B1 cs hB hno, fun e => by cases e⟩)
      | false =>
        exact fin (S1 := S) hk' (fun _ h => h) (.inl rfl) (fun B1 hB hno => by unfold Ran; rw [hg]; exact ⟨g, false, hgo, hy, fun e => (by cases e), fun _ => rfl⟩)
  cases hr : x.r with
  | r f =>
    rw [hr] at hdr
    simp only at hdr
    split at hdr
    · rename_i hg
      rw [fNat_eq] at hdr
      cases hdr
      exact rd hr rfl hk (fun v B1 cs1 h0 => by unfold Ran; rw [hg]; exact h0)
    · rename_i j want hg
      obtain ⟨g, hgo, hdr⟩ := ob_some hdr
      rw [fNat_eq] at hdr
      cases hdr
      have hk' : ifO (wantO want (g lo tm)) (rdStep f d (highest x.i (wsOf l)) k cs lo tm S) (putD d (.tuple #[]) (k cs) lo tm S) = .code x' tm' s' := hk
      obtain ⟨y, hy, hk'⟩ := ifO_code hk'
      cases y with
      | true => exact rd hr rfl hk' (fun v B1 cs1 h0 => by unfold Ran; rw [hg]; exact ⟨g, true, hgo, hy, fun _ => h0, fun e => by cases e⟩)
      | false => exact fin (S1 := S) hk' (fun _ h => h) (.inl rfl) (fun B1 hB hno => by unfold Ran; rw [hg]; exact ⟨g, false, hgo, hy, fun e => (by cases e), fun _ => rfl⟩)
  | p f => exact plain (by rw [hr]; intro f e; cases e) (by rw [hr] at hdr ⊢; exact hdr)
  | a f => exact plain (by rw [hr]; intro f e; cases e) (by rw [hr] at hdr ⊢; exact hdr)
  | w f => rw [hr] at hxw; cases hxw
  | c f as => rw [hr] at hxw; cases hxw
theorem St.congrX {X X' : DOp → Prop} (h : St P keep nt all l E0 ρ0 s0 w0 a0 X D B ρ cs lo tm S a w) (hX : ∀ y ∈ l, X y ↔ X' y) : St P keep nt all l E0 ρ0 s0 w0 a0 X' D B ρ cs lo tm S a w :=
  ⟨h.tk, fun t ht => h.env0 t fun y hy hXy => ht y hy ((hX y hy).1 hXy), fun x hx hXx => h.rcd x hx ((hX x hx).2 hXx), h.bB, h.bI, fun y hy hd => (hX y hy).1 (h.dX y hy hd), h.md, h.m0, h.e0, h.rel, h.stp, h.df, h.sz⟩
/-- a stage's operations. -/
theorem pre_run {n : Nat} (hD : DReg P keep all l) (hW : DWr all l) {k : KC} : ∀ (l2 : List DOp) (m : Nat), l.drop m = l2 → ∀ (dl : List DR), stageOps keep nt all.toList (wsOf l) n l2 = some dl → ∀ B cs lo tm S, St P keep nt all l E0 ρ0 s0 w0 a0 (Xs l n m) D B ρ cs lo tm S a w →
    runDRs ev dl k cs lo tm S = .code x' tm' s' → ∃ B1 cs1 lo1 tm1 S1, St P keep nt all l E0 ρ0 s0 w0 a0 (Xs l n l.length) D B1 ρ cs1 lo1 tm1 S1 a w ∧ k cs1 lo1 tm1 S1 = .code x' tm' s'
  | [], m, hm, dl, hdl, B, cs, lo, tm, S, h, hk => by
    cases hdl
    have hlen : l.length ≤ m := by
      have := congrArg List.length hm
      simp at this; omega
    refine ⟨B, cs, lo, tm, S, h.congrX (fun y hy => ?_), hk⟩
    have := (List.getElem?_eq_some_iff.1 (hD.mem hy)).1
    unfold Xs
    constructor
    · rintro (h | ⟨h1, h2, _⟩)
      · exact .inl h
      · exact .inr ⟨h1, h2, this⟩
    · rintro (h | ⟨h1, h2, _⟩)
      · exact .inl h
      · exact .inr ⟨h1, h2, by omega⟩
  | x :: l2, m, hm, dl, hdl, B, cs, lo, tm, S, h, hk => by
    have hxm : l[m]? = some x := by
      have := congrArg (·[0]?) hm
      simpa using this
    have hx : x ∈ l := List.mem_of_getElem? hxm
    have hi : x.i = m := hD.at_ m x hxm
    have hm' : l.drop (m + 1) = l2 := by rw [← List.drop_drop, hm]; rfl
    have skip : ¬ (lev l x = n ∧ isW x.r = false) → St P keep nt all l E0 ρ0 s0 w0 a0 (Xs l n (m + 1)) D B ρ cs lo tm S a w := fun hno => h.congrX fun y hy => by
      unfold Xs
      constructor
      · rintro (h | ⟨h1, h2, h3⟩)
        · exact .inl h
        · exact .inr ⟨h1, h2, by omega⟩
      · rintro (h | ⟨h1, h2, h3⟩)
        · exact .inl h
        · refine .inr ⟨h1, h2, ?_⟩
          have : y.i ≠ m := fun e => by
            have := hD.inj hy hx (by omega)
            subst this
            exact hno ⟨h1, h2⟩
          omega
    have hdl' : bif' (isW x.r) (stageOps keep nt all.toList (wsOf l) n l2) (bif' (Nat.beq (level x.m (wsOf l)) n) (ob (drOf keep nt all.toList (wsOf l) x) fun d => ob (stageOps keep nt all.toList (wsOf l) n l2) fun r => some (d :: r)) (stageOps keep nt all.toList (wsOf l) n l2)) = some dl := hdl
    cases hw : isW x.r with
    | true =>
      rw [hw, bif'_true] at hdl'
      exact pre_run hD hW l2 (m + 1) hm' dl hdl' B cs lo tm S (skip (fun e => by rw [hw] at e; cases e.2)) hk
    | false =>
      rw [hw, bif'_false] at hdl'
      cases hb : Nat.beq (level x.m (wsOf l)) n with
      | false =>
        rw [hb, bif'_false] at hdl'
        refine pre_run hD hW l2 (m + 1) hm' dl hdl' B cs lo tm S (skip (fun e => ?_)) hk
        have : level x.m (wsOf l) = n := e.1
        rw [this, Nat.beq_refl] at hb; cases hb
      | true =>
        rw [hb, bif'_true] at hdl'
        obtain ⟨dr, hdr, hdl'⟩ := ob_some hdl'
        obtain ⟨r, hr, hdl'⟩ := ob_some hdl'
        cases hdl'
        have hk' : runDR ev dr (runDRs ev r k) cs lo tm S = .code x' tm' s' := hk
        rw [← hi] at h
        obtain ⟨B1, cs1, lo1, tm1, S1, h1, hk1⟩ := eval_op hD hW h hx hw (Nat.eq_of_beq_eq_true hb) hdr hk'
        rw [hi] at h1
        exact pre_run hD hW l2 (m + 1) hm' r hr B1 cs1 lo1 tm1 S1 h1 hk1
/-- what is left to run, at a stage's end. -/
def Cont (P : Program) (keep nt : Nat) (all : Array Oper) (l : List DOp) (ev : Ev) (last : List DR) (todo : List DOp) (c : Nat) (cs : List Chk) (lo : Lo) (tm : T Value) (S : AS) (out : Out) : Prop :=
  match todo with
  | [] => kEnd lo tm S = out
  | x :: rest => ∃ d cw sts, mkDst keep nt x.o.dst = some d ∧ withGuard keep [] all.toList x.o d (ciOf x.r d) = some cw ∧ stages keep nt all.toList (wsOf l) l rest (c + 1) = some sts ∧ runCI ev cw (runStages ev sts last kEnd (c + 1) cs) lo tm S = out
theorem stage_end {c : Nat} {k : KC} {out : XExit × T Value × AS} (h : endStage c k cs lo tm S = .code out.1 out.2.1 out.2.2) : chksOk c S cs = true ∧ k cs lo tm S = .code out.1 out.2.1 out.2.2 := by
  have h : bif' (chksOk c S cs) (k cs lo tm S) .no = .code out.1 out.2.1 out.2.2 := h
  cases hc : chksOk c S cs with
  | false => rw [hc] at h; cases h
  | true => rw [hc] at h; exact ⟨rfl, h⟩
theorem stage_run {c : Nat} (hD : DReg P keep all l) (hW : DWr all l) {todo : List DOp} {sts : List Stage} {last : List DR} (hst : stages keep nt all.toList (wsOf l) l todo c = some sts) (hlast : stageOps keep nt all.toList (wsOf l) (wsOf l).length l = some last) (hc : c + todo.length = (wsOf l).length)
    (h : St P keep nt all l E0 ρ0 s0 w0 a0 (Xs l c 0) D B ρ cs lo tm S a w) (hk : runStages ev sts last kEnd c cs lo tm S = .code x' tm' s') :
    ∃ B1 cs1 lo1 tm1 S1, St P keep nt all l E0 ρ0 s0 w0 a0 (Xs l c l.length) D B1 ρ cs1 lo1 tm1 S1 a w ∧ chksOk c S1 cs1 = true ∧ Cont P keep nt all l ev last todo c cs1 lo1 tm1 S1 (.code x' tm' s') := by
  cases todo with
  | nil =>
    cases hst
    have hc : c = (wsOf l).length := by simpa using hc
    have hk' : runDRs ev last (endStage c fun _ => kEnd) cs lo tm S = .code x' tm' s' := hk
    rw [← hc] at hlast
    obtain ⟨B1, cs1, lo1, tm1, S1, h1, hk1⟩ := pre_run hD hW l 0 (by simp) last hlast B cs lo tm S h hk'
    obtain ⟨e1, e2⟩ := stage_end (out := (x', tm', s')) hk1
    exact ⟨B1, cs1, lo1, tm1, S1, h1, e1, e2⟩
  | cons x rest =>
    have hst' : ob (stageOps keep nt all.toList (wsOf l) c l) (fun pre => ob (mkDst keep nt x.o.dst) fun d => ob (withGuard keep [] all.toList x.o d (ciOf x.r d)) fun cw => fNat (Nat.succ c) fun n => ob (stages keep nt all.toList (wsOf l) l rest n) fun r => some (⟨pre, cw⟩ :: r)) = some sts := hst
    obtain ⟨pre, hpre, hst'⟩ := ob_some hst'
    obtain ⟨d, hd, hst'⟩ := ob_some hst'
    obtain ⟨cw, hcw, hst'⟩ := ob_some hst'
    rw [fNat_eq] at hst'
    obtain ⟨r, hr, hst'⟩ := ob_some hst'
    cases hst'
    have hk' : runDRs ev pre (endStage c fun cs => runCI ev cw (runStages ev r last kEnd (c + 1) cs)) cs lo tm S = .code x' tm' s' := hk
    obtain ⟨B1, cs1, lo1, tm1, S1, h1, hk1⟩ := pre_run hD hW l 0 (by simp) pre hpre B cs lo tm S h hk'
    obtain ⟨e1, e2⟩ := stage_end (out := (x', tm', s')) hk1
    exact ⟨B1, cs1, lo1, tm1, S1, h1, e1, d, cw, r, hd, hcw, hr, e2⟩
end
end Go.Eng
/-! Regions that draw their order: the model's run. -/
namespace Go.Eng
open Go
variable {P : Program}
theorem bif_tt {a b : Bool} (h : bif' a b false = true) : a = true ∧ b = true := by
  cases a with
  | true => exact ⟨rfl, h⟩
  | false => cases h
theorem adrSame_sound {a b : Addr} (h : adrSame a b = true) : a = b := by
  unfold adrSame at h
  split at h
  · rename_i h1 h2
    rw [bif'_eq] at h
    split at h
    · rename_i hb
      obtain ⟨b1, o1, s1⟩ := a
      obtain ⟨b2, o2, s2⟩ := b
      simp only at h1 h2 hb h
      subst h1; subst h2
      rw [Nat.eq_of_beq_eq_true hb, Nat.eq_of_beq_eq_true h]
    · cases h
  · cases h
theorem adrSameO_sound {a b : Option Addr} (h : adrSameO a b = true) : a = b := by
  unfold adrSameO at h
  split at h
  · rfl
  · rw [adrSame_sound h]
  · cases h
theorem natSameO_sound {a b : Option Nat} (h : natSameO a b = true) : a = b := by
  unfold natSameO at h
  split at h
  · rfl
  · rw [Nat.eq_of_beq_eq_true h]
  · cases h
theorem fnSame_sound {a b : Fn} (h : fnSame a b = true) : a = b := by
  unfold fnSame at h
  split at h
  · rw [Nat.eq_of_beq_eq_true h]
  · rw [Nat.eq_of_beq_eq_true h]
  · cases h
theorem vEqs_sound {f : Value → Value → Bool} (hf : ∀ x y, f x y = true → x = y) : ∀ a b : List Value, vEqs f a b = true → a = b
  | [], [], _ => rfl
  | [], _ :: _, h => by cases h
  | _ :: _, [], h => by cases h
  | x :: a, y :: b, h => by
    have h : bif' (f x y) (vEqs f a b) false = true := h
    cases hx : f x y with
    | false => rw [hx] at h; cases h
    | true => rw [hx] at h; rw [hf x y hx, vEqs_sound hf a b h]
theorem arr_ext {a b : Array Value} (h : a.toList = b.toList) : a = b := Array.ext' h
theorem vEq_sound : ∀ (n : Nat) (v u : Value), vEq n v u = true → v = u
  | 0, _, _, h => by cases h
  | n + 1, v, u, h => by
    have ih := vEq_sound n
    have h : (match (generalizing := false) v, u with
      | .bool a, .bool b => bif' a b (bNot b)
      | .int k a, .int k' b => bif' (kEq k k') (iEq a b) false
      | .string a, .string b => bEq a.data.toList b.data.toList
      | .pointer a, .pointer b => adrSameO a b
      | .slice a n c, .slice b m d => bif' (adrSameO a b) (bif' (Nat.beq n m) (Nat.beq c d) false) false
      | .map a, .map b => natSameO a b
      | .func f a b, .func g c d => bif' (fnSame f g) (bif' (vEqs (vEq n) a.toList c.toList) (vEqs (vEq n) b.toList d.toList) false) false
      | .nilFunc, .nilFunc => true
      | .nilIface, .nilIface => true
      | .iface t a, .iface u b => bif' (Nat.beq t u) (vEq n a b) false
      | .agg a, .agg b => vEqs (vEq n) a.toList b.toList
      | .tuple a, .tuple b => vEqs (vEq n) a.toList b.toList
      | _, _ => false) = true := h
    rename_i hold
    clear hold
    split at h
    · rename_i a b; cases a <;> cases b <;> first | rfl | (exact (Bool.noConfusion h))
    · obtain ⟨h1, h2⟩ := bif_tt h
      rw [iEq_eq] at h2
      rw [kEq_iff.1 h1, of_decide_eq_true h2]
    · rename_i a b
      rw [bEq_eq] at h
      obtain ⟨a⟩ := a; obtain ⟨b⟩ := b
      have : a = b := Array.ext' (eq_of_beq h)
      rw [this]
    · rw [adrSameO_sound h]
    · obtain ⟨h1, h⟩ := bif_tt h
      obtain ⟨h2, h3⟩ := bif_tt h
      rw [adrSameO_sound h1, Nat.eq_of_beq_eq_true h2, Nat.eq_of_beq_eq_true h3]
    · rw [natSameO_sound h]
    · obtain ⟨h1, h⟩ := bif_tt h
      obtain ⟨h2, h3⟩ := bif_tt h
      rw [fnSame_sound h1, arr_ext (vEqs_sound ih _ _ h2), arr_ext (vEqs_sound ih _ _ h3)]
    · rfl
    · rfl
    · obtain ⟨h1, h2⟩ := bif_tt h
      rw [Nat.eq_of_beq_eq_true h1, ih _ _ h2]
    · rw [arr_ext (vEqs_sound ih _ _ h)]
    · rw [arr_ext (vEqs_sound ih _ _ h)]
    · cases h
theorem vEqO_sound {v : Value} {o : Option Value} (h : vEqO v o = true) : o = some v := by
  cases o with
  | none => cases h
  | some u => rw [vEq_sound 12 v u h]
theorem chksOk_spec {n : Nat} {s : AS} : ∀ {l : List Chk}, chksOk n s l = true → ∀ c ∈ l, n ≤ c.1 → c.2 s = true
  | [], _, c, hc, _ => by simp at hc
  | c0 :: l, h, c, hc, hn => by
    have h : bif' (Nat.ble n c0.1) (bif' (c0.2 s) (chksOk n s l) false) (chksOk n s l) = true := h
    rw [bif'_eq] at h
    rcases List.mem_cons.1 hc with rfl | hc
    · rw [if_pos (Nat.ble_eq_true_of_le hn)] at h
      exact (bif_tt h).1
    · refine chksOk_spec ?_ c hc hn
      split at h
      · exact (bif_tt h).2
      · exact h
end Go.Eng
/-! Regions that draw their order: the model's run. -/
namespace Go.Eng
open Go
variable {P : Program}
section
variable {keep nt : Nat} {all : Array Oper} {l : List DOp} {E0 : Nat → Option Value} {ρ0 : Ren} {s0 : AS} {w0 : World} {a0 : Act} {D : Nat → Prop} {B : Nat → Nat → Prop} {ρ : Ren} {cs : List Chk} {lo : Lo} {tm : T Value} {S : AS} {a : Act} {w : World} {ev : Ev}
variable {x' : XExit} {tm' : T Value} {s' : AS} {F : Fence} {c : Nat}
theorem ran0_exec {X : DOp → Prop} (hD : DReg P keep all l) (h : St P keep nt all l E0 ρ0 s0 w0 a0 X D B ρ cs lo tm S a w) (hchk : chksOk c S cs = true) {x : DOp} (hx : x ∈ l) (hhi : c ≤ highest x.i (wsOf l)) {lo' : Lo} {tm' : T Value} {v : Value}
    (hr : Ran0 P l ρ B cs S x lo' tm' v) (hops : OpsRel ρ keep [] lo' tm' a.eval x.o.op.operands) :
    ∃ u ρ' w', (execOp a.eval x.o).run P w = .ok (.value u) w' ∧ VRel ρ' v u ∧ RenLe ρ ρ' ∧ Rel P ρ' S w' ∧ Stp ρ0 s0 w0 ρ' S w' ∧ ∀ j b, B j b → j ≠ x.i → ρ b = none → ρ' b = none := by
  have hok := rdOf_ok (hD.rd x hx)
  unfold Ran0 at hr
  split at hr
  · rename_i f hf
    rw [hf] at hok
    obtain ⟨s, hv⟩ := hr
    obtain ⟨u, h1, h2⟩ := hok.2 ρ lo' tm' s v w a.eval hv hops
    exact ⟨u, ρ, w, h1, h2, .refl _, h.rel, h.stp, fun _ _ _ _ e => e⟩
  · rename_i f hf
    rw [hf] at hok
    have hv := vEqO_sound (chksOk_spec hchk _ hr hhi)
    obtain ⟨u, h1, h2⟩ := hok ρ lo' tm' S v w a.eval hv h.rel hops
    exact ⟨u, ρ, w, h1, h2, .refl _, h.rel, h.stp, fun _ _ _ _ e => e⟩
  · rename_i f hf
    rw [hf] at hok
    obtain ⟨s1, s1', hv, hB, hlt, hno, hg⟩ := hr
    obtain ⟨k, hk, hm⟩ := hok lo' tm' s1 _ hv
    obtain ⟨m, he, x0, u, w', e1, e2, e3, e4, e5, e6, e7, e8, e9⟩ := hm ρ w a.eval hno hops
    have hrel : Rel P (ρ.put s1.nx x0) S w' := by
      rcases hg with hg | hg
      · have hget : S.h.get s1.nx = some k := by rw [hg, (AS.new_eq hk).2, if_pos rfl]
        exact h.rel.realize hlt hno hget e2 e3 e4 e9
      · exact h.rel.realize0 hlt hno hg e3 e4
    refine ⟨u, ρ.put s1.nx x0, w', by rw [he]; exact run_val e1, e8, put_le hno x0, hrel, h.stp.realize h.rel (h.bB _ _ hB).2 e2 e3 e4 e5 e6 e7, fun j b hb hj hn => ?_⟩
    unfold Ren.put
    rw [if_neg (fun e => ?_)]
    · exact hn
    · subst e; exact hj (h.bI _ _ _ hb hB)
  · exact hr.elim
/-- one operation that does not write. -/
theorem model_op (hF : WideF F) (hD : DReg P keep all l) (hW : DWr all l) (h : St P keep nt all l E0 ρ0 s0 w0 a0 (Xs l c l.length) D B ρ cs lo tm S a w) (hchk : chksOk c S cs = true) (hdown : ∀ y ∈ l, D y.i → ∀ j, bitOf y.m j = true → D j)
    {x : DOp} (hx : x ∈ l) (hxw : isW x.r = false) (hxX : Xs l c l.length x) (hxD : ¬ D x.i) (hpre : ∀ j, bitOf x.m j = true → D j) (hhi : c ≤ highest x.i (wsOf l)) {Q : Exit → Act → World → Prop} {N : Act → World → Prop}
    (hN : ∀ ρ' a' w', St P keep nt all l E0 ρ0 s0 w0 a0 (Xs l c l.length) (fun i => D i ∨ i = x.i) B ρ' cs lo tm S a' w' → N a' w') : wpOpIn F 0 P all Q x.i N a w := by
  obtain ⟨lo', tm', v, hran, hd, ht⟩ := h.rcd x hx hxX hxw hxD
  have huse : ∀ t ∈ usesOf all.toList x.o, ∀ v, envget keep lo' tm' t = some v → VRel ρ v (a.eval (.tmp t)) := fun t hu v hv => h.use hD hW hdown hx hxD hpre ht hu hv
  have hops := opsRel_of huse
  have hdf : ∀ c, x.o.op ≠ .defer c := fun c e => by have := hD.rd x hx; rw [e] at this; cases this
  unfold wpOpIn
  rw [hD.op x hx]
  simp only
  have run0 : Ran0 P l ρ B cs S x lo' tm' v → x.o.wpIn F 0 P a w N Q := fun hr => by
    obtain ⟨u, ρ', w', h1, h2, h3, h4, h5, h6⟩ := ran0_exec hD h hchk hx hhi hr hops
    refine ⟨fun f _ => hF.fn f, ?_⟩
    rw [Oper.semAt_eq _ _ _ hdf, h1]
    exact hN _ _ _ (h.real hD hW hx hxX hd h2 h3 h4 h5 h6)
  unfold Ran at hran
  split at hran
  · rename_i hg
    have hw : Region.wanted x.o (yielded all a.tmps) = true := by unfold Region.wanted; rw [hg]
    rw [if_pos hw]
    exact run0 hran
  · rename_i j want hg
    obtain ⟨g, y, hgo, hy, h1, h2⟩ := hran
    have hw := wantO_ok (ρ := ρ) (al := []) (fun d g v ⟨o', ho', hd'⟩ hm hv => by
      rw [mkOp_tmp hm] at hv
      exact huse d (uses_guard hg ho' hd') v hv) hg hgo hy
    cases y with
    | true => rw [if_pos hw]; exact run0 (h1 rfl)
    | false =>
      rw [if_neg (by rw [hw]; simp)]
      refine ⟨fun f _ => hF.fn f, hN _ _ _ (h.real hD hW hx hxX hd (by rw [h2 rfl]; exact .tuple .nil) (.refl _) h.rel h.stp (fun _ _ _ _ e => e))⟩
theorem ready_iff {listed : Array Bool} {i : Nat} : i ∈ Region.ready .any all listed ↔ i < all.size ∧ listed.getD i true = false ∧ ∃ o, all[i]? = some o ∧ ∀ e ∈ o.after.toList, Region.binds .any e = true → listed.getD e.on false = true := by
  unfold Region.ready
  rw [List.mem_filter, List.mem_range, Bool.and_eq_true]
  refine and_congr Iff.rfl (and_congr (by simp) ?_)
  cases ho : all[i]? with
  | none => simp
  | some o =>
    simp only [Option.map_some, Option.getD_some, Array.all_eq_true']
    constructor
    · intro h
      refine ⟨o, rfl, fun e he hb => ?_⟩
      have := h e (by simpa using he)
      simpa [hb] using this
    · rintro ⟨o', ho', h⟩ e he
      cases ho'
      cases hb : Region.binds .any e with
      | false => simp
      | true => simpa using h e (by simpa using he) hb
theorem unlisted_set {listed : Array Bool} {i : Nat} : ∀ (r : List Nat), r.Nodup → i ∈ r → i < listed.size → listed.getD i true = false →
    (r.filter fun j => !(listed.setIfInBounds i true).getD j true).length + 1 = (r.filter fun j => !listed.getD j true).length
  | [], _, hi, _, _ => by simp at hi
  | j :: r, hn, hi, hlt, hf => by
    rw [List.nodup_cons] at hn
    have other : ∀ k, k ≠ i → (listed.setIfInBounds i true).getD k true = listed.getD k true := fun k hk => by
      rw [Array.getD_eq_getD_getElem?, Array.getD_eq_getD_getElem?, Array.getElem?_setIfInBounds_ne (Ne.symm hk)]
    by_cases e : j = i
    · subst e
      have h1 : (listed.setIfInBounds j true).getD j true = true := by
        rw [Array.getD_eq_getD_getElem?, Array.getElem?_setIfInBounds_self_of_lt hlt]; rfl
      rw [List.filter_cons, List.filter_cons, h1, hf]
      simp only [Bool.not_true, Bool.false_eq_true, if_false, Bool.not_false, if_true, List.length_cons]
      congr 2
      refine List.filter_congr fun k hk => ?_
      rw [other k (fun e => by subst e; exact hn.1 hk)]
    · have hi' : i ∈ r := (List.mem_cons.1 hi).resolve_left (Ne.symm e)
      have ih := unlisted_set r hn.2 hi' hlt hf
      rw [List.filter_cons, List.filter_cons, other j e]
      split
      · simp only [List.length_cons]; omega
      · exact ih
theorem draw_run (hF : WideF F) (hev : EvOk P ev) (hD : DReg P keep all l) (hW : DWr all l) {last : List DR} (hlast : stageOps keep nt all.toList (wsOf l) (wsOf l).length l = some last) {Q : Exit → Act → World → Prop}
    (hQ : ∀ ρ' a' w', x' = .normal → EnvOk keep nt ρ' tm' a' → a'.defers = a0.defers → Rel P ρ' s' w' → Stp ρ0 s0 w0 ρ' s' w' → Q .normal a' w') :
    ∀ (fuel : Nat) (listed : Array Bool) (D : Nat → Prop) (B : Nat → Nat → Prop) (ρ : Ren) (cs : List Chk) (lo : Lo) (tm : T Value) (S : AS) (a : Act) (w : World) (done todo : List DOp),
      listed.size = all.size → (∀ i, D i ↔ listed.getD i false = true) → (∀ y ∈ l, D y.i → ∀ j, bitOf y.m j = true → D j) → ((List.range all.size).filter (fun i => !listed.getD i true)).length ≤ fuel →
      wsOf l = done ++ todo → (∀ y ∈ done, D y.i) → (∀ y ∈ todo, ¬ D y.i) → St P keep nt all l E0 ρ0 s0 w0 a0 (Xs l done.length l.length) D B ρ cs lo tm S a w → chksOk done.length S cs = true →
      Cont P keep nt all l ev last todo done.length cs lo tm S (.code x' tm' s') → wpAnyIn F 0 P .any all Q fuel listed a w := by
  intro fuel
  induction fuel with
  | zero =>
    intro listed D B ρ cs lo tm S a w done todo hsz hDl hdown hfuel hsplit hdone htodo h hchk hcont
    have hall : ∀ i, i < all.size → listed.getD i true = true := fun i hi => by
      cases hb : listed.getD i true with
      | true => rfl
      | false =>
        have hm : i ∈ (List.range all.size).filter (fun i => !listed.getD i true) := List.mem_filter.2 ⟨List.mem_range.2 hi, by rw [hb]; rfl⟩
        have := List.length_pos_of_mem hm
        omega
    have hr : Region.ready .any all listed = [] := by
      rw [List.eq_nil_iff_forall_not_mem]
      intro i hi
      obtain ⟨h1, h2, _⟩ := ready_iff.1 hi
      rw [hall i h1] at h2; cases h2
    refine ⟨hr, ?_⟩
    have hDall : ∀ y ∈ l, D y.i := fun y hy => by
      have hlt : y.i < all.size := by rw [← hD.len]; exact (List.getElem?_eq_some_iff.1 (hD.mem hy)).1
      have := hall y.i hlt
      rw [hDl, Array.getD_eq_getD_getElem?]
      rw [Array.getD_eq_getD_getElem?] at this
      rw [Array.getElem?_eq_getElem (by omega)] at this ⊢
      exact this
    have htn : todo = [] := by
      cases todo with
      | nil => rfl
      | cons z rest => exact (htodo z (by simp) (hDall z ((mem_ws (l := l)).1 (by rw [hsplit]; simp)).1)).elim
    subst htn
    have hcont : kEnd lo tm S = .code x' tm' s' := hcont
    cases hcont
    refine hQ ρ a w rfl ⟨h.sz, h.tk, fun t v hv => ?_⟩ h.df h.rel h.stp
    have hg : envget keep lo tm' t = some v := by unfold envget; rw [h.tk t v hv]; exact hv
    by_cases hex : ∃ y ∈ l, y.o.dst = some t
    · obtain ⟨y, hy, hyd⟩ := hex
      obtain ⟨v', u, e1, e2, e3⟩ := h.md y hy (hDall y hy) t hyd
      rw [hg] at e1; cases e1
      exact ⟨u, e2, e3⟩
    · rw [h.env0 t fun y hy _ hyd => hex ⟨y, hy, hyd⟩] at hg
      obtain ⟨u, e1, e2⟩ := h.e0 t v hg
      exact ⟨u, by rw [h.m0 t fun y hy _ hyd => hex ⟨y, hy, hyd⟩]; exact e1, e2⟩
  | succ fuel ih =>
    intro listed D B ρ cs lo tm S a w done todo hsz hDl hdown hfuel hsplit hdone htodo h hchk hcont
    refine ⟨fun hr => ?_, fun i hi => ?_⟩
    · -- nothing is ready: all has been carried out
      have hDall : ∀ n, ∀ y ∈ l, y.i = n → D y.i := by
        intro n
        induction n using Nat.strongRecOn with
        | _ n ihn =>
          intro y hy hyn
          by_cases hb : D y.i
          · exact hb
          exfalso
          have hlt : y.i < all.size := by rw [← hD.len]; exact (List.getElem?_eq_some_iff.1 (hD.mem hy)).1
          have hmem : y.i ∈ Region.ready .any all listed := ready_iff.2 ⟨hlt, by
              have : ¬ listed.getD y.i false = true := fun e => hb ((hDl _).2 e)
              rw [Array.getD_eq_getD_getElem?, Array.getElem?_eq_getElem (by omega)] at this ⊢
              simpa using this, y.o, hD.op y hy, fun e he hbe => by
              have hlt' := hD.below y hy _ (hD.dir y hy e he hbe)
              have hel : e.on < l.length := by have := (List.getElem?_eq_some_iff.1 (hD.mem hy)).1; omega
              have hz := hD.at_ e.on l[e.on] (by simp [hel])
              have := ihn e.on (by omega) l[e.on] (by simp) hz
              rw [hz] at this
              exact (hDl _).1 this⟩
          rw [hr] at hmem; cases hmem
      have hDall : ∀ y ∈ l, D y.i := fun y hy => hDall y.i y hy rfl
      have htn : todo = [] := by
        cases todo with
        | nil => rfl
        | cons z rest => exact (htodo z (by simp) (hDall z ((mem_ws (l := l)).1 (by rw [hsplit]; simp)).1)).elim
      subst htn
      have hcont : kEnd lo tm S = .code x' tm' s' := hcont
      cases hcont
      refine hQ ρ a w rfl ⟨h.sz, h.tk, fun t v hv => ?_⟩ h.df h.rel h.stp
      have hg : envget keep lo tm' t = some v := by unfold envget; rw [h.tk t v hv]; exact hv
      by_cases hex : ∃ y ∈ l, y.o.dst = some t
      · obtain ⟨y, hy, hyd⟩ := hex
        obtain ⟨v', u, e1, e2, e3⟩ := h.md y hy (hDall y hy) t hyd
        rw [hg] at e1; cases e1
        exact ⟨u, e2, e3⟩
      · rw [h.env0 t fun y hy _ hyd => hex ⟨y, hy, hyd⟩] at hg
        obtain ⟨u, e1, e2⟩ := h.e0 t v hg
        exact ⟨u, by rw [h.m0 t fun y hy _ hyd => hex ⟨y, hy, hyd⟩]; exact e1, e2⟩
    · obtain ⟨hlt, hnl, o, ho, hafter⟩ := ready_iff.1 hi
      obtain ⟨x, hx, rfl, rfl⟩ := hD.ofOp ho
      have hlsz : x.i < listed.size := by omega
      have hxD : ¬ D x.i := fun e => by
        have := (hDl _).1 e
        rw [Array.getD_eq_getD_getElem?, Array.getElem?_eq_getElem hlsz] at this hnl
        simp only [Option.getD_some] at this hnl
        rw [hnl] at this; cases this
      have hpre : ∀ j, bitOf x.m j = true → D j := fun j hj => by
        obtain ⟨e, he, hb, h1 | ⟨y, hy, hye, hyj⟩⟩ := hD.back x hx j hj
        · rw [← h1]; exact (hDl _).2 (hafter e he hb)
        · exact hdown y hy (by rw [hye]; exact (hDl _).2 (hafter e he hb)) j hyj
      -- what is listed behind it
      have hsz' : (listed.setIfInBounds x.i true).size = all.size := by simpa using hsz
      have hDl' : ∀ i, (D i ∨ i = x.i) ↔ (listed.setIfInBounds x.i true).getD i false = true := fun i => by
        rw [Array.getD_eq_getD_getElem?]
        by_cases e : i = x.i
        · subst e
          rw [Array.getElem?_setIfInBounds_self_of_lt hlsz]; simp
        · rw [Array.getElem?_setIfInBounds_ne (Ne.symm e), ← Array.getD_eq_getD_getElem?, ← hDl]
          simp [e]
      have hdown' : ∀ y ∈ l, (D y.i ∨ y.i = x.i) → ∀ j, bitOf y.m j = true → (D j ∨ j = x.i) := fun y hy hyD j hj => by
        rcases hyD with hyD | hyD
        · exact .inl (hdown y hy hyD j hj)
        · rw [hD.inj hy hx hyD] at hj
          exact .inl (hpre j hj)
      have hfuel' : ((List.range all.size).filter (fun i => !(listed.setIfInBounds x.i true).getD i true)).length ≤ fuel := by
        have := unlisted_set (listed := listed) (i := x.i) (List.range all.size) List.nodup_range (List.mem_range.2 hlt) hlsz hnl
        omega
      have hcntD : cnt (fun i => listed.getD i false) (wsOf l) = done.length := by
        rw [hsplit, cnt_append, cnt_all (fun y hy => (hDl _).1 (hdone y hy)), cnt_none (fun y hy => by
          cases hb : listed.getD y.i false with
          | false => rfl
          | true => exact (htodo y hy ((hDl _).2 hb)).elim), Nat.add_zero]
      have hlev : lev l x ≤ done.length := by
        unfold lev
        rw [level_cnt, ← hcntD]
        exact cnt_le fun y _ hb => (hDl _).1 (hpre _ hb)
      cases hxw : isW x.r with
      | false =>
        have hxX : Xs l done.length l.length x := by
          rcases Nat.lt_or_eq_of_le hlev with h' | h'
          · exact .inl h'
          · exact .inr ⟨h', hxw, (List.getElem?_eq_some_iff.1 (hD.mem hx)).1⟩
        have hhi : done.length ≤ highest x.i (wsOf l) := by
          rw [← hcntD]
          refine cnt_high fun y hy hyD => ?_
          cases hb : bitOf y.m x.i with
          | false => rfl
          | true => exact (hxD (hdown y (mem_ws.1 hy).1 ((hDl _).2 hyD) _ hb)).elim
        refine model_op hF hD hW h hchk hdown hx hxw hxX hxD hpre hhi (fun ρ' a' w' h' => ?_)
        refine ih _ _ B ρ' cs lo tm S a' w' done todo hsz' hDl' hdown' hfuel' hsplit (fun y hy => .inl (hdone y hy)) (fun y hy hyD => ?_) h' hchk hcont
        rcases hyD with hyD | hyD
        · exact htodo y hy hyD
        · have hyw := (mem_ws (l := l)).1 (show y ∈ wsOf l by rw [hsplit]; simp [hy])
          rw [hD.inj hyw.1 hx hyD, hxw] at hyw
          cases hyw.2
      | true =>
        have hxws : x ∈ wsOf l := mem_ws.2 ⟨hx, hxw⟩
        have hxtodo : x ∈ todo := by
          rw [hsplit, List.mem_append] at hxws
          exact hxws.resolve_left fun e => hxD (hdone x e)
        have hsorted := hW.sorted
        rw [hsplit, List.pairwise_append] at hsorted
        obtain ⟨hs1, hs2, hs3⟩ := hsorted
        cases todo with
        | nil => cases hxtodo
        | cons z rest =>
          have hzws : z ∈ wsOf l := by rw [hsplit]; simp
          have hzx : z = x := by
            rcases List.mem_cons.1 hxtodo with e | e
            · exact e.symm
            · rw [List.pairwise_cons] at hs2
              have hlt := hs2.1 x e
              exact (htodo z (by simp) (hpre _ (hW.chain z hzws x hxws hlt))).elim
          subst hzx
          have hn : lev l z = done.length := by
            unfold lev
            rw [level_cnt, hsplit, cnt_append, cnt_all (fun y hy => hW.chain y (by rw [hsplit]; simp [hy]) z hzws (hs3 y hy z (by simp))), cnt_none (fun y hy => ?_), Nat.add_zero]
            cases hb : bitOf z.m y.i with
            | false => rfl
            | true =>
              have h1 := hD.below z hx _ hb
              rw [List.pairwise_cons] at hs2
              rcases List.mem_cons.1 hy with rfl | hy
              · omega
              · have := hs2.1 y hy; omega
          have huniq : ∀ y ∈ l, isW y.r = true → lev l y = done.length → y = z := fun y hy hyw hyl => by
            have hyws := mem_ws.2 ⟨hy, hyw⟩
            rcases Nat.lt_trichotomy y.i z.i with e | e | e
            · rcases bef_pred hD hx hy (hW.chain y hyws z hzws e) with h' | ⟨_, h', _⟩
              · omega
              · rw [hyw] at h'; cases h'
            · exact hD.inj hy hx e
            · rcases bef_pred hD hy hx (hW.chain z hzws y hyws e) with h' | ⟨_, h', _⟩
              · omega
              · rw [hxw] at h'; cases h'
          obtain ⟨d, cw, sts, hd, hcw, hsts, hrun⟩ := hcont
          have ht : ∀ t, (∀ y ∈ l, y.o.dst = some t → Bef l y z → envget keep lo tm t = envget keep lo tm t) ∧ ((∀ y ∈ l, y.o.dst = some t → ¬ Bef l y z) → envget keep lo tm t = E0 t) := fun t =>
            ⟨fun _ _ _ _ => rfl, fun hb => h.env0 t fun y hy hyX hyd => hb y hy hyd (by
              rcases hyX with h' | ⟨h1, h2, _⟩
              · left; omega
              · right; exact ⟨by omega, h2, .inl hxw⟩)⟩
          have huse : ∀ t ∈ usesOf all.toList z.o, ∀ v, envget keep lo tm t = some v → VRel ρ v (a.eval (.tmp t)) := fun t hu v hv => h.use hD hW hdown hx hxD hpre ht hu hv
          have hops := opsRel_of huse
          have next : ∀ {ρ' : Ren} {v u : Value} {s1 : AS} {w1 : World}, putD d v (runStages ev sts last kEnd (done.length + 1) cs) lo tm s1 = .code x' tm' s' → VRel ρ' v u → Rel P ρ' s1 w1 → Stp ρ S w ρ' s1 w1 →
              wpAnyIn F 0 P .any all Q fuel (listed.setIfInBounds z.i true) (a.put z.o.dst u) w1 := by
            intro ρ' v u s1 w1 hp hv hR1 hS1
            obtain ⟨lo1, tm1, hk1, henv, htk, hnt⟩ := putD_env hd h.tk hp
            have h1 := h.wrote hD hW hx hxw hn huniq henv htk hnt hv hR1 hS1
            have hlen : done.length + 1 + rest.length = (wsOf l).length := by rw [hsplit]; simp; omega
            obtain ⟨B2, cs2, lo2, tm2, S2, h2, hchk2, hcont2⟩ := stage_run hD hW hsts hlast hlen h1 hk1
            refine ih _ _ B2 ρ' cs2 lo2 tm2 S2 _ w1 (done ++ [z]) rest hsz' hDl' hdown' hfuel' (by rw [hsplit]; simp) (fun y hy => ?_) (fun y hy hyD => ?_) (by simpa using h2) (by simpa using hchk2) (by simpa using hcont2)
            · rcases List.mem_append.1 hy with hy | hy
              · exact .inl (hdone y hy)
              · simp only [List.mem_singleton] at hy; rw [hy]; exact .inr rfl
            · rcases hyD with hyD | hyD
              · exact htodo y (by simp [hy]) hyD
              · rw [List.pairwise_cons] at hs2
                have := hs2.1 y hy
                omega
          unfold wpOpIn
          rw [hD.op z hx]
          simp only
          rcases withGuard_some hcw with ⟨hg, rfl⟩ | ⟨j, want, g, hg, hgo, rfl⟩
          · have hw : Region.wanted z.o (yielded all a.tmps) = true := by unfold Region.wanted; rw [hg]
            rw [if_pos hw]
            exact ci_fin hF hev (hD.rd z hx) hrun hops h.rel next
          · have hrun' : ifO (wantO want (g lo tm)) (runCI ev (ciOf z.r d) (runStages ev sts last kEnd (done.length + 1) cs) lo tm S) (putD d (.tuple #[]) (runStages ev sts last kEnd (done.length + 1) cs) lo tm S) = .code x' tm' s' := hrun
            obtain ⟨y, hy, hrun'⟩ := ifO_code hrun'
            have hw := wantO_ok (ρ := ρ) (al := []) (fun d g v ⟨o', ho', hd'⟩ hm hv => by
              rw [mkOp_tmp hm] at hv
              exact huse d (uses_guard hg ho' hd') v hv) hg hgo hy
            cases y with
            | true => rw [if_pos hw]; exact ci_fin hF hev (hD.rd z hx) hrun' hops h.rel next
            | false =>
              rw [if_neg (by rw [hw]; simp)]
              exact ⟨fun f _ => hF.fn f, next hrun' (.tuple .nil) h.rel (.refl _ _ _)⟩
end
theorem draw_ok {keep nt id : Nat} {ops : Array Oper} {f : CF} (hm : P.follows .mixedOrders = true) (h : mkDraw P keep nt ops.toList (fun st last => some (fDraw st last)) = some f) : CFOk P keep nt (.region id ops true) f := by
  have h : (ob (masks ops.toList []) fun ms => ob (dops P keep ops.toList 0 ms) fun l =>
    bif' (chainOk (wsOf l) none) (bif' (pairsOk ops.toList l)
      (ob (stages keep nt ops.toList (wsOf l) l (wsOf l) 0) fun st => ob (stageOps keep nt ops.toList (wsOf l) (len (wsOf l)) l) fun last => some (fDraw st last)) none) none) = some f := h
  obtain ⟨ms, hms, h⟩ := ob_some h
  obtain ⟨l, hl, h⟩ := ob_some h
  obtain ⟨hch, h⟩ := bif'_some h
  obtain ⟨hpa, h⟩ := bif'_some h
  obtain ⟨st, hst, h⟩ := ob_some h
  obtain ⟨last, hlast, h⟩ := ob_some h
  cases h
  have hD := dreg_of hms hl
  have hW := dwr_of hD hch hpa
  rw [len_eq] at hlast
  intro ev hev F hF ρ tm s a w x tm' s' hr hE n0 hn0 hM hL hR Q hQ
  have hr : runStages ev st last kEnd 0 [] .nil tm s = .code x tm' s' := hr
  refine wpIn_region_any hm ?_
  have hR' : Rel P ρ s { w with drawn := w.drawn + 1 } := hR.of_heap rfl
  have h0 : St P keep nt ops l (envget keep .nil tm) ρ s w a (Xs l 0 0) (fun _ => False) (fun _ _ => False) ρ [] .nil tm s a { w with drawn := w.drawn + 1 } := by
    refine ⟨hE.tk, fun t _ => rfl, fun y _ hX _ _ => ?_, fun _ _ h => h.elim, fun _ _ _ h => h.elim, fun _ _ h => h.elim, fun _ _ h => h.elim, fun _ _ => rfl, fun t v hv => ?_, hR', .of_heap rfl rfl rfl rfl, rfl, hE.size⟩
    · rcases hX with h | ⟨_, _, h⟩ <;> omega
    · unfold envget at hv
      rw [bif'_eq] at hv
      split at hv
      · exact hE.env t v hv
      · cases hv
  obtain ⟨B1, cs1, lo1, tm1, S1, h1, hchk, hcont⟩ := stage_run hD hW hst hlast (by simp) h0 hr
  refine draw_run hF hev hD hW hlast (fun ρ' a' w' hx hE' hd hR2 hS2 => ?_) ops.size (Array.replicate ops.size false) _ B1 ρ cs1 lo1 tm1 S1 a _ [] (wsOf l) (by simp) (fun i => ?_) (fun _ _ h => h.elim) ?_ rfl (fun _ h => by cases h) (fun _ _ h => h) h1 hchk hcont
  · subst hx
    exact hQ ρ' a' w' hE' (by rw [hd]; exact hM.step hS2) hR2 hS2
  · rw [Array.getD_eq_getD_getElem?, Array.getElem?_replicate]
    constructor
    · exact fun h => h.elim
    · intro h
      split at h <;> cases h
  · exact Nat.le_trans (List.length_filter_le _ _) (by simp)
end Go.Eng
/-! Ranges over functions. -/
namespace Go.Eng
open Go
variable {P : Program}
/-- no function of a name that the machine knows. -/
def Plainly (P : Program) : Prop := ∀ (f : Nat) (fn : Func), P.funcs[f]? = some fn → (fn.name == "runtime.NumGoroutine") = false
theorem Rel.extend {ρ : Ren} {s : AS} {w w' : World} {o : Obj} (h : Rel P ρ s w) (hh : w'.heap = w.heap.push o) : Rel P ρ s w' :=
  ⟨h.dom, h.top, fun a k x e e' => let ⟨h1, h2⟩ := h.blk a k x e e'; ⟨by rw [hh, Array.size_push]; omega, h2.congr (by rw [hh, Array.getElem?_push, if_neg (Nat.ne_of_lt h1)])⟩, h.lim, h.excl⟩
theorem Stp.extend {ρ : Ren} {s : AS} {w w' : World} {o : Obj} (hr : Rel P ρ s w) (hh : w'.heap = w.heap.push o) (ht : w'.tape = w.tape) (ho : w'.os = w.os) (hu : w'.output = w.output) : Stp ρ s w ρ s w' :=
  ⟨fun _ _ => rfl, Nat.le_refl _, ht, ho, hu, by rw [hh, Array.size_push]; omega, fun b hb h => ⟨by rw [hh, Array.getElem?_push, if_neg (Nat.ne_of_lt hb)], h⟩, fun _ _ _ => .inl rfl,
    fun b r h => ⟨r, by rw [hh, Array.getElem?_push, if_neg (Nat.ne_of_lt (Array.getElem?_eq_some_iff.1 h).1)]; exact h⟩, rfl, fun _ _ => rfl, fun a k x _ _ hk _ hx => by rw [hh, Array.getElem?_push, if_neg (Nat.ne_of_lt (hr.blk a k x hk hx).1)]⟩
theorem held_lt {ρ : Ren} {s : AS} {w : World} {b : Nat} (h : Rel P ρ s w) (hb : Held ρ s b) : b < w.heap.size := by
  obtain ⟨a, k, x, e, e', rfl⟩ := hb
  exact (h.blk a k x e e').1
/-- the loop's record. -/
def recOf (fn : FuncId) (tmps : Array Value) (ps : List Tmp) (as bd : Code) (r : Nat) : Loop := { state := .ready, pending := none, fn, tmps, params := ps.toArray, assign := as, body := bd, defers := r }
theorem loop_new {ρ : Ren} {s s1 : AS} {w w1 : World} {keep nt fn : Nat} {tm : T Value} {a : Act} {ps : List Tmp} {as bd : Code} {fn' r : Nat} (hR : Rel P ρ s w) (hE : EnvOk keep nt ρ tm a) (hps : ∀ p ∈ ps, p < nt) (hs : s.new (.loop .ready none fn nt keep tm ps as bd) = some s1)
    (hh : w1.heap = w.heap.push (.loop (recOf fn' a.tmps ps as bd r))) (ht : w1.tape = w.tape) (ho : w1.os = w.os) (hu : w1.output = w.output) : Rel P (ρ.put s.nx ⟨w.heap.size, 0, 0⟩) s1 w1 ∧ Stp ρ s w (ρ.put s.nx ⟨w.heap.size, 0, 0⟩) s1 w1 := by
  refine Rel.alloc hR hs rfl (by rw [hh, Array.size_push]) (fun b hb => by rw [hh, Array.getElem?_push, if_neg (Nat.ne_of_lt hb)]) ht ho hu ⟨a.tmps, fn', r, ?_, hE.env.mono (put_le (hR.dom _ (Nat.le_refl _)) _), hE.tk, hE.size, hps⟩
  show w1.heap[w.heap.size]? = _
  rw [hh, Array.getElem?_push, if_pos rfl]; rfl
theorem enterLoop_ok {F : Fence} {ρ : Ren} {s s1 : AS} {w : World} {keep nt fn n0 : Nat} {tm : T Value} {a : Act} {ps : Array Tmp} {as bd : Code} {fn' : FuncId} (hR : Rel P ρ s w) (hE : EnvOk keep nt ρ tm a) (hn0 : n0 ≤ w.heap.size) (hM : Marks n0 ρ s w a.defers)
    (hL : ∀ l, F.round = some l → ∃ r, w.heap[l]? = some (Obj.loop r)) (hps : ∀ p ∈ ps.toList, p < nt) (hs : s.new (.loop .ready none fn nt keep tm ps.toList as bd) = some s1) :
    ∃ l mark w1 ρ1, (Instr.enterLoop fn' a.tmps ps as bd F.round).run P w = .ok (l, mark) w1 ∧ ρ1 s.nx = some ⟨l, 0, 0⟩ ∧ Rel P ρ1 s1 w1 ∧ Stp ρ s w ρ1 s1 w1 ∧ Marks n0 ρ1 s1 w1 (mark ++ a.defers) := by
  cases hro : F.round with
  | some l0 =>
    obtain ⟨r0, hr0⟩ := hL l0 hro
    have hrun : (Instr.enterLoop fn' a.tmps ps as bd (some l0)).run P w = .ok (w.heap.size, []) (w.alloc (.loop (recOf fn' a.tmps ps.toList as bd r0.defers))) := by
      simp only [Instr.enterLoop, Instr.getLoop, Sem.run_bind, run_getObj_loop hr0, Result.andThen_ok, Sem.run_pure, run_newObj_alloc]
      rfl
    obtain ⟨h1, h2⟩ := loop_new (w1 := w.alloc (.loop (recOf fn' a.tmps ps.toList as bd r0.defers))) hR hE hps hs rfl rfl rfl rfl
    exact ⟨_, _, _, _, hrun, put_self _ _ _, h1, h2, by simpa using hM.step h2⟩
  | none =>
    let wA := w.alloc (.deferred (some []))
    have hA : wA.heap = w.heap.push (.deferred (some [])) := rfl
    have hRA : Rel P ρ s wA := hR.extend hA
    have hSA : Stp ρ s w ρ s wA := .extend hR hA rfl rfl rfl
    have hrun : (Instr.enterLoop fn' a.tmps ps as bd none).run P w = .ok (wA.heap.size, [{ target := .collected w.heap.size, args := #[] }]) (wA.alloc (.loop (recOf fn' a.tmps ps.toList as bd w.heap.size))) := by
      simp only [Instr.enterLoop, Sem.run_bind, Result.andThen_ok, Sem.run_pure, run_newObj_alloc]
      rfl
    obtain ⟨h1, h2⟩ := loop_new (w1 := wA.alloc (.loop (recOf fn' a.tmps ps.toList as bd w.heap.size))) hRA hE hps hs rfl rfl rfl rfl
    have hM1 : Marks n0 ρ s wA ([{ target := .collected w.heap.size, args := #[] }] ++ a.defers) := by
      have hMA := hM.step hSA
      refine ⟨fun d hd => ?_, ?_⟩
      · rcases List.mem_cons.1 hd with rfl | hd
        · exact ⟨w.heap.size, rfl, by rw [hA, Array.getElem?_push, if_pos rfl], by rw [hA, Array.size_push]; omega, fun hh => Nat.lt_irrefl _ (held_lt hR hh), hn0⟩
        · exact hMA.each d hd
      · refine List.pairwise_cons.2 ⟨fun d hd r hr hr' => ?_, hMA.apart⟩
        obtain ⟨r1, e1, _, e3, _⟩ := hM.each d hd
        cases hr
        rw [e1] at hr'
        injection hr' with hr'
        omega
    exact ⟨_, _, _, _, hrun, put_self _ _ _, h1, hSA.trans h2, hM1.step h2⟩
theorem hasBody_some {v : Value} (h : hasBody P v = true) : ∃ f a b fn c, v = .func (.func f) a b ∧ P.funcs[f]? = some fn ∧ fn.body = some c := by
  unfold hasBody at h
  split at h
  · rename_i f a b
    split at h
    · rename_i fn hf
      split at h
      · rename_i c hc
        exact ⟨f, a, b, fn, c, rfl, hf, hc⟩
      · cases h
    · cases h
  · cases h
theorem callFunc_body (hP : Plainly P) {f : Nat} {fn : Func} {c : Code} (hf : P.funcs[f]? = some fn) (hb : fn.body = some c) (args : Array Value) (w : World) : (callFunc f args).run P w = .ok (.enter f args) w := by
  unfold callFunc
  have hpr : Sem.run P program w = .ok P w := rfl
  simp only [Sem.run_bind, hpr, Result.andThen_ok, hf, hP f fn hf, Bool.false_eq_true, if_false, hb, Option.isNone_some, Sem.run_pure]
theorem loopOf_some {b : Option Blk} {k : LoopState → Option Code → Nat → Nat → Nat → T Value → List Tmp → Code → Code → Out} {o : Out} (h : loopOf b k = o) (ho : o ≠ .no) : ∃ st pend fn nt kp tm ps as bd, b = some (.loop st pend fn nt kp tm ps as bd) ∧ k st pend fn nt kp tm ps as bd = o := by
  cases b with
  | none => exact (ho h.symm).elim
  | some b => cases b <;> first | exact (ho h.symm).elim | exact ⟨_, _, _, _, _, _, _, _, _, rfl, h⟩
theorem setOut_some {s : AS} {i : Nat} {b : Blk} {k : AS → Out} {o : Out} (h : setOut s i b k = o) (ho : o ≠ .no) : ∃ s', s.set i (some b) = some s' ∧ k s' = o := by
  have h : Option.rec (motive := fun _ => Out) .no k (s.set i (some b)) = o := h
  cases hs : s.set i (some b) with
  | none => rw [hs] at h; exact (ho h.symm).elim
  | some s' => rw [hs] at h; exact ⟨s', rfl, h⟩
/-- a loop's record is written. -/
theorem loop_set {ρ : Ren} {s s' : AS} {w : World} {l : Nat} {x : Loc} {st st' : LoopState} {pend pend' : Option Code} {fn nt kp : Nat} {tm : T Value} {ps : List Tmp} {as bd : Code} (hR : Rel P ρ s w) (hx : ρ l = some x)
    (hk : s.h.get l = some (.loop st pend fn nt kp tm ps as bd)) (hs : s.set l (some (.loop st' pend' fn nt kp tm ps as bd)) = some s') :
    ∃ r : Loop, w.heap[x.b]? = some (.loop r) ∧ r.state = st ∧ r.pending = pend ∧ r.params = ps.toArray ∧ r.assign = as ∧ r.body = bd ∧ EnvT ρ tm r.tmps ∧ (∀ t v, tm.get t = some v → kept kp t = true) ∧ nt ≤ r.tmps.size ∧ (∀ p ∈ ps, p < nt) ∧
      Rel P ρ s' (w.putObj x.b (.loop { r with state := st', pending := pend' })) ∧ Stp ρ s w ρ s' (w.putObj x.b (.loop { r with state := st', pending := pend' })) := by
  obtain ⟨hlt, tmps, fn', d, hh, h1, h2, h3, h4⟩ := hR.blk l _ x hk hx
  refine ⟨_, hh, rfl, rfl, rfl, rfl, rfl, h1, h2, h3, h4, ?_⟩
  exact Rel.setObj hR hs hk rfl hx (fun w' hw' => ⟨tmps, fn', d, hw', h1, h2, h3, h4⟩) (fun _ => rfl)
theorem run_endLoop {l : Nat} {r : Loop} {w : World} (h : w.heap[l]? = some (.loop r)) (hb : r.state ≠ .busy) : (Instr.endLoop l).run P w = .ok r.pending (w.putObj l (.loop { r with state := .exhausted })) := by
  have : (r.state == .busy) = false := by cases hs : r.state <;> first | rfl | exact (hb hs).elim
  simp only [Instr.endLoop, Instr.getLoop, Sem.run_bind, run_getObj_loop h, Result.andThen_ok, Sem.run_pure, this, Bool.false_eq_true, if_false, run_setObj_loop _ h]
theorem rangeFunc_ok {keep nt fn : Nat} (hP : Plainly P) {g : Operand} {fo : Opd} {ps : Array Tmp} {as bd : Code} (hg : mkOp keep [] g = some fo) (hps : ∀ p ∈ ps.toList, p < nt) :
    CFOk P keep nt (.rangeFunc g ps as bd) (fRangeFunc P fn nt keep fo ps.toList as bd) := fun ev hev F hF ρ tm s a w e tm' s' h hE n0 hn0 hM hL hR Q hQ => by
  have h : Option.rec (motive := fun _ => Out) .no (fun fv => bif' (hasBody P fv) (Option.rec (motive := fun _ => Out) .no
    (fun s1 => afterLoop s.nx tm (ev fv [.func (.yield s.nx) #[] #[]] s1)) (s.new (.loop .ready none fn nt keep tm ps.toList as bd))) .no) (fo .nil tm) = .code e tm' s' := h
  cases hv : fo .nil tm with
  | none => rw [hv] at h; cases h
  | some fv =>
    rw [hv] at h
    have h : bif' (hasBody P fv) (Option.rec (motive := fun _ => Out) .no
      (fun s1 => afterLoop s.nx tm (ev fv [.func (.yield s.nx) #[] #[]] s1)) (s.new (.loop .ready none fn nt keep tm ps.toList as bd))) .no = .code e tm' s' := h
    cases hb : hasBody P fv with
    | false => rw [hb] at h; cases h
    | true =>
      rw [hb, bif'_true] at h
      obtain ⟨fi, fa, fb, fnc, c, rfl, hfi, hbody⟩ := hasBody_some hb
      cases hs : s.new (.loop .ready none fn nt keep tm ps.toList as bd) with
      | none => rw [hs] at h; cases h
      | some s1 =>
        rw [hs] at h
        have h : afterLoop s.nx tm (ev (.func (.func fi) fa fb) [.func (.yield s.nx) #[] #[]] s1) = .code e tm' s' := h
        cases ho : ev (.func (.func fi) fa fb) [.func (.yield s.nx) #[] #[]] s1 with
        | no => rw [ho] at h; cases h
        | code => rw [ho] at h; cases h
        | val v s2 =>
          rw [ho] at h
          have hfv := hE.inv.ops (ops := #[g]) _ _ _ (by simp) hg hv
          generalize hge : a.eval g = gv at hfv
          cases hfv with | @func _ _ _ fa' fb' hfa hfb => ?_
          refine wpIn_rangeFunc (fun fn' _ => ?_)
          obtain ⟨l, mark, w1, ρ1, hent, hl, hR1, hS1, hM1⟩ := enterLoop_ok (F := F) (fn' := fn') hR hE hn0 hM hL hps hs
          have hle1 := hS1.le hR
          have hcall := hev _ _ _ _ _ ho ρ1 w1 (.func (.func fi) fa' fb') [.func (.yield l) #[] #[]] hR1 (.func fi (hfa.mono hle1) (hfb.mono hle1)) (.cons (.yield (x := ⟨l, 0, 0⟩) hl .nil .nil) .nil)
          have hrun : ∀ args, (invoke (.fn (.func fi) fb') args).run P w1 = .ok (.enter fi (args ++ fb')) w1 := fun args => callFunc_body hP hfi hbody _ w1
          have hcr : (callOf (.func (.func fi) fa' fb') [.func (.yield l) #[] #[]]).run P w1 = .ok (.enter fi (fa' ++ #[.func (.yield l) #[] #[]] ++ fb')) w1 := by
            unfold callOf
            simp only [Deferred.ofValue, pure_bind, hrun]
          unfold CallRun at hcall
          rw [hcr] at hcall
          refine ⟨l, mark, w1, { target := .fn (.func fi) fb', args := fa' ++ #[.func (.yield l) #[] #[]] }, w1, fi, _, w1, hent, ?_, fun f' _ => hF.fn f', hrun _, fun hd => (by rw [hF.depth] at hd; cases hd), CallsIn.mono (CallsIn.wideF hF hcall) ?_⟩
          · unfold resolve
            have hm : Array.map a.eval #[Operand.const (.func (.yield l) #[] #[])] = #[.func (.yield l) #[] #[]] := by simp [Act.eval]
            simp only [hge, Deferred.ofValue, hm, Sem.run_pure]
          rintro e3 w3 ⟨u, rfl, ρ2, h1, hR2, hS2⟩
          have hS02 := hS1.trans hS2
          -- the loop's record, behind the call
          have h : loopOf (s2.h.get s.nx) (fun st pend fn' nt' kp' tm' ps' as' bd' =>
            match st with
            | .busy => .no
            | _ => setOut s2 s.nx (.loop .exhausted pend fn' nt' kp' tm' ps' as' bd') fun s3 => match pend with
              | none => .code .normal tm s3
              | some c => pendOut c tm s3) = .code e tm' s' := h
          obtain ⟨st, pend, fn2, nt2, kp2, tm2, ps2, as2, bd2, hblk, h⟩ := loopOf_some h (by simp)
          have hl2 : ρ2 s.nx = some ⟨l, 0, 0⟩ := by rw [hS2.ren _ (by have := (AS.new_eq hs).1; omega)]; exact hl
          have h : st ≠ .busy ∧ (setOut s2 s.nx (.loop .exhausted pend fn2 nt2 kp2 tm2 ps2 as2 bd2) fun s3 => match (generalizing := false) pend with
              | none => .code .normal tm s3
              | some c => pendOut c tm s3) = .code e tm' s' := by
            cases st <;> first | (cases h; done) | exact ⟨by simp, h⟩
          obtain ⟨hnb, h⟩ := h
          obtain ⟨s3, hs3, h⟩ := setOut_some h (by simp)
          obtain ⟨r, hr, rst, rpend, _, _, _, _, _, _, _, hR3, hS3⟩ := loop_set hR2 hl2 hblk hs3
          refine ⟨r.pending, _, run_endLoop hr (by rw [rst]; exact hnb), ?_⟩
          have hrr : ({ r with state := LoopState.exhausted } : Loop) = { r with state := LoopState.exhausted, pending := pend } := by rw [← rpend]
          rw [hrr]
          have hS03 := hS02.trans hS3
          have fin : ∀ x, Out.code x tm s3 = .code e tm' s' → Q (toExit x) { a with defers := mark ++ a.defers } (w3.putObj l (.loop { r with state := .exhausted, pending := pend })) := fun x hx => by
            cases hx
            exact hQ ρ2 _ _ ⟨hE.size, hE.tk, hE.env.mono (hS02.le hR)⟩ ((hM1.step hS2).step hS3) hR3 hS03
          rw [rpend]
          cases pend with
          | none => exact fin .normal h
          | some c2 =>
            have h : pendOut c2 tm s3 = .code e tm' s' := h
            unfold pendOut at h
            split at h
            · exact wpIn_ret (fin .ret h)
            · exact wpIn_exit (fin (.exit _) h)
            · cases h
end Go.Eng
/-! Loops over maps. -/
namespace Go.Eng
open Go
variable {P : Program}
mutual
theorem plain_refl {ρ : Ren} : ∀ {v : Value}, Plain v → VRel ρ v v
  | _, .bool b => .bool b
  | _, .int k n => .int k n
  | _, .string s => .string s
  | _, .agg a h => .agg (plain_refls a.toList h)
theorem plain_refls {ρ : Ren} : ∀ (l : List Value), (∀ v ∈ l, Plain v) → VRels ρ l l
  | [], _ => .nil
  | v :: l, h => .cons (plain_refl (h v (by simp))) (plain_refls l fun u hu => h u (by simp [hu]))
end
/-! A value that was known before is known by the old places. -/
mutual
theorem vrel_down {ρ ρ' : Ren} (hr : RenLe ρ ρ') : ∀ {v u0 u : Value}, VRel ρ v u0 → VRel ρ' v u → VRel ρ v u
  | _, _, _, .bool b, h => by cases h; exact .bool b
  | _, _, _, .int k n, h => by cases h; exact .int k n
  | _, _, _, .string s, h => by cases h; exact .string s
  | _, _, _, .junk k m n v _, h => by cases h with | junk _ _ _ _ h => exact .junk k m n _ h
  | _, _, _, .ptrNil, h => by cases h; exact .ptrNil
  | _, _, _, .ptr off hx, h => by
    cases h with
    | ptr _ hx' => rw [hr _ _ hx] at hx'; cases hx'; exact .ptr off hx
  | _, _, _, .sliceNil, h => by cases h; exact .sliceNil
  | _, _, _, .slice off n c cap ad hx _ _ _ _ _, h => by
    cases h with
    | slice _ _ _ cap' ad' hx' h1 h2 h3 h4 h5 => rw [hr _ _ hx] at hx'; cases hx'; exact .slice off n c cap' ad' hx h1 h2 h3 h4 h5
  | _, _, _, .mapNil, h => by cases h; exact .mapNil
  | _, _, _, .map hx, h => by
    cases h with
    | map hx' => rw [hr _ _ hx] at hx'; cases hx'; exact .map hx
  | _, _, _, .func f ha hb, h => by
    cases h with
    | func _ ha' hb' => exact .func f (vrels_down hr ha ha') (vrels_down hr hb hb')
  | _, _, _, .yield hx ha hb, h => by
    cases h with
    | yield hx' ha' hb' => rw [hr _ _ hx] at hx'; cases hx'; exact .yield hx (vrels_down hr ha ha') (vrels_down hr hb hb')
  | _, _, _, .nilFunc, h => by cases h; exact .nilFunc
  | _, _, _, .nilIface, h => by cases h; exact .nilIface
  | _, _, _, .iface t hv, h => by
    cases h with
    | iface _ hv' => exact .iface t (vrel_down hr hv hv')
  | _, _, _, .agg ha, h => by
    cases h with
    | agg ha' => exact .agg (vrels_down hr ha ha')
  | _, _, _, .tuple ha, h => by
    cases h with
    | tuple ha' => exact .tuple (vrels_down hr ha ha')
theorem vrels_down {ρ ρ' : Ren} (hr : RenLe ρ ρ') : ∀ {l m0 m : List Value}, VRels ρ l m0 → VRels ρ' l m → VRels ρ l m
  | _, _, _, .nil, h => by cases h; exact .nil
  | _, _, _, .cons hv hs, h => by
    cases h with
    | cons hv' hs' => exact .cons (vrel_down hr hv hv') (vrels_down hr hs hs')
end
theorem envT_down {ρ ρ' : Ren} (hr : RenLe ρ ρ') {tm : T Value} {t0 t1 : Array Value} (h0 : EnvT ρ tm t0) (h : EnvT ρ' tm t1) : EnvT ρ tm t1 := fun t v e => by
  obtain ⟨u0, _, hv0⟩ := h0 t v e
  obtain ⟨u, hu, hv⟩ := h t v e
  exact ⟨u, hu, vrel_down hr hv0 hv⟩
theorem f2_down {ρ ρ' : Ren} (hr : RenLe ρ ρ') {kt : TypeId} : ∀ {es : List (Value × Value × Nat)} {l0 l : List MapEntry}, F2 (EntRel P ρ kt) es l0 → F2 (EntRel P ρ' kt) es l → F2 (EntRel P ρ kt) es l
  | _, _, _, .nil, .nil => .nil
  | _, _, _, .cons h' hs', .cons h hs => .cons ⟨h.1, h.2.1, h.2.2.1, vrel_down hr h'.2.2.2.1 h.2.2.2.1, h.2.2.2.2⟩ (f2_down hr hs' hs)
theorem mapRel_down {ρ ρ' : Ren} (hr : RenLe ρ ρ') {kt : TypeId} {es : List (Value × Value × Nat)} {e0 e1 : Array MapEntry} (h0 : MapRel P ρ kt es e0) (h : MapRel P ρ' kt es e1) : MapRel P ρ kt es e1 := by
  obtain ⟨l0, _, hf0, _⟩ := h0
  obtain ⟨l, hp, hf, hn⟩ := h
  exact ⟨l, hp, f2_down hr hf0 hf, hn⟩
theorem brel_down {ρ ρ' : Ren} (hr : RenLe ρ ρ') {x : Loc} {w0 w : World} : ∀ {k : Blk}, BRel P ρ x w0 k → BRel P ρ' x w k → BRel P ρ x w k
  | .cells .., h0, h => ⟨fun i l e => by
      obtain ⟨a, b, c⟩ := h.cell i l e
      obtain ⟨_, _, c0⟩ := h0.cell i l e
      refine ⟨a, b, fun j v hv => ?_⟩
      obtain ⟨u, hu, hv'⟩ := c j v hv
      obtain ⟨_, _, hv0⟩ := c0 j v hv
      exact ⟨u, hu, vrel_down hr hv0 hv'⟩, h.all, h.free, h.shape, h.mult⟩
  | .map .., ⟨_, _, hm0, _⟩, ⟨e, h, hm, hb⟩ => ⟨e, h, mapRel_down hr hm0 hm, hb⟩
  | .strIter .., _, h => h
  | .mapIter .., ⟨_, h0⟩, ⟨hb, h⟩ => ⟨hb, by
      rcases h with ⟨rfl, h⟩ | ⟨a, y, rfl, hy, h⟩
      · exact .inl ⟨rfl, h⟩
      · rcases h0 with ⟨h0, _⟩ | ⟨a0, y0, ha0, hy0, _⟩
        · cases h0
        · cases ha0
          have := hr _ _ hy0
          rw [hy] at this; cases this
          exact .inr ⟨a, y, rfl, hy0, h⟩⟩
  | .loop .., ⟨_, _, _, _, he0, _⟩, ⟨t, f, r, h, he, hn⟩ => ⟨t, f, r, h, envT_down hr he0 he, hn⟩
/-- what a round has made is let go. -/
theorem Rel.down {ρ ρ' : Ren} {s se : AS} {w0 w : World} (h0 : Rel P ρ s w0) (h : Rel P ρ' se w) (hle : RenLe ρ ρ') (hsame : ∀ a, a < s.nx → se.h.get a = s.h.get a) : Rel P ρ s w := by
  have hlt : ∀ {a x}, ρ a = some x → a < s.nx := fun {a x} e => Nat.lt_of_not_le fun hle => by rw [h0.dom a hle] at e; cases e
  refine ⟨h0.dom, h0.top, fun a k x e e' => ?_, h0.lim, fun a a' k k' x x' hne e1 e2 r1 r2 hb => h0.excl a a' k k' x x' hne e1 e2 r1 r2 hb⟩
  obtain ⟨h1, h2⟩ := h.blk a k x (by rw [hsame a (hlt e')]; exact e) (hle _ _ e')
  exact ⟨h1, brel_down hle (h0.blk a k x e e').2 h2⟩
theorem Held.up {ρ ρ' : Ren} {s se : AS} {w0 : World} (h0 : Rel P ρ s w0) (hle : RenLe ρ ρ') (hsame : ∀ a, a < s.nx → se.h.get a = s.h.get a) {b : Nat} (h : Held ρ s b) : Held ρ' se b := by
  obtain ⟨a, k, x, e, e', hb⟩ := h
  have : a < s.nx := Nat.lt_of_not_le fun hle => by rw [h0.dom a hle] at e'; cases e'
  exact ⟨a, k, x, by rw [hsame a this]; exact e, hle _ _ e', hb⟩
theorem Rel.unheld {ρ : Ren} {s : AS} {w : World} {r : Nat} {o : Obj} (h : Rel P ρ s w) (hn : ¬ Held ρ s r) : Rel P ρ s { w with heap := w.heap.setIfInBounds r o } :=
  ⟨h.dom, h.top, fun a k x e e' => by
    obtain ⟨h1, h2⟩ := h.blk a k x e e'
    have hne : r ≠ x.b := fun e2 => hn ⟨a, k, x, e, e', e2.symm⟩
    exact ⟨by simpa using h1, h2.congr (by simp [hne])⟩, h.lim, h.excl⟩
/-! The evaluator's helpers. -/
theorem subT_get : ∀ {a b : T Value}, subT a b = true → ∀ t v, a.get t = some v → b.get t = some v
  | .e, _, _, t, v, hv => by rw [T.get_e] at hv; cases hv
  | .n v0 l r, .e, h, t, v, hv => by
    cases v0 with
    | some v0 => cases h
    | none =>
      have h : bif' (subT l .e) (subT r .e) false = true := h
      obtain ⟨h1, h2⟩ := bif_tt h
      rcases nat_cases3 t with rfl | ⟨m, rfl⟩ | ⟨m, rfl⟩
      · rw [T.get_n0] at hv; cases hv
      · rw [T.get_odd] at hv; have := subT_get h1 m v hv; rw [T.get_e] at this; cases this
      · rw [T.get_even] at hv; have := subT_get h2 m v hv; rw [T.get_e] at this; cases this
  | .n v0 l r, .n v1 l' r', h, t, v, hv => by
    have h : bif' (match (generalizing := false) v0 with | none => true | some v => vEqO v v1) (bif' (subT l l') (subT r r') false) false = true := h
    obtain ⟨h0, h⟩ := bif_tt h
    obtain ⟨h1, h2⟩ := bif_tt h
    rcases nat_cases3 t with rfl | ⟨m, rfl⟩ | ⟨m, rfl⟩
    · rw [T.get_n0] at hv ⊢
      subst hv
      exact vEqO_sound h0
    · rw [T.get_odd] at hv ⊢; exact subT_get h1 m v hv
    · rw [T.get_even] at hv ⊢; exact subT_get h2 m v hv
theorem dropT_get : ∀ {ws : List Nat} {tm tm0 : T Value}, dropT ws tm = some tm0 → ∀ t v, tm0.get t = some v → tm.get t = some v
  | [], tm, tm0, h, t, v, hv => by
    have h : some tm = some tm0 := h
    cases h; exact hv
  | w :: ws, tm, tm0, h, t, v, hv => by
    have h : ob (T.put none tm w) (dropT ws) = some tm0 := h
    obtain ⟨t1, h1, h⟩ := ob_some h
    have := dropT_get h t v hv
    rw [T.get_put _ _ _ _ h1] at this
    split at this
    · cases this
    · exact this
/-- what is known of each entry's round. -/
def RoundOk (m : MLoop) (ev : Ev) (tm : T Value) (s : AS) (p : Value × Value × Nat) : Prop :=
  (∃ tm' s', mapRound m ev (p.1, p.2.1) tm s = .code .normal tm' s') ∧ ∃ tm' s', mapRound m ev (p.1, p.2.1) tm ⟨s.h, s.nx, s.nx⟩ = .code .normal tm' s' ∧ subT tm tm' = true
/-- a round that leaves the loop. -/
def RoundOut (m : MLoop) (ev : Ev) (tm : T Value) (s : AS) (p : Value × Value × Nat) (o : Out) : Prop :=
  mapRound m ev (p.1, p.2.1) tm s = o ∧ ∃ x tm' s', o = .code x tm' s' ∧ x ≠ .normal
theorem mapRounds_spec {m : MLoop} {ev : Ev} {tm : T Value} {s : AS} : ∀ {es : List (Value × Value × Nat)} {f0 f : Option Out}, mapRounds m ev tm s es f0 = some f →
    (∀ p ∈ es, RoundOk m ev tm s p ∨ ∃ o, f = some o ∧ RoundOut m ev tm s p o) ∧ (∀ o, f0 = some o → f = some o) ∧ (∀ o, f = some o → f0 = some o ∨ ∃ p ∈ es, RoundOut m ev tm s p o)
  | [], f0, f, h => by
    have h : some f0 = some f := h
    cases h
    exact ⟨fun p hp => (by cases hp), fun o h => h, fun o h => .inl h⟩
  | p :: es, f0, f, h => by
    have h : (match (generalizing := false) mapRound m ev (p.1, p.2.1) tm s with
      | .code .normal _ _ => bif' (isNormal tm (mapRound m ev (p.1, p.2.1) tm ⟨s.h, s.nx, s.nx⟩)) (mapRounds m ev tm s es f0) none
      | .code x tm1 s1 => match (generalizing := false) f0 with | none => mapRounds m ev tm s es (some (.code x tm1 s1)) | some _ => none
      | _ => none) = some f := h
    split at h
    · rename_i tm1 s1 heq
      obtain ⟨h1, h⟩ := bif'_some h
      obtain ⟨i1, i2, i3⟩ := mapRounds_spec h
      refine ⟨fun q hq => ?_, i2, fun o ho => (i3 o ho).imp id fun ⟨q, hq, hr⟩ => ⟨q, by simp [hq], hr⟩⟩
      rcases List.mem_cons.1 hq with rfl | hq
      · left
        refine ⟨⟨tm1, s1, heq⟩, ?_⟩
        unfold isNormal at h1
        split at h1
        · exact ⟨_, _, ‹_›, h1⟩
        · cases h1
      · exact i1 q hq
    · rename_i x tm1 s1 hne heq
      have hx : x ≠ .normal := fun e => hne e
      split at h
      · obtain ⟨i1, i2, i3⟩ := mapRounds_spec h
        have hout : RoundOut m ev tm s p (.code x tm1 s1) := ⟨heq, x, tm1, s1, rfl, hx⟩
        refine ⟨fun q hq => ?_, fun o ho => (by cases ho), fun o ho => ?_⟩
        · rcases List.mem_cons.1 hq with rfl | hq
          · exact .inr ⟨_, i2 _ rfl, hout⟩
          · exact i1 q hq
        · right
          rcases i3 o ho with h | ⟨q, hq, hr⟩
          · cases h; exact ⟨p, by simp, hout⟩
          · exact ⟨q, by simp [hq], hr⟩
      · cases h
    · cases h
end Go.Eng
/-! Loops over maps: the iterator; one round; the loop. -/
namespace Go.Eng
open Go
variable {P : Program}
/-- worlds alike but for draws. -/
structure SameHeap (w w' : World) : Prop where
  heap : w'.heap = w.heap
  tape : w'.tape = w.tape
  os : w'.os = w.os
  out : w'.output = w.output
theorem choose_next (k : Nat) (w : World) : ∃ n w', (choose (.mapNext k)).run P w = .ok n w' ∧ SameHeap w w' ∧ (0 < k → n < k) := by
  rw [run_choose_drew]
  by_cases h : (Question.mapNext k).forced = true
  · rw [if_pos h]
    exact ⟨0, w, rfl, ⟨rfl, rfl, rfl, rfl⟩, id⟩
  · rw [if_neg h]
    exact ⟨_, w.drew, rfl, ⟨rfl, rfl, rfl, rfl⟩, fun h => Nat.mod_lt _ h⟩
theorem next_nil {w : World} {x : Nat} {ty : TypeId} (h : w.heap[x]? = some (.mapIter none 0 #[] 0)) : (Instr.next (.pointer (some ⟨x, 0, none⟩)) false ty).run P w = .ok (.tuple #[.bool false]) w := by
  simp only [Instr.next, Sem.run_bind, run_getObj' h (by simp), Result.andThen_ok, Sem.run_pure]
theorem next_some {w : World} {x m ck : Nat} {seen : Array Nat} {ents : Array MapEntry} (hi : w.heap[x]? = some (.mapIter (some m) ck seen ck)) (hm : w.heap[m]? = some (.map ents ck)) (hb : Borns ck ents) :
    (∃ w', (∀ e ∈ ents.toList, e.born ∈ seen.toList) ∧ (∀ ty, (Instr.next (.pointer (some ⟨x, 0, none⟩)) false ty).run P w = .ok (.tuple #[.bool false]) w') ∧ SameHeap w w') ∨
    ∃ e w1, e ∈ ents.toList ∧ e.born ∉ seen.toList ∧ (∀ ty, (Instr.next (.pointer (some ⟨x, 0, none⟩)) false ty).run P w = .ok (.tuple #[.bool true, e.key, e.val]) { w1 with heap := w1.heap.setIfInBounds x (.mapIter (some m) ck (seen.push e.born) ck) }) ∧ SameHeap w w1 := by
  have hold : ((ents.filter fun e => !seen.contains e.born).filter fun e => decide (e.born < ck)) = (ents.filter fun e => !seen.contains e.born) := by
    rw [Array.filter_eq_self]
    intro e he
    have := hb.2 e (by simpa using (Array.mem_filter.1 he).1)
    simpa using this
  have hnew : ((ents.filter fun e => !seen.contains e.born).filter fun e => decide (e.born ≥ ck)) = #[] := by
    rw [Array.filter_eq_empty_iff]
    intro e he
    have := hb.2 e (by simpa using (Array.mem_filter.1 he).1)
    simp; omega
  have hbad : (!seen.isEmpty && !ents.isEmpty && ents.all fun e => decide (e.born ≥ ck)) = false := by
    cases hemp : ents.isEmpty with
    | true => simp
    | false =>
      have hne : 0 < ents.size := by
        refine Nat.pos_of_ne_zero fun h0 => ?_
        rw [Array.isEmpty, h0] at hemp
        exact absurd hemp (by simp)
      have h0 := hb.2 ents[0] (by simp)
      have : (ents.all fun e => decide (e.born ≥ ck)) = false := by
        rw [Array.all_eq_false]
        exact ⟨0, hne, by simp; omega⟩
      rw [this]; simp
  generalize hleft : (ents.filter fun e => !seen.contains e.born) = left at hold hnew
  have hmem : ∀ e ∈ left.toList, e ∈ ents.toList ∧ e.born ∉ seen.toList := fun e he => by
    rw [← hleft] at he
    simpa using he
  have run0 : ∃ bad : Sem Value, ∀ (cand : Array (Option MapEntry)), cand = (if left.isEmpty then #[none] else #[]) ++ (left ++ #[]).map some → ∀ n w', (choose (.mapNext cand.size)).run P w = .ok n w' → SameHeap w w' →
      ∀ ty, (Instr.next (.pointer (some ⟨x, 0, none⟩)) false ty).run P w = Sem.run P (match cand[n]? with
        | some (some e) => do
          setObj x (.mapIter (some m) ck (seen.push e.born) ck)
          pure (.tuple #[.bool true, e.key, e.val])
        | some none => pure (.tuple #[.bool false])
        | none => bad) w' := by
    apply Exists.intro
    intro cand hc n w' hch hs ty
    simp only [Instr.next, Sem.run_bind, run_getObj' hi (by simp), run_getObj' hm (by simp), Result.andThen_ok, Sem.run_pure, hbad, Bool.false_eq_true, if_false, hleft, hold, hnew]
    rw [← hc, hch]
    rfl
  obtain ⟨bad, run0⟩ := run0
  obtain ⟨n, w', hch, hs, hn⟩ := choose_next (P := P) ((if left.isEmpty then #[none] else #[]) ++ (left ++ #[]).map some : Array (Option MapEntry)).size w
  have hrun := run0 _ rfl n w' hch hs
  by_cases hemp : left.isEmpty = true
  · have hl : left = #[] := by simpa [Array.isEmpty] using hemp
    left
    refine ⟨w', fun e he => ?_, ?_, hs⟩
    · have hne : e ∉ left.toList := by rw [hl]; simp
      rw [← hleft] at hne
      have he' : e ∈ ents := by simpa using he
      simp only [Array.mem_toList_iff, Array.mem_filter, not_and] at hne
      have := hne he'
      simpa using this
    · intro ty
      rw [hrun, if_pos hemp]
      subst hl
      have : n = 0 := by have := hn (by simp); simpa using this
      subst this
      simp [Sem.run_pure]
  · right
    rw [if_neg hemp] at hn
    simp only [if_neg hemp, Array.append_empty, Array.empty_append] at hrun
    simp only [Array.append_empty, Array.empty_append, Array.size_map] at hn
    have hpos : 0 < left.size := by
      refine Nat.pos_of_ne_zero fun h0 => hemp ?_
      rw [Array.isEmpty, h0]; rfl
    have hlt := hn hpos
    have hget : (left.map some)[n]? = some (some left[n]) := by simp [hlt]
    obtain ⟨h1, h2⟩ := hmem left[n] (by simp)
    refine ⟨left[n], w', h1, h2, ?_, hs⟩
    intro ty
    rw [hrun, hget]
    have hi' : w'.heap[x]? = some (.mapIter (some m) ck seen ck) := by rw [hs.heap]; exact hi
    simp only [Sem.run_bind, run_setObj' hi' (by simp), Result.andThen_ok, Sem.run_pure]
theorem find_born {ents : Array MapEntry} {ck : Nat} {e : MapEntry} (hb : Borns ck ents) (he : e ∈ ents.toList) : ents.find? (fun x => x.born == e.born) = some e := by
  obtain ⟨t1, t2, ht⟩ := List.append_of_mem he
  have hen : ents = (t1 ++ e :: t2).toArray := by rw [← ht]
  have hnd := hb.1
  rw [ht, List.map_append, List.map_cons, List.nodup_append] at hnd
  rw [hen, List.find?_toArray, List.find?_append]
  have : t1.find? (fun x => x.born == e.born) = none := by
    rw [List.find?_eq_none]
    intro x hx
    have := hnd.2.2 x.born (List.mem_map.2 ⟨x, hx, rfl⟩) e.born (by simp)
    simpa using this
  rw [this]
  simp
theorem run_entry {w : World} {x m ck : Nat} {seen : Array Nat} {ents : Array MapEntry} {e : MapEntry} (hi : w.heap[x]? = some (.mapIter (some m) ck (seen.push e.born) ck)) (hm : w.heap[m]? = some (.map ents ck)) (hb : Borns ck ents) (he : e ∈ ents.toList) :
    (Instr.entry (.pointer (some ⟨x, 0, none⟩))).run P w = .ok (.tuple #[e.key, e.val]) w := by
  have hbk : (seen.push e.born).back? = some e.born := by simp
  simp only [Instr.entry, Sem.run_bind, run_getObj' hi (by simp), run_getObj' hm (by simp), Result.andThen_ok, Sem.run_pure, hbk, bne_self_eq_false, Bool.false_eq_true, if_false, find_born hb he]
end Go.Eng
/-! Loops over maps: one round; the loop. -/
namespace Go.Eng
open Go
variable {P : Program}
theorem Inv.start {keep nt : Nat} {ρ : Ren} {tm : T Value} {a : Act} (h : EnvOk keep nt ρ tm a) {d : Nat} (hd : kept keep d = false) (hlt : d < nt) {v u : Value} (hv : VRel ρ v u) : Inv keep nt [] ρ (.cons d v .nil) tm (a.put (some d) u) := by
  have hsz : d < a.tmps.size := Nat.lt_of_lt_of_le hlt h.size
  refine ⟨⟨by simpa [Act.put] using h.size, h.tk, fun t w hw => ?_⟩, fun t w _ hk hw => ?_, fun p hp => (by cases hp)⟩
  · have hne : t ≠ d := fun e => by have := h.tk t w hw; rw [e, hd] at this; cases this
    obtain ⟨u', hu, hr⟩ := h.env t w hw
    exact ⟨u', by rw [get_put_ne hne]; exact hu, hr⟩
  · rw [lo_cons, bif'_eq] at hw
    split at hw
    · rename_i e
      have e := Nat.eq_of_beq_eq_true e
      cases hw
      subst e
      exact ⟨u, get_put_eq hsz, hv⟩
    · cases hw
theorem EnvOk.put {keep nt : Nat} {ρ : Ren} {tm tm1 : T Value} {a : Act} (h : EnvOk keep nt ρ tm a) {d : Nat} {v u : Value} (hd : kept keep d = true) (hlt : d < nt) (hv : VRel ρ v u) (hp : T.put (some v) tm d = some tm1) : EnvOk keep nt ρ tm1 (a.put (some d) u) := by
  have hsz : d < a.tmps.size := Nat.lt_of_lt_of_le hlt h.size
  have hg := T.get_put _ _ _ _ hp
  refine ⟨by simpa [Act.put] using h.size, fun t w hw => ?_, fun t w hw => ?_⟩
  · rw [hg] at hw
    split at hw
    · rename_i e; rw [e]; exact hd
    · exact h.tk t w hw
  · rw [hg] at hw
    split at hw
    · rename_i e; cases hw; rw [e]; exact ⟨u, get_put_eq hsz, hv⟩
    · rename_i e
      obtain ⟨u', hu, hr⟩ := h.env t w hw
      exact ⟨u', by rw [get_put_ne e]; exact hu, hr⟩
theorem EnvOk.put_other {keep nt : Nat} {ρ : Ren} {tm : T Value} {a : Act} (h : EnvOk keep nt ρ tm a) {d : Nat} {u : Value} (hd : kept keep d = false) : EnvOk keep nt ρ tm (a.put (some d) u) := by
  refine ⟨by simpa [Act.put] using h.size, h.tk, fun t w hw => ?_⟩
  have hne : t ≠ d := fun e => by have := h.tk t w hw; rw [e, hd] at this; cases this
  obtain ⟨u', hu, hr⟩ := h.env t w hw
  exact ⟨u', by rw [get_put_ne hne]; exact hu, hr⟩
/-- the block behind 'entry'. -/
theorem mapBlock_ok {keep nt : Nat} {ev : Ev} (hev : EvOk P ev) {F : Fence} (hF : WideF F) {body : Code} {c : CF} (hc : CFOk P keep nt body c) {i2 b1 : Nat} {r2 : Array Oper} {t2 : List Oper} {q : Oper} {l2 : List CI} (hl2 : mkRegion P keep nt r2.toList t2 [] = some l2) (hr2 : r2.toList = q :: t2)
    {d2 it : Nat} (hqg : q.guard = none) (hqd : q.dst = some d2) (hqo : q.op = .entry (.tmp it)) (hd2 : kept keep d2 = false) (hlt : d2 < nt) {ρ : Ren} {tm1 : T Value} {s : AS} {a : Act} {w : World} {k v k' v' : Value} {x : XExit} {tmx : T Value} {sx : AS}
    (hrun : blockOut b1 (seqOut (c ev) (runCIs ev l2 kEnd (.cons d2 (.tuple #[k, v]) .nil) tm1 s)) = .code x tmx sx) (hE : EnvOk keep nt ρ tm1 a) {n0 : Nat} (hn0 : n0 ≤ w.heap.size) (hM : Marks n0 ρ s w a.defers) (hL : ∀ l, F.round = some l → ∃ r, w.heap[l]? = some (Obj.loop r)) (hR : Rel P ρ s w)
    (hent : (Instr.entry (a.eval (.tmp it))).run P w = .ok (.tuple #[k', v']) w) (hk : VRel ρ k k') (hv : VRel ρ v v') {Q : Exit → Act → World → Prop} (hQ : Leaves' P n0 keep nt ρ s w x tmx sx Q) : (Code.block b1 (.seq (.region i2 r2 false) body)).wpIn F 0 P Q a w := by
  refine wpIn_block ?_
  refine wpIn_seq ?_
  refine wpIn_region ?_
  have hsz : r2.size = t2.length + 1 := by rw [← Array.length_toList, hr2]; rfl
  have hr : List.range r2.size = 0 :: List.range' 1 t2.length := by rw [hsz, List.range_eq_range', List.range'_succ]
  rw [hr]
  have h0 : r2[0]? = some q := by
    have : r2.toList[0]? = some q := by rw [hr2]; rfl
    simpa using this
  have hw : Region.wanted q (yielded r2 a.tmps) = true := by unfold Region.wanted; rw [hqg]
  simp only [wpOpsIn, h0]
  rw [if_pos hw]
  refine ⟨fun f _ => hF.fn f, ?_⟩
  rw [Oper.semAt_eq _ _ _ (fun c e => by rw [hqo] at e; cases e)]
  have hex : (execOp a.eval q).run P w = .ok (.value (.tuple #[k', v'])) w := by
    have he : execOp a.eval q = (do pure (.value (← Instr.entry (a.eval (.tmp it))))) := by unfold execOp; rw [hqo]
    rw [he]
    exact run_val hent
  rw [hex, Oper.uponIn_value, hqd]
  have hI := Inv.start hE hd2 hlt (VRel.tuple (a := #[k, v]) (b := #[k', v']) (.cons hk (.cons hv .nil)))
  cases hrg : runCIs ev l2 kEnd (.cons d2 (.tuple #[k, v]) .nil) tm1 s with
  | no => rw [hrg] at hrun; cases hrun
  | val => rw [hrg] at hrun; cases hrun
  | code xr tmr sr =>
    rw [hrg] at hrun
    refine region_ok hF hev (all := r2) (x := xr) (tm' := tmr) (s' := sr) t2 1 (by rw [hr2]; rfl) [] l2 hl2 ρ _ tm1 s _ w hrg hI hR (fun ρ1 a1 w1 hx hE1 hd1 hR1 hS1 => ?_)
    subst hx
    have hM1 : Marks n0 ρ1 sr w1 a1.defers := by rw [hd1]; exact hM.step hS1
    have hrun : blockOut b1 (c ev tmr sr) = .code x tmx sx := hrun
    cases ho : c ev tmr sr with
    | no => rw [ho] at hrun; cases hrun
    | val => rw [ho] at hrun; cases hrun
    | code e2 tm2 s2 =>
      rw [ho] at hrun
      refine hc ev hev F hF ρ1 tmr sr a1 w1 e2 tm2 s2 ho hE1 n0 (Nat.le_trans hn0 hS1.size) hM1 (loops_step hL hS1) hR1 _ (fun ρ2 a2 w2 hE2 hM2 hR2 hS2 => ?_)
      have hS := hS1.trans hS2
      cases e2 with
      | normal => cases hrun; exact hQ ρ2 a2 w2 hE2 hM2 hR2 hS
      | exit i =>
        have h : bif' (Nat.beq i b1) (.code .normal tm2 s2) (.code (.exit i) tm2 s2) = Out.code x tmx sx := hrun
        rw [bif'_eq] at h
        show (if i = b1 then Q .normal a2 w2 else Q (.exit i) a2 w2)
        split at h
        · rename_i hi
          cases h
          rw [if_pos (Nat.eq_of_beq_eq_true hi)]
          exact hQ ρ2 a2 w2 hE2 hM2 hR2 hS
        · rename_i hi
          cases h
          rw [if_neg (fun e => hi (by rw [e]; exact Nat.beq_refl _))]
          exact hQ ρ2 a2 w2 hE2 hM2 hR2 hS
      | goto l => cases hrun; exact hQ ρ2 a2 w2 hE2 hM2 hR2 hS
      | ret => cases hrun; exact hQ ρ2 a2 w2 hE2 hM2 hR2 hS
/-- the region of 'next'. -/
theorem nextRegion_ok {F : Fence} (hF : WideF F) {i1 d1 t9 it : Nat} {r1 : Array Oper} {o p : Oper} (hr1 : r1.toList = [o, p]) (hog : o.guard = none) (hod : o.dst = some d1) (hoo : o.op = .next (.tmp it) false) (hpg : p.guard = none) (hpd : p.dst = some t9) (hpo : p.op = .extract (.tmp d1) 0)
    {a : Act} {w w2 : World} {vs : Array Value} {b : Bool} (hvs : vs[0]? = some (.bool b)) (hlt : d1 < a.tmps.size) (hnext : ∀ ty, (Instr.next (a.eval (.tmp it)) false ty).run P w = .ok (.tuple vs) w2) {Q : Exit → Act → World → Prop}
    (hQ : Q .normal ((a.put (some d1) (.tuple vs)).put (some t9) (.bool b)) w2) : (Code.region i1 r1 false).wpIn F 0 P Q a w := by
  refine wpIn_region ?_
  have hsz : r1.size = 2 := by rw [← Array.length_toList, hr1]; rfl
  have hr : List.range r1.size = [0, 1] := by rw [hsz]; rfl
  rw [hr]
  have h0 : r1[0]? = some o := by
    have : r1.toList[0]? = some o := by rw [hr1]; rfl
    simpa using this
  have h1 : r1[1]? = some p := by
    have : r1.toList[1]? = some p := by rw [hr1]; rfl
    simpa using this
  have hw0 : Region.wanted o (yielded r1 a.tmps) = true := by unfold Region.wanted; rw [hog]
  simp only [wpOpsIn, h0, h1]
  rw [if_pos hw0]
  refine ⟨fun f _ => hF.fn f, ?_⟩
  rw [Oper.semAt_eq _ _ _ (fun c e => by rw [hoo] at e; cases e)]
  have hex : (execOp a.eval o).run P w = .ok (.value (.tuple vs)) w2 := by
    have he : execOp a.eval o = (do pure (.value (← Instr.next (a.eval (.tmp it)) false o.type))) := by unfold execOp; rw [hoo]
    rw [he]
    exact run_val (hnext _)
  rw [hex, Oper.uponIn_value, hod]
  show (if Region.wanted p _ = true then _ else _)
  rw [if_pos (by unfold Region.wanted; rw [hpg])]
  refine ⟨fun f _ => hF.fn f, ?_⟩
  rw [Oper.semAt_eq _ _ _ (fun c e => by rw [hpo] at e; cases e)]
  have hex2 : (execOp (a.put (some d1) (.tuple vs)).eval p).run P w2 = .ok (.value (.bool b)) w2 := by
    have he : execOp (a.put (some d1) (.tuple vs)).eval p = (do pure (.value (← Instr.extract ((a.put (some d1) (.tuple vs)).eval (.tmp d1)) 0))) := by unfold execOp; rw [hpo]
    rw [he, eval_tmp (get_put_eq hlt)]
    refine run_val ?_
    simp only [Instr.extract, hvs, Sem.run_pure]
  rw [hex2, Oper.uponIn_value, hpd]
  exact hQ
theorem mapShape_some {a : Code} {m : MShape} (h : mapShape a = some m) : ∃ i1 r1 i2 r2 o p q, a = .seq (.region i1 r1 false) (.seq (.cond (.tmp m.t9) .skip (.exit m.b0)) (.block m.b1 (.seq (.region i2 r2 false) m.body))) ∧
    r1.toList = [o, p] ∧ o.guard = none ∧ o.dst = some m.d1 ∧ o.op = .next (.tmp m.it) false ∧ p.guard = none ∧ p.dst = some m.t9 ∧ p.op = .extract (.tmp m.d1) 0 ∧
    m.r2 = r2.toList ∧ r2.toList = q :: m.t2 ∧ q.guard = none ∧ q.dst = some m.d2 ∧ q.op = .entry (.tmp m.it) := by
  unfold mapShape at h
  split at h
  · rename_i i1 r1 t b0 b1 i2 r2 body
    split at h
    · rename_i d1 it t9 d2 it' t2 hn he
      replace h := bif'_some h
      obtain ⟨h1, h⟩ := h
      replace h := bif'_some h
      obtain ⟨h2, h⟩ := h
      replace h1 := Nat.eq_of_beq_eq_true h1
      replace h2 := Nat.eq_of_beq_eq_true h2
      subst h1; subst h2
      cases h
      unfold nextOf at hn
      split at hn
      · rename_i o p hrl
        split at hn
        · rename_i a1 d a2 it2 a3 a4 t9' a5 d' a6
          replace hn := bif'_some hn
          obtain ⟨h3, hn⟩ := hn
          replace h3 := Nat.eq_of_beq_eq_true h3
          subst h3
          cases hn
          unfold entryOf at he
          split at he
          · rename_i q t hql
            split at he
            · cases he
              exact ⟨i1, r1, i2, r2, o, p, q, rfl, hrl, by assumption, by assumption, by assumption, by assumption, by assumption, by assumption, rfl, hql, by assumption, by assumption, by assumption⟩
            · cases he
          · cases he
        · cases hn
      · cases hn
    · cases h
  · cases h
theorem filter_less {seen : List Nat} {b : Nat} : ∀ {l : List MapEntry}, (∃ e ∈ l, e.born = b) → b ∉ seen → (l.filter fun e => !(seen ++ [b]).contains e.born).length < (l.filter fun e => !seen.contains e.born).length
  | [], ⟨e, he, _⟩, _ => by cases he
  | x :: l, ⟨e, he, hb⟩, hs => by
    have hle : ∀ l : List MapEntry, (l.filter fun e => !(seen ++ [b]).contains e.born).length ≤ (l.filter fun e => !seen.contains e.born).length := by
      intro l
      induction l with
      | nil => exact Nat.le_refl _
      | cons y l ih =>
        rw [List.filter_cons, List.filter_cons]
        by_cases h1 : y.born ∈ seen
        · simp [h1]; simpa using ih
        · by_cases h2 : y.born = b
          · simp [h1, h2, hs]; have := ih; simp at this; omega
          · simp [h1, h2]; simpa using ih
    rw [List.filter_cons, List.filter_cons]
    rcases List.mem_cons.1 he with rfl | he
    · subst hb
      have := hle l
      simp [hs]
      simp at this
      omega
    · have ih := filter_less ⟨e, he, hb⟩ hs
      by_cases h1 : x.born ∈ seen
      · simp [h1]; simpa using ih
      · by_cases h2 : x.born = b
        · simp [h1, h2, hs]; simp at ih; omega
        · simp [h1, h2]; simpa using ih
/-- A LOOP OVER A MAP. -/
theorem mapLoop_ok {keep nt : Nat} {a0 : Code} {m : MShape} {k : Code → Option CF} {ws : List Nat} {f : CF} (hshape : mapShape a0 = some m) (hmk : mkMapLoop P nt keep k ws m = some f) (hk : ∀ c cf, k c = some cf → CFOk P keep nt c cf) : CFOk P keep nt (.loop a0) f := by
  obtain ⟨i1, r1, i2, r2, o, p, q, rfl, hr1, hog, hod, hoo, hpg, hpd, hpo, hmr2, hr2, hqg, hqd, hqo⟩ := mapShape_some hshape
  unfold mkMapLoop at hmk
  replace hmk := bif'_some' hmk
  obtain ⟨hkd, hmk⟩ := hmk
  replace hmk := bif'_some hmk
  obtain ⟨hlts, hmk⟩ := hmk
  replace hmk := ob_some hmk
  obtain ⟨l2, hl2, hmk⟩ := hmk
  replace hmk := ob_some hmk
  obtain ⟨c, hc, hmk⟩ := hmk
  have hcok := hk _ _ hc
  obtain ⟨h1, hlts⟩ := bif_tt hlts
  obtain ⟨h2, hlts⟩ := bif_tt hlts
  obtain ⟨h3, hlts⟩ := bif_tt hlts
  obtain ⟨hk9, hlts⟩ := bif_tt hlts
  obtain ⟨hkit, hitne⟩ := bif_tt hlts
  have hit9 : m.it ≠ m.t9 := fun e => by rw [e, Nat.beq_refl] at hitne; cases hitne
  have hd1 : m.d1 < nt := Nat.le_of_ble_eq_true h1
  have hd2 : m.d2 < nt := Nat.le_of_ble_eq_true h2
  have h9 : m.t9 < nt := Nat.le_of_ble_eq_true h3
  have hkd1 : kept keep m.d1 = false := by
    cases hb : kept keep m.d1 with
    | false => rfl
    | true => rw [hb] at hkd; cases hkd
  have hkd2 : kept keep m.d2 = false := by
    rw [hkd1] at hkd; exact hkd
  rw [hmr2] at hl2
  intro ev hev F hF ρ tm s a w e tm' s' h hE n0 hn0 hM hL hR Q hQ
  cases hmk
  generalize hM' : (⟨m.b0, m.b1, opT m.it, m.t9, c, l2, m.d2, keptOf keep ws⟩ : MLoop) = M at h
  have hMit : M.it = opT m.it := by rw [← hM']
  have hMround : ∀ e tm s, mapRound M ev e tm s = Option.rec (motive := fun _ => Out) .no (fun tm1 => blockOut m.b1 (seqOut (c ev) (runCIs ev l2 kEnd (.cons m.d2 (.tuple #[e.1, e.2]) .nil) tm1 s))) (T.put (some (.bool true)) tm m.t9) := fun e tm s => by rw [← hM']; rfl
  have hMover : ∀ tm s, mapOver M tm s = Option.rec (motive := fun _ => Out) .no (fun tm1 => .code (.exit m.b0) tm1 s) (T.put (some (.bool false)) tm m.t9) := fun tm s => by rw [← hM']; rfl
  have h : Option.rec (motive := fun _ => Out) .no (fun tm0 => match M.it .nil tm0 with
    | some (.pointer (some ⟨ib, 0, none⟩)) => mapIterOf (s.h.get ib) fun r ck =>
        Option.rec (motive := fun _ => Out) .no (fun es => Option.rec (motive := fun _ => Out) .no (fun s1 => mapEnd M tm0 s1 (mapRounds M ev tm0 s1 es none)) (s.set ib none)) (entsOf s r ck)
    | _ => .no) (dropT M.ws tm) = .code e tm' s' := h
  cases hdr : dropT M.ws tm with
  | none => rw [hdr] at h; cases h
  | some tm0 =>
    rw [hdr] at h
    have h : (match M.it .nil tm0 with
      | some (.pointer (some ⟨ib, 0, none⟩)) => mapIterOf (s.h.get ib) fun r ck =>
          Option.rec (motive := fun _ => Out) .no (fun es => Option.rec (motive := fun _ => Out) .no (fun s1 => mapEnd M tm0 s1 (mapRounds M ev tm0 s1 es none)) (s.set ib none)) (entsOf s r ck)
      | _ => .no) = .code e tm' s' := h
    have hsub := dropT_get hdr
    have hE0 : EnvOk keep nt ρ tm0 a := ⟨hE.size, fun t v hv => hE.tk t v (hsub t v hv), fun t v hv => hE.env t v (hsub t v hv)⟩
    split at h
    · rename_i ib hit
      rw [hMit] at hit
      have hit : tm0.get m.it = some (.pointer (some ⟨ib, 0, none⟩)) := hit
      unfold mapIterOf at h
      split at h
      · rename_i r ck hblk
        have h : Option.rec (motive := fun _ => Out) .no (fun es => Option.rec (motive := fun _ => Out) .no (fun s1 => mapEnd M tm0 s1 (mapRounds M ev tm0 s1 es none)) (s.set ib none)) (entsOf s r ck) = .code e tm' s' := h
        cases hes : entsOf s r ck with
        | none => rw [hes] at h; cases h
        | some es =>
          rw [hes] at h
          cases hs1 : s.set ib none with
          | none => rw [hs1] at h; cases h
          | some s1 =>
            rw [hs1] at h
            have h : mapEnd M tm0 s1 (mapRounds M ev tm0 s1 es none) = .code e tm' s' := h
            cases hrs : mapRounds M ev tm0 s1 es none with
            | none => rw [hrs] at h; cases h
            | some found =>
              rw [hrs] at h
              obtain ⟨sp1, _, sp3⟩ := mapRounds_spec hrs
              -- the iterator's object
              have hptr : ∀ {a1 : Act}, EnvOk keep nt ρ tm0 a1 → ∃ x, ρ ib = some x ∧ a1.eval (.tmp m.it) = .pointer (some ⟨x.b, x.base, none⟩) := fun {a1} hE1 => by
                obtain ⟨u, hu, hv⟩ := hE1.env _ _ hit
                cases hv with
                | ptr off hx => exact ⟨_, hx, by rw [eval_tmp hu]; simp⟩
              obtain ⟨x, hx, _⟩ := hptr hE0
              obtain ⟨hxlt, hbase, hobj⟩ := hR.blk ib _ x hblk hx
              have hptr : ∀ {a1 : Act}, EnvOk keep nt ρ tm0 a1 → a1.eval (.tmp m.it) = .pointer (some ⟨x.b, 0, none⟩) := fun {a1} hE1 => by
                obtain ⟨x', hx', he⟩ := hptr hE1
                rw [hx] at hx'; cases hx'
                rw [he, hbase]
              obtain ⟨hR1, hS1⟩ := hR.forget hs1 hx
              have hnx1 : s1.nx = s.nx := (AS.set_eq hs1).1
              have hnh : ¬ Held ρ s1 x.b := by
                rintro ⟨a', k', x', e1, e2, e3⟩
                rw [(AS.set_eq hs1).2] at e1
                by_cases hne : a' = ib
                · rw [if_pos hne] at e1; cases e1
                · rw [if_neg hne] at e1
                  have := (hR.excl a' ib k' _ x' x hne e1 hblk e2 hx e3).2
                  cases this
              -- the map is over
              have over : ∀ (a1 : Act) (w2 : World) (tup : Value), EnvOk keep nt ρ tm0 a1 → Marks n0 ρ s1 w2 a1.defers → Rel P ρ s1 w2 → Stp ρ s w ρ s1 w2 → found = none → ∀ QL : Exit → Act → World → Prop, QL (.exit m.b0) = Q (.exit m.b0) →
                  (Code.seq (.cond (.tmp m.t9) .skip (.exit m.b0)) (.block m.b1 (.seq (.region i2 r2 false) m.body))).wpIn F 0 P QL ((a1.put (some m.d1) tup).put (some m.t9) (.bool false)) w2 := by
                intro a1 w2 tup hE1 hM1 hR2 hS2 hf QL hQL
                subst hf
                have h : mapOver M tm0 s1 = .code e tm' s' := h
                rw [hMover] at h
                cases hp : T.put (some (.bool false)) tm0 m.t9 with
                | none => rw [hp] at h; cases h
                | some tm1 =>
                  rw [hp] at h
                  cases h
                  have hE3 := (hE1.put_other (u := tup) hkd1).put hk9 h9 (.bool false) hp
                  refine wpIn_seq ?_
                  have he9 : ((a1.put (some m.d1) tup).put (some m.t9) (.bool false)).eval (.tmp m.t9) = .bool false := eval_tmp (get_put_eq (Nat.lt_of_lt_of_le h9 (hE1.put_other (u := tup) hkd1).size))
                  refine wpIn_cond he9 ?_
                  refine wpIn_exit ?_
                  show QL (.exit m.b0) _ _
                  rw [hQL]
                  exact hQ ρ _ _ hE3 (by rw [put_defers', put_defers']; exact hM1) hR2 hS2
              rcases hobj with ⟨rfl, hobj⟩ | ⟨mb, y, rfl, hy, hobj⟩
              · -- a map that is nil
                have hes : some [] = some es := hes
                cases hes
                have hf : found = none := by
                  have hrs : some none = some found := hrs
                  cases hrs; rfl
                let I : Act → World → Prop := fun a1 w1 => EnvOk keep nt ρ tm0 a1 ∧ Marks n0 ρ s1 w1 a1.defers ∧ Rel P ρ s1 w1 ∧ Stp ρ s w ρ s1 w1 ∧ w1.heap[x.b]? = some (.mapIter none 0 #[] 0)
                refine wpIn_loop I (fun _ _ => 0) ⟨hE0, hM.step hS1, hR1, hS1, hobj⟩ (fun a1 w1 hI => ?_)
                obtain ⟨hE1, hM1, hRr, hSr, hob⟩ := hI
                refine wpIn_seq ?_
                refine nextRegion_ok hF hr1 hog hod hoo hpg hpd hpo (vs := #[.bool false]) (b := false) rfl (Nat.lt_of_lt_of_le hd1 hE1.size) (fun ty => by rw [hptr hE1]; exact next_nil hob) ?_
                exact over a1 w1 _ hE1 hM1 hRr hSr hf _ rfl
              · -- a map
                have hes : mapOf (s.h.get mb) (fun _ es ck' => bif' (Nat.beq ck ck') (some es) none) = some es := hes
                replace hes := mapOf_some hes
                obtain ⟨kt, es', ck', hmb, hes⟩ := hes
                replace hes := bif'_some hes
                obtain ⟨hck, hes⟩ := hes
                replace hck := Nat.eq_of_beq_eq_true hck
                subst hck
                cases hes
                have hne : mb ≠ ib := fun e => by rw [e, hblk] at hmb; cases hmb
                have hmb1 : s1.h.get mb = some (.map kt es ck) := by rw [(AS.set_eq hs1).2, if_neg hne]; exact hmb
                obtain ⟨hylt, ents, hents, hmr, hbn⟩ := hR.blk mb _ y hmb hy
                have hmblt : mb < s1.nx := by
                  rw [hnx1]
                  exact Nat.lt_of_not_le fun hle => by rw [hR.dom mb hle] at hy; cases hy
                have hofEnt : ∀ e ∈ ents.toList, ∃ p ∈ es, EntRel P ρ kt p e := fun e he => by
                  obtain ⟨l, hp, hf, _⟩ := hmr
                  exact F2.mem_right hf e (hp.mem_iff.2 he)
                have hofP : ∀ p ∈ es, ∃ e ∈ ents.toList, EntRel P ρ kt p e := fun p hp => by
                  obtain ⟨l, hpm, hf, _⟩ := hmr
                  obtain ⟨es1, es2, rfl⟩ := List.append_of_mem hp
                  obtain ⟨m1, b, m2, rfl, _, hr, _⟩ := hf.split
                  exact ⟨b, hpm.mem_iff.1 (by simp), hr⟩
                have hkeys : ∀ p ∈ es, ∀ q ∈ es, p.1 = q.1 → p = q := fun p hp q hq e => by
                  obtain ⟨l, hpm, hf, hnd⟩ := hmr
                  obtain ⟨es1, es2, rfl⟩ := List.append_of_mem hp
                  rw [List.map_append, List.map_cons, List.nodup_append] at hnd
                  rcases List.mem_append.1 hq with hq | hq
                  · exact (hnd.2.2 q.1 (List.mem_map.2 ⟨q, hq, rfl⟩) p.1 (by simp) e.symm).elim
                  · rcases List.mem_cons.1 hq with rfl | hq
                    · rfl
                    · exact ((List.nodup_cons.1 hnd.2.1).1 (by rw [e]; exact List.mem_map.2 ⟨q, hq, rfl⟩)).elim
                have hborn : ∀ e ∈ ents.toList, ∀ e' ∈ ents.toList, e.born = e'.born → e = e' := fun e he e' he' hb => by
                  obtain ⟨t1, t2, ht⟩ := List.append_of_mem he
                  have hnd := hbn.1
                  rw [ht] at he' hnd
                  rw [List.map_append, List.map_cons, List.nodup_append] at hnd
                  rcases List.mem_append.1 he' with he' | he'
                  · exact (hnd.2.2 e'.born (List.mem_map.2 ⟨e', he', rfl⟩) e.born (by simp) hb.symm).elim
                  · rcases List.mem_cons.1 he' with rfl | he'
                    · rfl
                    · exact ((List.nodup_cons.1 hnd.2.1).1 (by rw [hb]; exact List.mem_map.2 ⟨e', he', rfl⟩)).elim
                let Done : MapEntry → Prop := fun e => ∃ p ∈ es, EntRel P ρ kt p e ∧ RoundOk M ev tm0 s1 p
                let I : Act → World → Prop := fun a1 w1 => EnvOk keep nt ρ tm0 a1 ∧ Marks n0 ρ s1 w1 a1.defers ∧ Rel P ρ s1 w1 ∧ Stp ρ s w ρ s1 w1 ∧ w1.heap[y.b]? = some (.map ents ck) ∧
                  ∃ seen : Array Nat, w1.heap[x.b]? = some (.mapIter (some y.b) ck seen ck) ∧ ∀ e ∈ ents.toList, e.born ∈ seen.toList → Done e
                let μ : Act → World → Nat := fun _ w1 => match w1.heap[x.b]? with | some (.mapIter _ _ seen _) => (ents.toList.filter fun (e : MapEntry) => !seen.toList.contains e.born).length | _ => 0
                refine wpIn_loop I μ ⟨hE0, hM.step hS1, hR1, hS1, hents, #[], hobj, fun e _ h => by simp at h⟩ (fun a1 w1 hI => ?_)
                obtain ⟨hE1, hM1, hRr, hSr, hmap, seen, hob, hdone⟩ := hI
                have hμ : μ a1 w1 = (ents.toList.filter fun e => !seen.toList.contains e.born).length := by
                  show (match w1.heap[x.b]? with | some (.mapIter _ _ seen _) => (ents.toList.filter fun (e : MapEntry) => !seen.toList.contains e.born).length | _ => 0) = _
                  rw [hob]
                refine wpIn_seq ?_
                rcases next_some (P := P) hob hmap hbn with ⟨w2, hall, hrun, hsame⟩ | ⟨en, w2, hen, hnew, hrun, hsame⟩
                · refine nextRegion_ok hF hr1 hog hod hoo hpg hpd hpo (vs := #[.bool false]) (b := false) rfl (Nat.lt_of_lt_of_le hd1 hE1.size) (fun ty => by rw [hptr hE1]; exact hrun ty) ?_
                  have hf : found = none := by
                    cases hfd : found with
                    | none => rfl
                    | some o =>
                      exfalso
                      rcases sp3 o hfd with h | ⟨p, hp, hout⟩
                      · cases h
                      · obtain ⟨e1, he1, hr1'⟩ := hofP p hp
                        obtain ⟨p', hp', hr', ⟨⟨tA, sA, hnorm⟩, _⟩⟩ := hdone e1 he1 (hall e1 he1)
                        have : p' = p := hkeys p' hp' p hp (by rw [hr'.1, hr1'.1])
                        subst this
                        obtain ⟨ho, xx, t3, s3, ho2, hxn⟩ := hout
                        rw [hnorm, ho2] at ho
                        cases ho
                        exact hxn rfl
                  exact over a1 w2 _ hE1 (hM1.step (.of_heap hsame.heap hsame.tape hsame.os hsame.out)) (hRr.of_heap hsame.heap) (hSr.trans (.of_heap hsame.heap hsame.tape hsame.os hsame.out)) hf _ rfl
                · refine nextRegion_ok hF hr1 hog hod hoo hpg hpd hpo (vs := #[.bool true, en.key, en.val]) (b := true) rfl (Nat.lt_of_lt_of_le hd1 hE1.size) (fun ty => by rw [hptr hE1]; exact hrun ty) ?_
                  -- the world in which the round begins
                  have hRw2 : Rel P ρ s1 w2 := hRr.of_heap hsame.heap
                  have hSw2 : Stp ρ s1 w1 ρ s1 w2 := .of_heap hsame.heap hsame.tape hsame.os hsame.out
                  generalize hw3 : ({ w2 with heap := w2.heap.setIfInBounds x.b (.mapIter (some y.b) ck (seen.push en.born) ck) } : World) = w3
                  have hR3 : Rel P ρ s1 w3 := by rw [← hw3]; exact hRw2.unheld hnh
                  have hxs : x.b < w2.heap.size := by
                    have := (Array.getElem?_eq_some_iff.1 hob).1
                    rw [hsame.heap]; exact this
                  have hob3 : w3.heap[x.b]? = some (.mapIter (some y.b) ck (seen.push en.born) ck) := by rw [← hw3]; simp [hxs]
                  have hyx : y.b ≠ x.b := fun e => hnh ⟨mb, _, y, hmb1, hy, e⟩
                  have hmap3 : w3.heap[y.b]? = some (.map ents ck) := by
                    rw [← hw3]
                    simp only
                    rw [Array.getElem?_setIfInBounds_ne (Ne.symm hyx), hsame.heap]
                    exact hmap
                  have hheap : ∀ b, b ≠ x.b → w3.heap[b]? = w1.heap[b]? := fun b hb => by
                    rw [← hw3]
                    simp only
                    rw [Array.getElem?_setIfInBounds_ne (Ne.symm hb), hsame.heap]
                  have hsz3 : w3.heap.size = w1.heap.size := by rw [← hw3]; simp [hsame.heap]
                  have ht3 : w3.tape = w1.tape ∧ w3.os = w1.os ∧ w3.output = w1.output := by rw [← hw3]; exact ⟨hsame.tape, hsame.os, hsame.out⟩
                  have hxl : s.lim ≤ ib := (AS.set_lim hs1).2
                  have hobj0 : w.heap[x.b]? = some (.mapIter (some y.b) ck #[] ck) := hobj
                  have hS3 : Stp ρ s w ρ s1 w3 := by
                    refine ⟨hSr.ren, hSr.nx, by rw [ht3.1]; exact hSr.tape, by rw [ht3.2.1]; exact hSr.os, by rw [ht3.2.2]; exact hSr.out, by rw [hsz3]; exact hSr.size, fun b hb hn => ?_, hSr.ph, fun b l hb => ?_, hSr.lim, hSr.low, fun a' k' x' hl hn hk' hro hx' => ?_⟩
                    · have hbx : b ≠ x.b := fun e => hn ⟨ib, _, x, hblk, hx, e.symm⟩
                      obtain ⟨q1, q2⟩ := hSr.frame b hb hn
                      exact ⟨by rw [hheap b hbx]; exact q1, q2⟩
                    · have hbx : b ≠ x.b := fun e => by rw [e, hobj0] at hb; cases hb
                      rw [hheap b hbx]
                      exact hSr.lp b l hb
                    · have hbx : x'.b ≠ x.b := fun e => by
                        have hne' : a' ≠ ib := by omega
                        have := (hR.excl a' ib k' _ x' x hne' hk' hblk hx' hx e).1
                        rw [hro] at this; cases this
                      rw [hheap _ hbx]
                      exact hSr.lowW a' k' x' hl hn hk' hro hx'
                  have hM3 : Marks n0 ρ s1 w3 a1.defers := by
                    refine ⟨fun d hd => ?_, hM1.apart⟩
                    obtain ⟨r, q1, q2, q3, q4, q5⟩ := hM1.each d hd
                    have hrx : r ≠ x.b := fun e => by rw [e, hob] at q2; cases q2
                    exact ⟨r, q1, by rw [hheap r hrx]; exact q2, by rw [hsz3]; exact q3, q4, q5⟩
                  have hL3 : ∀ l, F.round = some l → ∃ r, w3.heap[l]? = some (Obj.loop r) := loops_step hL hS3
                  have hn3 : n0 ≤ w3.heap.size := Nat.le_trans hn0 hS3.size
                  refine wpIn_seq ?_
                  have hE2 := hE1.put_other (u := .tuple #[.bool true, en.key, en.val]) hkd1
                  have he9 : ((a1.put (some m.d1) (.tuple #[.bool true, en.key, en.val])).put (some m.t9) (.bool true)).eval (.tmp m.t9) = .bool true := eval_tmp (get_put_eq (Nat.lt_of_lt_of_le h9 hE2.size))
                  refine wpIn_cond he9 ?_
                  refine wpIn_skip ?_
                  show (Code.block m.b1 (.seq (.region i2 r2 false) m.body)).wpIn F 0 P _ _ w3
                  obtain ⟨pe, hpe, hent⟩ := hofEnt en hen
                  have hkv : VRel ρ pe.1 en.key := by
                    rw [hent.1]
                    have := hent.2.2.1
                    rw [hent.1] at this
                    exact plain_refl this
                  have hround : ∀ (sA : AS) (xx : XExit) (tx : T Value) (sx : AS), mapRound M ev (pe.1, pe.2.1) tm0 sA = .code xx tx sx → Rel P ρ sA w3 → Marks n0 ρ sA w3 a1.defers → ∀ Q' : Exit → Act → World → Prop, Leaves' P n0 keep nt ρ sA w3 xx tx sx Q' →
                      (Code.block m.b1 (.seq (.region i2 r2 false) m.body)).wpIn F 0 P Q' ((a1.put (some m.d1) (.tuple #[.bool true, en.key, en.val])).put (some m.t9) (.bool true)) w3 := by
                    intro sA xx tx sx hrd hRA hMA Q' hQ'
                    rw [hMround] at hrd
                    cases hp : T.put (some (.bool true)) tm0 m.t9 with
                    | none => rw [hp] at hrd; cases hrd
                    | some tm1 =>
                      rw [hp] at hrd
                      have hE3 := hE2.put hk9 h9 (.bool true) hp
                      have hitv : ((a1.put (some m.d1) (.tuple #[.bool true, en.key, en.val])).put (some m.t9) (.bool true)).eval (.tmp m.it) = .pointer (some ⟨x.b, 0, none⟩) := by
                        have hne1 : m.it ≠ m.d1 := fun e => by rw [e, hkd1] at hkit; cases hkit
                        rw [eval_put_ne (by intro e; exact hit9 (by injection e)), eval_put_ne (by intro e; exact hne1 (by injection e))]
                        exact hptr hE1
                      exact mapBlock_ok hev hF hcok hl2 hr2 hqg hqd hqo hkd2 hd2 (k := pe.1) (v := pe.2.1) hrd hE3 hn3 (by rw [put_defers', put_defers']; exact hMA) hL3 hRA (by rw [hitv]; exact run_entry hob3 hmap3 hbn hen) hkv hent.2.2.2.1 hQ'
                  rcases sp1 pe hpe with hok | ⟨o, hfo, hout⟩
                  · have hok' := hok
                    obtain ⟨_, tx, sx, hrd, hsubT⟩ := hok'
                    have hRL : Rel P ρ ⟨s1.h, s1.nx, s1.nx⟩ w3 := ⟨hR3.dom, hR3.top, hR3.blk, Nat.le_refl _, hR3.excl⟩
                    refine hround _ .normal tx sx hrd hRL ⟨hM3.each, hM3.apart⟩ _ (fun ρ' a' w' hE' hM' hR' hS' => ?_)
                    have hle := hS'.le hRL
                    have hsameH : ∀ q, q < s1.nx → sx.h.get q = s1.h.get q := fun q hq => hS'.low q hq
                    have hRd : Rel P ρ s1 w' := hR3.down hR' hle hsameH
                    have hfr : w'.heap[x.b]? = w3.heap[x.b]? := (hS'.frame x.b (by rw [hsz3]; exact (Array.getElem?_eq_some_iff.1 hob).1) hnh).1
                    have hfm : w'.heap[y.b]? = w3.heap[y.b]? := hS'.lowW mb _ y hmblt hmblt hmb1 rfl hy
                    have hSd : Stp ρ s1 w3 ρ s1 w' := by
                      refine ⟨fun _ _ => rfl, Nat.le_refl _, hS'.tape, hS'.os, hS'.out, hS'.size, fun b hb hn => ⟨(hS'.frame b hb hn).1, hn⟩, fun _ _ _ => .inl rfl, hS'.lp, rfl, fun _ _ => rfl, fun q k' x' hl hn hk' hro hx' => ?_⟩
                      exact hS'.lowW q k' x' (Nat.lt_of_lt_of_le hl hR3.lim) hn hk' hro hx'
                    have hseen' : w'.heap[x.b]? = some (.mapIter (some y.b) ck (seen.push en.born) ck) := by rw [hfr]; exact hob3
                    refine ⟨⟨⟨hE'.size, hE0.tk, envT_down hle hE1.env (fun t v hv => hE'.env t v (subT_get hsubT t v hv))⟩, ⟨fun d hd => ?_, hM'.apart⟩, hRd, hS3.trans hSd, by rw [hfm]; exact hmap3, _, hseen', fun e1 he1 hb1 => ?_⟩, ?_⟩
                    · obtain ⟨r, q1, q2, q3, q4, q5⟩ := hM'.each d hd
                      exact ⟨r, q1, q2, q3, fun hh => q4 (hh.up hR3 hle hsameH), q5⟩
                    · rw [Array.toList_push] at hb1
                      rcases List.mem_append.1 hb1 with hb1 | hb1
                      · exact hdone e1 he1 hb1
                      · simp only [List.mem_singleton] at hb1
                        have := hborn e1 he1 en hen hb1
                        subst this
                        exact ⟨pe, hpe, hent, hok⟩
                    · rw [hμ]
                      show (match w'.heap[x.b]? with | some (.mapIter _ _ seen _) => (ents.toList.filter fun (e : MapEntry) => !seen.toList.contains e.born).length | _ => 0) < _
                      rw [hseen']
                      simp only [Array.toList_push]
                      exact filter_less ⟨en, hen, rfl⟩ hnew
                  · obtain ⟨ho, xx, t3, s3, rfl, hxn⟩ := hout
                    subst hfo
                    have h : Out.code xx t3 s3 = .code e tm' s' := h
                    cases h
                    refine hround s1 e tm' s' ho hR3 hM3 _ (fun ρ' a' w' hE' hM' hR' hS' => ?_)
                    have := hQ ρ' a' w' hE' hM' hR' (hS3.trans hS')
                    cases e with
                    | normal => exact (hxn rfl).elim
                    | exit id => exact this
                    | goto l => exact this
                    | ret => exact this
      · cases h
    · cases h
end Go.Eng
/-! Code, functions, rounds; the evaluator. -/
namespace Go.Eng
open Go
variable {P : Program}
theorem no_ok {keep nt : Nat} (c : Code) : CFOk P keep nt c (fun _ _ _ => .no) := fun ev hev F hF ρ tm s a w x tm' s' h => by cases h
theorem orNo_some {o : Option CF} {f : CF} (h : orNo o = some f) : o = some f ∨ f = fun _ _ _ => .no := by
  cases o with
  | none => cases h; exact .inr rfl
  | some g => cases h; exact .inl rfl
theorem codeN_ok (hP : Plainly P) (hm : P.follows .mixedOrders = true) {keep nt fn : Nat} : ∀ (n : Nat) (c : Code) (f : CF), mkCodeN P fn nt keep n c = some f → CFOk P keep nt c f := by
  intro n
  induction n with
  | zero => intro c f h; cases h
  | succ n ih =>
    intro c
    cases c with
    | skip => intro f h; cases h; exact skip_ok
    | region id ops draw =>
      intro f h
      have h : orNo (bif' draw (mkDraw P keep nt ops.toList fun st last => some (fDraw st last)) (ob (mkRegion P keep nt ops.toList ops.toList []) fRegC)) = some f := h
      rcases orNo_some h with h | rfl
      · cases draw with
        | true => exact draw_ok hm h
        | false =>
          obtain ⟨l, hl, h⟩ := ob_some h
          rw [fRegC_eq] at h
          cases h
          exact region_code_ok hl
      · exact no_ok _
    | seq a b =>
      intro f h
      have h : ob (mkCodeN P fn nt keep n a) (fun a => ob (mkCodeN P fn nt keep n b) fun b => some (fSeq a b)) = some f := h
      obtain ⟨fa, ha, h⟩ := ob_some h
      obtain ⟨fb, hb, h⟩ := ob_some h
      cases h
      exact seq_ok (ih a fa ha) (ih b fb hb)
    | cond c a b =>
      intro f h
      have h : ob (mkOp keep [] c) (fun c => ob (mkCodeN P fn nt keep n a) fun a => ob (mkCodeN P fn nt keep n b) fun b => some (fCond c a b)) = some f := h
      obtain ⟨fc, hc, h⟩ := ob_some h
      obtain ⟨fa, ha, h⟩ := ob_some h
      obtain ⟨fb, hb, h⟩ := ob_some h
      cases h
      exact cond_ok hc (ih a fa ha) (ih b fb hb)
    | block id a =>
      intro f h
      have h : ob (mkCodeN P fn nt keep n a) (fun a => some (fBlock id a)) = some f := h
      obtain ⟨fa, ha, h⟩ := ob_some h
      cases h
      exact block_ok (ih a fa ha)
    | loop a =>
      intro f h
      have h : (match mapShape a with
        | some m => mkMapLoop P nt keep (mkCodeN P fn nt keep n) (writesC a) m
        | none => ob (mkCodeN P fn nt keep n a) fun a => some (fLoop a)) = some f := h
      split at h
      · rename_i m hs
        exact mapLoop_ok hs h (fun c cf hc => ih c cf hc)
      · obtain ⟨fa, ha, h⟩ := ob_some h
        cases h
        exact loop_ok (ih a fa ha)
    | rangeFunc g ps as bd =>
      intro f h
      have h : ob (mkOp keep [] g) (fun f => bif' (allB (fun p => Nat.blt p nt) ps.toList) (some (fRangeFunc P fn nt keep f ps.toList as bd)) none) = some f := h
      obtain ⟨fg, hg, h⟩ := ob_some h
      obtain ⟨hps, h⟩ := bif'_some h
      cases h
      exact rangeFunc_ok hP hg fun p hp => Nat.le_of_ble_eq_true (allB_spec hps p hp)
    | exit id => intro f h; cases h; exact exit_ok id
    | scope a => intro f h; cases h; exact no_ok _
    | label l => intro f h; cases h; exact label_ok l
    | goto l => intro f h; cases h; exact goto_ok l
    | ret => intro f h; cases h; exact ret_ok
    | refuse w => intro f h; cases h; exact no_ok _
theorem code_ok (hP : Plainly P) (hm : P.follows .mixedOrders = true) {keep nt fn : Nat} (c : Code) (f : CF) (h : mkCode P fn nt keep c = some f) : CFOk P keep nt c f := codeN_ok hP hm 1000 c f h
/-! A call's results. -/
def readVar (tmps : Array Value) : ResultVar → Sem Value
  | .tmp t => pure (tmps.getD t undef)
  | .cell a t => do loadVar t (← asAddr (tmps.getD a undef))
theorem resultV_ok {ρ : Ren} {s : AS} {w : World} {tm : T Value} {tmps : Array Value} {r : ResultVar} {v : Value} (hR : Rel P ρ s w) (hE : EnvT ρ tm tmps) (h : resultV P s tm r = some v) : ∃ u, (readVar tmps r).run P w = .ok u w ∧ VRel ρ v u := by
  cases r with
  | tmp t =>
    have h : tm.get t = some v := h
    obtain ⟨u, hu, hv⟩ := hE t v h
    refine ⟨u, ?_, hv⟩
    show Sem.run P (pure (tmps.getD t undef)) w = _
    rw [Array.getD_eq_getD_getElem?, hu]; rfl
  | cell a t =>
    have h : ob (tm.get a) (fun a => loadV P t s a) = some v := h
    obtain ⟨p, hp, h⟩ := ob_some h
    obtain ⟨u, hu, hv⟩ := hE a p hp
    obtain ⟨r, h1, h2⟩ := loadV_sound hR h hv
    refine ⟨r, ?_, h2⟩
    unfold loadV at h
    split at h
    · cases hv with | @ptr _ x off hx => ?_
      have e1 : (Instr.loadAt t (.pointer (some ⟨x.b, x.base + off, none⟩))) = loadVar t ⟨x.b, x.base + off, none⟩ := rfl
      show Sem.run P (do loadVar t (← asAddr (tmps.getD a undef))) w = _
      rw [Array.getD_eq_getD_getElem?, hu]
      rw [e1] at h1
      exact h1
    · cases h
theorem mapM_vals {ρ : Ren} {s : AS} {w : World} {tm : T Value} {tmps : Array Value} (hR : Rel P ρ s w) (hE : EnvT ρ tm tmps) : ∀ (l : List ResultVar) (vs : List Value), resultsA P s tm l = some vs → ∃ us, (l.mapM (readVar tmps)).run P w = .ok us w ∧ VRels ρ vs us
  | [], vs, h => by
    have h : some [] = some vs := h
    cases h; exact ⟨[], rfl, .nil⟩
  | r :: l, vs, h => by
    have h : ob (resultV P s tm r) (fun v => ob (resultsA P s tm l) fun l => some (v :: l)) = some vs := h
    obtain ⟨v, hv, h⟩ := ob_some h
    obtain ⟨vs', hvs, h⟩ := ob_some h
    cases h
    obtain ⟨u, h1, h2⟩ := resultV_ok hR hE hv
    obtain ⟨us, h3, h4⟩ := mapM_vals hR hE l vs' hvs
    refine ⟨u :: us, ?_, .cons h2 h4⟩
    rw [List.mapM_cons]
    simp only [Sem.run_bind, h1, Result.andThen_ok, h3, Sem.run_pure]
theorem results_eq (fn : Func) (tmps : Array Value) : results fn tmps = (do let vs ← fn.results.mapM (readVar tmps); pure (if h : vs.size = 1 then vs[0] else .tuple vs)) := by
  unfold results
  congr 1
theorem results_ok {ρ : Ren} {s s' : AS} {w : World} {tm : T Value} {tmps : Array Value} {fn : Func} {v : Value} (hR : Rel P ρ s w) (hE : EnvT ρ tm tmps) (h : retOut P fn.results.toList tm s = .val v s') : s' = s ∧ ∃ u, (results fn tmps).run P w = .ok u w ∧ VRel ρ v u := by
  have h : Option.rec (motive := fun _ => Out) .no (fun vs => match vs with
    | [v] => .val v s
    | vs => .val (.tuple ⟨vs⟩) s) (resultsA P s tm fn.results.toList) = .val v s' := h
  cases hr : resultsA P s tm fn.results.toList with
  | none => rw [hr] at h; cases h
  | some vs =>
    rw [hr] at h
    obtain ⟨us, h1, h2⟩ := mapM_vals hR hE _ _ hr
    have hrun : (fn.results.mapM (readVar tmps)).run P w = .ok us.toArray w := by
      rw [Array.mapM_eq_mapM_toList]
      have : (Functor.map List.toArray (fn.results.toList.mapM (readVar tmps))) = (do let l ← fn.results.toList.mapM (readVar tmps); pure l.toArray) := by rw [map_eq_pure_bind]
      rw [this]
      simp only [Sem.run_bind, h1, Result.andThen_ok, Sem.run_pure]
    rw [results_eq]
    simp only [Sem.run_bind, hrun, Result.andThen_ok, Sem.run_pure]
    have hl := h2.length
    match vs, us, h2, h with
    | [v'], [u'], .cons hv .nil, h => cases h; exact ⟨rfl, u', rfl, hv⟩
    | [], [], h2, h => cases h; exact ⟨rfl, .tuple #[], rfl, .tuple .nil⟩
    | v1 :: v2 :: vs, u1 :: u2 :: us, h2, h =>
      cases h
      refine ⟨rfl, .tuple (u1 :: u2 :: us).toArray, ?_, .tuple h2⟩
      simp
/-! A function's body. -/
theorem run_takeDeferred {r : Nat} {w : World} (h : w.heap[r]? = some (.deferred (some []))) : (Instr.takeDeferred r).run P w = .ok [] { w with heap := w.heap.setIfInBounds r (.deferred none) } := by
  simp only [Instr.takeDeferred, Sem.run_bind, run_getObj' h (by simp), Result.andThen_ok, run_setObj' h (by simp), Sem.run_pure]
theorem leaves_marks {F : Fence} {fn : Func} {tmps : Array Value} {R : Ending → World → Prop} {n0 : Nat} {ρ0 ρ : Ren} {s0 s : AS} {w0 : World} (hn0 : n0 = w0.heap.size) {v : Value} (hv : ∀ w, Rel P ρ s w → ∃ u, (results fn tmps).run P w = .ok u w ∧ VRel ρ v u)
    (hQ : ∀ u w, VRel ρ v u → Rel P ρ s w → Stp ρ0 s0 w0 ρ s w → R (.returned u) w) : ∀ (ds : List Deferred) (w : World), Marks n0 ρ s w ds → Rel P ρ s w → Stp ρ0 s0 w0 ρ s w → LeavesInM F 0 P fn tmps R ds .returning w
  | [], w, _, hR, hS => by
    obtain ⟨u, h1, h2⟩ := hv w hR
    exact ⟨u, h1, hQ u w h2 hR hS⟩
  | d :: ds, w, hM, hR, hS => by
    obtain ⟨r, h1, h2, h3, h4, h5⟩ := hM.each d (by simp)
    refine ⟨by simp, .inl ⟨r, _, h1, run_takeDeferred h2, leaves_marks hn0 hv hQ ds _ ⟨fun d' hd' => ?_, (List.pairwise_cons.1 hM.apart).2⟩ (hR.unheld h4) ?_⟩⟩
    · obtain ⟨r', e1, e2, e3, e4, e5⟩ := hM.each d' (by simp [hd'])
      have hne : r ≠ r' := fun e => (List.pairwise_cons.1 hM.apart).1 d' hd' r h1 (by rw [e1, e])
      exact ⟨r', e1, by simp [hne, e2], by simpa using e3, e4, e5⟩
    · refine ⟨hS.ren, hS.nx, hS.tape, hS.os, hS.out, by simpa using hS.size, fun b hb hn => ?_, hS.ph, fun b l hb => ?_, hS.lim, hS.low, fun a k x hl hn hk hro hx => ?_⟩
      · obtain ⟨a1, a2⟩ := hS.frame b hb hn
        have hne : r ≠ b := by omega
        exact ⟨by simp [hne, a1], a2⟩
      · obtain ⟨r', hr'⟩ := hS.lp b l hb
        have hne : r ≠ b := fun e => by rw [e, hr'] at h2; cases h2
        exact ⟨r', by simp [hne, hr']⟩
      · have hne : r ≠ x.b := fun e => h4 ⟨a, k, x, by rw [hS.low a hl]; exact hk, by rw [hS.ren a hn]; exact hx, e.symm⟩
        rw [← hS.lowW a k x hl hn hk hro hx]
        simp [hne]
theorem putKept_get {keep i : Nat} {v : Value} {t t' : T Value} (h : putKept keep i v t = some t') : ∀ j, t'.get j = if kept keep i = true ∧ j = i then some v else t.get j := by
  have h : bif' (kept keep i) (T.put (some v) t i) (some t) = some t' := h
  cases hk : kept keep i with
  | true =>
    rw [hk, bif'_true] at h
    intro j
    rw [T.get_put _ _ _ _ h j]
    simp
  | false => rw [hk, bif'_false] at h; cases h; intro j; simp
theorem putArgs_get {keep : Nat} : ∀ (l : List Value) (i : Nat) (t t' : T Value), putArgs keep l i t = some t' → ∀ j v, t'.get j = some v → (kept keep j = true ∧ i ≤ j ∧ l[j - i]? = some v) ∨ t.get j = some v
  | [], i, t, t', h, j, v, hv => by
    have h : some t = some t' := h
    cases h; exact .inr hv
  | a :: l, i, t, t', h, j, v, hv => by
    have h : ob (putKept keep i a t) (fun t' => putArgs keep l (Nat.succ i) t') = some t' := h
    obtain ⟨t1, h1, h⟩ := ob_some h
    rcases putArgs_get l _ _ _ h j v hv with ⟨e1, e2, e3⟩ | e
    · refine .inl ⟨e1, by omega, ?_⟩
      rw [show j - i = (j - (i + 1)) + 1 by omega]
      simpa using e3
    · rw [putKept_get h1] at e
      split at e
      · rename_i hc
        cases e
        obtain ⟨hk, rfl⟩ := hc
        exact .inl ⟨hk, by omega, by simp⟩
      · exact .inr e
theorem fn_ok (hP : Plainly P) (hm : P.follows .mixedOrders = true) {f keep : Nat} {fn : Func} {c : Code} (hf : P.funcs[f]? = some fn) (hb : fn.body = some c) {t0 : T Value} (ht0 : mkT fn.ntmps = some t0) {b : CF} (hc : mkCode P f fn.ntmps keep c = some b)
    {ev : Ev} (hev : EvOk P ev) {args args' : List Value} {s s' : AS} {v : Value} (h : fFn P keep t0 fn.results.toList b ev args s = .val v s') {ρ : Ren} {w : World} (hR : Rel P ρ s w) (ha : VRels ρ args args') :
    CallsIn Fence.wide 0 P f args'.toArray w fun e w' => ∃ u, e = .returned u ∧ ∃ ρ', VRel ρ' v u ∧ Rel P ρ' s' w' ∧ Stp ρ s w ρ' s' w' := by
  have h : Option.rec (motive := fun _ => Out) .no (fun tm => afterBody P fn.results.toList (b ev tm s)) (putArgs keep args 0 t0) = .val v s' := h
  cases hp : putArgs keep args 0 t0 with
  | none => rw [hp] at h; cases h
  | some tm =>
    rw [hp] at h
    have h : afterBody P fn.results.toList (b ev tm s) = .val v s' := h
    have hlen := ha.length
    have hE : EnvOk keep fn.ntmps ρ tm { tmps := args'.toArray ++ Array.replicate (fn.ntmps - args'.toArray.size) undef, defers := [] } := by
      refine ⟨by simp; omega, fun t v hv => ?_, fun t v hv => ?_⟩
      · rcases putArgs_get _ _ _ _ hp t v hv with ⟨h1, _, _⟩ | h1
        · exact h1
        · rw [mkT_get _ _ ht0] at h1; cases h1
      · rcases putArgs_get _ _ _ _ hp t v hv with ⟨_, _, h1⟩ | h1
        · obtain ⟨u, hu, hv'⟩ := ha.get h1
          refine ⟨u, ?_, hv'⟩
          have hlt : t < args'.length := by
            have := (List.getElem?_eq_some_iff.1 hu).1
            simpa using this
          rw [Array.getElem?_append_left (by simpa using hlt)]
          simpa using hu
        · rw [mkT_get _ _ ht0] at h1; cases h1
    refine callsIn_of_wp_marks hf hb trivial ?_
    cases ho : b ev tm s with
    | no => rw [ho] at h; cases h
    | val => rw [ho] at h; cases h
    | code x tm1 s1 =>
      rw [ho] at h
      have fin : ∀ ρ' a' w', EnvOk keep fn.ntmps ρ' tm1 a' → Marks w.heap.size ρ' s1 w' a'.defers → Rel P ρ' s1 w' → Stp ρ s w ρ' s1 w' → retOut P fn.results.toList tm1 s1 = .val v s' →
          LeavesInM Fence.wide 0 P fn a'.tmps (fun e w' => ∃ u, e = .returned u ∧ ∃ ρ', VRel ρ' v u ∧ Rel P ρ' s' w' ∧ Stp ρ s w ρ' s' w') a'.defers .returning w' := by
        intro ρ' a' w' hE' hM' hR' hS' hret
        obtain ⟨hss, _⟩ := results_ok hR' hE'.env hret
        rw [hss]
        exact leaves_marks (n0 := w.heap.size) rfl (fun w2 hR2 => (results_ok hR2 hE'.env hret).2) (fun u w2 hu hR2 hS2 => ⟨u, rfl, ρ', hu, hR2, hS2⟩) _ _ hM' hR' hS'
      refine code_ok hP hm c b hc ev hev Fence.wide (.inl rfl) ρ tm s _ w x tm1 s1 ho hE w.heap.size (Nat.le_refl _) ⟨fun d hd => (by cases hd), .nil⟩ (fun l hl => (by cases hl)) hR _ (fun ρ' a' w' hE' hM' hR' hS' => ?_)
      cases x with
      | normal => exact fin ρ' a' w' hE' hM' hR' hS' h
      | ret => exact fin ρ' a' w' hE' hM' hR' hS' h
      | exit id => cases h
      | goto l => cases h
/-! Rounds. -/
theorem setParams_get {kp : Nat} : ∀ (ps : List Tmp) (l : List Value) (t t' : T Value), setParams kp ps l t = some t' → ∀ {ρ : Ren} {l' : List Value} {tmps : Array Value}, VRels ρ l l' → EnvT ρ t tmps → (∀ p ∈ ps, p < tmps.size) → (∀ j v, t.get j = some v → kept kp j = true) →
    l'.length = ps.length ∧ EnvT ρ t' ((ps.toArray.zip l'.toArray).foldl (fun tmps (t, a) => tmps.setIfInBounds t a) tmps) ∧ (∀ j v, t'.get j = some v → kept kp j = true) ∧ ((ps.toArray.zip l'.toArray).foldl (fun tmps (t, a) => tmps.setIfInBounds t a) tmps).size = tmps.size
  | [], l, t, t', h, ρ, l', tmps, hl, hE, _, hk => by
    cases l with
    | nil =>
      have h : some t = some t' := h
      cases h; cases hl
      exact ⟨rfl, by simpa using hE, hk, by simp⟩
    | cons => cases h
  | p :: ps, l, t, t', h, ρ, l', tmps, hl, hE, hlt, hk => by
    cases l with
    | nil => cases h
    | cons v l =>
      have h : ob (putKept kp p v t) (fun t' => setParams kp ps l t') = some t' := h
      obtain ⟨t1, h1, h⟩ := ob_some h
      cases hl with | @cons _ u _ l' hv hs => ?_
      have hg := putKept_get h1
      obtain ⟨a1, a2, a3, a4⟩ := setParams_get ps l t1 t' h (tmps := tmps.setIfInBounds p u) hs (fun j w hw => by
        rw [hg] at hw
        by_cases e : j = p
        · subst e
          by_cases hkp : kept kp j = true
          · rw [if_pos ⟨hkp, rfl⟩] at hw; cases hw
            exact ⟨u, by simp [hlt j (by simp)], hv⟩
          · rw [if_neg (fun h => hkp h.1)] at hw
            exact (hkp (hk j w hw)).elim
        · rw [if_neg (fun h => e h.2)] at hw
          obtain ⟨u', hu', hr⟩ := hE j w hw
          exact ⟨u', by rw [Array.getElem?_setIfInBounds_ne (Ne.symm e)]; exact hu', hr⟩) (fun q hq => by simpa using hlt q (by simp [hq])) (fun j w hw => by
        rw [hg] at hw
        split at hw
        · rename_i hc; rw [hc.2]; exact hc.1
        · exact hk j w hw)
      refine ⟨by simp [a1], ?_, a3, ?_⟩
      · rw [List.zip_toArray] at a2 ⊢; simpa using a2
      · rw [List.zip_toArray] at a4 ⊢; simpa using a4
theorem run_getLoop {l : Nat} {r : Loop} {w : World} (h : w.heap[l]? = some (.loop r)) : (Instr.getLoop l).run P w = .ok r w := by
  simp only [Instr.getLoop, Sem.run_bind, run_getObj_loop h, Result.andThen_ok, Sem.run_pure]
theorem run_yield {l : Nat} {r : Loop} {w : World} {args : Array Value} (h : w.heap[l]? = some (.loop r)) (ha : args.size = r.params.size) :
    (Instr.yield l args).run P w = .ok (.round l r.fn ((r.params.zip args).foldl (fun tmps (t, a) => tmps.setIfInBounds t a) r.tmps) r.assign r.body) w := by
  simp only [Instr.yield, Sem.run_bind, run_getLoop h, Result.andThen_ok, ha, ne_eq, not_true_eq_false, if_false, Sem.run_pure]
theorem run_beginRound {l : Nat} {r : Loop} {w : World} (h : w.heap[l]? = some (.loop r)) (hs : r.state = .ready) : (Instr.beginRound l).run P w = .ok () (w.putObj l (.loop { r with state := .busy })) := by
  simp only [Instr.beginRound, Sem.run_bind, run_getLoop h, Result.andThen_ok, run_setObj_loop _ h, hs, Sem.run_pure]
theorem run_endRound {l : Nat} {r : Loop} {w : World} {j : Option Code} (h : w.heap[l]? = some (.loop r)) : (Instr.endRound l j).run P w = .ok (.bool j.isNone) (w.putObj l (.loop { r with state := if j.isNone then .ready else .done, pending := j })) := by
  simp only [Instr.endRound, Sem.run_bind, run_getLoop h, Result.andThen_ok, run_setObj_loop _ h, Sem.run_pure]
theorem runReady_some {ev : Ev} {o : Option CF} {tm : T Value} {s : AS} {x : XExit} {tm' : T Value} {s' : AS} (h : runReady ev o tm s = .code x tm' s') : ∃ f, o = some f ∧ f ev tm s = .code x tm' s' := by
  cases o with
  | none => cases h
  | some f => exact ⟨f, rfl, h⟩
theorem yield_ok (hP : Plainly P) (hm : P.follows .mixedOrders = true) {ev : Ev} (hev : EvOk P ev) {l : Nat} {args args' : List Value} {s s' : AS} {v : Value} (h : callYield P ev l args s = .val v s') {ρ : Ren} {w : World} {x : Loc} (hR : Rel P ρ s w) (hx : ρ l = some x) (ha : VRels ρ args args') :
    CallRun P (Instr.yield x.b args'.toArray) w fun u w' => ∃ ρ', VRel ρ' v u ∧ Rel P ρ' s' w' ∧ Stp ρ s w ρ' s' w' := by
  obtain ⟨st, pend, fn, nt, kp, tm, ps, as, bd, hblk, h⟩ := loopOf_some h (by simp)
  have h : st = .ready ∧ Option.rec (motive := fun _ => Out) .no (fun tm1 => beginRound ev l (mkCode P fn nt kp bd) (runReady ev (mkCode P fn nt kp as) tm1 s)) (setParams kp ps args tm) = .val v s' := by
    cases st <;> first | (cases h; done) | exact ⟨rfl, h⟩
  obtain ⟨rfl, h⟩ := h
  cases hsp : setParams kp ps args tm with
  | none => rw [hsp] at h; cases h
  | some tm1 =>
    rw [hsp] at h
    have h : beginRound ev l (mkCode P fn nt kp bd) (runReady ev (mkCode P fn nt kp as) tm1 s) = .val v s' := h
    obtain ⟨hlt, tmps, fn', d, hh, h1, h2, h3, h4⟩ := hR.blk l _ x hblk hx
    obtain ⟨a1, a2, a3, a4⟩ := setParams_get ps args tm tm1 hsp ha h1 (fun p hp => Nat.lt_of_lt_of_le (h4 p hp) h3) h2
    unfold CallRun
    rw [run_yield hh (by simpa using a1)]
    simp only
    cases ho : runReady ev (mkCode P fn nt kp as) tm1 s with
    | no => rw [ho] at h; cases h
    | val => rw [ho] at h; cases h
    | code e1 tm2 s2 =>
      rw [ho] at h
      have hn : e1 = .normal := by cases e1 <;> first | rfl | (cases h; done)
      subst hn
      have h : loopOf (s2.h.get l) (fun st pend fn2 nt2 kp2 tm ps assign body => match st with
        | .ready => setOut s2 l (.loop .busy pend fn2 nt2 kp2 tm ps assign body) fun s3 => endRound l (runReady ev (mkCode P fn nt kp bd) tm2 s3)
        | _ => .no) = .val v s' := h
      obtain ⟨st2, pend2, fn2, nt2, kp2, tm2', ps2, as2, bd2, hblk2, h⟩ := loopOf_some h (by simp)
      have h : st2 = .ready ∧ (setOut s2 l (.loop .busy pend2 fn2 nt2 kp2 tm2' ps2 as2 bd2) fun s3 => endRound l (runReady ev (mkCode P fn nt kp bd) tm2 s3)) = .val v s' := by
        cases st2 <;> first | (cases h; done) | exact ⟨rfl, h⟩
      obtain ⟨rfl, h⟩ := h
      obtain ⟨s3, hs3, h⟩ := setOut_some h (by simp)
      obtain ⟨fa, hfa, ho⟩ := runReady_some ho
      cases ho4 : runReady ev (mkCode P fn nt kp bd) tm2 s3 with
      | no => rw [ho4] at h; cases h
      | val => rw [ho4] at h; cases h
      | code e4 tm4 s4 =>
        rw [ho4] at h
        obtain ⟨fb, hfb, ho4⟩ := runReady_some ho4
        have h : loopOf (s4.h.get l) (fun _ _ fn nt kp tm ps assign body => match (generalizing := false) e4 with
          | .normal => setOut s4 l (.loop .ready none fn nt kp tm ps assign body) fun s5 => .val (.bool true) s5
          | .ret => setOut s4 l (.loop .done (some .ret) fn nt kp tm ps assign body) fun s5 => .val (.bool false) s5
          | .exit id => setOut s4 l (.loop .done (some (.exit id)) fn nt kp tm ps assign body) fun s5 => .val (.bool false) s5
          | .goto _ => .no) = .val v s' := h
        obtain ⟨st5, pend5, fn5, nt5, kp5, tm5, ps5, as5, bd5, hblk5, h⟩ := loopOf_some h (by simp)
        have hlnx : l < s.nx := Nat.lt_of_not_le fun hle => by rw [hR.dom l hle] at hx; cases hx
        refine roundIn_of_wpIn trivial ?_
        have hL : ∀ l', (Fence.wide.inRound x.b).round = some l' → ∃ r, w.heap[l']? = some (Obj.loop r) := fun l' hl' => by
          have : x.b = l' := Option.some.inj hl'
          rw [← this]; exact ⟨_, hh⟩
        refine code_ok hP hm as fa hfa ev hev (Fence.wide.inRound x.b) (.inr ⟨_, rfl⟩) ρ tm1 s { tmps := (ps.toArray.zip args'.toArray).foldl (fun tmps (t, a) => tmps.setIfInBounds t a) tmps, defers := [] } w .normal tm2 s2 ho ⟨Nat.le_trans h3 (Nat.le_of_eq a4.symm), a3, a2⟩ w.heap.size (Nat.le_refl _) ⟨fun d hd => (by cases hd), .nil⟩ hL hR _ (fun ρ2 a2' w2 hE2 hM2 hR2 hS2 => ?_)
        have hx2 : ρ2 l = some x := by rw [hS2.ren l hlnx]; exact hx
        obtain ⟨r2, hr2, rs2, _, _, _, _, _, _, _, _, hR3, hS3⟩ := loop_set hR2 hx2 hblk2 hs3
        refine ⟨_, run_beginRound hr2 rs2, ?_⟩
        have hrr : ({ r2 with state := LoopState.busy } : Loop) = { r2 with state := LoopState.busy, pending := pend2 } := by
          have : r2.pending = pend2 := by assumption
          rw [← this]
        rw [hrr]
        have hS03 := hS2.trans hS3
        refine code_ok hP hm bd fb hfb ev hev (Fence.wide.inRound x.b) (.inr ⟨_, rfl⟩) ρ2 tm2 s3 a2' _ e4 tm4 s4 ho4 hE2 w.heap.size hS03.size (hM2.step hS3) (loops_step hL hS03) hR3 _ (fun ρ4 a4' w4 hE4 _ hR4 hS4 => ?_)
        · have hS04 := hS03.trans hS4
          have hx4 : ρ4 l = some x := by rw [hS04.ren l hlnx]; exact hx
          have fin : ∀ (st' : LoopState) (j : Option Code), (setOut s4 l (.loop st' j fn5 nt5 kp5 tm5 ps5 as5 bd5) fun s5 => .val (.bool j.isNone) s5) = .val v s' → st' = (if j.isNone then .ready else .done) →
              ∃ v1 w5, (Instr.endRound x.b j).run P w4 = .ok v1 w5 ∧ ∃ u, Ending.returned v1 = .returned u ∧ ∃ ρ', VRel ρ' v u ∧ Rel P ρ' s' w5 ∧ Stp ρ s w ρ' s' w5 := by
            intro st' j hset hst'
            obtain ⟨s5, hs5, hset⟩ := setOut_some hset (by simp)
            cases hset
            obtain ⟨r5, hr5, _, _, _, _, _, _, _, _, _, hR5, hS5⟩ := loop_set hR4 hx4 hblk5 hs5
            refine ⟨_, _, run_endRound hr5, _, rfl, ρ4, .bool _, ?_, ?_⟩
            · rw [← hst']; exact hR5
            · rw [← hst']; exact hS04.trans hS5
          cases e4 with
          | normal => exact fin .ready none h rfl
          | ret => exact fin .done (some .ret) h rfl
          | exit id => exact fin .done (some (.exit id)) h rfl
          | goto l => cases h
end Go.Eng
/-! Functions without a body. -/
namespace Go.Eng
open Go
variable {P : Program} {ρ : Ren}
/-- a function made ready can be trusted. -/
def FFOk (P : Program) (f : Nat) (F : FF) : Prop := ∀ ev, EvOk P ev → ∀ args s v s', F ev args s = .val v s' → ∀ ρ w args', Rel P ρ s w → VRels ρ args args' →
  CallRun P (callFunc f args'.toArray) w fun u w' => ∃ ρ', VRel ρ' v u ∧ Rel P ρ' s' w' ∧ Stp ρ s w ρ' s' w'
/-- what a function without a body is. -/
def ExtFits (P : Program) (f : Nat) : Ext → Prop
  | .same => ∃ fn, P.funcs[f]? = some fn ∧ fn.body.isNone = true ∧ Extern.findNext fn = none ∧ Extern.find fn = some Extern.AbiNoEscape.same
  | .cmp => ∃ fn, P.funcs[f]? = some fn ∧ fn.body.isNone = true ∧ Extern.findNext fn = none ∧ Extern.find fn = some Extern.BytealgCompare.compare
  | .makeNoZero et => ∃ fn ps t, P.funcs[f]? = some fn ∧ fn.body.isNone = true ∧ Extern.findNext fn = none ∧ Extern.find fn = some (Extern.BytealgMakeNoZero.makeNoZero ps #[t]) ∧ P.underlying t = some (.slice et)
  | .indexByteString => ∃ fn, P.funcs[f]? = some fn ∧ fn.body.isNone = true ∧ Extern.findNext fn = none ∧ Extern.find fn = some Extern.BytealgIndexByte.indexByte
theorem compare_eq : ∀ (a b : List UInt8), Lib.compareBytes a b = if Op.bytesLess a b = true then -1 else if (a == b) = true then 0 else 1
  | [], [] => rfl
  | [], _ :: _ => rfl
  | _ :: _, [] => rfl
  | x :: a, y :: b => by
    have ih := compare_eq a b
    show (if x < y then (-1 : Int) else if y < x then 1 else Lib.compareBytes a b) = if (decide (x < y) || (x == y && Op.bytesLess a b)) = true then -1 else if (x :: a == y :: b) = true then 0 else 1
    by_cases h1 : x < y
    · simp [h1]
    · by_cases h2 : y < x
      · have hne : x ≠ y := fun e => by subst e; exact h1 h2
        simp [h1, h2, hne]
      · have he : x = y := by
          rw [UInt8.lt_iff_toNat_lt] at h1 h2
          exact UInt8.toNat_inj.1 (by omega)
        subst he
        rw [if_neg h1, ih]
        simp [h1]
theorem sem_val {m : Sem Value} {u : Value} {w w' : World} {f : Nat} {fn : Func} {e : Array Value → Sem Value} {args : Array Value} (hP : Plainly P) (hf : P.funcs[f]? = some fn) (hb : fn.body.isNone = true) (hn : Extern.findNext fn = none) (he : Extern.find fn = some e) (hm : e args = m)
    (hr : m.run P w = .ok u w') : (callFunc f args).run P w = .ok (.value u) w' := by
  rw [run_callFunc_extern hf (hP f fn hf) hb hn he, hm, hr]; rfl
theorem findByte_eq (c : Nat) : ∀ (l : List UInt8) (i : Nat), findByte c l i = match (List.range l.length).find? fun k => (l[k]?.getD 0).toNat == c with | some k => ((i + k : Nat) : Int) | none => -1
  | [], i => rfl
  | b :: l, i => by
    have ih := findByte_eq c l (i + 1)
    show bif' (Nat.beq b.toNat c) (.ofNat i) (findByte c l (Nat.succ i)) = _
    rw [List.length_cons, Lib.find_range_succ]
    have h0 : (((b :: l)[0]?.getD 0).toNat == c) = Nat.beq b.toNat c := by
      rw [Bool.eq_iff_iff]
      constructor
      · intro h; rw [Nat.beq_eq]; simpa using h
      · intro h; rw [Nat.beq_eq] at h; simpa using h
    rw [h0]
    cases hb : Nat.beq b.toNat c with
    | true => rfl
    | false =>
      rw [bif'_false, ih]
      have he : (fun k => (((b :: l)[k + 1]?.getD 0).toNat == c)) = fun k => (l[k]?.getD 0).toNat == c := by funext k; simp
      simp only [Bool.false_eq_true, if_false, he]
      cases (List.range l.length).find? fun k => (l[k]?.getD 0).toNat == c with
      | none => rfl
      | some k =>
        show ((i + 1 + k : Nat) : Int) = ((i + (k + 1) : Nat) : Int)
        congr 1; omega
theorem digits_int : ∀ (n t : Nat) (acc : Array Value), (∀ v ∈ acc.toList, oneCell v = true) → ∀ v ∈ (Extern.BytealgMakeNoZero.digits n t acc).toList, oneCell v = true
  | 0, _, _, h => h
  | n + 1, t, acc, h => by
    rw [Extern.BytealgMakeNoZero.digits]
    refine digits_int n _ _ fun v hv => ?_
    rw [Array.toList_push] at hv
    rcases List.mem_append.1 hv with hv | hv
    · exact h v hv
    · simp only [List.mem_singleton] at hv; subst hv; rfl
theorem junk_rels : ∀ (l : List Value), (∀ v ∈ l, oneCell v = true) → VRels ρ (List.replicate l.length (Value.complex .f32 0 0)) l
  | [], _ => .nil
  | v :: l, h => .cons (.junk _ _ _ _ (h v (by simp))) (junk_rels l fun u hu => h u (by simp [hu]))
theorem find_congr {α : Type} {p q : α → Bool} : ∀ {l : List α}, (∀ x ∈ l, p x = q x) → l.find? p = l.find? q
  | [], _ => rfl
  | x :: l, h => by
    rw [List.find?_cons, List.find?_cons, h x (by simp), find_congr fun y hy => h y (by simp [hy])]
theorem flat_single {α : Type} (x : α) : ∀ n : Nat, (List.replicate n [x]).flatten = List.replicate n x
  | 0 => rfl
  | n + 1 => by rw [List.replicate_succ, List.flatten_cons, List.replicate_succ, flat_single x n]; rfl
theorem run_mnz (ps : Array TypeId) (t e : TypeId) (ht : P.underlying t = some (.slice e)) (n : Nat) (hn : n ≤ 281474976710656) (w : World) :
    ∃ cs : Array Value, (Extern.BytealgMakeNoZero.makeNoZero ps #[t] #[.int .i64 n]).run P w = .ok (.slice (some ⟨w.heap.size, 0, none⟩) n cs.size) (w.drew.drew.alloc (.cells cs e)) ∧ n ≤ cs.size ∧ ∀ v ∈ cs.toList, oneCell v = true := by
  obtain ⟨q, bad1, bad2, hdef, hq⟩ : ∃ (q : Question) (bad1 : Sem Value) (bad2 : Sem Unit), Extern.BytealgMakeNoZero.makeNoZero ps #[t] #[.int .i64 n] =
      (do
        let .slice elem ← underlying t | bad1
        if (n : Int) < 0 || (n : Int) > 2 ^ 48 then bad2
        let cap ← choose (.appendCap (n : Int).toNat 0 elem)
        askRoom cap
        let bytes ← choose q
        let a ← newRow elem (Extern.BytealgMakeNoZero.digits cap bytes #[])
        pure (.slice (some a) (n : Int).toNat cap)) ∧ q.forced = false := ⟨_, _, _, rfl, rfl⟩
  refine ⟨Extern.BytealgMakeNoZero.digits (grownCap w n 0 e) (q.cut (w.tape (w.drawn + 1) q)) #[], ?_, ?_, digits_int _ _ _ (by simp)⟩
  · rw [hdef]
    have h1 : ¬ (n : Int) < 0 := by omega
    have h2 : ¬ (281474976710656 : Int) < (n : Int) := by omega
    have h3 : ∀ a b, (Question.appendCap a 0 b).forced = false := fun _ _ => rfl
    simp [run_underlying ht, h1, h2, h3, hq, newRow, Lib.size_digits, grownCap]
  · rw [Lib.size_digits]
    simpa using grownCap_ge w n 0 e
theorem ext_ok (hP : Plainly P) {f : Nat} {e : Ext} (hf : ExtFits P f e) : FFOk P f (fun _ args s => outO (extA s e args)) := by
  intro ev hev args s v s' h ρ w args' hR ha
  have h : outO (extA s e args) = .val v s' := h
  have hx : extA s e args = some (v, s') := by
    cases hx : extA s e args with
    | none => rw [hx] at h; cases h
    | some p => rw [hx] at h; cases h; rfl
  clear h
  unfold CallRun
  unfold extA at hx
  split at hx
  · rename_i x
    cases hx
    obtain ⟨fn, h1, h2, h3, h4⟩ := hf
    obtain ⟨x', rfl, hv⟩ := VRels.onev ha
    rw [sem_val (m := pure x') (w' := w) (u := x') hP h1 h2 h3 h4 rfl rfl]
    exact ⟨ρ, hv, hR, .refl _ _ _⟩
  · rename_i a b
    cases hx
    obtain ⟨fn, h1, h2, h3, h4⟩ := hf
    obtain ⟨a', b', rfl, hva, hvb⟩ := VRels.two ha
    cases hva; cases hvb
    rw [sem_val (m := Extern.BytealgCompare.compare #[.string a, .string b]) (w' := w) hP h1 h2 h3 h4 rfl (Lib.run_compareString ..)]
    refine ⟨ρ, ?_, hR, .refl _ _ _⟩
    rw [compare_eq, bLt_eq, bEq_eq, bif'_eq, bif'_eq]
    have : (if Op.bytesLess a.data.toList b.data.toList = true then Int.negSucc 0 else if (a.data.toList == b.data.toList) = true then Int.ofNat 0 else Int.ofNat 1) = (if Op.bytesLess a.data.toList b.data.toList = true then (-1 : Int) else if (a.data.toList == b.data.toList) = true then 0 else 1) := rfl
    rw [this]
    exact .int _ _
  · rename_i et n
    obtain ⟨hn, hx⟩ := bif'_some hx
    obtain ⟨els, hels, hx⟩ := ob_some hx
    have hn : n ≤ 1000000 := Nat.le_of_ble_eq_true hn
    have hels := repl_eq _ _ _ hels
    subst hels
    obtain ⟨fn, ps, t, h1, h2, h3, h4, h5⟩ := hf
    obtain ⟨x', rfl, hv⟩ := VRels.onev ha
    cases hv
    obtain ⟨cs, hrun, hle, hone⟩ := run_mnz ps t et h5 n (by omega) w
    have hsv := sem_val (args := #[.int .i64 (.ofNat n)]) hP h1 h2 h3 h4 rfl hrun
    rw [hsv]
    have hcl : cs.toList.length = cs.size := by simp
    have hcs : cs = (cs.toList.take n ++ cs.toList.drop n).toArray := by apply Array.ext'; simp
    have hflat : (List.replicate n [Value.complex .f32 0 0]).flatten = List.replicate (cs.toList.take n).length (Value.complex .f32 0 0) := by
      have : (cs.toList.take n).length = n := by rw [List.length_take]; omega
      rw [this]
      exact flat_single _ n
    obtain ⟨ρ', hv, hR', hS'⟩ := rowLB_sound (w' := w.drew.drew.alloc (.cells cs et)) (cs := cs.toList.take n) (rest := cs.toList.drop n) (lo := 0) (hi := 0) (cap := cs.size) hR hx (by
      rw [hflat]; exact junk_rels _ fun v hv => hone v (List.mem_of_mem_take hv)) hle (by rw [List.length_take, List.length_drop]; omega) (fun o h1 h2 => by omega) (by rw [← hcs]; rfl) rfl rfl rfl
    exact ⟨ρ', hv, hR', hS'⟩
  · rename_i a c
    obtain ⟨n, hn, hx⟩ := ob_some hx
    obtain ⟨hlt, hx⟩ := bif'_some hx
    obtain ⟨u, hu, hx⟩ := ob_some hx
    cases hx
    obtain ⟨fn, h1, h2, h3, h4⟩ := hf
    obtain ⟨a', b', rfl, hva, hvb⟩ := VRels.two ha
    cases hva; cases hvb
    have hlt : n < 256 := Nat.le_of_ble_eq_true hlt
    have hc : c = (n : Int) := by cases c with | ofNat m => cases hn; rfl | negSucc m => cases hn
    subst hc
    rw [sem_val (m := Extern.BytealgIndexByte.indexByte #[.string a, .int .u8 n]) hP h1 h2 h3 h4 rfl (run_indexByte_string a n w)]
    refine ⟨ρ, ?_, hR, .refl _ _ _⟩
    have hfi : firstIdx a (n : Int).toNat.toUInt8 = findByte n a.data.toList 0 := by
      rw [findByte_eq]
      unfold firstIdx
      have hsz : a.size = a.data.toList.length := by rw [Array.length_toList]; rfl
      have hp : ∀ i, i < a.size → (a[i]! == (n : Int).toNat.toUInt8) = ((a.data.toList[i]?.getD 0).toNat == n) := fun i hi => by
        have hg : a[i]! = a.data.toList[i]?.getD 0 := by
          have h' : i < a.data.size := hi
          have e1 : a[i]! = a[i] := getElem!_pos a i hi
          rw [e1, Array.getElem?_toList, Array.getElem?_eq_getElem h']
          rfl
        rw [hg, Int.toNat_natCast, Bool.eq_iff_iff]
        simp only [beq_iff_eq]
        constructor
        · intro h; rw [h]; simp; omega
        · intro h
          apply UInt8.toNat_inj.1
          rw [h]; simp; omega
      rw [← hsz]
      have : (List.range a.size).find? (fun i => a[i]! == (n : Int).toNat.toUInt8) = (List.range a.size).find? fun k => (a.data.toList[k]?.getD 0).toNat == n := by
        exact find_congr fun x hx => hp x (List.mem_range.1 hx)
      rw [this]
      cases (List.range a.size).find? fun k => (a.data.toList[k]?.getD 0).toNat == n with
      | none => rfl
      | some k => simp
    rw [fInt_eq] at hu
    cases hu
    rw [hfi]
    exact .int _ _
  · cases hx
end Go.Eng
/-! Calls whose answer is known. -/
namespace Go.Eng
open Go
variable {P : Program} {ρ : Ren}
theorem vEqs12 {a b : List Value} (h : vEqs (vEq 12) a b = true) : a = b := vEqs_sound (vEq_sound 12) a b h
theorem eqC_sound : ∀ {a b : T (List Value)}, eqC a b = true → a = b
  | .e, .e, _ => rfl
  | .e, .n _ _ _, h => by cases h
  | .n _ _ _, .e, h => by cases h
  | .n v l r, .n v' l' r', h => by
    have h : bif' (Option.rec (motive := fun _ => Bool) (Option.rec (motive := fun _ => Bool) true (fun _ => false) v') (fun x => Option.rec (motive := fun _ => Bool) false (fun y => vEqs (vEq 12) x y) v') v) (bif' (eqC l l') (eqC r r') false) false = true := h
    obtain ⟨h0, h⟩ := bif_tt h
    obtain ⟨h1, h2⟩ := bif_tt h
    rw [eqC_sound h1, eqC_sound h2]
    cases v with
    | none => cases v' with | none => rfl | some _ => cases h0
    | some x => cases v' with | none => cases h0 | some y => rw [vEqs12 h0]
theorem eqEs_sound : ∀ {a b : List (Value × Value × Nat)}, eqEs a b = true → a = b
  | [], [], _ => rfl
  | [], _ :: _, h => by cases h
  | _ :: _, [], h => by cases h
  | (k, v, n) :: a, (k', v', n') :: b, h => by
    have h : bif' (vEq 12 k k') (bif' (vEq 12 v v') (bif' (Nat.beq n n') (eqEs a b) false) false) false = true := h
    obtain ⟨h0, h⟩ := bif_tt h
    obtain ⟨h1, h⟩ := bif_tt h
    obtain ⟨h2, h⟩ := bif_tt h
    rw [vEq_sound 12 _ _ h0, vEq_sound 12 _ _ h1, Nat.eq_of_beq_eq_true h2, eqEs_sound h]
theorem blkEq_sound {a b : Blk} (h : blkEq a b = true) : a = b := by
  unfold blkEq at h
  split at h
  · rename_i c sz n ro et c' sz' n' ro' et'
    obtain ⟨h0, h⟩ := bif_tt h
    obtain ⟨h1, h⟩ := bif_tt h
    obtain ⟨h2, h⟩ := bif_tt h
    obtain ⟨h3, h⟩ := bif_tt h
    have hro : ro = ro' := by cases ro <;> cases ro' <;> first | rfl | exact (Bool.noConfusion h3)
    rw [Nat.eq_of_beq_eq_true h0, Nat.eq_of_beq_eq_true h1, Nat.eq_of_beq_eq_true h2, hro, eqC_sound h]
  · obtain ⟨h0, h⟩ := bif_tt h
    obtain ⟨h1, h⟩ := bif_tt h
    rw [Nat.eq_of_beq_eq_true h0, Nat.eq_of_beq_eq_true h1, eqEs_sound h]
  · cases h
theorem subH_get : ∀ {a b : T Blk}, subH a b = true → ∀ j k, a.get j = some k → b.get j = some k
  | .e, _, _, j, k, h => by rw [T.get_e] at h; cases h
  | .n v l r, .e, hs, j, k, h => by
    have hs : bif' (Option.rec (motive := fun _ => Bool) true (fun _ => false) v) (bif' (subH l .e) (subH r .e) false) false = true := hs
    obtain ⟨h0, hs⟩ := bif_tt hs
    obtain ⟨h1, h2⟩ := bif_tt hs
    rcases nat_cases3 j with rfl | ⟨m, rfl⟩ | ⟨m, rfl⟩
    · rw [T.get_n0] at h; subst h; cases h0
    · rw [T.get_odd] at h; have := subH_get h1 m k h; rw [T.get_e] at this; cases this
    · rw [T.get_even] at h; have := subH_get h2 m k h; rw [T.get_e] at this; cases this
  | .n v l r, .n v' l' r', hs, j, k, h => by
    have hs : bif' (Option.rec (motive := fun _ => Bool) true (fun k => Option.rec (motive := fun _ => Bool) false (fun k' => blkEq k k') v') v) (bif' (subH l l') (subH r r') false) false = true := hs
    obtain ⟨h0, hs⟩ := bif_tt hs
    obtain ⟨h1, h2⟩ := bif_tt hs
    rcases nat_cases3 j with rfl | ⟨m, rfl⟩ | ⟨m, rfl⟩
    · rw [T.get_n0] at h ⊢
      subst h
      cases v' with
      | none => cases h0
      | some k' => rw [blkEq_sound h0]
    · rw [T.get_odd] at h ⊢; exact subH_get h1 m k h
    · rw [T.get_even] at h ⊢; exact subH_get h2 m k h
theorem noRo_get : ∀ {a : T Blk}, noRo a = true → ∀ j k, a.get j = some k → isRo k = false
  | .e, _, j, k, h => by rw [T.get_e] at h; cases h
  | .n v l r, hs, j, k, h => by
    have hs : bif' (Option.rec (motive := fun _ => Bool) true (fun k => match k with | .cells _ _ _ ro _ => bNot ro | .map .. => true | _ => false) v) (bif' (noRo l) (noRo r) false) false = true := hs
    obtain ⟨h0, hs⟩ := bif_tt hs
    obtain ⟨h1, h2⟩ := bif_tt hs
    rcases nat_cases3 j with rfl | ⟨m, rfl⟩ | ⟨m, rfl⟩
    · rw [T.get_n0] at h; subst h
      cases k with
      | cells c sz n ro et => cases ro with | false => rfl | true => cases h0
      | map => rfl
      | strIter => cases h0
      | mapIter => cases h0
      | loop => cases h0
    · rw [T.get_odd] at h; exact noRo_get h1 m k h
    · rw [T.get_even] at h; exact noRo_get h2 m k h
theorem delH_get : ∀ (a h : T Blk) (j : Nat), (delH a h).get j = match a.get j with | some _ => none | none => h.get j
  | .e, h, j => by rw [T.get_e]; rfl
  | .n v l r, .e, j => by
    show (T.e : T Blk).get j = _
    rw [T.get_e]
    split <;> first | rfl | rw [T.get_e]
  | .n v l r, .n v' l' r', j => by
    show (T.n (Option.rec (motive := fun _ => Option Blk) v' (fun _ => none) v) (delH l l') (delH r r')).get j = _
    rcases nat_cases3 j with rfl | ⟨m, rfl⟩ | ⟨m, rfl⟩
    · rw [T.get_n0, T.get_n0, T.get_n0]; cases v <;> rfl
    · rw [T.get_odd, T.get_odd, T.get_odd]; exact delH_get l l' m
    · rw [T.get_even, T.get_even, T.get_even]; exact delH_get r r' m
theorem putH_get : ∀ (a h : T Blk) (j : Nat), (putH a h).get j = match a.get j with | some k => some k | none => h.get j
  | .e, h, j => by rw [T.get_e]; rfl
  | .n v l r, .e, j => by
    show (T.n v (putH l .e) (putH r .e)).get j = _
    rw [T.get_e]
    rcases nat_cases3 j with rfl | ⟨m, rfl⟩ | ⟨m, rfl⟩
    · rw [T.get_n0, T.get_n0]; cases v <;> rfl
    · rw [T.get_odd, T.get_odd, putH_get l .e m, T.get_e]
    · rw [T.get_even, T.get_even, putH_get r .e m, T.get_e]
  | .n v l r, .n v' l' r', j => by
    show (T.n (Option.rec (motive := fun _ => Option Blk) v' (fun k => some k) v) (putH l l') (putH r r')).get j = _
    rcases nat_cases3 j with rfl | ⟨m, rfl⟩ | ⟨m, rfl⟩
    · rw [T.get_n0, T.get_n0, T.get_n0]; cases v <;> rfl
    · rw [T.get_odd, T.get_odd, T.get_odd]; exact putH_get l l' m
    · rw [T.get_even, T.get_even, T.get_even]; exact putH_get r r' m
theorem fullT_get : ∀ (d j : Nat), (fullT d).get j = none
  | 0, j => T.get_e j
  | d + 1, j => by
    show (T.n none (fullT d) (fullT d)).get j = none
    rcases nat_cases3 j with rfl | ⟨m, rfl⟩ | ⟨m, rfl⟩
    · rw [T.get_n0]
    · rw [T.get_odd]; exact fullT_get d m
    · rw [T.get_even]; exact fullT_get d m
theorem roomH_get (a : T Blk) (j : Nat) : (roomH a).get j = a.get j := by
  unfold roomH
  rw [putH_get, fullT_get]
  cases a.get j <;> rfl
/-- fewer blocks. -/
theorem Rel.less {s : AS} {w : World} {h : T Blk} {lm : Nat} (hr : Rel P ρ s w) (hs : ∀ j k, h.get j = some k → s.h.get j = some k) (hl : lm ≤ s.nx) : Rel P ρ ⟨h, s.nx, lm⟩ w :=
  ⟨hr.dom, fun a ha => (by
    cases e : h.get a with
    | none => rfl
    | some k => have := hs a k e; rw [hr.top a ha] at this; cases this),
   fun a k x e e' => hr.blk a k x (hs a k e) e', hl, fun a a' k k' x x' hne e1 e2 r1 r2 hb => hr.excl a a' k k' x x' hne (hs _ _ e1) (hs _ _ e2) r1 r2 hb⟩
theorem Stp.less {ρ' : Ren} {s s' : AS} {w w' : World} {h : T Blk} (hS : Stp ρ s w ρ' s' w') (hs : ∀ j k, h.get j = some k → s'.h.get j = some k) (h0 : s.lim = 0) : Stp ρ s w ρ' ⟨h, s'.nx, s'.lim⟩ w' :=
  ⟨hS.ren, hS.nx, hS.tape, hS.os, hS.out, hS.size, fun b hb hn => ⟨(hS.frame b hb hn).1, fun ⟨j, k, x, e1, e2, e3⟩ => (hS.frame b hb hn).2 ⟨j, k, x, hs j k e1, e2, e3⟩⟩,
   fun a ha hn => (by
    show h.get a = s.h.get a ∨ h.get a = none
    cases e : h.get a with
    | none => exact .inr rfl
    | some k =>
      rcases hS.ph a ha hn with h1 | h1
      · rw [hs a k e] at h1; exact .inl h1
      · rw [hs a k e] at h1; cases h1),
   hS.lp, hS.lim, fun a ha => (by rw [h0] at ha; omega), fun a k x ha => (by rw [h0] at ha; omega)⟩
theorem Held.room {h : T Blk} {nx lm b : Nat} : Held ρ ⟨roomH h, nx, lm⟩ b ↔ Held ρ ⟨h, nx, lm⟩ b := by
  unfold Held
  simp only [roomH_get]
theorem Rel.room {w : World} {h : T Blk} {nx lm : Nat} (hr : Rel P ρ ⟨h, nx, lm⟩ w) : Rel P ρ ⟨roomH h, nx, lm⟩ w :=
  ⟨hr.dom, fun a ha => (roomH_get h a).trans (hr.top a ha), fun a k x e e' => hr.blk a k x ((roomH_get h a).symm.trans e) e', hr.lim,
   fun a a' k k' x x' hne e1 e2 r1 r2 hb => hr.excl a a' k k' x x' hne ((roomH_get h a).symm.trans e1) ((roomH_get h a').symm.trans e2) r1 r2 hb⟩
theorem Stp.room {ρ' : Ren} {s' : AS} {w w' : World} {h : T Blk} {nx lm : Nat} (hS : Stp ρ ⟨roomH h, nx, lm⟩ w ρ' s' w') : Stp ρ ⟨h, nx, lm⟩ w ρ' s' w' :=
  ⟨hS.ren, hS.nx, hS.tape, hS.os, hS.out, hS.size, fun b hb hn => hS.frame b hb (fun hh => hn (Held.room.1 hh)),
   fun a ha hn => (hS.ph a ha hn).imp (fun e => e.trans (roomH_get h a)) id, hS.lp, hS.lim, fun a ha => (hS.low a ha).trans (roomH_get h a),
   fun a k x ha hn hk => hS.lowW a k x ha hn ((roomH_get h a).trans hk)⟩
/-- an entry can be trusted. -/
def EntryOk (P : Program) (e : Entry) : Prop := ∀ ρ w args', Rel P ρ ⟨e.hin, e.nx, 0⟩ w → VRels ρ e.args args' →
  CallRun P (callFunc e.f args'.toArray) w fun u w' => ∃ ρ', VRel ρ' e.v u ∧ Rel P ρ' ⟨e.hout, e.nxo, 0⟩ w' ∧ Stp ρ ⟨e.hin, e.nx, 0⟩ w ρ' ⟨e.hout, e.nxo, 0⟩ w'
theorem CallRun.mono {m : Sem Next} {w : World} {R R' : Value → World → Prop} (h : CallRun P m w R) (hr : ∀ u w', R u w' → R' u w') : CallRun P m w R' := by
  unfold CallRun at h ⊢
  split at h
  · exact hr _ _ h
  · exact CallsIn.mono h fun e w'' ⟨u, he, hR⟩ => ⟨u, he, hr _ _ hR⟩
  · exact RoundIn.mono h fun e w'' ⟨u, he, hR⟩ => ⟨u, he, hr _ _ hR⟩
  · exact h.elim
theorem tabGet {a b h : T Blk} {j : Nat} : (putH a (delH b h)).get j = match a.get j with | some k => some k | none => (match b.get j with | some _ => none | none => h.get j) := by
  rw [putH_get, delH_get]
theorem hcases {a b h : T Blk} {j : Nat} {k : Blk} (hk : (putH a (delH b h)).get j = some k) : a.get j = some k ∨ (a.get j = none ∧ b.get j = none ∧ h.get j = some k) := by
  rw [tabGet] at hk
  cases h1 : a.get j with
  | some k' => rw [h1] at hk; exact .inl hk
  | none =>
    rw [h1] at hk
    cases h2 : b.get j with
    | some _ => rw [h2] at hk; cases hk
    | none => rw [h2] at hk; exact .inr ⟨rfl, rfl, hk⟩
theorem hheld {s : AS} {w : World} {hin : T Blk} {nx : Nat} (hR : Rel P ρ s w) (hsub : ∀ j k, hin.get j = some k → s.h.get j = some k) (hro : ∀ j k, hin.get j = some k → isRo k = false) {j : Nat} {k : Blk} {x : Loc} (hn : hin.get j = none) (hk : s.h.get j = some k) (hx : ρ j = some x) : ¬ Held ρ ⟨hin, nx, 0⟩ x.b := by
  rintro ⟨j2, k2, x2, e1, e2, e3⟩
  have hne : j2 ≠ j := fun he => by rw [he] at e1; have e1 : hin.get j = some k2 := e1; rw [hn] at e1; cases e1
  have := (hR.excl j2 j k2 k x2 x hne (hsub _ _ e1) hk e2 hx e3).1
  rw [hro _ _ e1] at this; cases this
theorem entry_hit {e : Entry} (he : EntryOk P e) {args args' : List Value} {s s' : AS} {v : Value} {w : World} (hh : entryHit e args s = true) (ho : entryOut e s = .val v s') (hR : Rel P ρ s w) (ha : VRels ρ args args') :
    CallRun P (callFunc e.f args'.toArray) w fun u w' => ∃ ρ', VRel ρ' v u ∧ Rel P ρ' s' w' ∧ Stp ρ s w ρ' s' w' := by
  obtain ⟨h1, hh⟩ := bif_tt hh
  obtain ⟨h2, hh⟩ := bif_tt hh
  obtain ⟨h3, hh⟩ := bif_tt hh
  obtain ⟨h4, h5⟩ := bif_tt hh
  have hnx := Nat.eq_of_beq_eq_true h1
  have hlim := Nat.eq_of_beq_eq_true h2
  have hargs := vEqs12 h3
  have hro := noRo_get h4
  have hsub := subH_get h5
  cases ho
  subst hargs
  have hRi : Rel P ρ ⟨e.hin, e.nx, 0⟩ w := by
    have := hR.less hsub (Nat.zero_le s.nx)
    rw [hnx]; exact this
  refine (he ρ w args' hRi ha).mono fun u w' ⟨ρ', hv, hR', hS'⟩ => ⟨ρ', hv, ?_, ?_⟩
  all_goals have hcase : ∀ {j k}, (putH e.hout (delH e.hin s.h)).get j = some k → e.hout.get j = some k ∨ (e.hout.get j = none ∧ e.hin.get j = none ∧ s.h.get j = some k) := fun {j k} h => hcases h
  all_goals have hlt : ∀ {j k}, s.h.get j = some k → j < s.nx := fun {j k} h => Nat.lt_of_not_le fun hle => by rw [hR.top j hle] at h; cases h
  all_goals have hren : ∀ {j k}, s.h.get j = some k → ρ' j = ρ j := fun {j k} h => hS'.ren j (by show j < e.nx; rw [hnx]; exact hlt h)
  all_goals have hout : ∀ {j k x}, e.hin.get j = none → s.h.get j = some k → ρ j = some x → ¬ Held ρ ⟨e.hin, e.nx, 0⟩ x.b := fun {j k x} hn hk hx => hheld hR hsub hro hn hk hx
  · refine ⟨hR'.dom, fun a ha => ?_, fun a k x h hx => ?_, Nat.zero_le _, fun a a' k k' x x' hne g1 g2 r1 r2 hb => ?_⟩
    · cases h : (putH e.hout (delH e.hin s.h)).get a with
      | none => rfl
      | some k =>
        exfalso
        have ha : e.nxo ≤ a := ha
        rcases hcase h with h | ⟨_, _, h⟩
        · have := hR'.top a ha; have this : e.hout.get a = none := this; rw [h] at this; cases this
        · have h6 := hlt h
          have h7 : e.nx ≤ e.nxo := hS'.nx
          omega
    · rcases hcase h with h | ⟨_, hn, h⟩
      · exact hR'.blk a k x h hx
      · rw [hren h] at hx
        obtain ⟨b1, b2⟩ := hR.blk a k x h hx
        have hle : RenLe ρ ρ' := hS'.le hRi
        exact ⟨Nat.lt_of_lt_of_le b1 hS'.size, (b2.congr (hS'.frame _ b1 (hout hn h hx)).1).mono hle⟩
    · rcases hcase g1 with g1 | ⟨_, n1, g1⟩
      · rcases hcase g2 with g2 | ⟨_, n2, g2⟩
        · exact hR'.excl a a' k k' x x' hne g1 g2 r1 r2 hb
        · rw [hren g2] at r2
          have := (hS'.frame _ (hR.blk a' k' x' g2 r2).1 (hout n2 g2 r2)).2
          exact (this ⟨a, k, x, g1, r1, hb⟩).elim
      · rw [hren g1] at r1
        rcases hcase g2 with g2 | ⟨_, n2, g2⟩
        · have := (hS'.frame _ (hR.blk a k x g1 r1).1 (hout n1 g1 r1)).2
          exact (this ⟨a', k', x', g2, r2, hb.symm⟩).elim
        · rw [hren g2] at r2
          exact hR.excl a a' k k' x x' hne g1 g2 r1 r2 hb
  · refine ⟨fun a ha => hS'.ren a (by show a < e.nx; rw [hnx]; exact ha), by rw [← hnx]; exact hS'.nx, hS'.tape, hS'.os, hS'.out, hS'.size, fun b hb hn => ?_, fun a ha hn => ?_, hS'.lp, hlim.symm, fun a ha => by rw [hlim] at ha; omega, fun a k x ha => by rw [hlim] at ha; omega⟩
    · have hni : ¬ Held ρ ⟨e.hin, e.nx, 0⟩ b := by
        rintro ⟨j, k, x, e1, e2, e3⟩
        exact hn ⟨j, k, x, hsub _ _ e1, e2, e3⟩
      obtain ⟨f1, f2⟩ := hS'.frame b hb hni
      refine ⟨f1, ?_⟩
      rintro ⟨j, k, x, e1, e2, e3⟩
      rcases hcase e1 with h | ⟨_, _, h⟩
      · exact f2 ⟨j, k, x, h, e2, e3⟩
      · rw [hren h] at e2
        exact hn ⟨j, k, x, h, e2, e3⟩
    · show (putH e.hout (delH e.hin s.h)).get a = s.h.get a ∨ (putH e.hout (delH e.hin s.h)).get a = none
      have hph : e.hout.get a = e.hin.get a ∨ e.hout.get a = none := hS'.ph a (by show a < e.nx; rw [hnx]; exact ha) hn
      rw [tabGet]
      cases h1 : e.hout.get a with
      | some k =>
        rcases hph with h | h
        · rw [h1] at h
          exact .inl (hsub a k h.symm).symm
        · rw [h1] at h; cases h
      | none =>
        cases h2 : e.hin.get a with
        | some _ => exact .inr rfl
        | none => exact .inl rfl
theorem tabFF_ok {f : Nat} {F : FF} (hF : FFOk P f F) : ∀ es : List Entry, (∀ e ∈ es, e.f = f ∧ EntryOk P e) → FFOk P f (tabFF es F)
  | [], _ => hF
  | e :: es, h => by
    intro ev hev args s v s' hr ρ w args' hR ha
    have hr : bif' (entryHit e args s) (entryOut e s) (tabFF es F ev args s) = .val v s' := hr
    cases hh : entryHit e args s with
    | true =>
      rw [hh] at hr
      obtain ⟨hf, he⟩ := h e (by simp)
      rw [← hf]
      exact entry_hit he hh hr hR ha
    | false =>
      rw [hh] at hr
      exact tabFF_ok hF es (fun e' he' => h e' (by simp [he'])) ev hev args s v s' hr ρ w args' hR ha
theorem tabFor_mem {f : Nat} : ∀ {l : List Entry} {e : Entry}, e ∈ tabFor f l → e ∈ l ∧ e.f = f
  | [], e, h => by cases h
  | x :: l, e, h => by
    have h : e ∈ bif' (Nat.beq x.f f) (x :: tabFor f l) (tabFor f l) := h
    rw [bif'_eq] at h
    split at h
    · rename_i hb
      rcases List.mem_cons.1 h with rfl | h
      · exact ⟨by simp, Nat.eq_of_beq_eq_true hb⟩
      · have := tabFor_mem h; exact ⟨by simp [this.1], this.2⟩
    · have := tabFor_mem h; exact ⟨by simp [this.1], this.2⟩
end Go.Eng
/-! The evaluator can be trusted. -/
namespace Go.Eng
open Go
variable {P : Program}
/-- what the evaluator takes of a program. -/
structure CfgOk (P : Program) (X : Cfg) : Prop where
  plain : Plainly P
  mixed : P.follows .mixedOrders = true
  ext : ∀ f e, lookupE f X.ext = some e → ExtFits P f e
  tab : ∀ e ∈ X.tab, EntryOk P e
  sum : ∀ f e, lookupS f X.sum = some e → FFOk P f (fun _ args s => outO (sumA s e args))
theorem fn_call {X : Cfg} (hX : CfgOk P X) {f : Nat} {F : FF} (h : mkFn P X f = some F) : FFOk P f F := by
  unfold mkFn at h
  split at h
  · rename_i e he
    cases h
    exact hX.sum f e he
  · split at h
    · rename_i fn hfn
      split at h
      · rename_i body hb
        obtain ⟨t0, ht0, h⟩ := ob_some h
        obtain ⟨b, hbc, h⟩ := ob_some h
        cases h
        refine tabFF_ok ?_ _ fun e he => ⟨(tabFor_mem he).2, hX.tab e (tabFor_mem he).1⟩
        intro ev hev args s v s' hr ρ w args' hR ha
        unfold CallRun
        rw [callFunc_body hX.plain hfn hb]
        exact fn_ok hX.plain hX.mixed hfn hb ht0 hbc hev hr hR ha
      · rename_i hb
        obtain ⟨e, he, h⟩ := ob_some h
        cases h
        exact ext_ok hX.plain (hX.ext f e he)
    · cases h
theorem step_ok {X : Cfg} (hX : CfgOk P X) {ev : Ev} (hev : EvOk P ev) : EvOk P (step P X ev) := by
  intro f args s v s' h ρ w f' args' hR hf ha
  unfold step at h
  split at h
  · rename_i fi first cap
    cases hf with | @func _ _ _ fa fb h1 h2 => ?_
    have h : Option.rec (motive := fun _ => Out) .no (fun F => F ev (app first.toList (app args cap.toList)) s) (mkFn P X fi) = .val v s' := h
    cases hF : mkFn P X fi with
    | none => rw [hF] at h; cases h
    | some F =>
      rw [hF] at h
      have ha' : VRels ρ (app first.toList (app args cap.toList)) (fa.toList ++ (args' ++ fb.toList)) := by
        rw [app_eq, app_eq]
        exact h1.append (ha.append h2)
      have := fn_call hX hF ev hev _ s v s' h ρ w _ hR ha'
      have he : callOf (.func (.func fi) fa fb) args' = callFunc fi (fa.toList ++ (args' ++ fb.toList)).toArray := by
        unfold callOf
        simp only [Deferred.ofValue, pure_bind, invoke]
        congr 1
        apply Array.ext'
        simp
      rw [he]
      exact this
  · rename_i l first cap
    cases hf with | @yield _ x _ _ fa fb hx h1 h2 => ?_
    have ha' : VRels ρ (app first.toList args) (fa.toList ++ args') := by
      rw [app_eq]; exact h1.append ha
    have := yield_ok hX.plain hX.mixed hev h hR hx ha'
    have he : callOf (.func (.yield x.b) fa fb) args' = Instr.yield x.b (fa.toList ++ args').toArray := by
      unfold callOf
      simp only [Deferred.ofValue, pure_bind, invoke]
      congr 1
      apply Array.ext'
      simp
    rw [he]
    exact this
  · cases h
/-- THE EVALUATOR CAN BE TRUSTED. -/
theorem eval_ok {X : Cfg} (hX : CfgOk P X) : ∀ n, EvOk P (eval P X n)
  | 0 => fun f args s v s' h => by cases h
  | n + 1 => step_ok hX (eval_ok hX n)
/-- an entry can be trusted, when the evaluator says it. -/
theorem entry_ok {X : Cfg} (hX : CfgOk P X) {n : Nat} {e : Entry} (h : outIs e (eval P X n (.func (.func e.f) #[] #[]) e.args ⟨roomH e.hin, e.nx, 0⟩) = true) : EntryOk P e := by
  intro ρ w args' hR ha
  cases ho : eval P X n (.func (.func e.f) #[] #[]) e.args ⟨roomH e.hin, e.nx, 0⟩ with
  | no => rw [ho] at h; cases h
  | code => rw [ho] at h; cases h
  | val v s =>
    rw [ho] at h
    obtain ⟨h1, h⟩ := bif_tt h
    obtain ⟨h2, h⟩ := bif_tt h
    obtain ⟨h3, h4⟩ := bif_tt h
    have hv := vEq_sound 12 _ _ h1
    have hnx := Nat.eq_of_beq_eq_true h2
    have hlim := Nat.eq_of_beq_eq_true h3
    have hsub := subH_get h4
    subst hv
    obtain ⟨sh, snx, slim⟩ := s
    cases hnx
    cases hlim
    have := eval_ok hX n _ _ _ _ _ ho ρ w (.func (.func e.f) #[] #[]) args' hR.room (.func e.f .nil .nil) ha
    have hc : callOf (.func (.func e.f) #[] #[]) args' = callFunc e.f args'.toArray := by
      unfold callOf
      simp only [Deferred.ofValue, pure_bind, invoke]
      congr 1
      apply Array.ext'
      simp
    rw [hc] at this
    refine this.mono fun u w' ⟨ρ', hv, hR', hS'⟩ => ⟨ρ', hv, hR'.less hsub (Nat.zero_le _), (hS'.less hsub rfl).room⟩
/-- a call that the evaluator answers, out of nothing: whatever the world; nothing that was there turns. -/
theorem eval_calls {X : Cfg} (hX : CfgOk P X) {n f : Nat} {fn : Func} {c : Code} {v : Value} {s' : AS} (hf : P.funcs[f]? = some fn) (hb : fn.body = some c) (h : eval P X n (.func (.func f) #[] #[]) [] ⟨roomH .e, 0, 0⟩ = .val v s') (w : World) :
    Calls P f #[] w fun e w' => ∃ u ρ', e = .returned u ∧ VRel ρ' v u ∧ (∀ b, b < w.heap.size → w'.heap[b]? = w.heap[b]?) ∧ w.heap.size ≤ w'.heap.size ∧ w'.tape = w.tape ∧ w'.os = w.os ∧ w'.output = w.output := by
  have hR : Rel P (fun _ => none) ⟨roomH .e, 0, 0⟩ w := Rel.room ⟨fun _ _ => rfl, fun a _ => T.get_e a, fun a k x e => (by rw [T.get_e] at e; cases e), Nat.le_refl _, fun a a' k k' x x' _ e => (by rw [T.get_e] at e; cases e)⟩
  have := eval_ok hX n _ _ _ _ _ h _ w (.func (.func f) #[] #[]) [] hR (.func f .nil .nil) .nil
  unfold CallRun at this
  have hc : (callOf (.func (.func f) #[] #[]) []).run P w = .ok (.enter f #[]) w := by
    unfold callOf
    simp only [Deferred.ofValue, pure_bind, invoke]
    exact callFunc_body hX.plain hf hb _ w
  rw [hc] at this
  refine callsIn_wide.1 (CallsIn.mono this ?_)
  rintro e w' ⟨u, rfl, ρ', hv, hR', hS'⟩
  refine ⟨u, ρ', rfl, hv, fun b hb => (hS'.frame b hb ?_).1, hS'.size, hS'.tape, hS'.os, hS'.out⟩
  rintro ⟨a, k, x, e, _⟩
  have e : (roomH .e).get a = some k := e
  rw [roomH_get, T.get_e] at e; cases e
end Go.Eng
