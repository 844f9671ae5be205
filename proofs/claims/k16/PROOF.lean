import PyProof.Rows.All
import Wide.All
import OpenK.AllK
import Wide.FinOn
import HandS.Base
import HandS.Call
import HandS.List
import HandS.Comp
import HandS.Exc
import HandS.Words
import HandS.WordsExc
import HandS.ExcOwn
import HandS.Deep
import HandS.Style
import HandS.IsInst
import HandS.TupAny
import HandS.SetFor
import HandS.Conv
import KE.SortData
import KE.KTupSum
import HandS.Strs
import HandS.Walk
import HandS.Iter
import HandS.Text
import HandS.TryOnly
import HandS.ExcIs
import HandS.ExcValue
import PySem.Challenge.RW_alarmcurves_k16_errors
set_option Elab.async false
set_option linter.all false
set_option maxRecDepth 100000
set_option maxHeartbeats 4000000
namespace DL
open PySem L2

abbrev D := PyData
def lim : Nat := 100000

/-! ### pure data as it lies in an abstract heap -/
mutual
inductive Rp (H : Hp) : V → D → Prop
  | non : Rp H .non .none
  | bl (b : Bool) : Rp H (.bl b) (.bool b)
  | int (i : Int) : Rp H (.int i) (.int i)
  | str (x : Str) : x.length ≤ lim → PyData.strOk x = true → Rp H (.str x) (.str x)
  | lst {a : Addr} {xs : List V} {ds : List D} : H a = some (.lst xs) → xs.length ≤ lim → RpAll H xs ds → Rp H (.ref a) (.list ds)
  | tup {a : Addr} {xs : List V} {ds : List D} : H a = some (.tup xs) → xs.length ≤ lim → RpAll H xs ds → Rp H (.ref a) (.tuple ds)
inductive RpAll (H : Hp) : List V → List D → Prop
  | nil : RpAll H [] []
  | cons {v : V} {vs : List V} {d : D} {ds : List D} : Rp H v d → RpAll H vs ds → RpAll H (v :: vs) (d :: ds)
end

mutual
theorem Rp.mono {H H' : Hp} (e : Same H H') : ∀ (d : D) (v : V), Rp H v d → Rp H' v d
  | .none, _, h => by cases h; exact .non
  | .bool b, _, h => by cases h; exact .bl b
  | .int i, _, h => by cases h; exact .int i
  | .str x, _, h => by cases h with | str _ a b => exact .str x a b
  | .list ds, _, h => by cases h with | lst a b c => exact .lst (e _ _ a) b (RpAll.mono e ds _ c)
  | .tuple ds, _, h => by cases h with | tup a b c => exact .tup (e _ _ a) b (RpAll.mono e ds _ c)
  | .dict _, _, h => by cases h
theorem RpAll.mono {H H' : Hp} (e : Same H H') : ∀ (ds : List D) (vs : List V), RpAll H vs ds → RpAll H' vs ds
  | [], _, h => by cases h; exact .nil
  | d :: ds, _, h => by cases h with | cons a b => exact .cons (Rp.mono e d _ a) (RpAll.mono e ds _ b)
end
theorem Rp.up {H H' : Hp} {d : D} {v : V} (h : Rp H v d) (e : Same H H') : Rp H' v d := Rp.mono e d v h
theorem RpAll.up {H H' : Hp} {ds : List D} {vs : List V} (h : RpAll H vs ds) (e : Same H H') : RpAll H' vs ds := RpAll.mono e ds vs h
mutual
theorem Rp.dp {K : PySem.W.Frag} {H : Hp} : ∀ (d : D) (v : V), Rp H v d → Dp K H v d
  | .none, _, h => by cases h; exact .non
  | .bool b, _, h => by cases h; exact .bl b
  | .int i, _, h => by cases h; exact .int i
  | .str x, _, h => by cases h with | str _ a b => exact .str x
  | .list ds, _, h => by cases h with | lst a b c => exact .lst (SqL.of a) (RpAll.dp ds _ c)
  | .tuple ds, _, h => by cases h with | tup a b c => exact .tup (SqT.of a) (RpAll.dp ds _ c)
  | .dict _, _, h => by cases h
theorem RpAll.dp {K : PySem.W.Frag} {H : Hp} : ∀ (ds : List D) (vs : List V), RpAll H vs ds → DpAll K H vs ds
  | [], _, h => by cases h; exact .nil
  | d :: ds, _, h => by cases h with | cons a b => exact .cons (Rp.dp d _ a) (RpAll.dp ds _ b)
end
mutual
theorem Rp.lay {H : Hp} : ∀ (d : D) (v : V), Rp H v d → d.canLay0 = true
  | .none, _, h => by simp [PyData.canLay0]
  | .bool b, _, h => by simp [PyData.canLay0]
  | .int i, _, h => by simp [PyData.canLay0]
  | .str x, _, h => by cases h with | str _ a b => simpa [PyData.canLay0] using b
  | .list ds, _, h => by cases h with | lst a b c => simpa [PyData.canLay0] using RpAll.lay ds _ c
  | .tuple ds, _, h => by cases h with | tup a b c => simpa [PyData.canLay0] using RpAll.lay ds _ c
  | .dict _, _, h => by cases h
theorem RpAll.lay {H : Hp} : ∀ (ds : List D) (vs : List V), RpAll H vs ds → PyData.canLayAll0 ds = true
  | [], _, h => by simp [PyData.canLayAll0]
  | d :: ds, _, h => by cases h with | cons a b => simp [PyData.canLayAll0, Rp.lay d _ a, RpAll.lay ds _ b]
end
theorem RpAll.len {H : Hp} : ∀ {vs : List V} {ds : List D}, RpAll H vs ds → vs.length = ds.length
  | _, _, .nil => rfl
  | _, _, .cons _ h => by simp [RpAll.len h]
theorem RpAll.get {H : Hp} : ∀ {vs : List V} {ds : List D} {i : Nat} {d : D}, RpAll H vs ds → ds[i]? = some d → ∃ v, vs[i]? = some v ∧ Rp H v d
  | _, _, _, _, .nil, e => by simp at e
  | _, _, 0, _, .cons r _, e => by simp at e; subst e; exact ⟨_, rfl, r⟩
  | _, _, i + 1, d, .cons _ t, e => by
    obtain ⟨u, h1, h2⟩ := RpAll.get (i := i) (d := d) t (by simpa using e)
    exact ⟨u, by simpa using h1, h2⟩
theorem RpAll.getV {H : Hp} : ∀ {vs : List V} {ds : List D} {i : Nat} {v : V}, RpAll H vs ds → vs[i]? = some v → ∃ d, ds[i]? = some d ∧ Rp H v d
  | _, _, _, _, .nil, e => by simp at e
  | _, _, 0, _, .cons r _, e => by simp at e; subst e; exact ⟨_, rfl, r⟩
  | _, _, i + 1, d, .cons _ t, e => by
    obtain ⟨u, h1, h2⟩ := RpAll.getV (i := i) (v := d) t (by simpa using e)
    exact ⟨u, by simpa using h1, h2⟩
theorem RpAll.append {H : Hp} : ∀ {vs ws : List V} {ds es : List D}, RpAll H vs ds → RpAll H ws es → RpAll H (vs ++ ws) (ds ++ es)
  | _, _, _, _, .nil, s => s
  | _, _, _, _, .cons r t, s => .cons r (RpAll.append t s)
theorem RpAll.take {H : Hp} : ∀ {vs : List V} {ds : List D} (n : Nat), RpAll H vs ds → RpAll H (vs.take n) (ds.take n)
  | _, _, 0, _ => .nil
  | _, _, _ + 1, .nil => .nil
  | _, _, n + 1, .cons r t => .cons r (RpAll.take n t)
theorem RpAll.drop {H : Hp} : ∀ {vs : List V} {ds : List D} (n : Nat), RpAll H vs ds → RpAll H (vs.drop n) (ds.drop n)
  | _, _, 0, r => r
  | _, _, _ + 1, .nil => .nil
  | _, _, n + 1, .cons _ t => RpAll.drop n t
theorem RpAll.reverse {H : Hp} : ∀ {vs : List V} {ds : List D}, RpAll H vs ds → RpAll H vs.reverse ds.reverse
  | _, _, .nil => .nil
  | _, _, .cons r t => by
    rw [List.reverse_cons, List.reverse_cons]
    exact RpAll.append (RpAll.reverse t) (.cons r .nil)
theorem RpAll.set {H : Hp} {v : V} {d : D} (r : Rp H v d) : ∀ {vs : List V} {ds : List D} (i : Nat), RpAll H vs ds → RpAll H (vs.set i v) (ds.set i d)
  | _, _, _, .nil => .nil
  | _, _, 0, .cons _ t => .cons r t
  | _, _, i + 1, .cons q t => .cons q (RpAll.set r i t)

/-! ### scalars lie in no heap -/
def scalarD : D → Bool
  | .none | .bool _ | .int _ | .str _ => true
  | _ => false
theorem Rp.scalar {H H' : Hp} {d : D} {v : V} (h : Rp H v d) (s : scalarD d = true) : Rp H' v d := by
  cases h with
  | non => exact .non
  | bl b => exact .bl b
  | int i => exact .int i
  | str x a b => exact .str x a b
  | lst => cases s
  | tup => cases s

/-! ### the heap without the addresses of P -/
open Classical in
noncomputable def Fz (P : Addr → Prop) (H : Hp) : Hp := fun a => if P a then none else H a
theorem Fz_some {P : Addr → Prop} {H : Hp} {a : Addr} {o : HO} : Fz P H a = some o ↔ ¬ P a ∧ H a = some o := by
  unfold Fz
  by_cases h : P a
  · simp [h]
  · simp [h]
theorem Fz_mono {P P' : Addr → Prop} {H H' : Hp} (hp : ∀ a, H a ≠ none → P' a → P a) (e : ∀ a o, ¬ P a → H a = some o → H' a = some o) : Same (Fz P H) (Fz P' H') := fun a o h => by
  obtain ⟨h1, h2⟩ := Fz_some.mp h
  exact Fz_some.mpr ⟨fun q => h1 (hp a (by rw [h2]; simp) q), e a o h1 h2⟩
theorem Fz_sub {P : Addr → Prop} {H : Hp} : Same (Fz P H) H := fun a o h => (Fz_some.mp h).2

/-! ### the results -/
inductive Res (S α : Type) where
  | ok (a : α) (s : S)
  | er (c : Nat) (s : S)
  | bad
@[inline] def Res.bnd {S α β : Type} (m : Res S α) (k : α → S → Res S β) : Res S β := match m with
  | .ok a s => k a s
  | .er c s => .er c s
  | .bad => .bad

/-- an expression's value: data, or a value that is no data -/
inductive Dv where
  | d (x : D)
  | v (x : V)
def Is (F : Hp) (v : V) : Dv → Prop
  | .d x => Rp F v x
  | .v x => v = x
theorem Is.up {F F' : Hp} {v : V} {d : Dv} (h : Is F v d) (e : Same F F') : Is F' v d := by
  cases d with
  | d x => exact Rp.up (show Rp F v x from h) e
  | v x => exact h
/-- a slot: nothing told, data, a list of one's own (its items), a value that is no data -/
inductive Sl where
  | no
  | d (x : D)
  | m (xs : List D)
  | v (x : V)
abbrev Env := List Sl

/-- what lies behind the slots: a state S and how it lies in the heap; hid: addresses that are no data; low: what stood at the entry -/
structure Wd (S : Type) where
  hid : Addr → Prop
  low : Addr → Prop
  at_ : S → Hp → Prop
  ext : ∀ s H H', at_ s H → Same H H' → at_ s H'
  mutn : ∀ s H p o, at_ s H → ¬ hid p → ¬ low p → at_ s (upd H p o)
  hidIn : ∀ s H p, at_ s H → hid p → H p ≠ none
  lowIn : ∀ s H p, at_ s H → low p → H p ≠ none

section
variable {S : Type} (W : Wd S)
def Own (ρ : Env) (σ : L2.St) (a : Addr) : Prop := ∃ (i : Nat) (xs : List D), ρ[i]? = some (.m xs) ∧ σ[i]? = some (some (.ref a))
/-- what may be read as data -/
noncomputable def Frz (ρ : Env) (σ : L2.St) (H : Hp) : Hp := Fz (fun a => W.hid a ∨ Own ρ σ a) H
structure EnvOk (ρ : Env) (σ : L2.St) (s : S) (H : Hp) : Prop where
  len : ρ.length = σ.length
  at_ : W.at_ s H
  dat : ∀ (i : Nat) (x : D), ρ[i]? = some (.d x) → ∃ v, σ[i]? = some (some v) ∧ Rp (Frz W ρ σ H) v x
  raw : ∀ (i : Nat) (x : V), ρ[i]? = some (.v x) → σ[i]? = some (some x)
  mutl : ∀ (i : Nat) (xs : List D), ρ[i]? = some (.m xs) → ∃ (a : Addr) (vs : List V), σ[i]? = some (some (.ref a)) ∧ H a = some (.lst vs) ∧ vs.length ≤ lim ∧ RpAll (Frz W ρ σ H) vs xs ∧ ¬ W.hid a ∧ ¬ W.low a
  sep : ∀ (i j : Nat) (xs ys : List D) (a : Addr), ρ[i]? = some (.m xs) → ρ[j]? = some (.m ys) → σ[i]? = some (some (.ref a)) → σ[j]? = some (some (.ref a)) → i = j
/-- what an expression leaves: all that is not hidden is kept -/
def Stp (H H' : Hp) : Prop := ∀ (a : Addr) (o : HO), ¬ W.hid a → H a = some o → H' a = some o
end
section
variable {S : Type} {W : Wd S} {ρ : Env} {σ : L2.St} {s s' : S} {H H' H'' : Hp}
theorem Stp.refl : Stp W H H := fun _ _ _ h => h
theorem Stp.trans (a : Stp W H H') (b : Stp W H' H'') : Stp W H H'' := fun x o n h => b x o n (a x o n h)
theorem Stp.of (e : Same H H') : Stp W H H' := fun a o _ h => e a o h
theorem EnvOk.ownIn (E : EnvOk W ρ σ s H) {a : Addr} (h : Own ρ σ a) : ∃ vs, H a = some (.lst vs) ∧ ¬ W.hid a ∧ ¬ W.low a := by
  obtain ⟨i, xs, h1, h2⟩ := h
  obtain ⟨b, vs, e1, e2, _, _, e3, e4⟩ := E.mutl i xs h1
  rw [e1] at h2
  cases h2
  exact ⟨vs, e2, e3, e4⟩
theorem Frz.stp (e : Stp W H H') : Same (Frz W ρ σ H) (Frz W ρ σ H') :=
  Fz_mono (fun _ _ h => h) fun a o h q => e a o (fun z => h (.inl z)) q
theorem EnvOk.step (E : EnvOk W ρ σ s H) (a : W.at_ s' H') (e : Stp W H H') : EnvOk W ρ σ s' H' where
  len := E.len
  at_ := a
  dat := fun i x h => let ⟨v, h1, h2⟩ := E.dat i x h; ⟨v, h1, h2.up (Frz.stp e)⟩
  raw := E.raw
  mutl := fun i xs h => let ⟨b, vs, h1, h2, h3, h4, h5, h6⟩ := E.mutl i xs h; ⟨b, vs, h1, e b _ h5 h2, h3, h4.up (Frz.stp e), h5, h6⟩
  sep := E.sep
theorem EnvOk.ext (E : EnvOk W ρ σ s H) (e : Same H H') : EnvOk W ρ σ s H' := E.step (W.ext _ _ _ E.at_ e) (Stp.of e)
/-- a new address is neither hidden nor one's own nor low -/
theorem EnvOk.new (E : EnvOk W ρ σ s H) {p : Addr} (hp : H p = none) : ¬ W.hid p ∧ ¬ W.low p ∧ ¬ Own ρ σ p :=
  ⟨fun h => W.hidIn _ _ _ E.at_ h hp, fun h => W.lowIn _ _ _ E.at_ h hp, fun h => by
    obtain ⟨vs, e, _⟩ := E.ownIn h
    rw [hp] at e
    cases e⟩
theorem Same.new {H : Hp} {p : Addr} {o : HO} (h : H p = none) : Same H (upd H p o) := fun a u e => by
  rw [upd_ne (ne_of_none e h)]
  exact e
theorem Same.mut {H H' : Hp} {p : Addr} {o : HO} (e : Same H H') (h : H p = none) : Same H (upd H' p o) := fun a u ha => by
  rw [upd_ne (ne_of_none ha h)]
  exact e a u ha
theorem frz_new (E : EnvOk W ρ σ s H) {p : Addr} {o : HO} (hp : H p = none) : Frz W ρ σ (upd H p o) p = some o :=
  Fz_some.mpr ⟨fun h => h.elim (E.new hp).1 (E.new hp).2.2, upd_same⟩
end
end DL

namespace DL
open PySem L2

/-! ### operations by values -/
def InH (P : Addr → Prop) (H : Hp) : Prop := ∀ a, P a → H a ≠ none
theorem InH.new {P : Addr → Prop} {H : Hp} (h : InH P H) {p : Addr} (hp : H p = none) : ¬ P p := fun q => h p q hp
theorem InH.up {P : Addr → Prop} {H H' : Hp} (h : InH P H) (e : Same H H') : InH P H' := fun a q => by
  cases z : H a with
  | none => exact absurd z (h a q)
  | some o => rw [e a o z]; simp
theorem Fz_same {P : Addr → Prop} {H H' : Hp} (e : Same H H') : Same (Fz P H) (Fz P H') := Fz_mono (fun _ _ h => h) fun a o _ h => e a o h
theorem Fz_at {P : Addr → Prop} {H : Hp} {p : Addr} {o : HO} (hp : ¬ P p) (h : H p = some o) : Fz P H p = some o := Fz_some.mpr ⟨hp, h⟩
theorem rp_lst {P : Addr → Prop} {H : Hp} {p : Addr} {vs : List V} {ds : List D} (hP : InH P H) (hp : H p = none) (hl : vs.length ≤ lim) (r : RpAll (Fz P H) vs ds) : Rp (Fz P (upd H p (.lst vs))) (.ref p) (.list ds) :=
  .lst (Fz_at (hP.new hp) upd_same) hl (r.up (Fz_same (Same.new hp)))
theorem rp_tup {P : Addr → Prop} {H : Hp} {p : Addr} {vs : List V} {ds : List D} (hP : InH P H) (hp : H p = none) (hl : vs.length ≤ lim) (r : RpAll (Fz P H) vs ds) : Rp (Fz P (upd H p (.tup vs))) (.ref p) (.tuple ds) :=
  .tup (Fz_at (hP.new hp) upd_same) hl (r.up (Fz_same (Same.new hp)))
theorem lim_line {n : Nat} (h : n ≤ lim) : n ≤ sizeLine := by rw [sizeLine_eq]; unfold lim at h; omega

/-- a two-place operation: its reading, what it makes -/
def S2 (r : R2) (op : D → D → Option D) : Prop := ∀ (P : Addr → Prop) (H : Hp) (x y : V) (d e z : D) (Q : VK), InH P H → Rp (Fz P H) x d → Rp (Fz P H) y e → op d e = some z →
  (∀ v H', Same H H' → Rp (Fz P H') v z → Q v H') → r x y H Q
/-- a call of a builtin on values -/
def SA (r : List V → Hp → VK → Prop) (op : List D → Option D) : Prop := ∀ (P : Addr → Prop) (H : Hp) (xs : List V) (ds : List D) (z : D) (Q : VK), InH P H → RpAll (Fz P H) xs ds → op ds = some z →
  (∀ v H', Same H H' → Rp (Fz P H') v z → Q v H') → r xs H Q

theorem S2.or {r r' : R2} {f g : D → D → Option D} (a : S2 r f) (b : S2 r' g) : S2 (fun x y H Q => r x y H Q ∨ r' x y H Q) (fun x y => (f x y).or (g x y)) := by
  intro P H x y d e z Q hP hx hy ho k
  cases h : f d e with
  | some w =>
    have e1 : (f d e).or (g d e) = some z := ho
    rw [h] at e1
    cases e1
    exact .inl (a P H x y d e _ Q hP hx hy h k)
  | none =>
    have e1 : (f d e).or (g d e) = some z := ho
    rw [h] at e1
    exact .inr (b P H x y d e _ Q hP hx hy e1 k)
theorem SA.or {r r' : List V → Hp → VK → Prop} {f g : List D → Option D} (a : SA r f) (b : SA r' g) : SA (fun x H Q => r x H Q ∨ r' x H Q) (fun x => (f x).or (g x)) := by
  intro P H x d z Q hP hx ho k
  cases h : f d with
  | some w =>
    have e1 : (f d).or (g d) = some z := ho
    rw [h] at e1
    cases e1
    exact .inl (a P H x d _ Q hP hx h k)
  | none =>
    have e1 : (f d).or (g d) = some z := ho
    rw [h] at e1
    exact .inr (b P H x d _ Q hP hx e1 k)

/-! ints -/
def onI (C : Int → Int → Bool) (g : Int → Int → D) : D → D → Option D
  | .int i, .int j => if C i j then some (g i j) else none
  | _, _ => none
theorem onI_int {C : Int → Int → Bool} {g : Int → Int → D} {d e z : D} (h : onI C g d e = some z) : ∃ i j, d = .int i ∧ e = .int j ∧ C i j = true ∧ z = g i j := by
  cases d <;> cases e <;> simp [onI] at h
  exact ⟨_, _, rfl, rfl, h.1, h.2.symm⟩
theorem s2_I {C : Int → Int → Prop} {Cb : Int → Int → Bool} {g : Int → Int → Int} (hc : ∀ i j, Cb i j = true → C i j) : S2 (rI C fun i j => .int (g i j)) (onI Cb fun i j => .int (g i j)) := by
  intro P H x y d e z Q hP hx hy ho k
  obtain ⟨i, j, rfl, rfl, c, rfl⟩ := onI_int ho
  cases hx; cases hy
  exact ⟨i, j, rfl, rfl, hc _ _ c, k _ _ (Same.refl _) (.int _)⟩
theorem s2_I0 {g : Int → Int → Int} : S2 (rI0 fun i j => .int (g i j)) (onI (fun _ _ => true) fun i j => .int (g i j)) := by
  intro P H x y d e z Q hP hx hy ho k
  obtain ⟨i, j, rfl, rfl, c, rfl⟩ := onI_int ho
  cases hx; cases hy
  exact ⟨i, j, rfl, rfl, k _ _ (Same.refl _) (.int _)⟩
theorem s2_B0 {g : Int → Int → Bool} : S2 (rI0 fun i j => .bl (g i j)) (onI (fun _ _ => true) fun i j => .bool (g i j)) := by
  intro P H x y d e z Q hP hx hy ho k
  obtain ⟨i, j, rfl, rfl, c, rfl⟩ := onI_int ho
  cases hx; cases hy
  exact ⟨i, j, rfl, rfl, k _ _ (Same.refl _) (.bl _)⟩
def big64 (i : Int) : Bool := decide (-(2 ^ 64) < i) && decide (i < 2 ^ 64)
theorem big64_iff {i : Int} : big64 i = true ↔ -(2 ^ 64) < i ∧ i < 2 ^ 64 := by simp [big64]

section
variable {X : Cx}
/-! a + b: ints, lists, texts, tuples -/
def rAddD (K : PySem.W.Frag) : R2 := fun x y H Q => rI0 (fun i j => .int (i + j)) x y H Q ∨ (rCat x y H Q ∨ (rCatA K x y H Q ∨ ∃ i j, x = .str i ∧ y = .str j ∧ i.length + j.length ≤ sizeLine ∧ Q (.str (i ++ j)) H))
theorem op_addD : OpR X (binaryOp .Add) (rAddD X.K) := op_add.or (op_cat.or (op_catA.or op_add_str))
def addD : D → D → Option D
  | .int i, .int j => some (.int (i + j))
  | .list xs, .list ys => if xs.length + ys.length ≤ lim then some (.list (xs ++ ys)) else none
  | .tuple xs, .tuple ys => if xs.length + ys.length ≤ lim then some (.tuple (xs ++ ys)) else none
  | .str x, .str y => if x.length + y.length ≤ lim ∧ (x ++ y).length ≤ lim ∧ PyData.strOk (x ++ y) = true then some (.str (x ++ y)) else none
  | _, _ => none
theorem ite_some {α : Type} {c : Prop} [Decidable c] {a z : α} (h : (if c then some a else none) = some z) : c ∧ a = z := by
  by_cases hc : c
  · rw [if_pos hc] at h; exact ⟨hc, Option.some.inj h⟩
  · rw [if_neg hc] at h; cases h
theorem s2_add {K : PySem.W.Frag} : S2 (rAddD K) addD := by
  intro P H x y d e z Q hP hx hy ho k
  cases hx with
  | int i =>
    cases hy with
    | int j => cases ho; exact .inl ⟨i, j, rfl, rfl, k _ _ (Same.refl _) (.int _)⟩
    | _ => cases ho
  | str i a b =>
    cases hy with
    | str j a' b' =>
      obtain ⟨h, rfl⟩ := ite_some ho
      exact .inr (.inr (.inr ⟨i, j, rfl, rfl, lim_line h.1, k _ _ (Same.refl _) (.str _ h.2.1 h.2.2)⟩))
    | _ => cases ho
  | lst ha la ra =>
    cases hy with
    | lst hb lb rb =>
      obtain ⟨h, rfl⟩ := ite_some ho
      have l1 := ra.len
      have l2 := rb.len
      exact .inr (.inl ⟨_, _, _, _, rfl, rfl, Fz_sub _ _ ha, Fz_sub _ _ hb, lim_line (by omega), fun p hp => k _ _ (Same.new hp) (rp_lst hP hp (by rw [List.length_append]; omega) (ra.append rb))⟩)
    | _ => cases ho
  | tup ha la ra =>
    cases hy with
    | tup hb lb rb =>
      obtain ⟨h, rfl⟩ := ite_some ho
      have l1 := ra.len
      have l2 := rb.len
      refine .inr (.inr (.inl ⟨_, _, _, _, rfl, rfl, SqT.of (Fz_sub _ _ ha), SqT.of (Fz_sub _ _ hb), lim_line (by omega), fun e => ?_, fun _ e => ?_, fun _ _ p hp => ?_⟩))
      · subst e
        cases ra
        exact k _ _ (Same.refl _) (.tup hb lb rb)
      · subst e
        cases rb
        rw [List.append_nil] at k
        exact k _ _ (Same.refl _) (.tup ha la ra)
      · exact k _ _ (Same.new hp) (rp_tup hP hp (by rw [List.length_append]; omega) (ra.append rb))
    | _ => cases ho
  | _ => cases ho

/-! a - b, a % b, a // b, a ** b -/
def subD : D → D → Option D := onI (fun _ _ => true) fun i j => .int (i - j)
theorem s2_sub : S2 (rI0 fun i j => .int (i - j)) subD := s2_I0
def modD : D → D → Option D := onI (fun _ j => decide (0 < j)) fun i j => .int (i % j)
theorem s2_mod : S2 (rI (fun _ j => 0 < j) fun i j => .int (i % j)) modD := s2_I fun _ _ h => of_decide_eq_true h
def fdivD : D → D → Option D := onI (fun _ j => decide (0 < j) && decide (j < 1073741824)) fun i j => .int (i / j)
theorem s2_fdiv : S2 (rI CDiv fun i j => .int (i / j)) fdivD := s2_I fun i j h => by
  simp only [Bool.and_eq_true, decide_eq_true_eq] at h
  exact h
def powD : D → D → Option D := onI (fun i j => decide (0 ≤ j) && decide (j ≤ 1000000) && big64 i) fun i j => .int (i ^ j.toNat)
theorem s2_pow : S2 (rI CPow fun i j => .int (i ^ j.toNat)) powD := s2_I fun i j h => by
  simp only [Bool.and_eq_true, decide_eq_true_eq, big64_iff] at h
  exact ⟨h.1.1, h.1.2, by omega⟩
/-! a * b: ints; a list times an int -/
def rMulD : R2 := fun x y H Q => rI CMul (fun i j => .int (i * j)) x y H Q ∨ rRep x y H Q
theorem op_mulD : OpR X (binaryOp .Mult) rMulD := op_mul.or op_rep
def mulD : D → D → Option D
  | .int i, .int j => if (big64 i || big64 j) = true then some (.int (i * j)) else none
  | .list xs, .int k => if -(2 ^ 63) ≤ k ∧ k < 2 ^ 63 ∧ xs.length * k.toNat ≤ lim then some (.list (List.replicate k.toNat xs).flatten) else none
  | _, _ => none
theorem rpAll_rep {H : Hp} {vs : List V} {ds : List D} (r : RpAll H vs ds) : ∀ n, RpAll H (List.replicate n vs).flatten (List.replicate n ds).flatten
  | 0 => .nil
  | n + 1 => by
    rw [List.replicate_succ, List.replicate_succ, List.flatten_cons, List.flatten_cons]
    exact r.append (rpAll_rep r n)
theorem len_rep {α : Type} (vs : List α) : ∀ n, (List.replicate n vs).flatten.length = vs.length * n
  | 0 => by simp
  | n + 1 => by
    rw [List.replicate_succ, List.flatten_cons, List.length_append, len_rep vs n, Nat.mul_succ]
    omega
theorem s2_mul : S2 rMulD mulD := by
  intro P H x y d e z Q hP hx hy ho k
  cases hx with
  | int i =>
    cases hy with
    | int j =>
      obtain ⟨h, rfl⟩ := ite_some ho
      rw [Bool.or_eq_true, big64_iff, big64_iff] at h
      exact .inl ⟨i, j, rfl, rfl, h, k _ _ (Same.refl _) (.int _)⟩
    | _ => cases ho
  | lst ha la ra =>
    cases hy with
    | int j =>
      obtain ⟨⟨h1, h2, h3⟩, rfl⟩ := ite_some ho
      have l1 := ra.len
      exact .inr ⟨_, _, _, rfl, rfl, Fz_sub _ _ ha, h1, h2, lim_line (by rw [l1]; exact h3), fun p hp => k _ _ (Same.new hp) (rp_lst hP hp (by rw [len_rep, l1]; exact h3) (rpAll_rep ra _))⟩
    | _ => cases ho
  | _ => cases ho

/-! comparisons of ints -/
def ltD : D → D → Option D := onI (fun _ _ => true) fun i j => .bool (decide (i < j))
def leD : D → D → Option D := onI (fun _ _ => true) fun i j => .bool (decide (i ≤ j))
def gtD : D → D → Option D := onI (fun _ _ => true) fun i j => .bool (decide (j < i))
def geD : D → D → Option D := onI (fun _ _ => true) fun i j => .bool (decide (j ≤ i))
theorem s2_lt : S2 (rI0 fun i j => .bl (decide (i < j))) ltD := s2_B0 (g := fun i j => decide (i < j))
theorem s2_le : S2 (rI0 fun i j => .bl (decide (i ≤ j))) leD := s2_B0 (g := fun i j => decide (i ≤ j))
theorem s2_gt : S2 (rI0 fun i j => .bl (decide (j < i))) gtD := s2_B0 (g := fun i j => decide (j < i))
theorem s2_ge : S2 (rI0 fun i j => .bl (decide (j ≤ i))) geD := s2_B0 (g := fun i j => decide (j ≤ i))

/-! == and != of data -/
def rEqE (K : PySem.W.Frag) : R2 := fun x y H Q => ∃ d e, Dp K H x d ∧ Dp K H y e ∧ d.canLay0 = true ∧ e.canLay0 = true ∧ min d.depth e.depth ≤ 64 ∧ Q (.bl (PyData.eqv d e)) H
def rNeE (K : PySem.W.Frag) : R2 := fun x y H Q => ∃ d e, Dp K H x d ∧ Dp K H y e ∧ d.canLay0 = true ∧ e.canLay0 = true ∧ min d.depth e.depth ≤ 64 ∧ Q (.bl (!PyData.eqv d e)) H
theorem op_eqE (hu : X.A.units + 64 < cLine) : OpR X (compareOp .Eq) (rEqE X.K) := by
  intro pins s σ H x y v u Q I rx ry h
  obtain ⟨d, e, hd, he, sd, se, hm, q⟩ := h
  obtain ⟨as, r1⟩ := Dp.reads I d x v hd rx
  obtain ⟨bs, r2⟩ := Dp.reads I e y u he ry
  exact SeqAt.compareEq_reads r1 r2 sd se (by omega) ⟨.bl _, H, I, rfl, q⟩
theorem op_neE (hu : X.A.units + 64 < cLine) : OpR X (compareOp .NotEq) (rNeE X.K) := by
  intro pins s σ H x y v u Q I rx ry h
  obtain ⟨d, e, hd, he, sd, se, hm, q⟩ := h
  obtain ⟨as, r1⟩ := Dp.reads I d x v hd rx
  obtain ⟨bs, r2⟩ := Dp.reads I e y u he ry
  exact SeqAt.compareNe_reads r1 r2 sd se (by omega) ⟨.bl _, H, I, rfl, q⟩
def eqD (d e : D) : Option D := if d.depth ≤ 64 ∨ e.depth ≤ 64 then some (.bool (PyData.eqv d e)) else none
def neD (d e : D) : Option D := if d.depth ≤ 64 ∨ e.depth ≤ 64 then some (.bool (!PyData.eqv d e)) else none
theorem s2_eq {K : PySem.W.Frag} : S2 (rEqE K) eqD := by
  intro P H x y d e z Q hP hx hy ho k
  obtain ⟨h, rfl⟩ := ite_some ho
  exact ⟨d, e, (hx.up Fz_sub).dp, (hy.up Fz_sub).dp, hx.lay, hy.lay, by omega, k _ _ (Same.refl _) (.bl _)⟩
theorem s2_ne {K : PySem.W.Frag} : S2 (rNeE K) neD := by
  intro P H x y d e z Q hP hx hy ho k
  obtain ⟨h, rfl⟩ := ite_some ho
  exact ⟨d, e, (hx.up Fz_sub).dp, (hy.up Fz_sub).dp, hx.lay, hy.lay, by omega, k _ _ (Same.refl _) (.bl _)⟩
/-! is None, is True .. -/
def isND (d e : D) : Option D := match e with
  | .none => some (.bool (match d with | .none => true | _ => false))
  | _ => none
theorem s2_isN : S2 (fun x y H Q => y = .non ∧ Q (.bl (decide (x = .non))) H) isND := by
  intro P H x y d e z Q hP hx hy ho k
  cases hy with
  | non =>
    refine ⟨rfl, ?_⟩
    cases hx <;> (cases ho; exact k _ _ (Same.refl _) (.bl _))
  | _ => cases ho
def notND (d e : D) : Option D := match e with
  | .none => some (.bool (match d with | .none => false | _ => true))
  | _ => none
theorem s2_notN : S2 (fun x y H Q => y = .non ∧ Q (.bl (!decide (x = .non))) H) notND := by
  intro P H x y d e z Q hP hx hy ho k
  cases hy with
  | non =>
    refine ⟨rfl, ?_⟩
    cases hx <;> (cases ho; exact k _ _ (Same.refl _) (.bl _))
  | _ => cases ho
def isBD (d e : D) : Option D := match d, e with
  | .bool a, .bool b => some (.bool (decide (a = b)))
  | _, _ => none
theorem s2_isB : S2 rIsB isBD := by
  intro P H x y d e z Q hP hx hy ho k
  cases hx <;> cases hy <;> first
    | (cases ho; done)
    | (cases ho; exact ⟨_, _, rfl, rfl, k _ _ (Same.refl _) (.bl _)⟩)
def notBD (d e : D) : Option D := match d, e with
  | .bool a, .bool b => some (.bool (!decide (a = b)))
  | _, _ => none
theorem s2_notB : S2 rNotB notBD := by
  intro P H x y d e z Q hP hx hy ho k
  cases hx <;> cases hy <;> first
    | (cases ho; done)
    | (cases ho; exact ⟨_, _, rfl, rfl, k _ _ (Same.refl _) (.bl _)⟩)

/-! x in xs -/
def rInE (K : PySem.W.Frag) (neg : Bool) : R2 := fun x y H Q => ∃ d ds, Dp K H x d ∧ Dp K H y (.list ds) ∧ d.canLay0 = true ∧ PyData.canLayAll0 ds = true ∧ d.depth ≤ 64 ∧ Q (.bl (if neg then !ds.any (fun z => PyData.eqv z d) else ds.any fun z => PyData.eqv z d)) H
theorem op_inE (hu : X.A.units + 65 < cLine) : OpR X (compareOp .In) (rInE X.K false) := by
  intro pins s σ H x y v u Q I rx ry h
  obtain ⟨d, ds, hd, he, sd, se, hm, q⟩ := h
  obtain ⟨as, r1⟩ := Dp.reads I d x v hd rx
  obtain ⟨bs, r2⟩ := Dp.reads I (.list ds) y u he ry
  exact SeqAt.in_list_reads r2 r1 (by simpa [PyData.canLay0] using se) sd (by omega) ⟨.bl _, H, I, rfl, q⟩
theorem op_notInE (hu : X.A.units + 65 < cLine) : OpR X (compareOp .NotIn) (rInE X.K true) := by
  intro pins s σ H x y v u Q I rx ry h
  obtain ⟨d, ds, hd, he, sd, se, hm, q⟩ := h
  obtain ⟨as, r1⟩ := Dp.reads I d x v hd rx
  obtain ⟨bs, r2⟩ := Dp.reads I (.list ds) y u he ry
  exact SeqAt.notIn_list_reads r2 r1 (by simpa [PyData.canLay0] using se) sd (by omega) ⟨.bl _, H, I, rfl, q⟩
def inD (neg : Bool) (d e : D) : Option D := match e with
  | .list ds => if d.depth ≤ 64 then some (.bool (if neg then !ds.any (fun z => PyData.eqv z d) else ds.any fun z => PyData.eqv z d)) else none
  | _ => none
theorem s2_in {K : PySem.W.Frag} {neg : Bool} : S2 (rInE K neg) (inD neg) := by
  intro P H x y d e z Q hP hx hy ho k
  cases hy with
  | lst hb lb rb =>
    obtain ⟨h, rfl⟩ := ite_some ho
    exact ⟨d, _, (hx.up Fz_sub).dp, .lst (SqL.of (Fz_sub _ _ hb)) (rb.up Fz_sub).dp, hx.lay, rb.lay, h, k _ _ (Same.refl _) (.bl _)⟩
  | _ => cases ho

/-! xs[i] -/
def ixD (d e : D) : Option D := match d, e with
  | .list ds, .int i => atI ds i
  | .tuple ds, .int i => atI ds i
  | .str x, .int i => (atI x.cps.toList i).bind fun c => if PyData.strOk ⟨#[c]⟩ = true then some (.str ⟨#[c]⟩) else none
  | _, _ => none
theorem atI_rp {F : Hp} {vs : List V} {ds : List D} {i : Int} {z : D} (r : RpAll F vs ds) (h : atI ds i = some z) : ∃ v, atI vs i = some v ∧ Rp F v z := by
  unfold atI at h ⊢
  rw [r.len]
  cases e : ixN ds.length i with
  | none => rw [e] at h; cases h
  | some j =>
    rw [e] at h
    exact r.get h
theorem s2_ix {K : PySem.W.Frag} : S2 (rIx K) ixD := by
  intro P H x y d e z Q hP hx hy ho k
  cases hx with
  | lst ha la ra =>
    cases hy with
    | int i =>
      obtain ⟨v, h1, h2⟩ := atI_rp ra (show atI _ i = some z from ho)
      exact .inl ⟨_, _, i, v, rfl, rfl, SqL.of (Fz_sub _ _ ha), h1, k _ _ (Same.refl _) h2⟩
    | _ => cases ho
  | tup ha la ra =>
    cases hy with
    | int i =>
      obtain ⟨v, h1, h2⟩ := atI_rp ra (show atI _ i = some z from ho)
      exact .inr (.inl ⟨_, _, i, v, rfl, rfl, SqT.of (Fz_sub _ _ ha), h1, k _ _ (Same.refl _) h2⟩)
    | _ => cases ho
  | str w a b =>
    cases hy with
    | int i =>
      have ho : ((atI w.cps.toList i).bind fun c => if PyData.strOk ⟨#[c]⟩ = true then some (.str ⟨#[c]⟩) else none) = some z := ho
      cases e : atI w.cps.toList i with
      | none => rw [e] at ho; cases ho
      | some c =>
        rw [e] at ho
        obtain ⟨h, rfl⟩ := ite_some (show (if PyData.strOk ⟨#[c]⟩ = true then some (PyData.str ⟨#[c]⟩) else none) = some z from ho)
        exact .inr (.inr ⟨w, i, c, rfl, rfl, lim_line a, e, k _ _ (Same.refl _) (.str _ (by show 1 ≤ lim; decide) h)⟩)
    | _ => cases ho
  | _ => cases ho
end
end DL

namespace DL
open PySem PySem.Spec PyProof.Rows L2

/-! ### lists of ints, of bools -/
def intsOf : List D → Option (List Int)
  | [] => some []
  | .int i :: r => (intsOf r).map (i :: ·)
  | _ :: _ => none
def boolsOf : List D → Option (List Bool)
  | [] => some []
  | .bool b :: r => (boolsOf r).map (b :: ·)
  | _ :: _ => none
theorem intsOf_map : ∀ ns : List Int, intsOf (ns.map .int) = some ns
  | [] => rfl
  | n :: r => by simp [intsOf, intsOf_map r]
theorem boolsOf_map : ∀ ns : List Bool, boolsOf (ns.map .bool) = some ns
  | [] => rfl
  | n :: r => by simp [boolsOf, boolsOf_map r]
theorem intsOf_eq : ∀ {ds : List D} {ns : List Int}, intsOf ds = some ns → ds = ns.map .int
  | [], _, h => by cases h; rfl
  | .int i :: r, ns, h => by
    cases e : intsOf r with
    | none => simp [intsOf, e] at h
    | some ms =>
      simp [intsOf, e] at h
      subst h
      simp [intsOf_eq e]
  | .none :: _, _, h | .bool _ :: _, _, h | .str _ :: _, _, h | .list _ :: _, _, h | .tuple _ :: _, _, h | .dict _ :: _, _, h => by cases h
theorem boolsOf_eq : ∀ {ds : List D} {ns : List Bool}, boolsOf ds = some ns → ds = ns.map .bool
  | [], _, h => by cases h; rfl
  | .bool i :: r, ns, h => by
    cases e : boolsOf r with
    | none => simp [boolsOf, e] at h
    | some ms =>
      simp [boolsOf, e] at h
      subst h
      simp [boolsOf_eq e]
  | .none :: _, _, h | .int _ :: _, _, h | .str _ :: _, _, h | .list _ :: _, _, h | .tuple _ :: _, _, h | .dict _ :: _, _, h => by cases h
theorem rp_ints {F : Hp} : ∀ {ns : List Int} {vs : List V}, RpAll F vs (ns.map .int) → vs = ns.map V.int
  | [], _, h => by cases h; rfl
  | n :: r, _, h => by cases h with | cons a b => cases a; rw [rp_ints b]; rfl
theorem rp_bools {F : Hp} : ∀ {ns : List Bool} {vs : List V}, RpAll F vs (ns.map .bool) → vs = ns.map V.bl
  | [], _, h => by cases h; rfl
  | n :: r, _, h => by cases h with | cons a b => cases a; rw [rp_bools b]; rfl
theorem ints_rp {F : Hp} : ∀ ns : List Int, RpAll F (ns.map V.int) (ns.map .int)
  | [] => .nil
  | n :: r => .cons (.int n) (ints_rp r)

theorem rp1 {F : Hp} {xs : List V} {d : D} (h : RpAll F xs [d]) : ∃ x, xs = [x] ∧ Rp F x d := by
  cases h with | cons a b => cases b; exact ⟨_, rfl, a⟩
theorem rp2 {F : Hp} {xs : List V} {d e : D} (h : RpAll F xs [d, e]) : ∃ x y, xs = [x, y] ∧ Rp F x d ∧ Rp F y e := by
  cases h with | cons a b => cases b with | cons c b => cases b; exact ⟨_, _, rfl, a, c⟩

section
variable {X : Cx}
/-! len -/
def rLenE (K : PySem.W.Frag) : List V → Hp → VK → Prop := fun xs H Q => ∃ x n, xs = [x] ∧ LenV K x H n ∧ Q (.int n) H
theorem cr_len : CallR X (.builtin "len") (rLenE X.K) := call_len
def lenD : List D → Option D
  | [.str x] => some (.int x.length)
  | [.list ds] => some (.int ds.length)
  | [.tuple ds] => some (.int ds.length)
  | _ => none
theorem sa_len {K : PySem.W.Frag} : SA (rLenE K) lenD := by
  intro P H xs ds z Q hP hx ho k
  match ds, ho with
  | [.str x], ho =>
    cases ho
    obtain ⟨v, rfl, r⟩ := rp1 hx
    cases r with | str _ a b => exact ⟨_, x.length, rfl, ⟨lim_line a, rfl⟩, k _ _ (Same.refl _) (.int _)⟩
  | [.list ds], ho =>
    cases ho
    obtain ⟨v, rfl, r⟩ := rp1 hx
    cases r with | lst a b c => exact ⟨_, ds.length, rfl, .inl ⟨_, SqL.of (Fz_sub _ _ a), c.len.symm⟩, k _ _ (Same.refl _) (.int _)⟩
  | [.tuple ds], ho =>
    cases ho
    obtain ⟨v, rfl, r⟩ := rp1 hx
    cases r with | tup a b c => exact ⟨_, ds.length, rfl, .inr ⟨_, SqT.of (Fz_sub _ _ a), c.len.symm⟩, k _ _ (Same.refl _) (.int _)⟩
/-! abs -/
def rAbs : List V → Hp → VK → Prop := fun xs H Q => ∃ i, xs = [.int i] ∧ Q (.int (if i < 0 then -i else i)) H
theorem cr_abs : CallR X (.builtin "abs") rAbs := call_abs
def absD : List D → Option D
  | [.int i] => some (.int (if i < 0 then -i else i))
  | _ => none
theorem sa_abs : SA rAbs absD := by
  intro P H xs ds z Q hP hx ho k
  match ds, ho with
  | [.int i], ho =>
    cases ho
    obtain ⟨v, rfl, r⟩ := rp1 hx
    cases r
    exact ⟨i, rfl, k _ _ (Same.refl _) (.int _)⟩
/-! sum of a list, of a tuple of ints -/
def rSumT (K : PySem.W.Frag) : List V → Hp → VK → Prop := fun vs H Q => ∃ (a : Addr) (ns : List Int), vs = [V.ref a] ∧ SqT K H a (ns.map V.int) ∧ Q (.int ns.sum) H
theorem cr_sumT (hc : X.calm = true) : CallR X (.builtin "sum") (rSumT X.K) := by
  intro pins s σ H vs us Q I r h
  obtain ⟨a, ns, rfl, hs, q⟩ := h
  rw [Vals.ref1 r]
  obtain ⟨its, rv, p, hz⟩ := I.tuple hs
  have hi := Vals.ints rv
  obtain ⟨xs, e⟩ := hi.allInts.items
  have hn : PySem.numsOf (intItems xs).toList = ns := by rw [← e]; exact hi.numsOf
  rw [nums_intItems] at hn
  rw [e] at p
  refine PySem.W.ktm_sumG (I.ok.hd hc) p fun h' tk t' hk => ?_
  refine ⟨.int ns.sum, H, I.kept hk, ⟨t', ?_⟩, q⟩
  rw [preSum_eq, List.take_of_length_le (by simp), hn]
def rSumE (K : PySem.W.Frag) : List V → Hp → VK → Prop := fun xs H Q => rSum K xs H Q ∨ rSumT K xs H Q
theorem cr_sumE (hc : X.calm = true) : CallR X (.builtin "sum") (rSumE X.K) := (cr_sum hc).or (cr_sumT hc)
def sumD : List D → Option D
  | [.list ds] => (intsOf ds).map fun ns => .int ns.sum
  | [.tuple ds] => (intsOf ds).map fun ns => .int ns.sum
  | _ => none
theorem sa_sum {K : PySem.W.Frag} : SA (rSumE K) sumD := by
  intro P H xs ds z Q hP hx ho k
  match ds, ho with
  | [.list ds], ho =>
    have ho : (intsOf ds).map (fun ns => PyData.int ns.sum) = some z := ho
    obtain ⟨ns, e, rfl⟩ := Option.map_eq_some_iff.mp ho
    have e' := intsOf_eq e
    subst e'
    obtain ⟨v, rfl, r⟩ := rp1 hx
    cases r with
    | lst a b c =>
      have q := rp_ints c
      subst q
      exact .inl ⟨_, ns, rfl, SqL.of (Fz_sub _ _ a), k _ _ (Same.refl _) (.int _)⟩
  | [.tuple ds], ho =>
    have ho : (intsOf ds).map (fun ns => PyData.int ns.sum) = some z := ho
    obtain ⟨ns, e, rfl⟩ := Option.map_eq_some_iff.mp ho
    have e' := intsOf_eq e
    subst e'
    obtain ⟨v, rfl, r⟩ := rp1 hx
    cases r with
    | tup a b c =>
      have q := rp_ints c
      subst q
      exact .inr ⟨_, ns, rfl, SqT.of (Fz_sub _ _ a), k _ _ (Same.refl _) (.int _)⟩
/-! max, min: of a list of ints, of two ints -/
def rMax2' : List V → Hp → VK → Prop := fun xs H Q => ∃ i j, xs = [.int i, .int j] ∧ Q (.int (if j > i then j else i)) H
def rMin2' : List V → Hp → VK → Prop := fun xs H Q => ∃ i j, xs = [.int i, .int j] ∧ Q (.int (if j < i then j else i)) H
def rMaxE (K : PySem.W.Frag) : List V → Hp → VK → Prop := fun xs H Q => rMax K xs H Q ∨ rMax2' xs H Q
def rMinE (K : PySem.W.Frag) : List V → Hp → VK → Prop := fun xs H Q => rMin K xs H Q ∨ rMin2' xs H Q
theorem cr_maxE (hc : X.calm = true) : CallR X (.builtin "max") (rMaxE X.K) := (cr_max hc).or (call_max2 hc)
theorem cr_minE (hc : X.calm = true) : CallR X (.builtin "min") (rMinE X.K) := (cr_min hc).or (call_min2 hc)
def maxD : List D → Option D
  | [.list ds] => (intsOf ds).bind fun ns => ns.max?.map .int
  | [.int i, .int j] => some (.int (if j > i then j else i))
  | _ => none
def minD : List D → Option D
  | [.list ds] => (intsOf ds).bind fun ns => ns.min?.map .int
  | [.int i, .int j] => some (.int (if j < i then j else i))
  | _ => none
theorem max_is {ns : List Int} {m : Int} (h : ns.max? = some m) : 0 < ns.length ∧ ∀ y, y ∈ ns → (∀ a, a ∈ ns → a ≤ y) → y = m := by
  obtain ⟨h1, h2⟩ := List.max?_eq_some_iff.mp h
  refine ⟨List.length_pos_of_mem h1, fun y hy hm => ?_⟩
  have a := h2 y hy
  have b := hm m h1
  omega
theorem min_is {ns : List Int} {m : Int} (h : ns.min? = some m) : 0 < ns.length ∧ ∀ y, y ∈ ns → (∀ a, a ∈ ns → y ≤ a) → y = m := by
  obtain ⟨h1, h2⟩ := List.min?_eq_some_iff.mp h
  refine ⟨List.length_pos_of_mem h1, fun y hy hm => ?_⟩
  have a := h2 y hy
  have b := hm m h1
  omega
theorem sa_max {K : PySem.W.Frag} : SA (rMaxE K) maxD := by
  intro P H xs ds z Q hP hx ho k
  match ds, ho with
  | [.list ds], ho =>
    have ho : (intsOf ds).bind (fun ns => ns.max?.map PyData.int) = some z := ho
    obtain ⟨ns, e, e2⟩ := Option.bind_eq_some_iff.mp ho
    obtain ⟨m, e3, rfl⟩ := Option.map_eq_some_iff.mp e2
    have e' := intsOf_eq e
    subst e'
    obtain ⟨v, rfl, r⟩ := rp1 hx
    cases r with
    | lst a b c =>
      have q := rp_ints c
      subst q
      obtain ⟨h1, h2⟩ := max_is e3
      exact .inl ⟨_, ns, rfl, SqL.of (Fz_sub _ _ a), h1, fun y hy hm => by rw [h2 y hy hm]; exact k _ _ (Same.refl _) (.int _)⟩
  | [.int i, .int j], ho =>
    cases ho
    obtain ⟨v, w, rfl, r, r'⟩ := rp2 hx
    cases r; cases r'
    exact .inr ⟨i, j, rfl, k _ _ (Same.refl _) (.int _)⟩
theorem sa_min {K : PySem.W.Frag} : SA (rMinE K) minD := by
  intro P H xs ds z Q hP hx ho k
  match ds, ho with
  | [.list ds], ho =>
    have ho : (intsOf ds).bind (fun ns => ns.min?.map PyData.int) = some z := ho
    obtain ⟨ns, e, e2⟩ := Option.bind_eq_some_iff.mp ho
    obtain ⟨m, e3, rfl⟩ := Option.map_eq_some_iff.mp e2
    have e' := intsOf_eq e
    subst e'
    obtain ⟨v, rfl, r⟩ := rp1 hx
    cases r with
    | lst a b c =>
      have q := rp_ints c
      subst q
      obtain ⟨h1, h2⟩ := min_is e3
      exact .inl ⟨_, ns, rfl, SqL.of (Fz_sub _ _ a), h1, fun y hy hm => by rw [h2 y hy hm]; exact k _ _ (Same.refl _) (.int _)⟩
  | [.int i, .int j], ho =>
    cases ho
    obtain ⟨v, w, rfl, r, r'⟩ := rp2 hx
    cases r; cases r'
    exact .inr ⟨i, j, rfl, k _ _ (Same.refl _) (.int _)⟩
/-! all of a list of bools -/
def allD : List D → Option D
  | [.list ds] => (boolsOf ds).map fun bs => .bool (bs.all id)
  | _ => none
theorem sa_all {K : PySem.W.Frag} : SA (rAll K) allD := by
  intro P H xs ds z Q hP hx ho k
  match ds, ho with
  | [.list ds], ho =>
    have ho : (boolsOf ds).map (fun ns => PyData.bool (ns.all id)) = some z := ho
    obtain ⟨ns, e, rfl⟩ := Option.map_eq_some_iff.mp ho
    have e' := boolsOf_eq e
    subst e'
    obtain ⟨v, rfl, r⟩ := rp1 hx
    cases r with
    | lst a b c =>
      have q := rp_bools c
      subst q
      exact ⟨_, ns, rfl, SqL.of (Fz_sub _ _ a), k _ _ (Same.refl _) (.bl _)⟩
/-! list(xs), tuple(xs) -/
def rListE (K : PySem.W.Frag) : List V → Hp → VK → Prop := fun xs H Q => ∃ p ys, xs = [.ref p] ∧ (SqL K H p ys ∨ SqT K H p ys) ∧ ∀ l, H l = none → Q (.ref l) (upd H l (.lst ys))
def rTupleE (K : PySem.W.Frag) : List V → Hp → VK → Prop := fun xs H Q => ∃ p ys, xs = [.ref p] ∧ ((SqL K H p ys ∧ ∀ l, H l = none → Q (.ref l) (upd H l (.tup ys))) ∨ (SqT K H p ys ∧ Q (.ref p) H))
theorem cr_listE : CallR X (.type "list") (rListE X.K) := call_list_of
theorem cr_tupleE : CallR X (.type "tuple") (rTupleE X.K) := call_tuple_of
def listD : List D → Option D
  | [.list ds] => some (.list ds)
  | [.tuple ds] => some (.list ds)
  | _ => none
def tupleD : List D → Option D
  | [.list ds] => some (.tuple ds)
  | [.tuple ds] => some (.tuple ds)
  | _ => none
theorem sa_list {K : PySem.W.Frag} : SA (rListE K) listD := by
  intro P H xs ds z Q hP hx ho k
  match ds, ho with
  | [.list ds], ho =>
    cases ho
    obtain ⟨v, rfl, r⟩ := rp1 hx
    cases r with | lst a b c => exact ⟨_, _, rfl, .inl (SqL.of (Fz_sub _ _ a)), fun l hl => k _ _ (Same.new hl) (rp_lst hP hl b c)⟩
  | [.tuple ds], ho =>
    cases ho
    obtain ⟨v, rfl, r⟩ := rp1 hx
    cases r with | tup a b c => exact ⟨_, _, rfl, .inr (SqT.of (Fz_sub _ _ a)), fun l hl => k _ _ (Same.new hl) (rp_lst hP hl b c)⟩
theorem sa_tuple {K : PySem.W.Frag} : SA (rTupleE K) tupleD := by
  intro P H xs ds z Q hP hx ho k
  match ds, ho with
  | [.list ds], ho =>
    cases ho
    obtain ⟨v, rfl, r⟩ := rp1 hx
    cases r with | lst a b c => exact ⟨_, _, rfl, .inl ⟨SqL.of (Fz_sub _ _ a), fun l hl => k _ _ (Same.new hl) (rp_tup hP hl b c)⟩⟩
  | [.tuple ds], ho =>
    cases ho
    obtain ⟨v, rfl, r⟩ := rp1 hx
    cases r with | tup a b c => exact ⟨_, _, rfl, .inr ⟨SqT.of (Fz_sub _ _ a), k _ _ (Same.refl _) (.tup a b c)⟩⟩

/-! sorted of data that are alike -/
def allAlikeB (ds : List D) : Bool := ds.all fun d => ds.all fun e => PySem.W.alike d e
def sortableB (ds : List D) : Bool := (ds.all fun d => match d with | .tuple (_ :: _) => true | _ => false) || (ds.all fun d => match d with | .none => false | .tuple _ => false | _ => true)
def leD' (a b : D) : Bool := !PySem.W.dataLt b a
def sortedD : List D → Option D
  | [.list ds] => if allAlikeB ds = true ∧ sortableB ds = true ∧ (∀ d ∈ ds, d.depth ≤ 60) then some (.list (ds.mergeSort leD')) else none
  | _ => none
def rSortedE (K : PySem.W.Frag) : List V → Hp → VK → Prop := fun xs H Q => ∃ (a : Addr) (vs : List V) (bs : List (V × D)), xs = [.ref a] ∧ SqL K H a vs ∧ vs = bs.map (·.1) ∧ (∀ p ∈ bs, Dp K H p.1 p.2) ∧ PySem.W.AllAlike (bs.map (·.2)) ∧ PySem.W.Sortable (bs.map (·.2)) ∧
  (∀ p ∈ bs, p.2.depth ≤ 60) ∧ ∀ l, H l = none → Q (.ref l) (upd H l (.lst ((bs.mergeSort fun p q => leD' p.2 q.2).map (·.1))))
theorem each_vals {f : V × D → V} : ∀ {bs : List (V × D)} {us : List Value}, Vals (bs.map (·.1)) us → PySem.W.EachIs (fun v (b : V × D) => RelV b.1 v) us bs
  | [], _, h => by cases h; exact .nil
  | b :: r, _, h => by cases h with | cons a c => exact .cons a (each_vals (f := f) c)
theorem vals_each : ∀ {bs : List (V × D)} {us : List Value}, PySem.W.EachIs (fun v (b : V × D) => RelV b.1 v) us bs → Vals (bs.map (·.1)) us
  | _, _, .nil => .nil
  | _, _, .cons a c => .cons a (vals_each c)
theorem each_reads {pins : List (Addr × Obj)} {σ : L2.St} {H : Hp} {s : Shared} (I : Inv X pins σ H s) : ∀ {bs : List (V × D)} {us : List Value}, Vals (bs.map (·.1)) us → (∀ p ∈ bs, Dp X.K H p.1 p.2) →
    PySem.W.EachIs (fun v (b : V × D) => ∃ as, Reads s.heap v b.2 as) us bs
  | [], _, h, _ => by cases h; exact .nil
  | b :: r, _, h, hd => by cases h with | cons a c => exact .cons (Dp.reads I b.2 b.1 _ (hd b (by simp)) a) (each_reads I c fun p hp => hd p (by simp [hp]))
theorem cr_sortedE (hu : X.A.units + 64 < cLine) : CallR X (.builtin "sorted") (rSortedE X.K) := by
  intro pins s σ H xs us Q I r h
  obtain ⟨a, vs, bs, rfl, hs, rfl, hd, hal, hk, hdep, q⟩ := h
  rw [Vals.ref1 r]
  obtain ⟨its, rv, p, hz⟩ := I.list hs
  rw [List.length_map] at hz
  refine PySem.W.sorted_data (enc := fun b : V × D => b.2) (R := fun v (b : V × D) => RelV b.1 v) p.isList (each_vals (f := fun b => b.1) rv) (each_reads I rv hd) hal hk hz (fun b hb => by have := hdep b hb; omega) fun out hlen he => ?_
  obtain ⟨c, hc⟩ := PyProof.Rows.sortedAll_at s.heap its out.toArray
  have hn : H (s.heap.objs.size + 1) = none := I.hok.fresh (Nat.le_succ _)
  have e1 : (PySem.W.dataLe false fun b : V × D => b.2) = fun p q : V × D => leD' p.2 q.2 := rfl
  rw [e1] at he
  have rr := vals_each he
  refine ⟨.ref (s.heap.objs.size + 1), upd H (s.heap.objs.size + 1) (.lst ((bs.mergeSort fun p q => leD' p.2 q.2).map (·.1))), I.laid (t' := s.toks) (fun b o e => PyProof.Rows.sortedAll_old e) (Nat.le_succ _) ⟨?_, out, c, rr, hc⟩, rfl, q _ hn⟩
  rw [List.length_map, List.length_mergeSort]
  exact hz
end
end DL

/-! set(list of ints) as the sorted rule of the sets of ints wants it -/
namespace DL
open PySem PySem.Spec PyProof.Rows L2
abbrev nset (w : World) : Obj := { cls := .type "set", dict := none, data := .set #[] 0 (.fresh 0 0 (!w.params.followText "set-order")) }
section
variable {P : Program} {w : World} {A : Around} {E : Value → Shared → Prop} {s : Shared}
/-- what set.__init__ leaves at a -/
def SetBack (w : World) (h0 : Heap) (ns : List Int) (s0 : Shared) (r : Value) (s2 : Shared) : Prop := r = .none ∧ ∃ h' tk c, s2 = { s0 with heap := h', toks := tk } ∧ SetR w h' h0.objs.size (fun j => decide (j ∈ ns)) c ∧ c ≤ ns.length ∧ ∀ b o, h0.get? b = some o → h'.get? b = some o
theorem set_of_listI {l : Addr} {its : Array Value} (ns : List Int) {Q : Value → Shared → Prop} (hd : A.handled = none) (pl : s.heap.IsList l its) (ii : IntsAre its.toList ns) (room : ns.length + 1 < scanBound)
    (k : ∀ (h' : Heap) (tk c : Nat), SetR w h' s.heap.objs.size (fun j => decide (j ∈ ns)) c → c ≤ ns.length → (∀ b o, s.heap.get? b = some o → h'.get? b = some o) → Q (.ref s.heap.objs.size) { s with heap := h', toks := tk }) :
    wpAny (model P w) A (call (.type "set") [.ref l]) Q E s := by
  have sz : its.size = ns.length := by have z := ii.length; simpa using z
  obtain ⟨c0, tl0, mro0⟩ := F.called_set.mro
  have made0 := F.called_set.made
  have sub0 := F.called_set.sub
  refine wpAny_call (codeAny_of_tree ?_)
  show wpAny _ _ (callAny (.type "set") _) _ _ _
  refine wpAny_pure ⟨Code.quiet_builtin _ (by decide +kernel), codeAny_builtin F.entry_type_call ?_⟩
  rw [Around.under_plain (weight_type_call_type "set" [.ref l] []) rfl]
  have nt := F.called_set.notType
  have cc := F.called_set.canCreate
  have tc := F.typeCall_set_1 (.ref l)
  repeat (any_goals (first | assumption | wp_step))
  refine codeAny_mono (code_set_led1 (.ref l) (E := E) (Q₁ := fun u z => u = .ref s.heap.objs.size ∧ z = { s with heap := s.heap.push (nset w) }) ⟨rfl, rfl⟩) fun r z hr => ?_
  cases r with
  | error e => exact hr
  | ok fl =>
    cases fl with
    | ret u =>
      obtain ⟨rfl, rfl⟩ := hr
      have gS : (s.heap.push (nset w)).get? s.heap.objs.size = some (nset w) := Heap.get?_push_size _ rfl
      have tS : Shared.TypeIs { s with heap := s.heap.push (nset w) } (.ref s.heap.objs.size) "set" := ⟨_, gS, rfl⟩
      have il := F.called_set.init.lookup
      have ib := F.called_set.init.bind (.ref s.heap.objs.size)
      repeat (any_goals (first | assumption | wp_step))
      refine codeAny_mono (codeAny_call_builtin (R := wants (SetBack w s.heap ns s) E) F.called_set.init.plain F.entry_set_init (check_set_init_1 tS ?_)) fun r2 z2 hr2 => ?_
      · obtain ⟨⟨oc, od, odt, osl⟩, ho, hc, n0, hdt⟩ := pl
        simp only at hc hdt
        subst hc hdt
        have ho' : (s.heap.push (nset w)).get? l = some { cls := .type "list", dict := od, data := .seq its n0, slots := osl } := Heap.get?_push_of_some _ ho
        have q1 := F.sub_list_set
        have q2 := F.sub_list_frozenset
        have q3 : (Value.type "list" == Value.type "dict") = false := by decide
        have pl1 : (s.heap.push (nset w)).IsList l its := ⟨_, ho', rfl, n0, rfl⟩
        unfold Builtin.«set.__init__» noKeywords Builtin.Frozenset.updateFrom
        generalize hPI : pyIter = PI
        wp_walk
        subst hPI
        refine wpAny_pyIter_list pl1 ?_
        refine wpAny_bind (wpAny_runValue ?_)
        have lt := Heap.lt_size ho
        have hd3 : A.in1.in1.in1.handled = none := by simp [hd]
        have zz : (s.heap.push (nset w)).objs.size = s.heap.objs.size + 1 := Heap.size_push ..
        have neI : l ≠ (s.heap.push (nset w)).objs.size := by rw [zz]; exact Nat.ne_of_lt (Nat.lt_succ_of_lt lt)
        have nfp : s.heap.objs.size ∉ [(s.heap.push (nset w)).objs.size, l] := by
          rw [zz]
          intro hm
          simp only [List.mem_cons, List.not_mem_nil, or_false] at hm
          rcases hm with hm | hm
          · exact absurd hm (Nat.ne_of_lt (Nat.lt_succ_self _))
          · exact absurd hm (Nat.ne_of_gt lt)
        have val : ∀ (i : Nat) (v : Value), its[i]? = some v → ∃ k t, ns[i]? = some k ∧ v = .int k t := fun i v hv => by
          have hi : i < ns.length := by rw [← sz]; exact (Array.getElem?_eq_some_iff.mp hv).1
          obtain ⟨t, e⟩ := ii.int_at i v (by rw [Array.getElem?_toList]; exact hv)
          exact ⟨ns[i], t, List.getElem?_eq_getElem hi, by rw [e, List.getD_eq_getElem?_getD, List.getElem?_eq_getElem hi]; rfl⟩
        refine set_update_ints ((Walks.list hd3 _ l neI its).toS) s.heap.objs.size nfp ns sz room val (its.size - 0) 0 _ (by omega) (Nat.zero_le _) ⟨⟨_, Heap.get?_push_size _ rfl, rfl, rfl⟩, (pl1.push _)⟩ ?_ ?_
        · exact ⟨0, Nat.le_refl 0, setR_new_at (Heap.get?_push_of_some _ gS)⟩
        · intro z3 c3 mv hc3 hS3
          obtain ⟨h3, g3, d3, t3, o3⟩ := z3
          have eg : g3 = s.gens := mv.gens
          have ed : d3 = s.drawn := mv.drawn
          have eo : o3 = s.os := mv.os
          subst eg ed eo
          show wpAny _ _ _ _ _ _
          refine wpAny_pure ?_
          show wpAny _ _ (ret Value.none) _ _ _
          rw [sz] at hc3
          refine wpAny_pure ⟨rfl, h3, t3, c3, rfl, hS3, hc3, fun b o e => ?_⟩
          have b0 := Heap.lt_size e
          refine mv.heap b o ?_ (Heap.get?_push_of_some _ (Heap.get?_push_of_some _ e))
          intro hm
          rw [zz] at hm
          simp only [List.mem_cons, List.not_mem_nil, or_false] at hm
          rcases hm with hm | hm
          · exact absurd hm (Nat.ne_of_lt b0)
          · exact absurd hm (Nat.ne_of_lt (Nat.lt_succ_of_lt b0))
      · cases r2 with
        | error e => exact hr2
        | ok fl2 =>
          cases fl2 with
          | ret r =>
            obtain ⟨rfl, h', tk, c', rfl, hS', hc', hk'⟩ := hr2
            repeat (any_goals (first | assumption | wp_step))
            exact k _ _ _ hS' hc' hk'
          | _ => exact hr2.elim
    | _ => exact hr.elim
end
section
variable {X : Cx}
def rSetL (K : PySem.W.Frag) (w : World) : List V → Hp → VK → Prop := fun vs H Q => ∃ (a : Addr) (ns : List Int), vs = [V.ref a] ∧ SqL K H a (ns.map V.int) ∧ ns.length < 64 ∧ ∀ p c, H p = none → c ≤ ns.length → Q (.ref p) (upd H p (SetO w p (fun j => decide (j ∈ ns)) c))
theorem cr_setL (hc : X.calm = true) : CallR X (.type "set") (rSetL X.K X.w) := by
  intro pins s σ H vs us Q I r h
  obtain ⟨a, ns, rfl, hs, hl, q⟩ := h
  rw [Vals.ref1 r]
  obtain ⟨its, rv, p, hz⟩ := I.list hs
  refine set_of_listI ns (I.ok.hd hc) p.isList (by simpa using Vals.ints rv) (by unfold scanBound; omega) fun h' tk c hS hcl hk => ?_
  have hn : H s.heap.objs.size = none := I.hok.fresh (Nat.le_refl _)
  exact ⟨.ref _, _, I.laid (t' := tk) hk (Nat.le_refl _) (setO_new hS), rfl, q _ c hn hcl⟩

/-! sorted(set(xs)) -/
def insU (x : Int) : List Int → List Int
  | [] => [x]
  | y :: r => if x < y then x :: y :: r else if x = y then y :: r else y :: insU x r
def sortU : List Int → List Int
  | [] => []
  | x :: r => insU x (sortU r)
theorem insU_mem {x k : Int} : ∀ {l : List Int}, k ∈ insU x l ↔ k = x ∨ k ∈ l
  | [] => by simp [insU]
  | y :: r => by
    unfold insU
    split
    · simp
    · split
      · rename_i h
        subst h
        simp
      · simp only [List.mem_cons, insU_mem (l := r)]
        constructor
        · rintro (h | h | h) <;> simp [h]
        · rintro (h | h | h) <;> simp [h]
theorem insU_lt {x : Int} : ∀ {l : List Int}, l.Pairwise (· < ·) → (insU x l).Pairwise (· < ·)
  | [], _ => by simp [insU]
  | y :: r, h => by
    obtain ⟨h1, h2⟩ := List.pairwise_cons.mp h
    unfold insU
    split
    · rename_i hx
      refine List.pairwise_cons.mpr ⟨fun z hz => ?_, h⟩
      rcases List.mem_cons.mp hz with e | e
      · omega
      · have := h1 z e; omega
    · split
      · exact h
      · refine List.pairwise_cons.mpr ⟨fun z hz => ?_, insU_lt h2⟩
        rcases insU_mem.mp hz with e | e
        · omega
        · exact h1 z e
theorem sortU_mem {k : Int} : ∀ {l : List Int}, k ∈ sortU l ↔ k ∈ l
  | [] => by simp [sortU]
  | x :: r => by rw [sortU, insU_mem, sortU_mem, List.mem_cons]
theorem sortU_lt : ∀ {l : List Int}, (sortU l).Pairwise (· < ·)
  | [] => by simp [sortU]
  | x :: r => insU_lt sortU_lt
theorem insU_len {x : Int} : ∀ {l : List Int}, (insU x l).length ≤ l.length + 1
  | [] => by simp [insU]
  | y :: r => by
    unfold insU
    split
    · simp
    · split
      · simp
      · have := insU_len (x := x) (l := r)
        simp only [List.length_cons]
        omega
theorem sortU_len : ∀ {l : List Int}, (sortU l).length ≤ l.length
  | [] => by simp [sortU]
  | x :: r => by
    have h1 := insU_len (x := x) (l := sortU r)
    have h2 := sortU_len (l := r)
    simp only [sortU, List.length_cons]
    omega
/-- rising lists with the same members are one -/
theorem rising_eq : ∀ {l m : List Int}, l.Pairwise (· < ·) → m.Pairwise (· < ·) → (∀ k, k ∈ l ↔ k ∈ m) → l = m
  | [], [], _, _, _ => rfl
  | [], y :: m, _, _, h => by have := (h y).mpr (by simp); simp at this
  | x :: l, [], _, _, h => by have := (h x).mp (by simp); simp at this
  | x :: l, y :: m, h1, h2, h => by
    obtain ⟨a1, a2⟩ := List.pairwise_cons.mp h1
    obtain ⟨b1, b2⟩ := List.pairwise_cons.mp h2
    have e : x = y := by
      have p := (h x).mp (by simp)
      have q := (h y).mpr (by simp)
      rcases List.mem_cons.mp p with e | e
      · exact e
      · rcases List.mem_cons.mp q with e' | e'
        · exact e'.symm
        · have := b1 x e; have := a1 y e'; omega
    subst e
    rw [rising_eq a2 b2 fun k => ?_]
    constructor
    · intro hk
      rcases List.mem_cons.mp ((h k).mp (by simp [hk])) with e | e
      · have := a1 k hk; omega
      · exact e
    · intro hk
      rcases List.mem_cons.mp ((h k).mpr (by simp [hk])) with e | e
      · have := b1 k hk; omega
      · exact e
/-- sorted(set(xs)) as one call -/
def rSortSet (K : PySem.W.Frag) (w : World) : List V → Hp → VK → Prop := fun vs H Q => rSetL K w vs H fun v H1 => rSortedSet w [v] H1 Q
def sortSetD : List D → Option D
  | [.list ds] => (intsOf ds).bind fun ns => if ns.length < 64 then some (.list ((sortU ns).map .int)) else none
  | _ => none
theorem sa_sortSet {K : PySem.W.Frag} {w : World} : SA (rSortSet K w) sortSetD := by
  intro P H xs ds z Q hP hx ho k
  match ds, ho with
  | [.list ds], ho =>
    have ho : (intsOf ds).bind (fun ns => if ns.length < 64 then some (PyData.list ((sortU ns).map .int)) else none) = some z := ho
    obtain ⟨ns, e, e2⟩ := Option.bind_eq_some_iff.mp ho
    obtain ⟨hl, rfl⟩ := ite_some e2
    have e' := intsOf_eq e
    subst e'
    obtain ⟨v, rfl, r⟩ := rp1 hx
    cases r with
    | lst a b c =>
      have q := rp_ints c
      subst q
      refine ⟨_, ns, rfl, SqL.of (Fz_sub _ _ a), hl, fun p c hp hc => ⟨p, _, c, rfl, upd_same, by omega, fun ms q hm hk _ hq => ?_⟩⟩
      have es : ms = sortU ns := rising_eq hm sortU_lt fun j => by rw [hk j, sortU_mem]; simp
      subst es
      have s1 := Same.new (H := H) (o := SetO w p (fun j => decide (j ∈ ns)) c) hp
      have hP1 := hP.up s1
      have ll := sortU_len (l := ns)
      refine k _ _ (s1.trans (Same.new hq)) (rp_lst hP1 hq ?_ (ints_rp _))
      rw [List.length_map]
      unfold lim
      omega
end
/-! sorted of alike data -/
theorem alike_of {ds : List D} (h : allAlikeB ds = true) : PySem.W.AllAlike ds := fun d hd e he => by
  unfold allAlikeB at h
  rw [List.all_eq_true] at h
  have q := h d hd
  rw [List.all_eq_true] at q
  exact q e he
theorem sortable_of {ds : List D} (h : sortableB ds = true) : PySem.W.Sortable ds := by
  unfold sortableB at h
  rw [Bool.or_eq_true, List.all_eq_true, List.all_eq_true] at h
  rcases h with h | h
  · refine .inl fun d hd => ?_
    have q := h d hd
    split at q
    · exact ⟨_, _, rfl⟩
    · cases q
  · refine .inr fun d hd => ?_
    have q := h d hd
    constructor
    · rintro rfl
      exact absurd q Bool.false_ne_true
    · rintro xs rfl
      exact absurd q Bool.false_ne_true
theorem rpAll_zip {F : Hp} : ∀ {vs : List V} {ds : List D}, RpAll F vs ds → (vs.zip ds).map (·.1) = vs ∧ (vs.zip ds).map (·.2) = ds ∧ ∀ p ∈ vs.zip ds, Rp F p.1 p.2
  | _, _, .nil => ⟨rfl, rfl, fun p h => nomatch h⟩
  | _, _, .cons a b => by
    obtain ⟨h1, h2, h3⟩ := rpAll_zip b
    refine ⟨by rw [List.zip_cons_cons, List.map_cons, h1], by rw [List.zip_cons_cons, List.map_cons, h2], fun p hp => ?_⟩
    rcases List.mem_cons.mp (by simpa using hp) with e | e
    · rw [e]; exact a
    · exact h3 p e
theorem rpAll_of_pairs {F : Hp} : ∀ {bs : List (V × D)}, (∀ p ∈ bs, Rp F p.1 p.2) → RpAll F (bs.map (·.1)) (bs.map (·.2))
  | [], _ => .nil
  | b :: r, h => .cons (h b (by simp)) (rpAll_of_pairs fun p hp => h p (by simp [hp]))
theorem sa_sorted {K : PySem.W.Frag} : SA (rSortedE K) sortedD := by
  intro P H xs ds z Q hP hx ho k
  match ds, ho with
  | [.list ds], ho =>
    obtain ⟨⟨h1, h2, h3⟩, rfl⟩ := ite_some (show (if allAlikeB ds = true ∧ sortableB ds = true ∧ (∀ d ∈ ds, d.depth ≤ 60) then some (PyData.list (ds.mergeSort leD')) else none) = some z from ho)
    obtain ⟨v, rfl, r⟩ := rp1 hx
    cases r with
    | @lst a vs _ ha la ra =>
      obtain ⟨z1, z2, z3⟩ := rpAll_zip ra
      refine ⟨a, vs, vs.zip ds, rfl, SqL.of (Fz_sub _ _ ha), z1.symm, fun p hp => ((z3 p hp).up Fz_sub).dp, by rw [z2]; exact alike_of h1, by rw [z2]; exact sortable_of h2, fun p hp => h3 _ (by rw [← z2]; exact List.mem_map_of_mem hp), fun l hl => ?_⟩
      have e : ((vs.zip ds).mergeSort fun p q => leD' p.2 q.2).map (·.2) = ds.mergeSort leD' := by
        rw [List.map_mergeSort (s := leD') (fun a _ b _ => rfl), z2]
      refine k _ _ (Same.new hl) (rp_lst hP hl ?_ ?_)
      · have e2 : ((vs.zip ds).mergeSort fun p q => leD' p.2 q.2).length = vs.length := by
          rw [List.length_mergeSort]
          have := congrArg List.length z1
          simpa using this
        rw [List.length_map, e2]
        exact la
      · rw [← e]
        exact rpAll_of_pairs fun p hp => z3 p (List.mem_mergeSort.mp hp)
end DL

namespace DL
open PySem L2

section
variable {S : Type}
/-- one more hidden address, what stands there is fixed -/
def Wd.hide (W : Wd S) (p : Addr) (o : HO) : Wd S where
  hid := fun a => W.hid a ∨ a = p
  low := W.low
  at_ := fun s H => W.at_ s H ∧ H p = some o
  ext := fun s H H' h e => ⟨W.ext s H H' h.1 e, e p o h.2⟩
  mutn := fun s H q o' h n l => ⟨W.mutn s H q o' h.1 (fun z => n (.inl z)) l, by
    rw [upd_ne fun e => n (.inr e.symm)]
    exact h.2⟩
  hidIn := fun s H q h n => by
    rcases n with n | n
    · exact W.hidIn s H q h.1 n
    · rw [n, h.2]; simp
  lowIn := fun s H q h n => W.lowIn s H q h.1 n
/-- a family of worlds, closed under hiding -/
structure Fam (S : Type) where
  ok : Wd S → Prop
  hide : ∀ W p o, ok W → ¬ W.hid p → ok (W.hide p o)
/-- what is wanted of an exception of the class number c -/
abbrev Wsh := Nat → L2.St → Hp → Prop
def NoW : Wsh := fun _ _ _ => False
def Post {α : Type} (W : Wd S) (Wx : Wsh) (σ : L2.St) (H : Hp) (r : Res S α) (K : α → S → Hp → Prop) : Prop := match r with
  | .ok a s => ∀ H', W.at_ s H' → Stp W H H' → K a s H'
  | .er c s => ∀ H', W.at_ s H' → Stp W H H' → Wx c σ H'
  | .bad => False
section
variable {W : Wd S} {Wx : Wsh} {σ : L2.St} {H H1 : Hp} {α β : Type}
theorem Post.later {r : Res S α} {K : α → S → Hp → Prop} (h : Post W Wx σ H r K) (e : Stp W H H1) : Post W Wx σ H1 r K := by
  cases r with
  | ok a s => exact fun H' a' e' => h H' a' (e.trans e')
  | er c s => exact fun H' a' e' => h H' a' (e.trans e')
  | bad => exact h
theorem Post.imp {r : Res S α} {K K' : α → S → Hp → Prop} (h : Post W Wx σ H r K) (f : ∀ a s' H', W.at_ s' H' → Stp W H H' → K a s' H' → K' a s' H') : Post W Wx σ H r K' := by
  cases r with
  | ok a s => exact fun H' a' e' => f a s H' a' e' (h H' a' e')
  | er c s => exact h
  | bad => exact h
theorem Post.bnd {m : Res S α} {k : α → S → Res S β} {K : β → S → Hp → Prop} (h : Post W Wx σ H (m.bnd k) K) : Post W Wx σ H m (fun a s' H' => Post W Wx σ H' (k a s') K) := by
  cases m with
  | ok a s => exact fun H' _ e' => Post.later (show Post W Wx σ H (k a s) K from h) e'
  | er c s => exact h
  | bad => exact h
theorem Post.ok {a : α} {s : S} {K : α → S → Hp → Prop} (h : Post W Wx σ H (.ok a s) K) (q : W.at_ s H) : K a s H := h H q Stp.refl
end

abbrev FE (S : Type) := Env → S → Res S Dv
abbrev FA (S : Type) := Env → S → Res S (List Dv)
abbrev FT (S : Type) := Env → S → Res S Bool
/-- data out of data -/
def lift (o : Option D) (s : S) : Res S Dv := match o with
  | some z => .ok (.d z) s
  | none => .bad
def IsAll (F : Hp) : List V → List Dv → Prop := Paired (Is F)
def DE (𝒲 : Fam S) (Wx : Wsh) (t : TE) (f : FE S) : Prop := ∀ W, 𝒲.ok W → ∀ ρ σ s H (Q : VK), EnvOk W ρ σ s H → Post W Wx σ H (f ρ s) (fun d _ H' => ∀ v, Is (Frz W ρ σ H') v d → Q v H') → t σ H Q
def DA (𝒲 : Fam S) (Wx : Wsh) (t : TA) (f : FA S) : Prop := ∀ W, 𝒲.ok W → ∀ ρ σ s H (Q : List V → Hp → Prop), EnvOk W ρ σ s H → Post W Wx σ H (f ρ s) (fun d _ H' => ∀ v, IsAll (Frz W ρ σ H') v d → Q v H') → t σ H Q
def DT (𝒲 : Fam S) (Wx : Wsh) (t : TT) (f : FT S) : Prop := ∀ W, 𝒲.ok W → ∀ ρ σ s H (Q : Bool → Hp → Prop), EnvOk W ρ σ s H → Post W Wx σ H (f ρ s) (fun b _ H' => Q b H') → t σ H Q
structure DX (X : Cx) (𝒲 : Fam S) (Wx : Wsh) (e : Expr) (t : TE) (f : FE S) : Prop where
  pe : PE X e t
  de : DE 𝒲 Wx t f
structure DXA (X : Cx) (𝒲 : Fam S) (Wx : Wsh) (es : List Expr) (t : TA) (f : FA S) : Prop where
  pa : PA X es t
  da : DA 𝒲 Wx t f
structure DXT (X : Cx) (𝒲 : Fam S) (Wx : Wsh) (e : Expr) (t : TT) (f : FT S) : Prop where
  pt : PT X e t
  dt : DT 𝒲 Wx t f
/-- a test whatever its whole is -/
structure DXW (X : Cx) (𝒲 : Fam S) (Wx : Wsh) (e : Expr) (t : TT) (f : FT S) : Prop where
  pw : PW X e t
  dt : DT 𝒲 Wx t f

theorem EnvOk.inH {W : Wd S} {ρ : Env} {σ : L2.St} {s : S} {H : Hp} (E : EnvOk W ρ σ s H) : InH (fun a => W.hid a ∨ Own ρ σ a) H := fun a h => by
  rcases h with h | h
  · exact W.hidIn _ _ _ E.at_ h
  · obtain ⟨vs, e, _⟩ := E.ownIn h
    rw [e]; simp

variable {X : Cx} {𝒲 : Fam S} {Wx : Wsh} {e a b : Expr} {ta tb tc : TE} {fa fb fc : FE S} {pos : Pos}

/-! ### names, constants -/
def eVar (i : Nat) : FE S := fun ρ s => match ρ[i]? with
  | some (.d x) => .ok (.d x) s
  | some (.v x) => .ok (.v x) s
  | _ => .bad
theorem de_var {i : Nat} : DE 𝒲 Wx (tVar i) (eVar i) := by
  intro W hW ρ σ s H Q E h
  unfold eVar at h
  split at h
  · rename_i x e
    obtain ⟨v, h1, h2⟩ := E.dat i x e
    exact ⟨v, h1, h.ok E.at_ v h2⟩
  · rename_i x e
    exact ⟨x, E.raw i x e, h.ok E.at_ x rfl⟩
  · exact h.elim
def eC (x : D) : FE S := fun _ s => .ok (.d x) s
theorem de_c {v : V} {x : D} (hx : ∀ F, Rp F v x) : DE 𝒲 Wx (tC v) (eC x) := fun W hW ρ σ s H Q E h => h.ok E.at_ v (hx _)
theorem dx_var (i : Nat) {x : Str} (h : PE X (.Name x pos) (tVar i)) : DX X 𝒲 Wx (.Name x pos) (tVar i) (eVar i) := ⟨h, de_var⟩
theorem dx_int {i : Int} {j : Nat} : DX X 𝒲 Wx (.Constant (.int i) j pos) (tC (.int i)) (eC (.int i)) := ⟨pe_int, de_c fun _ => .int i⟩
theorem dx_bl {i : Bool} {j : Nat} : DX X 𝒲 Wx (.Constant (.bool i) j pos) (tC (.bl i)) (eC (.bool i)) := ⟨pe_bl, de_c fun _ => .bl i⟩
theorem dx_non {j : Nat} : DX X 𝒲 Wx (.Constant .none j pos) (tC .non) (eC .none) := ⟨pe_non, de_c fun _ => .non⟩
theorem dx_str {x : Str} {j : Nat} (h : x.length ≤ lim ∧ PyData.strOk x = true := by decide +kernel) : DX X 𝒲 Wx (.Constant (.str x) j pos) (tC (.str x)) (eC (.str x)) := ⟨pe_str, de_c fun _ => .str x h.1 h.2⟩

/-! ### operators -/
def eOp (op : D → D → Option D) (fa fb : FE S) : FE S := fun ρ s => (fa ρ s).bnd fun x s => (fb ρ s).bnd fun y s => match x, y with
  | .d x, .d y => lift (op x y) s
  | _, _ => .bad
theorem de_op {r : R2} {op : D → D → Option D} (ho : S2 r op) (ha : DE 𝒲 Wx ta fa) (hb : DE 𝒲 Wx tb fb) : DE 𝒲 Wx (tOp r ta tb) (eOp op fa fb) := by
  intro W hW ρ σ s H Q E h
  refine ha W hW ρ σ s H _ E (h.bnd.imp fun x s1 H1 a1 e1 q v hv => ?_)
  have E1 := E.step a1 e1
  refine hb W hW ρ σ s1 H1 _ E1 (q.bnd.imp fun y s2 H2 a2 e2 q2 u hu => ?_)
  have E2 := E1.step a2 e2
  cases x with
  | v x => exact q2.elim
  | d x =>
    cases y with
    | v y => exact q2.elim
    | d y =>
      have q2 : Post W Wx σ H2 (lift (op x y) s2) (fun d _ H' => ∀ v, Is (Frz W ρ σ H') v d → Q v H') := q2
      cases hz : op x y with
      | none => rw [hz] at q2; exact q2.elim
      | some z =>
        rw [hz] at q2
        exact ho _ H2 v u x y z Q E2.inH (Rp.up (show Rp _ v x from hv) (Frz.stp e2)) hu hz fun w H3 e3 hw => q2 H3 (W.ext _ _ _ a2 e3) (Stp.of e3) w hw
theorem dx_op {op : Operator} {r : R2} {f : D → D → Option D} (hp : OpR X (binaryOp op) r) (ho : S2 r f) (ha : DX X 𝒲 Wx a ta fa) (hb : DX X 𝒲 Wx b tb fb) : DX X 𝒲 Wx (.BinOp a op b pos) (tOp r ta tb) (eOp f fa fb) := ⟨pe_op hp ha.pe hb.pe, de_op ho ha.de hb.de⟩
theorem dx_add (ha : DX X 𝒲 Wx a ta fa) (hb : DX X 𝒲 Wx b tb fb) : DX X 𝒲 Wx (.BinOp a .Add b pos) (tOp (rAddD X.K) ta tb) (eOp addD fa fb) := dx_op op_addD s2_add ha hb
theorem dx_sub (ha : DX X 𝒲 Wx a ta fa) (hb : DX X 𝒲 Wx b tb fb) : DX X 𝒲 Wx (.BinOp a .Sub b pos) (tOp (rI0 fun i j => .int (i - j)) ta tb) (eOp subD fa fb) := dx_op op_sub s2_sub ha hb
theorem dx_mul (ha : DX X 𝒲 Wx a ta fa) (hb : DX X 𝒲 Wx b tb fb) : DX X 𝒲 Wx (.BinOp a .Mult b pos) (tOp rMulD ta tb) (eOp mulD fa fb) := dx_op op_mulD s2_mul ha hb
theorem dx_mod (ha : DX X 𝒲 Wx a ta fa) (hb : DX X 𝒲 Wx b tb fb) : DX X 𝒲 Wx (.BinOp a .Mod b pos) (tOp (rI (fun _ j => 0 < j) fun i j => .int (i % j)) ta tb) (eOp modD fa fb) := dx_op op_mod s2_mod ha hb
theorem dx_fdiv (ha : DX X 𝒲 Wx a ta fa) (hb : DX X 𝒲 Wx b tb fb) : DX X 𝒲 Wx (.BinOp a .FloorDiv b pos) (tOp (rI CDiv fun i j => .int (i / j)) ta tb) (eOp fdivD fa fb) := dx_op op_fdiv s2_fdiv ha hb
theorem dx_pow (ha : DX X 𝒲 Wx a ta fa) (hb : DX X 𝒲 Wx b tb fb) : DX X 𝒲 Wx (.BinOp a .Pow b pos) (tOp (rI CPow fun i j => .int (i ^ j.toNat)) ta tb) (eOp powD fa fb) := dx_op op_pow s2_pow ha hb
/-- -a -/
def eNeg (fa : FE S) : FE S := fun ρ s => (fa ρ s).bnd fun x s => match x with
  | .d (.int i) => .ok (.d (.int (-i))) s
  | _ => .bad
theorem dx_neg (ha : DX X 𝒲 Wx a ta fa) : DX X 𝒲 Wx (.UnaryOp .USub a pos) (tUn (rU fun i => .int (-i)) ta) (eNeg fa) := by
  refine ⟨pe_un un_neg ha.pe, fun W hW ρ σ s H Q E h => ?_⟩
  refine ha.de W hW ρ σ s H _ E (h.bnd.imp fun x s1 H1 a1 e1 q v hv => ?_)
  split at q
  · cases (show Rp _ v (.int _) from hv)
    exact ⟨_, rfl, q.ok a1 _ (Rp.int _)⟩
  · exact q.elim

/-! ### comparisons as values, as tests -/
structure Cm (X : Cx) (op : CmpOp) (r : R2) (f : D → D → Option D) : Prop where
  op : OpR X (compareOp op) r
  s2 : S2 r f
theorem cm_eq (hu : X.A.units + 64 < cLine) : Cm X .Eq (rEqE X.K) eqD := ⟨op_eqE hu, s2_eq⟩
theorem cm_ne (hu : X.A.units + 64 < cLine) : Cm X .NotEq (rNeE X.K) neD := ⟨op_neE hu, s2_ne⟩
theorem cm_lt : Cm X .Lt (rI0 fun i j => .bl (decide (i < j))) ltD := ⟨op_lt, s2_lt⟩
theorem cm_le : Cm X .LtE (rI0 fun i j => .bl (decide (i ≤ j))) leD := ⟨op_le, s2_le⟩
theorem cm_gt : Cm X .Gt (rI0 fun i j => .bl (decide (j < i))) gtD := ⟨op_gt, s2_gt⟩
theorem cm_ge : Cm X .GtE (rI0 fun i j => .bl (decide (j ≤ i))) geD := ⟨op_ge, s2_ge⟩
theorem cm_isN : Cm X .Is (fun x y H Q => y = .non ∧ Q (.bl (decide (x = .non))) H) isND := ⟨op_isN, s2_isN⟩
theorem cm_notN : Cm X .IsNot (fun x y H Q => y = .non ∧ Q (.bl (!decide (x = .non))) H) notND := ⟨op_notN, s2_notN⟩
theorem cm_isB : Cm X .Is rIsB isBD := ⟨op_isBl, s2_isB⟩
theorem cm_notB : Cm X .IsNot rNotB notBD := ⟨op_notBl, s2_notB⟩
theorem cm_in (hu : X.A.units + 65 < cLine) : Cm X .In (rInE X.K false) (inD false) := ⟨op_inE hu, s2_in⟩
theorem cm_notin (hu : X.A.units + 65 < cLine) : Cm X .NotIn (rInE X.K true) (inD true) := ⟨op_notInE hu, s2_in⟩
theorem dx_cmp {op : CmpOp} {r : R2} {f : D → D → Option D} (c : Cm X op r f) (ha : DX X 𝒲 Wx a ta fa) (hb : DX X 𝒲 Wx b tb fb) (hm : behindInMarks op b = false := by first | exact nomark _ (by decide) (by decide) | rfl | with_unfolding_all rfl) :
    DX X 𝒲 Wx (.Compare a [op] [b] pos) (tOp r ta tb) (eOp f fa fb) := ⟨pe_cmpR c.op ha.pe hb.pe hm, de_op c.s2 ha.de hb.de⟩
/-- a value that is a bool, as a test -/
def tstOf (r : Res S Dv) : Res S Bool := r.bnd fun x s => match x with
  | .d (.bool b) => .ok b s
  | _ => .bad
theorem dt_of {t : TE} {f : FE S} {Q : Bool → Hp → Prop} {W : Wd S} {ρ : Env} {σ : L2.St} {s : S} {H : Hp} (hW : 𝒲.ok W) (d : DE 𝒲 Wx t f) (E : EnvOk W ρ σ s H) (h : Post W Wx σ H (tstOf (f ρ s)) (fun b _ H' => Q b H')) : t σ H fun x H' => ∃ k, x = .bl k ∧ Q k H' := by
  refine d W hW ρ σ s H _ E (h.bnd.imp fun x s1 H1 a1 e1 q v hv => ?_)
  split at q
  · cases (show Rp _ v (.bool _) from hv)
    exact ⟨_, rfl, q.ok a1⟩
  · exact q.elim
theorem dxt_cmp {op : CmpOp} {r : R2} {f : D → D → Option D} (c : Cm X op r f) (ha : DX X 𝒲 Wx a ta fa) (hb : DX X 𝒲 Wx b tb fb) (hm : behindInMarks op b = false := by first | exact nomark _ (by decide) (by decide) | rfl | with_unfolding_all rfl) :
    DXT X 𝒲 Wx (.Compare a [op] [b] pos) (tTest (tOp r ta tb)) (fun ρ s => tstOf (eOp f fa fb ρ s)) := ⟨pt_cmpR c.op ha.pe hb.pe hm, fun W hW ρ σ s H Q E h => dt_of hW (de_op c.s2 ha.de hb.de) E h⟩
/-- a op b op c -/
def eChain (f g : D → D → Option D) (fa fb fc : FE S) : FE S := fun ρ s => (fa ρ s).bnd fun x s => (fb ρ s).bnd fun y s => match x, y with
  | .d x, .d y => (match f x y with
    | some (.bool true) => (fc ρ s).bnd fun z s => (match z with
      | .d z => lift (g y z) s
      | _ => .bad)
    | some (.bool false) => .ok (.d (.bool false)) s
    | _ => .bad)
  | _, _ => .bad
theorem de_chain {r r' : R2} {f g : D → D → Option D} (ho : S2 r f) (ho' : S2 r' g) (ha : DE 𝒲 Wx ta fa) (hb : DE 𝒲 Wx tb fb) (hc : DE 𝒲 Wx tc fc) : DE 𝒲 Wx (tChain r r' ta tb tc) (eChain f g fa fb fc) := by
  intro W hW ρ σ s H Q E h
  refine ha W hW ρ σ s H _ E (h.bnd.imp fun x s1 H1 a1 e1 q v hv => ?_)
  have E1 := E.step a1 e1
  refine hb W hW ρ σ s1 H1 _ E1 (q.bnd.imp fun y s2 H2 a2 e2 q2 u hu => ?_)
  have E2 := E1.step a2 e2
  cases x with
  | v x => exact q2.elim
  | d x =>
    cases y with
    | v y => exact q2.elim
    | d y =>
      dsimp only at q2
      split at q2
      · rename_i hz
        refine ho _ H2 v u x y _ _ E2.inH (Rp.up (show Rp _ v x from hv) (Frz.stp e2)) hu hz fun w H3 e3 hw => ?_
        cases hw
        refine ⟨true, rfl, ?_⟩
        rw [if_pos rfl]
        have a3 := W.ext _ _ _ a2 e3
        have E3 := E2.step a3 (Stp.of e3)
        refine hc W hW ρ σ s2 H3 _ E3 ((q2.later (Stp.of e3)).bnd.imp fun z s4 H4 a4 e4 q4 w' hw' => ?_)
        have E4 := E3.step a4 e4
        cases z with
        | v z => exact q4.elim
        | d z =>
          dsimp only at q4
          cases hz2 : g y z with
          | none => rw [hz2] at q4; exact q4.elim
          | some z2 =>
            rw [hz2] at q4
            exact ho' _ H4 u w' y z z2 Q E4.inH (Rp.up (show Rp _ u y from hu) ((Frz.stp (Stp.of e3)).trans (Frz.stp e4))) hw' hz2 fun w2 H5 e5 hw2 => q4 H5 (W.ext _ _ _ a4 e5) (Stp.of e5) w2 hw2
      · rename_i hz
        refine ho _ H2 v u x y _ _ E2.inH (Rp.up (show Rp _ v x from hv) (Frz.stp e2)) hu hz fun w H3 e3 hw => ?_
        cases hw
        refine ⟨false, rfl, ?_⟩
        rw [if_neg Bool.false_ne_true]
        exact q2 H3 (W.ext _ _ _ a2 e3) (Stp.of e3) _ (Rp.bl _)
      · exact q2.elim
theorem dx_chain {op op' : CmpOp} {c : Expr} {r r' : R2} {f g : D → D → Option D} (c1 : Cm X op r f) (c2 : Cm X op' r' g) (ha : DX X 𝒲 Wx a ta fa) (hb : DX X 𝒲 Wx b tb fb) (hc : DX X 𝒲 Wx c tc fc) (hm : lastMarks [op, op'] [b, c] = false := by with_unfolding_all rfl) :
    DX X 𝒲 Wx (.Compare a [op, op'] [b, c] pos) (tChain r r' ta tb tc) (eChain f g fa fb fc) := ⟨pe_chain c1.op c2.op ha.pe hb.pe hc.pe hm, de_chain c1.s2 c2.s2 ha.de hb.de hc.de⟩
theorem dxt_chain {op op' : CmpOp} {c : Expr} {r r' : R2} {f g : D → D → Option D} (c1 : Cm X op r f) (c2 : Cm X op' r' g) (ha : DX X 𝒲 Wx a ta fa) (hb : DX X 𝒲 Wx b tb fb) (hc : DX X 𝒲 Wx c tc fc) (hm : lastMarks [op, op'] [b, c] = false := by with_unfolding_all rfl) :
    DXT X 𝒲 Wx (.Compare a [op, op'] [b, c] pos) (tTest (tChain r r' ta tb tc)) (fun ρ s => tstOf (eChain f g fa fb fc ρ s)) := ⟨pt_chain c1.op c2.op ha.pe hb.pe hc.pe hm, fun W hW ρ σ s H Q E h => dt_of hW (de_chain c1.s2 c2.s2 ha.de hb.de hc.de) E h⟩

/-! ### and, or, not; if .. else -/
def eAnd (fa fb : FE S) : FE S := fun ρ s => (fa ρ s).bnd fun x s => match x with
  | .d (.bool true) => fb ρ s
  | .d (.bool false) => .ok (.d (.bool false)) s
  | _ => .bad
def eOr (fa fb : FE S) : FE S := fun ρ s => (fa ρ s).bnd fun x s => match x with
  | .d (.bool true) => .ok (.d (.bool true)) s
  | .d (.bool false) => fb ρ s
  | _ => .bad
def eNot (fa : FE S) : FE S := fun ρ s => (fa ρ s).bnd fun x s => match x with
  | .d (.bool k) => .ok (.d (.bool (!k))) s
  | _ => .bad
variable {rest : List Expr}
theorem dx_one {op} (ha : DX X 𝒲 Wx a ta fa) : DX X 𝒲 Wx (.BoolOp op [a] pos) ta fa := ⟨pe_one ha.pe, ha.de⟩
theorem dx_and (ha : DX X 𝒲 Wx a ta fa) (hb : DX X 𝒲 Wx (.BoolOp .And (b :: rest) pos) tb fb) : DX X 𝒲 Wx (.BoolOp .And (a :: b :: rest) pos) (tAndV ta tb) (eAnd fa fb) := by
  refine ⟨pe_and ha.pe hb.pe, fun W hW ρ σ s H Q E h => ?_⟩
  refine ha.de W hW ρ σ s H _ E (h.bnd.imp fun x s1 H1 a1 e1 q v hv => ?_)
  split at q
  · cases (show Rp _ v (.bool _) from hv)
    exact ⟨true, rfl, by rw [if_pos rfl]; exact hb.de W hW ρ σ s1 H1 Q (E.step a1 e1) q⟩
  · cases (show Rp _ v (.bool _) from hv)
    exact ⟨false, rfl, by rw [if_neg Bool.false_ne_true]; exact q.ok a1 _ (Rp.bl _)⟩
  · exact q.elim
theorem dx_or (ha : DX X 𝒲 Wx a ta fa) (hb : DX X 𝒲 Wx (.BoolOp .Or (b :: rest) pos) tb fb) : DX X 𝒲 Wx (.BoolOp .Or (a :: b :: rest) pos) (tOrV ta tb) (eOr fa fb) := by
  refine ⟨pe_or ha.pe hb.pe, fun W hW ρ σ s H Q E h => ?_⟩
  refine ha.de W hW ρ σ s H _ E (h.bnd.imp fun x s1 H1 a1 e1 q v hv => ?_)
  split at q
  · cases (show Rp _ v (.bool _) from hv)
    exact ⟨true, rfl, by rw [if_pos rfl]; exact q.ok a1 _ (Rp.bl _)⟩
  · cases (show Rp _ v (.bool _) from hv)
    exact ⟨false, rfl, by rw [if_neg Bool.false_ne_true]; exact hb.de W hW ρ σ s1 H1 Q (E.step a1 e1) q⟩
  · exact q.elim
theorem dx_not (ha : DX X 𝒲 Wx a ta fa) : DX X 𝒲 Wx (.UnaryOp .Not a pos) (tNotV ta) (eNot fa) := by
  refine ⟨pe_not ha.pe, fun W hW ρ σ s H Q E h => ?_⟩
  refine ha.de W hW ρ σ s H _ E (h.bnd.imp fun x s1 H1 a1 e1 q v hv => ?_)
  split at q
  · cases (show Rp _ v (.bool _) from hv)
    exact ⟨_, rfl, q.ok a1 _ (Rp.bl _)⟩
  · exact q.elim
/-- tests -/
def fAnd (f g : FT S) : FT S := fun ρ s => (f ρ s).bnd fun k s => if k = true then g ρ s else .ok false s
def fOr (f g : FT S) : FT S := fun ρ s => (f ρ s).bnd fun k s => if k = true then .ok true s else g ρ s
def fNot (f : FT S) : FT S := fun ρ s => (f ρ s).bnd fun k s => .ok (!k) s
variable {tA tB' : TT} {fA fB : FT S}
theorem dxt_val (ha : DX X 𝒲 Wx a ta fa) (he : ∀ whole, isTrue a X.env whole = (do let v ← whole; standAt a.pos; holding [v] (truthy v)) := by intro _; rfl) : DXT X 𝒲 Wx a (tB ta) (fun ρ s => tstOf (fa ρ s)) :=
  ⟨pt_val ha.pe he, fun W hW ρ σ s H Q E h => dt_of hW ha.de E h⟩
theorem DXW.t (h : DXW X 𝒲 Wx a tA fA) : DXT X 𝒲 Wx a tA fA := ⟨h.pw.pt, h.dt⟩
theorem dxw_and1 (ha : DXT X 𝒲 Wx a tA fA) : DXW X 𝒲 Wx (.BoolOp .And [a] pos) tA fA := ⟨pw_and1 ha.pt, ha.dt⟩
theorem dxw_or1 (ha : DXT X 𝒲 Wx a tA fA) : DXW X 𝒲 Wx (.BoolOp .Or [a] pos) tA fA := ⟨pw_or1 ha.pt, ha.dt⟩
theorem dxw_and (ha : DXT X 𝒲 Wx a tA fA) (hb : DXW X 𝒲 Wx (.BoolOp .And (b :: rest) pos) tB' fB) : DXW X 𝒲 Wx (.BoolOp .And (a :: b :: rest) pos) (tAnd tA tB') (fAnd fA fB) := by
  refine ⟨pw_and ha.pt hb.pw, fun W hW ρ σ s H Q E h => ?_⟩
  refine ha.dt W hW ρ σ s H _ E (h.bnd.imp fun k s1 H1 a1 e1 q => ?_)
  cases k with
  | true =>
    rw [if_pos rfl] at q ⊢
    exact hb.dt W hW ρ σ s1 H1 Q (E.step a1 e1) q
  | false =>
    rw [if_neg Bool.false_ne_true] at q ⊢
    exact q.ok a1
theorem dxw_or (ha : DXT X 𝒲 Wx a tA fA) (hb : DXW X 𝒲 Wx (.BoolOp .Or (b :: rest) pos) tB' fB) : DXW X 𝒲 Wx (.BoolOp .Or (a :: b :: rest) pos) (tOr tA tB') (fOr fA fB) := by
  refine ⟨pw_or ha.pt hb.pw, fun W hW ρ σ s H Q E h => ?_⟩
  refine ha.dt W hW ρ σ s H _ E (h.bnd.imp fun k s1 H1 a1 e1 q => ?_)
  cases k with
  | true =>
    rw [if_pos rfl] at q ⊢
    exact q.ok a1
  | false =>
    rw [if_neg Bool.false_ne_true] at q ⊢
    exact hb.dt W hW ρ σ s1 H1 Q (E.step a1 e1) q
theorem dxt_not (ha : DXT X 𝒲 Wx a tA fA) : DXT X 𝒲 Wx (.UnaryOp .Not a pos) (tNot tA) (fNot fA) := by
  refine ⟨pt_not ha.pt, fun W hW ρ σ s H Q E h => ?_⟩
  exact ha.dt W hW ρ σ s H _ E (h.bnd.imp fun k s1 H1 a1 e1 q => q.ok a1)
def eIf (f : FT S) (fa fb : FE S) : FE S := fun ρ s => (f ρ s).bnd fun k s => if k = true then fa ρ s else fb ρ s
theorem dx_if {c : Expr} (hc : DXT X 𝒲 Wx c tA fA) (ha : DX X 𝒲 Wx a ta fa) (hb : DX X 𝒲 Wx b tb fb) : DX X 𝒲 Wx (.IfExp c a b pos) (tIf tA ta tb) (eIf fA fa fb) := by
  refine ⟨pe_ifExp hc.pt ha.pe hb.pe, fun W hW ρ σ s H Q E h => ?_⟩
  refine hc.dt W hW ρ σ s H _ E (h.bnd.imp fun k s1 H1 a1 e1 q => ?_)
  cases k with
  | true =>
    rw [if_pos rfl] at q ⊢
    exact ha.de W hW ρ σ s1 H1 Q (E.step a1 e1) q
  | false =>
    rw [if_neg Bool.false_ne_true] at q ⊢
    exact hb.de W hW ρ σ s1 H1 Q (E.step a1 e1) q

/-! ### arguments, displays -/
theorem IsAll.up {F F' : Hp} (e : Same F F') : ∀ {vs : List V} {ds : List Dv}, IsAll F vs ds → IsAll F' vs ds
  | _, _, .nil => .nil
  | _, _, .cons a b => .cons (a.up e) (IsAll.up e b)
def aNil : FA S := fun _ s => .ok [] s
def aCons (f : FE S) (g : FA S) : FA S := fun ρ s => (f ρ s).bnd fun x s => (g ρ s).bnd fun xs s => .ok (x :: xs) s
theorem dxa_nil : DXA X 𝒲 Wx [] tNil aNil := ⟨pa_nil, fun W hW ρ σ s H Q E h => h.ok E.at_ _ .nil⟩
theorem dxa_cons {es : List Expr} {t : TA} {g : FA S} (ha : DX X 𝒲 Wx a ta fa) (hr : DXA X 𝒲 Wx es t g) (hs : starEach (a :: es) X.env = (false, eval a X.env) :: starEach es X.env := by rfl) : DXA X 𝒲 Wx (a :: es) (tCons ta t) (aCons fa g) := by
  refine ⟨pa_cons ha.pe hr.pa hs, fun W hW ρ σ s H Q E h => ?_⟩
  refine ha.de W hW ρ σ s H _ E (h.bnd.imp fun x s1 H1 a1 e1 q v hv => ?_)
  have E1 := E.step a1 e1
  refine hr.da W hW ρ σ s1 H1 _ E1 (q.bnd.imp fun y s2 H2 a2 e2 q2 u hu => ?_)
  exact q2.ok a2 _ (.cons (hv.up (Frz.stp e2)) hu)
/-- all of them data -/
def datas : List Dv → Option (List D)
  | [] => some []
  | .d x :: r => (datas r).map (x :: ·)
  | .v _ :: _ => none
theorem datas_rp {F : Hp} : ∀ {vs : List V} {xs : List Dv} {ds : List D}, IsAll F vs xs → datas xs = some ds → RpAll F vs ds
  | _, [], _, h, e => by cases h; cases e; exact .nil
  | _, .d x :: r, ds, h, e => by
    cases h with
    | cons a b =>
      have e : (datas r).map (x :: ·) = some ds := e
      obtain ⟨es, e1, rfl⟩ := Option.map_eq_some_iff.mp e
      exact .cons a (datas_rp b e1)
  | _, .v _ :: _, _, _, e => by cases e
def eTup (g : FA S) : FE S := fun ρ s => (g ρ s).bnd fun xs s => lift ((datas xs).bind fun ds => if ds.length ≤ lim then some (.tuple ds) else none) s
def eLst (g : FA S) : FE S := fun ρ s => (g ρ s).bnd fun xs s => lift ((datas xs).bind fun ds => if ds.length ≤ lim then some (.list ds) else none) s
theorem dx_tup {es : List Expr} {k : Nat} {t : TA} {g : FA S} (h : DXA X 𝒲 Wx es t g) : DX X 𝒲 Wx (.Tuple es k pos) (tTup t) (eTup g) := by
  refine ⟨pe_tup h.pa, fun W hW ρ σ s H Q E hp => ?_⟩
  refine h.da W hW ρ σ s H _ E (hp.bnd.imp fun x s1 H1 a1 e1 q v hv => ?_)
  cases hd : datas x with
  | none => rw [hd] at q; exact q.elim
  | some ds =>
    rw [hd] at q
    have q : Post W Wx σ H1 (lift (if ds.length ≤ lim then some (PyData.tuple ds) else none) s1) _ := q
    by_cases hl : ds.length ≤ lim
    · rw [if_pos hl] at q
      have r := datas_rp hv hd
      have hl2 : v.length ≤ lim := by rw [r.len]; exact hl
      exact ⟨lim_line hl2, fun p hn => q _ (W.ext _ _ _ a1 (Same.new hn)) (Stp.of (Same.new hn)) _ (rp_tup (E.step a1 e1).inH hn hl2 r)⟩
    · rw [if_neg hl] at q; exact q.elim
theorem dx_lst {es : List Expr} {t : TA} {g : FA S} (h : DXA X 𝒲 Wx es t g) : DX X 𝒲 Wx (.List es pos) (tLst t) (eLst g) := by
  refine ⟨pe_lst h.pa, fun W hW ρ σ s H Q E hp => ?_⟩
  refine h.da W hW ρ σ s H _ E (hp.bnd.imp fun x s1 H1 a1 e1 q v hv => ?_)
  cases hd : datas x with
  | none => rw [hd] at q; exact q.elim
  | some ds =>
    rw [hd] at q
    have q : Post W Wx σ H1 (lift (if ds.length ≤ lim then some (PyData.list ds) else none) s1) _ := q
    by_cases hl : ds.length ≤ lim
    · rw [if_pos hl] at q
      have r := datas_rp hv hd
      have hl2 : v.length ≤ lim := by rw [r.len]; exact hl
      exact ⟨lim_line hl2, fun p hn => q _ (W.ext _ _ _ a1 (Same.new hn)) (Stp.of (Same.new hn)) _ (rp_lst (E.step a1 e1).inH hn hl2 r)⟩
    · rw [if_neg hl] at q; exact q.elim

/-! ### xs[i] -/
theorem dx_ix (ha : DX X 𝒲 Wx a ta fa) (hb : DX X 𝒲 Wx b tb fb) (hs : PlainIx b := by exact fun _ _ => rfl) : DX X 𝒲 Wx (.Subscript a b pos) (tOp (rIx X.K) ta tb) (eOp ixD fa fb) := ⟨pe_ix ix_seq ha.pe hb.pe hs, de_op s2_ix ha.de hb.de⟩

/-! ### built-in calls -/
def eCall (op : List D → Option D) (g : FA S) : FE S := fun ρ s => (g ρ s).bnd fun xs s => lift ((datas xs).bind op) s
theorem de_call {r : List V → Hp → VK → Prop} {t : TA} {g : FA S} {op : List D → Option D} (ho : SA r op) (h : DA 𝒲 Wx t g) : DE 𝒲 Wx (tCB r t) (eCall op g) := by
  intro W hW ρ σ s H Q E hp
  refine h W hW ρ σ s H _ E (hp.bnd.imp fun x s1 H1 a1 e1 q v hv => ?_)
  cases hd : datas x with
  | none => rw [hd] at q; exact q.elim
  | some ds =>
    rw [hd] at q
    have q : Post W Wx σ H1 (lift (op ds) s1) _ := q
    cases hz : op ds with
    | none => rw [hz] at q; exact q.elim
    | some z =>
      rw [hz] at q
      exact ho _ H1 v ds z Q (E.step a1 e1).inH (datas_rp hv hd) hz fun w H3 e3 hw => q H3 (W.ext _ _ _ a1 e3) (Stp.of e3) w hw
theorem dx_callB {x : Str} {es : List Expr} {r : List V → Hp → VK → Prop} {t : TA} {g : FA S} {op : List D → Option D} {id : String} {p : Pos} (hc : CallR X (.builtin id) r) (ho : SA r op) (hg : Gl X x) (hm : X.mg x = none) (hv : bootBuiltins x = some (.builtin id)) (h : DXA X 𝒲 Wx (e :: es) t g)
    (hn : x ≠ "__name__" := by decide) (hdb : (x == ("__debug__" : Str)) = false := by decide) (he : starEach (e :: es) X.env = (false, eval e X.env) :: starEach es X.env := by rfl) (hpl : (backTo pos (starEach es X.env)).any (·.1) = false := by rfl) :
    DX X 𝒲 Wx (.Call (.Name x p) (e :: es) [] pos) (tCB r t) (eCall op g) := ⟨pe_callB hc hg hm hv h.pa hn hdb he hpl, de_call ho h.da⟩
theorem dx_callT {x : Str} {es : List Expr} {r : List V → Hp → VK → Prop} {t : TA} {g : FA S} {op : List D → Option D} {T : String} {p : Pos} (hc : CallR X (.type T) r) (ho : SA r op) (hg : Gl X x) (hm : X.mg x = none) (hv : bootBuiltins x = some (.type T)) (h : DXA X 𝒲 Wx (e :: es) t g)
    (hn : x ≠ "__name__" := by decide) (hdb : (x == ("__debug__" : Str)) = false := by decide) (he : starEach (e :: es) X.env = (false, eval e X.env) :: starEach es X.env := by rfl) (hpl : (backTo pos (starEach es X.env)).any (·.1) = false := by rfl) :
    DX X 𝒲 Wx (.Call (.Name x p) (e :: es) [] pos) (tCB r t) (eCall op g) := ⟨pe_callTy hc hg hm hv h.pa hn hdb he hpl, de_call ho h.da⟩
end
end DL

namespace DL
open PySem L2

section
variable {S : Type} {X : Cx} {𝒲 : Fam S} {Wx : Wsh} {e a b : Expr} {ta tb tc : TE} {fa fb fc : FE S} {pos : Pos}

/-! ### new lists -/
abbrev FL (S : Type) := Env → S → Res S (List D)
/-- a new list: nobody else holds it -/
def DF (𝒲 : Fam S) (Wx : Wsh) (t : TE) (f : FL S) : Prop := ∀ W, 𝒲.ok W → ∀ ρ σ s H (Q : VK), EnvOk W ρ σ s H → Post W Wx σ H (f ρ s) (fun ds _ H' => ∀ p vs, H p = none → H' p = some (.lst vs) → vs.length ≤ lim → RpAll (Fz (fun a => W.hid a ∨ Own ρ σ a ∨ a = p) H') vs ds → Q (.ref p) H') → t σ H Q
structure DXF (X : Cx) (𝒲 : Fam S) (Wx : Wsh) (e : Expr) (t : TE) (f : FL S) : Prop where
  pe : PE X e t
  df : DF 𝒲 Wx t f
def eNew (f : FL S) : FE S := fun ρ s => (f ρ s).bnd fun ds s => .ok (.d (.list ds)) s
theorem frz_hide {W : Wd S} {ρ : Env} {σ : L2.St} {H : Hp} {p : Addr} : Same (Fz (fun a => W.hid a ∨ Own ρ σ a ∨ a = p) H) (Frz W ρ σ H) := Fz_mono (fun a _ h => by
  rcases h with h | h
  · exact .inl h
  · exact .inr (.inl h)) fun _ _ _ h => h
theorem EnvOk.newBack {W : Wd S} {ρ : Env} {σ : L2.St} {s s' : S} {H H' : Hp} (E : EnvOk W ρ σ s H) (a : W.at_ s' H') (e : Stp W H H') {p : Addr} (h : H' p = none) : H p = none := by
  cases z : H p with
  | none => rfl
  | some o =>
    by_cases q : W.hid p
    · exact absurd h (W.hidIn _ _ _ a q)
    · rw [e p o q z] at h; cases h
theorem dx_new {t : TE} {f : FL S} (h : DXF X 𝒲 Wx e t f) : DX X 𝒲 Wx e t (eNew f) := by
  refine ⟨h.pe, fun W hW ρ σ s H Q E hp => ?_⟩
  refine h.df W hW ρ σ s H _ E (hp.bnd.imp fun ds s1 H1 a1 e1 q p vs h0 h1 hl r => ?_)
  have n := E.new h0
  exact q.ok a1 _ (.lst (Fz_at (fun z => z.elim n.1 n.2.2) h1) hl (r.up frz_hide))
/-- a display -/
def lLst (g : FA S) : FL S := fun ρ s => (g ρ s).bnd fun xs s => match datas xs with
  | some ds => if ds.length ≤ lim then .ok ds s else .bad
  | none => .bad
theorem fz_new {P : Addr → Prop} {H : Hp} {p : Addr} {o : HO} {vs : List V} {ds : List D} (h : H p = none) (r : RpAll (Fz P H) vs ds) : RpAll (Fz (fun a => P a ∨ a = p) (upd H p o)) vs ds :=
  r.up (Fz_mono (fun a ha hq => hq.elim id fun e => absurd h (by rw [← e]; exact ha)) fun a o' hn hq => by
    rw [upd_ne (ne_of_none hq h)]; exact hq)
theorem fz_new' {W : Wd S} {ρ : Env} {σ : L2.St} {H : Hp} {p : Addr} {o : HO} {vs : List V} {ds : List D} (h : H p = none) (r : RpAll (Frz W ρ σ H) vs ds) : RpAll (Fz (fun a => W.hid a ∨ Own ρ σ a ∨ a = p) (upd H p o)) vs ds :=
  (fz_new (o := o) h r).up (Fz_mono (fun a _ hq => by
    rcases hq with q | q | q
    · exact .inl (.inl q)
    · exact .inl (.inr q)
    · exact .inr q) fun _ _ _ h => h)
theorem dxf_lst {es : List Expr} {t : TA} {g : FA S} (h : DXA X 𝒲 Wx es t g) : DXF X 𝒲 Wx (.List es pos) (tLst t) (lLst g) := by
  refine ⟨pe_lst h.pa, fun W hW ρ σ s H Q E hp => ?_⟩
  refine h.da W hW ρ σ s H _ E (hp.bnd.imp fun x s1 H1 a1 e1 q v hv => ?_)
  split at q
  · rename_i ds hd
    split at q
    · rename_i hl
      have r := datas_rp hv hd
      have hl2 : v.length ≤ lim := by rw [r.len]; exact hl
      exact ⟨lim_line hl2, fun p hn => q _ (W.ext _ _ _ a1 (Same.new hn)) (Stp.of (Same.new hn)) p v (E.newBack a1 e1 hn) upd_same hl2 (fz_new' hn r)⟩
    · exact q.elim
  · exact q.elim

/-! ### slices -/
def DO (𝒲 : Fam S) (Wx : Wsh) (t : TO) (f : Env → S → Res S (Option Int)) : Prop := ∀ W, 𝒲.ok W → ∀ ρ σ s H (Q : Option Int → Hp → Prop), EnvOk W ρ σ s H → Post W Wx σ H (f ρ s) (fun o _ H' => Q o H') → t σ H Q
structure DXO (X : Cx) (𝒲 : Fam S) (Wx : Wsh) (e : Option Expr) (t : TO) (f : Env → S → Res S (Option Int)) : Prop where
  po : PO X e t
  d : DO 𝒲 Wx t f
def oNone : Env → S → Res S (Option Int) := fun _ s => .ok none s
def oSome (f : FE S) : Env → S → Res S (Option Int) := fun ρ s => (f ρ s).bnd fun x s => match x with
  | .d (.int i) => .ok (some i) s
  | _ => .bad
theorem dxo_none : DXO X 𝒲 Wx none tNoPart oNone := ⟨po_none, fun W hW ρ σ s H Q E h => h.ok E.at_⟩
theorem dxo_some (ha : DX X 𝒲 Wx a ta fa) : DXO X 𝒲 Wx (some a) (tPart ta) (oSome fa) := by
  refine ⟨po_some ha.pe, fun W hW ρ σ s H Q E h => ?_⟩
  refine ha.de W hW ρ σ s H _ E (h.bnd.imp fun x s1 H1 a1 e1 q v hv => ?_)
  split at q
  · cases (show Rp _ v (.int _) from hv)
    exact ⟨_, rfl, q.ok a1⟩
  · exact q.elim
def cutL {α : Type} (xs : List α) (lo hi : Option Int) : List α := (xs.drop (HT.sIx xs.length 0 lo)).take (HT.sIx xs.length xs.length hi - HT.sIx xs.length 0 lo)
theorem cutL_len {α : Type} (xs : List α) (lo hi : Option Int) : (cutL xs lo hi).length ≤ xs.length := by
  unfold cutL
  rw [List.length_take, List.length_drop]
  omega
theorem rp_cut {F : Hp} {vs : List V} {ds : List D} (r : RpAll F vs ds) (lo hi : Option Int) : RpAll F (cutV vs lo hi) (cutL ds lo hi) := by
  unfold cutV cutL
  rw [r.len]
  exact (r.drop _).take _
def sliceD (d : D) (lo hi : Option Int) : Option D := match d with
  | .list ds => some (.list (cutL ds lo hi))
  | .tuple ds => some (.tuple (cutL ds lo hi))
  | .str x => if PyData.strOk (cutS x lo hi) = true then some (.str (cutS x lo hi)) else none
  | _ => none
def rSlE (K : PySem.W.Frag) : V → Option Int → Option Int → Hp → VK → Prop := fun x lo hi H Q => rSlL K x lo hi H Q ∨ (rSlA K x lo hi H Q ∨ rSlS x lo hi H Q)
theorem sl_E : SlR X (rSlE X.K) := sl_list.or (sl_tupA.or sl_str)
theorem sliceD_ok {K : PySem.W.Frag} {P : Addr → Prop} {H : Hp} {x : V} {d z : D} {lo hi : Option Int} {Q : VK} (hP : InH P H) (hx : Rp (Fz P H) x d) (ho : sliceD d lo hi = some z) (k : ∀ v H', Same H H' → Rp (Fz P H') v z → Q v H') : rSlE K x lo hi H Q := by
  cases hx with
  | lst ha la ra =>
    cases ho
    have l2 : ∀ xs : List V, (cutV xs lo hi).length ≤ xs.length := fun xs => cutL_len xs lo hi
    exact .inl ⟨_, _, rfl, SqL.of (Fz_sub _ _ ha), fun p hp => k _ _ (Same.new hp) (rp_lst hP hp (Nat.le_trans (l2 _) la) (rp_cut ra lo hi))⟩
  | tup ha la ra =>
    cases ho
    have l2 : ∀ xs : List V, (cutV xs lo hi).length ≤ xs.length := fun xs => cutL_len xs lo hi
    refine .inr (.inl ⟨_, _, rfl, SqT.of (Fz_sub _ _ ha), fun hw => ?_, fun _ p hp => k _ _ (Same.new hp) (rp_tup hP hp (Nat.le_trans (l2 _) la) (rp_cut ra lo hi))⟩)
    have e := ra.len
    refine k _ _ (Same.refl _) (.tup ha la ?_)
    unfold cutL
    rw [← e, hw.1, hw.2, List.drop_zero, Nat.sub_zero, e, List.take_length]
    exact ra
  | str w h1 h2 =>
    obtain ⟨h, rfl⟩ := ite_some ho
    exact .inr (.inr ⟨w, rfl, lim_line h1, k _ _ (Same.refl _) (.str _ (Nat.le_trans (cutS_length w lo hi) h1) h)⟩)
  | _ => cases ho
def eSl (fa : FE S) (fl fh : Env → S → Res S (Option Int)) : FE S := fun ρ s => (fa ρ s).bnd fun x s => (fl ρ s).bnd fun l s => (fh ρ s).bnd fun h s => match x with
  | .d x => lift (sliceD x l h) s
  | _ => .bad
theorem dx_sl {lo hi : Option Expr} {tl th : TO} {fl fh : Env → S → Res S (Option Int)} {p2 : Pos} (ha : DX X 𝒲 Wx a ta fa) (hl : DXO X 𝒲 Wx lo tl fl) (hh : DXO X 𝒲 Wx hi th fh) : DX X 𝒲 Wx (.Subscript a (.Slice lo hi none p2) pos) (tSl (rSlE X.K) ta tl th) (eSl fa fl fh) := by
  refine ⟨pe_slice sl_E ha.pe hl.po hh.po, fun W hW ρ σ s H Q E h => ?_⟩
  refine ha.de W hW ρ σ s H _ E (h.bnd.imp fun x s1 H1 a1 e1 q v hv => ?_)
  have E1 := E.step a1 e1
  refine hl.d W hW ρ σ s1 H1 _ E1 (q.bnd.imp fun l s2 H2 a2 e2 q2 => ?_)
  have E2 := E1.step a2 e2
  refine hh.d W hW ρ σ s2 H2 _ E2 (q2.bnd.imp fun u s3 H3 a3 e3 q3 => ?_)
  have E3 := E2.step a3 e3
  cases x with
  | v x => exact q3.elim
  | d x =>
    have q3 : Post W Wx σ H3 (lift (sliceD x l u) s3) _ := q3
    cases hz : sliceD x l u with
    | none => rw [hz] at q3; exact q3.elim
    | some z =>
      rw [hz] at q3
      exact sliceD_ok E3.inH (Rp.up (show Rp _ v x from hv) ((Frz.stp e2).trans (Frz.stp e3))) hz fun w H4 e4 hw => q3 H4 (W.ext _ _ _ a3 e4) (Stp.of e4) w hw
/-- xs[lo:hi] as a new list: xs data, or a list of one's own -/
def lSl (fa : FE S) (fl fh : Env → S → Res S (Option Int)) : FL S := fun ρ s => (fa ρ s).bnd fun x s => (fl ρ s).bnd fun l s => (fh ρ s).bnd fun h s => match x with
  | .d (.list ds) => .ok (cutL ds l h) s
  | _ => .bad
theorem dxf_sl {lo hi : Option Expr} {tl th : TO} {fl fh : Env → S → Res S (Option Int)} {p2 : Pos} (ha : DX X 𝒲 Wx a ta fa) (hl : DXO X 𝒲 Wx lo tl fl) (hh : DXO X 𝒲 Wx hi th fh) : DXF X 𝒲 Wx (.Subscript a (.Slice lo hi none p2) pos) (tSl (rSlL X.K) ta tl th) (lSl fa fl fh) := by
  refine ⟨pe_slice sl_list ha.pe hl.po hh.po, fun W hW ρ σ s H Q E h => ?_⟩
  refine ha.de W hW ρ σ s H _ E (h.bnd.imp fun x s1 H1 a1 e1 q v hv => ?_)
  have E1 := E.step a1 e1
  refine hl.d W hW ρ σ s1 H1 _ E1 (q.bnd.imp fun l s2 H2 a2 e2 q2 => ?_)
  have E2 := E1.step a2 e2
  refine hh.d W hW ρ σ s2 H2 _ E2 (q2.bnd.imp fun u s3 H3 a3 e3 q3 => ?_)
  have E3 := E2.step a3 e3
  split at q3
  · rename_i ds
    have hv := Rp.up (show Rp _ v (.list ds) from hv) ((Frz.stp e2).trans (Frz.stp e3))
    cases hv with
    | lst ha la ra =>
      refine ⟨_, _, rfl, SqL.of (Fz_sub _ _ ha), fun p hp => q3 _ (W.ext _ _ _ a3 (Same.new hp)) (Stp.of (Same.new hp)) p _ ?_ upd_same (Nat.le_trans (cutL_len _ _ _) la) (fz_new' hp (rp_cut ra l u))⟩
      exact E.newBack a3 ((e1.trans e2).trans e3) hp
  · exact q3.elim
/-- a list of one's own, sliced -/
def lSlM (i : Nat) (fl fh : Env → S → Res S (Option Int)) : FL S := fun ρ s => match ρ[i]? with
  | some (.m ds) => (fl ρ s).bnd fun l s => (fh ρ s).bnd fun h s => .ok (cutL ds l h) s
  | _ => .bad
theorem dxf_slM {i : Nat} {x : Str} {lo hi : Option Expr} {tl th : TO} {fl fh : Env → S → Res S (Option Int)} {p2 p3 : Pos} (ha : PE X (.Name x p3) (tVar i)) (hl : DXO X 𝒲 Wx lo tl fl) (hh : DXO X 𝒲 Wx hi th fh) : DXF X 𝒲 Wx (.Subscript (.Name x p3) (.Slice lo hi none p2) pos) (tSl (rSlL X.K) (tVar i) tl th) (lSlM i fl fh) := by
  refine ⟨pe_slice sl_list ha hl.po hh.po, fun W hW ρ σ s H Q E h => ?_⟩
  unfold lSlM at h
  split at h
  · rename_i ds hi
    obtain ⟨a, vs, g1, g2, g3, g4, g5, g6⟩ := E.mutl i ds hi
    refine ⟨_, g1, ?_⟩
    refine hl.d W hW ρ σ s H _ E (h.bnd.imp fun l s2 H2 a2 e2 q2 => ?_)
    have E2 := E.step a2 e2
    refine hh.d W hW ρ σ s2 H2 _ E2 (q2.bnd.imp fun u s3 H3 a3 e3 q3 => ?_)
    have e4 := e2.trans e3
    refine ⟨a, vs, rfl, SqL.of (e4 _ _ g5 g2), fun p hp => q3 _ (W.ext _ _ _ a3 (Same.new hp)) (Stp.of (Same.new hp)) p _ (E.newBack a3 e4 hp) upd_same (Nat.le_trans (cutL_len vs _ _) g3) (fz_new' hp (rp_cut (g4.up (Frz.stp e4)) l u))⟩
  · exact h.elim
/-- a + b, lists, as a new list -/
def lAdd (fa fb : FE S) : FL S := fun ρ s => (fa ρ s).bnd fun x s => (fb ρ s).bnd fun y s => match x, y with
  | .d (.list xs), .d (.list ys) => if xs.length + ys.length ≤ lim then .ok (xs ++ ys) s else .bad
  | _, _ => .bad
theorem dxf_add (ha : DX X 𝒲 Wx a ta fa) (hb : DX X 𝒲 Wx b tb fb) : DXF X 𝒲 Wx (.BinOp a .Add b pos) (tOp rCat ta tb) (lAdd fa fb) := by
  refine ⟨pe_op op_cat ha.pe hb.pe, fun W hW ρ σ s H Q E h => ?_⟩
  refine ha.de W hW ρ σ s H _ E (h.bnd.imp fun x s1 H1 a1 e1 q v hv => ?_)
  have E1 := E.step a1 e1
  refine hb.de W hW ρ σ s1 H1 _ E1 (q.bnd.imp fun y s2 H2 a2 e2 q2 u hu => ?_)
  split at q2
  · rename_i xs ys
    have hv := Rp.up (show Rp _ v (.list xs) from hv) (Frz.stp e2)
    have hu : Rp _ u (.list ys) := hu
    split at q2
    · rename_i hl
      cases hv with
      | lst h1 l1 r1 =>
        cases hu with
        | lst h2 l2 r2 =>
          have n1 := r1.len
          have n2 := r2.len
          exact ⟨_, _, _, _, rfl, rfl, Fz_sub _ _ h1, Fz_sub _ _ h2, lim_line (by omega), fun p hp => q2 _ (W.ext _ _ _ a2 (Same.new hp)) (Stp.of (Same.new hp)) p _ (E.newBack a2 (e1.trans e2) hp) upd_same (by rw [List.length_append]; omega) (fz_new' hp (r1.append r2))⟩
    · exact q2.elim
  · exact q2.elim
/-- xs[::-1] -/
def eRev (fa : FE S) : FE S := fun ρ s => (fa ρ s).bnd fun x s => match x with
  | .d (.list ds) => .ok (.d (.list ds.reverse)) s
  | _ => .bad
theorem dx_rev {k : Nat} {p1 p2 p3 : Pos} (ha : DX X 𝒲 Wx a ta fa) : DX X 𝒲 Wx (.Subscript a (.Slice none none (some (.UnaryOp .USub (.Constant (.int 1) k p1) p2)) p3) pos) (tRevL X.K ta) (eRev fa) := by
  refine ⟨pe_revL ha.pe, fun W hW ρ σ s H Q E h => ?_⟩
  refine ha.de W hW ρ σ s H _ E (h.bnd.imp fun x s1 H1 a1 e1 q v hv => ?_)
  split at q
  · rename_i ds
    have hv : Rp _ v (.list ds) := hv
    have E1 := E.step a1 e1
    cases hv with
    | lst h1 l1 r1 => exact ⟨_, _, rfl, SqL.of (Fz_sub _ _ h1), fun p hp => q _ (W.ext _ _ _ a1 (Same.new hp)) (Stp.of (Same.new hp)) _ (rp_lst E1.inH hp (by rw [List.length_reverse]; exact l1) r1.reverse)⟩
  · exact q.elim

/-! ### a list of one's own, read for its items or for a scalar -/
/-- xs[i], xs one's own -/
def eIxM (i : Nat) (fb : FE S) : FE S := fun ρ s => match ρ[i]? with
  | some (.m ds) => (fb ρ s).bnd fun y s => match y with
    | .d (.int j) => lift (atI ds j) s
    | _ => .bad
  | _ => .bad
theorem dx_ixM {i : Nat} {x : Str} {p3 : Pos} (ha : PE X (.Name x p3) (tVar i)) (hb : DX X 𝒲 Wx b tb fb) (hs : PlainIx b := by exact fun _ _ => rfl) : DX X 𝒲 Wx (.Subscript (.Name x p3) b pos) (tOp (rIxL X.K) (tVar i) tb) (eIxM i fb) := by
  refine ⟨pe_ix ix_list ha hb.pe hs, fun W hW ρ σ s H Q E h => ?_⟩
  unfold eIxM at h
  split at h
  · rename_i ds hi
    obtain ⟨a, vs, g1, g2, g3, g4, g5, g6⟩ := E.mutl i ds hi
    refine ⟨_, g1, ?_⟩
    refine hb.de W hW ρ σ s H _ E (h.bnd.imp fun y s2 H2 a2 e2 q2 u hu => ?_)
    split at q2
    · rename_i j
      cases (show Rp _ u (.int j) from hu)
      cases hz : atI ds j with
      | none => rw [hz] at q2; exact q2.elim
      | some z =>
        rw [hz] at q2
        obtain ⟨w, h1, h2⟩ := atI_rp (g4.up (Frz.stp e2)) hz
        exact ⟨a, vs, j, w, rfl, rfl, SqL.of (e2 _ _ g5 g2), h1, q2.ok a2 w h2⟩
    · exact q2.elim
  · exact h.elim
/-- the own list at i as data, the other own ones hidden still -/
theorem EnvOk.asData {W : Wd S} {ρ : Env} {σ : L2.St} {s : S} {H : Hp} (E : EnvOk W ρ σ s H) {i : Nat} {ds : List D} (hi : ρ[i]? = some (.m ds)) : ∃ (a : Addr) (P : Addr → Prop), σ[i]? = some (some (.ref a)) ∧ (∀ H', InH (fun a => W.hid a ∨ Own ρ σ a) H' → InH P H') ∧ (∀ H', Same (Frz W ρ σ H') (Fz P H')) ∧ ∀ H', Stp W H H' → Rp (Fz P H') (.ref a) (.list ds) := by
  obtain ⟨a, vs, g1, g2, g3, g4, g5, g6⟩ := E.mutl i ds hi
  refine ⟨a, fun b => (W.hid b ∨ Own ρ σ b) ∧ b ≠ a, g1, fun H' h b q => h b q.1, fun H' => Fz_mono (fun _ _ q => q.1) (fun _ _ _ q => q), fun H' e => ?_⟩
  exact .lst (Fz_at (fun q => q.2 rfl) (e _ _ g5 g2)) g3 (g4.up ((Frz.stp e).trans (Fz_mono (fun _ _ q => q.1) (fun _ _ _ q => q))))
/-- x op xs, xs one's own, the answer a scalar -/
def eOpMR (op : D → D → Option D) (fa : FE S) (i : Nat) : FE S := fun ρ s => match ρ[i]? with
  | some (.m ds) => (fa ρ s).bnd fun x s => match x with
    | .d x => (match op x (.list ds) with
      | some z => if scalarD z = true then .ok (.d z) s else .bad
      | none => .bad)
    | _ => .bad
  | _ => .bad
theorem de_opMR {i : Nat} {r : R2} {op : D → D → Option D} (ho : S2 r op) (ha : DE 𝒲 Wx ta fa) : DE 𝒲 Wx (tOp r ta (tVar i)) (eOpMR op fa i) := by
  intro W hW ρ σ s H Q E h
  unfold eOpMR at h
  split at h
  · rename_i ds hi
    obtain ⟨a, P, g1, g2, g3, g4⟩ := E.asData hi
    refine ha W hW ρ σ s H _ E (h.bnd.imp fun x s1 H1 a1 e1 q v hv => ?_)
    cases x with
    | v x => exact q.elim
    | d x =>
      dsimp only at q
      split at q
      · rename_i z hz
        split at q
        · rename_i hsc
          exact ⟨_, g1, ho P H1 v _ x _ z Q (g2 _ (E.step a1 e1).inH) (Rp.up (show Rp _ v x from hv) (g3 _)) (g4 _ e1) hz fun w H3 e3 hw => q H3 (W.ext _ _ _ a1 e3) (Stp.of e3) w (Rp.scalar hw hsc)⟩
        · exact q.elim
      · exact q.elim
  · exact h.elim
theorem dx_cmpMR {op : CmpOp} {r : R2} {f : D → D → Option D} {i : Nat} {x : Str} {p3 : Pos} (c : Cm X op r f) (ha : DX X 𝒲 Wx a ta fa) (hb : PE X (.Name x p3) (tVar i)) (hm : behindInMarks op (.Name x p3) = false := by first | exact nomark _ (by decide) (by decide) | rfl | with_unfolding_all rfl) :
    DX X 𝒲 Wx (.Compare a [op] [.Name x p3] pos) (tOp r ta (tVar i)) (eOpMR f fa i) := ⟨pe_cmpR c.op ha.pe hb hm, de_opMR c.s2 ha.de⟩
theorem dxt_cmpMR {op : CmpOp} {r : R2} {f : D → D → Option D} {i : Nat} {x : Str} {p3 : Pos} (c : Cm X op r f) (ha : DX X 𝒲 Wx a ta fa) (hb : PE X (.Name x p3) (tVar i)) (hm : behindInMarks op (.Name x p3) = false := by first | exact nomark _ (by decide) (by decide) | rfl | with_unfolding_all rfl) :
    DXT X 𝒲 Wx (.Compare a [op] [.Name x p3] pos) (tTest (tOp r ta (tVar i))) (fun ρ s => tstOf (eOpMR f fa i ρ s)) := ⟨pt_cmpR c.op ha.pe hb hm, fun W hW ρ σ s H Q E h => dt_of hW (de_opMR c.s2 ha.de) E h⟩
/-- f(xs), xs one's own, the answer a scalar -/
def eCallM (op : List D → Option D) (i : Nat) : FE S := fun ρ s => match ρ[i]? with
  | some (.m ds) => (match op [.list ds] with
    | some z => if scalarD z = true then .ok (.d z) s else .bad
    | none => .bad)
  | _ => .bad
theorem dx_callM {x y : Str} {r : List V → Hp → VK → Prop} {op : List D → Option D} {id : String} {p p3 : Pos} {i : Nat} (hc : CallR X (.builtin id) r) (ho : SA r op) (hg : Gl X x) (hm : X.mg x = none) (hv : bootBuiltins x = some (.builtin id)) (h : PE X (.Name y p3) (tVar i))
    (hn : x ≠ "__name__" := by decide) (hdb : (x == ("__debug__" : Str)) = false := by decide) (he : starEach [.Name y p3] X.env = (false, eval (.Name y p3) X.env) :: starEach [] X.env := by rfl) (hpl : (backTo pos (starEach [] X.env)).any (·.1) = false := by rfl) :
    DX X 𝒲 Wx (.Call (.Name x p) [.Name y p3] [] pos) (tCB r (tCons (tVar i) tNil)) (eCallM op i) := by
  refine ⟨pe_callB hc hg hm hv (pa_cons h pa_nil) hn hdb he hpl, fun W hW ρ σ s H Q E hp => ?_⟩
  unfold eCallM at hp
  split at hp
  · rename_i ds hi
    obtain ⟨a, P, g1, g2, g3, g4⟩ := E.asData hi
    split at hp
    · rename_i z hz
      split at hp
      · rename_i hsc
        exact ⟨_, g1, ho P H _ _ z Q (g2 _ E.inH) (.cons (g4 _ Stp.refl) .nil) hz fun w H3 e3 hw => hp H3 (W.ext _ _ _ E.at_ e3) (Stp.of e3) w (Rp.scalar hw hsc)⟩
      · exact hp.elim
    · exact hp.elim
  · exact hp.elim
end
end DL

namespace DL
open PySem L2

inductive Out (S : Type) where
  | nx (ρ : Env) (s : S)
  | rt (d : Dv) (s : S)
  | bk (ρ : Env) (s : S)
  | ct (ρ : Env) (s : S)
  | er (c : Nat) (ρ : Env) (s : S)
  | bad
def Out.seq {S : Type} (o : Out S) (k : Env → S → Out S) : Out S := match o with
  | .nx ρ s => k ρ s
  | .rt d s => .rt d s
  | .bk ρ s => .bk ρ s
  | .ct ρ s => .ct ρ s
  | .er c ρ s => .er c ρ s
  | .bad => .bad
def Res.out {S α : Type} (r : Res S α) (ρ : Env) (k : α → S → Out S) : Out S := match r with
  | .ok a s => k a s
  | .er c s => .er c ρ s
  | .bad => .bad
def Sl.of : Dv → Sl
  | .d x => .d x
  | .v x => .v x

section
variable {S : Type}
/-- the data only grow -/
def Grow (W : Wd S) (ρ : Env) (σ : L2.St) (H : Hp) (ρ' : Env) (σ' : L2.St) (H' : Hp) : Prop := Same (Frz W ρ σ H) (Frz W ρ' σ' H')
def PostS (W : Wd S) (Wx : Wsh) (ρ : Env) (σ : L2.St) (H : Hp) (o : Out S) (D : Ends) : Prop := match o with
  | .nx ρ' s' => ∀ σ' H', EnvOk W ρ' σ' s' H' → Grow W ρ σ H ρ' σ' H' → D.nx σ' H'
  | .rt d s' => ∀ v H', W.at_ s' H' → Is (Fz W.hid H') v d → D.rt v H'
  | .bk ρ' s' => ∀ σ' H', EnvOk W ρ' σ' s' H' → Grow W ρ σ H ρ' σ' H' → D.bk σ' H'
  | .ct ρ' s' => ∀ σ' H', EnvOk W ρ' σ' s' H' → Grow W ρ σ H ρ' σ' H' → D.ct σ' H'
  | .er c ρ' s' => ∀ σ' H', EnvOk W ρ' σ' s' H' → Grow W ρ σ H ρ' σ' H' → Wx c σ' H'
  | .bad => False
abbrev FS (S : Type) := Env → S → Out S
def DS (𝒲 : Fam S) (Wx : Wsh) (t : TS) (F : FS S) : Prop := ∀ W, 𝒲.ok W → ∀ ρ σ s H (D : Ends), EnvOk W ρ σ s H → PostS W Wx ρ σ H (F ρ s) D → t D σ H
structure DXS (X : Cx) (𝒲 : Fam S) (Wx : Wsh) (st : Stmt) (t : TS) (F : FS S) : Prop where
  ps : PS X st t
  ds : DS 𝒲 Wx t F
structure DXSs (X : Cx) (𝒲 : Fam S) (Wx : Wsh) (st : List Stmt) (t : TS) (F : FS S) : Prop where
  ps : PSs X st t
  ds : DS 𝒲 Wx t F
section
variable {W : Wd S} {Wx : Wsh} {ρ ρ1 : Env} {σ σ1 : L2.St} {H H1 : Hp} {Dn : Ends}
theorem Grow.refl : Grow W ρ σ H ρ σ H := Same.refl _
theorem Grow.stp (e : Stp W H H1) : Grow W ρ σ H ρ σ H1 := Frz.stp e
theorem PostS.later {o : Out S} (h : PostS W Wx ρ σ H o Dn) (g : Grow W ρ σ H ρ1 σ1 H1) : PostS W Wx ρ1 σ1 H1 o Dn := by
  cases o with
  | nx a s => exact fun σ' H' e q => h σ' H' e (Same.trans g q)
  | rt d s => exact h
  | bk a s => exact fun σ' H' e q => h σ' H' e (Same.trans g q)
  | ct a s => exact fun σ' H' e q => h σ' H' e (Same.trans g q)
  | er c a s => exact fun σ' H' e q => h σ' H' e (Same.trans g q)
  | bad => exact h
/-- an expression ahead of the rest -/
theorem PostS.out {α : Type} {s : S} {r : Res S α} {k : α → S → Out S} (E : EnvOk W ρ σ s H) (h : PostS W Wx ρ σ H (r.out ρ k) Dn) : Post W Wx σ H r (fun a s' _ => PostS W Wx ρ σ H (k a s') Dn) := by
  cases r with
  | ok a s' => exact fun _ _ _ => h
  | er c s' => exact fun H' a e => h σ H' (E.step a e) (Grow.stp e)
  | bad => exact h
theorem PostS.seq {o : Out S} {k : FS S} (D' : Ends) (hr : D'.rt = Dn.rt) (hb : D'.bk = Dn.bk) (hc : D'.ct = Dn.ct) (hn : ∀ ρ' s' σ' H', EnvOk W ρ' σ' s' H' → PostS W Wx ρ' σ' H' (k ρ' s') Dn → D'.nx σ' H') (h : PostS W Wx ρ σ H (o.seq k) Dn) : PostS W Wx ρ σ H o D' := by
  cases o with
  | nx a s => exact fun σ' H' e q => hn a s σ' H' e (PostS.later (show PostS W Wx ρ σ H (k a s) Dn from h) q)
  | rt d s => intro v H' a b; rw [hr]; exact h v H' a b
  | bk a s => intro v H' a b; rw [hb]; exact h v H' a b
  | ct a s => intro v H' a b; rw [hc]; exact h v H' a b
  | er c a s => exact h
  | bad => exact h

/-! ### a slot is set -/
theorem own_set {i : Nat} {x : Sl} {v : Option V} {a : Addr} (h : Own (ρ.set i x) (σ.set i v) a) : Own ρ σ a ∨ ∃ xs, x = .m xs ∧ v = some (.ref a) := by
  obtain ⟨j, xs, h1, h2⟩ := h
  by_cases e : i = j
  · subst e
    by_cases hl : i < ρ.length
    · rw [List.getElem?_set_self hl] at h1
      cases h1
      by_cases hs : i < σ.length
      · rw [List.getElem?_set_self hs] at h2
        cases h2
        exact .inr ⟨xs, rfl, rfl⟩
      · rw [List.getElem?_eq_none (by rw [List.length_set]; omega)] at h2; cases h2
    · rw [List.getElem?_eq_none (by rw [List.length_set]; omega)] at h1; cases h1
  · rw [List.getElem?_set_ne e] at h1 h2
    exact .inl ⟨j, xs, h1, h2⟩
theorem frz_setD {i : Nat} {x : Sl} {v : Option V} (hx : ∀ xs, x ≠ .m xs) : Same (Frz W ρ σ H) (Frz W (ρ.set i x) (σ.set i v) H) := Fz_mono (fun a _ h => by
  rcases h with h | h
  · exact .inl h
  · rcases own_set h with h | ⟨xs, e, _⟩
    · exact .inr h
    · exact absurd e (hx xs)) fun _ _ _ h => h
theorem EnvOk.setAny {s : S} (E : EnvOk W ρ σ s H) (i : Nat) {x : Sl} {v : Option V} (hx : ∀ xs, x ≠ .m xs) (hd : ∀ z, x = .d z → ∃ u, v = some u ∧ Rp (Frz W ρ σ H) u z) (hv : ∀ z, x = .v z → v = some z) : EnvOk W (ρ.set i x) (σ.set i v) s H where
  len := by rw [List.length_set, List.length_set]; exact E.len
  at_ := E.at_
  dat := fun j z h => by
    by_cases e : i = j
    · subst e
      by_cases hl : i < ρ.length
      · rw [List.getElem?_set_self hl] at h
        cases h
        obtain ⟨u, e1, r⟩ := hd z rfl
        exact ⟨u, by rw [List.getElem?_set_self (by rw [← E.len]; exact hl), e1], r.up (frz_setD hx)⟩
      · rw [List.getElem?_eq_none (by rw [List.length_set]; omega)] at h; cases h
    · rw [List.getElem?_set_ne e] at h
      obtain ⟨u, e1, r⟩ := E.dat j z h
      exact ⟨u, by rw [List.getElem?_set_ne e]; exact e1, r.up (frz_setD hx)⟩
  raw := fun j z h => by
    by_cases e : i = j
    · subst e
      by_cases hl : i < ρ.length
      · rw [List.getElem?_set_self hl] at h
        cases h
        rw [List.getElem?_set_self (by rw [← E.len]; exact hl), hv z rfl]
      · rw [List.getElem?_eq_none (by rw [List.length_set]; omega)] at h; cases h
    · rw [List.getElem?_set_ne e] at h ⊢
      exact E.raw j z h
  mutl := fun j xs h => by
    by_cases e : i = j
    · subst e
      by_cases hl : i < ρ.length
      · rw [List.getElem?_set_self hl] at h
        cases h
        exact absurd rfl (hx xs)
      · rw [List.getElem?_eq_none (by rw [List.length_set]; omega)] at h; cases h
    · rw [List.getElem?_set_ne e] at h
      obtain ⟨a, vs, e1, e2, e3, e4, e5, e6⟩ := E.mutl j xs h
      exact ⟨a, vs, by rw [List.getElem?_set_ne e]; exact e1, e2, e3, e4.up (frz_setD hx), e5, e6⟩
  sep := fun j k xs ys a h1 h2 h3 h4 => by
    have nj : i ≠ j := fun e => by
      subst e
      by_cases hl : i < ρ.length
      · rw [List.getElem?_set_self hl] at h1; cases h1; exact hx xs rfl
      · rw [List.getElem?_eq_none (by rw [List.length_set]; omega)] at h1; cases h1
    have nk : i ≠ k := fun e => by
      subst e
      by_cases hl : i < ρ.length
      · rw [List.getElem?_set_self hl] at h2; cases h2; exact hx ys rfl
      · rw [List.getElem?_eq_none (by rw [List.length_set]; omega)] at h2; cases h2
    rw [List.getElem?_set_ne nj] at h1 h3
    rw [List.getElem?_set_ne nk] at h2 h4
    exact E.sep j k xs ys a h1 h2 h3 h4
theorem of_ne (d : Dv) : ∀ xs, Sl.of d ≠ .m xs := fun xs e => by cases d <;> cases e
theorem EnvOk.setD {s : S} (E : EnvOk W ρ σ s H) (i : Nat) {d : Dv} {v : V} (h : Is (Frz W ρ σ H) v d) : EnvOk W (ρ.set i (Sl.of d)) (σ.set i (some v)) s H := by
  refine E.setAny i (of_ne d) (fun z e => ?_) (fun z e => ?_)
  · cases d with
    | d x => cases e; exact ⟨v, rfl, h⟩
    | v x => cases e
  · cases d with
    | d x => cases e
    | v x => cases e; exact congrArg some (show v = _ from h)
theorem Grow.setD {i : Nat} {d : Dv} {v : Option V} : Grow W ρ σ H (ρ.set i (Sl.of d)) (σ.set i v) H := frz_setD (of_ne d)
theorem EnvOk.setG {s : S} (E : EnvOk W ρ σ s H) (i : Nat) {d : Dv} {v : V} (h : Is (Frz W ρ σ H) v d) : EnvOk W (ρ.set i (Sl.of d)) (σ.set i (some v)) s H ∧ Grow W ρ σ H (ρ.set i (Sl.of d)) (σ.set i (some v)) H := ⟨E.setD i h, Grow.setD⟩
/-- a new list becomes one's own -/
theorem EnvOk.setM {s s' : S} {H' : Hp} (E : EnvOk W ρ σ s H) (a : W.at_ s' H') (e : Stp W H H') (i : Nat) {p : Addr} {vs : List V} {ds : List D} (h0 : H p = none) (h1 : H' p = some (.lst vs)) (hl : vs.length ≤ lim) (r : RpAll (Fz (fun a => W.hid a ∨ Own ρ σ a ∨ a = p) H') vs ds) :
    EnvOk W (ρ.set i (.m ds)) (σ.set i (some (.ref p))) s' H' ∧ Grow W ρ σ H (ρ.set i (.m ds)) (σ.set i (some (.ref p))) H' := by
  have n := E.new h0
  have g : Same (Frz W ρ σ H) (Frz W (ρ.set i (.m ds)) (σ.set i (some (.ref p))) H') := Fz_mono (fun b hb h => by
    rcases h with h | h
    · exact .inl h
    · rcases own_set h with h | ⟨xs, _, e2⟩
      · exact .inr h
      · have e3 : p = b := by simpa using e2
        rw [← e3] at hb
        exact absurd h0 hb) fun b o hn hq => e b o (fun z => hn (.inl z)) hq
  have g2 : Same (Fz (fun a => W.hid a ∨ Own ρ σ a ∨ a = p) H') (Frz W (ρ.set i (.m ds)) (σ.set i (some (.ref p))) H') := Fz_mono (fun b _ h => by
    rcases h with h | h
    · exact .inl h
    · rcases own_set h with h | ⟨xs, _, e2⟩
      · exact .inr (.inl h)
      · have e3 : p = b := by simpa using e2
        exact .inr (.inr e3.symm)) fun _ _ _ h => h
  have nown : ∀ (j : Nat) (xs : List D), ρ[j]? = some (Sl.m xs) → σ[j]? ≠ some (some (V.ref p)) := fun j xs h1 h2 => n.2.2 ⟨j, xs, h1, h2⟩
  refine ⟨⟨?_, a, fun j z h => ?_, fun j z h => ?_, fun j xs h => ?_, fun j k xs ys b q1 q2 q3 q4 => ?_⟩, g⟩
  · rw [List.length_set, List.length_set]; exact E.len
  · by_cases q : i = j
    · subst q
      by_cases hl : i < ρ.length
      · rw [List.getElem?_set_self hl] at h; cases h
      · rw [List.getElem?_eq_none (by rw [List.length_set]; omega)] at h; cases h
    · rw [List.getElem?_set_ne q] at h
      obtain ⟨u, e1, r⟩ := E.dat j z h
      exact ⟨u, by rw [List.getElem?_set_ne q]; exact e1, r.up g⟩
  · by_cases q : i = j
    · subst q
      by_cases hl : i < ρ.length
      · rw [List.getElem?_set_self hl] at h; cases h
      · rw [List.getElem?_eq_none (by rw [List.length_set]; omega)] at h; cases h
    · rw [List.getElem?_set_ne q] at h ⊢
      exact E.raw j z h
  · by_cases q : i = j
    · subst q
      by_cases hl' : i < ρ.length
      · rw [List.getElem?_set_self hl'] at h
        cases h
        exact ⟨p, vs, by rw [List.getElem?_set_self (by rw [← E.len]; exact hl')], h1, hl, r.up g2, n.1, n.2.1⟩
      · rw [List.getElem?_eq_none (by rw [List.length_set]; omega)] at h; cases h
    · rw [List.getElem?_set_ne q] at h
      obtain ⟨b, ws, e1, e2, e3, e4, e5, e6⟩ := E.mutl j xs h
      exact ⟨b, ws, by rw [List.getElem?_set_ne q]; exact e1, e b _ e5 e2, e3, e4.up g, e5, e6⟩
  · by_cases j1 : i = j
    · by_cases k1 : i = k
      · rw [← j1, ← k1]
      · subst j1
        by_cases hl' : i < ρ.length
        · rw [List.getElem?_set_self (by rw [← E.len]; exact hl')] at q3
          cases q3
          rw [List.getElem?_set_ne k1] at q2 q4
          exact absurd q4 (nown k ys q2)
        · rw [List.getElem?_eq_none (by rw [List.length_set]; omega)] at q1; cases q1
    · by_cases k1 : i = k
      · subst k1
        by_cases hl' : i < ρ.length
        · rw [List.getElem?_set_self (by rw [← E.len]; exact hl')] at q4
          cases q4
          rw [List.getElem?_set_ne j1] at q1 q3
          exact absurd q3 (nown j xs q1)
        · rw [List.getElem?_eq_none (by rw [List.length_set]; omega)] at q2; cases q2
      · rw [List.getElem?_set_ne j1] at q1 q3
        rw [List.getElem?_set_ne k1] at q2 q4
        exact E.sep j k xs ys b q1 q2 q3 q4
/-- a list of one's own is changed -/
theorem EnvOk.write {s : S} (E : EnvOk W ρ σ s H) {i : Nat} {xs ds : List D} {a : Addr} {vs : List V} (hi : ρ[i]? = some (.m xs)) (ha : σ[i]? = some (some (.ref a))) (hl : vs.length ≤ lim) (r : RpAll (Frz W ρ σ H) vs ds) :
    EnvOk W (ρ.set i (.m ds)) σ s (upd H a (.lst vs)) ∧ Grow W ρ σ H (ρ.set i (.m ds)) σ (upd H a (.lst vs)) := by
  obtain ⟨b, ws, m1, m2, m3, m4, m5, m6⟩ := E.mutl i xs hi
  rw [ha] at m1
  cases m1
  have oa : Own ρ σ a := ⟨i, xs, hi, ha⟩
  have hil : i < ρ.length := (List.getElem?_eq_some_iff.mp hi).1
  have own' : ∀ b, Own (ρ.set i (.m ds)) σ b → Own ρ σ b := fun b ⟨j, zs, h1, h2⟩ => by
    by_cases q : i = j
    · subst q
      exact ⟨i, xs, hi, h2⟩
    · rw [List.getElem?_set_ne q] at h1
      exact ⟨j, zs, h1, h2⟩
  have g : Same (Frz W ρ σ H) (Frz W (ρ.set i (.m ds)) σ (upd H a (.lst vs))) := Fz_mono (fun b _ h => h.imp id (own' b)) fun b o hn hq => by
    rw [upd_ne fun e => hn (.inr (by rw [e]; exact oa))]
    exact hq
  refine ⟨⟨?_, W.mutn _ _ _ _ E.at_ m5 m6, fun j z h => ?_, fun j z h => ?_, fun j zs h => ?_, fun j k zs ys b q1 q2 q3 q4 => ?_⟩, g⟩
  · rw [List.length_set]; exact E.len
  · by_cases q : i = j
    · subst q
      rw [List.getElem?_set_self hil] at h; cases h
    · rw [List.getElem?_set_ne q] at h
      obtain ⟨u, e1, r⟩ := E.dat j z h
      exact ⟨u, e1, r.up g⟩
  · by_cases q : i = j
    · subst q
      rw [List.getElem?_set_self hil] at h; cases h
    · rw [List.getElem?_set_ne q] at h
      exact E.raw j z h
  · by_cases q : i = j
    · subst q
      rw [List.getElem?_set_self hil] at h
      cases h
      exact ⟨a, vs, ha, upd_same, hl, r.up g, m5, m6⟩
    · rw [List.getElem?_set_ne q] at h
      obtain ⟨b, us, e1, e2, e3, e4, e5, e6⟩ := E.mutl j zs h
      have nb : b ≠ a := fun e => q (E.sep i j xs zs a hi h ha (by rw [← e]; exact e1))
      exact ⟨b, us, e1, by rw [upd_ne nb]; exact e2, e3, e4.up g, e5, e6⟩
  · have w : ∀ (j : Nat) (zs : List D), (ρ.set i (Sl.m ds))[j]? = some (Sl.m zs) → ∃ ys : List D, ρ[j]? = some (Sl.m ys) := fun j zs h => by
      by_cases q : i = j
      · subst q; exact ⟨xs, hi⟩
      · rw [List.getElem?_set_ne q] at h; exact ⟨zs, h⟩
    obtain ⟨y1, w1⟩ := w j zs q1
    obtain ⟨y2, w2⟩ := w k ys q2
    exact E.sep j k y1 y2 b w1 w2 q3 q4
/-- a list of one's own becomes data -/
theorem EnvOk.frz {s : S} (E : EnvOk W ρ σ s H) {i : Nat} {xs : List D} (hi : ρ[i]? = some (.m xs)) : EnvOk W (ρ.set i (.d (.list xs))) σ s H ∧ Grow W ρ σ H (ρ.set i (.d (.list xs))) σ H := by
  obtain ⟨a, vs, m1, m2, m3, m4, m5, m6⟩ := E.mutl i xs hi
  have hil : i < ρ.length := (List.getElem?_eq_some_iff.mp hi).1
  have w : ∀ (j : Nat) (zs : List D), (ρ.set i (Sl.d (.list xs)))[j]? = some (Sl.m zs) → i ≠ j ∧ ρ[j]? = some (Sl.m zs) := fun j zs h => by
    by_cases q : i = j
    · subst q; rw [List.getElem?_set_self hil] at h; cases h
    · rw [List.getElem?_set_ne q] at h; exact ⟨q, h⟩
  have own' : ∀ b, Own (ρ.set i (.d (.list xs))) σ b → Own ρ σ b ∧ b ≠ a := fun b ⟨j, zs, h1, h2⟩ => by
    obtain ⟨q, h3⟩ := w j zs h1
    exact ⟨⟨j, zs, h3, h2⟩, fun e => q (E.sep i j xs zs a hi h3 m1 (by rw [← e]; exact h2))⟩
  have g : Same (Frz W ρ σ H) (Frz W (ρ.set i (.d (.list xs))) σ H) := Fz_mono (fun b _ h => h.imp id fun q => (own' b q).1) fun _ _ _ h => h
  refine ⟨⟨?_, E.at_, fun j z h => ?_, fun j z h => ?_, fun j zs h => ?_, fun j k zs ys b q1 q2 q3 q4 => E.sep j k zs ys b (w j zs q1).2 (w k ys q2).2 q3 q4⟩, g⟩
  · rw [List.length_set]; exact E.len
  · by_cases q : i = j
    · subst q
      rw [List.getElem?_set_self hil] at h
      cases h
      refine ⟨.ref a, m1, .lst (Fz_at (fun z => ?_) m2) m3 (m4.up g)⟩
      rcases z with z | z
      · exact m5 z
      · exact (own' a z).2 rfl
    · rw [List.getElem?_set_ne q] at h
      obtain ⟨u, e1, r⟩ := E.dat j z h
      exact ⟨u, e1, r.up g⟩
  · by_cases q : i = j
    · subst q
      rw [List.getElem?_set_self hil] at h; cases h
    · rw [List.getElem?_set_ne q] at h
      exact E.raw j z h
  · obtain ⟨q, h3⟩ := w j zs h
    obtain ⟨b, us, e1, e2, e3, e4, e5, e6⟩ := E.mutl j zs h3
    exact ⟨b, us, e1, e2, e3, e4.up g, e5, e6⟩
end

/-! ### blocks -/
section
variable {X : Cx} {𝒲 : Fam S} {Wx : Wsh} {e a b : Expr} {ta tb tc : TE} {fa fb fc : FE S} {pos : Pos} {st : Stmt} {rest : List Stmt} {t u : TS} {F G : FS S}
def sNil : FS S := fun ρ s => .nx ρ s
def sSeq (F G : FS S) : FS S := fun ρ s => (F ρ s).seq G
theorem dss_nil : DXSs X 𝒲 Wx [] tNext sNil := ⟨pss_nil, fun W hW ρ σ s H D E h => h σ H E Grow.refl⟩
theorem dss_cons (h1 : DXS X 𝒲 Wx st t F) (h2 : DXSs X 𝒲 Wx rest u G) : DXSs X 𝒲 Wx (st :: rest) (tSeq t u) (sSeq F G) :=
  ⟨pss_cons h1.ps h2.ps, fun W hW ρ σ s H D E h => h1.ds W hW ρ σ s H _ E (PostS.seq (Dn := D) { D with nx := u D } rfl rfl rfl (fun ρ' s' σ' H' E' q => h2.ds W hW ρ' σ' s' H' D E' q) h)⟩
theorem dss_one (h1 : DXS X 𝒲 Wx st t F) : DXSs X 𝒲 Wx [st] t F := ⟨pss_one h1.ps, h1.ds⟩
/-- the own lists become data ahead of a statement -/
def frzE : List Nat → Env → Env
  | [], ρ => ρ
  | i :: r, ρ => frzE r (match ρ[i]? with | some (.m xs) => ρ.set i (.d (.list xs)) | _ => ρ)
theorem frzE_ok {W : Wd S} {σ : L2.St} {s : S} {H : Hp} : ∀ (l : List Nat) (ρ : Env), EnvOk W ρ σ s H → EnvOk W (frzE l ρ) σ s H ∧ Grow W ρ σ H (frzE l ρ) σ H
  | [], ρ, E => ⟨E, Grow.refl⟩
  | i :: r, ρ, E => by
    show EnvOk W (frzE r (match ρ[i]? with | some (.m xs) => ρ.set i (.d (.list xs)) | _ => ρ)) σ s H ∧ Grow W ρ σ H (frzE r (match ρ[i]? with | some (.m xs) => ρ.set i (.d (.list xs)) | _ => ρ)) σ H
    split
    · rename_i xs hi
      obtain ⟨E1, g1⟩ := E.frz hi
      obtain ⟨E2, g2⟩ := frzE_ok r _ E1
      exact ⟨E2, Same.trans g1 g2⟩
    · exact frzE_ok r ρ E
theorem dss_frz (l : List Nat) (h : DXSs X 𝒲 Wx rest u G) : DXSs X 𝒲 Wx rest u (fun ρ s => G (frzE l ρ) s) :=
  ⟨h.ps, fun W hW ρ σ s H D E q => by
    obtain ⟨E1, g1⟩ := frzE_ok l ρ E
    exact h.ds W hW _ σ s H D E1 (q.later g1)⟩
theorem ds_doc {x j pos pos'} : DXS X 𝒲 Wx (.Expr (.Constant (.str x) j pos) pos') tNext sNil := ⟨ps_doc, fun W hW ρ σ s H D E h => h σ H E Grow.refl⟩
theorem ds_pass : DXS X 𝒲 Wx (.Pass pos) tNext sNil := ⟨ps_pass, fun W hW ρ σ s H D E h => h σ H E Grow.refl⟩
def sDrop (f : FE S) : FS S := fun ρ s => (f ρ s).out ρ fun _ s => .nx ρ s
theorem ds_expr (ha : DX X 𝒲 Wx a ta fa) (hs : swapsWith a none pos.line X.env = pure false := by rfl) : DXS X 𝒲 Wx (.Expr a pos) (tDrop ta) (sDrop fa) :=
  ⟨ps_expr ha.pe hs, fun W hW ρ σ s H D E h => ha.de W hW ρ σ s H _ E ((PostS.out E h).imp fun x s1 H1 a1 e1 q v hv => q σ H1 (E.step a1 e1) (Grow.stp e1))⟩
def sRet (f : FE S) : FS S := fun ρ s => (f ρ s).out ρ fun d s => .rt d s
theorem fz_hid {W : Wd S} {ρ : Env} {σ : L2.St} {H : Hp} : Same (Frz W ρ σ H) (Fz W.hid H) := Fz_mono (fun _ _ h => .inl h) fun _ _ _ h => h
theorem ds_ret (ha : DX X 𝒲 Wx a ta fa) : DXS X 𝒲 Wx (.Return (some a) pos) (tRet ta) (sRet fa) :=
  ⟨ps_ret ha.pe, fun W hW ρ σ s H D E h => ha.de W hW ρ σ s H _ E ((PostS.out E h).imp fun x s1 H1 a1 e1 q v hv => q v H1 a1 (hv.up fz_hid))⟩
def sRetN : FS S := fun ρ s => .rt (.d .none) s
theorem ds_retN : DXS X 𝒲 Wx (.Return none pos) tRetN sRetN := ⟨ps_retN, fun W hW ρ σ s H D E h => h _ H E.at_ Rp.non⟩
def sIf (f : FT S) (F G : FS S) : FS S := fun ρ s => (f ρ s).out ρ fun k s => if k = true then F ρ s else G ρ s
theorem ds_if {c : Expr} {A B : List Stmt} {tA : TT} {fA : FT S} (hc : DXT X 𝒲 Wx c tA fA) (ha : DXSs X 𝒲 Wx A t F) (hb : DXSs X 𝒲 Wx B u G) : DXS X 𝒲 Wx (.If c A B pos) (tIfS tA t u) (sIf fA F G) := by
  refine ⟨ps_if hc.pt ha.ps hb.ps, fun W hW ρ σ s H D E h => ?_⟩
  refine hc.dt W hW ρ σ s H _ E ((PostS.out E h).imp fun k s1 H1 a1 e1 q => ?_)
  cases k with
  | true =>
    rw [if_pos rfl] at q ⊢
    exact ha.ds W hW ρ σ s1 H1 D (E.step a1 e1) (q.later (Grow.stp e1))
  | false =>
    rw [if_neg Bool.false_ne_true] at q ⊢
    exact hb.ds W hW ρ σ s1 H1 D (E.step a1 e1) (q.later (Grow.stp e1))
/-! ### assignments -/
def sSet (i : Nat) (f : FE S) : FS S := fun ρ s => (f ρ s).out ρ fun d s => .nx (ρ.set i (Sl.of d)) s
theorem set_ok {i : Nat} {te : TE} {f : FE S} (hd : DE 𝒲 Wx te f) : DS 𝒲 Wx (tAsg te (gName i)) (sSet i f) := fun W hW ρ σ s H D E h =>
  hd W hW ρ σ s H _ E ((PostS.out E h).imp fun x s1 H1 a1 e1 q v hv => q _ H1 ((E.step a1 e1).setD i hv) (Same.trans (Grow.stp e1) Grow.setD))
theorem ds_set (i : Nat) {x : Str} {p : Pos} (hN : X.N.Nodup) (ha : DX X 𝒲 Wx a ta fa) (hi : X.N[i]? = some x := by rfl) (hx : Loc X.env.scope x := by first | exact .inl rfl | exact .inr rfl) (hs : swapsWith a (some (.Name x p)) pos.line X.env = pure false := by rfl)
    (hf : X.fn x = true ∨ X.env.scope.names.lookup x = some .local := by first | exact .inl rfl | exact .inr rfl) : DXS X 𝒲 Wx (.Assign [.Name x p] a pos) (tAsg ta (gName i)) (sSet i fa) := ⟨ps_set hN hi hx ha.pe hs hf, set_ok ha.de⟩
/-- a new list, one's own from here on -/
def sSetM (i : Nat) (f : FL S) : FS S := fun ρ s => (f ρ s).out ρ fun ds s => .nx (ρ.set i (.m ds)) s
theorem setM_ok {i : Nat} {te : TE} {f : FL S} (hd : DF 𝒲 Wx te f) : DS 𝒲 Wx (tAsg te (gName i)) (sSetM i f) := fun W hW ρ σ s H D E h =>
  hd W hW ρ σ s H _ E ((PostS.out E h).imp fun ds s1 H1 a1 e1 q p vs h0 h1 hl r =>
    let ⟨E1, g1⟩ := E.setM a1 e1 i h0 h1 hl r
    q _ H1 E1 g1)
theorem ds_setM (i : Nat) {x : Str} {p : Pos} {f : FL S} (hN : X.N.Nodup) (ha : DXF X 𝒲 Wx a ta f) (hi : X.N[i]? = some x := by rfl) (hx : Loc X.env.scope x := by first | exact .inl rfl | exact .inr rfl) (hs : swapsWith a (some (.Name x p)) pos.line X.env = pure false := by rfl)
    (hf : X.fn x = true ∨ X.env.scope.names.lookup x = some .local := by first | exact .inl rfl | exact .inr rfl) : DXS X 𝒲 Wx (.Assign [.Name x p] a pos) (tAsg ta (gName i)) (sSetM i f) := ⟨ps_set hN hi hx ha.pe hs hf, setM_ok ha.df⟩
/-- name op= e, ints -/
def sAug (i : Nat) (op : D → D → Option D) (f : FE S) : FS S := fun ρ s => match ρ[i]? with
  | some (.d x) => (f ρ s).out ρ fun y s => (match y with
    | .d y => (match op x y with
      | some z => .nx (ρ.set i (.d z)) s
      | none => .bad)
    | _ => .bad)
  | _ => .bad
theorem aug_ok {i : Nat} {te : TE} {f : FE S} {op : D → D → Option D} {r : R2} (ho : S2 r op) (hd : DE 𝒲 Wx te f) : DS 𝒲 Wx (tAug i te r) (sAug i op f) := fun W hW ρ σ s H Dn E h => by
  unfold sAug at h
  split at h
  · rename_i x hx
    obtain ⟨v, e1, r1⟩ := E.dat i x hx
    refine ⟨v, e1, hd W hW ρ σ s H _ E ((PostS.out E h).imp fun y s1 H1 a1 q1 q u hu => ?_)⟩
    cases y with
    | v y => exact q.elim
    | d y =>
      dsimp only at q
      split at q
      · rename_i z hz
        refine ho _ H1 v u x y z _ (E.step a1 q1).inH (r1.up (Frz.stp q1)) hu hz fun w H2 e2 hw => ?_
        have E2 := (E.step a1 q1).ext e2
        exact q _ H2 (E2.setD i (d := .d z) hw) (Same.trans (Grow.stp (q1.trans (Stp.of e2))) (Grow.setD (d := .d z)))
      · exact q.elim
  · exact h.elim
theorem ds_aug (i : Nat) {x : Str} {p : Pos} {op : Operator} {r : R2} {f : D → D → Option D} (hN : X.N.Nodup) (hp : OpR X (inplaceOp op) r) (ho : S2 r f) (ha : DX X 𝒲 Wx a ta fa) (hi : X.N[i]? = some x := by rfl) (hx : Loc X.env.scope x := by first | exact .inl rfl | exact .inr rfl)
    (hf : X.fn x = true ∨ X.env.scope.names.lookup x = some .local := by first | exact .inl rfl | exact .inr rfl) : DXS X 𝒲 Wx (.AugAssign (.Name x p) op a pos) (tAug i ta r) (sAug i f fa) := ⟨ps_aug hN hi hx ha.pe hp hf, aug_ok ho ha.de⟩
def iaddD : D → D → Option D := onI (fun _ _ => true) fun i j => .int (i + j)
theorem s2_iadd : S2 (rI0 fun i j => .int (i + j)) iaddD := s2_I0
/-- xs += ys, xs one's own -/
def sAugM (i : Nat) (f : FE S) : FS S := fun ρ s => match ρ[i]? with
  | some (.m xs) => (f ρ s).out ρ fun y s => (match y with
    | .d (.list ys) => if xs.length + ys.length ≤ lim then .nx (ρ.set i (.m (xs ++ ys))) s else .bad
    | _ => .bad)
  | _ => .bad
theorem ds_augM (i : Nat) {x : Str} {p : Pos} (hN : X.N.Nodup) (ha : DX X 𝒲 Wx a ta fa) (hi : X.N[i]? = some x := by rfl) (hx : Loc X.env.scope x := by first | exact .inl rfl | exact .inr rfl)
    (hf : X.fn x = true ∨ X.env.scope.names.lookup x = some .local := by first | exact .inl rfl | exact .inr rfl) : DXS X 𝒲 Wx (.AugAssign (.Name x p) .Add a pos) (tAug i ta rExt2) (sAugM i fa) := by
  refine ⟨ps_aug hN hi hx ha.pe iop_ext hf, fun W hW ρ σ s H Dn E h => ?_⟩
  unfold sAugM at h
  split at h
  · rename_i xs hm
    obtain ⟨l, vs, m1, m2, m3, m4, m5, m6⟩ := E.mutl i xs hm
    refine ⟨_, m1, ha.de W hW ρ σ s H _ E ((PostS.out E h).imp fun y s1 H1 a1 q1 q u hu => ?_)⟩
    split at q
    · rename_i ys
      split at q
      · rename_i hl
        have hu : Rp _ u (.list ys) := hu
        have E1 := E.step a1 q1
        cases hu with
        | lst h1 l1 r1 =>
          have r4 := m4.up (Frz.stp q1)
          have n1 := r4.len
          have n2 := r1.len
          refine ⟨l, _, vs, _, rfl, rfl, q1 _ _ m5 m2, Fz_sub _ _ h1, lim_line (by omega), ?_⟩
          obtain ⟨E2, g2⟩ := E1.write (ds := xs ++ ys) hm m1 (by rw [List.length_append]; omega) (r4.append r1)
          have e3 : σ.set i (some (V.ref l)) = σ := by
            apply List.ext_getElem?
            intro j
            by_cases e : i = j
            · subst e
              rw [List.getElem?_set_self (List.getElem?_eq_some_iff.mp m1).1, m1]
            · rw [List.getElem?_set_ne e]
          rw [e3]
          exact q _ _ E2 (Same.trans (Grow.stp q1) g2)
      · exact q.elim
    · exact q.elim
  · exact h.elim
/-- xs.append(e), xs one's own -/
def sApp (i : Nat) (f : FE S) : FS S := fun ρ s => match ρ[i]? with
  | some (.m xs) => (f ρ s).out ρ fun y s => (match y with
    | .d y => if xs.length < lim then .nx (ρ.set i (.m (xs ++ [y]))) s else .bad
    | _ => .bad)
  | _ => .bad
theorem app_ds {i : Nat} {K : PySem.W.Frag} {te : TE} {f : FE S} (hd : DE 𝒲 Wx te f) : DS 𝒲 Wx (tDrop (tBM K "list" rAppend (tVar i) (tCons te tNil))) (sApp i f) := fun W hW ρ σ s H Dn E h => by
  unfold sApp at h
  split at h
  · rename_i xs hm
    obtain ⟨l, vs, m1, m2, m3, m4, m5, m6⟩ := E.mutl i xs hm
    refine ⟨_, m1, Or.inl ⟨rfl, _, SqL.of m2⟩, hd W hW ρ σ s H _ E ((PostS.out E h).imp fun y s1 H1 a1 q1 q u hu => ?_)⟩
    cases y with
    | v y => exact q.elim
    | d y =>
      dsimp only at q
      split at q
      · rename_i hl
        have E1 := E.step a1 q1
        have r4 := m4.up (Frz.stp q1)
        have n1 := r4.len
        refine ⟨l, vs, u, rfl, rfl, q1 _ _ m5 m2, Nat.lt_of_lt_of_le (by rw [n1]; exact hl) (by rw [sizeLine_eq]; decide), ?_⟩
        obtain ⟨E2, g2⟩ := E1.write (ds := xs ++ [y]) hm m1 (by rw [List.length_append, List.length_singleton]; omega) (r4.append (.cons hu .nil))
        exact q _ _ E2 (Same.trans (Grow.stp q1) g2)
      · exact q.elim
  · exact h.elim
theorem ds_app (i : Nat) {o : Expr} {p : Pos} {e0 : Expr} (h : PS X (.Expr e0 pos) (tDrop (tBM X.K "list" rAppend (tVar i) (tCons ta tNil)))) (ha : DX X 𝒲 Wx a ta fa) : DXS X 𝒲 Wx (.Expr e0 pos) (tDrop (tBM X.K "list" rAppend (tVar i) (tCons ta tNil))) (sApp i fa) := ⟨h, app_ds ha.de⟩

/-! ### targets -/
def GOk (g : TG) (p : D → Env → Option Env) (ts : List Nat) : Prop := ∀ {S : Type} (W : Wd S) (ρ : Env) (σ : L2.St) (s : S) (H : Hp) (x : V) (d : D) (ρ' : Env) (Q : L2.St → Hp → Prop), EnvOk W ρ σ s H → Rp (Frz W ρ σ H) x d → p d ρ = some ρ' →
  (∀ σ', EnvOk W ρ' σ' s H → Grow W ρ σ H ρ' σ' H → (∀ j, j ∉ ts → σ'[j]? = σ[j]?) → σ'.length = σ.length → Q σ' H) → g x σ H Q
def GsOk (g : TGs) (p : List D → Env → Option Env) (ts : List Nat) : Prop := ∀ {S : Type} (W : Wd S) (ρ : Env) (σ : L2.St) (s : S) (H : Hp) (x : List V) (d : List D) (ρ' : Env) (Q : L2.St → Hp → Prop), EnvOk W ρ σ s H → RpAll (Frz W ρ σ H) x d → p d ρ = some ρ' →
  (∀ σ', EnvOk W ρ' σ' s H → Grow W ρ σ H ρ' σ' H → (∀ j, j ∉ ts → σ'[j]? = σ[j]?) → σ'.length = σ.length → Q σ' H) → g x σ H Q
structure DXG (X : Cx) (e : Expr) (g : TG) (p : D → Env → Option Env) (ts : List Nat) : Prop where
  pg : PG X e g
  ok : GOk g p ts
  kp : ∀ (d : D) (ρ ρ' : Env), p d ρ = some ρ' → ∀ j, j ∉ ts → ρ'[j]? = ρ[j]?
structure DXGs (X : Cx) (es : List Expr) (g : TGs) (p : List D → Env → Option Env) (ts : List Nat) : Prop where
  pg : PGs X es g
  ok : GsOk g p ts
  kp : ∀ (d : List D) (ρ ρ' : Env), p d ρ = some ρ' → ∀ j, j ∉ ts → ρ'[j]? = ρ[j]?
def pNm (i : Nat) : D → Env → Option Env := fun d ρ => some (ρ.set i (.d d))
theorem dg_name (i : Nat) {x : Str} {p : Pos} (hN : X.N.Nodup) (hi : X.N[i]? = some x := by rfl) (hx : Loc X.env.scope x := by first | exact .inl rfl | exact .inr rfl) (hf : X.fn x = true ∨ X.env.scope.names.lookup x = some .local := by first | exact .inl rfl | exact .inr rfl) : DXG X (.Name x p) (gName i) (pNm i) [i] := by
  refine ⟨pg_name hN hi hx hf, fun W ρ σ s H v d ρ' Q E r e k => ?_, fun d ρ ρ' e j hj => ?_⟩
  case refine_2 =>
    cases e
    rw [List.getElem?_set_ne]
    intro e
    exact hj (by simp [e])
  cases e
  refine k _ (E.setD i (d := .d d) r) (Grow.setD (d := .d d)) (fun j hj => ?_) (List.length_set)
  rw [List.getElem?_set_ne]
  intro e
  exact hj (by simp [e])
def psNil : List D → Env → Option Env := fun ds ρ => if ds.isEmpty = true then some ρ else none
def psCons (p : D → Env → Option Env) (q : List D → Env → Option Env) : List D → Env → Option Env := fun ds ρ => match ds with
  | d :: r => (p d ρ).bind (q r)
  | [] => none
theorem dgs_nil : DXGs X [] gNil psNil [] := by
  refine ⟨pgs_nil, fun W ρ σ s H v d ρ' Q E r e k => ?_, fun d ρ ρ' e j hj => ?_⟩
  case refine_2 =>
    cases d with
    | nil => cases e; rfl
    | cons a b => cases e
  cases d with
  | nil =>
    cases r
    cases e
    exact ⟨rfl, k σ E Grow.refl (fun _ _ => rfl) rfl⟩
  | cons a b => cases e
theorem dgs_cons {es : List Expr} {g : TG} {gs : TGs} {p : D → Env → Option Env} {q : List D → Env → Option Env} {ts us : List Nat} (h1 : DXG X e g p ts) (h2 : DXGs X es gs q us) (hs : (assignEach (e :: es) X.env).map (·.2) = assign e X.env :: (assignEach es X.env).map (·.2) := by rfl) :
    DXGs X (e :: es) (gCons g gs) (psCons p q) (ts ++ us) := by
  refine ⟨pgs_cons h1.pg h2.pg hs, fun W ρ σ s H v d ρ' Q E r e k => ?_, fun d ρ ρ' e j hj => ?_⟩
  case refine_2 =>
    cases d with
    | nil => cases e
    | cons a b =>
      have e : (p a ρ).bind (q b) = some ρ' := e
      obtain ⟨ρ1, e1, e2⟩ := Option.bind_eq_some_iff.mp e
      exact (h2.kp b ρ1 ρ' e2 j fun z => hj (List.mem_append_right _ z)).trans (h1.kp a ρ ρ1 e1 j fun z => hj (List.mem_append_left _ z))
  cases d with
  | nil => cases e
  | cons a b =>
    cases r with
    | cons r1 r2 =>
      have e : (p a ρ).bind (q b) = some ρ' := e
      obtain ⟨ρ1, e1, e2⟩ := Option.bind_eq_some_iff.mp e
      refine ⟨_, _, rfl, h1.ok W ρ σ s H _ a ρ1 _ E r1 e1 fun σ1 E1 g1 j1 l1 => ?_⟩
      refine h2.ok W ρ1 σ1 s H _ b ρ' _ E1 (r2.up g1) e2 fun σ2 E2 g2 j2 l2 => ?_
      exact k σ2 E2 (Same.trans g1 g2) (fun j hj => (j2 j fun z => hj (List.mem_append_right _ z)).trans (j1 j fun z => hj (List.mem_append_left _ z))) (l2.trans l1)
def pTp (n : Nat) (p : List D → Env → Option Env) : D → Env → Option Env := fun d ρ => match d with
  | .tuple ds => if ds.length = n then p ds ρ else none
  | _ => none
def pLs (n : Nat) (p : List D → Env → Option Env) : D → Env → Option Env := fun d ρ => match d with
  | .list ds => if ds.length = n then p ds ρ else none
  | _ => none
theorem dg_tup {es : List Expr} {k : Nat} {gs : TGs} {n : Nat} {p : List D → Env → Option Env} {ts : List Nat} (hc : X.calm = true) (h : DXGs X es gs p ts) (hn : (assignEach es X.env).length = n := by rfl) (hst : (assignEach es X.env).findIdx? (·.1) = none := by rfl) :
    DXG X (.Tuple es k pos) (gTup X.K n gs) (pTp n p) ts := by
  refine ⟨pg_tup hc h.pg hn hst, fun W ρ σ s H v d ρ' Q E r e k => ?_, fun d ρ ρ' e j hj => ?_⟩
  case refine_2 =>
    unfold pTp at e
    split at e
    · split at e
      · exact h.kp _ ρ ρ' e j hj
      · cases e
    · cases e
  cases r with
  | tup h1 l1 r1 =>
    unfold pTp at e
    dsimp only at e
    split at e
    · rename_i hl
      exact ⟨_, _, rfl, SqT.of (Fz_sub _ _ h1), by rw [r1.len]; exact hl, h.ok W ρ σ s H _ _ ρ' Q E r1 e k⟩
    · cases e
  | _ => cases e
theorem dg_lst {es : List Expr} {k : Nat} {gs : TGs} {n : Nat} {p : List D → Env → Option Env} {ts : List Nat} (hc : X.calm = true) (h : DXGs X es gs p ts) (hn : (assignEach es X.env).length = n := by rfl) (hst : (assignEach es X.env).findIdx? (·.1) = none := by rfl) :
    DXG X (.Tuple es k pos) (gLst X.K n gs) (pLs n p) ts := by
  refine ⟨pg_lst hc h.pg hn hst, fun W ρ σ s H v d ρ' Q E r e k => ?_, fun d ρ ρ' e j hj => ?_⟩
  case refine_2 =>
    unfold pLs at e
    split at e
    · split at e
      · exact h.kp _ ρ ρ' e j hj
      · cases e
    · cases e
  cases r with
  | lst h1 l1 r1 =>
    unfold pLs at e
    dsimp only at e
    split at e
    · rename_i hl
      exact ⟨_, _, rfl, SqL.of (Fz_sub _ _ h1), by rw [r1.len]; exact hl, h.ok W ρ σ s H _ _ ρ' Q E r1 e k⟩
    · cases e
  | _ => cases e
/-- pattern = e -/
def sAsg (p : D → Env → Option Env) (f : FE S) : FS S := fun ρ s => (f ρ s).out ρ fun d s => match d with
  | .d d => (match p d ρ with
    | some ρ' => .nx ρ' s
    | none => .bad)
  | _ => .bad
theorem ds_asg {tg : Expr} {g : TG} {p : D → Env → Option Env} {ts : List Nat} (ha : DX X 𝒲 Wx a ta fa) (hg : DXG X tg g p ts) (hs : swapsWithSole [tg] a pos.line X.env = pure false := by rfl) (hw : swappedStores [tg] a X.env = pure none := by rfl)
    (h1 : (assignEach [tg] X.env).map (·.2) = [assign tg X.env] := by rfl) : DXS X 𝒲 Wx (.Assign [tg] a pos) (tAsg ta g) (sAsg p fa) := by
  refine ⟨ps_asg ha.pe hg.pg hs hw h1, fun W hW ρ σ s H Dn E h => ?_⟩
  refine ha.de W hW ρ σ s H _ E ((PostS.out E h).imp fun x s1 H1 a1 e1 q v hv => ?_)
  cases x with
  | v x => exact q.elim
  | d x =>
    dsimp only at q
    split at q
    · rename_i ρ' hp
      exact hg.ok W ρ σ s1 H1 v x ρ' _ (E.step a1 e1) hv hp fun σ' E' g' _ _ => q σ' H1 E' (Same.trans (Grow.stp e1) g')
    · exact q.elim
/-- x, y = a, b; x, y, z = a, b, c: plain local names -/
def sPar (i j : Nat) (g : FA S) : FS S := fun ρ s => (g ρ s).out ρ fun xs s => match xs with
  | [x, y] => .nx ((ρ.set i (Sl.of x)).set j (Sl.of y)) s
  | _ => .bad
theorem ds_par {i j : Nat} {x y : Str} {px py pt : Pos} {kt k2 pt2} {t : TA} {g : FA S} (hc : X.calm = true) (hN : X.N.Nodup) (ha : DXA X 𝒲 Wx [a, b] t g) (hi : X.N[i]? = some x := by rfl) (hj : X.N[j]? = some y := by rfl) (hij : i ≠ j := by decide)
    (hx : X.env.scope.names.lookup x = some .local := by rfl) (hy : X.env.scope.names.lookup y = some .local := by rfl)
    (hw : swappedStores [.Tuple [.Name x px, .Name y py] kt pt] (.Tuple [a, b] k2 pt2) X.env = pure (some [x, y]) := by rfl) (hs : swapsWithSole [.Tuple [.Name x px, .Name y py] kt pt] (.Tuple [a, b] k2 pt2) pos.line X.env = pure false := by rfl) :
    DXS X 𝒲 Wx (.Assign [.Tuple [.Name x px, .Name y py] kt pt] (.Tuple [a, b] k2 pt2) pos) (tPar i j t) (sPar i j g) := by
  refine ⟨ps_par hc hN hi hj hij hx hy ha.pa hw hs, fun W hW ρ σ s H Dn E h => ?_⟩
  refine ha.da W hW ρ σ s H _ E ((PostS.out E h).imp fun xs s1 H1 a1 e1 q v hv => ?_)
  split at q
  · cases hv with
    | cons r1 rr =>
      cases rr with
      | cons r2 rr =>
        cases rr
        obtain ⟨E1, g1⟩ := (E.step a1 e1).setG i r1
        obtain ⟨E2, g2⟩ := E1.setG j (r2.up g1)
        exact ⟨_, _, rfl, q _ H1 E2 (Same.trans (Grow.stp e1) (Same.trans g1 g2))⟩
  · exact q.elim
def sPar3 (i j l : Nat) (g : FA S) : FS S := fun ρ s => (g ρ s).out ρ fun xs s => match xs with
  | [x, y, z] => .nx (((ρ.set i (Sl.of x)).set j (Sl.of y)).set l (Sl.of z)) s
  | _ => .bad
theorem ds_par3 {i j l : Nat} {x y z : Str} {c : Expr} {px py pz pt : Pos} {kt k2 pt2} {t : TA} {g : FA S} (hc : X.calm = true) (hN : X.N.Nodup) (ha : DXA X 𝒲 Wx [a, b, c] t g) (hi : X.N[i]? = some x := by rfl) (hj : X.N[j]? = some y := by rfl) (hl : X.N[l]? = some z := by rfl)
    (hij : i ≠ j := by decide) (hil : i ≠ l := by decide) (hjl : j ≠ l := by decide)
    (hx : X.env.scope.names.lookup x = some .local := by rfl) (hy : X.env.scope.names.lookup y = some .local := by rfl) (hz : X.env.scope.names.lookup z = some .local := by rfl)
    (hw : swappedStores [.Tuple [.Name x px, .Name y py, .Name z pz] kt pt] (.Tuple [a, b, c] k2 pt2) X.env = pure (some [x, y, z]) := by rfl) (hs : swapsWithSole [.Tuple [.Name x px, .Name y py, .Name z pz] kt pt] (.Tuple [a, b, c] k2 pt2) pos.line X.env = pure false := by rfl) :
    DXS X 𝒲 Wx (.Assign [.Tuple [.Name x px, .Name y py, .Name z pz] kt pt] (.Tuple [a, b, c] k2 pt2) pos) (tPar3 i j l t) (sPar3 i j l g) := by
  refine ⟨ps_par3 hc hN hi hj hl hij hil hjl hx hy hz ha.pa hw hs, fun W hW ρ σ s H Dn E h => ?_⟩
  refine ha.da W hW ρ σ s H _ E ((PostS.out E h).imp fun xs s1 H1 a1 e1 q v hv => ?_)
  split at q
  · cases hv with
    | cons r1 rr =>
      cases rr with
      | cons r2 rr =>
        cases rr with
        | cons r3 rr =>
          cases rr
          obtain ⟨E1, g1⟩ := (E.step a1 e1).setG i r1
          obtain ⟨E2, g2⟩ := E1.setG j (r2.up g1)
          obtain ⟨E3, g3⟩ := E2.setG l (r3.up (Same.trans g1 g2))
          exact ⟨_, _, _, rfl, q _ H1 E3 (Same.trans (Grow.stp e1) (Same.trans (Same.trans g1 g2) g3))⟩
  · exact q.elim
end
end
end DL

namespace DL
open PySem L2
section
variable {S : Type} {X : Cx} {𝒲 : Fam S} {Wx : Wsh} {e a b : Expr} {ta tb tc : TE} {fa fb fc : FE S} {pos : Pos} {t u : TS} {F G : FS S}

/-! ### what a loop walks over -/
/-- J gives the data ds, while what stood in F0 stands -/
def Yld (F0 : Hp) (J : It) (ds : List D) : Prop := ds.length ≤ lim ∧ ∃ (G : Hp → Prop) (Y : Nat → Hp → V → Hp → Prop), Walk J ds.length G Y ∧ (∀ H, Same F0 H → G H) ∧
  ∀ i H x H', i < ds.length → Y i H x H' → ∀ P : Addr → Prop, InH P H → Same F0 (Fz P H) → Same H H' ∧ ∃ d, ds[i]? = some d ∧ Rp (Fz P H') x d
def DIt (𝒲 : Fam S) (Wx : Wsh) (wi : TI) (f : FL S) : Prop := ∀ W, 𝒲.ok W → ∀ ρ σ s H (R : It → Hp → Prop), EnvOk W ρ σ s H → Post W Wx σ H (f ρ s) (fun ds _ H' => ∀ J, Yld (Frz W ρ σ H') J ds → R J H') → wi σ H R
structure DXI (X : Cx) (𝒲 : Fam S) (Wx : Wsh) (tg e : Expr) (wi : TI) (f : FL S) : Prop where
  pi : PI X tg e wi
  di : DIt 𝒲 Wx wi f
variable {tg : Expr}
def lList (f : FE S) : FL S := fun ρ s => (f ρ s).bnd fun x s => match x with
  | .d (.list ds) => .ok ds s
  | _ => .bad
theorem yld_list {K : PySem.W.Frag} {F0 : Hp} {a : Addr} {vs : List V} {ds : List D} (h : F0 a = some (.lst vs)) (hl : vs.length ≤ lim) (r : RpAll F0 vs ds) : Yld F0 (Itl K a) ds := by
  have e := r.len
  refine ⟨by rw [← e]; exact hl, _, _, by rw [← e]; exact walk_list (xs := vs), fun H q => SqL.of (q _ _ h), fun i H x H' hi y P hP q => ?_⟩
  obtain ⟨rfl, hx⟩ := y
  obtain ⟨d, hd, rd⟩ := r.getV hx
  exact ⟨Same.refl _, d, hd, rd.up q⟩
theorem yld_tup {K : PySem.W.Frag} {F0 : Hp} {a : Addr} {vs : List V} {ds : List D} (h : F0 a = some (.tup vs)) (hl : vs.length ≤ lim) (r : RpAll F0 vs ds) : Yld F0 (Itt K a) ds := by
  have e := r.len
  refine ⟨by rw [← e]; exact hl, _, _, by rw [← e]; exact walk_tup (xs := vs), fun H q => SqT.of (q _ _ h), fun i H x H' hi y P hP q => ?_⟩
  obtain ⟨rfl, hx⟩ := y
  obtain ⟨d, hd, rd⟩ := r.getV hx
  exact ⟨Same.refl _, d, hd, rd.up q⟩
theorem di_list (ha : DX X 𝒲 Wx a ta fa) : DXI X 𝒲 Wx tg a (iList X.K ta) (lList fa) := by
  refine ⟨pi_list ha.pe, fun W hW ρ σ s H R E h => ?_⟩
  refine ha.de W hW ρ σ s H _ E (h.bnd.imp fun x s1 H1 a1 e1 q v hv => ?_)
  split at q
  · rename_i ds
    have hv : Rp _ v (.list ds) := hv
    cases hv with
    | lst h1 l1 r1 => exact ⟨_, rfl, ⟨_, SqL.of (Fz_sub _ _ h1)⟩, q.ok a1 _ (yld_list h1 l1 r1)⟩
  · exact q.elim
def lTup (f : FE S) : FL S := fun ρ s => (f ρ s).bnd fun x s => match x with
  | .d (.tuple ds) => .ok ds s
  | _ => .bad
theorem di_tup (ha : DX X 𝒲 Wx a ta fa) : DXI X 𝒲 Wx tg a (iTup X.K ta) (lTup fa) := by
  refine ⟨pi_tup ha.pe, fun W hW ρ σ s H R E h => ?_⟩
  refine ha.de W hW ρ σ s H _ E (h.bnd.imp fun x s1 H1 a1 e1 q v hv => ?_)
  split at q
  · rename_i ds
    have hv : Rp _ v (.tuple ds) := hv
    cases hv with
    | tup h1 l1 r1 => exact ⟨_, rfl, ⟨_, SqT.of (Fz_sub _ _ h1)⟩, q.ok a1 _ (yld_tup h1 l1 r1)⟩
  · exact q.elim
/-! range -/
def rngL (lo : Int) (n : Nat) : List D := (List.range n).map fun (i : Nat) => PyData.int (lo + (i : Int))
theorem rngL_len (lo : Int) (n : Nat) : (rngL lo n).length = n := by simp [rngL]
theorem rngL_get (lo : Int) {n i : Nat} (h : i < n) : (rngL lo n)[i]? = some (.int (lo + (i : Int))) := by simp [rngL, h]
theorem yld_range {F0 : Hp} {lo : Int} {n : Nat} (hn : n ≤ lim) : Yld F0 (Itr lo n) (rngL lo n) := by
  refine ⟨by rw [rngL_len]; exact hn, _, _, by rw [rngL_len]; exact walk_range, fun _ _ => trivial, fun i H x H' hi y P hP q => ?_⟩
  obtain ⟨rfl, rfl⟩ := y
  rw [rngL_len] at hi
  exact ⟨Same.refl _, _, rngL_get lo hi, .int _⟩
def lRng1 (f : FA S) : FL S := fun ρ s => (f ρ s).bnd fun xs s => match xs with
  | [.d (.int j)] => if j ≤ (lim : Int) ∧ -(2 ^ 62) ≤ j then .ok (rngL 0 j.toNat) s else .bad
  | _ => .bad
theorem di_range1 {p : Pos} {t : TA} {g : FA S} (hm : X.mg "range" = none) (ha : DXA X 𝒲 Wx [a] t g) (hg : Gl X "range" := by rfl) (hs : starEach [a] X.env = [(false, eval a X.env)] := by rfl) : DXI X 𝒲 Wx tg (.Call (.Name "range" p) [a] [] pos) (iRng1 t) (lRng1 g) := by
  refine ⟨pi_range1 hg hm ha.pa hs, fun W hW ρ σ s H R E h => ?_⟩
  refine ha.da W hW ρ σ s H _ E (h.bnd.imp fun xs s1 H1 a1 e1 q v hv => ?_)
  split at q
  · rename_i j
    split at q
    · rename_i hj
      have hl : (lim : Int) = 100000 := rfl
      cases hv with
      | cons r rr =>
        cases rr
        cases (show Rp _ _ (.int j) from r)
        exact ⟨j, rfl, by omega, by omega, q.ok a1 _ (yld_range (by omega))⟩
    · exact q.elim
  · exact q.elim
def lRng2 (f : FA S) : FL S := fun ρ s => (f ρ s).bnd fun xs s => match xs with
  | [.d (.int i), .d (.int j)] => if -(2 ^ 62) ≤ i ∧ i < 2 ^ 62 ∧ -(2 ^ 62) ≤ j ∧ j < 2 ^ 62 ∧ (j - i).toNat ≤ lim then .ok (rngL i (j - i).toNat) s else .bad
  | _ => .bad
theorem di_range2 {p : Pos} {t : TA} {g : FA S} (hm : X.mg "range" = none) (ha : DXA X 𝒲 Wx [a, b] t g) (hg : Gl X "range" := by rfl) (hs : starEach [a, b] X.env = [(false, eval a X.env), (false, eval b X.env)] := by rfl) (hs2 : starEach [b] X.env = [(false, eval b X.env)] := by rfl) :
    DXI X 𝒲 Wx tg (.Call (.Name "range" p) [a, b] [] pos) (iRng2 t) (lRng2 g) := by
  refine ⟨pi_range2 hg hm ha.pa hs hs2, fun W hW ρ σ s H R E h => ?_⟩
  refine ha.da W hW ρ σ s H _ E (h.bnd.imp fun xs s1 H1 a1 e1 q v hv => ?_)
  split at q
  · rename_i i j
    split at q
    · rename_i hj
      cases hv with
      | cons r rr =>
        cases rr with
        | cons r' rr =>
          cases rr
          cases (show Rp _ _ (.int i) from r)
          cases (show Rp _ _ (.int j) from r')
          exact ⟨i, j, rfl, ⟨hj.1, hj.2.1, hj.2.2.1, hj.2.2.2.1⟩, q.ok a1 _ (yld_range hj.2.2.2.2)⟩
    · exact q.elim
  · exact q.elim
/-- range(i, j, -1) -/
def rngD (lo : Int) (n : Nat) : List D := (List.range n).map fun (i : Nat) => PyData.int (lo - (i : Int))
theorem yld_rangeD {F0 : Hp} {lo : Int} {n : Nat} (hn : n ≤ lim) : Yld F0 (Itc lo (-1) n) (rngD lo n) := by
  have hl : (rngD lo n).length = n := by simp [rngD]
  refine ⟨by rw [hl]; exact hn, _, _, by rw [hl]; exact walk_rangeC, fun _ _ => trivial, fun i H x H' hi y P hP q => ?_⟩
  obtain ⟨rfl, rfl⟩ := y
  rw [hl] at hi
  refine ⟨Same.refl _, .int (lo + (i : Int) * (-1)), ?_, .int _⟩
  have e : lo + (i : Int) * (-1) = lo - (i : Int) := by omega
  rw [e]
  simp [rngD, hi]
def lRngD (f : FA S) : FL S := fun ρ s => (f ρ s).bnd fun xs s => match xs with
  | [.d (.int i), .d (.int j), .d (.int (-1))] => if -(2 ^ 62) ≤ i ∧ i < 2 ^ 62 ∧ -(2 ^ 62) ≤ j ∧ j < 2 ^ 62 ∧ (i - j).toNat ≤ lim then .ok (rngD i (i - j).toNat) s else .bad
  | _ => .bad
theorem di_rangeD {p : Pos} {c : Expr} {t : TA} {g : FA S} (hm : X.mg "range" = none) (ha : DXA X 𝒲 Wx [a, b, c] t g) (hg : Gl X "range" := by rfl) (hs : starEach [a, b, c] X.env = (false, eval a X.env) :: starEach [b, c] X.env := by rfl) (hpl : (backTo pos (starEach [b, c] X.env)).any (·.1) = false := by rfl) : DXI X 𝒲 Wx tg (.Call (.Name "range" p) [a, b, c] [] pos) (iRng3 t) (lRngD g) := by
  refine ⟨pi_range3 hg hm ha.pa hs hpl, fun W hW ρ σ s H R E h => ?_⟩
  refine ha.da W hW ρ σ s H _ E (h.bnd.imp fun xs s1 H1 a1 e1 q v hv => ?_)
  split at q
  · rename_i i j
    split at q
    · rename_i hj
      cases hv with
      | cons r rr =>
        cases rr with
        | cons r' rr =>
          cases rr with
          | cons r'' rr =>
            cases rr
            cases (show Rp _ _ (.int i) from r)
            cases (show Rp _ _ (.int j) from r')
            cases (show Rp _ _ (.int (-1)) from r'')
            exact ⟨i, j, -1, _, rfl, RgC.neg hj.1 hj.2.1 hj.2.2.1 hj.2.2.2.1, q.ok a1 _ (yld_rangeD hj.2.2.2.2)⟩
    · exact q.elim
  · exact q.elim
/-! enumerate, zip -/
def enumL (ds : List D) : List D := (ds.zipIdx).map fun p => PyData.tuple [.int (p.2 : Nat), p.1]
theorem enumL_len (ds : List D) : (enumL ds).length = ds.length := by simp [enumL]
def lEnum (f : FA S) : FL S := fun ρ s => (f ρ s).bnd fun xs s => match xs with
  | [.d (.list ds)] => .ok (enumL ds) s
  | _ => .bad
theorem rp_pair {P : Addr → Prop} {H : Hp} {T : Addr} {x y : V} {d e : D} (hP : InH P H) (hT : H T = none) (r1 : Rp (Fz P H) x d) (r2 : Rp (Fz P H) y e) : Rp (Fz P (upd H T (.tup [x, y]))) (.ref T) (.tuple [d, e]) :=
  rp_tup hP hT (by show 2 ≤ lim; decide) (.cons r1 (.cons r2 .nil))
theorem di_enum {elts : List Expr} {kk : Nat} {p tpos : Pos} {t : TA} {g : FA S} (hm : X.mg "enumerate" = none) (ha : DXA X 𝒲 Wx [a] t g) (hg : Gl X "enumerate" := by rfl) (hs : starEach [a] X.env = [(false, eval a X.env)] := by rfl) :
    DXI X 𝒲 Wx (.Tuple elts kk tpos) (.Call (.Name "enumerate" p) [a] [] pos) (iEnum X.K t) (lEnum g) := by
  refine ⟨pi_enum hg hm ha.pa hs, fun W hW ρ σ s H R E h => ?_⟩
  refine ha.da W hW ρ σ s H _ E (h.bnd.imp fun xs s1 H1 a1 e1 q v hv => ?_)
  split at q
  · rename_i ds
    cases hv with
    | cons r rr =>
      cases rr
      have r : Rp _ _ (.list ds) := r
      cases r with
      | @lst a' vs _ h1 l1 r1 =>
        refine ⟨_, vs, rfl, SqL.of (Fz_sub _ _ h1), q.ok a1 _ ⟨by rw [enumL_len, ← r1.len]; exact l1, _, _, by rw [enumL_len, ← r1.len]; exact walk_enum (xs := vs), fun H q => SqL.of (q _ _ h1), fun i H x H' hi y P hP q => ?_⟩⟩
        obtain ⟨T, x1, y1, rfl, hT, rfl, hx1, hy1⟩ := y
        cases hx1
        obtain ⟨d, hd, rd⟩ := r1.getV hy1
        refine ⟨Same.new hT, .tuple [.int (i : Nat), d], ?_, rp_pair hP hT (.int _) (rd.up q)⟩
        simp [enumL, hd]
  · exact q.elim
def zipL (xs ys : List D) : List D := (xs.zip ys).map fun p => PyData.tuple [p.1, p.2]
def lZip (f : FA S) : FL S := fun ρ s => (f ρ s).bnd fun xs s => match xs with
  | [.d (.list ds), .d (.list es)] => .ok (zipL ds es) s
  | _ => .bad
theorem di_zip {elts : List Expr} {kk : Nat} {p tpos : Pos} {t : TA} {g : FA S} (hm : X.mg "zip" = none) (ha : DXA X 𝒲 Wx [a, b] t g) (hg : Gl X "zip" := by rfl)
    (hs : starEach [a, b] X.env = (false, eval a X.env) :: starEach [b] X.env := by rfl) (hpl : (backTo pos (starEach [b] X.env)).any (·.1) = false := by rfl) :
    DXI X 𝒲 Wx (.Tuple elts kk tpos) (.Call (.Name "zip" p) [a, b] [] pos) (iZip X.K t) (lZip g) := by
  refine ⟨pi_zip hg hm ha.pa hs hpl, fun W hW ρ σ s H R E h => ?_⟩
  refine ha.da W hW ρ σ s H _ E (h.bnd.imp fun xs s1 H1 a1 e1 q v hv => ?_)
  split at q
  · rename_i ds es
    cases hv with
    | cons r rr =>
      cases rr with
      | cons r' rr =>
        cases rr
        have r : Rp _ _ (.list ds) := r
        have r' : Rp _ _ (.list es) := r'
        cases r with
        | @lst a' vs _ h1 l1 r1 =>
          cases r' with
          | @lst b' ws _ h2 l2 r2 =>
            have z1 := r1.len
            have z2 := r2.len
            have zl : (zipL ds es).length = min vs.length ws.length := by simp [zipL, z1, z2]
            refine ⟨_, _, vs, ws, rfl, SqL.of (Fz_sub _ _ h1), SqL.of (Fz_sub _ _ h2), q.ok a1 _ ⟨by rw [zl]; omega, _, _, walk_zip zl, fun H q => ⟨SqL.of (q _ _ h1), SqL.of (q _ _ h2)⟩, fun i H x H' hi y P hP q => ?_⟩⟩
            obtain ⟨T, x1, y1, rfl, hT, rfl, hx1, hy1⟩ := y
            obtain ⟨d, hd, rd⟩ := r1.getV hx1
            obtain ⟨d', hd', rd'⟩ := r2.getV hy1
            refine ⟨Same.new hT, .tuple [d, d'], ?_, rp_pair hP hT (rd.up q) (rd'.up q)⟩
            have hz : (ds.zip es)[i]? = some (d, d') := List.getElem?_zip_eq_some.mpr ⟨hd, hd'⟩
            simp [zipL, hz]
  · exact q.elim

/-! ### for -/
def loopS (p : D → Env → Option Env) (F : FS S) : List D → FS S
  | [], ρ, s => .nx ρ s
  | d :: r, ρ, s => match p d ρ with
    | none => .bad
    | some ρ1 => (match F ρ1 s with
      | .nx ρ2 s2 => loopS p F r ρ2 s2
      | .ct ρ2 s2 => loopS p F r ρ2 s2
      | .bk ρ2 s2 => .nx ρ2 s2
      | .rt d s2 => .rt d s2
      | .er c ρ2 s2 => .er c ρ2 s2
      | .bad => .bad)
def sFor (f : FL S) (p : D → Env → Option Env) (F : FS S) : FS S := fun ρ s => (f ρ s).out ρ fun ds s => loopS p F ds ρ s
theorem for_ok {wi : TI} {g : TG} {p : D → Env → Option Env} {ts : List Nat} {f : FL S} (hi : DIt 𝒲 Wx wi f) (hg : GOk g p ts) (hb : DS 𝒲 Wx t F) : DS 𝒲 Wx (tFor wi g t) (sFor f p F) := fun W hW ρ σ s H Dn E h => by
  refine hi W hW ρ σ s H _ E ((PostS.out E h).imp fun ds s1 H1 a1 e1 q J y => ?_)
  obtain ⟨hlim, G0, Y, w, hG, hY⟩ := y
  have E1 := E.step a1 e1
  have q1 : PostS W Wx ρ σ H1 (loopS p F ds ρ s1) Dn := q.later (Grow.stp e1)
  refine for_it w (fun i σ' H' => ∃ ρ' s', EnvOk W ρ' σ' s' H' ∧ Grow W ρ σ H1 ρ' σ' H' ∧ PostS W Wx ρ' σ' H' (loopS p F (ds.drop i) ρ' s') Dn) ⟨ρ, s1, E1, Grow.refl, q1⟩ (fun i σ' H' _ ⟨ρ', s', _, g', _⟩ => hG H' (Same.trans g' Fz_sub)) ?_ ?_
  · rintro i x σ' H' H2 hin ⟨ρ', s', E', g', q'⟩ yy
    obtain ⟨sm, d, hd, rd⟩ := hY i H' x H2 hin yy _ E'.inH g'
    have E2 := E'.ext sm
    have e3 : ds.drop i = d :: ds.drop (i + 1) := by
      have hd' := List.getElem?_eq_some_iff.mp hd
      rw [List.drop_eq_getElem_cons hd'.1, hd'.2]
    rw [e3] at q'
    have q2 : PostS W Wx ρ' σ' H2 (loopS p F (d :: ds.drop (i + 1)) ρ' s') Dn := q'.later (Grow.stp (Stp.of sm))
    unfold loopS at q2
    cases hp : p d ρ' with
    | none => rw [hp] at q2; exact q2.elim
    | some ρ1 =>
      rw [hp] at q2
      dsimp only at q2
      refine hg W ρ' σ' s' H2 x d ρ1 _ E2 rd hp fun σ1 E3 g3 _ _ => hb W hW ρ1 σ1 s' H2 _ E3 ?_
      have q3 := q2.later g3
      have gg : Grow W ρ σ H1 ρ1 σ1 H2 := Same.trans g' (Same.trans (Grow.stp (Stp.of sm)) g3)
      cases hF : F ρ1 s' with
      | nx ρ2 s2 =>
        rw [hF] at q3
        exact fun σ4 H4 E4 g4 => ⟨ρ2, s2, E4, Same.trans gg g4, q3.later g4⟩
      | ct ρ2 s2 =>
        rw [hF] at q3
        exact fun σ4 H4 E4 g4 => ⟨ρ2, s2, E4, Same.trans gg g4, q3.later g4⟩
      | bk ρ2 s2 =>
        rw [hF] at q3
        exact fun σ4 H4 E4 g4 => q3 σ4 H4 E4 g4
      | rt d' s2 => rw [hF] at q3; exact q3
      | er c ρ2 s2 => rw [hF] at q3; exact q3
      | bad => rw [hF] at q3; exact q3.elim
  · rintro σ' H' ⟨ρ', s', E', g', q'⟩
    rw [List.drop_length] at q'
    exact q' σ' H' E' Grow.refl
theorem ds_for {wi : TI} {g : TG} {p : D → Env → Option Env} {ts : List Nat} {f : FL S} {iter : Expr} {body : List Stmt} (hp : PassesOwn (model X.prog X.w) X.A X.env X.xe) (hc : X.calm = true) (hi : DXI X 𝒲 Wx tg iter wi f) (hg : DXG X tg g p ts) (hb : DXSs X 𝒲 Wx body t F)
    (hs : ∀ x, foldedSetIterable iter X.env x = pure x := by intro _; rfl) : DXS X 𝒲 Wx (.For tg iter body [] pos) (tFor wi g t) (sFor f p F) := ⟨ps_for hp hc hi.pi hg.pg hb.ps hs, for_ok hi.di hg.ok hb.ds⟩

/-! ### while -/
def loopW (f : FT S) (F : FS S) : Nat → FS S
  | 0, _, _ => .bad
  | n + 1, ρ, s => (f ρ s).out ρ fun k s => if k = true then (match F ρ s with
      | .nx ρ2 s2 => loopW f F n ρ2 s2
      | .ct ρ2 s2 => loopW f F n ρ2 s2
      | .bk ρ2 s2 => .nx ρ2 s2
      | .rt d s2 => .rt d s2
      | .er c ρ2 s2 => .er c ρ2 s2
      | .bad => .bad) else .nx ρ s
def sWhile (μ : Env → Nat) (f : FT S) (F : FS S) : FS S := fun ρ s => loopW f F (μ ρ) ρ s
theorem while_ok {μ : Env → Nat} {tA : TT} {f : FT S} (hc : DT 𝒲 Wx tA f) (hb : DS 𝒲 Wx t F) : DS 𝒲 Wx (tWhile tA t) (sWhile μ f F) := fun W hW ρ σ s H Dn E h => by
  refine ⟨fun n σ' H' => ∃ ρ' s', EnvOk W ρ' σ' s' H' ∧ PostS W Wx ρ' σ' H' (loopW f F n ρ' s') Dn, ⟨μ ρ, ρ, s, E, h⟩, ?_⟩
  rintro n σ' H' ⟨ρ', s', E', q⟩
  cases n with
  | zero => exact q.elim
  | succ n =>
    unfold loopW at q
    refine hc W hW ρ' σ' s' H' _ E' ((PostS.out E' q).imp fun k s1 H1 a1 e1 q1 => ?_)
    have E1 := E'.step a1 e1
    have q1 := q1.later (Grow.stp e1)
    cases k with
    | false =>
      rw [if_neg Bool.false_ne_true] at q1 ⊢
      exact q1 σ' H1 E1 Grow.refl
    | true =>
      rw [if_pos rfl] at q1 ⊢
      refine ⟨fun σ2 H2 => ∃ ρ2 s2, EnvOk W ρ2 σ2 s2 H2 ∧ PostS W Wx ρ2 σ2 H2 (loopW f F n ρ2 s2) Dn, fun σ2 H2 q2 => ⟨n, Nat.lt_succ_self n, q2⟩, hb W hW ρ' σ' s1 H1 _ E1 ?_⟩
      cases hF : F ρ' s1 with
      | nx ρ2 s2 => rw [hF] at q1; exact fun σ4 H4 E4 g4 => ⟨ρ2, s2, E4, q1.later g4⟩
      | ct ρ2 s2 => rw [hF] at q1; exact fun σ4 H4 E4 g4 => ⟨ρ2, s2, E4, q1.later g4⟩
      | bk ρ2 s2 => rw [hF] at q1; exact fun σ4 H4 E4 g4 => q1 σ4 H4 E4 g4
      | rt d' s2 => rw [hF] at q1; exact q1
      | er c ρ2 s2 => rw [hF] at q1; exact q1
      | bad => rw [hF] at q1; exact q1.elim
theorem ds_while (μ : Env → Nat) {c : Expr} {body : List Stmt} {tA : TT} {f : FT S} (hp : PassesOwn (model X.prog X.w) X.A X.env X.xe) (hc : DXT X 𝒲 Wx c tA f) (hb : DXSs X 𝒲 Wx body t F) : DXS X 𝒲 Wx (.While c body [] pos) (tWhile tA t) (sWhile μ f F) := ⟨ps_while hp hc.pt hb.ps, while_ok hc.dt hb.ds⟩

/-! ### comprehensions -/
/-- the block's own slots forgotten; none where one of them holds an own list -/
def wipeE : List Nat → Env → Option Env
  | [], ρ => some ρ
  | i :: r, ρ => (wipeE r ρ).bind fun ρ1 => match ρ1[i]? with
    | some (.m _) => none
    | _ => some (ρ1.set i .no)
theorem wipe_ok {W : Wd S} {s : S} {H : Hp} : ∀ (vs : List Nat) {ρ ρ1 : Env} {σ : L2.St}, EnvOk W ρ σ s H → wipeE vs ρ = some ρ1 → EnvOk W ρ1 (wipe σ vs) s H ∧ (∀ b, Own ρ1 (wipe σ vs) b ↔ Own ρ σ b)
  | [], _, _, _, E, h => by cases h; exact ⟨E, fun _ => Iff.rfl⟩
  | i :: r, ρ, ρ1, σ, E, h => by
    have h : ((wipeE r ρ).bind fun ρ1 => match ρ1[i]? with | some (.m _) => none | _ => some (ρ1.set i .no)) = some ρ1 := h
    obtain ⟨ρ2, h1, h2⟩ := Option.bind_eq_some_iff.mp h
    obtain ⟨E2, o2⟩ := wipe_ok r E h1
    split at h2
    · cases h2
    · rename_i hn
      cases h2
      show EnvOk W (ρ2.set i .no) ((wipe σ r).set i none) s H ∧ _
      refine ⟨E2.setAny i (fun _ z => nomatch z) (fun _ z => nomatch z) (fun _ z => nomatch z), fun b => ⟨fun ho => ?_, fun ho => ?_⟩⟩
      · rcases own_set ho with z | ⟨xs, z, _⟩
        · exact (o2 b).mp z
        · cases z
      · obtain ⟨j, xs, z1, z2⟩ := (o2 b).mpr ho
        have ne : i ≠ j := fun q => by subst q; exact hn xs z1
        exact ⟨j, xs, by rw [List.getElem?_set_ne ne]; exact z1, by show ((wipe σ r).set i none)[j]? = _; rw [List.getElem?_set_ne ne]; exact z2⟩
theorem wipe_get : ∀ (vs : List Nat) (σ : L2.St) (j : Nat), j ∉ vs → (wipe σ vs)[j]? = σ[j]?
  | [], _, _, _ => rfl
  | i :: r, σ, j, h => by
    show ((wipe σ r).set i none)[j]? = _
    rw [List.getElem?_set_ne (fun e => h (by simp [e]))]
    exact wipe_get r σ j fun z => h (by simp [z])
theorem wipe_in : ∀ (vs : List Nat) (σ : L2.St) (j : Nat), j ∈ vs → (wipe σ vs)[j]? = if j < σ.length then some none else none
  | i :: r, σ, j, h => by
    show ((wipe σ r).set i none)[j]? = _
    by_cases e : i = j
    · subst e
      rw [List.getElem?_set, if_pos rfl, wipe_length]
    · rw [List.getElem?_set_ne e]
      exact wipe_in r σ j (by simpa [Ne.symm e] using h)
theorem wipe_eq {vs : List Nat} {σ σ' : L2.St} (hl : σ'.length = σ.length) (h : ∀ j, j ∉ vs → σ'[j]? = σ[j]?) : wipe σ' vs = wipe σ vs := by
  apply List.ext_getElem?
  intro j
  by_cases e : j ∈ vs
  · rw [wipe_in vs σ' j e, wipe_in vs σ j e, hl]
  · rw [wipe_get vs σ' j e, wipe_get vs σ j e, h j e]
theorem wipe_no : ∀ (vs : List Nat) {ρ ρ1 : Env}, wipeE vs ρ = some ρ1 → ∀ j, j ∈ vs → ∀ xs, ρ1[j]? ≠ some (Sl.m xs)
  | i :: r, ρ, ρ1, h, j, hj, xs => by
    have h : ((wipeE r ρ).bind fun ρ1 => match ρ1[i]? with | some (.m _) => none | _ => some (ρ1.set i .no)) = some ρ1 := h
    obtain ⟨ρ2, h1, h2⟩ := Option.bind_eq_some_iff.mp h
    split at h2
    · cases h2
    · cases h2
      by_cases e : i = j
      · subst e
        rw [List.getElem?_set, if_pos rfl]
        split
        · intro z; cases z
        · intro z; cases z
      · rw [List.getElem?_set_ne e]
        exact wipe_no r h1 j (by simpa [Ne.symm e] using hj) xs
/-- the turns of a comprehension -/
def compS (p : D → Env → Option Env) (ft : FT S) (fe : FE S) (ρ : Env) : List D → S → Res S (List D)
  | [], s => .ok [] s
  | d :: r, s => match p d ρ with
    | none => .bad
    | some ρ1 => (match ft ρ1 s with
      | .ok k s1 => if k = true then (match fe ρ1 s1 with
          | .ok (.d y) s2 => (compS p ft fe ρ r s2).bnd fun ys s => .ok (y :: ys) s
          | _ => .bad) else compS p ft fe ρ r s1
      | _ => .bad)
def lComp (f : FL S) (vs : List Nat) (p : D → Env → Option Env) (ft : FT S) (fe : FE S) : FL S := fun ρ s => match wipeE vs ρ with
  | none => .bad
  | some ρ1 => (f ρ s).bnd fun ds s => compS p ft fe ρ1 ds s
theorem EnvOk.hide {W : Wd S} {ρ : Env} {σ : L2.St} {s : S} {H : Hp} {p : Addr} {o : HO} (E : EnvOk W ρ σ s H) (h : H p = none) : EnvOk (W.hide p o) ρ σ s (upd H p o) := by
  have n := E.new h
  have up : Same (Frz W ρ σ H) (Frz (W.hide p o) ρ σ (upd H p o)) := Fz_mono (fun b hb q => by
    rcases q with (q | q) | q
    · exact .inl q
    · exact absurd (by rw [q]; exact h) hb
    · exact .inr q) fun b o' _ q => by rw [upd_ne (ne_of_none q h)]; exact q
  refine ⟨E.len, ⟨W.ext _ _ _ E.at_ (Same.new h), upd_same⟩, fun i x q => ?_, E.raw, fun i xs q => ?_, E.sep⟩
  · obtain ⟨v, e1, r⟩ := E.dat i x q
    exact ⟨v, e1, r.up up⟩
  · obtain ⟨b, vs, e1, e2, e3, e4, e5, e6⟩ := E.mutl i xs q
    exact ⟨b, vs, e1, Same.new h _ _ e2, e3, e4.up up, (fun z => z.elim e5 fun z => by rw [z, h] at e2; cases e2), e6⟩
/-- what stands at the hidden address is changed -/
theorem EnvOk.rehide {W : Wd S} {ρ : Env} {σ : L2.St} {s : S} {H : Hp} {p : Addr} {o o' : HO} (E : EnvOk (W.hide p o) ρ σ s H) (n1 : ¬ W.hid p) (n2 : ¬ W.low p) : EnvOk (W.hide p o') ρ σ s (upd H p o') := by
  have up : Same (Frz (W.hide p o) ρ σ H) (Frz (W.hide p o') ρ σ (upd H p o')) := Fz_mono (fun _ _ q => q) fun b u hn q => by
    rw [upd_ne fun e => hn (.inl (.inr e))]
    exact q
  refine ⟨E.len, ⟨W.mutn _ _ _ _ E.at_.1 n1 n2, upd_same⟩, fun i x q => ?_, E.raw, fun i xs q => ?_, E.sep⟩
  · obtain ⟨v, e1, r⟩ := E.dat i x q
    exact ⟨v, e1, r.up up⟩
  · obtain ⟨b, vs, e1, e2, e3, e4, e5, e6⟩ := E.mutl i xs q
    exact ⟨b, vs, e1, by rw [upd_ne fun e => e5 (.inr e)]; exact e2, e3, e4.up up, e5, e6⟩
theorem comp_ok {wi : TI} {g : TG} {p : D → Env → Option Env} {ts vs : List Nat} {f : FL S} {tt : TT} {te : TE} {ft : FT S} {fe : FE S} (hi : DIt 𝒲 Wx wi f) (hg : GOk g p ts) (hkp : ∀ (d : D) (ρ ρ' : Env), p d ρ = some ρ' → ∀ j, j ∉ ts → ρ'[j]? = ρ[j]?) (hts : ∀ j ∈ ts, j ∈ vs) (ht : DT 𝒲 NoW tt ft) (he : DE 𝒲 NoW te fe) : DF 𝒲 Wx (tLc wi g tt te vs) (lComp f vs p ft fe) := fun W hW ρ σ s H Q E h => by
  unfold lComp at h
  cases hw : wipeE vs ρ with
  | none => rw [hw] at h; exact h.elim
  | some ρ1 =>
    rw [hw] at h
    refine hi W hW ρ σ s H _ E (h.bnd.imp fun ds s1 H1 a1 e1 q J y => ?_)
    obtain ⟨hlim, G0, Y, w, hG, hY⟩ := y
    have E1 := E.step a1 e1
    obtain ⟨Ew, ow⟩ := wipe_ok vs E1 hw
    intro Dl hD
    have nD := E1.new hD
    have up0 : ∀ o, Same (Frz W ρ σ H1) (Frz (W.hide Dl o) ρ1 (wipe σ vs) (upd H1 Dl o)) := fun o => Fz_mono (fun b hb z => by
      rcases z with (z | z) | z
      · exact .inl z
      · exact absurd (by rw [z]; exact hD) hb
      · exact .inr ((ow b).mp z)) fun b o _ z => by rw [upd_ne (ne_of_none z hD)]; exact z
    refine lc_it w (fun i H' => ∃ s' acc ads, EnvOk (W.hide Dl (.lst acc)) ρ1 (wipe σ vs) s' H' ∧ Stp W H1 H' ∧ acc.length ≤ i ∧ RpAll (Frz (W.hide Dl (.lst acc)) ρ1 (wipe σ vs) H') acc ads ∧ Same (Frz W ρ σ H1) (Frz (W.hide Dl (.lst acc)) ρ1 (wipe σ vs) H') ∧
      Post W Wx σ H1 ((compS p ft fe ρ1 (ds.drop i) s').bnd fun ys s => .ok (ads ++ ys) s) (fun ds _ H' => ∀ p vs, H p = none → H' p = some (.lst vs) → vs.length ≤ lim → RpAll (Fz (fun a => W.hid a ∨ Own ρ σ a ∨ a = p) H') vs ds → Q (.ref p) H'))
      ⟨s1, [], [], Ew.hide hD, Stp.of (Same.new hD), Nat.zero_le _, .nil, up0 _, ?_⟩ (fun i H' _ ⟨s', acc, ads, E', st', _, _, g', _⟩ => hG H' (Same.trans g' Fz_sub)) ?_ ?_
    · rw [List.drop_zero]
      cases hcs : compS p ft fe ρ1 ds s1 with
      | ok ys s2 => rw [hcs] at q; exact q
      | er c s2 => rw [hcs] at q; exact q
      | bad => rw [hcs] at q; exact q
    · rintro i x H' H2 hin ⟨s', acc, ads, E', st', hal, racc, g', q'⟩ yy
      have hW2 := 𝒲.hide W Dl (.lst acc) hW nD.1
      obtain ⟨sm, d, hd, rd⟩ := hY i H' x H2 hin yy _ E'.inH g'
      have E2 := E'.ext sm
      have e3 : ds.drop i = d :: ds.drop (i + 1) := by
        have hd' := List.getElem?_eq_some_iff.mp hd
        rw [List.drop_eq_getElem_cons hd'.1, hd'.2]
      rw [e3] at q'
      unfold compS at q'
      cases hp : p d ρ1 with
      | none => rw [hp] at q'; exact q'.elim
      | some ρ2 =>
        rw [hp] at q'
        dsimp only at q'
        refine hg (W.hide Dl (.lst acc)) ρ1 (wipe σ vs) s' H2 x d ρ2 _ E2 rd hp fun σ3 E3 g3 j3 l3 => ?_
        have ww : wipe σ3 vs = wipe σ vs := by
          have e4 := wipe_eq (vs := vs) l3 fun j hj => j3 j fun z => hj (hts j z)
          rw [e4]
          exact wipe_eq (wipe_length σ vs) fun j hj => wipe_get vs σ j hj
        refine ⟨ww, ht _ hW2 ρ2 σ3 s' H2 _ E3 ?_⟩
        -- the steps of the turn, seen from outside
        have stW : ∀ {H0 : Hp}, Stp (W.hide Dl (.lst acc)) H2 H0 → Stp W H1 H0 := fun {H0} t0 b o n1 z => t0 b o (fun k => k.elim n1 fun k => by rw [k, hD] at z; cases z) (sm b o (st' b o n1 z))
        have gW : ∀ {H0 : Hp}, Stp (W.hide Dl (.lst acc)) H2 H0 → Same (Frz (W.hide Dl (.lst acc)) ρ1 (wipe σ vs) H') (Frz (W.hide Dl (.lst acc)) ρ1 (wipe σ vs) H0) := fun {H0} t0 => Same.trans (Frz.stp (Stp.of sm)) (Frz.stp t0)
        cases hft : ft ρ2 s' with
        | bad => rw [hft] at q'; exact q'.elim
        | er c s2 => rw [hft] at q'; exact q'.elim
        | ok k s2 =>
          rw [hft] at q'
          intro H3 a3 st3
          cases k with
          | false =>
            simp only [Bool.false_eq_true, if_false] at q' ⊢
            exact ⟨s2, acc, ads, E2.step a3 st3, stW st3, Nat.le_succ_of_le hal, racc.up (gW st3), Same.trans g' (gW st3), q'⟩
          | true =>
            simp only [if_true] at q' ⊢
            refine he _ hW2 ρ2 σ3 s2 H3 _ (E3.step a3 st3) ?_
            cases hfe : fe ρ2 s2 with
            | bad => rw [hfe] at q'; exact q'.elim
            | er c s3 => rw [hfe] at q'; exact q'.elim
            | ok z s3 =>
              rw [hfe] at q'
              cases z with
              | v z => exact q'.elim
              | d z =>
                intro H4 a4 st4 v hv
                have st34 := st3.trans st4
                have E4 := E2.step a4 st34
                have hv : Rp _ v z := hv
                -- the item as data of the block
                have rv : Rp (Frz (W.hide Dl (.lst acc)) ρ1 (wipe σ vs) H4) v z := by
                  refine hv.up (Fz_mono (fun b _ k => ?_) fun _ _ _ k => k)
                  rcases k with k | ⟨j, xs, k1, k2⟩
                  · exact .inl k
                  · have nj : j ∉ ts := fun z => wipe_no vs hw j (hts j z) xs k1
                    exact .inr ⟨j, xs, (hkp d ρ1 ρ2 hp j nj).trans k1, (j3 j nj).trans k2⟩
                refine ⟨acc, a4.2, Nat.lt_of_lt_of_le (Nat.lt_of_le_of_lt hal (Nat.lt_of_lt_of_le hin hlim)) (by rw [sizeLine_eq]; decide), s3, acc ++ [v], ads ++ [z], E4.rehide nD.1 nD.2.1, fun b o n1 k => ?_, ?_, ?_, ?_, ?_⟩
                · have k1 := stW st34 b o n1 k
                  rw [upd_ne (ne_of_none k hD)]
                  exact k1
                · rw [List.length_append, List.length_singleton]; omega
                · have up4 : Same (Frz (W.hide Dl (.lst acc)) ρ1 (wipe σ vs) H4) (Frz (W.hide Dl (.lst (acc ++ [v]))) ρ1 (wipe σ vs) (upd H4 Dl (.lst (acc ++ [v])))) := Fz_mono (fun _ _ k => k) fun b u hn k => by
                    rw [upd_ne fun e => hn (.inl (.inr e))]
                    exact k
                  exact ((racc.up (gW st34)).append (.cons rv .nil)).up up4
                · refine Same.trans g' (Same.trans (gW st34) (Fz_mono (fun _ _ k => k) fun b u hn k => ?_))
                  rw [upd_ne fun e => hn (.inl (.inr e))]
                  exact k
                · dsimp only at q'
                  cases hcs : compS p ft fe ρ1 (ds.drop (i + 1)) s3 with
                  | ok ys s5 =>
                    rw [hcs] at q'
                    have q' : Post W Wx σ H1 (.ok (ads ++ z :: ys) s5) _ := q'
                    show Post W Wx σ H1 (.ok ((ads ++ [z]) ++ ys) s5) _
                    rw [List.append_assoc]
                    exact q'
                  | er c s5 => rw [hcs] at q'; exact q'
                  | bad => rw [hcs] at q'; exact q'
    · rintro H' ⟨s', acc, ads, E', st', hal, racc, g', q'⟩
      rw [List.drop_length] at q'
      have q' : Post W Wx σ H1 (.ok (ads ++ []) s') _ := q'
      rw [List.append_nil] at q'
      refine q' H' E'.at_.1 st' Dl acc (E.newBack a1 e1 hD) E'.at_.2 (Nat.le_trans hal hlim) (racc.up (Fz_mono (fun b _ k => ?_) fun _ _ _ k => k))
      rcases k with k | k | k
      · exact .inl (.inl k)
      · exact .inr ((ow b).mpr k)
      · exact .inl (.inr k)

/-- [elt for target in iter if ..] -/
theorem dxf_lc {elt tg iter : Expr} {ifs : List Expr} {scope : Scope} {own : List (Str × Nat)} {wi : TI} {g : TG} {p : D → Env → Option Env} {ts : List Nat} {f : FL S} {tt : TT} {te : TE} {ft : FT S} {fe : FE S} (hc : X.calm = true) (hN : X.N.Nodup) (hi : DXI X 𝒲 Wx tg iter wi f) (ok : BlkOk X.N X.env.scope scope own) (hts : ∀ j ∈ ts, j ∈ own.map (·.2))
    (hg : ∀ (s : Shared) (H : Hp) (C : Addr) (cl : List (Str × Addr)) (fp : List Addr), DXG (X.blk s H scope (compEnvC scope cl C X.env) fp) tg g p ts) (ht : ∀ (s : Shared) (H : Hp) (C : Addr) (cl : List (Str × Addr)) (fp : List Addr), PTs (X.blk s H scope (compEnvC scope cl C X.env) fp) ifs tt) (ht2 : DT 𝒲 NoW tt ft)
    (he : ∀ (s : Shared) (H : Hp) (C : Addr) (cl : List (Str × Addr)) (fp : List Addr), DX (X.blk s H scope (compEnvC scope cl C X.env) fp) 𝒲 NoW elt te fe) (hs : ∀ x, foldedSetIterable iter X.env x = pure x := by intro _; rfl) :
    DXF X 𝒲 Wx (.ListComp elt [⟨tg, iter, ifs, 0⟩] scope pos) (tLc wi g tt te (own.map (·.2))) (lComp f (own.map (·.2)) p ft fe) :=
  ⟨pe_lc hc hN hi.pi ok (fun s H C cl fp => (hg s H C cl fp).pg) ht (fun s H C cl fp => (he s H C cl fp).pe) hs,
   comp_ok hi.di (hg X.s_0 X.H_0 0 [] []).ok (hg X.s_0 X.H_0 0 [] []).kp hts ht2 (he X.s_0 X.H_0 0 [] []).de⟩
def fYes : FT S := fun _ s => .ok true s
theorem dt_yes : DT 𝒲 Wx tYes fYes := fun W hW ρ σ s H Q E h => h.ok E.at_
/-- without a test; what is made hangs on the block's own things by name only -/
theorem dxf_lc0 {elt tg iter : Expr} {scope : Scope} {own : List (Str × Nat)} {wi : TI} {g : Shared → Hp → Addr → List (Str × Addr) → List Addr → TG} {p : D → Env → Option Env} {ts : List Nat} {f : FL S} {te : Shared → Hp → Addr → List (Str × Addr) → List Addr → TE} {fe : FE S} (hc : X.calm = true) (hN : X.N.Nodup) (hi : DXI X 𝒲 Wx tg iter wi f) (ok : BlkOk X.N X.env.scope scope own)
    (hg : ∀ (s : Shared) (H : Hp) (C : Addr) (cl : List (Str × Addr)) (fp : List Addr), DXG (X.blk s H scope (compEnvC scope cl C X.env) fp) tg (g s H C cl fp) p ts)
    (he : ∀ (s : Shared) (H : Hp) (C : Addr) (cl : List (Str × Addr)) (fp : List Addr), DX (X.blk s H scope (compEnvC scope cl C X.env) fp) 𝒲 NoW elt (te s H C cl fp) fe)
    (hts : ∀ j ∈ ts, j ∈ own.map (·.2) := by decide) (hg0 : ∀ (s : Shared) (H : Hp) (C : Addr) (cl : List (Str × Addr)) (fp : List Addr), g s H C cl fp = g X.s_0 X.H_0 0 [] [] := by intros; rfl) (he0 : ∀ (s : Shared) (H : Hp) (C : Addr) (cl : List (Str × Addr)) (fp : List Addr), te s H C cl fp = te X.s_0 X.H_0 0 [] [] := by intros; rfl)
    (hs : ∀ x, foldedSetIterable iter X.env x = pure x := by intro _; rfl) :
    DXF X 𝒲 Wx (.ListComp elt [⟨tg, iter, [], 0⟩] scope pos) (tLc wi (g X.s_0 X.H_0 0 [] []) tYes (te X.s_0 X.H_0 0 [] []) (own.map (·.2))) (lComp f (own.map (·.2)) p fYes fe) :=
  dxf_lc hc hN hi ok hts (fun s H C cl fp => hg0 s H C cl fp ▸ hg s H C cl fp) (fun _ _ _ _ _ => pts_nil) dt_yes (fun s H C cl fp => he0 s H C cl fp ▸ he s H C cl fp) hs
/-- with one test -/
theorem dxf_lc1 {elt tg iter c : Expr} {scope : Scope} {own : List (Str × Nat)} {wi : TI} {g : Shared → Hp → Addr → List (Str × Addr) → List Addr → TG} {p : D → Env → Option Env} {ts : List Nat} {f : FL S} {tt : Shared → Hp → Addr → List (Str × Addr) → List Addr → TT} {te : Shared → Hp → Addr → List (Str × Addr) → List Addr → TE} {ft : FT S} {fe : FE S} (hc : X.calm = true) (hN : X.N.Nodup) (hi : DXI X 𝒲 Wx tg iter wi f) (ok : BlkOk X.N X.env.scope scope own)
    (hg : ∀ (s : Shared) (H : Hp) (C : Addr) (cl : List (Str × Addr)) (fp : List Addr), DXG (X.blk s H scope (compEnvC scope cl C X.env) fp) tg (g s H C cl fp) p ts) (ht : ∀ (s : Shared) (H : Hp) (C : Addr) (cl : List (Str × Addr)) (fp : List Addr), DXT (X.blk s H scope (compEnvC scope cl C X.env) fp) 𝒲 NoW c (tt s H C cl fp) ft)
    (he : ∀ (s : Shared) (H : Hp) (C : Addr) (cl : List (Str × Addr)) (fp : List Addr), DX (X.blk s H scope (compEnvC scope cl C X.env) fp) 𝒲 NoW elt (te s H C cl fp) fe)
    (hts : ∀ j ∈ ts, j ∈ own.map (·.2) := by decide) (hg0 : ∀ (s : Shared) (H : Hp) (C : Addr) (cl : List (Str × Addr)) (fp : List Addr), g s H C cl fp = g X.s_0 X.H_0 0 [] [] := by intros; rfl) (ht0 : ∀ (s : Shared) (H : Hp) (C : Addr) (cl : List (Str × Addr)) (fp : List Addr), tt s H C cl fp = tt X.s_0 X.H_0 0 [] [] := by intros; rfl)
    (he0 : ∀ (s : Shared) (H : Hp) (C : Addr) (cl : List (Str × Addr)) (fp : List Addr), te s H C cl fp = te X.s_0 X.H_0 0 [] [] := by intros; rfl) (hs : ∀ x, foldedSetIterable iter X.env x = pure x := by intro _; rfl) :
    DXF X 𝒲 Wx (.ListComp elt [⟨tg, iter, [c], 0⟩] scope pos) (tLc wi (g X.s_0 X.H_0 0 [] []) (tt X.s_0 X.H_0 0 [] []) (te X.s_0 X.H_0 0 [] []) (own.map (·.2))) (lComp f (own.map (·.2)) p ft fe) :=
  dxf_lc hc hN hi ok hts (fun s H C cl fp => hg0 s H C cl fp ▸ hg s H C cl fp) (fun s H C cl fp => pts_one (ht0 s H C cl fp ▸ (ht s H C cl fp)).pt) (ht X.s_0 X.H_0 0 [] []).dt (fun s H C cl fp => he0 s H C cl fp ▸ he s H C cl fp) hs
/-- name = [..] on one line -/
theorem setLc_ps {i : Nat} {y : Str} {py : Pos} {elt tg iter : Expr} {ifs : List Expr} {scope : Scope} {own : List (Str × Nat)} {spos : Pos} {wi : TI} {g : TG} {tt : TT} {te : TE} (hc : X.calm = true) (hN : X.N.Nodup) (hy : X.N[i]? = some y) (hyl : X.env.scope.names.lookup y = some .local)
    (hsw : swapsWith (.ListComp elt [⟨tg, iter, ifs, 0⟩] scope pos) (some (.Name y py)) spos.line X.env = pure true) (hi : PI X tg iter wi) (ok : BlkOk X.N X.env.scope scope own)
    (hg : ∀ (s : Shared) (H : Hp) (C : Addr) (cl : List (Str × Addr)) (fp : List Addr), PG (X.blk s H scope (compEnvC scope cl C X.env) fp) tg g) (ht : ∀ (s : Shared) (H : Hp) (C : Addr) (cl : List (Str × Addr)) (fp : List Addr), PTs (X.blk s H scope (compEnvC scope cl C X.env) fp) ifs tt)
    (he : ∀ (s : Shared) (H : Hp) (C : Addr) (cl : List (Str × Addr)) (fp : List Addr), PE (X.blk s H scope (compEnvC scope cl C X.env) fp) elt te) (hs : ∀ x, foldedSetIterable iter X.env x = pure x) :
    PS X (.Assign [.Name y py] (.ListComp elt [⟨tg, iter, ifs, 0⟩] scope pos) spos) (tAsg (tLc wi g tt te (own.map (·.2))) (gName i)) := ps_setLc hc hN hy hyl hsw hi ok hg ht he hs
end
end DL

namespace DL
open PySem PySem.Spec PyProof.Rows L2

/-! ### defs of data -/
/-- the wish of the kit's layer for a wish by class numbers -/
def WR (cl : Nat → Addr) (Wx : Wsh) : WX := fun cls d σ H => ∃ c, cls = .ref (cl c) ∧ d = none ∧ Wx c σ H
theorem takesN {X : Cx} {cl : Nat → Addr} : Takes X (WR cl NoW) := fun _ _ x => by
  obtain ⟨_, _, _, _, _, _, _, _, _, _, _, _, _, _, _, _, c, _, _, z⟩ := x
  exact z.elim
def spD (cl : Nat → Addr) (n : Nat) (sem : List D → Res Unit D) : Sp := fun vs H Q E => vs.length = n ∧ ∃ (M0 : Addr → Prop) (ds : List D), InH M0 H ∧ RpAll (Fz M0 H) vs ds ∧ (match sem ds with
  | .ok d _ => ∀ v H', Same H H' → Rp (Fz M0 H') v d → Q v H'
  | .er c _ => ∀ H', Same H H' → E (.ref (cl c)) none H'
  | .bad => False)
def pureW (M0 : Addr → Prop) (H0 : Hp) (h : InH M0 H0) : Wd Unit where
  hid := M0
  low := fun p => H0 p ≠ none
  at_ := fun _ H => Same H0 H
  ext := fun _ _ _ a b => a.trans b
  mutn := fun _ H p o a _ l => Same.mut a (by
    cases z : H0 p with
    | none => rfl
    | some o => exact absurd (by rw [z]; simp) l)
  hidIn := fun _ H p a m => (h.up a) p m
  lowIn := fun _ H p a l => by
    cases z : H0 p with
    | none => exact absurd z l
    | some o => rw [a p o z]; simp
def allF : Fam Unit := ⟨fun _ => True, fun _ _ _ _ _ => trivial⟩
/-- what a def makes of its arguments -/
def fnSem (m : Nat) (F : FS Unit) (ds : List D) : Res Unit D := match F (ds.map .d ++ List.replicate m .no) () with
  | .rt (.d d) s => .ok d s
  | .nx _ s => .ok .none s
  | .er c _ s => .er c s
  | _ => .bad
theorem start_env {W : Wd Unit} {N : List Str} {vs : List V} {ds : List D} {H : Hp} (hW : W.at_ () H) (r : RpAll (Fz W.hid H) vs ds) : EnvOk W (ds.map .d ++ List.replicate (N.length - vs.length) .no) (L2.start N vs) () H := by
  have hl := r.len
  have no : ∀ b, ¬ Own (ds.map Sl.d ++ List.replicate (N.length - vs.length) Sl.no) (L2.start N vs) b := fun b ⟨i, xs, h1, _⟩ => by
    by_cases hi : i < (ds.map Sl.d).length
    · rw [List.getElem?_append_left hi, List.getElem?_map] at h1
      cases z : ds[i]? with
      | none => rw [z] at h1; cases h1
      | some x => rw [z] at h1; cases h1
    · rw [List.getElem?_append_right (by omega), List.getElem?_replicate] at h1
      split at h1 <;> cases h1
  have up : Same (Fz W.hid H) (Frz W (ds.map .d ++ List.replicate (N.length - vs.length) .no) (L2.start N vs) H) := Fz_mono (fun b _ q => q.elim id fun z => absurd z (no b)) fun _ _ _ q => q
  refine ⟨?_, hW, fun i x h => ?_, fun i x h => ?_, fun i xs h => ?_, fun i j xs ys a h1 _ _ _ => ?_⟩
  · unfold L2.start
    simp [hl]
  · by_cases hi : i < (ds.map Sl.d).length
    · rw [List.getElem?_append_left hi, List.getElem?_map] at h
      cases z : ds[i]? with
      | none => rw [z] at h; cases h
      | some y =>
        rw [z] at h
        have e : y = x := by simpa using h
        subst e
        obtain ⟨v, h1, h2⟩ := r.get z
        refine ⟨v, ?_, h2.up up⟩
        unfold L2.start
        rw [List.getElem?_append_left (by rw [List.length_map]; simpa [hl] using hi), List.getElem?_map, h1]
        rfl
    · rw [List.getElem?_append_right (by omega), List.getElem?_replicate] at h
      split at h <;> cases h
  · by_cases hi : i < (ds.map Sl.d).length
    · rw [List.getElem?_append_left hi, List.getElem?_map] at h
      cases z : ds[i]? with
      | none => rw [z] at h; cases h
      | some y => rw [z] at h; cases h
    · rw [List.getElem?_append_right (by omega), List.getElem?_replicate] at h
      split at h <;> cases h
  · by_cases hi : i < (ds.map Sl.d).length
    · rw [List.getElem?_append_left hi, List.getElem?_map] at h
      cases z : ds[i]? with
      | none => rw [z] at h; cases h
      | some y => rw [z] at h; cases h
    · rw [List.getElem?_append_right (by omega), List.getElem?_replicate] at h
      split at h <;> cases h
  · by_cases hi : i < (ds.map Sl.d).length
    · rw [List.getElem?_append_left hi, List.getElem?_map] at h1
      cases z : ds[i]? with
      | none => rw [z] at h1; cases h1
      | some y => rw [z] at h1; cases h1
    · rw [List.getElem?_append_right (by omega), List.getElem?_replicate] at h1
      split at h1 <;> cases h1
/-- the wish of a def's own context -/
def WE1 (cl : Nat → Addr) (E : XK) : Wsh := fun c _ H => E (.ref (cl c)) none H
theorem takesE {X : Cx} {cl : Nat → Addr} {E : XK} (h : Takes X (fun cls d _ H => E cls d H)) : Takes X (WR cl (WE1 cl E)) := h.imp fun cls d σ H ⟨c, e1, e2, w⟩ => by
  subst e1 e2
  exact w
section
variable {P : Program} {w : World} {K : PySem.W.Frag} {mg : Str → Option Value} {base : Heap} {cl : Nat → Addr}
theorem fn_pure {x qual : Str} {st : Stmt} {f : Addr} {fd : FuncData} {N ps : List Str} {k m : Nat} {F : FS Unit} (Fn : Fun K x qual st f fd) (Sc : FnScope N ps (defScope st)) (hm : N.length = ps.length + m)
    (body : ∀ (cdv : Value) (A : Around) (outer : List PySem.Env) (s : Shared) (H : Hp) (E : XK), Room k (A.deeper (envOfC qual (defScope st) s.heap.objs.size f cdv)) →
      ∃ t, DXSs (cxOf (L2.CX P w) P w K mg base N qual (defScope st) f cdv A outer s H E) allF (WE1 cl E) (defBody st) t F) :
    FnOk P w K mg base (L2.CX P w) (k + 1) f fd ps (spD cl ps.length (fnSem m F)) := by
  refine Fn.okX Sc (fun vs H Q E h => h.1) fun cdv A outer s H vs Q E hr h => ?_
  obtain ⟨t, hb⟩ := body cdv A outer s H E hr
  obtain ⟨hl, M0, ds, hM, r, hs⟩ := h
  refine ⟨t, hb.ps, ?_⟩
  have hm' : m = N.length - vs.length := by omega
  refine hb.ds (pureW M0 H hM) trivial _ _ () H _ (start_env (W := pureW M0 H hM) (N := N) (Same.refl H) r) ?_
  unfold fnSem at hs
  rw [hm'] at hs
  cases hF : F (ds.map .d ++ List.replicate (N.length - vs.length) .no) () with
  | nx ρ' s' => rw [hF] at hs; exact fun σ' H' e g => hs _ _ e.at_ .non
  | rt d s' =>
    rw [hF] at hs
    cases d with
    | d d => exact fun v H' a i => hs v H' a i
    | v d => exact hs.elim
  | er c ρ' s' => rw [hF] at hs; exact fun σ' H' e g => hs H' e.at_
  | bk ρ' s' => rw [hF] at hs; exact hs.elim
  | ct ρ' s' => rw [hF] at hs; exact hs.elim
  | bad => rw [hF] at hs; exact hs.elim
end
/-- a def called -/
def eFn {S : Type} (n : Nat) (sem : List D → Res Unit D) (g : FA S) : FE S := fun ρ s => (g ρ s).bnd fun xs s => match datas xs with
  | some ds => if ds.length = n then (match sem ds with
      | .ok d _ => .ok (.d d) s
      | .er c _ => .er c s
      | .bad => .bad) else .bad
  | none => .bad
section
variable {S : Type} {X : Cx} {𝒲 : Fam S} {Wx : Wsh} {e : Expr} {es : List Expr} {t : TA} {g : FA S} {pos : Pos} {cl : Nat → Addr}
theorem IsAll.len {F : Hp} : ∀ {vs : List V} {ds : List Dv}, IsAll F vs ds → vs.length = ds.length
  | _, _, .nil => rfl
  | _, _, .cons _ h => by simp [IsAll.len h]
theorem dx_fn {k n : Nat} {f : Addr} {fd : FuncData} {ps : List Str} {sem : List D → Res Unit D} {x : Str} {p : Pos} (Fo : FnOk X.prog X.w X.K X.mg X.base (L2.CX X.prog X.w) k f fd ps (spD cl n sem)) (hr : Room k X.A) (hm : X.mg x = some (.ref f)) (hk : PySem.W.keepIn X.K (.ref f) = true) (hb : Binds X.K fd ps [])
    (tk : Takes X (WR cl Wx)) (ha : DXA X 𝒲 Wx (e :: es) t g) (hg : Gl X x := by rfl) (hdb : (x == ("__debug__" : Str)) = false := by decide) (he : starEach (e :: es) X.env = (false, eval e X.env) :: starEach es X.env := by rfl) (hpl : (backTo pos (starEach es X.env)).any (·.1) = false := by rfl) :
    DX X 𝒲 Wx (.Call (.Name x p) (e :: es) [] pos) (tCallS (spD cl n sem) (WE (WR cl Wx)) t) (eFn n sem g) := by
  refine ⟨pe_callS Fo hr hg hm hk hb (fun σ => passAt tk σ) ha.pa hdb he hpl, fun W hW ρ σ s H Q E h => ?_⟩
  refine ha.da W hW ρ σ s H _ E (h.bnd.imp fun xs s1 H1 a1 e1 q v hv => ?_)
  have E1 := E.step a1 e1
  cases hd : datas xs with
  | none => rw [hd] at q; exact q.elim
  | some ds =>
    rw [hd] at q
    have r := datas_rp hv hd
    dsimp only at q
    split at q
    · rename_i hn
      refine ⟨by rw [r.len]; exact hn, _, ds, E1.inH, r, ?_⟩
      cases hs : sem ds with
      | ok d _ =>
        rw [hs] at q
        exact fun v' H' sm rv => q H' (W.ext _ _ _ a1 sm) (Stp.of sm) v' rv
      | er c _ =>
        rw [hs] at q
        exact fun H' sm => ⟨c, rfl, rfl, q H' (W.ext _ _ _ a1 sm) (Stp.of sm)⟩
      | bad => rw [hs] at q; exact q.elim
    · exact q.elim
/-- raise X('..') -/
def sRaise (c : Nat) : FS S := fun ρ s => .er c ρ s
theorem ds_raise (c : Nat) {x m : Str} {j : Nat} {p p2 pos' : Pos} {bmB : List Value} {B newId initId : String} (hc : X.calm = true) (tk : Takes X (WR cl Wx)) (F : ExcBaseFacts B newId initId bmB) (q : PySem.W.excIn X.K (cl c) bmB newId = true) (gC : X.mg x = some (.ref (cl c))) (kC : PySem.W.keepIn X.K (.ref (cl c)) = true)
    (r : Raises X (.ref (cl c))) (hg : Gl X x := by rfl) (hdb : (x == ("__debug__" : Str)) = false := by decide) :
    DXS X 𝒲 Wx (.Raise (some (.Call (.Name x p) [.Constant (.str m) j p2] [] pos')) none pos) (fun _ σ H => WR cl Wx (.ref (cl c)) none σ H) (sRaise c) :=
  ⟨ps_raise hc tk (pmk_own F q gC kC r hg hdb), fun W hW ρ σ s H D E h => ⟨c, rfl, rfl, h σ H E Grow.refl⟩⟩
end
end DL

namespace DL
open PySem PySem.Spec PyProof.Rows L2
section
variable {S : Type} {X : Cx} {𝒲 : Fam S} {Wx : Wsh} {e a b : Expr} {ta tb tc : TE} {fa fb fc : FE S} {pos : Pos} {t u : TS} {F G : FS S}

/-! ### constants of the module -/
def GC (mg : Str → Option Value) (x : Str) (v : V) : Prop := ∃ u, mg x = some u ∧ RelV v u
theorem dx_globI {x : Str} {i : Int} (h : GC X.mg x (.int i)) (hg : Gl X x := by rfl) (hd : (x == ("__debug__" : Str)) = false := by decide) : DX X 𝒲 Wx (.Name x pos) (tC (.int i)) (eC (.int i)) := let ⟨_, hm, r⟩ := h; ⟨pe_glob hg hm r hd, de_c fun _ => .int i⟩
theorem dx_globS {x y : Str} (h : GC X.mg x (.str y)) (hy : y.length ≤ lim ∧ PyData.strOk y = true := by decide +kernel) (hg : Gl X x := by rfl) (hd : (x == ("__debug__" : Str)) = false := by decide) : DX X 𝒲 Wx (.Name x pos) (tC (.str y)) (eC (.str y)) := let ⟨_, hm, r⟩ := h; ⟨pe_glob hg hm r hd, de_c fun _ => .str y hy.1 hy.2⟩

/-! ### isinstance -/
def tyD : D → String
  | .none => "NoneType"
  | .bool _ => "bool"
  | .int _ => "int"
  | .str _ => "str"
  | .list _ => "list"
  | .tuple _ => "tuple"
  | .dict _ => "dict"
structure Isi (ty : String) (f : D → Bool) : Prop where
  kit : ∀ d, kitB (tyD d) ty = some (f d)
def isInt : D → Bool
  | .int _ | .bool _ => true
  | _ => false
def isBool : D → Bool
  | .bool _ => true
  | _ => false
def isStr : D → Bool
  | .str _ => true
  | _ => false
def isList : D → Bool
  | .list _ => true
  | _ => false
def isTuple : D → Bool
  | .tuple _ => true
  | _ => false
theorem isi_int : Isi "int" isInt := ⟨fun d => by cases d <;> first | exact (by decide +kernel : kitB "NoneType" "int" = some false) | exact (by decide +kernel : kitB "bool" "int" = some true) | exact (by decide +kernel : kitB "int" "int" = some true) | exact (by decide +kernel : kitB "str" "int" = some false) | exact (by decide +kernel : kitB "list" "int" = some false) | exact (by decide +kernel : kitB "tuple" "int" = some false) | exact (by decide +kernel : kitB "dict" "int" = some false)⟩
theorem isi_bool : Isi "bool" isBool := ⟨fun d => by cases d <;> first | exact (by decide +kernel : kitB "NoneType" "bool" = some false) | exact (by decide +kernel : kitB "bool" "bool" = some true) | exact (by decide +kernel : kitB "int" "bool" = some false) | exact (by decide +kernel : kitB "str" "bool" = some false) | exact (by decide +kernel : kitB "list" "bool" = some false) | exact (by decide +kernel : kitB "tuple" "bool" = some false) | exact (by decide +kernel : kitB "dict" "bool" = some false)⟩
theorem isi_str : Isi "str" isStr := ⟨fun d => by cases d <;> first | exact (by decide +kernel : kitB "NoneType" "str" = some false) | exact (by decide +kernel : kitB "bool" "str" = some false) | exact (by decide +kernel : kitB "int" "str" = some false) | exact (by decide +kernel : kitB "str" "str" = some true) | exact (by decide +kernel : kitB "list" "str" = some false) | exact (by decide +kernel : kitB "tuple" "str" = some false) | exact (by decide +kernel : kitB "dict" "str" = some false)⟩
theorem isi_list : Isi "list" isList := ⟨fun d => by cases d <;> first | exact (by decide +kernel : kitB "NoneType" "list" = some false) | exact (by decide +kernel : kitB "bool" "list" = some false) | exact (by decide +kernel : kitB "int" "list" = some false) | exact (by decide +kernel : kitB "str" "list" = some false) | exact (by decide +kernel : kitB "list" "list" = some true) | exact (by decide +kernel : kitB "tuple" "list" = some false) | exact (by decide +kernel : kitB "dict" "list" = some false)⟩
theorem isi_tuple : Isi "tuple" isTuple := ⟨fun d => by cases d <;> first | exact (by decide +kernel : kitB "NoneType" "tuple" = some false) | exact (by decide +kernel : kitB "bool" "tuple" = some false) | exact (by decide +kernel : kitB "int" "tuple" = some false) | exact (by decide +kernel : kitB "str" "tuple" = some false) | exact (by decide +kernel : kitB "list" "tuple" = some false) | exact (by decide +kernel : kitB "tuple" "tuple" = some true) | exact (by decide +kernel : kitB "dict" "tuple" = some false)⟩
theorem rp_ty {K : PySem.W.Frag} {F H : Hp} {v : V} {d : D} (h : Rp F v d) (e : Same F H) : TyOf K H v (.type (tyD d)) := by
  cases h with
  | non => exact .non
  | bl b => exact .bl b
  | int i => exact .int i
  | str x _ _ => exact .str x
  | lst a _ _ => exact .lst (e _ _ a)
  | tup a _ _ => exact .tup (e _ _ a)
def eIsi (f : D → Bool) (fa : FE S) : FE S := fun ρ s => (fa ρ s).bnd fun x s => match x with
  | .d x => .ok (.d (.bool (f x))) s
  | .v _ => .bad
theorem dx_isi {ty : String} {f : D → Bool} (hi : Isi ty f) {y : Str} {p p2 : Pos} (hm : X.mg "isinstance" = none) (hm2 : X.mg y = none) (ha : DX X 𝒲 Wx a ta fa) (hv2 : bootBuiltins y = some (.type ty) := by decide +kernel) (hg : Gl X "isinstance" := by rfl) (hg2 : Gl X y := by rfl)
    (hn2 : y ≠ "__name__" := by decide) (hd2 : (y == ("__debug__" : Str)) = false := by decide) (he : starEach [a, .Name y p2] X.env = (false, eval a X.env) :: starEach [.Name y p2] X.env := by rfl) (hpl : (backTo pos (starEach [.Name y p2] X.env)).any (·.1) = false := by rfl)
    (hs2 : starEach [.Name y p2] X.env = (false, eval (.Name y p2) X.env) :: starEach [] X.env := by rfl) :
    DX X 𝒲 Wx (.Call (.Name "isinstance" p) [a, .Name y p2] [] pos) (tCB (rIsi X.K) (tCons ta (tCons (tC (.ty ty)) tNil))) (eIsi f fa) := by
  refine ⟨pe_callB call_isi hg hm PyProof.Rows.boot_isinstance (pa_cons ha.pe (pa_cons (pe_bltn hg2 hm2 hv2 rfl hn2 hd2) pa_nil hs2) he) (by decide) (by decide) he hpl, fun W hW ρ σ s H Q E h => ?_⟩
  refine ha.de W hW ρ σ s H _ E (h.bnd.imp fun x s1 H1 a1 e1 q v hv => ?_)
  cases x with
  | v x => exact q.elim
  | d d => exact ⟨v, .ty ty, .type (tyD d), .type ty, f d, rfl, .ty ty, .base (rp_ty hv Fz_sub), kit_ty (hi.kit d), q.ok a1 _ (Rp.bl _)⟩

/-! ### sorted(set(xs)) -/
theorem dx_sortSet {p p2 pos2 : Pos} {t : TA} {g : FA S} (hc : X.calm = true) (hm : X.mg "sorted" = none) (hm2 : X.mg "set" = none) (ha : DXA X 𝒲 Wx [a] t g) (hg : Gl X "sorted" := by rfl) (hg2 : Gl X "set" := by rfl)
    (he : starEach [.Call (.Name "set" p2) [a] [] pos2] X.env = (false, eval (.Call (.Name "set" p2) [a] [] pos2) X.env) :: starEach [] X.env := by rfl) (he2 : starEach [a] X.env = (false, eval a X.env) :: starEach [] X.env := by rfl)
    (hpl : (backTo pos (starEach [] X.env)).any (·.1) = false := by rfl) (hpl2 : (backTo pos2 (starEach [] X.env)).any (·.1) = false := by rfl) :
    DX X 𝒲 Wx (.Call (.Name "sorted" p) [.Call (.Name "set" p2) [a] [] pos2] [] pos) (tCB (rSortedSet X.w) (tCons (tCB (rSetL X.K X.w) t) tNil)) (eCall sortSetD g) := by
  refine ⟨pe_callB (cr_sortedSet hc) hg hm PyProof.Rows.boot_sorted (pa_cons (pe_callTy (cr_setL hc) hg2 hm2 PyProof.Rows.boot_set ha.pa (by decide) (by decide) he2 hpl2) pa_nil he) (by decide) (by decide) he hpl, fun W hW ρ σ s H Q E hp => ?_⟩
  refine ha.da W hW ρ σ s H _ E (hp.bnd.imp fun x s1 H1 a1 e1 q v hv => ?_)
  cases hd : datas x with
  | none => rw [hd] at q; exact q.elim
  | some ds =>
    rw [hd] at q
    have q : Post W Wx σ H1 (lift (sortSetD ds) s1) _ := q
    cases hz : sortSetD ds with
    | none => rw [hz] at q; exact q.elim
    | some z =>
      rw [hz] at q
      exact sa_sortSet (K := X.K) (w := X.w) _ H1 v ds z Q (E.step a1 e1).inH (datas_rp hv hd) hz fun w H3 e3 hw => q H3 (W.ext _ _ _ a1 e3) (Stp.of e3) w hw

/-! ### name = [..] on one line -/
theorem de_new {t : TE} {f : FL S} (h : DF 𝒲 Wx t f) : DE 𝒲 Wx t (eNew f) := by
  intro W hW ρ σ s H Q E hp
  refine h W hW ρ σ s H _ E (hp.bnd.imp fun ds s1 H1 a1 e1 q p vs h0 h1 hl r => ?_)
  have n := E.new h0
  exact q.ok a1 _ (.lst (Fz_at (fun z => z.elim n.1 n.2.2) h1) hl (r.up frz_hide))
section
variable {tg iter elt c : Expr} {scope : Scope} {own : List (Str × Nat)} {wi : TI} {g : Shared → Hp → Addr → List (Str × Addr) → List Addr → TG} {p : D → Env → Option Env} {ts : List Nat} {f : FL S} {te : Shared → Hp → Addr → List (Str × Addr) → List Addr → TE} {fe : FE S} {tt : Shared → Hp → Addr → List (Str × Addr) → List Addr → TT} {ft : FT S} {y : Str} {py spos : Pos}
theorem ds_setLc0 (i : Nat) (hc : X.calm = true) (hN : X.N.Nodup) (hi : DXI X 𝒲 Wx tg iter wi f) (ok : BlkOk X.N X.env.scope scope own)
    (hg : ∀ (s : Shared) (H : Hp) (C : Addr) (cl : List (Str × Addr)) (fp : List Addr), DXG (X.blk s H scope (compEnvC scope cl C X.env) fp) tg (g s H C cl fp) p ts)
    (he : ∀ (s : Shared) (H : Hp) (C : Addr) (cl : List (Str × Addr)) (fp : List Addr), DX (X.blk s H scope (compEnvC scope cl C X.env) fp) 𝒲 NoW elt (te s H C cl fp) fe)
    (hts : ∀ j ∈ ts, j ∈ own.map (·.2) := by decide) (hg0 : ∀ (s : Shared) (H : Hp) (C : Addr) (cl : List (Str × Addr)) (fp : List Addr), g s H C cl fp = g X.s_0 X.H_0 0 [] [] := by intros; rfl) (he0 : ∀ (s : Shared) (H : Hp) (C : Addr) (cl : List (Str × Addr)) (fp : List Addr), te s H C cl fp = te X.s_0 X.H_0 0 [] [] := by intros; rfl)
    (hy : X.N[i]? = some y := by rfl) (hyl : X.env.scope.names.lookup y = some .local := by rfl) (hsw : swapsWith (.ListComp elt [⟨tg, iter, [], 0⟩] scope pos) (some (.Name y py)) spos.line X.env = pure true := by exact sw_true rfl rfl rfl (by decide +kernel))
    (hs : ∀ x, foldedSetIterable iter X.env x = pure x := by intro _; rfl) :
    DXS X 𝒲 Wx (.Assign [.Name y py] (.ListComp elt [⟨tg, iter, [], 0⟩] scope pos) spos) (tAsg (tLc wi (g X.s_0 X.H_0 0 [] []) tYes (te X.s_0 X.H_0 0 [] []) (own.map (·.2))) (gName i)) (sSet i (eNew (lComp f (own.map (·.2)) p fYes fe))) :=
  ⟨setLc_ps hc hN hy hyl hsw hi.pi ok (fun s H C cl fp => (hg0 s H C cl fp ▸ hg s H C cl fp).pg) (fun _ _ _ _ _ => pts_nil) (fun s H C cl fp => (he0 s H C cl fp ▸ he s H C cl fp).pe) hs,
   set_ok (de_new (comp_ok hi.di (hg X.s_0 X.H_0 0 [] []).ok (hg X.s_0 X.H_0 0 [] []).kp hts dt_yes (he X.s_0 X.H_0 0 [] []).de))⟩
theorem ds_setLc1 (i : Nat) (hc : X.calm = true) (hN : X.N.Nodup) (hi : DXI X 𝒲 Wx tg iter wi f) (ok : BlkOk X.N X.env.scope scope own)
    (hg : ∀ (s : Shared) (H : Hp) (C : Addr) (cl : List (Str × Addr)) (fp : List Addr), DXG (X.blk s H scope (compEnvC scope cl C X.env) fp) tg (g s H C cl fp) p ts)
    (ht : ∀ (s : Shared) (H : Hp) (C : Addr) (cl : List (Str × Addr)) (fp : List Addr), DXT (X.blk s H scope (compEnvC scope cl C X.env) fp) 𝒲 NoW c (tt s H C cl fp) ft)
    (he : ∀ (s : Shared) (H : Hp) (C : Addr) (cl : List (Str × Addr)) (fp : List Addr), DX (X.blk s H scope (compEnvC scope cl C X.env) fp) 𝒲 NoW elt (te s H C cl fp) fe)
    (hts : ∀ j ∈ ts, j ∈ own.map (·.2) := by decide) (hg0 : ∀ (s : Shared) (H : Hp) (C : Addr) (cl : List (Str × Addr)) (fp : List Addr), g s H C cl fp = g X.s_0 X.H_0 0 [] [] := by intros; rfl) (ht0 : ∀ (s : Shared) (H : Hp) (C : Addr) (cl : List (Str × Addr)) (fp : List Addr), tt s H C cl fp = tt X.s_0 X.H_0 0 [] [] := by intros; rfl) (he0 : ∀ (s : Shared) (H : Hp) (C : Addr) (cl : List (Str × Addr)) (fp : List Addr), te s H C cl fp = te X.s_0 X.H_0 0 [] [] := by intros; rfl)
    (hy : X.N[i]? = some y := by rfl) (hyl : X.env.scope.names.lookup y = some .local := by rfl) (hsw : swapsWith (.ListComp elt [⟨tg, iter, [c], 0⟩] scope pos) (some (.Name y py)) spos.line X.env = pure true := by exact sw_true rfl rfl rfl (by decide +kernel))
    (hs : ∀ x, foldedSetIterable iter X.env x = pure x := by intro _; rfl) :
    DXS X 𝒲 Wx (.Assign [.Name y py] (.ListComp elt [⟨tg, iter, [c], 0⟩] scope pos) spos) (tAsg (tLc wi (g X.s_0 X.H_0 0 [] []) (tt X.s_0 X.H_0 0 [] []) (te X.s_0 X.H_0 0 [] []) (own.map (·.2))) (gName i)) (sSet i (eNew (lComp f (own.map (·.2)) p ft fe))) :=
  ⟨setLc_ps hc hN hy hyl hsw hi.pi ok (fun s H C cl fp => (hg0 s H C cl fp ▸ hg s H C cl fp).pg) (fun s H C cl fp => pts_one (ht0 s H C cl fp ▸ ht s H C cl fp).pt) (fun s H C cl fp => (he0 s H C cl fp ▸ he s H C cl fp).pe) hs,
   set_ok (de_new (comp_ok hi.di (hg X.s_0 X.H_0 0 [] []).ok (hg X.s_0 X.H_0 0 [] []).kp hts (ht X.s_0 X.H_0 0 [] []).dt (he X.s_0 X.H_0 0 [] []).de))⟩
end

/-! ### xs.append(e) of an own list -/
theorem ds_appM (i : Nat) {x : Str} {p apos cpos : Pos} (ho : PE X (.Name x p) (tVar i)) (ha : DX X 𝒲 Wx a ta fa) (hbase : attributeBase (.Name x p) "append" X.env (eval (.Name x p) X.env) = eval (.Name x p) X.env := by rfl)
    (hfew : ((backTo cpos (starEach [a] X.env)).all (fun x => !x.1) && (backToKw cpos (keywordEach [] X.env)).all (fun x => x.1.isSome)
      && decide ([a].length + ([] : List Keyword).length + (if ([] : List Keyword).isEmpty then 0 else 1) < 30)) = true := by rfl)
    (hline : (apos.endLine == cpos.line) = true := by rfl) (hs : starEach [a] X.env = (false, eval a X.env) :: starEach [] X.env := by rfl) (hplain : (backTo cpos (starEach [] X.env)).any (·.1) = false := by rfl)
    (hsw : swapsWith (.Call (.Attribute (.Name x p) "append" apos) [a] [] cpos) none pos.line X.env = pure false := by rfl) :
    DXS X 𝒲 Wx (.Expr (.Call (.Attribute (.Name x p) "append" apos) [a] [] cpos) pos) (tDrop (tBM X.K "list" rAppend (tVar i) (tCons ta tNil))) (sApp i fa) :=
  ⟨ps_expr (pe_bm PySem.F.plainAttrs_list PySem.F.slot_list_append PySem.F.type_list_append mt_append ho (pa_cons ha.pe pa_nil hs) hbase hfew hline hs hplain) hsw, app_ds ha.de⟩

/-! ### xs.count(x) -/
def rCountD (K : PySem.W.Frag) : V → List V → Hp → VK → Prop := fun x xs H Q => ∃ (a : Addr) (y : V) (d : PyData) (ds : List PyData), x = V.ref a ∧ xs = [y] ∧ Dp K H (V.ref a) (.list ds) ∧ Dp K H y d ∧ PyData.canLayAll0 ds = true ∧ d.canLay0 = true ∧ d.depth ≤ 64 ∧
  Q (.int ((ds.countP fun z => PyData.eqv z d : Nat) : Int)) H
theorem mt_countD (hu : X.A.units + 65 < cLine) : MtR X "list.count" (rCountD X.K) := by
  intro pins s σ H x xs v us Q I rx rxs h
  obtain ⟨a, y, d, ds, rfl, rfl, hl, hy, hxs, sd, hdep, q⟩ := h
  cases rx
  cases rxs with
  | cons ry rt =>
    rename_i uy ut
    cases rt
    obtain ⟨bs, r1⟩ := Dp.reads I d y uy hy ry
    have hroom : X.A.units + 1 + min (PyData.depthAll ds) d.depth < cLine := by omega
    cases hl with
    | lst hs ha =>
      obtain ⟨its, rv, ⟨⟨cls, dd, data, sls⟩, n, ho, hc, hdn, hdt⟩, hlen⟩ := I.list hs
      simp only at hc hdt
      subst hc hdt
      obtain ⟨as, h4⟩ := Dp.readsAll I ds _ its ha rv
      have hmap : its.map (SeqAt.readOf s.heap) = ds := SeqAt.readsAll_map ds its as hxs h4
      refine call_meets PySem.F.slot_list_count ⟨_, ho, rfl⟩ PySem.F.entry_list_count (PySem.F.args_list_count_2 _ _)
        (SeqAt.list_countAt a its.toArray n dd sls uy (fun u => PyData.eqv (SeqAt.readOf s.heap u) d)) ⟨ho, SeqAt.items_eqAt (vs := its.toArray) (show ReadsAll s.heap its.toArray.toList ds as from h4) r1 hxs sd hroom, ?_⟩
      have ec : its.toArray.toList.countP (fun u => PyData.eqv (SeqAt.readOf s.heap u) d) = ds.countP fun z => PyData.eqv z d := by
        rw [← hmap, List.countP_map]
        rfl
      refine ⟨.int ((ds.countP fun z => PyData.eqv z d : Nat) : Int), H, I.tok _, ⟨s.toks, ?_⟩, q⟩
      show Value.int ((its.toArray.toList.countP (fun u => PyData.eqv (SeqAt.readOf s.heap u) d) : Nat) : Int) s.toks = _
      rw [ec]
/-- o.m(x) of a list o -/
def eBmL (op : List D → D → Option D) (fo fa : FE S) : FE S := fun ρ s => (fo ρ s).bnd fun x s => match x with
  | .d (.list ds) => (fa ρ s).bnd fun y s => (match y with
    | .d y => lift (op ds y) s
    | .v _ => .bad)
  | _ => .bad
def countD (ds : List D) (y : D) : Option D := if y.depth ≤ 64 then some (.int ((ds.countP fun z => PyData.eqv z y : Nat) : Int)) else none
theorem dx_count {o : Expr} {to : TE} {fo : FE S} {apos cpos : Pos} (hu : X.A.units + 65 < cLine) (ho : DX X 𝒲 Wx o to fo) (ha : DX X 𝒲 Wx a ta fa) (hbase : attributeBase o "count" X.env (eval o X.env) = eval o X.env := by rfl)
    (hfew : ((backTo cpos (starEach [a] X.env)).all (fun x => !x.1) && (backToKw cpos (keywordEach [] X.env)).all (fun x => x.1.isSome)
      && decide ([a].length + ([] : List Keyword).length + (if ([] : List Keyword).isEmpty then 0 else 1) < 30)) = true := by rfl)
    (hline : (apos.endLine == cpos.line) = true := by rfl) (hs : starEach [a] X.env = (false, eval a X.env) :: starEach [] X.env := by rfl) (hplain : (backTo cpos (starEach [] X.env)).any (·.1) = false := by rfl) :
    DX X 𝒲 Wx (.Call (.Attribute o "count" apos) [a] [] cpos) (tBM X.K "list" (rCountD X.K) to (tCons ta tNil)) (eBmL countD fo fa) := by
  refine ⟨pe_bm PySem.F.plainAttrs_list PySem.F.slot_list_count PySem.F.type_list_count (mt_countD hu) ho.pe (pa_cons ha.pe pa_nil hs) hbase hfew hline hs hplain, fun W hW ρ σ s H Q E h => ?_⟩
  refine ho.de W hW ρ σ s H _ E (h.bnd.imp fun x s1 H1 a1 e1 q v hv => ?_)
  have E1 := E.step a1 e1
  split at q
  · rename_i ds
    have hv : Rp _ v (.list ds) := hv
    cases hv with
    | lst h1 l1 r1 =>
      refine ⟨.inl ⟨rfl, _, SqL.of (Fz_sub _ _ h1)⟩, ?_⟩
      refine ha.de W hW ρ σ s1 H1 _ E1 (q.bnd.imp fun y s2 H2 a2 e2 q2 u hu => ?_)
      cases y with
      | v y => exact q2.elim
      | d y =>
        have q2 : Post W Wx σ H2 (lift (countD ds y) s2) _ := q2
        cases hz : countD ds y with
        | none => rw [hz] at q2; exact q2.elim
        | some z =>
          rw [hz] at q2
          obtain ⟨hdep, rfl⟩ := ite_some hz
          have hu : Rp _ u y := hu
          have r2 := r1.up (Frz.stp e2)
          exact ⟨_, u, y, ds, rfl, rfl, .lst (SqL.of (Fz_sub _ _ (Frz.stp e2 _ _ h1))) (r2.up Fz_sub).dp, (hu.up Fz_sub).dp, r2.lay, hu.lay, hdep, q2.ok a2 _ (Rp.int _)⟩
  · exact q.elim

/-! ### list(range(..)), tuple(range(..)) -/
def rgOk (a b : Int) : Bool := decide (-(2 ^ 62) ≤ a) && decide (a < 2 ^ 62) && decide (-(2 ^ 62) ≤ b) && decide (b < 2 ^ 62) && decide ((b - a).toNat ≤ lim)
theorem rgOk_is {a b : Int} (h : rgOk a b = true) : RgOk a b ∧ (b - a).toNat ≤ lim := by
  unfold rgOk at h
  simp only [Bool.and_eq_true, decide_eq_true_eq] at h
  obtain ⟨⟨⟨⟨h1, h2⟩, h3⟩, h4⟩, h5⟩ := h
  unfold lim at h5 ⊢
  exact ⟨⟨h1, h2, h3, h4, by omega⟩, h5⟩
theorem rgV_rp {F : Hp} (a b : Int) : RpAll F (rgV a b) (rngL a (b - a).toNat) := by
  have e1 : rgV a b = ((List.range (b - a).toNat).map fun i : Nat => a + (i : Int)).map V.int := by unfold rgV; rw [List.map_map]; rfl
  have e2 : rngL a (b - a).toNat = ((List.range (b - a).toNat).map fun i : Nat => a + (i : Int)).map PyData.int := by unfold rngL; rw [List.map_map]; rfl
  rw [e1, e2]
  exact ints_rp _
/-- an expression that makes a range, what it makes -/
structure DXR (X : Cx) (𝒲 : Fam S) (Wx : Wsh) (e : Expr) (t : L2.St → Hp → (Int → Int → Hp → Prop) → Prop) (f : Env → S → Res S (Int × Int)) : Prop where
  pr : PRg X e t
  dr : ∀ W, 𝒲.ok W → ∀ ρ σ s H (Q : Int → Int → Hp → Prop), EnvOk W ρ σ s H → Post W Wx σ H (f ρ s) (fun p _ H' => Q p.1 p.2 H') → t σ H Q
def rRg1 (fa : FE S) : Env → S → Res S (Int × Int) := fun ρ s => (fa ρ s).bnd fun x s => match x with
  | .d (.int n) => .ok (0, n) s
  | _ => .bad
def rRg2 (fa fb : FE S) : Env → S → Res S (Int × Int) := fun ρ s => (fa ρ s).bnd fun x s => (fb ρ s).bnd fun y s => match x, y with
  | .d (.int i), .d (.int j) => .ok (i, j) s
  | _, _ => .bad
theorem dr_1 {p : Pos} (hm : X.mg "range" = none) (ha : DX X 𝒲 Wx a ta fa) (hg : Gl X "range" := by rfl) (na : starEach [a] X.env = (false, eval a X.env) :: starEach [] X.env := by rfl) : DXR X 𝒲 Wx (.Call (.Name "range" p) [a] [] pos) (tRg1 ta) (rRg1 fa) := by
  refine ⟨prg_1 hg hm ha.pe na, fun W hW ρ σ s H Q E h => ?_⟩
  refine ha.de W hW ρ σ s H _ E (h.bnd.imp fun x s1 H1 a1 e1 q v hv => ?_)
  split at q
  · rename_i n
    cases (show Rp _ v (.int n) from hv)
    exact ⟨n, rfl, q.ok a1⟩
  · exact q.elim
theorem dr_2 {p : Pos} (hm : X.mg "range" = none) (ha : DX X 𝒲 Wx a ta fa) (hb : DX X 𝒲 Wx b tb fb) (hg : Gl X "range" := by rfl) (na : starEach [a, b] X.env = (false, eval a X.env) :: starEach [b] X.env := by rfl)
    (nb : starEach [b] X.env = (false, eval b X.env) :: starEach [] X.env := by rfl) (hp : (backTo pos (starEach [b] X.env)).any (·.1) = false := by rfl) : DXR X 𝒲 Wx (.Call (.Name "range" p) [a, b] [] pos) (tRg2 ta tb) (rRg2 fa fb) := by
  refine ⟨prg_2 hg hm ha.pe hb.pe na nb hp, fun W hW ρ σ s H Q E h => ?_⟩
  refine ha.de W hW ρ σ s H _ E (h.bnd.imp fun x s1 H1 a1 e1 q v hv => ?_)
  refine hb.de W hW ρ σ s1 H1 _ (E.step a1 e1) (q.bnd.imp fun y s2 H2 a2 e2 q2 u hu => ?_)
  split at q2
  · rename_i i j
    cases (show Rp _ v (.int i) from hv)
    cases (show Rp _ u (.int j) from hu)
    exact ⟨i, j, rfl, rfl, q2.ok a2⟩
  · exact q2.elim
def lRange (f : Env → S → Res S (Int × Int)) : FL S := fun ρ s => (f ρ s).bnd fun p s => if rgOk p.1 p.2 = true then .ok (rngL p.1 (p.2 - p.1).toNat) s else .bad
theorem dxf_listRg {p : Pos} {e : Expr} {t : L2.St → Hp → (Int → Int → Hp → Prop) → Prop} {f : Env → S → Res S (Int × Int)} (hc : X.calm = true) (hm : X.mg "list" = none) (h : DXR X 𝒲 Wx e t f) (hg : Gl X "list" := by rfl) (na : starEach [e] X.env = (false, eval e X.env) :: starEach [] X.env := by rfl) :
    DXF X 𝒲 Wx (.Call (.Name "list" p) [e] [] pos) (tLstRg t) (lRange f) := by
  refine ⟨pe_listRg hc hg hm h.pr na, fun W hW ρ σ s H Q E hp => ?_⟩
  refine h.dr W hW ρ σ s H _ E (hp.bnd.imp fun x s1 H1 a1 e1 q => ?_)
  split at q
  · rename_i hr
    obtain ⟨h1, h2⟩ := rgOk_is hr
    exact ⟨h1, fun p hn => q _ (W.ext _ _ _ a1 (Same.new hn)) (Stp.of (Same.new hn)) p _ (E.newBack a1 e1 hn) upd_same (by unfold rgV; rw [List.length_map, List.length_range]; exact h2) (rgV_rp _ _)⟩
  · exact q.elim
def eTupRg (f : Env → S → Res S (Int × Int)) : FE S := fun ρ s => (f ρ s).bnd fun p s => if rgOk p.1 p.2 = true then .ok (.d (.tuple (rngL p.1 (p.2 - p.1).toNat))) s else .bad
theorem dx_tupRg {p : Pos} {e : Expr} {t : L2.St → Hp → (Int → Int → Hp → Prop) → Prop} {f : Env → S → Res S (Int × Int)} (hc : X.calm = true) (hm : X.mg "tuple" = none) (h : DXR X 𝒲 Wx e t f) (hg : Gl X "tuple" := by rfl) (na : starEach [e] X.env = (false, eval e X.env) :: starEach [] X.env := by rfl) :
    DX X 𝒲 Wx (.Call (.Name "tuple" p) [e] [] pos) (tTupRg t) (eTupRg f) := by
  refine ⟨pe_tupRg hc hg hm h.pr na, fun W hW ρ σ s H Q E hp => ?_⟩
  refine h.dr W hW ρ σ s H _ E (hp.bnd.imp fun x s1 H1 a1 e1 q => ?_)
  split at q
  · rename_i hr
    obtain ⟨h1, h2⟩ := rgOk_is hr
    exact ⟨h1, fun p hn => q _ (W.ext _ _ _ a1 (Same.new hn)) (Stp.of (Same.new hn)) _ (rp_tup (E.step a1 e1).inH hn (by unfold rgV; rw [List.length_map, List.length_range]; exact h2) (rgV_rp _ _))⟩
  · exact q.elim
end
end DL

namespace DL
open PySem PySem.Spec PyProof.Rows L2
/-! ### the drawn numbers: a list [numbers, count] at a, its numbers at b -/
structure DSt where
  a : Addr
  b : Addr
  nums : List Int
  cnt : Int
structure Dr (s : DSt) (H : Hp) : Prop where
  ha : H s.a = some (.lst [.ref s.b, .int s.cnt])
  hb : H s.b = some (.lst (s.nums.map V.int))
  ne : s.a ≠ s.b
theorem Dr.up {s : DSt} {H H' : Hp} (h : Dr s H) (e : Same H H') : Dr s H' := ⟨e _ _ h.ha, e _ _ h.hb, h.ne⟩
/-- all else is kept -/
def Kept2 (a b : Addr) (H H' : Hp) : Prop := ∀ (c : Addr) (o : HO), c ≠ a → c ≠ b → H c = some o → H' c = some o
def drawOk (W : Wd DSt) : Prop := (∀ s H, W.at_ s H → W.hid s.a ∧ W.hid s.b ∧ Dr s H) ∧ ∀ s s' H H', W.at_ s H → s'.a = s.a → s'.b = s.b → Dr s' H' → Kept2 s.a s.b H H' → W.at_ s' H'
theorem drawOk_hide (W : Wd DSt) (p : Addr) (o : HO) (h : drawOk W) (n : ¬ W.hid p) : drawOk (W.hide p o) :=
  ⟨fun s H a => ⟨.inl (h.1 s H a.1).1, .inl (h.1 s H a.1).2.1, (h.1 s H a.1).2.2⟩, fun s s' H H' a e1 e2 d k =>
    ⟨h.2 s s' H H' a.1 e1 e2 d k, k p o (fun z => n (by rw [z]; exact (h.1 s H a.1).1)) (fun z => n (by rw [z]; exact (h.1 s H a.1).2.1)) a.2⟩⟩
def drawFam : Fam DSt := ⟨drawOk, drawOk_hide⟩
/-- the promise of a def whose first argument is the drawn numbers -/
def spS (cl : Nat → Addr) (n : Nat) (sem : List D → DSt → Res DSt D) : Sp := fun vs H Q E => vs.length = n ∧ ∃ (M0 : Addr → Prop) (s : DSt) (ws : List V) (ds : List D), vs = .ref s.a :: ws ∧ InH M0 H ∧ M0 s.a ∧ M0 s.b ∧ Dr s H ∧ RpAll (Fz M0 H) ws ds ∧
  (match sem ds s with
  | .ok d s' => s'.a = s.a ∧ s'.b = s.b ∧ ∀ v H', Dr s' H' → Kept2 s.a s.b H H' → Rp (Fz M0 H') v d → Q v H'
  | .er c s' => s'.a = s.a ∧ s'.b = s.b ∧ ∀ H', Dr s' H' → Kept2 s.a s.b H H' → E (.ref (cl c)) none H'
  | .bad => False)
theorem Kept2.in {a b : Addr} {H H' : Hp} (k : Kept2 a b H H') (h1 : H' a ≠ none) (h2 : H' b ≠ none) {p : Addr} (h : H p ≠ none) : H' p ≠ none := by
  by_cases e1 : p = a
  · rw [e1]; exact h1
  · by_cases e2 : p = b
    · rw [e2]; exact h2
    · cases z : H p with
      | none => exact absurd z h
      | some o => rw [k p o e1 e2 z]; simp
def drawW (M0 : Addr → Prop) (s0 : DSt) (H0 : Hp) (hM : InH M0 H0) (ha : M0 s0.a) (hb : M0 s0.b) : Wd DSt where
  hid := M0
  low := fun p => H0 p ≠ none
  at_ := fun s H => s.a = s0.a ∧ s.b = s0.b ∧ Dr s H ∧ Kept2 s0.a s0.b H0 H
  ext := fun s H H' h e => ⟨h.1, h.2.1, h.2.2.1.up e, fun c o n1 n2 q => e _ _ (h.2.2.2 c o n1 n2 q)⟩
  mutn := fun s H p o h nh nl => by
    have n1 : s.a ≠ p := fun z => nh (by rw [← z, h.1]; exact ha)
    have n2 : s.b ≠ p := fun z => nh (by rw [← z, h.2.1]; exact hb)
    refine ⟨h.1, h.2.1, ⟨by rw [upd_ne n1]; exact h.2.2.1.ha, by rw [upd_ne n2]; exact h.2.2.1.hb, h.2.2.1.ne⟩, fun c o' m1 m2 q => ?_⟩
    have n3 : c ≠ p := fun z => nl (by rw [← z, q]; simp)
    rw [upd_ne n3]
    exact h.2.2.2 c o' m1 m2 q
  hidIn := fun s H p h m => h.2.2.2.in (by rw [← h.1, h.2.2.1.ha]; simp) (by rw [← h.2.1, h.2.2.1.hb]; simp) (hM p m)
  lowIn := fun s H p h m => h.2.2.2.in (by rw [← h.1, h.2.2.1.ha]; simp) (by rw [← h.2.1, h.2.2.1.hb]; simp) m
theorem drawW_ok {M0 : Addr → Prop} {s0 : DSt} {H0 : Hp} {hM : InH M0 H0} {ha : M0 s0.a} {hb : M0 s0.b} : drawFam.ok (drawW M0 s0 H0 hM ha hb) :=
  ⟨fun s H h => ⟨by show M0 s.a; rw [h.1]; exact ha, by show M0 s.b; rw [h.2.1]; exact hb, h.2.2.1⟩, fun s s' H H' h e1 e2 d k => ⟨e1.trans h.1, e2.trans h.2.1, d, fun c o n1 n2 q => k c o (by rw [h.1]; exact n1) (by rw [h.2.1]; exact n2) (h.2.2.2 c o n1 n2 q)⟩⟩
/-- what such a def makes -/
def semS (m : Nat) (F : FS DSt) (ds : List D) (s : DSt) : Res DSt D := match F (.v (.ref s.a) :: (ds.map .d ++ List.replicate m .no)) s with
  | .rt (.d d) s => if True then .ok d s else .bad
  | .nx _ s => .ok .none s
  | .er c _ s => .er c s
  | _ => .bad
/-- slots that hold no own lists -/
theorem env_of {S : Type} {W : Wd S} {ρ : Env} {σ : L2.St} {s : S} {H : Hp} (hl : ρ.length = σ.length) (hW : W.at_ s H) (nm : ∀ (i : Nat) (xs : List D), ρ[i]? ≠ some (.m xs)) (hd : ∀ (i : Nat) (x : D), ρ[i]? = some (.d x) → ∃ v, σ[i]? = some (some v) ∧ Rp (Fz W.hid H) v x)
    (hv : ∀ (i : Nat) (x : V), ρ[i]? = some (.v x) → σ[i]? = some (some x)) : EnvOk W ρ σ s H := by
  have no : ∀ b, ¬ Own ρ σ b := fun b ⟨i, xs, h1, _⟩ => nm i xs h1
  have up : Same (Fz W.hid H) (Frz W ρ σ H) := Fz_mono (fun b _ q => q.elim id fun z => absurd z (no b)) fun _ _ _ q => q
  exact ⟨hl, hW, fun i x h => let ⟨v, h1, h2⟩ := hd i x h; ⟨v, h1, h2.up up⟩, hv, fun i xs h => absurd h (nm i xs), fun i j xs ys a h1 _ _ _ => absurd h1 (nm i xs)⟩
theorem start_envS {W : Wd DSt} {N : List Str} {vs : List V} {ds : List D} {H : Hp} {s : DSt} {a : Addr} (hW : W.at_ s H) (r : RpAll (Fz W.hid H) vs ds) (hn : vs.length + 1 ≤ N.length) : EnvOk W (.v (.ref a) :: (ds.map .d ++ List.replicate (N.length - (vs.length + 1)) .no)) (L2.start N (.ref a :: vs)) s H := by
  have hl := r.len
  have e0 : L2.start N (.ref a :: vs) = some (.ref a) :: (vs.map some ++ List.replicate (N.length - (vs.length + 1)) none) := by
    unfold L2.start
    simp
  rw [e0]
  refine env_of (by simp [hl]) hW ?_ ?_ ?_
  · intro i xs h
    cases i with
    | zero => cases h
    | succ i =>
      rw [List.getElem?_cons_succ] at h
      by_cases hi : i < (ds.map Sl.d).length
      · rw [List.getElem?_append_left hi, List.getElem?_map] at h
        cases z : ds[i]? with
        | none => rw [z] at h; cases h
        | some y => rw [z] at h; cases h
      · rw [List.getElem?_append_right (by omega), List.getElem?_replicate] at h
        split at h <;> cases h
  · intro i x h
    cases i with
    | zero => cases h
    | succ i =>
      rw [List.getElem?_cons_succ] at h ⊢
      by_cases hi : i < (ds.map Sl.d).length
      · rw [List.getElem?_append_left hi, List.getElem?_map] at h
        cases z : ds[i]? with
        | none => rw [z] at h; cases h
        | some y =>
          rw [z] at h
          have e : y = x := by simpa using h
          subst e
          obtain ⟨v, h1, h2⟩ := r.get z
          refine ⟨v, ?_, h2⟩
          rw [List.getElem?_append_left (by rw [List.length_map]; simpa [hl] using hi), List.getElem?_map, h1]
          rfl
      · rw [List.getElem?_append_right (by omega), List.getElem?_replicate] at h
        split at h <;> cases h
  · intro i x h
    cases i with
    | zero => cases h; rfl
    | succ i =>
      rw [List.getElem?_cons_succ] at h
      by_cases hi : i < (ds.map Sl.d).length
      · rw [List.getElem?_append_left hi, List.getElem?_map] at h
        cases z : ds[i]? with
        | none => rw [z] at h; cases h
        | some y => rw [z] at h; cases h
      · rw [List.getElem?_append_right (by omega), List.getElem?_replicate] at h
        split at h <;> cases h
section
variable {P : Program} {w : World} {K : PySem.W.Frag} {mg : Str → Option Value} {base : Heap} {cl : Nat → Addr}
theorem fn_draw {x qual : Str} {st : Stmt} {f : Addr} {fd : FuncData} {N ps : List Str} {k m : Nat} {F : FS DSt} (Fn : Fun K x qual st f fd) (Sc : FnScope N ps (defScope st)) (hm : N.length = ps.length + m)
    (body : ∀ (cdv : Value) (A : Around) (outer : List PySem.Env) (s : Shared) (H : Hp) (E : XK), Room k (A.deeper (envOfC qual (defScope st) s.heap.objs.size f cdv)) →
      ∃ t, DXSs (cxOf (L2.CX P w) P w K mg base N qual (defScope st) f cdv A outer s H E) drawFam (WE1 cl E) (defBody st) t F) :
    FnOk P w K mg base (L2.CX P w) (k + 1) f fd ps (spS cl ps.length (semS m F)) := by
  refine Fn.okX Sc (fun vs H Q E h => h.1) fun cdv A outer s H vs Q E hr h => ?_
  obtain ⟨t, hb⟩ := body cdv A outer s H E hr
  obtain ⟨hl, M0, s0, ws, ds, rfl, hM, ha, hb', hD, r, hs⟩ := h
  refine ⟨t, hb.ps, ?_⟩
  have hlen : ws.length + 1 = ps.length := by simpa using hl
  have hm' : m = N.length - (ws.length + 1) := by omega
  refine hb.ds (drawW M0 s0 H hM ha hb') drawW_ok _ _ s0 H _ (start_envS (W := drawW M0 s0 H hM ha hb') (N := N) ⟨rfl, rfl, hD, fun _ _ _ _ q => q⟩ r (by omega)) ?_
  unfold semS at hs
  rw [hm'] at hs
  cases hF : F (.v (.ref s0.a) :: (ds.map .d ++ List.replicate (N.length - (ws.length + 1)) .no)) s0 with
  | nx ρ' s' => rw [hF] at hs; exact fun σ' H' e g => hs.2.2 _ _ e.at_.2.2.1 e.at_.2.2.2 .non
  | rt d s' =>
    rw [hF] at hs
    cases d with
    | d d => exact fun v H' a i => hs.2.2 v H' a.2.2.1 a.2.2.2 i
    | v d => exact hs.elim
  | er c ρ' s' => rw [hF] at hs; exact fun σ' H' e g => hs.2.2 H' e.at_.2.2.1 e.at_.2.2.2
  | bk ρ' s' => rw [hF] at hs; exact hs.elim
  | ct ρ' s' => rw [hF] at hs; exact hs.elim
  | bad => rw [hF] at hs; exact hs.elim
end
/-- such a def called -/
def eFnS (n : Nat) (sem : List D → DSt → Res DSt D) (g : FA DSt) : FE DSt := fun ρ s => (g ρ s).bnd fun xs s => match xs with
  | .v (.ref p) :: r => (match datas r with
    | some ds => if p = s.a ∧ ds.length + 1 = n then (match sem ds s with
      | .ok d s' => if s'.a = s.a ∧ s'.b = s.b then .ok (.d d) s' else .bad
      | .er c s' => if s'.a = s.a ∧ s'.b = s.b then .er c s' else .bad
      | .bad => .bad) else .bad
    | none => .bad)
  | _ => .bad
section
variable {X : Cx} {Wx : Wsh} {e : Expr} {es : List Expr} {t : TA} {g : FA DSt} {pos : Pos} {cl : Nat → Addr}
theorem dx_fnS {k n : Nat} {f : Addr} {fd : FuncData} {ps : List Str} {sem : List D → DSt → Res DSt D} {x : Str} {p : Pos} (Fo : FnOk X.prog X.w X.K X.mg X.base (L2.CX X.prog X.w) k f fd ps (spS cl n sem)) (hr : Room k X.A) (hm : X.mg x = some (.ref f)) (hk : PySem.W.keepIn X.K (.ref f) = true) (hb : Binds X.K fd ps [])
    (tk : Takes X (WR cl Wx)) (ha : DXA X drawFam Wx (e :: es) t g) (hg : Gl X x := by rfl) (hdb : (x == ("__debug__" : Str)) = false := by decide) (he : starEach (e :: es) X.env = (false, eval e X.env) :: starEach es X.env := by rfl) (hpl : (backTo pos (starEach es X.env)).any (·.1) = false := by rfl) :
    DX X drawFam Wx (.Call (.Name x p) (e :: es) [] pos) (tCallS (spS cl n sem) (WE (WR cl Wx)) t) (eFnS n sem g) := by
  refine ⟨pe_callS Fo hr hg hm hk hb (fun σ => passAt tk σ) ha.pa hdb he hpl, fun W hW ρ σ s H Q E h => ?_⟩
  refine ha.da W hW ρ σ s H _ E (h.bnd.imp fun xs s1 H1 a1 e1 q v hv => ?_)
  have E1 := E.step a1 e1
  split at q
  · rename_i p' r
    cases hv with
    | cons h0 hr' =>
      cases (show _ = V.ref p' from h0)
      cases hd : datas r with
      | none => rw [hd] at q; exact q.elim
      | some ds =>
        rw [hd] at q
        have rr := datas_rp hr' hd
        dsimp only at q
        split at q
        · rename_i hn
          obtain ⟨rfl, hn⟩ := hn
          obtain ⟨w1, w2, w3⟩ := hW.1 s1 H1 a1
          refine ⟨by rw [List.length_cons, rr.len]; exact hn, _, s1, _, ds, rfl, E1.inH, .inl w1, .inl w2, w3, rr, ?_⟩
          have st : ∀ H', Kept2 s1.a s1.b H1 H' → Stp W H1 H' := fun H' k c o nh q => k c o (fun z => nh (by rw [z]; exact w1)) (fun z => nh (by rw [z]; exact w2)) q
          cases hs : sem ds s1 with
          | ok d s' =>
            rw [hs] at q
            dsimp only at q ⊢
            split at q
            · rename_i hab
              exact ⟨hab.1, hab.2, fun v' H' d' k' rv => q H' (hW.2 s1 s' H1 H' a1 hab.1 hab.2 d' k') (st H' k') v' rv⟩
            · exact q.elim
          | er c s' =>
            rw [hs] at q
            dsimp only at q ⊢
            split at q
            · rename_i hab
              exact ⟨hab.1, hab.2, fun H' d' k' => ⟨c, rfl, rfl, q H' (hW.2 s1 s' H1 H' a1 hab.1 hab.2 d' k') (st H' k')⟩⟩
            · exact q.elim
          | bad => rw [hs] at q; exact q.elim
        · exact q.elim
  · exact q.elim
end
/-! ### the draw itself -/
def drawSem : List D → DSt → Res DSt D
  | [.int k], s => if 0 < k ∧ k < 1073741824 ∧ s.nums ≠ [] then
      (if 1000000000000000000 ≤ s.nums.getD ((s.cnt + 1) % s.nums.length).toNat 0 then
        .ok (.int (s.nums.getD ((s.cnt + 1) % s.nums.length).toNat 0 % k)) ⟨s.a, s.b, s.nums.set ((s.cnt + 1) % s.nums.length).toNat (s.nums.getD ((s.cnt + 1) % s.nums.length).toNat 0 / k), s.cnt + 1⟩
      else .ok (.int (((((s.nums.getD ((s.cnt + 1) % s.nums.length).toNat 0 + 104729 * (s.cnt + 1)) % 4294967291) ^ 5 % 4294967279 / 64 * 69621 + ((s.nums.getD ((s.cnt + 1) % s.nums.length).toNat 0 + 104729 * (s.cnt + 1)) % 4294967291) ^ 5 % 4294967279) % 4294967231 / 8) % k)) ⟨s.a, s.b, s.nums, s.cnt + 1⟩)
      else .bad
  | _, _ => .bad
/-- the state later -/
structure Nx (s s' : DSt) : Prop where
  a : s'.a = s.a
  b : s'.b = s.b
  ne : s'.nums ≠ []
theorem Nx.trans {s s' s'' : DSt} (h : Nx s s') (k : Nx s' s'') : Nx s s'' := ⟨k.a.trans h.a, k.b.trans h.b, k.ne⟩
theorem draw_ok {k : Int} {s : DSt} (h0 : 0 < k) (h1 : k < 1073741824) (hn : s.nums ≠ []) : ∃ r s', drawSem [.int k] s = .ok (.int r) s' ∧ 0 ≤ r ∧ r < k ∧ Nx s s' := by
  have hk : k ≠ 0 := by omega
  unfold drawSem
  dsimp only
  rw [if_pos ⟨h0, h1, hn⟩]
  split
  · refine ⟨_, _, rfl, Int.emod_nonneg _ hk, Int.emod_lt_of_pos _ h0, rfl, rfl, fun z => hn ?_⟩
    have z2 := congrArg List.length z
    rw [List.length_set] at z2
    exact List.length_eq_zero_iff.mp z2
  · exact ⟨_, _, rfl, Int.emod_nonneg _ hk, Int.emod_lt_of_pos _ h0, rfl, rfl, hn⟩
/-- its text as it reads -/
def tDraw (K : PySem.W.Frag) : TS := tSeq (tAsg (tOp (rIxL K) (tVar 0) (tC (.int 0))) (gName 2))
  (tSeq (tAsg (tOp (rI0 fun i j => .int (i + j)) (tOp (rIxL K) (tVar 0) (tC (.int 1))) (tC (.int 1))) (gSub (tVar 0) (tC (.int 1)) L2.rSetL))
  (tSeq (tAsg (tOp (rI (fun _ j => 0 < j) fun i j => .int (i % j)) (tOp (rIxL K) (tVar 0) (tC (.int 1))) (tCB (rLenE K) (tCons (tVar 2) tNil))) (gName 3))
  (tSeq (tAsg (tOp (rIxL K) (tVar 2) (tVar 3)) (gName 4))
  (tSeq (tIfS (tTest (tOp (rI0 fun i j => .bl (decide (j ≤ i))) (tVar 4) (tC (.int 1000000000000000000)))) (tSeq (tAsg (tOp (rI CDiv fun i j => .int (i / j)) (tVar 4) (tVar 1)) (gSub (tVar 2) (tVar 3) L2.rSetL)) (tRet (tOp (rI (fun _ j => 0 < j) fun i j => .int (i % j)) (tVar 4) (tVar 1)))) tNext)
  (tSeq (tAsg (tOp (rI (fun _ j => 0 < j) fun i j => .int (i % j)) (tOp (rI0 fun i j => .int (i + j)) (tVar 4) (tOp (rI CMul fun i j => .int (i * j)) (tC (.int 104729)) (tOp (rIxL K) (tVar 0) (tC (.int 1))))) (tC (.int 4294967291))) (gName 5))
  (tSeq (tAsg (tOp (rI (fun _ j => 0 < j) fun i j => .int (i % j)) (tOp (rI CPow fun i j => .int (i ^ j.toNat)) (tVar 5) (tC (.int 5))) (tC (.int 4294967279))) (gName 5))
  (tRet (tOp (rI (fun _ j => 0 < j) fun i j => .int (i % j)) (tOp (rI CDiv fun i j => .int (i / j)) (tOp (rI (fun _ j => 0 < j) fun i j => .int (i % j)) (tOp (rI0 fun i j => .int (i + j)) (tOp (rI CMul fun i j => .int (i * j)) (tOp (rI CDiv fun i j => .int (i / j)) (tVar 5) (tC (.int 64))) (tC (.int 69621))) (tVar 5)) (tC (.int 4294967231))) (tC (.int 8))) (tVar 1)))))))))
theorem drawSem_is {ds : List D} {s : DSt} (h : drawSem ds s ≠ .bad) : ∃ k, ds = [.int k] ∧ 0 < k ∧ k < 1073741824 ∧ s.nums ≠ [] := by
  unfold drawSem at h
  split at h
  · rename_i k
    by_cases hc : 0 < k ∧ k < 1073741824 ∧ s.nums ≠ []
    · exact ⟨k, rfl, hc⟩
    · rw [if_neg hc] at h; exact absurd rfl h
  · exact absurd rfl h
theorem set_int {ns : List Int} (j : Nat) (z : Int) : (ns.map V.int).set j (.int z) = (ns.set j z).map V.int := by rw [List.map_set]
theorem draw_t {K : PySem.W.Frag} {H : Hp} {s : DSt} {ds : List D} {v : V} {M0 : Addr → Prop} {D : Ends} (hD : Dr s H) (ha : M0 s.a) (hb : M0 s.b) (r : RpAll (Fz M0 H) [v] ds)
    (hs : match drawSem ds s with
      | .ok d s' => s'.a = s.a ∧ s'.b = s.b ∧ ∀ v H', Dr s' H' → Kept2 s.a s.b H H' → Rp (Fz M0 H') v d → D.rt v H'
      | .er c s' => True
      | .bad => False) : tDraw K D [some (.ref s.a), some v, none, none, none, none] H := by
  obtain ⟨k, rfl, k0, k1, hn⟩ := drawSem_is (ds := ds) (s := s) fun z => by rw [z] at hs; exact hs
  obtain ⟨v', e, r0⟩ := rp1 r
  cases e
  cases (show Rp _ v (.int k) from r0)
  unfold drawSem at hs
  dsimp only at hs
  rw [if_pos ⟨k0, k1, hn⟩] at hs
  have ln : (s.nums.map V.int).length = s.nums.length := List.length_map _
  have l0 : 0 < s.nums.length := List.length_pos_iff.mpr hn
  have h0 := Int.emod_nonneg (s.cnt + 1) (show ((s.nums.length : Nat) : Int) ≠ 0 by omega)
  have h1 := Int.emod_lt_of_pos (s.cnt + 1) (show (0 : Int) < ((s.nums.length : Nat) : Int) by omega)
  have hat : ((s.cnt + 1) % (s.nums.length : Int)).toNat < s.nums.length := by omega
  have eix : ixN s.nums.length ((s.cnt + 1) % (s.nums.length : Int)) = some ((s.cnt + 1) % (s.nums.length : Int)).toNat := by
    unfold ixN
    rw [if_pos h0, if_pos h1]
  generalize ej : ((s.cnt + 1) % (s.nums.length : Int)).toNat = j at hs hat eix
  generalize ez : s.nums.getD j 0 = z at hs
  have eget : (s.nums.map V.int)[j]? = some (.int z) := by
    rw [List.getElem?_map, List.getElem?_eq_getElem hat]
    rw [List.getD_eq_getElem?_getD, List.getElem?_eq_getElem hat] at ez
    have ez : s.nums[j] = z := ez
    rw [ez]
    rfl
  have eat : atI (s.nums.map V.int) ((s.cnt + 1) % (s.nums.length : Int)) = some (.int z) := by
    unfold atI
    rw [ln, eix]
    exact eget
  have hna := hD.ne
  have hA1 : (upd H s.a (.lst [V.ref s.b, V.int (s.cnt + 1)])) s.a = some (.lst [V.ref s.b, V.int (s.cnt + 1)]) := upd_same
  have hB1 : (upd H s.a (.lst [V.ref s.b, V.int (s.cnt + 1)])) s.b = some (.lst (s.nums.map V.int)) := by rw [upd_ne hna.symm]; exact hD.hb
  refine ⟨_, rfl, s.a, _, 0, _, rfl, rfl, SqL.of hD.ha, rfl, ?_⟩
  refine ⟨_, rfl, ⟨s.a, _, 1, _, rfl, rfl, SqL.of hD.ha, rfl, ⟨_, _, rfl, rfl, _, rfl, s.a, _, 1, 1, rfl, rfl, hD.ha, rfl, ?_⟩⟩⟩
  refine ⟨_, rfl, ⟨s.a, _, 1, _, rfl, rfl, SqL.of hA1, rfl, ⟨_, rfl, ?_⟩⟩⟩
  refine ⟨_, s.nums.length, rfl, .inl ⟨_, SqL.of hB1, ln.symm⟩, ⟨_, _, rfl, rfl, by omega, ?_⟩⟩
  refine ⟨_, rfl, ⟨_, rfl, ⟨s.b, _, _, _, rfl, rfl, SqL.of hB1, eat, ?_⟩⟩⟩
  refine ⟨_, rfl, ⟨_, _, rfl, rfl, ⟨_, rfl, ?_⟩⟩⟩
  by_cases hbig : 1000000000000000000 ≤ z
  · rw [if_pos hbig] at hs
    rw [if_pos (decide_eq_true hbig)]
    refine ⟨_, rfl, ⟨_, rfl, ⟨_, _, rfl, rfl, ⟨k0, k1⟩, ⟨_, rfl, _, rfl, s.b, _, _, j, rfl, rfl, hB1, by rw [ln]; exact eix, ?_⟩⟩⟩⟩
    refine ⟨_, rfl, ⟨_, rfl, ⟨_, _, rfl, rfl, k0, ?_⟩⟩⟩
    refine hs.2.2 _ _ ⟨?_, ?_, hna⟩ ?_ (.int _)
    · show upd _ s.b _ s.a = _
      rw [upd_ne hna]
      exact upd_same
    · show upd _ s.b _ s.b = _
      rw [upd_same, set_int]
    · intro c o n1 n2 q
      rw [upd_ne n2, upd_ne n1]
      exact q
  · rw [if_neg hbig] at hs
    rw [if_neg (by simpa using hbig)]
    have m0 := Int.emod_nonneg (z + 104729 * (s.cnt + 1)) (show (4294967291 : Int) ≠ 0 by decide)
    have m1 := Int.emod_lt_of_pos (z + 104729 * (s.cnt + 1)) (show (0 : Int) < 4294967291 by decide)
    refine ⟨_, rfl, ⟨_, rfl, ⟨s.a, _, 1, _, rfl, rfl, SqL.of hA1, rfl, ⟨_, _, rfl, rfl, .inl (by decide), ⟨_, _, rfl, rfl, ⟨_, _, rfl, rfl, (show (0 : Int) < 4294967291 by decide), ?_⟩⟩⟩⟩⟩⟩
    refine ⟨_, rfl, ⟨_, _, rfl, rfl, ⟨by decide, by decide, by omega⟩, ⟨_, _, rfl, rfl, (show (0 : Int) < 4294967279 by decide), ?_⟩⟩⟩
    refine ⟨_, rfl, ⟨_, _, rfl, rfl, ⟨by decide, by decide⟩, ⟨_, _, rfl, rfl, .inr (by decide), ⟨_, rfl, ⟨_, _, rfl, rfl, ⟨_, _, rfl, rfl, (show (0 : Int) < 4294967231 by decide), ⟨_, _, rfl, rfl, ⟨by decide, by decide⟩, ⟨_, rfl, ⟨_, _, rfl, rfl, k0, ?_⟩⟩⟩⟩⟩⟩⟩⟩⟩
    refine hs.2.2 _ _ ⟨hA1, hB1, hna⟩ (fun c o n1 n2 q => by rw [upd_ne n1]; exact q) (.int _)
end DL

namespace DL
open PySem PySem.Spec PyProof.Rows L2
/-! ### the start of a law, the law -/
def spStart (K : PySem.W.Frag) : Sp := fun vs H Q E => ∃ (p : Addr) (ns : List Int), vs = [.ref p] ∧ SqL K H p (ns.map V.int) ∧ ns.length ≤ 63 ∧
  ∀ (a b : Addr) (nums : List Int) (H' : Hp), a ≠ b → nums ≠ [] → nums.length ≤ 63 → H' a = some (.lst [.ref b, .int 0]) → H' b = some (.lst (nums.map V.int)) → Q (.ref a) H'
def tStart (K : PySem.W.Frag) : TS := tRet (tLst (tCons (tIf (tTest (tOp (rNeE K) (tVar 0) (tLst tNil))) (tCB (rListE K) (tCons (tVar 0) tNil)) (tLst (tCons (tC (.int 0)) tNil))) (tCons (tC (.int 0)) tNil)))
theorem dp_ints {K : PySem.W.Frag} {H : Hp} : ∀ ns : List Int, DpAll K H (ns.map V.int) (ns.map PyData.int)
  | [] => .nil
  | n :: r => .cons (.int n) (dp_ints r)
theorem lay_ints : ∀ ns : List Int, PyData.canLayAll0 (ns.map PyData.int) = true
  | [] => by simp [PyData.canLayAll0]
  | n :: r => by simp [PyData.canLayAll0, PyData.canLay0]; simpa using lay_ints r
theorem start_t {K : PySem.W.Frag} {H : Hp} {p : Addr} {ns : List Int} {Q : VK} {nx : L2.St → Hp → Prop} (hs : SqL K H p (ns.map V.int)) (hl : ns.length ≤ 63)
    (k : ∀ (a b : Addr) (nums : List Int) (H' : Hp), a ≠ b → nums ≠ [] → nums.length ≤ 63 → H' a = some (.lst [.ref b, .int 0]) → H' b = some (.lst (nums.map V.int)) → Q (.ref a) H') : tStart K { nx := nx, rt := Q } [some (.ref p)] H := by
  refine ⟨_, rfl, ⟨Nat.zero_le _, fun q hq => ⟨_, _, .lst ((Same.new hq).seq hs) (dp_ints ns), .lst (SqL.of (show (upd H q (.lst [])) q = some (.lst []) from upd_same)) .nil, by simp [PyData.canLay0, lay_ints], by simp [PyData.canLay0, PyData.canLayAll0], by simp [PyData.depth, PyData.depthAll], ⟨_, rfl, ?_⟩⟩⟩⟩
  have sm : Same H (upd H q (.lst [])) := Same.new hq
  cases ns with
  | nil =>
    have e : (!PyData.eqv (.list (([] : List Int).map PyData.int)) (.list [])) = false := by simp [PyData.eqv, PyData.eqvAll]
    rw [e]
    dsimp only
    rw [if_neg Bool.false_ne_true]
    refine ⟨(by show 1 ≤ sizeLine; rw [sizeLine_eq]; decide), fun b hb => ⟨(by show 2 ≤ sizeLine; rw [sizeLine_eq]; decide), fun a ha => ?_⟩⟩
    have ne : a ≠ b := fun z => by rw [z, upd_same] at ha; cases ha
    exact k a b [0] _ ne (by simp) (by simp) upd_same (by rw [upd_ne ne.symm]; exact upd_same)
  | cons n r =>
    have e : (!PyData.eqv (.list ((n :: r).map PyData.int)) (.list [])) = true := by simp [PyData.eqv, PyData.eqvAll]
    rw [e]
    dsimp only
    rw [if_pos rfl]
    refine ⟨_, rfl, p, _, rfl, .inl (sm.seq hs), fun b hb => ⟨(by show 2 ≤ sizeLine; rw [sizeLine_eq]; decide), fun a ha => ?_⟩⟩
    have ne : a ≠ b := fun z => by rw [z, upd_same] at ha; cases ha
    exact k a b (n :: r) _ ne (by simp) hl upd_same (by rw [upd_ne ne.symm]; exact upd_same)
def spLaw (K : PySem.W.Frag) : Sp := fun vs H Q _ => ∃ (a : Addr) (ns : List Int), vs = [.ref a] ∧ SqL K H a (ns.map V.int) ∧ ns.length ≤ 63 ∧ ∀ H', Q (.bl true) H'
section
variable {P : Program} {w : World} {K : PySem.W.Frag} {mg : Str → Option Value} {base : Heap} {cl : Nat → Addr}
theorem law_fn {x qual : Str} {st : Stmt} {f : Addr} {fd : FuncData} {N : List Str} {k m : Nat} {F : FS DSt} {s0 : Stmt} {rest : List Stmt} (Fn : Fun K x qual st f fd) (Sc : FnScope N ["_law_script"] (defScope st)) (hm : N.length = 2 + m) (hbd : defBody st = s0 :: rest)
    (body : ∀ (cdv : Value) (A : Around) (outer : List PySem.Env) (s : Shared) (H : Hp) (E : XK), Room k (A.deeper (envOfC qual (defScope st) s.heap.objs.size f cdv)) →
      PS (cxOf (L2.CX P w) P w K mg base N qual (defScope st) f cdv A outer s H E) s0 (tAsg (tCallS (spStart K) (WE (WR cl NoW)) (tCons (tVar 0) tNil)) (gName 1)) ∧
      ∃ t, DXSs (cxOf (L2.CX P w) P w K mg base N qual (defScope st) f cdv A outer s H E) drawFam NoW rest t F)
    (hF : ∀ (a b : Addr) (nums : List Int), nums ≠ [] → nums.length ≤ 63 → ∃ s', F (.no :: .v (.ref a) :: List.replicate m .no) ⟨a, b, nums, 0⟩ = .rt (.d (.bool true)) s') :
    FnOk P w K mg base (L2.CX P w) (k + 1) f fd ["_law_script"] (spLaw K) := by
  refine Fn.okX Sc (fun vs H Q E h => ?_) fun cdv A outer s H vs Q E hr h => ?_
  · obtain ⟨a, ns, rfl, _⟩ := h
    rfl
  · obtain ⟨h0, t, hb⟩ := body cdv A outer s H E hr
    obtain ⟨p, ns, rfl, hs, hl, kq⟩ := h
    rw [hbd]
    refine ⟨_, pss_cons h0 hb.ps, ?_⟩
    have eσ : L2.start N [.ref p] = some (.ref p) :: none :: List.replicate m none := by
      unfold L2.start
      have e : N.length - [V.ref p].length = m + 1 := by simp; omega
      rw [e, List.replicate_succ]
      rfl
    rw [eσ]
    refine ⟨_, rfl, p, ns, rfl, hs, hl, fun a b nums H' ne hn hl2 hA hB => ?_⟩
    obtain ⟨s', hF⟩ := hF a b nums hn hl2
    have hM : InH (fun c => c = a ∨ c = b) H' := fun c hc => by
      rcases hc with e | e
      · rw [e, hA]; simp
      · rw [e, hB]; simp
    have hD : Dr ⟨a, b, nums, 0⟩ H' := ⟨hA, hB, ne⟩
    refine hb.ds (drawW (fun c => c = a ∨ c = b) ⟨a, b, nums, 0⟩ H' hM (.inl rfl) (.inr rfl)) drawW_ok (.no :: .v (.ref a) :: List.replicate m .no) _ ⟨a, b, nums, 0⟩ H' _ (env_of (by simp) ⟨rfl, rfl, hD, fun _ _ _ _ q => q⟩ ?_ ?_ ?_) ?_
    · intro i xs h
      match i with
      | 0 => cases h
      | 1 => cases h
      | i + 2 =>
        rw [List.getElem?_cons_succ, List.getElem?_cons_succ, List.getElem?_replicate] at h
        split at h <;> cases h
    · intro i xs h
      match i with
      | 0 => cases h
      | 1 => cases h
      | i + 2 =>
        rw [List.getElem?_cons_succ, List.getElem?_cons_succ, List.getElem?_replicate] at h
        split at h <;> cases h
    · intro i xs h
      match i with
      | 0 => cases h
      | 1 => cases h; rfl
      | i + 2 =>
        rw [List.getElem?_cons_succ, List.getElem?_cons_succ, List.getElem?_replicate] at h
        split at h <;> cases h
    · rw [hF]
      intro v H2 _ hv
      cases (show Rp _ v (.bool true) from hv)
      exact kq H2
end
theorem hu65 {k : Nat} {A : Around} {env : PySem.Env} (hr : Room k (A.deeper env)) : (A.deeper env).units + 65 < cLine := by
  have := hr.un
  omega
theorem cx_false {P : Program} {w : World} {H : Hp} {s : Shared} {e : Value} {s' : Shared} (h : L2.CX P w [] H s (fun _ _ _ => False) e s') : False := by
  obtain ⟨_, _, _, _, _, _, _, _, _, _, _, _, z⟩ := h
  exact z.elim
end DL

namespace DL
open PySem PySem.Spec PyProof.Rows L2
section
variable {S : Type} {X : Cx} {𝒲 : Fam S} {Wx : Wsh} {a b c d : Expr} {ta tb tc td : TE} {fa fb fc fd : FE S} {pos : Pos}
/-- a op b op c op d, as a test -/
def tChain3 (r1 r2 r3 : R2) (ta tb tc td : TE) : TT := fun σ H Q => ta σ H fun x H1 => tb σ H1 fun y H2 => r1 x y H2 fun u H3 => ∃ k, u = .bl k ∧
  (if k = true then tc σ H3 fun z H4 => r2 y z H4 fun u2 H5 => ∃ k2, u2 = .bl k2 ∧ (if k2 = true then td σ H5 fun w H6 => r3 z w H6 fun u3 H7 => ∃ k3, u3 = .bl k3 ∧ Q k3 H7 else Q false H5) else Q false H3)
theorem pt_chain3 {o1 o2 o3 : CmpOp} {r1 r2 r3 : R2} (h1 : OpR X (compareOp o1) r1) (h2 : OpR X (compareOp o2) r2) (h3 : OpR X (compareOp o3) r3) (ha : PE X a ta) (hb : PE X b tb) (hc : PE X c tc) (hd : PE X d td)
    (hm : lastMarks [o1, o2, o3] [b, c, d] = false := by with_unfolding_all rfl) : PT X (.Compare a [o1, o2, o3] [b, c, d] pos) (tChain3 r1 r2 r3 ta tb tc td) := by
  refine ⟨fun pins s0 σ H0 Q I0 h0 => isTrue_chain (thn (ha.run pins s0 σ H0 _ I0 h0) fun v s1 ⟨x, H1, I1, q1, e1⟩ => test_link (thn (hb.run pins s1 σ H1 _ I1 e1) fun u s2 ⟨y, H2, I2, q2, e2⟩ => thn (h1 pins s2 σ H2 x y v u _ I2 q1 q2 e2) fun k0 s3 ⟨z, H3, I3, q3, k, ez, e3⟩ => ?_)) hm⟩
  subst ez
  cases q3
  refine wpAny_truthy_bool ?_
  cases k with
  | false => exact ite_ff ⟨H3, I3, e3⟩
  | true =>
    refine ite_tt (test_link (thn (hc.run pins s3 σ H3 _ I3 e3) fun w s4 ⟨z2, H4, I4, q4, e4⟩ => thn (h2 pins s4 σ H4 y z2 u w _ I4 q2 q4 e4) fun k1 s5 ⟨z3, H5, I5, q5, k2, ez2, e5⟩ => ?_))
    subst ez2
    cases q5
    refine wpAny_truthy_bool ?_
    cases k2 with
    | false => exact ite_ff ⟨H5, I5, e5⟩
    | true =>
      refine ite_tt (test_last (thn (hd.run pins s5 σ H5 _ I5 e5) fun w2 s6 ⟨z4, H6, I6, q6, e6⟩ => thn (h3 pins s6 σ H6 z2 z4 w w2 _ I6 q4 q6 e6) fun k4 s7 ⟨z5, H7, I7, q7, k3, ez3, e7⟩ => ?_))
      subst ez3
      cases q7
      exact wpAny_truthy_bool ⟨H7, I7, e7⟩
def fChain3 (f g h : D → D → Option D) (fa fb fc fd : FE S) : FT S := fun ρ s => (fa ρ s).bnd fun x s => (fb ρ s).bnd fun y s => match x, y with
  | .d x, .d y => (match f x y with
    | some (.bool true) => (fc ρ s).bnd fun z s => (match z with
      | .d z => (match g y z with
        | some (.bool true) => (fd ρ s).bnd fun w s => (match w with
          | .d w => (match h z w with
            | some (.bool k) => .ok k s
            | _ => .bad)
          | _ => .bad)
        | some (.bool false) => .ok false s
        | _ => .bad)
      | _ => .bad)
    | some (.bool false) => .ok false s
    | _ => .bad)
  | _, _ => .bad
theorem dxt_chain3 {o1 o2 o3 : CmpOp} {r1 r2 r3 : R2} {f g h : D → D → Option D} (c1 : Cm X o1 r1 f) (c2 : Cm X o2 r2 g) (c3 : Cm X o3 r3 h) (ha : DX X 𝒲 Wx a ta fa) (hb : DX X 𝒲 Wx b tb fb) (hc : DX X 𝒲 Wx c tc fc) (hd : DX X 𝒲 Wx d td fd) (hm : lastMarks [o1, o2, o3] [b, c, d] = false := by with_unfolding_all rfl) :
    DXT X 𝒲 Wx (.Compare a [o1, o2, o3] [b, c, d] pos) (tChain3 r1 r2 r3 ta tb tc td) (fChain3 f g h fa fb fc fd) := by
  refine ⟨pt_chain3 c1.op c2.op c3.op ha.pe hb.pe hc.pe hd.pe hm, fun W hW ρ σ s H Q E hp => ?_⟩
  refine ha.de W hW ρ σ s H _ E (hp.bnd.imp fun x s1 H1 a1 e1 q v hv => ?_)
  have E1 := E.step a1 e1
  refine hb.de W hW ρ σ s1 H1 _ E1 (q.bnd.imp fun y s2 H2 a2 e2 q2 u hu => ?_)
  have E2 := E1.step a2 e2
  cases x with
  | v x => exact q2.elim
  | d x =>
    cases y with
    | v y => exact q2.elim
    | d y =>
      dsimp only at q2
      split at q2
      · rename_i hz
        refine c1.s2 _ H2 v u x y _ _ E2.inH (Rp.up (show Rp _ v x from hv) (Frz.stp e2)) hu hz fun w H3 e3 hw => ?_
        cases hw
        refine ⟨true, rfl, ?_⟩
        rw [if_pos rfl]
        have a3 := W.ext _ _ _ a2 e3
        have E3 := E2.step a3 (Stp.of e3)
        refine hc.de W hW ρ σ s2 H3 _ E3 ((q2.later (Stp.of e3)).bnd.imp fun z s4 H4 a4 e4 q4 w' hw' => ?_)
        have E4 := E3.step a4 e4
        cases z with
        | v z => exact q4.elim
        | d z =>
          dsimp only at q4
          split at q4
          · rename_i hz2
            refine c2.s2 _ H4 u w' y z _ _ E4.inH (Rp.up (show Rp _ u y from hu) ((Frz.stp (Stp.of e3)).trans (Frz.stp e4))) hw' hz2 fun w2 H5 e5 hw2 => ?_
            cases hw2
            refine ⟨true, rfl, ?_⟩
            rw [if_pos rfl]
            have a5 := W.ext _ _ _ a4 e5
            have E5 := E4.step a5 (Stp.of e5)
            refine hd.de W hW ρ σ s4 H5 _ E5 ((q4.later (Stp.of e5)).bnd.imp fun z3 s6 H6 a6 e6 q6 w3 hw3 => ?_)
            have E6 := E5.step a6 e6
            cases z3 with
            | v z3 => exact q6.elim
            | d z3 =>
              dsimp only at q6
              split at q6
              · rename_i k hz3
                refine c3.s2 _ H6 w' w3 z z3 _ _ E6.inH (Rp.up (show Rp _ w' z from hw') ((Frz.stp (Stp.of e5)).trans (Frz.stp e6))) hw3 hz3 fun w4 H7 e7 hw4 => ?_
                cases hw4
                exact ⟨k, rfl, q6 H7 (W.ext _ _ _ a6 e7) (Stp.of e7)⟩
              · exact q6.elim
          · rename_i hz2
            refine c2.s2 _ H4 u w' y z _ _ E4.inH (Rp.up (show Rp _ u y from hu) ((Frz.stp (Stp.of e3)).trans (Frz.stp e4))) hw' hz2 fun w2 H5 e5 hw2 => ?_
            cases hw2
            refine ⟨false, rfl, ?_⟩
            rw [if_neg Bool.false_ne_true]
            exact q4 H5 (W.ext _ _ _ a4 e5) (Stp.of e5)
          · exact q4.elim
      · rename_i hz
        refine c1.s2 _ H2 v u x y _ _ E2.inH (Rp.up (show Rp _ v x from hv) (Frz.stp e2)) hu hz fun w H3 e3 hw => ?_
        cases hw
        refine ⟨false, rfl, ?_⟩
        rw [if_neg Bool.false_ne_true]
        exact q2 H3 (W.ext _ _ _ a2 e3) (Stp.of e3)
      · exact q2.elim
end
end DL

namespace DL
open PySem PySem.Spec PyProof.Rows L2
/-! ### an exception's object, tracked -/
def XO (c : Value) (p : Addr) : HO := .ext fun hp => ∃ (ob : Obj) (fl : Array Value), hp.get? p = some ob ∧ Zc c none ob ∧ ob.data = .fields fl
section
variable {Y : Cx} {pl : List (Addr × Obj)} {ss : L2.St} {G : Hp} {st : Shared}
theorem trackT {p : Addr} {c : Value} {ob : Obj} {fl : Array Value} (I : Inv Y pl ss G st) (e : st.heap.get? p = some ob) (z : Zc c none ob) (d : ob.data = .fields fl) (n : G p = none) (nl : p ≠ Y.env.locals) (n0 : Y.s_0.heap.get? p = none)
    (np : ∀ q ∈ Y.pn ++ pl, q.1 ≠ p) : Inv Y pl ss (upd G p (XO c p)) st := by
  have old : ∀ b u, Y.s_0.heap.get? b = some u → b ≠ p := fun b u q w => by rw [w, n0] at q; cases q
  have dn : ∀ b u, G b = some u → b ≠ p := fun b u q w => by rw [w, n] at q; cases q
  have gs : ∀ b u, G b = some u → upd G p (XO c p) b = some u := fun b u q => by rw [upd_ne (dn b u q)]; exact q
  refine { ok := I.ok, os := I.os, bare := I.bare, loc := I.loc, cell := I.cell, len := I.len, base := ?_, free := ?_, freeC := ?_, pin := ?_, hok := ?_ }
  · exact { keep := I.base.keep, slot := I.base.slot, there := I.base.there
            free := fun b u q1 q2 q3 => by rw [upd_ne (old b u q1)]; exact I.base.free b u q1 q2 q3
            tups := fun b xs q => gs b _ (I.base.tups b xs q)
            frzs := fun b u w q => gs b _ (I.base.frzs b u w q)
            tbls := fun b ps q => let ⟨more, r⟩ := I.base.tbls b ps q; ⟨more, gs b _ r⟩ }
  · rw [upd_ne (Ne.symm nl)]; exact I.free
  · intro x k hk
    have nk : k ≠ p := fun w => by
      obtain ⟨v, o', h1, h2⟩ := I.cell x k hk
      rw [w, e] at h1
      cases h1
      rw [d] at h2
      cases h2
    rw [upd_ne nk]
    exact I.freeC x k hk
  · intro q hq
    obtain ⟨h1, h2, h3⟩ := I.pin q hq
    exact ⟨h1, by rw [upd_ne (np q hq)]; exact h2, h3⟩
  · exact I.hok.laidN (fun _ _ h => h) n ⟨⟨ob, fl, e, z, d⟩, ⟨ob, e⟩, fun _ _ ⟨o', w, q, r⟩ k => ⟨o', w, k o' q, r⟩⟩
end
/-! ### try: .. except C as n: m = n -/
/-- what is wished of an exception that the clause takes: its class is a C, and behind the clause it stands in m's slot -/
def wTk (K : PySem.W.Frag) (C : Value) (i j : Nat) (nx : L2.St → Hp → Prop) : WX := fun cls d ss G =>
  PySem.W.exmOne K cls C = some true ∧ d = none ∧ ∀ p, G p = none → j < ss.length → nx (((ss.set i (some (.ref p))).set j (some (.ref p))).set i none) (upd G p (XO cls p))
section
variable {Y : Cx} {cn en mn : Str} {C : Value} {i j : Nat} {blk : List Stmt} {p1 p2 p3 p4 p5 p6 : Pos} {tb : WX → TS}
theorem ps_tryK (hst : Y.stack = Y.env :: Y.outer) (hfr : Y.env.frame = some Y.env.locals) (nd : Y.N.Nodup) (hi : Y.N[i]? = some en) (hj : Y.N[j]? = some mn) (hie : Y.env.kindOf en = some .local) (hje : Y.env.kindOf mn = some .local) (hex : Y.ex = []) (hC : Names Y cn C)
    (hsw : swapsWith (.Name en p3) (some (.Name mn p4)) p5.line Y.env = pure false)
    (hpe : ∀ (p : Addr) (o : Obj) (pn : List (Addr × Obj)), PE (Y.suite p ((p, o) :: pn)) (.Name en p3) (tVar i))
    (hb : ∀ (W : WX) (pn : List (Addr × Obj)) (xe : Value → Shared → Prop), Takes (Y.tr pn xe) W → PassesOwn (model Y.prog Y.w) Y.A Y.env xe → PSs (Y.tr pn xe) blk (tb W)) :
    PS Y (.Try blk [.ExceptHandler (some (.Name cn p1)) (some en) [.Assign [.Name mn p4] (.Name en p3) p5] p2] [] [] p6) (fun D ss G => tb (wTk Y.K C i j D.nx) D ss G) := by
  constructor
  intro pl st ss G D I0 hw
  have okY := I0.ok
  have hfs : Y.A.frames = some (Y.env :: Y.outer) := by rw [okY.frames, hst]
  apply wpAny_Try_except
  have hbody := (hb (wTk Y.K C i j D.nx) (Y.pn ++ pl) _ (fun u st' xx => ?_) PassesOwn.looking).run [] st ss G D (I0.toTry (fun u st1 => wpAny (model Y.prog Y.w) Y.A (noteFrame u Y.env) (fun _ st2 => wpAny (model Y.prog Y.w) Y.A (setFlight u none)
      (fun _ st3 => wpAny (model Y.prog Y.w) Y.A (handleBy u Y.env [.ExceptHandler (some (.Name cn p1)) (some en) [.Assign [.Name mn p4] (.Name en p3) p5] p2]) (SP Y pl D) Y.xe st3) Y.xe st2) Y.xe st1)) hw
  · refine wpAny_mono hbody (fun fl st1 hq => ?_) fun _ _ q => q
    cases fl with
    | next => obtain ⟨s1, G1, I1, q⟩ := hq; exact wpAny_execs_nil ⟨s1, G1, I1.ofTry okY, q⟩
    | brk => obtain ⟨s1, G1, I1, q⟩ := hq; exact ⟨s1, G1, I1.ofTry okY, q⟩
    | cont => obtain ⟨s1, G1, I1, q⟩ := hq; exact ⟨s1, G1, I1.ofTry okY, q⟩
    | ret u => obtain ⟨v, s1, G1, I1, r, q⟩ := hq; exact ⟨v, s1, G1, I1.ofTry okY, r, q⟩
  · obtain ⟨p, Bs, stI, pl1, s1, G1, cls, d, rfl, I1, new, upS, skyS, freeP, eos, bare, hyes, rfl, hnx⟩ := xx
    have I2 : Inv Y pl s1 G1 stI := I1.ofTry okY
    rw [show (Y.tr (Y.pn ++ pl) _).stack = Y.stack from rfl, hst] at skyS
    show wpAny (model Y.prog Y.w) Y.A (noteFrame (.ref p) Y.env) _ _ _
    apply Sky.land Zc.steady hfs hfr skyS
    intro h1 fl1 up1
    have I3 : Inv Y pl s1 G1 { st' with heap := h1 } := I2.landed new fl1.1 (upS.trans up1) eos bare
    obtain ⟨o1, f1, e1, z1, d1⟩ := fl1.there
    have out : p ∉ frs (Y.env :: Y.outer) := fun hm => by
      obtain ⟨_, o2, e2, w2⟩ := fl1.2.2.1.mem hm
      rw [e1] at e2
      cases e2
      exact w2 _ d1
    have nB : Bs.get? p = none := fl1.2.1
    have nl : p ≠ Y.env.locals := fun w => out (List.mem_filterMap.mpr ⟨Y.env, .head _, by rw [hfr, w]⟩)
    have nf : p ∉ Y.fs := fun hm => by
      obtain ⟨en', me, q⟩ := List.mem_filterMap.mp hm
      exact out (List.mem_filterMap.mpr ⟨en', .tail _ me, q⟩)
    have nI : stI.heap.get? p = none := by
      cases w : stI.heap.get? p with
      | none => rfl
      | some o2 =>
        have w2 := new p o2 w (by show p ∉ frs Y.stack; rw [hst]; exact out)
        rw [nB] at w2
        cases w2
    have n0 : Y.s_0.heap.get? p = none := by
      cases w : Y.s_0.heap.get? p with
      | none => rfl
      | some o2 =>
        obtain ⟨o3, w2⟩ := I2.base.there p o2 w (by rw [hex]; exact fun z => nomatch z)
        rw [nI] at w2
        cases w2
    have np : ∀ q ∈ Y.pn ++ pl, q.1 ≠ p := fun q hq w => by
      have w2 := (I2.pin q hq).1
      rw [w, nI] at w2
      cases w2
    have IS := I3.suite e1 d1 freeP nl nf
    refine wpAny_handleBy_cons (codeAny_handlers_test ?_) (fun z => nomatch z)
    have lk : PySem.W.Looks (model Y.prog Y.w) h1 (typeOf (.ref p)) cls := fun _ _ _ _ kp q => wpAny_typeOf_ref (kp _ _ e1) (by rw [z1.1]; exact q)
    have lm := PySem.W.exm_one (M := model Y.prog Y.w) I3.kIn lk hyes
    have tst : ∀ {Q E : Value → Shared → Prop}, Q C { st' with heap := h1 } → wpAny (model Y.prog Y.w) (Y.A.mark (some (.ref p))) (eval (.Name cn p1) Y.env) Q E { st' with heap := h1 } := by
      intro Q E q
      obtain ⟨g1, g2, g3⟩ := hC
      rcases g3 with g3 | ⟨g3, g4, g5⟩
      · exact ld_glob (X := Y.suite p ((p, o1) :: (Y.pn ++ pl))) IS g1 g3 q g2
      · exact ld_blt (X := Y.suite p ((p, o1) :: (Y.pn ++ pl))) IS g1 g3 g4 q g5 g2
    apply tst
    apply lm.here
    apply codeAny_handlers_suite_as
    apply HandSPX.lands_againZ fl1
    intro h2 fl2 up2
    have I4 : Inv Y pl s1 G1 { st' with heap := h2 } := I2.landed new fl2.1 ((upS.trans up1).trans up2) eos bare
    obtain ⟨o2, f2, e2, z2, d2⟩ := fl2.there
    have IS2 := I4.suite e2 d2 freeP nl nf
    refine store_ok (X := Y.suite p ((p, o2) :: (Y.pn ++ pl))) (v := .ref p) IS2 nd hi (.inl hie) rfl (fun st5 I5 => ?_) (.inr hie)
    have asg : PS (Y.suite p ((p, o2) :: (Y.pn ++ pl))) (.Assign [.Name mn p4] (.Name en p3) p5) (tAsg (tVar i) (gName j)) := ps_set nd hj (.inl hje) (hpe p o2 _) hsw (.inr hje)
    have lj : j < s1.length := by rw [I2.len]; exact (List.getElem?_eq_some_iff.mp hj).1
    have li : i < s1.length := by rw [I2.len]; exact (List.getElem?_eq_some_iff.mp hi).1
    refine wpAny_mono ((pss_one asg).run [] st5 _ G1 { nx := fun s2 G2 => s2 = (s1.set i (some (.ref p))).set j (some (.ref p)) ∧ G2 = G1, rt := fun _ _ => False } I5 ⟨.ref p, List.getElem?_set_self li, rfl, rfl⟩) (fun fl st6 hq => ?_) fun _ _ z => z.elim
    cases fl with
    | brk => obtain ⟨_, _, _, z⟩ := hq; exact z.elim
    | cont => obtain ⟨_, _, _, z⟩ := hq; exact z.elim
    | ret u => obtain ⟨_, _, _, _, _, z⟩ := hq; exact z.elim
    | next =>
      obtain ⟨s2, G2, I6, rfl, rfl⟩ := hq
      refine gone_ok (X := Y.suite p ((p, o2) :: (Y.pn ++ pl))) I6 nd hi hie fun st7 I7 => ?_
      have pn7 := (I7.pin (p, o2) (List.mem_append_left _ (.head _))).1
      exact ⟨_, _, trackT (I7.unsuite okY) pn7 z2 d2 freeP nl n0 np, hnx p freeP lj⟩
end
/-! ### the name of an exception -/
def nmE : Nat → Str
  | 0 => "things"
  | 1 => "number"
  | 2 => "points"
  | 3 => "text"
  | _ => "none"
theorem nmE_ok : ∀ c, (nmE c).length ≤ lim ∧ PyData.strOk (nmE c) = true
  | 0 => by decide +kernel
  | 1 => by decide +kernel
  | 2 => by decide +kernel
  | 3 => by decide +kernel
  | _ + 4 => (by decide +kernel : ("none" : Str).length ≤ lim ∧ PyData.strOk "none" = true)
/-- the def that names an exception -/
def spErr (cl : Nat → Addr) : Sp := fun vs G Q _ => ∃ (p : Addr) (c : Nat), vs = [.ref p] ∧ c < 5 ∧ G p = some (XO (.ref (cl c)) p) ∧ ∀ G', Same G G' → Q (.str (nmE c)) G'
section
variable {S : Type} {X : Cx} {𝒲 : Fam S} {Wx : Wsh} {cl : Nat → Addr}
/-- try: F / except C as n: m = n / return R -/
def sTry (F R : FS S) : FS S := fun ρ s => match F ρ s with
  | .nx ρ' s' => R ρ' s'
  | .er c _ s' => if c < 5 then .rt (.d (.str (nmE c))) s' else .bad
  | .rt d s' => .rt d s'
  | _ => .bad
def tTry (K : PySem.W.Frag) (C : Value) (i j : Nat) (tb : Wsh → TS) (tf : TE) (tc : TE) : TS :=
  tSeq (fun D ss G => tb (fun c s1 G1 => wTk K C i j D.nx (.ref (cl c)) none s1 G1) D ss G) (tRet (tIf (tTest (tOp (fun x y H Q => y = .non ∧ Q (.bl (decide (x = .non))) H) (tVar j) (tC .non))) tf tc))
theorem dss_try (i j : Nat) {cn en mn : Str} {C : Value} {blk : List Stmt} {fe : Expr} {tf : TE} {ff : FE S} {F : FS S} {k : Nat} {f : Addr} {fd : FuncData} {tb : Wsh → List (Addr × Obj) → (Value → Shared → Prop) → TS} {p1 p2 p3 p4 p5 p6 q1 q2 q3 q4 q5 q6 q7 q8 : Pos} {k0 : Nat} {ps : List Str}
    (hst : X.stack = X.env :: X.outer) (hfr : X.env.frame = some X.env.locals) (hex : X.ex = []) (nd : X.N.Nodup) (hij : i ≠ j) (hC : Names X cn C) (hx : ∀ c, c < 5 → PySem.W.exmOne X.K (.ref (cl c)) C = some true)
    (hpe : ∀ (p : Addr) (o : Obj) (pn : List (Addr × Obj)), PE (X.suite p ((p, o) :: pn)) (.Name en p3) (tVar i)) (hpj : PE X (.Name mn q2) (tVar j)) (hpj2 : PE X (.Name mn q5) (tVar j))
    (hb : ∀ (Wx' : Wsh) (pn : List (Addr × Obj)) (xe : Value → Shared → Prop), Takes (X.tr pn xe) (WR cl Wx') → DXSs (X.tr pn xe) 𝒲 Wx' blk (tb Wx' pn xe) F)
    (hf : DX X 𝒲 Wx fe tf ff) (Fo : FnOk X.prog X.w X.K X.mg X.base (L2.CX X.prog X.w) k f fd ps (spErr cl)) (hr : Room k X.A) (hm : X.mg "_law_error" = some (.ref f)) (hk : PySem.W.keepIn X.K (.ref f) = true) (hbd : Binds X.K fd ps [])
    (tk : Takes X (WR cl Wx)) (htb : ∀ (Wx' : Wsh) (pn : List (Addr × Obj)) (xe : Value → Shared → Prop), tb Wx' pn xe = tb Wx' [] (fun _ _ => True) := by intros; rfl)
    (hi : X.N[i]? = some en := by rfl) (hj : X.N[j]? = some mn := by rfl) (hie : X.env.kindOf en = some .local := by rfl) (hje : X.env.kindOf mn = some .local := by rfl) (hsw : swapsWith (.Name en p3) (some (.Name mn p4)) p5.line X.env = pure false := by rfl) (hg : Gl X "_law_error" := by rfl)
    (he : starEach [.Name mn q5] X.env = (false, eval (.Name mn q5) X.env) :: starEach [] X.env := by rfl) (hpl : (backTo q6 (starEach [] X.env)).any (·.1) = false := by rfl) :
    DXSs X 𝒲 Wx [.Try blk [.ExceptHandler (some (.Name cn p1)) (some en) [.Assign [.Name mn p4] (.Name en p3) p5] p2] [] [] p6,
      .Return (some (.IfExp (.Compare (.Name mn q2) [.Is] [.Constant .none k0 q3] q4) fe (.Call (.Name "_law_error" q1) [.Name mn q5] [] q6) q7)) q8]
      (tTry (cl := cl) X.K C i j (fun Wx' => tb Wx' [] fun _ _ => True) tf (tCallS (spErr cl) (WE (WR cl Wx)) (tCons (tVar j) tNil))) (sTry F (sRet (eIf (fun ρ s => tstOf (eOp isND (eVar j) (eC .none) ρ s)) ff fun _ _ => .bad))) := by
  have hcall : DX X 𝒲 Wx (.Call (.Name "_law_error" q1) [.Name mn q5] [] q6) (tCallS (spErr cl) (WE (WR cl Wx)) (tCons (tVar j) tNil)) (fun _ _ => .bad) :=
    ⟨pe_callS Fo hr hg hm hk hbd (fun σ => passAt tk σ) (pa_cons hpj2 pa_nil he) (by decide) he hpl, fun _ _ _ _ _ _ _ _ z => z.elim⟩
  have hret := ds_ret (pos := q8) (dx_if (pos := q7) (dxt_cmp (pos := q4) cm_isN (dx_var j hpj : DX X 𝒲 Wx _ _ _) (dx_non (j := k0) (pos := q3)) (nomark _ (by decide) (by decide))) hf hcall)
  have hbW : ∀ (W : WX) (pn : List (Addr × Obj)) (xe : Value → Shared → Prop), Takes (X.tr pn xe) W → PassesOwn (model X.prog X.w) X.A X.env xe → PSs (X.tr pn xe) blk (tb (fun c s1 G1 => W (.ref (cl c)) none s1 G1) [] fun _ _ => True) := fun W pn xe tW _ => by
    rw [← htb _ pn xe]
    refine (hb _ pn xe (tW.imp fun cls d s1 G1 ⟨c, e1, e2, w⟩ => ?_)).ps
    subst e1 e2
    exact w
  have htry := ps_tryK (tb := fun W => tb (fun c s1 G1 => W (.ref (cl c)) none s1 G1) [] fun _ _ => True) (p1 := p1) (p2 := p2) (p6 := p6) hst hfr nd hi hj hie hje hex hC hsw hpe hbW
  refine ⟨pss_cons htry (pss_one hret.ps), fun W hW ρ σ s H D E h => ?_⟩
  have hd := (hb (fun c s1 G1 => wTk X.K C i j (tRet (tIf (tTest (tOp (fun x y H Q => y = .non ∧ Q (.bl (decide (x = .non))) H) (tVar j) (tC .non))) tf (tCallS (spErr cl) (WE (WR cl Wx)) (tCons (tVar j) tNil))) D) (.ref (cl c)) none s1 G1) [] (fun _ _ => True) (fun _ _ _ => trivial)).ds
  refine hd W hW ρ σ s H { D with nx := _ } E ?_
  unfold sTry at h
  revert h
  cases F ρ s with
  | nx ρ' s' => exact fun h σ' H' E' g => hret.ds W hW ρ' σ' s' H' D E' (PostS.later h g)
  | rt d s' => exact fun h => h
  | bk ρ' s' => exact fun h => h.elim
  | ct ρ' s' => exact fun h => h.elim
  | bad => exact fun h => h.elim
  | er c ρ' s' =>
    intro h
    dsimp only at h
    split at h
    · rename_i hc
      intro σ' H' E' g
      refine ⟨hx c hc, rfl, fun p hp lj => ?_⟩
      have hs : (((σ'.set i (some (V.ref p))).set j (some (V.ref p))).set i none)[j]? = some (some (V.ref p)) := by
        rw [List.getElem?_set_ne hij, List.getElem?_set_self (by rw [List.length_set]; exact lj)]
      refine ⟨.ref p, hs, rfl, decide (V.ref p = V.non), rfl, ?_⟩
      dsimp only
      rw [if_neg (by simp)]
      exact ⟨.ref p, hs, p, c, rfl, hc, upd_same, fun G' sm => h (.str (nmE c)) G' (W.ext _ _ _ E'.at_ ((Same.new hp).trans sm)) (Rp.str _ (nmE_ok c).1 (nmE_ok c).2)⟩
    · exact h.elim
end

/-! ### the def that names an exception -/
def exF (cl : Nat → Addr) : Fam (Addr × Nat) := ⟨fun W => ∀ s H, W.at_ s H → s.2 < 5 ∧ H s.1 = some (XO (.ref (cl s.2)) s.1), fun W p o h _ s H q => h s H q.1⟩
def rIsX (K : PySem.W.Frag) : List V → Hp → VK → Prop := fun xs G Q => ∃ (p D : Addr) (c : V) (cv : Value) (b : Bool), xs = [.ref p, c] ∧ G p = some (XO (.ref D) p) ∧ ExcC K D ∧ (∀ u, RelV c u → u = cv) ∧ PySem.W.kitOne K (.ref D) cv = some b ∧ Q (.bl b) G
theorem call_isX {X : Cx} : CallR X (.builtin "isinstance") (rIsX X.K) := by
  intro pl st ss G xs us Q I r h
  obtain ⟨p, D, c, cv, b, rfl, hp, C, hcv, hb, q⟩ := h
  cases r with
  | cons r1 rr =>
    cases rr with
    | cons r2 rr =>
      cases rr
      cases r1
      have e2 := hcv _ r2
      subst e2
      obtain ⟨⟨ob, fl, hg, hz, hd⟩, _⟩ := I.hok p _ hp
      have J : PySem.W.InstAt st.heap p ob D none := by
        obtain ⟨w1, w2, w3, w4⟩ := ob
        obtain ⟨z1, z2⟩ := hz
        simp only at z1 z2 hd
        subst z1 z2 hd
        exact ⟨hg, rfl, rfl, trivial⟩
      refine PySem.W.kia_one (PySem.W.handS_kitx_exc C.hg C.hk C.hs C.hd C.ha C.hn C.ht C.hm) I.kIn J hb (fun w => nomatch w) fun n => ?_
      exact ⟨.bl b, G, I.kept (t' := n) fun _ _ w => w, rfl, q⟩
def eIsX (i : Nat) (f : Nat → Bool) : FE (Addr × Nat) := fun ρ s => match ρ[i]? with
  | some (.v (.ref p)) => if p = s.1 then .ok (.d (.bool (f s.2))) s else .bad
  | _ => .bad
section
variable {X : Cx} {cl : Nat → Addr} {Wx : Wsh}
theorem dx_isX (i : Nat) (f : Nat → Bool) {x y : Str} {c : V} {cv : Value} {p p1 p2 pos : Pos} (hm : X.mg "isinstance" = none) (hE : ∀ c, c < 5 → ExcC X.K (cl c)) (hx : PE X (.Name x p1) (tVar i)) (hy : PE X (.Name y p2) (tC c)) (hc : ∀ u, RelV c u → u = cv)
    (hk : ∀ c, c < 5 → PySem.W.kitOne X.K (.ref (cl c)) cv = some (f c)) (hg : Gl X "isinstance" := by rfl)
    (he : starEach [.Name x p1, .Name y p2] X.env = (false, eval (.Name x p1) X.env) :: starEach [.Name y p2] X.env := by rfl) (hpl : (backTo pos (starEach [.Name y p2] X.env)).any (·.1) = false := by rfl)
    (hs2 : starEach [.Name y p2] X.env = (false, eval (.Name y p2) X.env) :: starEach [] X.env := by rfl) :
    DX X (exF cl) Wx (.Call (.Name "isinstance" p) [.Name x p1, .Name y p2] [] pos) (tCB (rIsX X.K) (tCons (tVar i) (tCons (tC c) tNil))) (eIsX i f) := by
  refine ⟨pe_callB call_isX hg hm PyProof.Rows.boot_isinstance (pa_cons hx (pa_cons hy pa_nil hs2) he) (by decide) (by decide) he hpl, fun W hW ρ σ s H Q E h => ?_⟩
  unfold eIsX at h
  split at h
  · rename_i q hq
    split at h
    · rename_i e
      subst e
      obtain ⟨h5, ho⟩ := hW s H E.at_
      exact ⟨_, E.raw i _ hq, _, cl s.2, c, cv, f s.2, rfl, ho, hE _ h5, hc, hk _ h5, h.ok E.at_ _ (Rp.bl _)⟩
    · exact h.elim
  · exact h.elim
/-- o.index(x) of a list o -/
def indexD (ds : List D) (y : D) : Option D := if SeqAt.shaped (.list ds) = true ∧ SeqAt.shaped y = true then (match ds.findIdx? fun z => PyData.eqv z y with
  | some j => some (.int (j : Nat))
  | none => none) else none
end
section
variable {S : Type} {X : Cx} {𝒲 : Fam S} {Wx : Wsh} {a : Expr} {ta : TE} {fa : FE S}
theorem dx_index {o : Expr} {to : TE} {fo : FE S} {apos cpos : Pos} (hu : X.A.units + 65 < cLine) (ho : DX X 𝒲 Wx o to fo) (ha : DX X 𝒲 Wx a ta fa) (hbase : attributeBase o "index" X.env (eval o X.env) = eval o X.env := by rfl)
    (hfew : ((backTo cpos (starEach [a] X.env)).all (fun x => !x.1) && (backToKw cpos (keywordEach [] X.env)).all (fun x => x.1.isSome)
      && decide ([a].length + ([] : List Keyword).length + (if ([] : List Keyword).isEmpty then 0 else 1) < 30)) = true := by rfl)
    (hline : (apos.endLine == cpos.line) = true := by rfl) (hs : starEach [a] X.env = (false, eval a X.env) :: starEach [] X.env := by rfl) (hplain : (backTo cpos (starEach [] X.env)).any (·.1) = false := by rfl) :
    DX X 𝒲 Wx (.Call (.Attribute o "index" apos) [a] [] cpos) (tBM X.K "list" (rIndexD X.K) to (tCons ta tNil)) (eBmL indexD fo fa) := by
  refine ⟨pe_bm PySem.F.plainAttrs_list PySem.F.slot_list_index PySem.F.type_list_index (mt_indexD hu) ho.pe (pa_cons ha.pe pa_nil hs) hbase hfew hline hs hplain, fun W hW ρ σ s H Q E h => ?_⟩
  refine ho.de W hW ρ σ s H _ E (h.bnd.imp fun x s1 H1 a1 e1 q v hv => ?_)
  have E1 := E.step a1 e1
  split at q
  · rename_i ds
    have hv : Rp _ v (.list ds) := hv
    cases hv with
    | lst h1 l1 r1 =>
      refine ⟨.inl ⟨rfl, _, SqL.of (Fz_sub _ _ h1)⟩, ?_⟩
      refine ha.de W hW ρ σ s1 H1 _ E1 (q.bnd.imp fun y s2 H2 a2 e2 q2 u hu => ?_)
      cases y with
      | v y => exact q2.elim
      | d y =>
        have q2 : Post W Wx σ H2 (lift (indexD ds y) s2) _ := q2
        cases hz : indexD ds y with
        | none => rw [hz] at q2; exact q2.elim
        | some z =>
          rw [hz] at q2
          unfold indexD at hz
          split at hz
          · rename_i hsh
            split at hz
            · rename_i j hj
              cases hz
              have hu : Rp _ u y := hu
              have r2 := r1.up (Frz.stp e2)
              obtain ⟨hlt, hyes, hno⟩ := List.findIdx?_eq_some_iff_getElem.mp hj
              exact ⟨_, u, y, ds, j, ds[j], rfl, rfl, .lst (SqL.of (Fz_sub _ _ (Frz.stp e2 _ _ h1))) (r2.up Fz_sub).dp, (hu.up Fz_sub).dp, hsh.1, hsh.2, List.getElem?_eq_getElem hlt, hyes, fun m z' hm hz' => by
                obtain ⟨hl', e'⟩ := List.getElem?_eq_some_iff.mp hz'
                have w := hno m hm
                rw [e'] at w
                simpa using w, q2.ok a2 _ (Rp.int _)⟩
            · cases hz
          · cases hz
  · exact q.elim
end
section
variable {P : Program} {w : World} {K : PySem.W.Frag} {mg : Str → Option Value} {base : Heap} {cl : Nat → Addr}
def exW (p : Addr) (c : Nat) (H0 : Hp) (hp : H0 p ≠ none) : Wd (Addr × Nat) where
  hid := fun q => q = p
  low := fun q => H0 q ≠ none
  at_ := fun s H => s = (p, c) ∧ Same H0 H
  ext := fun _ _ _ a b => ⟨a.1, a.2.trans b⟩
  mutn := fun _ H q o a _ l => ⟨a.1, Same.mut a.2 (by
    cases z : H0 q with
    | none => rfl
    | some o => exact absurd (by rw [z]; simp) l)⟩
  hidIn := fun _ H q a m => by
    subst m
    cases z : H0 q with
    | none => exact absurd z hp
    | some o => rw [a.2 q o z]; simp
  lowIn := fun _ H q a l => by
    cases z : H0 q with
    | none => exact absurd z l
    | some o => rw [a.2 q o z]; simp
theorem fn_err {x qual : Str} {st : Stmt} {f : Addr} {fd : FuncData} {N : List Str} {k m : Nat} {F : FS (Addr × Nat)} {y : Str} (Fn : Fun K x qual st f fd) (Sc : FnScope N [y] (defScope st)) (hm : N.length = 1 + m)
    (body : ∀ (cdv : Value) (A : Around) (outer : List PySem.Env) (s : Shared) (H : Hp) (E : XK), Room k (A.deeper (envOfC qual (defScope st) s.heap.objs.size f cdv)) →
      ∃ t, DXSs (cxOf (L2.CX P w) P w K mg base N qual (defScope st) f cdv A outer s H E) (exF cl) (WE1 cl E) (defBody st) t F)
    (hF : ∀ (p : Addr) (c : Nat), c < 5 → F (.v (.ref p) :: List.replicate m .no) (p, c) = .rt (.d (.str (nmE c))) (p, c)) :
    FnOk P w K mg base (L2.CX P w) (k + 1) f fd [y] (spErr cl) := by
  refine Fn.okX Sc (fun vs H Q E h => ?_) fun cdv A outer s H vs Q E hr h => ?_
  · obtain ⟨p, c, rfl, _⟩ := h
    rfl
  · obtain ⟨t, hb⟩ := body cdv A outer s H E hr
    obtain ⟨p, c, rfl, hc, hp, kq⟩ := h
    refine ⟨t, hb.ps, ?_⟩
    have hp0 : H p ≠ none := by rw [hp]; simp
    have es : L2.start N [V.ref p] = some (.ref p) :: List.replicate m none := by
      unfold L2.start
      have e : N.length - [V.ref p].length = m := by simp; omega
      rw [e]
      rfl
    rw [es]
    refine hb.ds (exW p c H hp0) (fun s1 H1 q => ?_) (.v (.ref p) :: List.replicate m .no) _ (p, c) H _ (env_of (by simp) ⟨rfl, Same.refl H⟩ ?_ ?_ ?_) ?_
    · obtain ⟨rfl, q2⟩ := q
      exact ⟨hc, q2 p _ hp⟩
    · intro i xs e
      match i with
      | 0 => cases e
      | i + 1 =>
        rw [List.getElem?_cons_succ, List.getElem?_replicate] at e
        split at e <;> cases e
    · intro i xs e
      match i with
      | 0 => cases e
      | i + 1 =>
        rw [List.getElem?_cons_succ, List.getElem?_replicate] at e
        split at e <;> cases e
    · intro i xs e
      match i with
      | 0 => cases e; rfl
      | i + 1 =>
        rw [List.getElem?_cons_succ, List.getElem?_replicate] at e
        split at e <;> cases e
    · rw [hF p c hc]
      intro v H2 q hv
      cases (show Rp _ v (.str (nmE c)) from hv)
      exact kq H2 q.2
end

/-! ### what the classes must say -/
structure ErrT (K : PySem.W.Frag) (cl : Nat → Addr) (CA : Addr) : Prop where
  E : ∀ c, c < 5 → ExcC K (cl c)
  A : ∀ c, c < 5 → PySem.W.exmOne K (.ref (cl c)) (.ref CA) = some true
  q : ∀ d, d < 5 → ∀ c, c < 5 → PySem.W.kitOne K (.ref (cl c)) (.ref (cl d)) = some (decide (c = d))
  qA : ∀ c, c < 5 → PySem.W.kitOne K (.ref (cl c)) (.ref CA) = some true
  qV : ∀ c, c < 5 → PySem.W.kitOne K (.ref (cl c)) (.type "ValueError") = some true
structure Er1 (K : PySem.W.Frag) (C CA : Addr) : Prop where
  E : ExcC K C
  t : PySem.W.typeIn K (.ref C) = some (.type "type")
  own : PySem.W.subIn K (.ref C) (.ref C) = some true
  up : PySem.W.subIn K (.ref C) (.ref CA) = some true
  val : PySem.W.subIn K (.ref C) (.type "ValueError") = some true
theorem kit_ref {K : PySem.W.Frag} {D C : Addr} {b : Bool} (h0 : PySem.W.subIn K (.ref D) (.ref D) = some true) (hd : PySem.W.hasDictIn K C = true) (ht : PySem.W.typeIn K (.ref C) = some (.type "type")) (h : PySem.W.subIn K (.ref D) (.ref C) = some b) : PySem.W.kitOne K (.ref D) (.ref C) = some b := by
  obtain ⟨cd, hc, _⟩ := PySem.W.any_some hd
  unfold PySem.W.kitOne
  by_cases e : D = C
  · subst e
    rw [h0] at h
    cases h
    rw [if_pos (by simp)]
  · rw [if_neg (by simp [e])]
    unfold PySem.W.kitCls
    dsimp only
    rw [if_pos (by rw [hc, ht]; rfl)]
    exact h
theorem errT_mk {K : PySem.W.Frag} {cl : Nat → Addr} {CA : Addr} (h : ∀ c, c < 5 → Er1 K (cl c) CA) (hs : PySem.W.subIn K (.ref CA) (.type "BaseException") = some true) (hd : PySem.W.hasDictIn K CA = true) (ht : PySem.W.typeIn K (.ref CA) = some (.type "type"))
    (hn : ∀ c d, c < 5 → d < 5 → c ≠ d → PySem.W.subIn K (.ref (cl c)) (.ref (cl d)) = some false) : ErrT K cl CA where
  E := fun c hc => (h c hc).E
  A := fun c hc => PySem.W.exm_ref hs hd ht (h c hc).up
  q := fun d hd' c hc => kit_ref (h c hc).own (h d hd').E.hd (h d hd').t (by
    by_cases e : c = d
    · subst e; rw [decide_eq_true rfl]; exact (h c hc).own
    · rw [decide_eq_false e]; exact hn c d hc hd' e)
  qA := fun c hc => kit_ref (h c hc).own hd ht (h c hc).up
  qV := fun c hc => by
    unfold PySem.W.kitOne
    rw [if_neg (by simp)]
    unfold PySem.W.kitCls
    dsimp only
    rw [if_pos (by decide +kernel)]
    exact (h c hc).val
theorem rel_ref {p : Addr} : ∀ u, RelV (.ref p) u → u = Value.ref p := fun _ h => h
theorem rel_ty {n : String} : ∀ u, RelV (.ty n) u → u = Value.type n := fun _ h => h
theorem isX_at {i : Nat} {f : Nat → Bool} {ρ : Env} {p : Addr} {c : Nat} (h : ρ[i]? = some (.v (.ref p))) : eIsX i f ρ (p, c) = .ok (.d (.bool (f c))) (p, c) := by
  unfold eIsX
  rw [h]
  exact if_pos rfl
def F_err : FS (Addr × Nat) := (sSeq (sSet 1 (eLst (aCons (eIsX 0 (fun c => decide (c = 0))) (aCons (eIsX 0 (fun c => decide (c = 1))) (aCons (eIsX 0 (fun c => decide (c = 2))) aNil)))))
  (sSeq (sSet 1 (eOp addD (eVar 1) (eLst (aCons (eIsX 0 (fun c => decide (c = 3))) (aCons (eIsX 0 (fun c => decide (c = 4))) aNil)))))
  (sSeq (sIf (fOr (fun ρ s => tstOf ((eOp neD (eBmL countD (eVar 1) (eC (.bool true))) (eC (.int 1))) ρ s)) (fOr (fNot (fun ρ s => tstOf ((eIsX 0 (fun _ => true)) ρ s))) (fNot (fun ρ s => tstOf ((eIsX 0 (fun _ => true)) ρ s))))) (sRet (eC (.str "odd"))) sNil)
  (sRet (eOp ixD (eLst (aCons (eC (.str "things")) (aCons (eC (.str "number")) (aCons (eC (.str "points")) (aCons (eC (.str "text")) (aCons (eC (.str "none")) aNil)))))) (eBmL indexD (eVar 1) (eC (.bool true))))))))
theorem lst_threeT {S : Type} {a b c : FE S} {x y z : D} {ρ : Env} {s : S} (ha : a ρ s = .ok (.d x) s) (hb : b ρ s = .ok (.d y) s) (hc : c ρ s = .ok (.d z) s) : eLst (aCons a (aCons b (aCons c aNil))) ρ s = .ok (.d (.list [x, y, z])) s := by
  simp [eLst, aCons, aNil, ha, hb, hc, Res.bnd, datas, lift, lim]
theorem lst_twoT {S : Type} {a b : FE S} {x y : D} {ρ : Env} {s : S} (ha : a ρ s = .ok (.d x) s) (hb : b ρ s = .ok (.d y) s) : eLst (aCons a (aCons b aNil)) ρ s = .ok (.d (.list [x, y])) s := by
  simp [eLst, aCons, aNil, ha, hb, Res.bnd, datas, lift, lim]
theorem op_ofT {S : Type} {op : D → D → Option D} {fa fb : FE S} {x y z : D} {ρ : Env} {s : S} (ha : fa ρ s = .ok (.d x) s) (hb : fb ρ s = .ok (.d y) s) (h : op x y = some z) : eOp op fa fb ρ s = .ok (.d z) s := by
  simp [eOp, ha, hb, h, Res.bnd, lift]
def fErrT : FT (Addr × Nat) := (fOr (fNot (fun ρ s => tstOf ((eIsX 0 (fun _ => true)) ρ s))) (fNot (fun ρ s => tstOf ((eIsX 0 (fun _ => true)) ρ s))))
theorem errT_at {ρ : Env} {p : Addr} {c : Nat} (h : ρ[0]? = some (.v (.ref p))) : fErrT ρ (p, c) = .ok false (p, c) := by
  simp [fErrT, fOr, fNot, isX_at h, tstOf, Res.bnd]
theorem seq_nxT {S : Type} {F G : FS S} {ρ ρ' : Env} {s s' : S} (h : F ρ s = .nx ρ' s') : sSeq F G ρ s = G ρ' s' := by
  unfold sSeq
  rw [h]
  rfl
theorem err_run : ∀ (p : Addr) (c : Nat), c < 5 → F_err (.v (.ref p) :: List.replicate 1 .no) (p, c) = .rt (.d (.str (nmE c))) (p, c) := by
  intro p c hc
  have e1 : sSet 1 (eLst (aCons (eIsX 0 (fun c => decide (c = 0))) (aCons (eIsX 0 (fun c => decide (c = 1))) (aCons (eIsX 0 (fun c => decide (c = 2))) aNil)))) (.v (.ref p) :: List.replicate 1 .no) (p, c) = .nx [.v (.ref p), .d (.list [.bool (decide (c = 0)), .bool (decide (c = 1)), .bool (decide (c = 2))])] (p, c) := by
    unfold sSet
    rw [lst_threeT (isX_at rfl) (isX_at rfl) (isX_at rfl)]
    rfl
  have e2 : sSet 1 (eOp addD (eVar 1) (eLst (aCons (eIsX 0 (fun c => decide (c = 3))) (aCons (eIsX 0 (fun c => decide (c = 4))) aNil)))) [.v (.ref p), .d (.list [.bool (decide (c = 0)), .bool (decide (c = 1)), .bool (decide (c = 2))])] (p, c) = .nx [.v (.ref p), .d (.list [.bool (decide (c = 0)), .bool (decide (c = 1)), .bool (decide (c = 2)), .bool (decide (c = 3)), .bool (decide (c = 4))])] (p, c) := by
    unfold sSet
    rw [op_ofT (x := .list [.bool (decide (c = 0)), .bool (decide (c = 1)), .bool (decide (c = 2))]) (y := .list [.bool (decide (c = 3)), .bool (decide (c = 4))]) (z := .list [.bool (decide (c = 0)), .bool (decide (c = 1)), .bool (decide (c = 2)), .bool (decide (c = 3)), .bool (decide (c = 4))]) rfl (lst_twoT (isX_at rfl) (isX_at rfl)) (by simp [addD, lim])]
    rfl
  refine (seq_nxT e1).trans ((seq_nxT e2).trans ?_)
  have e3 : ∀ l : List D, eOp neD (eBmL countD (eVar 1) (eC (.bool true))) (eC (.int 1)) [.v (.ref p), .d (.list l)] (p, c) = .ok (.d (.bool (decide ((l.countP fun z => PyData.eqv z (.bool true)) ≠ 1)))) (p, c) → (sSeq (sIf (fOr (fun ρ s => tstOf ((eOp neD (eBmL countD (eVar 1) (eC (.bool true))) (eC (.int 1))) ρ s)) fErrT) (sRet (eC (.str "odd"))) sNil)
  (sRet (eOp ixD (eLst (aCons (eC (.str "things")) (aCons (eC (.str "number")) (aCons (eC (.str "points")) (aCons (eC (.str "text")) (aCons (eC (.str "none")) aNil)))))) (eBmL indexD (eVar 1) (eC (.bool true)))))) [.v (.ref p), .d (.list l)] (p, c) = if (l.countP fun z => PyData.eqv z (.bool true)) ≠ 1 then .rt (.d (.str "odd")) (p, c) else (sRet (eOp ixD (eLst (aCons (eC (.str "things")) (aCons (eC (.str "number")) (aCons (eC (.str "points")) (aCons (eC (.str "text")) (aCons (eC (.str "none")) aNil)))))) (eBmL indexD (eVar 1) (eC (.bool true))))) [.v (.ref p), .d (.list l)] (p, c) := by
    intro l he
    by_cases h : (l.countP fun z => PyData.eqv z (.bool true)) ≠ 1
    · rw [if_pos h]
      rw [decide_eq_true h] at he
      simp [sSeq, sIf, fOr, he, tstOf, Res.bnd, Res.out, sRet, eC, Out.seq]
    · rw [if_neg h]
      rw [decide_eq_false h] at he
      simp [sSeq, sIf, fOr, he, tstOf, Res.bnd, Res.out, sNil, Out.seq, errT_at]
  match c, hc with
  | 0, _ => refine (e3 _ rfl).trans rfl
  | 1, _ => refine (e3 _ rfl).trans rfl
  | 2, _ => refine (e3 _ rfl).trans rfl
  | 3, _ => refine (e3 _ rfl).trans rfl
  | 4, _ => refine (e3 _ rfl).trans rfl

/-! ### a, b, c, d = (0, 0, 0, []) -/
section
variable {S : Type} {X : Cx} {𝒲 : Fam S} {Wx : Wsh}
def sPar4M (i j k l : Nat) (a b c : Int) : FS S := fun ρ s => .nx ((((ρ.set i (.d (.int a))).set j (.d (.int b))).set k (.d (.int c))).set l (.m [])) s
theorem ds_par4M (i j k l : Nat) {x1 x2 x3 x4 : Str} {a b c : Int} {m1 m2 m3 m4 m6 : Nat} {p1 p2 p3 p4 p5 p6 p7 p8 p9 q1 q2 : Pos} (hc : X.calm = true) (hN : X.N.Nodup)
    (h1 : X.N[i]? = some x1 := by rfl) (h2 : X.N[j]? = some x2 := by rfl) (h3 : X.N[k]? = some x3 := by rfl) (h4 : X.N[l]? = some x4 := by rfl)
    (o1 : Loc X.env.scope x1 := by first | exact .inl rfl | exact .inr rfl) (o2 : Loc X.env.scope x2 := by first | exact .inl rfl | exact .inr rfl) (o3 : Loc X.env.scope x3 := by first | exact .inl rfl | exact .inr rfl) (o4 : Loc X.env.scope x4 := by first | exact .inl rfl | exact .inr rfl)
    (f1 : X.fn x1 = true ∨ X.env.scope.names.lookup x1 = some .local := by first | exact .inl rfl | exact .inr rfl) (f2 : X.fn x2 = true ∨ X.env.scope.names.lookup x2 = some .local := by first | exact .inl rfl | exact .inr rfl)
    (f3 : X.fn x3 = true ∨ X.env.scope.names.lookup x3 = some .local := by first | exact .inl rfl | exact .inr rfl) (f4 : X.fn x4 = true ∨ X.env.scope.names.lookup x4 = some .local := by first | exact .inl rfl | exact .inr rfl)
    (hn : (assignEach [.Name x1 p1, .Name x2 p2, .Name x3 p3, .Name x4 p4] X.env).length = 4 := by rfl) (hst : (assignEach [.Name x1 p1, .Name x2 p2, .Name x3 p3, .Name x4 p4] X.env).findIdx? (·.1) = none := by rfl)
    (hs : swapsWithSole [.Tuple [.Name x1 p1, .Name x2 p2, .Name x3 p3, .Name x4 p4] m1 p5] (.Tuple [.Constant (.int a) m2 p6, .Constant (.int b) m3 p7, .Constant (.int c) m4 p8, .List [] p9] m6 q1) q2.line X.env = pure false := by rfl) (hw : swappedStores [.Tuple [.Name x1 p1, .Name x2 p2, .Name x3 p3, .Name x4 p4] m1 p5] (.Tuple [.Constant (.int a) m2 p6, .Constant (.int b) m3 p7, .Constant (.int c) m4 p8, .List [] p9] m6 q1) X.env = pure none := by rfl) (hq : (assignEach [.Tuple [.Name x1 p1, .Name x2 p2, .Name x3 p3, .Name x4 p4] m1 p5] X.env).map (·.2) = [assign (.Tuple [.Name x1 p1, .Name x2 p2, .Name x3 p3, .Name x4 p4] m1 p5) X.env] := by rfl) :
    DXS X 𝒲 Wx (.Assign [.Tuple [.Name x1 p1, .Name x2 p2, .Name x3 p3, .Name x4 p4] m1 p5] (.Tuple [.Constant (.int a) m2 p6, .Constant (.int b) m3 p7, .Constant (.int c) m4 p8, .List [] p9] m6 q1) q2)
      (tAsg (tTup (tCons (tC (.int a)) (tCons (tC (.int b)) (tCons (tC (.int c)) (tCons (tLst tNil) tNil))))) (gTup X.K 4 (gCons (gName i) (gCons (gName j) (gCons (gName k) (gCons (gName l) gNil)))))) (sPar4M i j k l a b c) := by
  refine ⟨ps_asg (pe_tup (pa_cons pe_int (pa_cons pe_int (pa_cons pe_int (pa_cons (pe_lst pa_nil) pa_nil))))) (pg_tup hc (pgs_cons (pg_name hN h1 o1 f1) (pgs_cons (pg_name hN h2 o2 f2) (pgs_cons (pg_name hN h3 o3 f3) (pgs_cons (pg_name hN h4 o4 f4) pgs_nil)))) hn hst) hs hw hq, fun W hW ρ σ s H D E h => ?_⟩
  refine ⟨Nat.zero_le _, fun p hp => ⟨(by show 4 ≤ sizeLine; rw [sizeLine_eq]; decide), fun t ht => ?_⟩⟩
  have hpt : p ≠ t := fun z => by rw [← z, upd_same] at ht; cases ht
  refine ⟨_, _, rfl, SqT.of upd_same, rfl, _, _, rfl, _, _, rfl, _, _, rfl, _, _, rfl, rfl, ?_⟩
  have sm : Same H (upd (upd H p (.lst [])) t (.tup [.int a, .int b, .int c, .ref p])) := (Same.new hp).trans (Same.new ht)
  have E1 := E.setD i (d := .d (.int a)) (v := .int a) (.int a)
  have E2 := E1.setD j (d := .d (.int b)) (v := .int b) (.int b)
  have E3 := E2.setD k (d := .d (.int c)) (v := .int c) (.int c)
  obtain ⟨E4, g4⟩ := E3.setM (W.ext _ _ _ E.at_ sm) (Stp.of sm) l (p := p) (vs := []) (ds := []) hp (by rw [upd_ne hpt]; exact upd_same) (Nat.zero_le _) .nil
  have g1 : Grow W ρ σ H _ _ H := Grow.setD (i := i) (d := .d (.int a)) (v := some (.int a))
  have g2 := Grow.setD (W := W) (H := H) (ρ := ρ.set i (Sl.of (.d (.int a)))) (σ := σ.set i (some (.int a))) (i := j) (d := .d (.int b)) (v := some (.int b))
  have g3 := Grow.setD (W := W) (H := H) (ρ := (ρ.set i (Sl.of (.d (.int a)))).set j (Sl.of (.d (.int b)))) (σ := (σ.set i (some (.int a))).set j (some (.int b))) (i := k) (d := .d (.int c)) (v := some (.int c))
  exact h _ _ E4 (Same.trans (Same.trans (Same.trans g1 g2) g3) g4)
end
end DL

namespace DL
open PySem PySem.Spec PyProof.Rows L2
/-! ### str(i), sep.join(list of texts) -/
def strD : List D → Option D
  | [.int i] => if i.natAbs.log2 < 1920 ∧ (toString i : Str).length ≤ lim ∧ PyData.strOk (toString i) = true then some (.str (toString i)) else none
  | _ => none
theorem sa_str : SA (fun xs H Q => ∃ i, xs = [.int i] ∧ i.natAbs.log2 < 1920 ∧ Q (.str (toString i)) H) strD := by
  intro P H xs ds z Q hP hx ho k
  match ds, ho with
  | [.int i], ho =>
    obtain ⟨⟨h1, h2, h3⟩, rfl⟩ := ite_some ho
    obtain ⟨v, rfl, r⟩ := rp1 hx
    cases r
    exact ⟨i, rfl, h1, k _ _ (Same.refl _) (.str _ h2 h3)⟩
def strsOf : List D → Option (List Str)
  | [] => some []
  | .str x :: r => (strsOf r).map (x :: ·)
  | _ => none
theorem strs_rp {F : Hp} : ∀ {vs : List V} {ds : List D} {ys : List Str}, RpAll F vs ds → strsOf ds = some ys → vs = ys.map V.str
  | _, [], _, h, e => by cases h; cases e; rfl
  | _, .str x :: r, ys, h, e => by
    cases h with
    | cons a b =>
      cases a
      obtain ⟨zs, e1, rfl⟩ := Option.map_eq_some_iff.mp (show (strsOf r).map (x :: ·) = some ys from e)
      rw [strs_rp b e1]
      rfl
def joinD (a : Str) (ds : List D) : Option D := (strsOf ds).bind fun ys => if (ys.map (·.length)).sum + ys.length * a.length ≤ 16777216 ∧ (Txt.join a ys).length ≤ lim ∧ PyData.strOk (Txt.join a ys) = true then some (.str (Txt.join a ys)) else none
def eJoin {S : Type} (fo fa : FE S) : FE S := fun ρ s => (fo ρ s).bnd fun x s => match x with
  | .d (.str a) => (fa ρ s).bnd fun y s => (match y with
    | .d (.list ds) => lift (joinD a ds) s
    | _ => .bad)
  | _ => .bad
section
variable {S : Type} {X : Cx} {𝒲 : Fam S} {Wx : Wsh} {a o : Expr} {ta to : TE} {fa fo : FE S}
theorem dx_join {apos cpos : Pos} (ho : DX X 𝒲 Wx o to fo) (ha : DX X 𝒲 Wx a ta fa) (hbase : attributeBase o "join" X.env (eval o X.env) = eval o X.env := by rfl)
    (hfew : ((backTo cpos (starEach [a] X.env)).all (fun x => !x.1) && (backToKw cpos (keywordEach [] X.env)).all (fun x => x.1.isSome)
      && decide ([a].length + ([] : List Keyword).length + (if ([] : List Keyword).isEmpty then 0 else 1) < 30)) = true := by rfl)
    (hline : (apos.endLine == cpos.line) = true := by rfl) (hs : starEach [a] X.env = (false, eval a X.env) :: starEach [] X.env := by rfl) (hplain : (backTo cpos (starEach [] X.env)).any (·.1) = false := by rfl) :
    DX X 𝒲 Wx (.Call (.Attribute o "join" apos) [a] [] cpos) (tBM X.K "str" (fun x xs H Q => ∃ a p, ∃ ys : List Str, x = .str a ∧ xs = [.ref p] ∧ (SqL X.K H p (ys.map V.str) ∨ SqT X.K H p (ys.map V.str)) ∧
      (ys.map (·.length)).sum + ys.length * a.length ≤ 16777216 ∧ Q (.str (Txt.join a ys)) H) to (tCons ta tNil)) (eJoin fo fa) := by
  refine ⟨pe_bm PySem.F.plainAttrs_str PySem.F.slot_str_join PySem.F.type_str_join mt_join ho.pe (pa_cons ha.pe pa_nil hs) hbase hfew hline hs hplain, fun W hW ρ σ s H Q E h => ?_⟩
  refine ho.de W hW ρ σ s H _ E (h.bnd.imp fun x s1 H1 a1 e1 q v hv => ?_)
  have E1 := E.step a1 e1
  split at q
  · rename_i z
    cases (show Rp _ v (.str z) from hv)
    refine ⟨(rfl : ("str" : String) = "str"), ?_⟩
    refine ha.de W hW ρ σ s1 H1 _ E1 (q.bnd.imp fun y s2 H2 a2 e2 q2 u hu => ?_)
    split at q2
    · rename_i ds
      have hu : Rp _ u (.list ds) := hu
      cases hu with
      | lst g1 g2 g3 =>
        cases hz : joinD z ds with
        | none => rw [hz] at q2; exact q2.elim
        | some w =>
          rw [hz] at q2
          obtain ⟨ys, hy, hw⟩ := Option.bind_eq_some_iff.mp (show (strsOf ds).bind _ = some w from hz)
          obtain ⟨⟨b1, b2, b3⟩, rfl⟩ := ite_some hw
          have ev := strs_rp g3 hy
          subst ev
          exact ⟨z, _, ys, rfl, rfl, .inl (SqL.of (Fz_sub _ _ g1)), b1, q2.ok a2 _ (Rp.str _ b2 b3)⟩
    · exact q2.elim
  · exact q.elim
end
end DL

namespace DL
open PySem L2
/-! ### typed data -/
def eTh (x : Int × Bool) : D := .tuple [.int x.1, .bool x.2]
def ePt (x : Int × Int) : D := .tuple [.int x.1, .int x.2]
def eThs (l : List (Int × Bool)) : D := .list (l.map eTh)
def ePts (l : List (Int × Int)) : D := .list (l.map ePt)
def eIs (l : List Int) : D := .list (l.map .int)
/-! ### how the combinators run -/
section
variable {S : Type} {f fa fb fc : FE S} {g : FA S} {F G : FS S} {h k : FT S} {ρ ρ1 : Env} {s s1 s2 : S} {x y z d : D} {xs : List Dv} {ds : List D} {o : Out S} {b c : Bool} {i n : Nat}
theorem ev_seq (a : F ρ s = .nx ρ1 s1) (e : G ρ1 s1 = o) : sSeq F G ρ s = o := by unfold sSeq; rw [a]; exact e
theorem ev_seqR {v : Dv} (a : F ρ s = .rt v s1) : sSeq F G ρ s = .rt v s1 := by unfold sSeq; rw [a]; rfl
theorem ev_seqE (a : F ρ s = .er n ρ1 s1) : sSeq F G ρ s = .er n ρ1 s1 := by unfold sSeq; rw [a]; rfl
theorem ev_set {v : Dv} (a : f ρ s = .ok v s1) : sSet i f ρ s = .nx (ρ.set i (Sl.of v)) s1 := by unfold sSet; rw [a]; rfl
theorem ev_setM {l : FL S} (a : l ρ s = .ok ds s1) : sSetM i l ρ s = .nx (ρ.set i (.m ds)) s1 := by unfold sSetM; rw [a]; rfl
theorem ev_ret {v : Dv} (a : f ρ s = .ok v s1) : sRet f ρ s = .rt v s1 := by unfold sRet; rw [a]; rfl
theorem ev_drop {v : Dv} (a : f ρ s = .ok v s1) : sDrop f ρ s = .nx ρ s1 := by unfold sDrop; rw [a]; rfl
theorem ev_dropE (a : f ρ s = .er n s1) : sDrop f ρ s = .er n ρ s1 := by unfold sDrop; rw [a]; rfl
theorem ev_if (a : h ρ s = .ok b s1) (e : (if b = true then F ρ s1 else G ρ s1) = o) : sIf h F G ρ s = o := by unfold sIf; rw [a]; exact e
theorem ev_ifT (a : h ρ s = .ok true s1) (e : F ρ s1 = o) : sIf h F G ρ s = o := ev_if a e
theorem ev_ifF (a : h ρ s = .ok false s1) (e : G ρ s1 = o) : sIf h F G ρ s = o := ev_if a e
theorem ev_asg {p : D → Env → Option Env} (a : f ρ s = .ok (.d d) s1) (e : p d ρ = some ρ1) : sAsg p f ρ s = .nx ρ1 s1 := by unfold sAsg; rw [a]; dsimp only [Res.out]; rw [e]
theorem ev_par {j : Nat} {u v : Dv} (a : g ρ s = .ok [u, v] s1) : sPar i j g ρ s = .nx ((ρ.set i (Sl.of u)).set j (Sl.of v)) s1 := by unfold sPar; rw [a]; rfl
theorem ev_par3 {j l : Nat} {u v w : Dv} (a : g ρ s = .ok [u, v, w] s1) : sPar3 i j l g ρ s = .nx (((ρ.set i (Sl.of u)).set j (Sl.of v)).set l (Sl.of w)) s1 := by unfold sPar3; rw [a]; rfl
theorem ev_aug {op : D → D → Option D} (e : ρ[i]? = some (.d x)) (a : f ρ s = .ok (.d y) s1) (q : op x y = some z) : sAug i op f ρ s = .nx (ρ.set i (.d z)) s1 := by unfold sAug; rw [e]; dsimp only; rw [a]; dsimp only [Res.out]; rw [q]
theorem ev_app (e : ρ[i]? = some (.m ds)) (a : f ρ s = .ok (.d y) s1) (q : ds.length < lim) : sApp i f ρ s = .nx (ρ.set i (.m (ds ++ [y]))) s1 := by unfold sApp; rw [e]; dsimp only; rw [a]; dsimp only [Res.out]; rw [if_pos q]
theorem ev_call {op : List D → Option D} (a : g ρ s = .ok xs s1) (e : datas xs = some ds) (q : op ds = some z) : eCall op g ρ s = .ok (.d z) s1 := by unfold eCall; rw [a]; dsimp only [Res.bnd]; rw [e]; dsimp only [Option.bind]; rw [q]; rfl
theorem ev_cons {u : Dv} {us : List Dv} (a : f ρ s = .ok u s1) (e : g ρ s1 = .ok us s2) : aCons f g ρ s = .ok (u :: us) s2 := by unfold aCons; rw [a]; dsimp only [Res.bnd]; rw [e]
theorem ev_fn {sem : List D → Res Unit D} (a : g ρ s = .ok xs s1) (e : datas xs = some ds) (l : ds.length = n) (q : sem ds = .ok d ()) : eFn n sem g ρ s = .ok (.d d) s1 := by unfold eFn; rw [a]; dsimp only [Res.bnd]; rw [e]; dsimp only; rw [if_pos l, q]
theorem ev_fnE {sem : List D → Res Unit D} {c : Nat} {u : Unit} (a : g ρ s = .ok xs s1) (e : datas xs = some ds) (l : ds.length = n) (q : sem ds = .er c u) : eFn n sem g ρ s = .er c s1 := by unfold eFn; rw [a]; dsimp only [Res.bnd]; rw [e]; dsimp only; rw [if_pos l, q]
theorem ev_fnS {g : FA DSt} {s s1 s2 : DSt} {p : Addr} {sem : List D → DSt → Res DSt D} {us : List Dv} (a : g ρ s = .ok (.v (.ref p) :: us) s1) (hp : p = s1.a) (e : datas us = some ds) (l : ds.length + 1 = n) (q : sem ds s1 = .ok d s2) (nx : Nx s1 s2) : eFnS n sem g ρ s = .ok (.d d) s2 := by
  unfold eFnS; rw [a]; dsimp only [Res.bnd]; rw [e]; dsimp only; rw [if_pos ⟨hp, l⟩, q]; dsimp only; rw [if_pos ⟨nx.a, nx.b⟩]
theorem ev_new {l : FL S} (a : l ρ s = .ok ds s1) : eNew l ρ s = .ok (.d (.list ds)) s1 := by unfold eNew; rw [a]; rfl
theorem ev_op {op : D → D → Option D} (a : fa ρ s = .ok (.d x) s1) (e : fb ρ s1 = .ok (.d y) s2) (q : op x y = some z) : eOp op fa fb ρ s = .ok (.d z) s2 := by unfold eOp; rw [a]; dsimp only [Res.bnd]; rw [e]; dsimp only; rw [q]; rfl
theorem ev_tst (a : f ρ s = .ok (.d (.bool b)) s1) : tstOf (f ρ s) = .ok b s1 := by unfold tstOf; rw [a]; rfl
theorem ev_eIf {v : Dv} (a : h ρ s = .ok b s1) (e : (if b = true then fa ρ s1 else fb ρ s1) = .ok v s2) : eIf h fa fb ρ s = .ok v s2 := by unfold eIf; rw [a]; exact e
theorem ev_and (a : h ρ s = .ok b s1) (e : b = true → k ρ s1 = .ok c s1) : fAnd h k ρ s = .ok (b && c) s1 := by
  unfold fAnd; rw [a]; dsimp only [Res.bnd]
  cases b with
  | true => rw [if_pos rfl, e rfl]; rfl
  | false => rfl
theorem ev_or (a : h ρ s = .ok b s1) (e : b = false → k ρ s1 = .ok c s1) : fOr h k ρ s = .ok (b || c) s1 := by
  unfold fOr; rw [a]; dsimp only [Res.bnd]
  cases b with
  | false => rw [if_neg Bool.false_ne_true, e rfl]; rfl
  | true => rfl
theorem ev_eqT (e : b = c) (a : h ρ s = .ok b s1) : h ρ s = .ok c s1 := e ▸ a
theorem ev_not (a : h ρ s = .ok b s1) : fNot h ρ s = .ok (!b) s1 := by unfold fNot; rw [a]; rfl
theorem ev_andV (a : fa ρ s = .ok (.d (.bool b)) s1) (e : b = true → fb ρ s1 = .ok (.d (.bool c)) s1) : eAnd fa fb ρ s = .ok (.d (.bool (b && c))) s1 := by
  unfold eAnd; rw [a]; dsimp only [Res.bnd]
  cases b with
  | true => exact e rfl
  | false => rfl
theorem ev_orV (a : fa ρ s = .ok (.d (.bool b)) s1) (e : b = false → fb ρ s1 = .ok (.d (.bool c)) s1) : eOr fa fb ρ s = .ok (.d (.bool (b || c))) s1 := by
  unfold eOr; rw [a]; dsimp only [Res.bnd]
  cases b with
  | false => exact e rfl
  | true => rfl
theorem ev_notV (a : fa ρ s = .ok (.d (.bool b)) s1) : eNot fa ρ s = .ok (.d (.bool (!b))) s1 := by unfold eNot; rw [a]; rfl
theorem ev_tup (a : g ρ s = .ok xs s1) (e : datas xs = some ds) (l : ds.length ≤ lim) : eTup g ρ s = .ok (.d (.tuple ds)) s1 := by unfold eTup; rw [a]; dsimp only [Res.bnd]; rw [e]; dsimp only [Option.bind]; rw [if_pos l]; rfl
theorem ev_lst (a : g ρ s = .ok xs s1) (e : datas xs = some ds) (l : ds.length ≤ lim) : eLst g ρ s = .ok (.d (.list ds)) s1 := by unfold eLst; rw [a]; dsimp only [Res.bnd]; rw [e]; dsimp only [Option.bind]; rw [if_pos l]; rfl
theorem ev_lLst (a : g ρ s = .ok xs s1) (e : datas xs = some ds) (l : ds.length ≤ lim) : lLst g ρ s = .ok ds s1 := by unfold lLst; rw [a]; dsimp only [Res.bnd]; rw [e]; dsimp only; rw [if_pos l]
theorem ev_lList (a : fa ρ s = .ok (.d (.list ds)) s1) : lList fa ρ s = .ok ds s1 := by unfold lList; rw [a]; rfl
theorem ev_lTup (a : fa ρ s = .ok (.d (.tuple ds)) s1) : lTup fa ρ s = .ok ds s1 := by unfold lTup; rw [a]; rfl
theorem ev_rev (a : fa ρ s = .ok (.d (.list ds)) s1) : eRev fa ρ s = .ok (.d (.list ds.reverse)) s1 := by unfold eRev; rw [a]; rfl
theorem ev_for {p : D → Env → Option Env} {l : FL S} (a : l ρ s = .ok ds s1) (e : loopS p F ds ρ s1 = o) : sFor l p F ρ s = o := by unfold sFor; rw [a]; exact e
theorem ev_rng1 {j : Int} (a : g ρ s = .ok [.d (.int j)] s1) (h : j ≤ (lim : Int)) (h0 : 0 ≤ j) : lRng1 g ρ s = .ok (rngL 0 j.toNat) s1 := by
  unfold lRng1; rw [a]; dsimp only [Res.bnd]; rw [if_pos ⟨h, by omega⟩]
theorem ev_bml {op : List D → D → Option D} (a : fa ρ s = .ok (.d (.list ds)) s1) (e : fb ρ s1 = .ok (.d y) s2) (q : op ds y = some z) : eBmL op fa fb ρ s = .ok (.d z) s2 := by unfold eBmL; rw [a]; dsimp only [Res.bnd]; rw [e]; dsimp only [Res.bnd]; rw [q]; rfl
theorem ev_chainT {o1 o2 : D → D → Option D} (a : fa ρ s = .ok (.d x) s) (e : fb ρ s = .ok (.d y) s) (q : o1 x y = some (.bool b)) (a2 : fc ρ s = .ok (.d z) s) (q2 : o2 y z = some (.bool c)) : eChain o1 o2 fa fb fc ρ s = .ok (.d (.bool (b && c))) s := by
  unfold eChain; rw [a]; dsimp only [Res.bnd]; rw [e]; dsimp only [Res.bnd]; rw [q]
  cases b with
  | true => dsimp only; rw [a2]; dsimp only [Res.bnd]; rw [q2]; rfl
  | false => rfl
/-- what a def makes, from its run -/
theorem sem_rt {F : FS Unit} {m : Nat} (a : F (ds.map .d ++ List.replicate m .no) () = .rt (.d d) ()) : fnSem m F ds = .ok d () := by unfold fnSem; rw [a]
theorem sem_nx {F : FS Unit} {m : Nat} (a : F (ds.map .d ++ List.replicate m .no) () = .nx ρ ()) : fnSem m F ds = .ok .none () := by unfold fnSem; rw [a]
theorem sem_er {F : FS Unit} {m : Nat} (a : F (ds.map .d ++ List.replicate m .no) () = .er n ρ ()) : fnSem m F ds = .er n () := by unfold fnSem; rw [a]
theorem semS_rt {F : FS DSt} {m : Nat} {s s1 : DSt} (a : F (.v (.ref s.a) :: (ds.map .d ++ List.replicate m .no)) s = .rt (.d d) s1) : semS m F ds s = .ok d s1 := by unfold semS; rw [a]; rfl
end
/-! ### comprehensions and loops over typed lists -/
section
variable {S : Type} {α : Type}
theorem compS_ok {p : D → Env → Option Env} {ft : FT S} {fe : FE S} {ρ : Env} {s : S} {enc : α → D} {b : α → Bool} {g : α → D} : ∀ {xs : List α}, (∀ x ∈ xs, ∃ ρ', p (enc x) ρ = some ρ' ∧ ft ρ' s = .ok (b x) s ∧ (b x = true → fe ρ' s = .ok (.d (g x)) s)) →
    compS p ft fe ρ (xs.map enc) s = .ok ((xs.filter b).map g) s
  | [], _ => rfl
  | x :: xs, h => by
    obtain ⟨ρ', h1, h2, h3⟩ := h x (by simp)
    have ih := compS_ok (xs := xs) fun y hy => h y (by simp [hy])
    rw [List.map_cons, compS, h1]
    dsimp only
    rw [h2]
    dsimp only
    cases hb : b x with
    | true =>
      rw [if_pos rfl, h3 hb]
      dsimp only
      rw [ih, List.filter_cons, if_pos hb]
      rfl
    | false =>
      rw [if_neg Bool.false_ne_true, ih, List.filter_cons, if_neg (by simp [hb])]
theorem lComp_ok {f : FL S} {vs : List Nat} {p : D → Env → Option Env} {ft : FT S} {fe : FE S} {ρ ρ1 : Env} {s s1 : S} {enc : α → D} {b : α → Bool} {g : α → D} {xs : List α} (hw : wipeE vs ρ = some ρ1) (hi : f ρ s = .ok (xs.map enc) s1)
    (h : ∀ x ∈ xs, ∃ ρ', p (enc x) ρ1 = some ρ' ∧ ft ρ' s1 = .ok (b x) s1 ∧ (b x = true → fe ρ' s1 = .ok (.d (g x)) s1)) : lComp f vs p ft fe ρ s = .ok ((xs.filter b).map g) s1 := by
  unfold lComp
  rw [hw]
  dsimp only
  rw [hi]
  exact compS_ok h
/-- without a test -/
theorem lComp_map {f : FL S} {vs : List Nat} {p : D → Env → Option Env} {fe : FE S} {ρ ρ1 : Env} {s s1 : S} {enc : α → D} {g : α → D} {xs : List α} (hw : wipeE vs ρ = some ρ1) (hi : f ρ s = .ok (xs.map enc) s1)
    (h : ∀ x ∈ xs, ∃ ρ', p (enc x) ρ1 = some ρ' ∧ fe ρ' s1 = .ok (.d (g x)) s1) : lComp f vs p fYes fe ρ s = .ok (xs.map g) s1 := by
  have q := lComp_ok (ft := fYes) (fe := fe) (b := fun _ => true) (g := g) hw hi fun x hx => let ⟨ρ', h1, h2⟩ := h x hx; ⟨ρ', h1, rfl, fun _ => h2⟩
  rw [q, List.filter_eq_self.mpr fun _ _ => rfl]
/-- a for whose body goes on: R gives the slots by what is known -/
theorem loop_fold {β : Type} {p : D → Env → Option Env} {F : FS S} {s : S} {enc : α → D} (R : β → Env) (step : β → α → β) : ∀ (xs : List α) (z : β), (∀ x ∈ xs, ∀ z : β, ∃ ρ', p (enc x) (R z) = some ρ' ∧ F ρ' s = .nx (R (step z x)) s) →
    loopS p F (xs.map enc) (R z) s = .nx (R (xs.foldl step z)) s
  | [], _, _ => rfl
  | x :: xs, z, h => by
    obtain ⟨ρ', h1, h2⟩ := h x (by simp) z
    rw [List.map_cons, loopS, h1]
    dsimp only
    rw [h2]
    exact loop_fold R step xs (step z x) fun y hy => h y (by simp [hy])
theorem loop_foldP {β : Type} {p : D → Env → Option Env} {F : FS S} {s : S} {enc : α → D} (R : β → Env) (step : β → α → β) (xs : List α) (z0 : β) (h : ∀ pre x post, pre ++ x :: post = xs → ∃ ρ', p (enc x) (R (pre.foldl step z0)) = some ρ' ∧ F ρ' s = .nx (R (step (pre.foldl step z0) x)) s) :
    loopS p F (xs.map enc) (R z0) s = .nx (R (xs.foldl step z0)) s := by
  have go : ∀ post pre, pre ++ post = xs → loopS p F (post.map enc) (R (pre.foldl step z0)) s = .nx (R (xs.foldl step z0)) s := by
    intro post
    induction post with
    | nil => intro pre e; rw [List.append_nil] at e; rw [e]; rfl
    | cons x post ih =>
      intro pre e
      obtain ⟨ρ', h1, h2⟩ := h pre x post e
      rw [List.map_cons, loopS, h1]
      dsimp only
      rw [h2]
      have q := ih (pre ++ [x]) (by rw [← e]; simp)
      rw [List.foldl_append] at q
      exact q
  exact go xs [] rfl
/-- with an invariant of what was gone over -/
theorem loop_inv {p : D → Env → Option Env} {F : FS S} {enc : α → D} (I : List α → Env → S → Prop) (xs : List α) : ∀ (pre post : List α) (ρ : Env) (s : S), pre ++ post = xs → I pre ρ s →
    (∀ (pre : List α) (x : α) (post : List α) (ρ : Env) (s : S), pre ++ x :: post = xs → I pre ρ s → ∃ ρ1, p (enc x) ρ = some ρ1 ∧ ∃ ρ2 s2, F ρ1 s = .nx ρ2 s2 ∧ I (pre ++ [x]) ρ2 s2) → ∃ ρ' s', loopS p F (post.map enc) ρ s = .nx ρ' s' ∧ I xs ρ' s'
  | pre, [], ρ, s, e, i, _ => ⟨ρ, s, rfl, by rw [← e, List.append_nil]; exact i⟩
  | pre, x :: post, ρ, s, e, i, h => by
    obtain ⟨ρ1, h1, ρ2, s2, h2, h3⟩ := h pre x post ρ s e i
    obtain ⟨ρ', s', h4, h5⟩ := loop_inv I xs (pre ++ [x]) post ρ2 s2 (by rw [← e]; simp) h3 h
    refine ⟨ρ', s', ?_, h5⟩
    rw [List.map_cons, loopS, h1]
    dsimp only
    rw [h2]
    exact h4
end
section
variable {α β : Type}
theorem Nx.refl {s : DSt} (h : s.nums ≠ []) : Nx s s := ⟨rfl, rfl, h⟩
/-- a comprehension that draws -/
theorem compS_draw {p : D → Env → Option Env} {fe : FE DSt} {ρ : Env} {enc : α → D} {e : β → D} {Q : β → Prop} : ∀ (xs : List α) (s : DSt), s.nums ≠ [] → (∀ x ∈ xs, ∀ s', Nx s s' → ∃ ρ' y s2, p (enc x) ρ = some ρ' ∧ fe ρ' s' = .ok (.d (e y)) s2 ∧ Q y ∧ Nx s' s2) →
    ∃ (ys : List β) (s' : DSt), compS p fYes fe ρ (xs.map enc) s = .ok (ys.map e) s' ∧ ys.length = xs.length ∧ (∀ y ∈ ys, Q y) ∧ Nx s s'
  | [], s, hn, _ => ⟨[], s, rfl, rfl, by simp, Nx.refl hn⟩
  | x :: xs, s, hn, h => by
    obtain ⟨ρ', y, s2, h1, h2, hq, n2⟩ := h x (by simp) s (Nx.refl hn)
    obtain ⟨ys, s3, h3, h4, h5, n3⟩ := compS_draw (p := p) (fe := fe) (ρ := ρ) (enc := enc) (e := e) (Q := Q) xs s2 n2.ne fun x hx s' n' => h x (by simp [hx]) s' (n2.trans n')
    refine ⟨y :: ys, s3, ?_, by simp [h4], fun z hz => ?_, n2.trans n3⟩
    · rw [List.map_cons, compS, h1]
      dsimp only [fYes]
      rw [if_pos rfl, h2]
      dsimp only
      rw [h3]
      rfl
    · rcases List.mem_cons.mp hz with q | q
      · rw [q]; exact hq
      · exact h5 z q
theorem lComp_draw {f : FL DSt} {vs : List Nat} {p : D → Env → Option Env} {fe : FE DSt} {ρ ρ1 : Env} {s s1 : DSt} {enc : α → D} {e : β → D} {Q : β → Prop} {xs : List α} (hw : wipeE vs ρ = some ρ1) (hi : f ρ s = .ok (xs.map enc) s1) (hn : s1.nums ≠ [])
    (h : ∀ x ∈ xs, ∀ s', Nx s1 s' → ∃ ρ' y s2, p (enc x) ρ1 = some ρ' ∧ fe ρ' s' = .ok (.d (e y)) s2 ∧ Q y ∧ Nx s' s2) : ∃ (ys : List β) (s' : DSt), lComp f vs p fYes fe ρ s = .ok (ys.map e) s' ∧ ys.length = xs.length ∧ (∀ y ∈ ys, Q y) ∧ Nx s1 s' := by
  obtain ⟨ys, s', h1, h2⟩ := compS_draw (e := e) (Q := Q) xs s1 hn h
  refine ⟨ys, s', ?_, h2⟩
  unfold lComp
  rw [hw]
  dsimp only
  rw [hi]
  exact h1
end
section
variable {S : Type} {fa : FE S} {fl fh : Env → S → Res S (Option Int)} {g : FA S} {ρ : Env} {s s1 s2 s3 : S} {x z : D} {lo hi : Option Int} {ds es : List D}
theorem ev_zip (a : g ρ s = .ok [.d (.list ds), .d (.list es)] s1) : lZip g ρ s = .ok (zipL ds es) s1 := by unfold lZip; rw [a]; rfl
theorem ev_sl (a : fa ρ s = .ok (.d x) s1) (l : fl ρ s1 = .ok lo s2) (h : fh ρ s2 = .ok hi s3) (q : sliceD x lo hi = some z) : eSl fa fl fh ρ s = .ok (.d z) s3 := by unfold eSl; rw [a]; dsimp only [Res.bnd]; rw [l]; dsimp only [Res.bnd]; rw [h]; dsimp only [Res.bnd]; rw [q]; rfl
theorem ev_opMR {op : D → D → Option D} {i : Nat} (e : ρ[i]? = some (.m ds)) (a : fa ρ s = .ok (.d x) s1) (q : op x (.list ds) = some z) (hz : scalarD z = true) : eOpMR op fa i ρ s = .ok (.d z) s1 := by
  unfold eOpMR; rw [e]; dsimp only; rw [a]; dsimp only [Res.bnd]; rw [q]; dsimp only; rw [if_pos hz]
theorem ev_callM {op : List D → Option D} {i : Nat} (e : ρ[i]? = some (.m ds)) (q : op [.list ds] = some z) (hz : scalarD z = true) : eCallM op i ρ s = .ok (.d z) s := by
  unfold eCallM; rw [e]; dsimp only; rw [q]; dsimp only; rw [if_pos hz]
theorem ev_ixM {i : Nat} {fb : FE S} {j : Int} (e : ρ[i]? = some (.m ds)) (a : fb ρ s = .ok (.d (.int j)) s1) (q : atI ds j = some z) : eIxM i fb ρ s = .ok (.d z) s1 := by
  unfold eIxM; rw [e]; dsimp only; rw [a]; dsimp only [Res.bnd]; rw [q]; rfl
theorem ev_enum (a : g ρ s = .ok [.d (.list ds)] s1) : lEnum g ρ s = .ok (enumL ds) s1 := by unfold lEnum; rw [a]; rfl
end
/-! ### operations on typed data -/
theorem intsOf_mapf {α : Type} (f : α → Int) : ∀ l : List α, intsOf (l.map fun x => .int (f x)) = some (l.map f)
  | [] => rfl
  | x :: r => by simp [intsOf, intsOf_mapf f r]
theorem boolsOf_mapf {α : Type} (f : α → Bool) : ∀ l : List α, boolsOf (l.map fun x => .bool (f x)) = some (l.map f)
  | [] => rfl
  | x :: r => by simp [boolsOf, boolsOf_mapf f r]
/-- equality that is decided by the typed things -/
def EqE {α : Type} [DecidableEq α] (enc : α → D) : Prop := ∀ a b, PyData.eqv (enc a) (enc b) = decide (a = b)
theorem eqv_all {α : Type} [DecidableEq α] {enc : α → D} (h : EqE enc) : ∀ xs ys : List α, PyData.eqvAll (xs.map enc) (ys.map enc) = decide (xs = ys)
  | [], [] => by simp [PyData.eqvAll]
  | [], _ :: _ => by simp [PyData.eqvAll]
  | _ :: _, [] => by simp [PyData.eqvAll]
  | x :: xs, y :: ys => by
    rw [List.map_cons, List.map_cons, PyData.eqvAll, h x y, eqv_all h xs ys]
    by_cases e1 : x = y <;> by_cases e2 : xs = ys <;> simp [e1, e2]
theorem eqE_int : EqE PyData.int := fun a b => by by_cases h : a = b <;> simp [PyData.eqv, h]
theorem eqE_bool : EqE PyData.bool := fun a b => by cases a <;> cases b <;> simp [PyData.eqv]
theorem eqE_th : EqE eTh := fun a b => by
  obtain ⟨a1, a2⟩ := a
  obtain ⟨b1, b2⟩ := b
  by_cases h : a1 = b1 <;> cases a2 <;> cases b2 <;> simp [eTh, PyData.eqv, PyData.eqvAll, h]
theorem eqE_pt : EqE ePt := fun a b => by
  obtain ⟨a1, a2⟩ := a
  obtain ⟨b1, b2⟩ := b
  by_cases h : a1 = b1 <;> by_cases k : a2 = b2 <;> simp [ePt, PyData.eqv, PyData.eqvAll, h, k]
theorem eqE_list {α : Type} [DecidableEq α] {enc : α → D} (h : EqE enc) : EqE fun l : List α => PyData.list (l.map enc) := fun a b => by show PyData.eqv (.list _) (.list _) = _; rw [PyData.eqv]; exact eqv_all h a b
theorem dep_all {α : Type} {enc : α → D} {k : Nat} (h : ∀ a, (enc a).depth ≤ k) : ∀ xs : List α, PyData.depthAll (xs.map enc) ≤ k
  | [] => by simp [PyData.depthAll]
  | x :: xs => by
    rw [List.map_cons, PyData.depthAll]
    exact Nat.max_le.mpr ⟨h x, dep_all h xs⟩
theorem dep_list {α : Type} {enc : α → D} {k : Nat} (h : ∀ a, (enc a).depth ≤ k) (xs : List α) : (PyData.list (xs.map enc)).depth ≤ k + 1 := by
  rw [PyData.depth]
  exact Nat.succ_le_succ (dep_all h xs)
theorem dep_pt (a : Int × Int) : (ePt a).depth ≤ 1 := by simp [ePt, PyData.depth, PyData.depthAll]
theorem dep_th (a : Int × Bool) : (eTh a).depth ≤ 1 := by simp [eTh, PyData.depth, PyData.depthAll]
theorem dep_int (a : Int) : (PyData.int a).depth ≤ 0 := by simp [PyData.depth]
theorem eqD_of {α : Type} [DecidableEq α] {enc : α → D} (h : EqE enc) {k : Nat} (hd : ∀ a, (enc a).depth ≤ k) (hk : k ≤ 64 := by decide) (a b : α) : eqD (enc a) (enc b) = some (.bool (decide (a = b))) := by
  unfold eqD
  rw [if_pos (.inl (Nat.le_trans (hd a) hk)), h a b]
theorem neD_of {α : Type} [DecidableEq α] {enc : α → D} (h : EqE enc) {k : Nat} (hd : ∀ a, (enc a).depth ≤ k) (hk : k ≤ 64 := by decide) (a b : α) : neD (enc a) (enc b) = some (.bool (!decide (a = b))) := by
  unfold neD
  rw [if_pos (.inl (Nat.le_trans (hd a) hk)), h a b]
theorem eq_pt (a b : Int × Int) : eqD (ePt a) (ePt b) = some (.bool (decide (a = b))) := eqD_of eqE_pt dep_pt (by decide) a b
theorem ne_pt (a b : Int × Int) : neD (ePt a) (ePt b) = some (.bool (!decide (a = b))) := neD_of eqE_pt dep_pt (by decide) a b
theorem eq_pts (a b : List (Int × Int)) : eqD (ePts a) (ePts b) = some (.bool (decide (a = b))) := eqD_of (enc := ePts) (eqE_list eqE_pt) (dep_list dep_pt) (by decide) a b
theorem ne_pts (a b : List (Int × Int)) : neD (ePts a) (ePts b) = some (.bool (!decide (a = b))) := neD_of (enc := ePts) (eqE_list eqE_pt) (dep_list dep_pt) (by decide) a b
theorem ne_ths (a b : List (Int × Bool)) : neD (eThs a) (eThs b) = some (.bool (!decide (a = b))) := neD_of (enc := eThs) (eqE_list eqE_th) (dep_list dep_th) (by decide) a b
theorem eq_ths (a b : List (Int × Bool)) : eqD (eThs a) (eThs b) = some (.bool (decide (a = b))) := eqD_of (enc := eThs) (eqE_list eqE_th) (dep_list dep_th) (by decide) a b
theorem ne_is (a b : List Int) : neD (eIs a) (eIs b) = some (.bool (!decide (a = b))) := neD_of (enc := eIs) (eqE_list eqE_int) (dep_list dep_int) (by decide) a b
theorem eq_is (a b : List Int) : eqD (eIs a) (eIs b) = some (.bool (decide (a = b))) := eqD_of (enc := eIs) (eqE_list eqE_int) (dep_list dep_int) (by decide) a b
theorem eq_int (a b : Int) : eqD (.int a) (.int b) = some (.bool (decide (a = b))) := eqD_of eqE_int dep_int (by decide) a b
theorem ne_int (a b : Int) : neD (.int a) (.int b) = some (.bool (!decide (a = b))) := neD_of eqE_int dep_int (by decide) a b
theorem in_of {α : Type} [DecidableEq α] {enc : α → D} (h : EqE enc) {k : Nat} (hd : ∀ a, (enc a).depth ≤ k) (hk : k ≤ 64 := by decide) (a : α) (l : List α) [dec : Decidable (a ∈ l)] : inD false (enc a) (.list (l.map enc)) = some (.bool (decide (a ∈ l))) := by
  unfold inD
  dsimp only
  rw [if_pos (Nat.le_trans (hd a) hk)]
  have e : (l.map enc).any (fun z => PyData.eqv z (enc a)) = decide (a ∈ l) := by
    rw [List.any_map, Bool.eq_iff_iff, List.any_eq_true, decide_eq_true_iff]
    constructor
    · rintro ⟨x, hx, q⟩
      have q : PyData.eqv (enc x) (enc a) = true := q
      rw [h x a] at q
      rw [← of_decide_eq_true q]
      exact hx
    · intro hx
      refine ⟨a, hx, ?_⟩
      show PyData.eqv (enc a) (enc a) = true
      rw [h a a, decide_eq_true rfl]
  rw [e]
  rfl
theorem notin_of {α : Type} [DecidableEq α] {enc : α → D} (h : EqE enc) {k : Nat} (hd : ∀ a, (enc a).depth ≤ k) (hk : k ≤ 64 := by decide) (a : α) (l : List α) [dec : Decidable (a ∈ l)] : inD true (enc a) (.list (l.map enc)) = some (.bool (!decide (a ∈ l))) := by
  have q := in_of h hd hk a l
  unfold inD at q ⊢
  dsimp only at q ⊢
  rw [if_pos (Nat.le_trans (hd a) hk)] at q ⊢
  have q := PyData.bool.inj (Option.some.inj q)
  have q : ((l.map enc).any fun z => PyData.eqv z (enc a)) = decide (a ∈ l) := q
  show some (PyData.bool (!((l.map enc).any fun z => PyData.eqv z (enc a)))) = _
  rw [q]
theorem zipL_map {α β : Type} {f : α → D} {g : β → D} (xs : List α) (ys : List β) : zipL (xs.map f) (ys.map g) = (xs.zip ys).map fun p => PyData.tuple [f p.1, g p.2] := by
  unfold zipL
  rw [List.zip_map]
  simp
theorem cutL_map {α : Type} {f : α → D} (xs : List α) (lo hi : Option Int) : cutL (xs.map f) lo hi = (cutL xs lo hi).map f := by
  unfold cutL
  simp
theorem cutL_from1 {α : Type} (xs : List α) : cutL xs (some 1) none = xs.tail := by
  cases xs with
  | nil => rfl
  | cons x r =>
    unfold cutL HT.sIx
    simp
theorem count_of {α : Type} [DecidableEq α] {enc : α → D} (h : EqE enc) {k : Nat} (hd : ∀ a, (enc a).depth ≤ k) (hk : k ≤ 64 := by decide) (a : α) (l : List α) : countD (l.map enc) (enc a) = some (.int ((l.countP fun z => decide (z = a) : Nat) : Int)) := by
  unfold countD
  rw [if_pos (Nat.le_trans (hd a) hk), List.countP_map]
  have e : ((fun z => PyData.eqv z (enc a)) ∘ enc) = fun z => decide (z = a) := funext fun z => h z a
  rw [e]
/-- zip(xs, xs[1:]) -/
theorem ev_zip1 {S : Type} {fa : FE S} {ρ : Env} {s : S} {α : Type} {enc : α → D} {xs : List α} (a : fa ρ s = .ok (.d (.list (xs.map enc))) s) : lZip (aCons fa (aCons (eSl fa (oSome (eC (.int 1))) oNone) aNil)) ρ s = .ok ((xs.zip xs.tail).map fun q => PyData.tuple [enc q.1, enc q.2]) s := by
  rw [ev_zip (ds := xs.map enc) (es := cutL (xs.map enc) (some 1) none) (ev_cons a (ev_cons (ev_sl a rfl rfl rfl) rfl)), cutL_map, cutL_from1, zipL_map]
end DL

namespace DL
open PySem L2
/-! ### things, their counts, their curve -/
structure Val (l : List (Int × Bool)) : Prop where
  lo : 1 ≤ l.length
  hi : l.length ≤ 12
  sc : ∀ x ∈ l, 0 ≤ x.1 ∧ x.1 ≤ 99
def isIntM (v : D) (lo hi : Int) : Bool := match v with
  | .int i => decide (lo ≤ i) && decide (i ≤ hi)
  | _ => false
theorem isIntM_t {i lo hi : Int} (h1 : lo ≤ i) (h2 : i ≤ hi) : isIntM (.int i) lo hi = true := by simp [isIntM, h1, h2]
def cnt (l : List (Int × Bool)) (t : Int) : Int × Int := (((l.filter fun x => decide (t ≤ x.1) && !x.2).length : Nat), ((l.filter fun x => decide (t ≤ x.1) && x.2).length : Nat))
/-- the unlike scores, from the greatest -/
def scs (l : List (Int × Bool)) : List Int := (sortU (l.map (·.1))).reverse
def pts (l : List (Int × Bool)) : List (Int × Int) := (0, 0) :: (scs l).map (cnt l)
/-- n-1, .., 0 -/
def desc (n : Nat) : List Int := (List.range n).map fun i : Nat => (n : Int) - 1 - i
theorem desc_succ (n : Nat) : desc (n + 1) = (n : Int) :: desc n := by
  unfold desc
  rw [List.range_succ_eq_map, List.map_cons, List.map_map]
  refine congr (congrArg _ ?_) (List.map_congr_left fun i _ => ?_)
  · simp
  · simp only [Function.comp_apply, Nat.succ_eq_add_one]
    omega
theorem desc_mem {k : Int} : ∀ {n : Nat}, k ∈ desc n ↔ 0 ≤ k ∧ k < n
  | 0 => by simp [desc]
  | n + 1 => by
    rw [desc_succ, List.mem_cons, desc_mem (n := n)]
    omega
theorem desc_down : ∀ n : Nat, (desc n).Pairwise (· > ·)
  | 0 => by simp [desc]
  | n + 1 => by
    rw [desc_succ, List.pairwise_cons]
    exact ⟨fun k hk => (desc_mem.mp hk).2, desc_down n⟩
theorem scs_mem {l : List (Int × Bool)} {k : Int} : k ∈ scs l ↔ k ∈ l.map (·.1) := by unfold scs; rw [List.mem_reverse, sortU_mem]
theorem scs_down (l : List (Int × Bool)) : (scs l).Pairwise (· > ·) := by
  unfold scs
  rw [List.pairwise_reverse]
  exact sortU_lt
theorem down_eq {l m : List Int} (h1 : l.Pairwise (· > ·)) (h2 : m.Pairwise (· > ·)) (h : ∀ k, k ∈ l ↔ k ∈ m) : l = m := by
  have q := rising_eq (l := l.reverse) (m := m.reverse) (by rw [List.pairwise_reverse]; exact h1) (by rw [List.pairwise_reverse]; exact h2) fun k => by rw [List.mem_reverse, List.mem_reverse]; exact h k
  exact List.reverse_inj.mp q
theorem scs_desc {l : List (Int × Bool)} (h : Val l) : scs l = (desc 100).filter fun k => decide (k ∈ l.map (·.1)) := by
  refine down_eq (scs_down l) ((desc_down 100).filter _) fun k => ?_
  rw [scs_mem, List.mem_filter, desc_mem]
  constructor
  · intro q
    obtain ⟨x, hx, rfl⟩ := List.mem_map.mp q
    have := h.sc x hx
    exact ⟨⟨this.1, by omega⟩, decide_eq_true q⟩
  · intro q
    exact of_decide_eq_true q.2
/-! sizes of cuts -/
theorem filter_len_le {α : Type} {p q : α → Bool} : ∀ {l : List α}, (∀ x ∈ l, p x = true → q x = true) → (l.filter p).length ≤ (l.filter q).length
  | [], _ => by simp
  | x :: l, h => by
    have ih := filter_len_le (l := l) fun y hy => h y (by simp [hy])
    rw [List.filter_cons, List.filter_cons]
    by_cases hp : p x = true
    · rw [if_pos hp, if_pos (h x (by simp) hp)]
      simp only [List.length_cons]; omega
    · rw [if_neg hp]
      split
      · simp only [List.length_cons]; omega
      · exact ih
theorem filter_len_lt {α : Type} {p q : α → Bool} : ∀ {l : List α}, (∀ x ∈ l, p x = true → q x = true) → (∃ x ∈ l, p x = false ∧ q x = true) → (l.filter p).length < (l.filter q).length
  | [], _, h => by obtain ⟨x, hx, _⟩ := h; simp at hx
  | x :: l, h, h' => by
    have hl := filter_len_le (l := l) fun y hy => h y (by simp [hy])
    rw [List.filter_cons, List.filter_cons]
    by_cases hp : p x = true
    · rw [if_pos hp, if_pos (h x (by simp) hp)]
      have : ∃ x ∈ l, p x = false ∧ q x = true := by
        obtain ⟨y, hy, k1, k2⟩ := h'
        rcases List.mem_cons.mp hy with e | e
        · rw [e, hp] at k1; cases k1
        · exact ⟨y, e, k1, k2⟩
      have ih := filter_len_lt (l := l) (fun y hy => h y (by simp [hy])) this
      simp only [List.length_cons]; omega
    · rw [if_neg hp]
      by_cases hq : q x = true
      · rw [if_pos hq]; simp only [List.length_cons]; omega
      · rw [if_neg hq]
        refine filter_len_lt (l := l) (fun y hy => h y (by simp [hy])) ?_
        obtain ⟨y, hy, k1, k2⟩ := h'
        rcases List.mem_cons.mp hy with e | e
        · rw [e] at k2; exact absurd k2 hq
        · exact ⟨y, e, k1, k2⟩
theorem cnt_le (l : List (Int × Bool)) {t u : Int} (h : u ≤ t) : (cnt l t).1 ≤ (cnt l u).1 ∧ (cnt l t).2 ≤ (cnt l u).2 := by
  unfold cnt
  constructor
  · exact Int.ofNat_le.mpr (filter_len_le fun x _ q => by simp only [Bool.and_eq_true, decide_eq_true_eq] at q ⊢; exact ⟨Int.le_trans h q.1, q.2⟩)
  · exact Int.ofNat_le.mpr (filter_len_le fun x _ q => by simp only [Bool.and_eq_true, decide_eq_true_eq] at q ⊢; exact ⟨Int.le_trans h q.1, q.2⟩)
/-- at a score the count is more than above it -/
theorem cnt_lt {l : List (Int × Bool)} {t u : Int} (h : u < t) (hu : u ∈ l.map (·.1)) : (cnt l t).1 + (cnt l t).2 < (cnt l u).1 + (cnt l u).2 := by
  obtain ⟨x, hx, rfl⟩ := List.mem_map.mp hu
  have a := cnt_le l (Int.le_of_lt h)
  cases hf : x.2 with
  | true =>
    have b : (cnt l t).2 < (cnt l x.1).2 := Int.ofNat_lt.mpr (filter_len_lt (fun y _ q => by simp only [Bool.and_eq_true, decide_eq_true_eq] at q ⊢; exact ⟨by omega, q.2⟩) ⟨x, hx, by simp only [Bool.and_eq_false_iff, decide_eq_false_iff_not]; left; omega, by simp [hf]⟩)
    omega
  | false =>
    have b : (cnt l t).1 < (cnt l x.1).1 := Int.ofNat_lt.mpr (filter_len_lt (fun y _ q => by simp only [Bool.and_eq_true, decide_eq_true_eq] at q ⊢; exact ⟨by omega, q.2⟩) ⟨x, hx, by simp only [Bool.and_eq_false_iff, decide_eq_false_iff_not]; left; omega, by simp [hf]⟩)
    omega
theorem cnt_same {l : List (Int × Bool)} {t : Int} (h : t ∉ l.map (·.1)) : cnt l t = cnt l (t + 1) := by
  have q : ∀ x ∈ l, decide (t ≤ x.1) = decide (t + 1 ≤ x.1) := fun x hx => by
    have : x.1 ≠ t := fun e => h (by rw [← e]; exact List.mem_map.mpr ⟨x, hx, rfl⟩)
    by_cases k : t ≤ x.1
    · have : t + 1 ≤ x.1 := by omega
      simp [k, this]
    · have : ¬ t + 1 ≤ x.1 := by omega
      simp [k, this]
  unfold cnt
  rw [List.filter_congr (p := fun x : Int × Bool => decide (t ≤ x.1) && !x.2) (q := fun x : Int × Bool => decide (t + 1 ≤ x.1) && !x.2) fun x hx => by rw [q x hx],
    List.filter_congr (p := fun x : Int × Bool => decide (t ≤ x.1) && x.2) (q := fun x : Int × Bool => decide (t + 1 ≤ x.1) && x.2) fun x hx => by rw [q x hx]]
theorem cnt_top {l : List (Int × Bool)} (h : Val l) {t : Int} (ht : 100 ≤ t) : cnt l t = (0, 0) := by
  have q : ∀ x ∈ l, ¬ t ≤ x.1 := fun x hx => by have := h.sc x hx; omega
  unfold cnt
  rw [List.filter_eq_nil_iff.mpr fun x hx => by simp [q x hx], List.filter_eq_nil_iff.mpr fun x hx => by simp [q x hx]]
  rfl
/-- the points down to the threshold n -/
def ptsTo (l : List (Int × Bool)) (ks : List Int) : List (Int × Int) := (0, 0) :: (ks.filter fun k => decide (k ∈ l.map (·.1))).map (cnt l)
/-- each threshold's point is on the curve -/
theorem cnt_on {l : List (Int × Bool)} (h : Val l) (t : Int) (ht : 0 ≤ t) : cnt l t ∈ pts l := by
  by_cases h1 : 100 ≤ t
  · rw [cnt_top h h1]; exact List.mem_cons_self
  · have go : ∀ n : Nat, ∀ t : Int, t + n = 100 → 0 ≤ t → cnt l t ∈ pts l := by
      intro n
      induction n with
      | zero => intro t e _; rw [cnt_top h (by omega)]; exact List.mem_cons_self
      | succ n ih =>
        intro t e h0
        by_cases k : t ∈ l.map (·.1)
        · exact List.mem_cons_of_mem _ (List.mem_map.mpr ⟨t, scs_mem.mpr k, rfl⟩)
        · rw [cnt_same k]; exact ih (t + 1) (by omega) (by omega)
    exact go (100 - t).toNat t (by omega) ht
/-- one after the other, those not yet there -/
def addNew {α : Type} [DecidableEq α] (f : List α) (p : α) : List α := if p ∈ f then f else f ++ [p]
theorem curve_fold {l : List (Int × Bool)} (h : Val l) : ∀ n : Nat, n ≤ 100 → ∀ ks : List Int, 100 - n = ks.length → ks ++ desc n = desc 100 → (desc n).foldl (fun f t => addNew f (cnt l t)) (ptsTo l ks) = ptsTo l (ks ++ desc n) := by
  intro n
  induction n with
  | zero => intro _ ks _ _; simp [desc]
  | succ n ih =>
    intro hn ks hk e
    rw [desc_succ] at e ⊢
    rw [List.foldl_cons]
    have e2 : (ks ++ [(n : Int)]) ++ desc n = desc 100 := by rw [← e]; simp
    have big : ∀ k ∈ ks, (n : Int) < k := fun k hk => by
      have d := desc_down 100
      rw [← e, List.pairwise_append] at d
      exact d.2.2 k hk n (by simp)
    have all : ∀ k : Int, (n : Int) < k → k < 100 → k ∈ ks := fun k h1 h2 => by
      have m : k ∈ desc 100 := desc_mem.mpr ⟨by omega, by omega⟩
      rw [← e, List.mem_append, List.mem_cons, desc_mem] at m
      rcases m with m | m | m
      · exact m
      · omega
      · omega
    have step : addNew (ptsTo l ks) (cnt l n) = ptsTo l (ks ++ [(n : Int)]) := by
      unfold addNew ptsTo
      rw [List.filter_append]
      by_cases k : (n : Int) ∈ l.map (·.1)
      · have nin : cnt l n ∉ (0, 0) :: (ks.filter fun k => decide (k ∈ l.map (·.1))).map (cnt l) := by
          intro q
          rcases List.mem_cons.mp q with q | q
          · have a := cnt_lt (l := l) (t := 100) (u := n) (by omega) k
            rw [cnt_top h (Int.le_refl _), q] at a
            simp at a
          · obtain ⟨j, hj, ej⟩ := List.mem_map.mp q
            have a := cnt_lt (l := l) (t := j) (u := n) (big j (List.mem_filter.mp hj).1) k
            rw [ej] at a
            omega
        rw [if_neg nin, List.filter_cons, if_pos (decide_eq_true k)]
        simp
      · have ek : decide ((n : Int) ∈ l.map (·.1)) = false := decide_eq_false k
        have inn : cnt l n ∈ (0, 0) :: (ks.filter fun k => decide (k ∈ l.map (·.1))).map (cnt l) := by
          have go : ∀ m : Nat, ∀ t : Int, t + m = 100 → (n : Int) ≤ t → cnt l t ∈ (0, 0) :: (ks.filter fun k => decide (k ∈ l.map (·.1))).map (cnt l) := by
            intro m
            induction m with
            | zero => intro t e _; rw [cnt_top h (by omega)]; exact List.mem_cons_self
            | succ m ihm =>
              intro t e2 ht
              by_cases q : t ∈ l.map (·.1)
              · have ne : (n : Int) ≠ t := fun z => k (by rw [z]; exact q)
                exact List.mem_cons_of_mem _ (List.mem_map.mpr ⟨t, List.mem_filter.mpr ⟨all t (by omega) (by omega), decide_eq_true q⟩, rfl⟩)
              · rw [cnt_same q]; exact ihm (t + 1) (by omega) (by omega)
          exact go (100 - n) n (by omega) (Int.le_refl _)
        rw [if_pos inn, List.filter_cons, ek]
        simp
    rw [step, ih (by omega) _ (by rw [List.length_append]; simp; omega) e2]
    simp
/-- the curve found by going down all thresholds -/
theorem curve_down {l : List (Int × Bool)} (h : Val l) : ((100 : Int) :: desc 100).foldl (fun f t => addNew f (cnt l t)) [] = pts l := by
  rw [List.foldl_cons, cnt_top h (Int.le_refl _)]
  have e := curve_fold h 100 (Nat.le_refl _) [] (by simp) (by simp)
  have e0 : addNew ([] : List (Int × Int)) (0, 0) = ptsTo l [] := by simp [addNew, ptsTo]
  rw [e0, e]
  unfold ptsTo pts
  rw [scs_desc h]
  simp
theorem pts_len {l : List (Int × Bool)} : (pts l).length = (scs l).length + 1 := by simp [pts]
theorem scs_len {l : List (Int × Bool)} : (scs l).length ≤ l.length := by
  unfold scs
  have := sortU_len (l := l.map (·.1))
  simpa using this
theorem scs_pos {l : List (Int × Bool)} (h : Val l) : 1 ≤ (scs l).length := by
  have h1 := h.lo
  cases l with
  | nil => simp at h1
  | cons x r =>
    have m : x.1 ∈ scs (x :: r) := scs_mem.mpr (by simp)
    exact List.length_pos_of_mem m
/-- points of a curve -/
structure PVal (p : List (Int × Int)) : Prop where
  lo : 2 ≤ p.length
  hi : p.length ≤ 13
  hd : p.head? = some (0, 0)
  rg : ∀ x ∈ p, (0 ≤ x.1 ∧ x.1 ≤ 12) ∧ 0 ≤ x.2 ∧ x.2 ≤ 12
  up : ∀ q ∈ p.zip p.tail, q.1.1 ≤ q.2.1 ∧ q.1.2 ≤ q.2.2 ∧ q.1 ≠ q.2
  sm : ∀ x, p.getLast? = some x → x.1 + x.2 ≤ 12
theorem cnt_range {l : List (Int × Bool)} (h : Val l) (t : Int) : 0 ≤ (cnt l t).1 ∧ 0 ≤ (cnt l t).2 ∧ (cnt l t).1 + (cnt l t).2 ≤ 12 := by
  have hh := h.hi
  have e : ∀ (l : List (Int × Bool)), (l.filter fun x => decide (t ≤ x.1) && !x.2).length + (l.filter fun x => decide (t ≤ x.1) && x.2).length ≤ l.length := by
    intro l
    induction l with
    | nil => simp
    | cons x l ih =>
      rw [List.filter_cons, List.filter_cons]
      cases x.2 <;> cases decide (t ≤ x.1) <;> simp <;> omega
  have := e l
  unfold cnt
  refine ⟨by simp, by simp, ?_⟩
  dsimp only
  omega
theorem zip_tail_rel {α : Type} {R : α → α → Prop} : ∀ {l : List α}, l.Pairwise R → ∀ q ∈ l.zip l.tail, R q.1 q.2
  | [], _, q, h => by simp at h
  | [x], _, q, h => by simp at h
  | x :: y :: r, p, q, h => by
    rw [List.pairwise_cons] at p
    simp only [List.tail_cons, List.zip_cons_cons, List.mem_cons] at h
    rcases h with h | h
    · rw [h]; exact p.1 y (by simp)
    · exact zip_tail_rel (l := y :: r) p.2 q (by simpa using h)
theorem pts_pair {l : List (Int × Bool)} (h : Val l) : (pts l).Pairwise fun p q => p.1 ≤ q.1 ∧ p.2 ≤ q.2 ∧ p.1 + p.2 < q.1 + q.2 := by
  unfold pts
  rw [List.pairwise_cons]
  constructor
  · intro q hq
    obtain ⟨k, hk, rfl⟩ := List.mem_map.mp hq
    have m := scs_mem.mp hk
    obtain ⟨x, hx, ex⟩ := List.mem_map.mp m
    have b := h.sc x hx
    have a := cnt_lt (l := l) (t := 100) (u := k) (by rw [← ex]; omega) m
    rw [cnt_top h (Int.le_refl _)] at a
    have r := cnt_range h k
    simp only at a ⊢
    exact ⟨r.1, r.2.1, a⟩
  · rw [List.pairwise_map]
    refine (scs_down l).imp_of_mem fun {a b} ha hb hab => ?_
    have c := cnt_le l (t := a) (u := b) (Int.le_of_lt hab)
    exact ⟨c.1, c.2, cnt_lt hab (scs_mem.mp hb)⟩
theorem pts_val {l : List (Int × Bool)} (h : Val l) : PVal (pts l) where
  lo := by rw [pts_len]; have := scs_pos h; omega
  hi := by rw [pts_len]; have := scs_len (l := l); have := h.hi; omega
  hd := rfl
  rg := fun x hx => by
    rcases List.mem_cons.mp hx with e | e
    · rw [e]; simp
    · obtain ⟨k, _, rfl⟩ := List.mem_map.mp e
      have := cnt_range h k
      omega
  up := fun q hq => by
    have r := zip_tail_rel (pts_pair h) q hq
    refine ⟨r.1, r.2.1, fun e => ?_⟩
    rw [e] at r
    omega
  sm := fun x hx => by
    have m := List.mem_of_getLast? hx
    rcases List.mem_cons.mp m with e | e
    · rw [e]; simp
    · obtain ⟨k, _, rfl⟩ := List.mem_map.mp e
      exact (cnt_range h k).2.2
/-- the last point is that of all -/
theorem pts_last {l : List (Int × Bool)} (h : Val l) : (pts l).getLast? = some (cnt l 0) := by
  have hp := scs_pos h
  have e : (pts l).getLast? = ((scs l).getLast?).map (cnt l) := by
    unfold pts
    rw [List.getLast?_cons, List.getLast?_map]
    cases q : (scs l).getLast? with
    | none => rw [List.getLast?_eq_none_iff] at q; rw [q] at hp; simp at hp
    | some k => rfl
  cases q : (scs l).getLast? with
  | none => rw [List.getLast?_eq_none_iff] at q; rw [q] at hp; simp at hp
  | some k =>
    rw [e, q]
    show some (cnt l k) = _
    have least : ∀ j ∈ l.map (·.1), k ≤ j := fun j hj => by
      have m := scs_mem.mpr hj
      obtain ⟨i, hi, ei⟩ := List.mem_iff_getElem.mp m
      have dn := List.pairwise_iff_getElem.mp (scs_down l)
      have lk : (scs l)[(scs l).length - 1]'(by omega) = k := by
        rw [List.getLast?_eq_getElem?] at q
        obtain ⟨_, z⟩ := List.getElem?_eq_some_iff.mp q
        exact z
      by_cases c : i = (scs l).length - 1
      · subst c; omega
      · have := dn i ((scs l).length - 1) hi (by omega) (by omega)
        omega
    have : cnt l k = cnt l 0 := by
      unfold cnt
      have q2 : ∀ x ∈ l, decide (k ≤ x.1) = decide ((0 : Int) ≤ x.1) := fun x hx => by
        have a := least x.1 (List.mem_map.mpr ⟨x, hx, rfl⟩)
        have b := (h.sc x hx).1
        simp [a, b]
      rw [List.filter_congr (p := fun x : Int × Bool => decide (k ≤ x.1) && !x.2) (q := fun x : Int × Bool => decide ((0 : Int) ≤ x.1) && !x.2) fun x hx => by rw [q2 x hx],
        List.filter_congr (p := fun x : Int × Bool => decide (k ≤ x.1) && x.2) (q := fun x : Int × Bool => decide ((0 : Int) ≤ x.1) && x.2) fun x hx => by rw [q2 x hx]]
    rw [this]
end DL
namespace DL
open PySem L2
/-! ### the first and the last, the least -/
def ends (ns : List Int) : D := match ns.head?, ns.getLast? with
  | some a, some b => .tuple [.int a, .int b]
  | _, _ => .none
def goodT (l : List (Int × Bool)) (p : Int × Int) : List Int := ((List.range 101).filter fun i : Nat => decide (cnt l i = p)).map fun i : Nat => (i : Int)
def optD : Option Int → D
  | some i => .int i
  | none => .none
section
variable {S : Type} {ρ : Env} {s : S} {i : Nat} {ds : List D} {ns : List Int}
theorem ne_nil (ds : List D) : neD (.list ds) (.list []) = some (.bool (!ds.isEmpty)) := by
  unfold neD
  rw [if_pos (.inr (by simp [PyData.depth, PyData.depthAll]))]
  cases ds <;> simp [PyData.eqv, PyData.eqvAll]
theorem atI_first {α : Type} {x : α} {r : List α} : atI (x :: r) 0 = some x := by
  unfold atI ixN
  rw [if_pos (Int.le_refl 0), if_pos (by simp)]
  rfl
theorem atI_last {α : Type} {xs : List α} (h : xs ≠ []) : atI xs (-1) = xs.getLast? := by
  have hl : 0 < xs.length := List.length_pos_iff.mpr h
  unfold atI ixN
  rw [if_neg (by decide), if_pos (by omega)]
  have e : (-1 + (xs.length : Int)).toNat = xs.length - 1 := by omega
  show xs[(-1 + (xs.length : Int)).toNat]? = _
  rw [e, List.getLast?_eq_getElem?]
/-- (good[0], good[-1]) if good != [] else None -/
theorem ends_ev {i : Nat} (h : ρ[i]? = some (.d (.list (ns.map .int)))) : eIf (fun ρ s => tstOf ((eOp neD (eVar i) (eLst aNil)) ρ s)) (eTup (aCons (eOp ixD (eVar i) (eC (.int 0))) (aCons (eOp ixD (eVar i) (eNeg (eC (.int 1)))) aNil))) (eC .none) ρ s = .ok (.d (ends ns)) s := by
  have v : ∀ s : S, eVar i ρ s = .ok (.d (.list (ns.map .int))) s := fun s => by unfold eVar; rw [h]
  refine ev_eIf (ev_tst (ev_op (v s) rfl (ne_nil _))) ?_
  cases ns with
  | nil => rfl
  | cons a r =>
    refine ev_tup (ds := [.int a, .int ((a :: r).getLast (by simp))]) (ev_cons (ev_op (v s) rfl atI_first) (ev_cons (ev_op (v s) rfl ?_) rfl)) rfl (by show 2 ≤ lim; decide) |>.trans ?_
    · show atI ((a :: r).map PyData.int) (-1) = _
      rw [atI_last (by simp), List.getLast?_map, List.getLast?_eq_some_getLast (by simp)]
      rfl
    · unfold ends
      rw [List.getLast?_eq_some_getLast (l := a :: r) (by simp)]
      rfl
theorem min_ev {i : Nat} (h : ρ[i]? = some (.d (.list (ns.map .int)))) : eIf (fun ρ s => tstOf ((eOp neD (eVar i) (eLst aNil)) ρ s)) (eCall minD (aCons (eVar i) aNil)) (eC .none) ρ s = .ok (.d (optD ns.min?)) s := by
  have v : ∀ s : S, eVar i ρ s = .ok (.d (.list (ns.map .int))) s := fun s => by unfold eVar; rw [h]
  refine ev_eIf (ev_tst (ev_op (v s) rfl (ne_nil _))) ?_
  cases ns with
  | nil => rfl
  | cons a r =>
    refine ev_call (ev_cons (v s) rfl) rfl ?_
    show (intsOf ((a :: r).map .int)).bind (fun ns => ns.min?.map PyData.int) = _
    rw [intsOf_map]
    rfl
end
end DL
namespace DL
open PySem L2
section
variable {S : Type} {ρ : Env} {s : S} {g : FL S}
/-- sorted(set([..]))[::-1] of the scores -/
theorem scs_ev {l : List (Int × Bool)} (h : Val l) (a : g ρ s = .ok (l.map fun x => .int x.1) s) : eRev (eCall sortSetD (aCons (eNew g) aNil)) ρ s = .ok (.d (eIs (scs l))) s := by
  have hl : (l.map (·.1)).length < 64 := by rw [List.length_map]; have := h.hi; omega
  refine (ev_rev (ev_call (ds := [.list (l.map fun x => .int x.1)]) (z := .list ((sortU (l.map (·.1))).map .int)) (ev_cons (ev_new a) rfl) rfl ?_)).trans ?_
  · show (intsOf (l.map fun x => PyData.int x.1)).bind (fun ns => if ns.length < 64 then some (PyData.list ((sortU ns).map .int)) else none) = _
    rw [intsOf_mapf]
    show (if (l.map (·.1)).length < 64 then _ else _) = _
    rw [if_pos hl]
  · rw [← List.map_reverse]
    rfl
theorem ne_ends (ns : List Int) : neD (ends ns) (ends ns) = some (.bool false) := by
  unfold ends
  cases ns.head? <;> cases ns.getLast? <;> first
    | (simp [neD, PyData.eqv, PyData.depth]; done)
    | (simp [neD, PyData.eqv, PyData.eqvAll, PyData.depth, PyData.depthAll]; done)
theorem eq_opt (o : Option Int) : eqD (optD o) (optD o) = some (.bool true) := by
  cases o <;> simp [optD, eqD, PyData.eqv, PyData.depth]
end
end DL

namespace Lw
open PySem PySem.Spec PyProof.Rows L2 DL
/-! ### the text -/
def top (i : Nat) : Stmt := PySem.Challenge.pw_alarmcurves_k16_errors.main.body.getD i (.Pass ⟨0, 0, 0, 0⟩)
abbrev s_is_int : Stmt := top 9
abbrev s_is_thing : Stmt := top 10
abbrev s_is_things : Stmt := top 11
abbrev s_check_things : Stmt := top 12
abbrev s_check_threshold : Stmt := top 13
abbrev s_check_cost : Stmt := top 14
abbrev s_counts : Stmt := top 16
abbrev s_alarms_at : Stmt := top 17
abbrev s_scores_of : Stmt := top 19
abbrev s_unlike_scores : Stmt := top 18
abbrev s_thresholds_of : Stmt := top 20
abbrev s_totals : Stmt := top 21
abbrev s_points_of : Stmt := top 22
abbrev s_curve : Stmt := top 23
abbrev s_most_true : Stmt := top 24
abbrev s_least_false : Stmt := top 25
abbrev s_common : Stmt := top 27
abbrev s_lowest : Stmt := top 28
abbrev s_plus : Stmt := top 29
abbrev s_product : Stmt := top 30
abbrev s_less : Stmt := top 31
abbrev s_is_mean : Stmt := top 32
abbrev s_check_mean : Stmt := top 33
abbrev s_outcomes : Stmt := top 35
abbrev s_pair_counts : Stmt := top 36
abbrev s_double_area : Stmt := top 37
abbrev s_area : Stmt := top 38
abbrev s_in_order : Stmt := top 39
abbrev s_wrong_pairs : Stmt := top 40
abbrev s_way_turn : Stmt := top 42
abbrev s_corners_of : Stmt := top 43
abbrev s_hull : Stmt := top 44
abbrev s_height_of : Stmt := top 45
abbrev s_waste : Stmt := top 46
abbrev s_is_bent : Stmt := top 47
abbrev s_cost_of : Stmt := top 49
abbrev s_check_costs : Stmt := top 50
abbrev s_cost_at : Stmt := top 51
abbrev s_least_cost : Stmt := top 52
abbrev s_best_points : Stmt := top 53
abbrev s_best_thresholds : Stmt := top 54
abbrev s_cost_ranges : Stmt := top 55
abbrev s_is_ever_best : Stmt := top 56
abbrev s_miss_cost_for : Stmt := top 57
abbrev s_check_share : Stmt := top 59
abbrev s_mean_point : Stmt := top 60
abbrev s_mixed_alarms : Stmt := top 61
abbrev s_best_true : Stmt := top 62
abbrev s_threshold_of : Stmt := top 64
abbrev s_best_mixture : Stmt := top 63
abbrev s_gain : Stmt := top 65
abbrev s_levels : Stmt := top 67
abbrev s_falls : Stmt := top 68
abbrev s_put_together : Stmt := top 69
abbrev s_pooled : Stmt := top 70
abbrev s_pools : Stmt := top 71
abbrev s_share_of : Stmt := top 72
abbrev s_shares : Stmt := top 73
abbrev s_squared_error : Stmt := top 74
abbrev s_is_pooled : Stmt := top 75
abbrev s_joined : Stmt := top 77
abbrev s_turned_over : Stmt := top 78
abbrev s_exchanged : Stmt := top 79
abbrev s_format_things : Stmt := top 81
abbrev s_law_start : Stmt := top 83
abbrev s_law_draw : Stmt := top 84
abbrev s_law_error : Stmt := top 85
abbrev s_law_one : Stmt := top 86
abbrev s_law_two : Stmt := top 87
abbrev s_law_asked : Stmt := top 88
abbrev s_law_limits : Stmt := top 89
abbrev s_law : Stmt := top 90
abbrev N_is_int : List Str := ["value", "low", "high"]
abbrev N_is_thing : List Str := ["value"]
abbrev N_is_things : List Str := ["value", "thing"]
abbrev N_check_things : List Str := ["value"]
abbrev N_check_threshold : List Str := ["value"]
abbrev N_check_cost : List Str := ["value"]
abbrev N_counts : List Str := ["things", "threshold", "false", "score", "faulty"]
abbrev N_alarms_at : List Str := ["things", "threshold"]
abbrev N_scores_of : List Str := ["things", "score", "faulty"]
abbrev N_unlike_scores : List Str := ["things"]
abbrev N_thresholds_of : List Str := ["things"]
abbrev N_totals : List Str := ["things"]
abbrev N_points_of : List Str := ["things", "score"]
abbrev N_curve : List Str := ["things"]
abbrev N_most_true : List Str := ["things", "false", "x", "y"]
abbrev N_least_false : List Str := ["things", "true", "good", "x", "y"]
abbrev N_common : List Str := ["one", "other"]
abbrev N_lowest : List Str := ["top", "below", "divisor"]
abbrev N_plus : List Str := ["one", "other"]
abbrev N_product : List Str := ["one", "other"]
abbrev N_less : List Str := ["one", "other"]
abbrev N_is_mean : List Str := ["value", "most"]
abbrev N_check_mean : List Str := ["value", "most"]
abbrev N_outcomes : List Str := ["things", "won", "tied", "lost", "score", "faulty", "other", "other_faulty"]
abbrev N_pair_counts : List Str := ["things"]
abbrev N_double_area : List Str := ["points", "found", "one", "other"]
abbrev N_area : List Str := ["things", "points", "whole"]
abbrev N_in_order : List Str := ["things", "won", "tied", "lost"]
abbrev N_wrong_pairs : List Str := ["things", "found", "k", "score", "faulty", "j", "other", "other_faulty"]
abbrev N_way_turn : List Str := ["one", "middle", "other", "wide", "high"]
abbrev N_corners_of : List Str := ["points", "found", "point"]
abbrev N_hull : List Str := ["things"]
abbrev N_height_of : List Str := ["corners", "place", "best", "one", "other", "wide", "height", "top"]
abbrev N_waste : List Str := ["things", "points"]
abbrev N_is_bent : List Str := ["things", "points"]
abbrev N_cost_of : List Str := ["things", "threshold", "false_cost", "miss_cost", "false", "true"]
abbrev N_check_costs : List Str := ["false_cost", "miss_cost"]
abbrev N_cost_at : List Str := ["things", "threshold", "false_cost", "miss_cost"]
abbrev N_least_cost : List Str := ["things", "false_cost", "miss_cost", "threshold"]
abbrev N_best_points : List Str := ["things", "false_cost", "miss_cost", "all_faulty", "points", "costs", "x", "y", "point", "cost"]
abbrev N_best_thresholds : List Str := ["things", "false_cost", "miss_cost", "costs", "threshold"]
abbrev N_cost_ranges : List Str := ["things", "corners", "slopes", "found", "k", "corner", "a", "b"]
abbrev N_is_ever_best : List Str := ["things", "point", "points", "one", "other"]
abbrev N_miss_cost_for : List Str := ["things", "false_cost", "limit", "all_faulty", "miss_cost", "points", "costs", "x", "y", "cost"]
abbrev N_check_share : List Str := ["value"]
abbrev N_mean_point : List Str := ["one", "other", "share", "rest", "k"]
abbrev N_mixed_alarms : List Str := ["things", "first", "second", "share"]
abbrev N_best_true : List Str := ["things", "false"]
abbrev N_threshold_of : List Str := ["things", "point", "threshold"]
abbrev N_best_mixture : List Str := ["things", "false", "corners", "goal", "one", "other", "wide", "share"]
abbrev N_gain : List Str := ["things", "false", "best", "single", "x", "y"]
abbrev N_levels : List Str := ["things", "found", "before", "score", "now"]
abbrev N_falls : List Str := ["one", "other"]
abbrev N_put_together : List Str := ["one", "other"]
abbrev N_pooled : List Str := ["things", "found", "level"]
abbrev N_pools : List Str := ["things", "pool"]
abbrev N_share_of : List Str := ["things", "score", "pool", "one"]
abbrev N_shares : List Str := ["things", "score", "faulty"]
abbrev N_squared_error : List Str := ["things", "found", "low", "high", "sound", "faulty", "whole"]
abbrev N_is_pooled : List Str := ["things"]
abbrev N_joined : List Str := ["things", "other", "found"]
abbrev N_turned_over : List Str := ["things", "score", "faulty"]
abbrev N_exchanged : List Str := ["things", "score", "faulty"]
abbrev N_format_things : List Str := ["things", "score", "faulty"]
abbrev N_law_start : List Str := ["_law_script"]
abbrev N_law_draw : List Str := ["_law_draws", "_law_limit", "_law_numbers", "_law_at", "_law_cell", "_law_mixed"]
abbrev N_law_error : List Str := ["_law_caught", "_law_kinds"]
abbrev N_law_one : List Str := ["_law_kind", "_law_things"]
abbrev N_law_two : List Str := ["_law_kind", "_law_things", "_law_one_here", "_law_two_here"]
abbrev N_law_asked : List Str := ["_law_group", "_law_kind", "_law_things", "_law_one_here", "_law_two_here", "_law_caught", "e"]
abbrev N_law_limits : List Str := ["_law_things", "_law_limits_here", "_law_kind", "_law_low", "_law_high", "_law_bad", "_law_k", "_law_good"]
abbrev N_law : List Str := ["_law_script", "_law_draws", "_law_bad", "_law_things", "_law_k", "_law_mark"]
structure Txt (K : PySem.W.Frag) (mg : Str → Option Value) where
  cl : Nat → Addr
  n_ValueError : mg "ValueError" = none
  n_abs : mg "abs" = none
  n_all : mg "all" = none
  n_bool : mg "bool" = none
  n_enumerate : mg "enumerate" = none
  n_int : mg "int" = none
  n_isinstance : mg "isinstance" = none
  n_len : mg "len" = none
  n_list : mg "list" = none
  n_max : mg "max" = none
  n_min : mg "min" = none
  n_range : mg "range" = none
  n_set : mg "set" = none
  n_sorted : mg "sorted" = none
  n_str : mg "str" = none
  n_tuple : mg "tuple" = none
  n_zip : mg "zip" = none
  c_MOST_SCORE : GC mg "MOST_SCORE" (.int 99)
  c_MOST_THINGS : GC mg "MOST_THINGS" (.int 12)
  x_BadThings : PySem.W.excIn K (cl 0) [.type "ValueError", .type "Exception", .type "BaseException", .type "object"] "ValueError.__new__" = true
  g_BadThings : mg "BadThings" = some (.ref (cl 0))
  k_BadThings : PySem.W.keepIn K (.ref (cl 0)) = true
  e_BadThings : PySem.W.subIn K (.ref (cl 0)) (.type "BaseException") = some true
  t_BadThings : PySem.W.typeIn K (.ref (cl 0)) = some (.type "type")
  x_BadNumber : PySem.W.excIn K (cl 1) [.type "ValueError", .type "Exception", .type "BaseException", .type "object"] "ValueError.__new__" = true
  g_BadNumber : mg "BadNumber" = some (.ref (cl 1))
  k_BadNumber : PySem.W.keepIn K (.ref (cl 1)) = true
  e_BadNumber : PySem.W.subIn K (.ref (cl 1)) (.type "BaseException") = some true
  t_BadNumber : PySem.W.typeIn K (.ref (cl 1)) = some (.type "type")
  x_BadPoints : PySem.W.excIn K (cl 2) [.type "ValueError", .type "Exception", .type "BaseException", .type "object"] "ValueError.__new__" = true
  g_BadPoints : mg "BadPoints" = some (.ref (cl 2))
  k_BadPoints : PySem.W.keepIn K (.ref (cl 2)) = true
  e_BadPoints : PySem.W.subIn K (.ref (cl 2)) (.type "BaseException") = some true
  t_BadPoints : PySem.W.typeIn K (.ref (cl 2)) = some (.type "type")
  x_BadText : PySem.W.excIn K (cl 3) [.type "ValueError", .type "Exception", .type "BaseException", .type "object"] "ValueError.__new__" = true
  g_BadText : mg "BadText" = some (.ref (cl 3))
  k_BadText : PySem.W.keepIn K (.ref (cl 3)) = true
  e_BadText : PySem.W.subIn K (.ref (cl 3)) (.type "BaseException") = some true
  t_BadText : PySem.W.typeIn K (.ref (cl 3)) = some (.type "type")
  x_NotFound : PySem.W.excIn K (cl 4) [.type "ValueError", .type "Exception", .type "BaseException", .type "object"] "ValueError.__new__" = true
  g_NotFound : mg "NotFound" = some (.ref (cl 4))
  k_NotFound : PySem.W.keepIn K (.ref (cl 4)) = true
  e_NotFound : PySem.W.subIn K (.ref (cl 4)) (.type "BaseException") = some true
  t_NotFound : PySem.W.typeIn K (.ref (cl 4)) = some (.type "type")
  CA : Addr
  ER : ErrT K cl CA
  g_AlarmError : mg "AlarmError" = some (.ref CA)
  f_is_int : Addr
  fd_is_int : FuncData
  F_is_int : Fun K "is_int" "is_int" s_is_int f_is_int fd_is_int
  b_is_int : Binds K fd_is_int ["value", "low", "high"] []
  m_is_int : mg "is_int" = some (.ref f_is_int)
  f_is_thing : Addr
  fd_is_thing : FuncData
  F_is_thing : Fun K "is_thing" "is_thing" s_is_thing f_is_thing fd_is_thing
  b_is_thing : Binds K fd_is_thing ["value"] []
  m_is_thing : mg "is_thing" = some (.ref f_is_thing)
  f_is_things : Addr
  fd_is_things : FuncData
  F_is_things : Fun K "is_things" "is_things" s_is_things f_is_things fd_is_things
  b_is_things : Binds K fd_is_things ["value"] []
  m_is_things : mg "is_things" = some (.ref f_is_things)
  f_check_things : Addr
  fd_check_things : FuncData
  F_check_things : Fun K "check_things" "check_things" s_check_things f_check_things fd_check_things
  b_check_things : Binds K fd_check_things ["value"] []
  m_check_things : mg "check_things" = some (.ref f_check_things)
  f_check_threshold : Addr
  fd_check_threshold : FuncData
  F_check_threshold : Fun K "check_threshold" "check_threshold" s_check_threshold f_check_threshold fd_check_threshold
  b_check_threshold : Binds K fd_check_threshold ["value"] []
  m_check_threshold : mg "check_threshold" = some (.ref f_check_threshold)
  f_check_cost : Addr
  fd_check_cost : FuncData
  F_check_cost : Fun K "check_cost" "check_cost" s_check_cost f_check_cost fd_check_cost
  b_check_cost : Binds K fd_check_cost ["value"] []
  m_check_cost : mg "check_cost" = some (.ref f_check_cost)
  f_counts : Addr
  fd_counts : FuncData
  F_counts : Fun K "counts" "counts" s_counts f_counts fd_counts
  b_counts : Binds K fd_counts ["things", "threshold"] []
  m_counts : mg "counts" = some (.ref f_counts)
  f_alarms_at : Addr
  fd_alarms_at : FuncData
  F_alarms_at : Fun K "alarms_at" "alarms_at" s_alarms_at f_alarms_at fd_alarms_at
  b_alarms_at : Binds K fd_alarms_at ["things", "threshold"] []
  m_alarms_at : mg "alarms_at" = some (.ref f_alarms_at)
  f_scores_of : Addr
  fd_scores_of : FuncData
  F_scores_of : Fun K "scores_of" "scores_of" s_scores_of f_scores_of fd_scores_of
  b_scores_of : Binds K fd_scores_of ["things"] []
  m_scores_of : mg "scores_of" = some (.ref f_scores_of)
  f_unlike_scores : Addr
  fd_unlike_scores : FuncData
  F_unlike_scores : Fun K "unlike_scores" "unlike_scores" s_unlike_scores f_unlike_scores fd_unlike_scores
  b_unlike_scores : Binds K fd_unlike_scores ["things"] []
  m_unlike_scores : mg "unlike_scores" = some (.ref f_unlike_scores)
  f_thresholds_of : Addr
  fd_thresholds_of : FuncData
  F_thresholds_of : Fun K "thresholds_of" "thresholds_of" s_thresholds_of f_thresholds_of fd_thresholds_of
  b_thresholds_of : Binds K fd_thresholds_of ["things"] []
  m_thresholds_of : mg "thresholds_of" = some (.ref f_thresholds_of)
  f_totals : Addr
  fd_totals : FuncData
  F_totals : Fun K "totals" "totals" s_totals f_totals fd_totals
  b_totals : Binds K fd_totals ["things"] []
  m_totals : mg "totals" = some (.ref f_totals)
  f_points_of : Addr
  fd_points_of : FuncData
  F_points_of : Fun K "points_of" "points_of" s_points_of f_points_of fd_points_of
  b_points_of : Binds K fd_points_of ["things"] []
  m_points_of : mg "points_of" = some (.ref f_points_of)
  f_curve : Addr
  fd_curve : FuncData
  F_curve : Fun K "curve" "curve" s_curve f_curve fd_curve
  b_curve : Binds K fd_curve ["things"] []
  m_curve : mg "curve" = some (.ref f_curve)
  f_most_true : Addr
  fd_most_true : FuncData
  F_most_true : Fun K "most_true" "most_true" s_most_true f_most_true fd_most_true
  b_most_true : Binds K fd_most_true ["things", "false"] []
  m_most_true : mg "most_true" = some (.ref f_most_true)
  f_least_false : Addr
  fd_least_false : FuncData
  F_least_false : Fun K "least_false" "least_false" s_least_false f_least_false fd_least_false
  b_least_false : Binds K fd_least_false ["things", "true"] []
  m_least_false : mg "least_false" = some (.ref f_least_false)
  f_common : Addr
  fd_common : FuncData
  F_common : Fun K "common" "common" s_common f_common fd_common
  b_common : Binds K fd_common ["one", "other"] []
  m_common : mg "common" = some (.ref f_common)
  f_lowest : Addr
  fd_lowest : FuncData
  F_lowest : Fun K "lowest" "lowest" s_lowest f_lowest fd_lowest
  b_lowest : Binds K fd_lowest ["top", "below"] []
  m_lowest : mg "lowest" = some (.ref f_lowest)
  f_plus : Addr
  fd_plus : FuncData
  F_plus : Fun K "plus" "plus" s_plus f_plus fd_plus
  b_plus : Binds K fd_plus ["one", "other"] []
  m_plus : mg "plus" = some (.ref f_plus)
  f_product : Addr
  fd_product : FuncData
  F_product : Fun K "product" "product" s_product f_product fd_product
  b_product : Binds K fd_product ["one", "other"] []
  m_product : mg "product" = some (.ref f_product)
  f_less : Addr
  fd_less : FuncData
  F_less : Fun K "less" "less" s_less f_less fd_less
  b_less : Binds K fd_less ["one", "other"] []
  m_less : mg "less" = some (.ref f_less)
  f_is_mean : Addr
  fd_is_mean : FuncData
  F_is_mean : Fun K "is_mean" "is_mean" s_is_mean f_is_mean fd_is_mean
  b_is_mean : Binds K fd_is_mean ["value", "most"] []
  m_is_mean : mg "is_mean" = some (.ref f_is_mean)
  f_check_mean : Addr
  fd_check_mean : FuncData
  F_check_mean : Fun K "check_mean" "check_mean" s_check_mean f_check_mean fd_check_mean
  b_check_mean : Binds K fd_check_mean ["value", "most"] []
  m_check_mean : mg "check_mean" = some (.ref f_check_mean)
  f_outcomes : Addr
  fd_outcomes : FuncData
  F_outcomes : Fun K "outcomes" "outcomes" s_outcomes f_outcomes fd_outcomes
  b_outcomes : Binds K fd_outcomes ["things"] []
  m_outcomes : mg "outcomes" = some (.ref f_outcomes)
  f_pair_counts : Addr
  fd_pair_counts : FuncData
  F_pair_counts : Fun K "pair_counts" "pair_counts" s_pair_counts f_pair_counts fd_pair_counts
  b_pair_counts : Binds K fd_pair_counts ["things"] []
  m_pair_counts : mg "pair_counts" = some (.ref f_pair_counts)
  f_double_area : Addr
  fd_double_area : FuncData
  F_double_area : Fun K "double_area" "double_area" s_double_area f_double_area fd_double_area
  b_double_area : Binds K fd_double_area ["points"] []
  m_double_area : mg "double_area" = some (.ref f_double_area)
  f_area : Addr
  fd_area : FuncData
  F_area : Fun K "area" "area" s_area f_area fd_area
  b_area : Binds K fd_area ["things"] []
  m_area : mg "area" = some (.ref f_area)
  f_in_order : Addr
  fd_in_order : FuncData
  F_in_order : Fun K "in_order" "in_order" s_in_order f_in_order fd_in_order
  b_in_order : Binds K fd_in_order ["things"] []
  m_in_order : mg "in_order" = some (.ref f_in_order)
  f_wrong_pairs : Addr
  fd_wrong_pairs : FuncData
  F_wrong_pairs : Fun K "wrong_pairs" "wrong_pairs" s_wrong_pairs f_wrong_pairs fd_wrong_pairs
  b_wrong_pairs : Binds K fd_wrong_pairs ["things"] []
  m_wrong_pairs : mg "wrong_pairs" = some (.ref f_wrong_pairs)
  f_way_turn : Addr
  fd_way_turn : FuncData
  F_way_turn : Fun K "way_turn" "way_turn" s_way_turn f_way_turn fd_way_turn
  b_way_turn : Binds K fd_way_turn ["one", "middle", "other"] []
  m_way_turn : mg "way_turn" = some (.ref f_way_turn)
  f_corners_of : Addr
  fd_corners_of : FuncData
  F_corners_of : Fun K "corners_of" "corners_of" s_corners_of f_corners_of fd_corners_of
  b_corners_of : Binds K fd_corners_of ["points"] []
  m_corners_of : mg "corners_of" = some (.ref f_corners_of)
  f_hull : Addr
  fd_hull : FuncData
  F_hull : Fun K "hull" "hull" s_hull f_hull fd_hull
  b_hull : Binds K fd_hull ["things"] []
  m_hull : mg "hull" = some (.ref f_hull)
  f_height_of : Addr
  fd_height_of : FuncData
  F_height_of : Fun K "height_of" "height_of" s_height_of f_height_of fd_height_of
  b_height_of : Binds K fd_height_of ["corners", "place"] []
  m_height_of : mg "height_of" = some (.ref f_height_of)
  f_waste : Addr
  fd_waste : FuncData
  F_waste : Fun K "waste" "waste" s_waste f_waste fd_waste
  b_waste : Binds K fd_waste ["things"] []
  m_waste : mg "waste" = some (.ref f_waste)
  f_is_bent : Addr
  fd_is_bent : FuncData
  F_is_bent : Fun K "is_bent" "is_bent" s_is_bent f_is_bent fd_is_bent
  b_is_bent : Binds K fd_is_bent ["things"] []
  m_is_bent : mg "is_bent" = some (.ref f_is_bent)
  f_cost_of : Addr
  fd_cost_of : FuncData
  F_cost_of : Fun K "cost_of" "cost_of" s_cost_of f_cost_of fd_cost_of
  b_cost_of : Binds K fd_cost_of ["things", "threshold", "false_cost", "miss_cost"] []
  m_cost_of : mg "cost_of" = some (.ref f_cost_of)
  f_check_costs : Addr
  fd_check_costs : FuncData
  F_check_costs : Fun K "check_costs" "check_costs" s_check_costs f_check_costs fd_check_costs
  b_check_costs : Binds K fd_check_costs ["false_cost", "miss_cost"] []
  m_check_costs : mg "check_costs" = some (.ref f_check_costs)
  f_cost_at : Addr
  fd_cost_at : FuncData
  F_cost_at : Fun K "cost_at" "cost_at" s_cost_at f_cost_at fd_cost_at
  b_cost_at : Binds K fd_cost_at ["things", "threshold", "false_cost", "miss_cost"] []
  m_cost_at : mg "cost_at" = some (.ref f_cost_at)
  f_least_cost : Addr
  fd_least_cost : FuncData
  F_least_cost : Fun K "least_cost" "least_cost" s_least_cost f_least_cost fd_least_cost
  b_least_cost : Binds K fd_least_cost ["things", "false_cost", "miss_cost"] []
  m_least_cost : mg "least_cost" = some (.ref f_least_cost)
  f_best_points : Addr
  fd_best_points : FuncData
  F_best_points : Fun K "best_points" "best_points" s_best_points f_best_points fd_best_points
  b_best_points : Binds K fd_best_points ["things", "false_cost", "miss_cost"] []
  m_best_points : mg "best_points" = some (.ref f_best_points)
  f_best_thresholds : Addr
  fd_best_thresholds : FuncData
  F_best_thresholds : Fun K "best_thresholds" "best_thresholds" s_best_thresholds f_best_thresholds fd_best_thresholds
  b_best_thresholds : Binds K fd_best_thresholds ["things", "false_cost", "miss_cost"] []
  m_best_thresholds : mg "best_thresholds" = some (.ref f_best_thresholds)
  f_cost_ranges : Addr
  fd_cost_ranges : FuncData
  F_cost_ranges : Fun K "cost_ranges" "cost_ranges" s_cost_ranges f_cost_ranges fd_cost_ranges
  b_cost_ranges : Binds K fd_cost_ranges ["things"] []
  m_cost_ranges : mg "cost_ranges" = some (.ref f_cost_ranges)
  f_is_ever_best : Addr
  fd_is_ever_best : FuncData
  F_is_ever_best : Fun K "is_ever_best" "is_ever_best" s_is_ever_best f_is_ever_best fd_is_ever_best
  b_is_ever_best : Binds K fd_is_ever_best ["things", "point"] []
  m_is_ever_best : mg "is_ever_best" = some (.ref f_is_ever_best)
  f_miss_cost_for : Addr
  fd_miss_cost_for : FuncData
  F_miss_cost_for : Fun K "miss_cost_for" "miss_cost_for" s_miss_cost_for f_miss_cost_for fd_miss_cost_for
  b_miss_cost_for : Binds K fd_miss_cost_for ["things", "false_cost", "limit"] []
  m_miss_cost_for : mg "miss_cost_for" = some (.ref f_miss_cost_for)
  f_check_share : Addr
  fd_check_share : FuncData
  F_check_share : Fun K "check_share" "check_share" s_check_share f_check_share fd_check_share
  b_check_share : Binds K fd_check_share ["value"] []
  m_check_share : mg "check_share" = some (.ref f_check_share)
  f_mean_point : Addr
  fd_mean_point : FuncData
  F_mean_point : Fun K "mean_point" "mean_point" s_mean_point f_mean_point fd_mean_point
  b_mean_point : Binds K fd_mean_point ["one", "other", "share"] []
  m_mean_point : mg "mean_point" = some (.ref f_mean_point)
  f_mixed_alarms : Addr
  fd_mixed_alarms : FuncData
  F_mixed_alarms : Fun K "mixed_alarms" "mixed_alarms" s_mixed_alarms f_mixed_alarms fd_mixed_alarms
  b_mixed_alarms : Binds K fd_mixed_alarms ["things", "first", "second", "share"] []
  m_mixed_alarms : mg "mixed_alarms" = some (.ref f_mixed_alarms)
  f_best_true : Addr
  fd_best_true : FuncData
  F_best_true : Fun K "best_true" "best_true" s_best_true f_best_true fd_best_true
  b_best_true : Binds K fd_best_true ["things", "false"] []
  m_best_true : mg "best_true" = some (.ref f_best_true)
  f_threshold_of : Addr
  fd_threshold_of : FuncData
  F_threshold_of : Fun K "threshold_of" "threshold_of" s_threshold_of f_threshold_of fd_threshold_of
  b_threshold_of : Binds K fd_threshold_of ["things", "point"] []
  m_threshold_of : mg "threshold_of" = some (.ref f_threshold_of)
  f_best_mixture : Addr
  fd_best_mixture : FuncData
  F_best_mixture : Fun K "best_mixture" "best_mixture" s_best_mixture f_best_mixture fd_best_mixture
  b_best_mixture : Binds K fd_best_mixture ["things", "false"] []
  m_best_mixture : mg "best_mixture" = some (.ref f_best_mixture)
  f_gain : Addr
  fd_gain : FuncData
  F_gain : Fun K "gain" "gain" s_gain f_gain fd_gain
  b_gain : Binds K fd_gain ["things", "false"] []
  m_gain : mg "gain" = some (.ref f_gain)
  f_levels : Addr
  fd_levels : FuncData
  F_levels : Fun K "levels" "levels" s_levels f_levels fd_levels
  b_levels : Binds K fd_levels ["things"] []
  m_levels : mg "levels" = some (.ref f_levels)
  f_falls : Addr
  fd_falls : FuncData
  F_falls : Fun K "falls" "falls" s_falls f_falls fd_falls
  b_falls : Binds K fd_falls ["one", "other"] []
  m_falls : mg "falls" = some (.ref f_falls)
  f_put_together : Addr
  fd_put_together : FuncData
  F_put_together : Fun K "put_together" "put_together" s_put_together f_put_together fd_put_together
  b_put_together : Binds K fd_put_together ["one", "other"] []
  m_put_together : mg "put_together" = some (.ref f_put_together)
  f_pooled : Addr
  fd_pooled : FuncData
  F_pooled : Fun K "pooled" "pooled" s_pooled f_pooled fd_pooled
  b_pooled : Binds K fd_pooled ["things"] []
  m_pooled : mg "pooled" = some (.ref f_pooled)
  f_pools : Addr
  fd_pools : FuncData
  F_pools : Fun K "pools" "pools" s_pools f_pools fd_pools
  b_pools : Binds K fd_pools ["things"] []
  m_pools : mg "pools" = some (.ref f_pools)
  f_share_of : Addr
  fd_share_of : FuncData
  F_share_of : Fun K "share_of" "share_of" s_share_of f_share_of fd_share_of
  b_share_of : Binds K fd_share_of ["things", "score"] []
  m_share_of : mg "share_of" = some (.ref f_share_of)
  f_shares : Addr
  fd_shares : FuncData
  F_shares : Fun K "shares" "shares" s_shares f_shares fd_shares
  b_shares : Binds K fd_shares ["things"] []
  m_shares : mg "shares" = some (.ref f_shares)
  f_squared_error : Addr
  fd_squared_error : FuncData
  F_squared_error : Fun K "squared_error" "squared_error" s_squared_error f_squared_error fd_squared_error
  b_squared_error : Binds K fd_squared_error ["things"] []
  m_squared_error : mg "squared_error" = some (.ref f_squared_error)
  f_is_pooled : Addr
  fd_is_pooled : FuncData
  F_is_pooled : Fun K "is_pooled" "is_pooled" s_is_pooled f_is_pooled fd_is_pooled
  b_is_pooled : Binds K fd_is_pooled ["things"] []
  m_is_pooled : mg "is_pooled" = some (.ref f_is_pooled)
  f_joined : Addr
  fd_joined : FuncData
  F_joined : Fun K "joined" "joined" s_joined f_joined fd_joined
  b_joined : Binds K fd_joined ["things", "other"] []
  m_joined : mg "joined" = some (.ref f_joined)
  f_turned_over : Addr
  fd_turned_over : FuncData
  F_turned_over : Fun K "turned_over" "turned_over" s_turned_over f_turned_over fd_turned_over
  b_turned_over : Binds K fd_turned_over ["things"] []
  m_turned_over : mg "turned_over" = some (.ref f_turned_over)
  f_exchanged : Addr
  fd_exchanged : FuncData
  F_exchanged : Fun K "exchanged" "exchanged" s_exchanged f_exchanged fd_exchanged
  b_exchanged : Binds K fd_exchanged ["things"] []
  m_exchanged : mg "exchanged" = some (.ref f_exchanged)
  f_format_things : Addr
  fd_format_things : FuncData
  F_format_things : Fun K "format_things" "format_things" s_format_things f_format_things fd_format_things
  b_format_things : Binds K fd_format_things ["things"] []
  m_format_things : mg "format_things" = some (.ref f_format_things)
  f_law_start : Addr
  fd_law_start : FuncData
  F_law_start : Fun K "_law_start" "_law_start" s_law_start f_law_start fd_law_start
  b_law_start : Binds K fd_law_start ["_law_script"] []
  m_law_start : mg "_law_start" = some (.ref f_law_start)
  f_law_draw : Addr
  fd_law_draw : FuncData
  F_law_draw : Fun K "_law_draw" "_law_draw" s_law_draw f_law_draw fd_law_draw
  b_law_draw : Binds K fd_law_draw ["_law_draws", "_law_limit"] []
  m_law_draw : mg "_law_draw" = some (.ref f_law_draw)
  f_law_error : Addr
  fd_law_error : FuncData
  F_law_error : Fun K "_law_error" "_law_error" s_law_error f_law_error fd_law_error
  b_law_error : Binds K fd_law_error ["_law_caught"] []
  m_law_error : mg "_law_error" = some (.ref f_law_error)
  f_law_one : Addr
  fd_law_one : FuncData
  F_law_one : Fun K "_law_one" "_law_one" s_law_one f_law_one fd_law_one
  b_law_one : Binds K fd_law_one ["_law_kind", "_law_things"] []
  m_law_one : mg "_law_one" = some (.ref f_law_one)
  f_law_two : Addr
  fd_law_two : FuncData
  F_law_two : Fun K "_law_two" "_law_two" s_law_two f_law_two fd_law_two
  b_law_two : Binds K fd_law_two ["_law_kind", "_law_things", "_law_one_here", "_law_two_here"] []
  m_law_two : mg "_law_two" = some (.ref f_law_two)
  f_law_asked : Addr
  fd_law_asked : FuncData
  F_law_asked : Fun K "_law_asked" "_law_asked" s_law_asked f_law_asked fd_law_asked
  b_law_asked : Binds K fd_law_asked ["_law_group", "_law_kind", "_law_things", "_law_one_here", "_law_two_here"] []
  m_law_asked : mg "_law_asked" = some (.ref f_law_asked)
  f_law_limits : Addr
  fd_law_limits : FuncData
  F_law_limits : Fun K "_law_limits" "_law_limits" s_law_limits f_law_limits fd_law_limits
  b_law_limits : Binds K fd_law_limits ["_law_things"] []
  m_law_limits : mg "_law_limits" = some (.ref f_law_limits)
  f_law : Addr
  fd_law : FuncData
  F_law : Fun K "law" "law" s_law f_law fd_law
  b_law : Binds K fd_law ["_law_script"] []
  m_law : mg "law" = some (.ref f_law)
/-! ### what each def makes -/
def MU_law : DL.Env → Nat := fun ρ => match ((ρ : List Sl)[3]? : Option Sl) with | some (.d (.list ds)) => ds.length + 1 | _ => 0
def MU_common : DL.Env → Nat := fun ρ => match ((ρ : List Sl)[1]? : Option Sl) with | some (.d (.int i)) => i.natAbs + 1 | _ => 0
def MU_corners_of : DL.Env → Nat := fun ρ => match ((ρ : List Sl)[1]? : Option Sl) with | some (.m xs) => xs.length + 1 | _ => 0
def MU_pooled : DL.Env → Nat := fun ρ => match ((ρ : List Sl)[1]? : Option Sl) with | some (.m xs) => xs.length + 1 | _ => 0
def F_is_int : FS Unit := (sRet (eAnd (eIsi isInt (eVar 0)) (eAnd (eNot (eIsi isBool (eVar 0))) (eChain leD leD (eVar 1) (eVar 0) (eVar 2)))))
def sem_is_int : List D → Res Unit D := fnSem 0 F_is_int
def F_is_thing : FS Unit := (sSeq (sIf (fOr (fNot (fun ρ s => tstOf ((eIsi isTuple (eVar 0)) ρ s))) (fun ρ s => tstOf ((eOp neD (eCall lenD (aCons (eVar 0) aNil)) (eC (.int 2))) ρ s))) (sRet (eC (.bool false))) sNil)
  (sRet (eAnd (eFn 3 sem_is_int (aCons (eOp ixD (eVar 0) (eC (.int 0))) (aCons (eC (.int 0)) (aCons (eC (.int 99)) aNil)))) (eIsi isBool (eOp ixD (eVar 0) (eC (.int 1)))))))
def sem_is_thing : List D → Res Unit D := fnSem 0 F_is_thing
def F_is_things : FS Unit := (sSeq (sIf (fOr (fNot (fun ρ s => tstOf ((eIsi isList (eVar 0)) ρ s))) (fNot (fun ρ s => tstOf ((eChain leD leD (eC (.int 1)) (eCall lenD (aCons (eVar 0) aNil)) (eC (.int 12))) ρ s)))) (sRet (eC (.bool false))) sNil)
  (sRet (eCall allD (aCons (eNew (lComp (lList (eVar 0)) [1] (pNm 1) fYes (eFn 1 sem_is_thing (aCons (eVar 1) aNil)))) aNil))))
def sem_is_things : List D → Res Unit D := fnSem 1 F_is_things
def F_check_things : FS Unit := (sIf (fNot (fun ρ s => tstOf ((eFn 1 sem_is_things (aCons (eVar 0) aNil)) ρ s))) (sRaise 0) sNil)
def sem_check_things : List D → Res Unit D := fnSem 0 F_check_things
def F_check_threshold : FS Unit := (sIf (fNot (fun ρ s => tstOf ((eFn 3 sem_is_int (aCons (eVar 0) (aCons (eC (.int 0)) (aCons (eOp addD (eC (.int 99)) (eC (.int 1))) aNil)))) ρ s))) (sRaise 1) sNil)
def sem_check_threshold : List D → Res Unit D := fnSem 0 F_check_threshold
def F_check_cost : FS Unit := (sIf (fNot (fun ρ s => tstOf ((eFn 3 sem_is_int (aCons (eVar 0) (aCons (eC (.int 0)) (aCons (eC (.int 1000)) aNil)))) ρ s))) (sRaise 1) sNil)
def sem_check_cost : List D → Res Unit D := fnSem 0 F_check_cost
def F_counts : FS Unit := (sSeq (sSet 2 (eCall lenD (aCons (eNew (lComp (lList (eVar 0)) [3, 4] (pTp 2 (psCons (pNm 3) (psCons (pNm 4) psNil))) (fAnd (fun ρ s => tstOf ((eOp geD (eVar 3) (eVar 1)) ρ s)) (fNot (fun ρ s => tstOf ((eVar 4) ρ s)))) (eC (.int 1)))) aNil)))
  (sRet (eTup (aCons (eVar 2) (aCons (eCall lenD (aCons (eNew (lComp (lList (eVar 0)) [3, 4] (pTp 2 (psCons (pNm 3) (psCons (pNm 4) psNil))) (fAnd (fun ρ s => tstOf ((eOp geD (eVar 3) (eVar 1)) ρ s)) (fun ρ s => tstOf ((eVar 4) ρ s))) (eC (.int 1)))) aNil)) aNil)))))
def sem_counts : List D → Res Unit D := fnSem 3 F_counts
def F_alarms_at : FS Unit := (sSeq (sDrop (eFn 1 sem_check_things (aCons (eVar 0) aNil)))
  (sSeq (sDrop (eFn 1 sem_check_threshold (aCons (eVar 1) aNil)))
  (sRet (eFn 2 sem_counts (aCons (eVar 0) (aCons (eVar 1) aNil))))))
def sem_alarms_at : List D → Res Unit D := fnSem 0 F_alarms_at
def F_scores_of : FS Unit := (sRet (eRev (eCall sortSetD (aCons (eNew (lComp (lList (eVar 0)) [1, 2] (pTp 2 (psCons (pNm 1) (psCons (pNm 2) psNil))) fYes (eVar 1))) aNil))))
def sem_scores_of : List D → Res Unit D := fnSem 2 F_scores_of
def F_unlike_scores : FS Unit := (sSeq (sDrop (eFn 1 sem_check_things (aCons (eVar 0) aNil)))
  (sRet (eFn 1 sem_scores_of (aCons (eVar 0) aNil))))
def sem_unlike_scores : List D → Res Unit D := fnSem 0 F_unlike_scores
def F_thresholds_of : FS Unit := (sRet (eOp addD (eLst (aCons (eC (.int 100)) aNil)) (eFn 1 sem_scores_of (aCons (eVar 0) aNil))))
def sem_thresholds_of : List D → Res Unit D := fnSem 0 F_thresholds_of
def F_totals : FS Unit := (sSeq (sDrop (eFn 1 sem_check_things (aCons (eVar 0) aNil)))
  (sRet (eFn 2 sem_counts (aCons (eVar 0) (aCons (eC (.int 0)) aNil)))))
def sem_totals : List D → Res Unit D := fnSem 0 F_totals
def F_points_of : FS Unit := (sRet (eOp addD (eLst (aCons (eTup (aCons (eC (.int 0)) (aCons (eC (.int 0)) aNil))) aNil)) (eNew (lComp (lList (eFn 1 sem_scores_of (aCons (eVar 0) aNil))) [1] (pNm 1) fYes (eFn 2 sem_counts (aCons (eVar 0) (aCons (eVar 1) aNil)))))))
def sem_points_of : List D → Res Unit D := fnSem 1 F_points_of
def F_curve : FS Unit := (sSeq (sDrop (eFn 1 sem_check_things (aCons (eVar 0) aNil)))
  (sRet (eFn 1 sem_points_of (aCons (eVar 0) aNil))))
def sem_curve : List D → Res Unit D := fnSem 0 F_curve
def F_most_true : FS Unit := (sSeq (sDrop (eFn 1 sem_check_things (aCons (eVar 0) aNil)))
  (sSeq (sIf (fNot (fun ρ s => tstOf ((eFn 3 sem_is_int (aCons (eVar 1) (aCons (eC (.int 0)) (aCons (eC (.int 12)) aNil)))) ρ s))) (sRaise 1) sNil)
  (sRet (eCall maxD (aCons (eNew (lComp (lList (eFn 1 sem_points_of (aCons (eVar 0) aNil))) [2, 3] (pTp 2 (psCons (pNm 2) (psCons (pNm 3) psNil))) (fun ρ s => tstOf ((eOp leD (eVar 2) (eVar 1)) ρ s)) (eVar 3))) aNil)))))
def sem_most_true : List D → Res Unit D := fnSem 2 F_most_true
def F_least_false : FS Unit := (sSeq (sDrop (eFn 1 sem_check_things (aCons (eVar 0) aNil)))
  (sSeq (sIf (fNot (fun ρ s => tstOf ((eFn 3 sem_is_int (aCons (eVar 1) (aCons (eC (.int 0)) (aCons (eC (.int 12)) aNil)))) ρ s))) (sRaise 1) sNil)
  (sSeq (sSet 2 (eNew (lComp (lList (eFn 1 sem_points_of (aCons (eVar 0) aNil))) [3, 4] (pTp 2 (psCons (pNm 3) (psCons (pNm 4) psNil))) (fun ρ s => tstOf ((eOp geD (eVar 4) (eVar 1)) ρ s)) (eVar 3))))
  (sRet (eIf (fun ρ s => tstOf ((eOp neD (eVar 2) (eLst aNil)) ρ s)) (eCall minD (aCons (eVar 2) aNil)) (eC .none))))))
def sem_least_false : List D → Res Unit D := fnSem 3 F_least_false
def F_common : FS Unit := (sSeq (sPar 0 1 (aCons (eCall absD (aCons (eVar 0) aNil)) (aCons (eCall absD (aCons (eVar 1) aNil)) aNil)))
  (sSeq (sWhile MU_common (fun ρ s => tstOf ((eOp neD (eVar 1) (eC (.int 0))) ρ s)) (sPar 0 1 (aCons (eVar 1) (aCons (eOp modD (eVar 0) (eVar 1)) aNil))))
  (sRet (eVar 0))))
def sem_common : List D → Res Unit D := fnSem 0 F_common
def F_lowest : FS Unit := (sSeq (sIf (fun ρ s => tstOf ((eOp ltD (eVar 1) (eC (.int 0))) ρ s)) (sPar 0 1 (aCons (eNeg (eVar 0)) (aCons (eNeg (eVar 1)) aNil))) sNil)
  (sSeq (sSet 2 (eFn 2 sem_common (aCons (eVar 0) (aCons (eVar 1) aNil))))
  (sRet (eTup (aCons (eOp fdivD (eVar 0) (eVar 2)) (aCons (eOp fdivD (eVar 1) (eVar 2)) aNil))))))
def sem_lowest : List D → Res Unit D := fnSem 1 F_lowest
def F_plus : FS Unit := (sRet (eFn 2 sem_lowest (aCons (eOp addD (eOp mulD (eOp ixD (eVar 0) (eC (.int 0))) (eOp ixD (eVar 1) (eC (.int 1)))) (eOp mulD (eOp ixD (eVar 1) (eC (.int 0))) (eOp ixD (eVar 0) (eC (.int 1))))) (aCons (eOp mulD (eOp ixD (eVar 0) (eC (.int 1))) (eOp ixD (eVar 1) (eC (.int 1)))) aNil))))
def sem_plus : List D → Res Unit D := fnSem 0 F_plus
def F_product : FS Unit := (sRet (eFn 2 sem_lowest (aCons (eOp mulD (eOp ixD (eVar 0) (eC (.int 0))) (eOp ixD (eVar 1) (eC (.int 0)))) (aCons (eOp mulD (eOp ixD (eVar 0) (eC (.int 1))) (eOp ixD (eVar 1) (eC (.int 1)))) aNil))))
def sem_product : List D → Res Unit D := fnSem 0 F_product
def F_less : FS Unit := (sRet (eOp ltD (eOp mulD (eOp ixD (eVar 0) (eC (.int 0))) (eOp ixD (eVar 1) (eC (.int 1)))) (eOp mulD (eOp ixD (eVar 1) (eC (.int 0))) (eOp ixD (eVar 0) (eC (.int 1))))))
def sem_less : List D → Res Unit D := fnSem 0 F_less
def F_is_mean : FS Unit := (sSeq (sIf (fOr (fNot (fun ρ s => tstOf ((eIsi isTuple (eVar 0)) ρ s))) (fOr (fun ρ s => tstOf ((eOp neD (eCall lenD (aCons (eVar 0) aNil)) (eC (.int 2))) ρ s)) (fNot (fun ρ s => tstOf ((eFn 3 sem_is_int (aCons (eOp ixD (eVar 0) (eC (.int 1))) (aCons (eC (.int 1)) (aCons (eC (.int 1000)) aNil)))) ρ s))))) (sRet (eC (.bool false))) sNil)
  (sRet (eAnd (eFn 3 sem_is_int (aCons (eOp ixD (eVar 0) (eC (.int 0))) (aCons (eC (.int 0)) (aCons (eOp mulD (eVar 1) (eOp ixD (eVar 0) (eC (.int 1)))) aNil)))) (eOp eqD (eFn 2 sem_common (aCons (eOp ixD (eVar 0) (eC (.int 0))) (aCons (eOp ixD (eVar 0) (eC (.int 1))) aNil))) (eC (.int 1))))))
def sem_is_mean : List D → Res Unit D := fnSem 0 F_is_mean
def F_check_mean : FS Unit := (sIf (fNot (fun ρ s => tstOf ((eFn 2 sem_is_mean (aCons (eVar 0) (aCons (eVar 1) aNil))) ρ s))) (sRaise 1) sNil)
def sem_check_mean : List D → Res Unit D := fnSem 0 F_check_mean
def F_outcomes : FS Unit := (sSeq (sAsg (pTp 3 (psCons (pNm 1) (psCons (pNm 2) (psCons (pNm 3) psNil)))) (eTup (aCons (eC (.int 0)) (aCons (eC (.int 0)) (aCons (eC (.int 0)) aNil)))))
  (sSeq (sFor (lList (eVar 0)) (pTp 2 (psCons (pNm 4) (psCons (pNm 5) psNil))) (sFor (lList (eVar 0)) (pTp 2 (psCons (pNm 6) (psCons (pNm 7) psNil))) (sIf (fAnd (fun ρ s => tstOf ((eVar 5) ρ s)) (fNot (fun ρ s => tstOf ((eVar 7) ρ s)))) (sSeq (sAug 1 iaddD (eIf (fun ρ s => tstOf ((eOp gtD (eVar 4) (eVar 6)) ρ s)) (eC (.int 1)) (eC (.int 0))))
  (sSeq (sAug 2 iaddD (eIf (fun ρ s => tstOf ((eOp eqD (eVar 4) (eVar 6)) ρ s)) (eC (.int 1)) (eC (.int 0))))
  (sAug 3 iaddD (eIf (fun ρ s => tstOf ((eOp ltD (eVar 4) (eVar 6)) ρ s)) (eC (.int 1)) (eC (.int 0)))))) sNil)))
  (sRet (eTup (aCons (eVar 1) (aCons (eVar 2) (aCons (eVar 3) aNil)))))))
def sem_outcomes : List D → Res Unit D := fnSem 7 F_outcomes
def F_pair_counts : FS Unit := (sSeq (sDrop (eFn 1 sem_check_things (aCons (eVar 0) aNil)))
  (sRet (eFn 1 sem_outcomes (aCons (eVar 0) aNil))))
def sem_pair_counts : List D → Res Unit D := fnSem 0 F_pair_counts
def F_double_area : FS Unit := (sSeq (sSet 1 (eC (.int 0)))
  (sSeq (sFor (lZip (aCons (eVar 0) (aCons (eSl (eVar 0) (oSome (eC (.int 1))) oNone) aNil))) (pTp 2 (psCons (pNm 2) (psCons (pNm 3) psNil))) (sAug 1 iaddD (eOp mulD (eOp subD (eOp ixD (eVar 3) (eC (.int 0))) (eOp ixD (eVar 2) (eC (.int 0)))) (eOp addD (eOp ixD (eVar 2) (eC (.int 1))) (eOp ixD (eVar 3) (eC (.int 1)))))))
  (sRet (eVar 1))))
def sem_double_area : List D → Res Unit D := fnSem 3 F_double_area
def F_area : FS Unit := (sSeq (sDrop (eFn 1 sem_check_things (aCons (eVar 0) aNil)))
  (sSeq (sSet 1 (eFn 1 sem_points_of (aCons (eVar 0) aNil)))
  (sSeq (sSet 2 (eOp mulD (eOp ixD (eOp ixD (eVar 1) (eNeg (eC (.int 1)))) (eC (.int 0))) (eOp ixD (eOp ixD (eVar 1) (eNeg (eC (.int 1)))) (eC (.int 1)))))
  (sSeq (sIf (fun ρ s => tstOf ((eOp eqD (eVar 2) (eC (.int 0))) ρ s)) (sRaise 4) sNil)
  (sRet (eFn 2 sem_lowest (aCons (eFn 1 sem_double_area (aCons (eVar 1) aNil)) (aCons (eOp mulD (eC (.int 2)) (eVar 2)) aNil))))))))
def sem_area : List D → Res Unit D := fnSem 2 F_area
def F_in_order : FS Unit := (sSeq (sDrop (eFn 1 sem_check_things (aCons (eVar 0) aNil)))
  (sSeq (sAsg (pTp 3 (psCons (pNm 1) (psCons (pNm 2) (psCons (pNm 3) psNil)))) (eFn 1 sem_outcomes (aCons (eVar 0) aNil)))
  (sRet (eAnd (eOp eqD (eVar 2) (eC (.int 0))) (eOp eqD (eVar 3) (eC (.int 0)))))))
def sem_in_order : List D → Res Unit D := fnSem 3 F_in_order
def F_wrong_pairs : FS Unit := (sSeq (sDrop (eFn 1 sem_check_things (aCons (eVar 0) aNil)))
  (sSeq (sSetM 1 (lLst aNil))
  (sSeq (sFor (lEnum (aCons (eVar 0) aNil)) (pTp 2 (psCons (pNm 2) (psCons (pTp 2 (psCons (pNm 3) (psCons (pNm 4) psNil))) psNil))) (sFor (lEnum (aCons (eVar 0) aNil)) (pTp 2 (psCons (pNm 5) (psCons (pTp 2 (psCons (pNm 6) (psCons (pNm 7) psNil))) psNil))) (sIf (fAnd (fun ρ s => tstOf ((eVar 4) ρ s)) (fAnd (fNot (fun ρ s => tstOf ((eVar 7) ρ s))) (fun ρ s => tstOf ((eOp geD (eVar 6) (eVar 3)) ρ s)))) (sApp 1 (eTup (aCons (eVar 2) (aCons (eVar 5) aNil)))) sNil)))
  (fun ρ s => (sRet (eVar 1)) (frzE [1] ρ) s))))
def sem_wrong_pairs : List D → Res Unit D := fnSem 7 F_wrong_pairs
def F_way_turn : FS Unit := (sSeq (sPar 3 4 (aCons (eOp subD (eOp ixD (eVar 1) (eC (.int 0))) (eOp ixD (eVar 0) (eC (.int 0)))) (aCons (eOp subD (eOp ixD (eVar 1) (eC (.int 1))) (eOp ixD (eVar 0) (eC (.int 1)))) aNil)))
  (sRet (eOp subD (eOp mulD (eVar 3) (eOp subD (eOp ixD (eVar 2) (eC (.int 1))) (eOp ixD (eVar 0) (eC (.int 1))))) (eOp mulD (eVar 4) (eOp subD (eOp ixD (eVar 2) (eC (.int 0))) (eOp ixD (eVar 0) (eC (.int 0))))))))
def sem_way_turn : List D → Res Unit D := fnSem 2 F_way_turn
def F_corners_of : FS Unit := (sSeq (sSetM 1 (lLst aNil))
  (sSeq (sFor (lList (eVar 0)) (pNm 2) (sSeq (sWhile MU_corners_of (fAnd (fun ρ s => tstOf ((eOp geD (eCallM lenD 1) (eC (.int 2))) ρ s)) (fun ρ s => tstOf ((eOp geD (eFn 3 sem_way_turn (aCons (eIxM 1 (eNeg (eC (.int 2)))) (aCons (eIxM 1 (eNeg (eC (.int 1)))) (aCons (eVar 2) aNil)))) (eC (.int 0))) ρ s))) (sSetM 1 (lSlM 1 oNone (oSome (eNeg (eC (.int 1)))))))
  (sApp 1 (eVar 2))))
  (fun ρ s => (sRet (eVar 1)) (frzE [1] ρ) s)))
def sem_corners_of : List D → Res Unit D := fnSem 2 F_corners_of
def F_hull : FS Unit := (sSeq (sDrop (eFn 1 sem_check_things (aCons (eVar 0) aNil)))
  (sRet (eFn 1 sem_corners_of (aCons (eFn 1 sem_points_of (aCons (eVar 0) aNil)) aNil))))
def sem_hull : List D → Res Unit D := fnSem 0 F_hull
def F_height_of : FS Unit := (sSeq (sSet 2 (eTup (aCons (eC (.int 0)) (aCons (eC (.int 1)) aNil))))
  (sSeq (sFor (lZip (aCons (eVar 0) (aCons (eSl (eVar 0) (oSome (eC (.int 1))) oNone) aNil))) (pTp 2 (psCons (pNm 3) (psCons (pNm 4) psNil))) (sIf (fun ρ s => tstOf ((eChain leD leD (eOp mulD (eOp ixD (eVar 3) (eC (.int 0))) (eOp ixD (eVar 1) (eC (.int 1)))) (eOp ixD (eVar 1) (eC (.int 0))) (eOp mulD (eOp ixD (eVar 4) (eC (.int 0))) (eOp ixD (eVar 1) (eC (.int 1))))) ρ s)) (sSeq (sSet 5 (eOp subD (eOp ixD (eVar 4) (eC (.int 0))) (eOp ixD (eVar 3) (eC (.int 0)))))
  (sSeq (sIf (fun ρ s => tstOf ((eOp eqD (eVar 5) (eC (.int 0))) ρ s)) (sSet 6 (eTup (aCons (eOp ixD (eVar 4) (eC (.int 1))) (aCons (eC (.int 1)) aNil)))) (sSeq (sSet 7 (eOp addD (eOp mulD (eOp mulD (eOp ixD (eVar 3) (eC (.int 1))) (eVar 5)) (eOp ixD (eVar 1) (eC (.int 1)))) (eOp mulD (eOp subD (eOp ixD (eVar 1) (eC (.int 0))) (eOp mulD (eOp ixD (eVar 3) (eC (.int 0))) (eOp ixD (eVar 1) (eC (.int 1))))) (eOp subD (eOp ixD (eVar 4) (eC (.int 1))) (eOp ixD (eVar 3) (eC (.int 1)))))))
  (sSet 6 (eFn 2 sem_lowest (aCons (eVar 7) (aCons (eOp mulD (eVar 5) (eOp ixD (eVar 1) (eC (.int 1)))) aNil))))))
  (sSet 2 (eIf (fun ρ s => tstOf ((eFn 2 sem_less (aCons (eVar 2) (aCons (eVar 6) aNil))) ρ s)) (eVar 6) (eVar 2))))) sNil))
  (sRet (eVar 2))))
def sem_height_of : List D → Res Unit D := fnSem 6 F_height_of
def F_waste : FS Unit := (sSeq (sDrop (eFn 1 sem_check_things (aCons (eVar 0) aNil)))
  (sSeq (sSet 1 (eFn 1 sem_points_of (aCons (eVar 0) aNil)))
  (sRet (eOp subD (eFn 1 sem_double_area (aCons (eFn 1 sem_corners_of (aCons (eVar 1) aNil)) aNil)) (eFn 1 sem_double_area (aCons (eVar 1) aNil))))))
def sem_waste : List D → Res Unit D := fnSem 1 F_waste
def F_is_bent : FS Unit := (sSeq (sDrop (eFn 1 sem_check_things (aCons (eVar 0) aNil)))
  (sSeq (sSet 1 (eFn 1 sem_points_of (aCons (eVar 0) aNil)))
  (sRet (eOp eqD (eFn 1 sem_double_area (aCons (eFn 1 sem_corners_of (aCons (eVar 1) aNil)) aNil)) (eFn 1 sem_double_area (aCons (eVar 1) aNil))))))
def sem_is_bent : List D → Res Unit D := fnSem 1 F_is_bent
def F_cost_of : FS Unit := (sSeq (sAsg (pTp 2 (psCons (pNm 4) (psCons (pNm 5) psNil))) (eFn 2 sem_counts (aCons (eVar 0) (aCons (eVar 1) aNil))))
  (sRet (eOp addD (eOp mulD (eVar 2) (eVar 4)) (eOp mulD (eVar 3) (eOp subD (eOp ixD (eFn 2 sem_counts (aCons (eVar 0) (aCons (eC (.int 0)) aNil))) (eC (.int 1))) (eVar 5))))))
def sem_cost_of : List D → Res Unit D := fnSem 2 F_cost_of
def F_check_costs : FS Unit := (sSeq (sDrop (eFn 1 sem_check_cost (aCons (eVar 0) aNil)))
  (sDrop (eFn 1 sem_check_cost (aCons (eVar 1) aNil))))
def sem_check_costs : List D → Res Unit D := fnSem 0 F_check_costs
def F_cost_at : FS Unit := (sSeq (sDrop (eFn 1 sem_check_things (aCons (eVar 0) aNil)))
  (sSeq (sDrop (eFn 1 sem_check_threshold (aCons (eVar 1) aNil)))
  (sSeq (sDrop (eFn 2 sem_check_costs (aCons (eVar 2) (aCons (eVar 3) aNil))))
  (sRet (eFn 4 sem_cost_of (aCons (eVar 0) (aCons (eVar 1) (aCons (eVar 2) (aCons (eVar 3) aNil)))))))))
def sem_cost_at : List D → Res Unit D := fnSem 0 F_cost_at
def F_least_cost : FS Unit := (sSeq (sDrop (eFn 1 sem_check_things (aCons (eVar 0) aNil)))
  (sSeq (sDrop (eFn 2 sem_check_costs (aCons (eVar 1) (aCons (eVar 2) aNil))))
  (sRet (eCall minD (aCons (eNew (lComp (lList (eFn 1 sem_thresholds_of (aCons (eVar 0) aNil))) [3] (pNm 3) fYes (eFn 4 sem_cost_of (aCons (eVar 0) (aCons (eVar 3) (aCons (eVar 1) (aCons (eVar 2) aNil))))))) aNil)))))
def sem_least_cost : List D → Res Unit D := fnSem 1 F_least_cost
def F_best_points : FS Unit := (sSeq (sDrop (eFn 1 sem_check_things (aCons (eVar 0) aNil)))
  (sSeq (sDrop (eFn 2 sem_check_costs (aCons (eVar 1) (aCons (eVar 2) aNil))))
  (sSeq (sSet 3 (eOp ixD (eFn 2 sem_counts (aCons (eVar 0) (aCons (eC (.int 0)) aNil))) (eC (.int 1))))
  (sSeq (sSet 4 (eFn 1 sem_points_of (aCons (eVar 0) aNil)))
  (sSeq (sSet 5 (eNew (lComp (lList (eVar 4)) [6, 7] (pTp 2 (psCons (pNm 6) (psCons (pNm 7) psNil))) fYes (eOp addD (eOp mulD (eVar 1) (eVar 6)) (eOp mulD (eVar 2) (eOp subD (eVar 3) (eVar 7)))))))
  (sRet (eNew (lComp (lZip (aCons (eVar 4) (aCons (eVar 5) aNil))) [8, 9] (pTp 2 (psCons (pNm 8) (psCons (pNm 9) psNil))) (fun ρ s => tstOf ((eOp eqD (eVar 9) (eCall minD (aCons (eVar 5) aNil))) ρ s)) (eVar 8)))))))))
def sem_best_points : List D → Res Unit D := fnSem 7 F_best_points
def F_best_thresholds : FS Unit := (sSeq (sDrop (eFn 1 sem_check_things (aCons (eVar 0) aNil)))
  (sSeq (sDrop (eFn 2 sem_check_costs (aCons (eVar 1) (aCons (eVar 2) aNil))))
  (sSeq (sSet 3 (eNew (lComp (lRng1 (aCons (eC (.int 101)) aNil)) [4] (pNm 4) fYes (eFn 4 sem_cost_of (aCons (eVar 0) (aCons (eVar 4) (aCons (eVar 1) (aCons (eVar 2) aNil))))))))
  (sRet (eNew (lComp (lRng1 (aCons (eC (.int 101)) aNil)) [4] (pNm 4) (fun ρ s => tstOf ((eOp eqD (eOp ixD (eVar 3) (eVar 4)) (eCall minD (aCons (eVar 3) aNil))) ρ s)) (eVar 4)))))))
def sem_best_thresholds : List D → Res Unit D := fnSem 2 F_best_thresholds
def F_cost_ranges : FS Unit := (sSeq (sDrop (eFn 1 sem_check_things (aCons (eVar 0) aNil)))
  (sSeq (sSet 1 (eFn 1 sem_corners_of (aCons (eFn 1 sem_points_of (aCons (eVar 0) aNil)) aNil)))
  (sSeq (sSet 2 (eNew (lComp (lZip (aCons (eVar 1) (aCons (eSl (eVar 1) (oSome (eC (.int 1))) oNone) aNil))) [6, 7] (pTp 2 (psCons (pNm 6) (psCons (pNm 7) psNil))) fYes (eTup (aCons (eOp subD (eOp ixD (eVar 7) (eC (.int 0))) (eOp ixD (eVar 6) (eC (.int 0)))) (aCons (eOp subD (eOp ixD (eVar 7) (eC (.int 1))) (eOp ixD (eVar 6) (eC (.int 1)))) aNil))))))
  (sSeq (sSetM 3 (lLst aNil))
  (sSeq (sFor (lEnum (aCons (eVar 1) aNil)) (pTp 2 (psCons (pNm 4) (psCons (pNm 5) psNil))) (sApp 3 (eTup (aCons (eVar 5) (aCons (eIf (fun ρ s => tstOf ((eOp gtD (eVar 4) (eC (.int 0))) ρ s)) (eOp ixD (eVar 2) (eOp subD (eVar 4) (eC (.int 1)))) (eC .none)) (aCons (eIf (fun ρ s => tstOf ((eOp ltD (eVar 4) (eCall lenD (aCons (eVar 2) aNil))) ρ s)) (eOp ixD (eVar 2) (eVar 4)) (eC .none)) aNil))))))
  (fun ρ s => (sRet (eVar 3)) (frzE [3] ρ) s))))))
def sem_cost_ranges : List D → Res Unit D := fnSem 7 F_cost_ranges
def F_is_ever_best : FS Unit := (sSeq (sDrop (eFn 1 sem_check_things (aCons (eVar 0) aNil)))
  (sSeq (sSet 2 (eFn 1 sem_points_of (aCons (eVar 0) aNil)))
  (sSeq (sIf (fOr (fNot (fun ρ s => tstOf ((eIsi isTuple (eVar 1)) ρ s))) (fun ρ s => tstOf ((eOp (inD true) (eVar 1) (eVar 2)) ρ s))) (sRaise 4) sNil)
  (sSeq (sFor (lList (eVar 2)) (pNm 3) (sSeq (sIf (fAnd (fun ρ s => tstOf ((eOp neD (eVar 3) (eVar 1)) ρ s)) (fAnd (fun ρ s => tstOf ((eOp leD (eOp ixD (eVar 3) (eC (.int 0))) (eOp ixD (eVar 1) (eC (.int 0)))) ρ s)) (fun ρ s => tstOf ((eOp geD (eOp ixD (eVar 3) (eC (.int 1))) (eOp ixD (eVar 1) (eC (.int 1)))) ρ s)))) (sRet (eC (.bool false))) sNil)
  (sFor (lList (eVar 2)) (pNm 4) (sIf (fAnd (fun ρ s => tstOf ((eChain ltD ltD (eOp ixD (eVar 3) (eC (.int 0))) (eOp ixD (eVar 1) (eC (.int 0))) (eOp ixD (eVar 4) (eC (.int 0)))) ρ s)) (fun ρ s => tstOf ((eOp gtD (eFn 3 sem_way_turn (aCons (eVar 3) (aCons (eVar 1) (aCons (eVar 4) aNil)))) (eC (.int 0))) ρ s))) (sRet (eC (.bool false))) sNil))))
  (sRet (eC (.bool true)))))))
def sem_is_ever_best : List D → Res Unit D := fnSem 3 F_is_ever_best
def F_miss_cost_for : FS Unit := (sSeq (sDrop (eFn 1 sem_check_things (aCons (eVar 0) aNil)))
  (sSeq (sDrop (eFn 1 sem_check_cost (aCons (eVar 1) aNil)))
  (sSeq (sIf (fNot (fun ρ s => tstOf ((eFn 3 sem_is_int (aCons (eVar 2) (aCons (eC (.int 0)) (aCons (eC (.int 1000)) aNil)))) ρ s))) (sRaise 1) sNil)
  (sSeq (sSet 3 (eOp ixD (eFn 2 sem_counts (aCons (eVar 0) (aCons (eC (.int 0)) aNil))) (eC (.int 1))))
  (sSeq (sFor (lRng1 (aCons (eOp addD (eVar 2) (eC (.int 1))) aNil)) (pNm 4) (sSeq (sSet 5 (eFn 1 sem_points_of (aCons (eVar 0) aNil)))
  (sSeq (sSet 6 (eNew (lComp (lList (eVar 5)) [7, 8] (pTp 2 (psCons (pNm 7) (psCons (pNm 8) psNil))) fYes (eOp addD (eOp mulD (eVar 1) (eVar 7)) (eOp mulD (eVar 4) (eOp subD (eVar 3) (eVar 8)))))))
  (sIf (fun ρ s => tstOf ((eOp eqD (eCall maxD (aCons (eNew (lComp (lZip (aCons (eVar 5) (aCons (eVar 6) aNil))) [9, 7, 8] (pTp 2 (psCons (pTp 2 (psCons (pNm 7) (psCons (pNm 8) psNil))) (psCons (pNm 9) psNil))) (fun ρ s => tstOf ((eOp eqD (eVar 9) (eCall minD (aCons (eVar 6) aNil))) ρ s)) (eVar 8))) aNil)) (eVar 3)) ρ s)) (sRet (eVar 4)) sNil))))
  (sRet (eC .none)))))))
def sem_miss_cost_for : List D → Res Unit D := fnSem 7 F_miss_cost_for
def F_check_share : FS Unit := (sSeq (sIf (fOr (fNot (fun ρ s => tstOf ((eIsi isTuple (eVar 0)) ρ s))) (fOr (fun ρ s => tstOf ((eOp neD (eCall lenD (aCons (eVar 0) aNil)) (eC (.int 2))) ρ s)) (fNot (fun ρ s => tstOf ((eFn 3 sem_is_int (aCons (eOp ixD (eVar 0) (eC (.int 1))) (aCons (eC (.int 1)) (aCons (eC (.int 1000)) aNil)))) ρ s))))) (sRaise 1) sNil)
  (sIf (fOr (fNot (fun ρ s => tstOf ((eFn 3 sem_is_int (aCons (eOp ixD (eVar 0) (eC (.int 0))) (aCons (eC (.int 0)) (aCons (eOp ixD (eVar 0) (eC (.int 1))) aNil)))) ρ s))) (fun ρ s => tstOf ((eOp neD (eFn 2 sem_common (aCons (eOp ixD (eVar 0) (eC (.int 0))) (aCons (eOp ixD (eVar 0) (eC (.int 1))) aNil))) (eC (.int 1))) ρ s))) (sRaise 1) sNil))
def sem_check_share : List D → Res Unit D := fnSem 0 F_check_share
def F_mean_point : FS Unit := (sSeq (sSet 3 (eTup (aCons (eOp subD (eOp ixD (eVar 2) (eC (.int 1))) (eOp ixD (eVar 2) (eC (.int 0)))) (aCons (eOp ixD (eVar 2) (eC (.int 1))) aNil))))
  (sRet (eCall tupleD (aCons (eNew (lComp (lTup (eTup (aCons (eC (.int 0)) (aCons (eC (.int 1)) aNil)))) [4] (pNm 4) fYes (eFn 2 sem_plus (aCons (eFn 2 sem_product (aCons (eTup (aCons (eOp ixD (eVar 0) (eVar 4)) (aCons (eC (.int 1)) aNil))) (aCons (eVar 2) aNil))) (aCons (eFn 2 sem_product (aCons (eTup (aCons (eOp ixD (eVar 1) (eVar 4)) (aCons (eC (.int 1)) aNil))) (aCons (eVar 3) aNil))) aNil))))) aNil))))
def sem_mean_point : List D → Res Unit D := fnSem 2 F_mean_point
def F_mixed_alarms : FS Unit := (sSeq (sDrop (eFn 1 sem_check_things (aCons (eVar 0) aNil)))
  (sSeq (sIf (fOr (fNot (fun ρ s => tstOf ((eFn 3 sem_is_int (aCons (eVar 1) (aCons (eC (.int 0)) (aCons (eC (.int 100)) aNil)))) ρ s))) (fNot (fun ρ s => tstOf ((eFn 3 sem_is_int (aCons (eVar 2) (aCons (eC (.int 0)) (aCons (eC (.int 100)) aNil)))) ρ s)))) (sRaise 1) sNil)
  (sSeq (sDrop (eFn 1 sem_check_share (aCons (eVar 3) aNil)))
  (sRet (eFn 3 sem_mean_point (aCons (eFn 2 sem_counts (aCons (eVar 0) (aCons (eVar 1) aNil))) (aCons (eFn 2 sem_counts (aCons (eVar 0) (aCons (eVar 2) aNil))) (aCons (eVar 3) aNil))))))))
def sem_mixed_alarms : List D → Res Unit D := fnSem 0 F_mixed_alarms
def F_best_true : FS Unit := (sSeq (sDrop (eFn 1 sem_check_things (aCons (eVar 0) aNil)))
  (sSeq (sDrop (eFn 2 sem_check_mean (aCons (eVar 1) (aCons (eOp ixD (eFn 2 sem_counts (aCons (eVar 0) (aCons (eC (.int 0)) aNil))) (eC (.int 0))) aNil))))
  (sRet (eFn 2 sem_height_of (aCons (eFn 1 sem_corners_of (aCons (eFn 1 sem_points_of (aCons (eVar 0) aNil)) aNil)) (aCons (eVar 1) aNil))))))
def sem_best_true : List D → Res Unit D := fnSem 0 F_best_true
def F_threshold_of : FS Unit := (sSeq (sFor (lList (eOp addD (eLst (aCons (eC (.int 100)) aNil)) (eFn 1 sem_scores_of (aCons (eVar 0) aNil)))) (pNm 2) (sIf (fun ρ s => tstOf ((eOp eqD (eFn 2 sem_counts (aCons (eVar 0) (aCons (eVar 2) aNil))) (eVar 1)) ρ s)) (sRet (eVar 2)) sNil))
  (sRet (eC (.int 100))))
def sem_threshold_of : List D → Res Unit D := fnSem 1 F_threshold_of
def F_best_mixture : FS Unit := (sSeq (sDrop (eFn 1 sem_check_things (aCons (eVar 0) aNil)))
  (sSeq (sDrop (eFn 2 sem_check_mean (aCons (eVar 1) (aCons (eOp ixD (eFn 2 sem_counts (aCons (eVar 0) (aCons (eC (.int 0)) aNil))) (eC (.int 0))) aNil))))
  (sSeq (sSet 2 (eFn 1 sem_corners_of (aCons (eFn 1 sem_points_of (aCons (eVar 0) aNil)) aNil)))
  (sSeq (sSet 3 (eFn 2 sem_height_of (aCons (eVar 2) (aCons (eVar 1) aNil))))
  (sSeq (sFor (lZip (aCons (eVar 2) (aCons (eSl (eVar 2) (oSome (eC (.int 1))) oNone) aNil))) (pTp 2 (psCons (pNm 4) (psCons (pNm 5) psNil))) (sIf (fun ρ s => tstOf ((eChain leD leD (eOp mulD (eOp ixD (eVar 4) (eC (.int 0))) (eOp ixD (eVar 1) (eC (.int 1)))) (eOp ixD (eVar 1) (eC (.int 0))) (eOp mulD (eOp ixD (eVar 5) (eC (.int 0))) (eOp ixD (eVar 1) (eC (.int 1))))) ρ s)) (sSeq (sSet 6 (eOp subD (eOp ixD (eVar 5) (eC (.int 0))) (eOp ixD (eVar 4) (eC (.int 0)))))
  (sSeq (sSet 7 (eIf (fun ρ s => tstOf ((eOp eqD (eVar 6) (eC (.int 0))) ρ s)) (eTup (aCons (eC (.int 0)) (aCons (eC (.int 1)) aNil))) (eFn 2 sem_lowest (aCons (eOp subD (eOp mulD (eOp ixD (eVar 5) (eC (.int 0))) (eOp ixD (eVar 1) (eC (.int 1)))) (eOp ixD (eVar 1) (eC (.int 0)))) (aCons (eOp mulD (eVar 6) (eOp ixD (eVar 1) (eC (.int 1)))) aNil)))))
  (sIf (fun ρ s => tstOf ((eOp eqD (eOp ixD (eFn 3 sem_mean_point (aCons (eVar 4) (aCons (eVar 5) (aCons (eVar 7) aNil)))) (eC (.int 1))) (eVar 3)) ρ s)) (sRet (eTup (aCons (eFn 2 sem_threshold_of (aCons (eVar 0) (aCons (eVar 4) aNil))) (aCons (eFn 2 sem_threshold_of (aCons (eVar 0) (aCons (eVar 5) aNil))) (aCons (eVar 7) aNil))))) sNil))) sNil))
  (sRet (eTup (aCons (eC (.int 100)) (aCons (eC (.int 100)) (aCons (eTup (aCons (eC (.int 1)) (aCons (eC (.int 1)) aNil))) aNil))))))))))
def sem_best_mixture : List D → Res Unit D := fnSem 6 F_best_mixture
def F_gain : FS Unit := (sSeq (sDrop (eFn 1 sem_check_things (aCons (eVar 0) aNil)))
  (sSeq (sDrop (eFn 2 sem_check_mean (aCons (eVar 1) (aCons (eOp ixD (eFn 2 sem_counts (aCons (eVar 0) (aCons (eC (.int 0)) aNil))) (eC (.int 0))) aNil))))
  (sSeq (sSet 2 (eFn 2 sem_height_of (aCons (eFn 1 sem_corners_of (aCons (eFn 1 sem_points_of (aCons (eVar 0) aNil)) aNil)) (aCons (eVar 1) aNil))))
  (sSeq (sSet 3 (eCall maxD (aCons (eNew (lComp (lList (eFn 1 sem_points_of (aCons (eVar 0) aNil))) [4, 5] (pTp 2 (psCons (pNm 4) (psCons (pNm 5) psNil))) (fNot (fun ρ s => tstOf ((eFn 2 sem_less (aCons (eVar 1) (aCons (eTup (aCons (eVar 4) (aCons (eC (.int 1)) aNil))) aNil))) ρ s))) (eVar 5))) aNil)))
  (sRet (eFn 2 sem_plus (aCons (eVar 2) (aCons (eTup (aCons (eNeg (eVar 3)) (aCons (eC (.int 1)) aNil))) aNil))))))))
def sem_gain : List D → Res Unit D := fnSem 4 F_gain
def F_levels : FS Unit := (sSeq (sSetM 1 (lLst aNil))
  (sSeq (sSet 2 (eTup (aCons (eC (.int 0)) (aCons (eC (.int 0)) aNil))))
  (sSeq (sFor (lList (eFn 1 sem_scores_of (aCons (eVar 0) aNil))) (pNm 3) (sSeq (sSet 4 (eFn 2 sem_counts (aCons (eVar 0) (aCons (eVar 3) aNil))))
  (sSeq (sApp 1 (eLst (aCons (eVar 3) (aCons (eVar 3) (aCons (eOp subD (eOp ixD (eVar 4) (eC (.int 0))) (eOp ixD (eVar 2) (eC (.int 0)))) (aCons (eOp subD (eOp ixD (eVar 4) (eC (.int 1))) (eOp ixD (eVar 2) (eC (.int 1)))) aNil))))))
  (sSet 2 (eVar 4)))))
  (fun ρ s => (sRet (eVar 1)) (frzE [1] ρ) s))))
def sem_levels : List D → Res Unit D := fnSem 4 F_levels
def F_falls : FS Unit := (sRet (eOp ltD (eOp mulD (eOp ixD (eVar 1) (eC (.int 3))) (eOp addD (eOp ixD (eVar 0) (eC (.int 2))) (eOp ixD (eVar 0) (eC (.int 3))))) (eOp mulD (eOp ixD (eVar 0) (eC (.int 3))) (eOp addD (eOp ixD (eVar 1) (eC (.int 2))) (eOp ixD (eVar 1) (eC (.int 3)))))))
def sem_falls : List D → Res Unit D := fnSem 0 F_falls
def F_put_together : FS Unit := (sRet (eLst (aCons (eOp ixD (eVar 1) (eC (.int 0))) (aCons (eOp ixD (eVar 0) (eC (.int 1))) (aCons (eOp addD (eOp ixD (eVar 0) (eC (.int 2))) (eOp ixD (eVar 1) (eC (.int 2)))) (aCons (eOp addD (eOp ixD (eVar 0) (eC (.int 3))) (eOp ixD (eVar 1) (eC (.int 3)))) aNil))))))
def sem_put_together : List D → Res Unit D := fnSem 0 F_put_together
def F_pooled : FS Unit := (sSeq (sSetM 1 (lLst aNil))
  (sSeq (sFor (lList (eFn 1 sem_levels (aCons (eVar 0) aNil))) (pNm 2) (sSeq (sApp 1 (eVar 2))
  (sWhile MU_pooled (fAnd (fun ρ s => tstOf ((eOp geD (eCallM lenD 1) (eC (.int 2))) ρ s)) (fNot (fun ρ s => tstOf ((eFn 2 sem_falls (aCons (eIxM 1 (eNeg (eC (.int 2)))) (aCons (eIxM 1 (eNeg (eC (.int 1)))) aNil))) ρ s)))) (sSetM 1 (lAdd (eNew (lSlM 1 oNone (oSome (eNeg (eC (.int 2)))))) (eLst (aCons (eFn 2 sem_put_together (aCons (eIxM 1 (eNeg (eC (.int 2)))) (aCons (eIxM 1 (eNeg (eC (.int 1)))) aNil))) aNil)))))))
  (fun ρ s => (sRet (eVar 1)) (frzE [1] ρ) s)))
def sem_pooled : List D → Res Unit D := fnSem 2 F_pooled
def F_pools : FS Unit := (sSeq (sDrop (eFn 1 sem_check_things (aCons (eVar 0) aNil)))
  (sRet (eNew (lComp (lList (eFn 1 sem_pooled (aCons (eVar 0) aNil))) [1] (pNm 1) fYes (eCall tupleD (aCons (eVar 1) aNil))))))
def sem_pools : List D → Res Unit D := fnSem 1 F_pools
def F_share_of : FS Unit := (sSeq (sDrop (eFn 1 sem_check_things (aCons (eVar 0) aNil)))
  (sSeq (sIf (fOr (fNot (fun ρ s => tstOf ((eFn 3 sem_is_int (aCons (eVar 1) (aCons (eC (.int 0)) (aCons (eC (.int 99)) aNil)))) ρ s))) (fun ρ s => tstOf ((eOp (inD true) (eVar 1) (eFn 1 sem_scores_of (aCons (eVar 0) aNil))) ρ s))) (sRet (eC .none)) sNil)
  (sSeq (sSet 2 (eOp ixD (eNew (lComp (lList (eFn 1 sem_pooled (aCons (eVar 0) aNil))) [3] (pNm 3) (fun ρ s => tstOf ((eChain leD leD (eOp ixD (eVar 3) (eC (.int 0))) (eVar 1) (eOp ixD (eVar 3) (eC (.int 1)))) ρ s)) (eVar 3))) (eC (.int 0))))
  (sRet (eFn 2 sem_lowest (aCons (eOp ixD (eVar 2) (eC (.int 3))) (aCons (eOp addD (eOp ixD (eVar 2) (eC (.int 2))) (eOp ixD (eVar 2) (eC (.int 3)))) aNil)))))))
def sem_share_of : List D → Res Unit D := fnSem 2 F_share_of
def F_shares : FS Unit := (sSeq (sDrop (eFn 1 sem_check_things (aCons (eVar 0) aNil)))
  (sRet (eNew (lComp (lList (eVar 0)) [1, 2] (pTp 2 (psCons (pNm 1) (psCons (pNm 2) psNil))) fYes (eFn 2 sem_share_of (aCons (eVar 0) (aCons (eVar 1) aNil)))))))
def sem_shares : List D → Res Unit D := fnSem 2 F_shares
def F_squared_error : FS Unit := (sSeq (sDrop (eFn 1 sem_check_things (aCons (eVar 0) aNil)))
  (sSeq (sSet 1 (eTup (aCons (eC (.int 0)) (aCons (eC (.int 1)) aNil))))
  (sSeq (sFor (lList (eFn 1 sem_pooled (aCons (eVar 0) aNil))) (pLs 4 (psCons (pNm 2) (psCons (pNm 3) (psCons (pNm 4) (psCons (pNm 5) psNil))))) (sSeq (sSet 6 (eFn 2 sem_lowest (aCons (eOp mulD (eVar 5) (eVar 4)) (aCons (eOp addD (eVar 4) (eVar 5)) aNil))))
  (sSet 1 (eFn 2 sem_lowest (aCons (eOp addD (eOp mulD (eOp ixD (eVar 1) (eC (.int 0))) (eOp ixD (eVar 6) (eC (.int 1)))) (eOp mulD (eOp ixD (eVar 6) (eC (.int 0))) (eOp ixD (eVar 1) (eC (.int 1))))) (aCons (eOp mulD (eOp ixD (eVar 1) (eC (.int 1))) (eOp ixD (eVar 6) (eC (.int 1)))) aNil))))))
  (sRet (eVar 1)))))
def sem_squared_error : List D → Res Unit D := fnSem 6 F_squared_error
def F_is_pooled : FS Unit := (sSeq (sDrop (eFn 1 sem_check_things (aCons (eVar 0) aNil)))
  (sRet (eOp eqD (eCall lenD (aCons (eFn 1 sem_pooled (aCons (eVar 0) aNil)) aNil)) (eCall lenD (aCons (eFn 1 sem_scores_of (aCons (eVar 0) aNil)) aNil)))))
def sem_is_pooled : List D → Res Unit D := fnSem 0 F_is_pooled
def F_joined : FS Unit := (sSeq (sDrop (eFn 1 sem_check_things (aCons (eVar 0) aNil)))
  (sSeq (sDrop (eFn 1 sem_check_things (aCons (eVar 1) aNil)))
  (sSeq (sSet 2 (eOp addD (eVar 0) (eVar 1)))
  (sSeq (sDrop (eFn 1 sem_check_things (aCons (eVar 2) aNil)))
  (sRet (eVar 2))))))
def sem_joined : List D → Res Unit D := fnSem 1 F_joined
def F_turned_over : FS Unit := (sSeq (sDrop (eFn 1 sem_check_things (aCons (eVar 0) aNil)))
  (sRet (eNew (lComp (lList (eVar 0)) [1, 2] (pTp 2 (psCons (pNm 1) (psCons (pNm 2) psNil))) fYes (eTup (aCons (eOp subD (eC (.int 99)) (eVar 1)) (aCons (eVar 2) aNil)))))))
def sem_turned_over : List D → Res Unit D := fnSem 2 F_turned_over
def F_exchanged : FS Unit := (sSeq (sDrop (eFn 1 sem_check_things (aCons (eVar 0) aNil)))
  (sRet (eNew (lComp (lList (eVar 0)) [1, 2] (pTp 2 (psCons (pNm 1) (psCons (pNm 2) psNil))) fYes (eTup (aCons (eVar 1) (aCons (eNot (eVar 2)) aNil)))))))
def sem_exchanged : List D → Res Unit D := fnSem 2 F_exchanged
def F_format_things : FS Unit := (sSeq (sDrop (eFn 1 sem_check_things (aCons (eVar 0) aNil)))
  (sRet (eJoin (eC (.str " ")) (eNew (lComp (lList (eVar 0)) [1, 2] (pTp 2 (psCons (pNm 1) (psCons (pNm 2) psNil))) fYes (eOp addD (eCall strD (aCons (eVar 1) aNil)) (eIf (fun ρ s => tstOf ((eVar 2) ρ s)) (eC (.str "+")) (eC (.str "-")))))))))
def sem_format_things : List D → Res Unit D := fnSem 2 F_format_things
def F_law_error : FS (Addr × Nat) := (sSeq (sSet 1 (eLst (aCons (eIsX 0 (fun c => decide (c = 0))) (aCons (eIsX 0 (fun c => decide (c = 1))) (aCons (eIsX 0 (fun c => decide (c = 2))) aNil)))))
  (sSeq (sSet 1 (eOp addD (eVar 1) (eLst (aCons (eIsX 0 (fun c => decide (c = 3))) (aCons (eIsX 0 (fun c => decide (c = 4))) aNil)))))
  (sSeq (sIf (fOr (fun ρ s => tstOf ((eOp neD (eBmL countD (eVar 1) (eC (.bool true))) (eC (.int 1))) ρ s)) (fOr (fNot (fun ρ s => tstOf ((eIsX 0 (fun _ => true)) ρ s))) (fNot (fun ρ s => tstOf ((eIsX 0 (fun _ => true)) ρ s))))) (sRet (eC (.str "odd"))) sNil)
  (sRet (eOp ixD (eLst (aCons (eC (.str "things")) (aCons (eC (.str "number")) (aCons (eC (.str "points")) (aCons (eC (.str "text")) (aCons (eC (.str "none")) aNil)))))) (eBmL indexD (eVar 1) (eC (.bool true))))))))
def F_law_one : FS Unit := (sSeq (sIf (fun ρ s => tstOf ((eOp eqD (eVar 0) (eC (.int 0))) ρ s)) (sRet (eFn 1 sem_unlike_scores (aCons (eVar 1) aNil))) sNil)
  (sSeq (sIf (fun ρ s => tstOf ((eOp eqD (eVar 0) (eC (.int 1))) ρ s)) (sRet (eFn 1 sem_totals (aCons (eVar 1) aNil))) sNil)
  (sSeq (sIf (fun ρ s => tstOf ((eOp eqD (eVar 0) (eC (.int 2))) ρ s)) (sRet (eFn 1 sem_curve (aCons (eVar 1) aNil))) sNil)
  (sSeq (sIf (fun ρ s => tstOf ((eOp eqD (eVar 0) (eC (.int 3))) ρ s)) (sRet (eFn 1 sem_pair_counts (aCons (eVar 1) aNil))) sNil)
  (sSeq (sIf (fun ρ s => tstOf ((eOp eqD (eVar 0) (eC (.int 4))) ρ s)) (sRet (eFn 1 sem_in_order (aCons (eVar 1) aNil))) sNil)
  (sSeq (sIf (fun ρ s => tstOf ((eOp eqD (eVar 0) (eC (.int 5))) ρ s)) (sRet (eFn 1 sem_wrong_pairs (aCons (eVar 1) aNil))) sNil)
  (sSeq (sIf (fun ρ s => tstOf ((eOp eqD (eVar 0) (eC (.int 6))) ρ s)) (sRet (eFn 1 sem_hull (aCons (eVar 1) aNil))) sNil)
  (sSeq (sIf (fun ρ s => tstOf ((eOp eqD (eVar 0) (eC (.int 7))) ρ s)) (sRet (eFn 1 sem_waste (aCons (eVar 1) aNil))) sNil)
  (sSeq (sIf (fun ρ s => tstOf ((eOp eqD (eVar 0) (eC (.int 8))) ρ s)) (sRet (eFn 1 sem_is_bent (aCons (eVar 1) aNil))) sNil)
  (sSeq (sIf (fun ρ s => tstOf ((eOp eqD (eVar 0) (eC (.int 9))) ρ s)) (sRet (eFn 1 sem_cost_ranges (aCons (eVar 1) aNil))) sNil)
  (sSeq (sIf (fun ρ s => tstOf ((eOp eqD (eVar 0) (eC (.int 10))) ρ s)) (sRet (eFn 1 sem_pools (aCons (eVar 1) aNil))) sNil)
  (sSeq (sIf (fun ρ s => tstOf ((eOp eqD (eVar 0) (eC (.int 11))) ρ s)) (sRet (eFn 1 sem_shares (aCons (eVar 1) aNil))) sNil)
  (sSeq (sIf (fun ρ s => tstOf ((eOp eqD (eVar 0) (eC (.int 12))) ρ s)) (sRet (eFn 1 sem_squared_error (aCons (eVar 1) aNil))) sNil)
  (sSeq (sIf (fun ρ s => tstOf ((eOp eqD (eVar 0) (eC (.int 13))) ρ s)) (sRet (eFn 1 sem_is_pooled (aCons (eVar 1) aNil))) sNil)
  (sSeq (sIf (fun ρ s => tstOf ((eOp eqD (eVar 0) (eC (.int 14))) ρ s)) (sRet (eFn 1 sem_turned_over (aCons (eVar 1) aNil))) sNil)
  (sSeq (sIf (fun ρ s => tstOf ((eOp eqD (eVar 0) (eC (.int 15))) ρ s)) (sRet (eFn 1 sem_exchanged (aCons (eVar 1) aNil))) sNil)
  (sRet (eIf (fun ρ s => tstOf ((eOp eqD (eVar 0) (eC (.int 16))) ρ s)) (eFn 1 sem_format_things (aCons (eVar 1) aNil)) (eFn 1 sem_area (aCons (eVar 1) aNil))))))))))))))))))))
def sem_law_one : List D → Res Unit D := fnSem 0 F_law_one
def F_law_two : FS Unit := (sSeq (sIf (fun ρ s => tstOf ((eOp eqD (eVar 0) (eC (.int 0))) ρ s)) (sRet (eFn 2 sem_alarms_at (aCons (eVar 1) (aCons (eVar 2) aNil)))) sNil)
  (sSeq (sIf (fun ρ s => tstOf ((eOp eqD (eVar 0) (eC (.int 1))) ρ s)) (sRet (eFn 2 sem_most_true (aCons (eVar 1) (aCons (eVar 2) aNil)))) sNil)
  (sSeq (sIf (fun ρ s => tstOf ((eOp eqD (eVar 0) (eC (.int 2))) ρ s)) (sRet (eFn 2 sem_least_false (aCons (eVar 1) (aCons (eVar 2) aNil)))) sNil)
  (sSeq (sIf (fun ρ s => tstOf ((eOp eqD (eVar 0) (eC (.int 3))) ρ s)) (sRet (eFn 3 sem_least_cost (aCons (eVar 1) (aCons (eVar 2) (aCons (eVar 3) aNil))))) sNil)
  (sSeq (sIf (fun ρ s => tstOf ((eOp eqD (eVar 0) (eC (.int 4))) ρ s)) (sRet (eFn 3 sem_best_points (aCons (eVar 1) (aCons (eVar 2) (aCons (eVar 3) aNil))))) sNil)
  (sSeq (sIf (fun ρ s => tstOf ((eOp eqD (eVar 0) (eC (.int 5))) ρ s)) (sRet (eFn 3 sem_best_thresholds (aCons (eVar 1) (aCons (eVar 2) (aCons (eVar 3) aNil))))) sNil)
  (sSeq (sIf (fun ρ s => tstOf ((eOp eqD (eVar 0) (eC (.int 6))) ρ s)) (sRet (eFn 3 sem_miss_cost_for (aCons (eVar 1) (aCons (eVar 2) (aCons (eVar 3) aNil))))) sNil)
  (sSeq (sIf (fun ρ s => tstOf ((eOp eqD (eVar 0) (eC (.int 7))) ρ s)) (sRet (eFn 4 sem_cost_at (aCons (eVar 1) (aCons (eVar 2) (aCons (eVar 3) (aCons (eC (.int 1)) aNil)))))) sNil)
  (sSeq (sIf (fun ρ s => tstOf ((eOp eqD (eVar 0) (eC (.int 8))) ρ s)) (sRet (eFn 4 sem_mixed_alarms (aCons (eVar 1) (aCons (eVar 2) (aCons (eVar 3) (aCons (eTup (aCons (eC (.int 1)) (aCons (eC (.int 2)) aNil))) aNil)))))) sNil)
  (sSeq (sIf (fun ρ s => tstOf ((eOp eqD (eVar 0) (eC (.int 9))) ρ s)) (sRet (eFn 2 sem_best_true (aCons (eVar 1) (aCons (eVar 2) aNil)))) sNil)
  (sSeq (sIf (fun ρ s => tstOf ((eOp eqD (eVar 0) (eC (.int 10))) ρ s)) (sRet (eFn 2 sem_best_mixture (aCons (eVar 1) (aCons (eVar 2) aNil)))) sNil)
  (sSeq (sIf (fun ρ s => tstOf ((eOp eqD (eVar 0) (eC (.int 11))) ρ s)) (sRet (eFn 2 sem_gain (aCons (eVar 1) (aCons (eVar 2) aNil)))) sNil)
  (sSeq (sIf (fun ρ s => tstOf ((eOp eqD (eVar 0) (eC (.int 12))) ρ s)) (sRet (eFn 2 sem_joined (aCons (eVar 1) (aCons (eLst (aCons (eTup (aCons (eC (.int 1)) (aCons (eC (.bool true)) aNil))) aNil)) aNil)))) sNil)
  (sRet (eIf (fun ρ s => tstOf ((eOp eqD (eVar 0) (eC (.int 13))) ρ s)) (eFn 2 sem_share_of (aCons (eVar 1) (aCons (eVar 2) aNil))) (eFn 2 sem_is_ever_best (aCons (eVar 1) (aCons (eVar 2) aNil))))))))))))))))))
def sem_law_two : List D → Res Unit D := fnSem 0 F_law_two
def F_law_asked : FS Unit := (sSeq (sSet 5 (eC .none))
  (sTry (sIf (fun ρ s => tstOf ((eOp eqD (eVar 0) (eC (.int 1))) ρ s)) (sDrop (eFn 2 sem_law_one (aCons (eVar 1) (aCons (eVar 2) aNil)))) (sDrop (eFn 4 sem_law_two (aCons (eVar 1) (aCons (eVar 2) (aCons (eVar 3) (aCons (eVar 4) aNil))))))) (sRet (eIf (fun ρ s => tstOf (eOp isND (eVar 5) (eC .none) ρ s)) (eC (.str "done")) fun _ _ => .bad))))
def sem_law_asked : List D → Res Unit D := fnSem 2 F_law_asked
def F_law_limits : FS Unit := (sSeq (sSet 1 (eLst (aCons (eTup (aCons (eC (.int 0)) (aCons (eC (.int 0)) (aCons (eC (.int 100)) aNil)))) (aCons (eTup (aCons (eC (.int 1)) (aCons (eC (.int 0)) (aCons (eC (.int 12)) aNil)))) (aCons (eTup (aCons (eC (.int 2)) (aCons (eC (.int 0)) (aCons (eC (.int 12)) aNil)))) (aCons (eTup (aCons (eC (.int 3)) (aCons (eC (.int 0)) (aCons (eC (.int 1000)) aNil)))) (aCons (eTup (aCons (eC (.int 4)) (aCons (eC (.int 0)) (aCons (eC (.int 1000)) aNil)))) (aCons (eTup (aCons (eC (.int 5)) (aCons (eC (.int 0)) (aCons (eC (.int 1000)) aNil)))) (aCons (eTup (aCons (eC (.int 6)) (aCons (eC (.int 0)) (aCons (eC (.int 1000)) aNil)))) (aCons (eTup (aCons (eC (.int 7)) (aCons (eC (.int 0)) (aCons (eC (.int 100)) aNil)))) (aCons (eTup (aCons (eC (.int 8)) (aCons (eC (.int 0)) (aCons (eC (.int 100)) aNil)))) aNil)))))))))))
  (sSeq (sFor (lList (eVar 1)) (pTp 3 (psCons (pNm 2) (psCons (pNm 3) (psCons (pNm 4) psNil)))) (sSeq (sIf (fun ρ s => tstOf ((eOp neD (eNew (lComp (lTup (eTup (aCons (eC .none) (aCons (eOp subD (eVar 3) (eC (.int 1))) (aCons (eOp addD (eVar 4) (eC (.int 1))) (aCons (eC (.bool true)) (aCons (eCall strD (aCons (eVar 3) aNil)) aNil))))))) [5] (pNm 5) fYes (eFn 5 sem_law_asked (aCons (eC (.int 2)) (aCons (eVar 2) (aCons (eVar 0) (aCons (eVar 5) (aCons (eC (.int 1)) aNil)))))))) (eOp mulD (eLst (aCons (eC (.str "number")) aNil)) (eC (.int 5)))) ρ s)) (sRet (eC (.bool false))) sNil)
  (sIf (fun ρ s => tstOf ((eOp neD (eNew (lComp (lTup (eTup (aCons (eVar 3) (aCons (eVar 4) aNil)))) [7] (pNm 7) fYes (eFn 5 sem_law_asked (aCons (eC (.int 2)) (aCons (eVar 2) (aCons (eVar 0) (aCons (eVar 7) (aCons (eC (.int 1)) aNil)))))))) (eOp mulD (eLst (aCons (eC (.str "done")) aNil)) (eC (.int 2)))) ρ s)) (sRet (eC (.bool false))) sNil)))
  (sSeq (sFor (lList (eLst (aCons (eTup (aCons (eC (.int 3)) (aCons (eC (.int 0)) (aCons (eC (.int 1000)) aNil)))) (aCons (eTup (aCons (eC (.int 4)) (aCons (eC (.int 0)) (aCons (eC (.int 1000)) aNil)))) (aCons (eTup (aCons (eC (.int 5)) (aCons (eC (.int 0)) (aCons (eC (.int 1000)) aNil)))) (aCons (eTup (aCons (eC (.int 6)) (aCons (eC (.int 0)) (aCons (eC (.int 1000)) aNil)))) (aCons (eTup (aCons (eC (.int 7)) (aCons (eC (.int 0)) (aCons (eC (.int 1000)) aNil)))) (aCons (eTup (aCons (eC (.int 8)) (aCons (eC (.int 0)) (aCons (eC (.int 100)) aNil)))) aNil)))))))) (pTp 3 (psCons (pNm 2) (psCons (pNm 3) (psCons (pNm 4) psNil)))) (sSeq (sIf (fun ρ s => tstOf ((eOp neD (eNew (lComp (lTup (eTup (aCons (eC .none) (aCons (eOp subD (eVar 3) (eC (.int 1))) (aCons (eOp addD (eVar 4) (eC (.int 1))) (aCons (eC (.bool true)) (aCons (eCall strD (aCons (eVar 3) aNil)) aNil))))))) [5] (pNm 5) fYes (eFn 5 sem_law_asked (aCons (eC (.int 2)) (aCons (eVar 2) (aCons (eVar 0) (aCons (eC (.int 1)) (aCons (eVar 5) aNil)))))))) (eOp mulD (eLst (aCons (eC (.str "number")) aNil)) (eC (.int 5)))) ρ s)) (sRet (eC (.bool false))) sNil)
  (sIf (fun ρ s => tstOf ((eOp neD (eNew (lComp (lTup (eTup (aCons (eVar 3) (aCons (eVar 4) aNil)))) [7] (pNm 7) fYes (eFn 5 sem_law_asked (aCons (eC (.int 2)) (aCons (eVar 2) (aCons (eVar 0) (aCons (eC (.int 1)) (aCons (eVar 7) aNil)))))))) (eOp mulD (eLst (aCons (eC (.str "done")) aNil)) (eC (.int 2)))) ρ s)) (sRet (eC (.bool false))) sNil)))
  (sSeq (sFor (lList (eLst (aCons (eC .none) (aCons (eC (.int 5)) (aCons (eTup (aCons (eC (.int 1)) aNil)) (aCons (eLst (aCons (eC (.int 1)) (aCons (eC (.int 2)) aNil))) (aCons (eTup (aCons (eC (.int 1)) (aCons (eC (.int 0)) aNil))) (aCons (eTup (aCons (eC (.int 2)) (aCons (eC (.int 4)) aNil))) (aCons (eTup (aCons (eOp subD (eC (.int 0)) (eC (.int 1))) (aCons (eC (.int 2)) aNil))) (aCons (eTup (aCons (eC (.bool true)) (aCons (eC (.int 1)) aNil))) (aCons (eTup (aCons (eC (.int 5)) (aCons (eC (.int 2)) aNil))) (aCons (eTup (aCons (eC (.int 1)) (aCons (eC (.int 1001)) aNil))) (aCons (eTup (aCons (eC (.int 0)) (aCons (eC (.int 2)) aNil))) aNil))))))))))))) (pNm 5) (sIf (fun ρ s => tstOf ((eOp neD (eNew (lComp (lTup (eTup (aCons (eC (.int 9)) (aCons (eC (.int 10)) (aCons (eC (.int 11)) aNil))))) [6] (pNm 6) fYes (eFn 5 sem_law_asked (aCons (eC (.int 2)) (aCons (eVar 6) (aCons (eVar 0) (aCons (eVar 5) (aCons (eC (.int 0)) aNil)))))))) (eOp mulD (eLst (aCons (eC (.str "number")) aNil)) (eC (.int 3)))) ρ s)) (sRet (eC (.bool false))) sNil))
  (sRet (eOp eqD (eNew (lComp (lTup (eTup (aCons (eC (.int 9)) (aCons (eC (.int 10)) (aCons (eC (.int 11)) aNil))))) [6] (pNm 6) fYes (eFn 5 sem_law_asked (aCons (eC (.int 2)) (aCons (eVar 6) (aCons (eVar 0) (aCons (eTup (aCons (eC (.int 2)) (aCons (eC (.int 1)) aNil))) (aCons (eC (.int 0)) aNil)))))))) (eOp mulD (eLst (aCons (eC (.str "done")) aNil)) (eC (.int 3)))))))))
def sem_law_limits : List D → Res Unit D := fnSem 7 F_law_limits
def F_law : FS DSt := (sSeq (sFor (lList (eLst (aCons (eC .none) (aCons (eC (.int 5)) (aCons (eTup aNil) (aCons (eLst aNil) (aCons (eTup (aCons (eTup (aCons (eC (.int 1)) (aCons (eC (.bool true)) aNil))) aNil)) (aCons (eLst (aCons (eTup (aCons (eC (.int 100)) (aCons (eC (.bool true)) aNil))) aNil)) (aCons (eLst (aCons (eTup (aCons (eOp subD (eC (.int 0)) (eC (.int 1))) (aCons (eC (.bool true)) aNil))) aNil)) (aCons (eLst (aCons (eTup (aCons (eC (.bool true)) (aCons (eC (.bool true)) aNil))) aNil)) (aCons (eLst (aCons (eTup (aCons (eC (.int 1)) (aCons (eC (.int 1)) aNil))) aNil)) (aCons (eLst (aCons (eTup (aCons (eC (.int 1)) (aCons (eC .none) aNil))) aNil)) (aCons (eLst (aCons (eTup (aCons (eC (.int 1)) aNil)) aNil)) (aCons (eLst (aCons (eLst (aCons (eC (.int 1)) (aCons (eC (.bool true)) aNil))) aNil)) (aCons (eOp mulD (eLst (aCons (eTup (aCons (eC (.int 0)) (aCons (eC (.bool true)) aNil))) aNil)) (eC (.int 13))) (aCons (eLst (aCons (eC .none) aNil)) aNil)))))))))))))))) (pNm 2) (sSeq (sIf (fOr (fun ρ s => tstOf ((eOp notBD (eFn 1 sem_is_things (aCons (eVar 2) aNil)) (eC (.bool false))) ρ s)) (fun ρ s => tstOf ((eOp neD (eNew (lComp (lRng1 (aCons (eC (.int 18)) aNil)) [4] (pNm 4) fYes (eFn 5 sem_law_asked (aCons (eC (.int 1)) (aCons (eVar 4) (aCons (eVar 2) (aCons (eC (.int 0)) (aCons (eC (.int 0)) aNil)))))))) (eOp mulD (eLst (aCons (eC (.str "things")) aNil)) (eC (.int 18)))) ρ s))) (sRet (eC (.bool false))) sNil)
  (sIf (fun ρ s => tstOf ((eOp neD (eNew (lComp (lRng1 (aCons (eC (.int 15)) aNil)) [4] (pNm 4) fYes (eFn 5 sem_law_asked (aCons (eC (.int 2)) (aCons (eVar 4) (aCons (eVar 2) (aCons (eC .none) (aCons (eC .none) aNil)))))))) (eOp mulD (eLst (aCons (eC (.str "things")) aNil)) (eC (.int 15)))) ρ s)) (sRet (eC (.bool false))) sNil)))
  (sSeq (sSet 3 (eLst (aCons (eTup (aCons (eC (.int 9)) (aCons (eC (.bool true)) aNil))) (aCons (eTup (aCons (eC (.int 7)) (aCons (eC (.bool false)) aNil))) (aCons (eTup (aCons (eFnS 2 drawSem (aCons (eVar 1) (aCons (eC (.int 99)) aNil))) (aCons (eC (.bool true)) aNil))) (aCons (eTup (aCons (eC (.int 5)) (aCons (eC (.bool false)) aNil))) aNil))))))
  (sSeq (sIf (fOr (fun ρ s => tstOf ((eOp neD (eNew (lComp (lRng1 (aCons (eC (.int 18)) aNil)) [4] (pNm 4) fYes (eFn 5 sem_law_asked (aCons (eC (.int 1)) (aCons (eVar 4) (aCons (eVar 3) (aCons (eC (.int 0)) (aCons (eC (.int 0)) aNil)))))))) (eOp mulD (eLst (aCons (eC (.str "done")) aNil)) (eC (.int 18)))) ρ s)) (fun ρ s => tstOf ((eOp neD (eFn 5 sem_law_asked (aCons (eC (.int 2)) (aCons (eC (.int 12)) (aCons (eOp mulD (eLst (aCons (eTup (aCons (eC (.int 0)) (aCons (eC (.bool true)) aNil))) aNil)) (eC (.int 12))) (aCons (eC (.int 0)) (aCons (eC (.int 0)) aNil)))))) (eC (.str "things"))) ρ s))) (sRet (eC (.bool false))) sNil)
  (sSeq (sIf (fOr (fun ρ s => tstOf ((eOp neD (eNew (lComp (lTup (eTup (aCons (eC (.bool true)) (aCons (eC (.bool false)) aNil)))) [5] (pNm 5) fYes (eFn 5 sem_law_asked (aCons (eC (.int 1)) (aCons (eC (.int 17)) (aCons (eOp mulD (eLst (aCons (eTup (aCons (eC (.int 1)) (aCons (eVar 5) aNil))) aNil)) (eC (.int 3))) (aCons (eC (.int 0)) (aCons (eC (.int 0)) aNil)))))))) (eOp mulD (eLst (aCons (eC (.str "none")) aNil)) (eC (.int 2)))) ρ s)) (fun ρ s => tstOf ((eOp notBD (eFn 1 sem_is_things (aCons (eOp mulD (eLst (aCons (eTup (aCons (eC (.int 99)) (aCons (eC (.bool false)) aNil))) aNil)) (eC (.int 12))) aNil)) (eC (.bool true))) ρ s))) (sRet (eC (.bool false))) sNil)
  (sSeq (sIf (fun ρ s => tstOf ((eOp neD (eNew (lComp (lTup (eTup (aCons (eC .none) (aCons (eTup (aCons (eC (.int 9)) (aCons (eC (.int 9)) aNil))) (aCons (eLst (aCons (eC (.int 0)) (aCons (eC (.int 0)) aNil))) (aCons (eC (.str "x")) aNil)))))) [2] (pNm 2) fYes (eFn 5 sem_law_asked (aCons (eC (.int 2)) (aCons (eC (.int 14)) (aCons (eVar 3) (aCons (eVar 2) (aCons (eC (.int 0)) aNil)))))))) (eOp mulD (eLst (aCons (eC (.str "none")) aNil)) (eC (.int 4)))) ρ s)) (sRet (eC (.bool false))) sNil)
  (sRet (eFn 1 sem_law_limits (aCons (eVar 3) aNil))))))))
section
variable {P : Program} {w : World} {K : PySem.W.Frag} {mg : Str → Option Value} {base : Heap}
theorem sc_is_int : FnScope N_is_int ["value", "low", "high"] (defScope s_is_int) := ⟨rfl, rfl, rfl, by decide +kernel, rfl, by decide +kernel, by decide +kernel⟩
theorem ok_is_int (T : Txt K mg) : FnOk P w K mg base (L2.CX P w) 1 T.f_is_int T.fd_is_int ["value", "low", "high"] (spD T.cl 3 sem_is_int) := by
  refine fn_pure (cl := T.cl) (k := 0) (m := 0) T.F_is_int sc_is_int rfl fun cdv A outer s H E hr => ?_
  have sc := sc_is_int
  have hu : _ + 65 < cLine := hu65 hr
  have tk := takesE (cl := T.cl) (takes_of (X := cxOf (L2.CX P w) P w K mg base N_is_int "is_int" (defScope s_is_int) T.f_is_int cdv A outer s H E) rfl rfl rfl rfl)
  have po := passes_of (X := cxOf (L2.CX P w) P w K mg base N_is_int "is_int" (defScope s_is_int) T.f_is_int cdv A outer s H E) rfl
  exact ⟨_, (dss_one (ds_ret (dx_and (dx_isi isi_int T.n_isinstance T.n_int (dx_var 0 (pv 0))) (dx_and (dx_not (dx_isi isi_bool T.n_isinstance T.n_bool (dx_var 0 (pv 0)))) (dx_one (dx_chain cm_le cm_le (dx_var 1 (pv 1)) (dx_var 0 (pv 0)) (dx_var 2 (pv 2))))))))⟩
theorem sc_is_thing : FnScope N_is_thing ["value"] (defScope s_is_thing) := ⟨rfl, rfl, rfl, by decide +kernel, rfl, by decide +kernel, by decide +kernel⟩
theorem ok_is_thing (T : Txt K mg) : FnOk P w K mg base (L2.CX P w) 2 T.f_is_thing T.fd_is_thing ["value"] (spD T.cl 1 sem_is_thing) := by
  refine fn_pure (cl := T.cl) (k := 1) (m := 0) T.F_is_thing sc_is_thing rfl fun cdv A outer s H E hr => ?_
  have sc := sc_is_thing
  have hu : _ + 65 < cLine := hu65 hr
  have tk := takesE (cl := T.cl) (takes_of (X := cxOf (L2.CX P w) P w K mg base N_is_thing "is_thing" (defScope s_is_thing) T.f_is_thing cdv A outer s H E) rfl rfl rfl rfl)
  have po := passes_of (X := cxOf (L2.CX P w) P w K mg base N_is_thing "is_thing" (defScope s_is_thing) T.f_is_thing cdv A outer s H E) rfl
  exact ⟨_, (dss_cons (ds_if (DXW.t (dxw_or (dxt_not (dxt_val (dx_isi isi_tuple T.n_isinstance T.n_tuple (dx_var 0 (pv 0))))) (dxw_or1 (dxt_cmp (cm_ne (Nat.lt_of_succ_lt hu)) (dx_callB cr_len sa_len rfl T.n_len PySem.boot_len (dxa_cons (dx_var 0 (pv 0)) dxa_nil)) dx_int)))) (dss_one (ds_ret dx_bl)) dss_nil)
  (dss_one (ds_ret (dx_and (dx_fn (ok_is_int T) (hr.mono (by decide)) T.m_is_int T.F_is_int.kp T.b_is_int tk (dxa_cons (dx_ix (dx_var 0 (pv 0)) dx_int) (dxa_cons dx_int (dxa_cons (dx_globI T.c_MOST_SCORE) dxa_nil)))) (dx_one (dx_isi isi_bool T.n_isinstance T.n_bool (dx_ix (dx_var 0 (pv 0)) dx_int)))))))⟩
theorem sc_is_things : FnScope N_is_things ["value"] (defScope s_is_things) := ⟨rfl, rfl, rfl, by decide +kernel, rfl, by decide +kernel, by decide +kernel⟩
theorem ok_is_things (T : Txt K mg) : FnOk P w K mg base (L2.CX P w) 3 T.f_is_things T.fd_is_things ["value"] (spD T.cl 1 sem_is_things) := by
  refine fn_pure (cl := T.cl) (k := 2) (m := 1) T.F_is_things sc_is_things rfl fun cdv A outer s H E hr => ?_
  have sc := sc_is_things
  have hu : _ + 65 < cLine := hu65 hr
  have tk := takesE (cl := T.cl) (takes_of (X := cxOf (L2.CX P w) P w K mg base N_is_things "is_things" (defScope s_is_things) T.f_is_things cdv A outer s H E) rfl rfl rfl rfl)
  have po := passes_of (X := cxOf (L2.CX P w) P w K mg base N_is_things "is_things" (defScope s_is_things) T.f_is_things cdv A outer s H E) rfl
  exact ⟨_, (dss_cons (ds_if (DXW.t (dxw_or (dxt_not (dxt_val (dx_isi isi_list T.n_isinstance T.n_list (dx_var 0 (pv 0))))) (dxw_or1 (dxt_not (dxt_chain cm_le cm_le dx_int (dx_callB cr_len sa_len rfl T.n_len PySem.boot_len (dxa_cons (dx_var 0 (pv 0)) dxa_nil)) (dx_globI T.c_MOST_THINGS)))))) (dss_one (ds_ret dx_bl)) dss_nil)
  (dss_one (ds_ret (dx_callB (cr_all rfl) sa_all rfl T.n_all (by decide +kernel) (dxa_cons (dx_new (dxf_lc0 (own := [("thing", 1)]) rfl sc.nd (di_list (dx_var 0 (pv 0))) (blkOk_by (N := N_is_things) (sc := defScope s_is_things) (by decide +kernel)) (fun _ _ _ _ _ => (dg_name 1 sc.nd)) (fun _ _ _ _ _ => (dx_fn (ok_is_thing T) (hr.mono (by decide)) T.m_is_thing T.F_is_thing.kp T.b_is_thing takesN (dxa_cons (dx_var 1 (pv 1)) dxa_nil))))) dxa_nil)))))⟩
theorem sc_check_things : FnScope N_check_things ["value"] (defScope s_check_things) := ⟨rfl, rfl, rfl, by decide +kernel, rfl, by decide +kernel, by decide +kernel⟩
theorem ok_check_things (T : Txt K mg) : FnOk P w K mg base (L2.CX P w) 4 T.f_check_things T.fd_check_things ["value"] (spD T.cl 1 sem_check_things) := by
  refine fn_pure (cl := T.cl) (k := 3) (m := 0) T.F_check_things sc_check_things rfl fun cdv A outer s H E hr => ?_
  have sc := sc_check_things
  have hu : _ + 65 < cLine := hu65 hr
  have tk := takesE (cl := T.cl) (takes_of (X := cxOf (L2.CX P w) P w K mg base N_check_things "check_things" (defScope s_check_things) T.f_check_things cdv A outer s H E) rfl rfl rfl rfl)
  have po := passes_of (X := cxOf (L2.CX P w) P w K mg base N_check_things "check_things" (defScope s_check_things) T.f_check_things cdv A outer s H E) rfl
  exact ⟨_, (dss_one (ds_if (dxt_not (dxt_val (dx_fn (ok_is_things T) (hr.mono (by decide)) T.m_is_things T.F_is_things.kp T.b_is_things tk (dxa_cons (dx_var 0 (pv 0)) dxa_nil)))) (dss_one (ds_raise 0 rfl tk PySem.F.excBase_ValueError T.x_BadThings T.g_BadThings T.k_BadThings (raises_own T.e_BadThings T.t_BadThings))) dss_nil))⟩
theorem sc_check_threshold : FnScope N_check_threshold ["value"] (defScope s_check_threshold) := ⟨rfl, rfl, rfl, by decide +kernel, rfl, by decide +kernel, by decide +kernel⟩
theorem ok_check_threshold (T : Txt K mg) : FnOk P w K mg base (L2.CX P w) 2 T.f_check_threshold T.fd_check_threshold ["value"] (spD T.cl 1 sem_check_threshold) := by
  refine fn_pure (cl := T.cl) (k := 1) (m := 0) T.F_check_threshold sc_check_threshold rfl fun cdv A outer s H E hr => ?_
  have sc := sc_check_threshold
  have hu : _ + 65 < cLine := hu65 hr
  have tk := takesE (cl := T.cl) (takes_of (X := cxOf (L2.CX P w) P w K mg base N_check_threshold "check_threshold" (defScope s_check_threshold) T.f_check_threshold cdv A outer s H E) rfl rfl rfl rfl)
  have po := passes_of (X := cxOf (L2.CX P w) P w K mg base N_check_threshold "check_threshold" (defScope s_check_threshold) T.f_check_threshold cdv A outer s H E) rfl
  exact ⟨_, (dss_one (ds_if (dxt_not (dxt_val (dx_fn (ok_is_int T) (hr.mono (by decide)) T.m_is_int T.F_is_int.kp T.b_is_int tk (dxa_cons (dx_var 0 (pv 0)) (dxa_cons dx_int (dxa_cons (dx_add (dx_globI T.c_MOST_SCORE) dx_int) dxa_nil)))))) (dss_one (ds_raise 1 rfl tk PySem.F.excBase_ValueError T.x_BadNumber T.g_BadNumber T.k_BadNumber (raises_own T.e_BadNumber T.t_BadNumber))) dss_nil))⟩
theorem sc_check_cost : FnScope N_check_cost ["value"] (defScope s_check_cost) := ⟨rfl, rfl, rfl, by decide +kernel, rfl, by decide +kernel, by decide +kernel⟩
theorem ok_check_cost (T : Txt K mg) : FnOk P w K mg base (L2.CX P w) 2 T.f_check_cost T.fd_check_cost ["value"] (spD T.cl 1 sem_check_cost) := by
  refine fn_pure (cl := T.cl) (k := 1) (m := 0) T.F_check_cost sc_check_cost rfl fun cdv A outer s H E hr => ?_
  have sc := sc_check_cost
  have hu : _ + 65 < cLine := hu65 hr
  have tk := takesE (cl := T.cl) (takes_of (X := cxOf (L2.CX P w) P w K mg base N_check_cost "check_cost" (defScope s_check_cost) T.f_check_cost cdv A outer s H E) rfl rfl rfl rfl)
  have po := passes_of (X := cxOf (L2.CX P w) P w K mg base N_check_cost "check_cost" (defScope s_check_cost) T.f_check_cost cdv A outer s H E) rfl
  exact ⟨_, (dss_one (ds_if (dxt_not (dxt_val (dx_fn (ok_is_int T) (hr.mono (by decide)) T.m_is_int T.F_is_int.kp T.b_is_int tk (dxa_cons (dx_var 0 (pv 0)) (dxa_cons dx_int (dxa_cons dx_int dxa_nil)))))) (dss_one (ds_raise 1 rfl tk PySem.F.excBase_ValueError T.x_BadNumber T.g_BadNumber T.k_BadNumber (raises_own T.e_BadNumber T.t_BadNumber))) dss_nil))⟩
theorem sc_counts : FnScope N_counts ["things", "threshold"] (defScope s_counts) := ⟨rfl, rfl, rfl, by decide +kernel, rfl, by decide +kernel, by decide +kernel⟩
theorem ok_counts (T : Txt K mg) : FnOk P w K mg base (L2.CX P w) 1 T.f_counts T.fd_counts ["things", "threshold"] (spD T.cl 2 sem_counts) := by
  refine fn_pure (cl := T.cl) (k := 0) (m := 3) T.F_counts sc_counts rfl fun cdv A outer s H E hr => ?_
  have sc := sc_counts
  have hu : _ + 65 < cLine := hu65 hr
  have tk := takesE (cl := T.cl) (takes_of (X := cxOf (L2.CX P w) P w K mg base N_counts "counts" (defScope s_counts) T.f_counts cdv A outer s H E) rfl rfl rfl rfl)
  have po := passes_of (X := cxOf (L2.CX P w) P w K mg base N_counts "counts" (defScope s_counts) T.f_counts cdv A outer s H E) rfl
  exact ⟨_, (dss_cons (ds_set 2 sc.nd (dx_callB cr_len sa_len rfl T.n_len PySem.boot_len (dxa_cons (dx_new (dxf_lc1 (own := [("score", 3), ("faulty", 4)]) rfl sc.nd (di_list (dx_var 0 (pv 0))) (blkOk_by (N := N_counts) (sc := defScope s_counts) (by decide +kernel)) (fun _ _ _ _ _ => (dg_tup rfl (dgs_cons (dg_name 3 sc.nd) (dgs_cons (dg_name 4 sc.nd) dgs_nil)))) (fun _ _ _ _ _ => (DXW.t (dxw_and (dxt_cmp cm_ge (dx_var 3 (pv 3)) (dx_var 1 (pv 1))) (dxw_and1 (dxt_not (dxt_val (dx_var 4 (pv 4)))))))) (fun _ _ _ _ _ => dx_int))) dxa_nil)))
  (dss_one (ds_ret (dx_tup (dxa_cons (dx_var 2 (pv 2)) (dxa_cons (dx_callB cr_len sa_len rfl T.n_len PySem.boot_len (dxa_cons (dx_new (dxf_lc1 (own := [("score", 3), ("faulty", 4)]) rfl sc.nd (di_list (dx_var 0 (pv 0))) (blkOk_by (N := N_counts) (sc := defScope s_counts) (by decide +kernel)) (fun _ _ _ _ _ => (dg_tup rfl (dgs_cons (dg_name 3 sc.nd) (dgs_cons (dg_name 4 sc.nd) dgs_nil)))) (fun _ _ _ _ _ => (DXW.t (dxw_and (dxt_cmp cm_ge (dx_var 3 (pv 3)) (dx_var 1 (pv 1))) (dxw_and1 (dxt_val (dx_var 4 (pv 4))))))) (fun _ _ _ _ _ => dx_int))) dxa_nil)) dxa_nil))))))⟩
theorem sc_alarms_at : FnScope N_alarms_at ["things", "threshold"] (defScope s_alarms_at) := ⟨rfl, rfl, rfl, by decide +kernel, rfl, by decide +kernel, by decide +kernel⟩
theorem ok_alarms_at (T : Txt K mg) : FnOk P w K mg base (L2.CX P w) 5 T.f_alarms_at T.fd_alarms_at ["things", "threshold"] (spD T.cl 2 sem_alarms_at) := by
  refine fn_pure (cl := T.cl) (k := 4) (m := 0) T.F_alarms_at sc_alarms_at rfl fun cdv A outer s H E hr => ?_
  have sc := sc_alarms_at
  have hu : _ + 65 < cLine := hu65 hr
  have tk := takesE (cl := T.cl) (takes_of (X := cxOf (L2.CX P w) P w K mg base N_alarms_at "alarms_at" (defScope s_alarms_at) T.f_alarms_at cdv A outer s H E) rfl rfl rfl rfl)
  have po := passes_of (X := cxOf (L2.CX P w) P w K mg base N_alarms_at "alarms_at" (defScope s_alarms_at) T.f_alarms_at cdv A outer s H E) rfl
  exact ⟨_, (dss_cons (ds_expr (dx_fn (ok_check_things T) (hr.mono (by decide)) T.m_check_things T.F_check_things.kp T.b_check_things tk (dxa_cons (dx_var 0 (pv 0)) dxa_nil)))
  (dss_cons (ds_expr (dx_fn (ok_check_threshold T) (hr.mono (by decide)) T.m_check_threshold T.F_check_threshold.kp T.b_check_threshold tk (dxa_cons (dx_var 1 (pv 1)) dxa_nil)))
  (dss_one (ds_ret (dx_fn (ok_counts T) (hr.mono (by decide)) T.m_counts T.F_counts.kp T.b_counts tk (dxa_cons (dx_var 0 (pv 0)) (dxa_cons (dx_var 1 (pv 1)) dxa_nil)))))))⟩
theorem sc_scores_of : FnScope N_scores_of ["things"] (defScope s_scores_of) := ⟨rfl, rfl, rfl, by decide +kernel, rfl, by decide +kernel, by decide +kernel⟩
theorem ok_scores_of (T : Txt K mg) : FnOk P w K mg base (L2.CX P w) 1 T.f_scores_of T.fd_scores_of ["things"] (spD T.cl 1 sem_scores_of) := by
  refine fn_pure (cl := T.cl) (k := 0) (m := 2) T.F_scores_of sc_scores_of rfl fun cdv A outer s H E hr => ?_
  have sc := sc_scores_of
  have hu : _ + 65 < cLine := hu65 hr
  have tk := takesE (cl := T.cl) (takes_of (X := cxOf (L2.CX P w) P w K mg base N_scores_of "scores_of" (defScope s_scores_of) T.f_scores_of cdv A outer s H E) rfl rfl rfl rfl)
  have po := passes_of (X := cxOf (L2.CX P w) P w K mg base N_scores_of "scores_of" (defScope s_scores_of) T.f_scores_of cdv A outer s H E) rfl
  exact ⟨_, (dss_one (ds_ret (dx_rev (dx_sortSet rfl T.n_sorted T.n_set (dxa_cons (dx_new (dxf_lc0 (own := [("score", 1), ("faulty", 2)]) rfl sc.nd (di_list (dx_var 0 (pv 0))) (blkOk_by (N := N_scores_of) (sc := defScope s_scores_of) (by decide +kernel)) (fun _ _ _ _ _ => (dg_tup rfl (dgs_cons (dg_name 1 sc.nd) (dgs_cons (dg_name 2 sc.nd) dgs_nil)))) (fun _ _ _ _ _ => (dx_var 1 (pv 1))))) dxa_nil)))))⟩
theorem sc_unlike_scores : FnScope N_unlike_scores ["things"] (defScope s_unlike_scores) := ⟨rfl, rfl, rfl, by decide +kernel, rfl, by decide +kernel, by decide +kernel⟩
theorem ok_unlike_scores (T : Txt K mg) : FnOk P w K mg base (L2.CX P w) 5 T.f_unlike_scores T.fd_unlike_scores ["things"] (spD T.cl 1 sem_unlike_scores) := by
  refine fn_pure (cl := T.cl) (k := 4) (m := 0) T.F_unlike_scores sc_unlike_scores rfl fun cdv A outer s H E hr => ?_
  have sc := sc_unlike_scores
  have hu : _ + 65 < cLine := hu65 hr
  have tk := takesE (cl := T.cl) (takes_of (X := cxOf (L2.CX P w) P w K mg base N_unlike_scores "unlike_scores" (defScope s_unlike_scores) T.f_unlike_scores cdv A outer s H E) rfl rfl rfl rfl)
  have po := passes_of (X := cxOf (L2.CX P w) P w K mg base N_unlike_scores "unlike_scores" (defScope s_unlike_scores) T.f_unlike_scores cdv A outer s H E) rfl
  exact ⟨_, (dss_cons (ds_expr (dx_fn (ok_check_things T) (hr.mono (by decide)) T.m_check_things T.F_check_things.kp T.b_check_things tk (dxa_cons (dx_var 0 (pv 0)) dxa_nil)))
  (dss_one (ds_ret (dx_fn (ok_scores_of T) (hr.mono (by decide)) T.m_scores_of T.F_scores_of.kp T.b_scores_of tk (dxa_cons (dx_var 0 (pv 0)) dxa_nil)))))⟩
theorem sc_thresholds_of : FnScope N_thresholds_of ["things"] (defScope s_thresholds_of) := ⟨rfl, rfl, rfl, by decide +kernel, rfl, by decide +kernel, by decide +kernel⟩
theorem ok_thresholds_of (T : Txt K mg) : FnOk P w K mg base (L2.CX P w) 2 T.f_thresholds_of T.fd_thresholds_of ["things"] (spD T.cl 1 sem_thresholds_of) := by
  refine fn_pure (cl := T.cl) (k := 1) (m := 0) T.F_thresholds_of sc_thresholds_of rfl fun cdv A outer s H E hr => ?_
  have sc := sc_thresholds_of
  have hu : _ + 65 < cLine := hu65 hr
  have tk := takesE (cl := T.cl) (takes_of (X := cxOf (L2.CX P w) P w K mg base N_thresholds_of "thresholds_of" (defScope s_thresholds_of) T.f_thresholds_of cdv A outer s H E) rfl rfl rfl rfl)
  have po := passes_of (X := cxOf (L2.CX P w) P w K mg base N_thresholds_of "thresholds_of" (defScope s_thresholds_of) T.f_thresholds_of cdv A outer s H E) rfl
  exact ⟨_, (dss_one (ds_ret (dx_add (dx_lst (dxa_cons dx_int dxa_nil)) (dx_fn (ok_scores_of T) (hr.mono (by decide)) T.m_scores_of T.F_scores_of.kp T.b_scores_of tk (dxa_cons (dx_var 0 (pv 0)) dxa_nil)))))⟩
theorem sc_totals : FnScope N_totals ["things"] (defScope s_totals) := ⟨rfl, rfl, rfl, by decide +kernel, rfl, by decide +kernel, by decide +kernel⟩
theorem ok_totals (T : Txt K mg) : FnOk P w K mg base (L2.CX P w) 5 T.f_totals T.fd_totals ["things"] (spD T.cl 1 sem_totals) := by
  refine fn_pure (cl := T.cl) (k := 4) (m := 0) T.F_totals sc_totals rfl fun cdv A outer s H E hr => ?_
  have sc := sc_totals
  have hu : _ + 65 < cLine := hu65 hr
  have tk := takesE (cl := T.cl) (takes_of (X := cxOf (L2.CX P w) P w K mg base N_totals "totals" (defScope s_totals) T.f_totals cdv A outer s H E) rfl rfl rfl rfl)
  have po := passes_of (X := cxOf (L2.CX P w) P w K mg base N_totals "totals" (defScope s_totals) T.f_totals cdv A outer s H E) rfl
  exact ⟨_, (dss_cons (ds_expr (dx_fn (ok_check_things T) (hr.mono (by decide)) T.m_check_things T.F_check_things.kp T.b_check_things tk (dxa_cons (dx_var 0 (pv 0)) dxa_nil)))
  (dss_one (ds_ret (dx_fn (ok_counts T) (hr.mono (by decide)) T.m_counts T.F_counts.kp T.b_counts tk (dxa_cons (dx_var 0 (pv 0)) (dxa_cons dx_int dxa_nil))))))⟩
theorem sc_points_of : FnScope N_points_of ["things"] (defScope s_points_of) := ⟨rfl, rfl, rfl, by decide +kernel, rfl, by decide +kernel, by decide +kernel⟩
theorem ok_points_of (T : Txt K mg) : FnOk P w K mg base (L2.CX P w) 2 T.f_points_of T.fd_points_of ["things"] (spD T.cl 1 sem_points_of) := by
  refine fn_pure (cl := T.cl) (k := 1) (m := 1) T.F_points_of sc_points_of rfl fun cdv A outer s H E hr => ?_
  have sc := sc_points_of
  have hu : _ + 65 < cLine := hu65 hr
  have tk := takesE (cl := T.cl) (takes_of (X := cxOf (L2.CX P w) P w K mg base N_points_of "points_of" (defScope s_points_of) T.f_points_of cdv A outer s H E) rfl rfl rfl rfl)
  have po := passes_of (X := cxOf (L2.CX P w) P w K mg base N_points_of "points_of" (defScope s_points_of) T.f_points_of cdv A outer s H E) rfl
  exact ⟨_, (dss_one (ds_ret (dx_add (dx_lst (dxa_cons (dx_tup (dxa_cons dx_int (dxa_cons dx_int dxa_nil))) dxa_nil)) (dx_new (dxf_lc0 (own := [("score", 1)]) rfl sc.nd (di_list (dx_fn (ok_scores_of T) (hr.mono (by decide)) T.m_scores_of T.F_scores_of.kp T.b_scores_of tk (dxa_cons (dx_var 0 (pv 0)) dxa_nil))) (blkOk_by (N := N_points_of) (sc := defScope s_points_of) (by decide +kernel)) (fun _ _ _ _ _ => (dg_name 1 sc.nd)) (fun _ _ _ _ _ => (dx_fn (ok_counts T) (hr.mono (by decide)) T.m_counts T.F_counts.kp T.b_counts takesN (dxa_cons (dx_var 0 (pv 0)) (dxa_cons (dx_var 1 (pv 1)) dxa_nil)))))))))⟩
theorem sc_curve : FnScope N_curve ["things"] (defScope s_curve) := ⟨rfl, rfl, rfl, by decide +kernel, rfl, by decide +kernel, by decide +kernel⟩
theorem ok_curve (T : Txt K mg) : FnOk P w K mg base (L2.CX P w) 5 T.f_curve T.fd_curve ["things"] (spD T.cl 1 sem_curve) := by
  refine fn_pure (cl := T.cl) (k := 4) (m := 0) T.F_curve sc_curve rfl fun cdv A outer s H E hr => ?_
  have sc := sc_curve
  have hu : _ + 65 < cLine := hu65 hr
  have tk := takesE (cl := T.cl) (takes_of (X := cxOf (L2.CX P w) P w K mg base N_curve "curve" (defScope s_curve) T.f_curve cdv A outer s H E) rfl rfl rfl rfl)
  have po := passes_of (X := cxOf (L2.CX P w) P w K mg base N_curve "curve" (defScope s_curve) T.f_curve cdv A outer s H E) rfl
  exact ⟨_, (dss_cons (ds_expr (dx_fn (ok_check_things T) (hr.mono (by decide)) T.m_check_things T.F_check_things.kp T.b_check_things tk (dxa_cons (dx_var 0 (pv 0)) dxa_nil)))
  (dss_one (ds_ret (dx_fn (ok_points_of T) (hr.mono (by decide)) T.m_points_of T.F_points_of.kp T.b_points_of tk (dxa_cons (dx_var 0 (pv 0)) dxa_nil)))))⟩
theorem sc_most_true : FnScope N_most_true ["things", "false"] (defScope s_most_true) := ⟨rfl, rfl, rfl, by decide +kernel, rfl, by decide +kernel, by decide +kernel⟩
theorem ok_most_true (T : Txt K mg) : FnOk P w K mg base (L2.CX P w) 5 T.f_most_true T.fd_most_true ["things", "false"] (spD T.cl 2 sem_most_true) := by
  refine fn_pure (cl := T.cl) (k := 4) (m := 2) T.F_most_true sc_most_true rfl fun cdv A outer s H E hr => ?_
  have sc := sc_most_true
  have hu : _ + 65 < cLine := hu65 hr
  have tk := takesE (cl := T.cl) (takes_of (X := cxOf (L2.CX P w) P w K mg base N_most_true "most_true" (defScope s_most_true) T.f_most_true cdv A outer s H E) rfl rfl rfl rfl)
  have po := passes_of (X := cxOf (L2.CX P w) P w K mg base N_most_true "most_true" (defScope s_most_true) T.f_most_true cdv A outer s H E) rfl
  exact ⟨_, (dss_cons (ds_expr (dx_fn (ok_check_things T) (hr.mono (by decide)) T.m_check_things T.F_check_things.kp T.b_check_things tk (dxa_cons (dx_var 0 (pv 0)) dxa_nil)))
  (dss_cons (ds_if (dxt_not (dxt_val (dx_fn (ok_is_int T) (hr.mono (by decide)) T.m_is_int T.F_is_int.kp T.b_is_int tk (dxa_cons (dx_var 1 (pv 1)) (dxa_cons dx_int (dxa_cons dx_int dxa_nil)))))) (dss_one (ds_raise 1 rfl tk PySem.F.excBase_ValueError T.x_BadNumber T.g_BadNumber T.k_BadNumber (raises_own T.e_BadNumber T.t_BadNumber))) dss_nil)
  (dss_one (ds_ret (dx_callB (cr_maxE rfl) sa_max rfl T.n_max (by decide +kernel) (dxa_cons (dx_new (dxf_lc1 (own := [("x", 2), ("y", 3)]) rfl sc.nd (di_list (dx_fn (ok_points_of T) (hr.mono (by decide)) T.m_points_of T.F_points_of.kp T.b_points_of tk (dxa_cons (dx_var 0 (pv 0)) dxa_nil))) (blkOk_by (N := N_most_true) (sc := defScope s_most_true) (by decide +kernel)) (fun _ _ _ _ _ => (dg_tup rfl (dgs_cons (dg_name 2 sc.nd) (dgs_cons (dg_name 3 sc.nd) dgs_nil)))) (fun _ _ _ _ _ => (dxt_cmp cm_le (dx_var 2 (pv 2)) (dx_var 1 (pv 1)))) (fun _ _ _ _ _ => (dx_var 3 (pv 3))))) dxa_nil))))))⟩
theorem sc_least_false : FnScope N_least_false ["things", "true"] (defScope s_least_false) := ⟨rfl, rfl, rfl, by decide +kernel, rfl, by decide +kernel, by decide +kernel⟩
theorem ok_least_false (T : Txt K mg) : FnOk P w K mg base (L2.CX P w) 5 T.f_least_false T.fd_least_false ["things", "true"] (spD T.cl 2 sem_least_false) := by
  refine fn_pure (cl := T.cl) (k := 4) (m := 3) T.F_least_false sc_least_false rfl fun cdv A outer s H E hr => ?_
  have sc := sc_least_false
  have hu : _ + 65 < cLine := hu65 hr
  have tk := takesE (cl := T.cl) (takes_of (X := cxOf (L2.CX P w) P w K mg base N_least_false "least_false" (defScope s_least_false) T.f_least_false cdv A outer s H E) rfl rfl rfl rfl)
  have po := passes_of (X := cxOf (L2.CX P w) P w K mg base N_least_false "least_false" (defScope s_least_false) T.f_least_false cdv A outer s H E) rfl
  exact ⟨_, (dss_cons (ds_expr (dx_fn (ok_check_things T) (hr.mono (by decide)) T.m_check_things T.F_check_things.kp T.b_check_things tk (dxa_cons (dx_var 0 (pv 0)) dxa_nil)))
  (dss_cons (ds_if (dxt_not (dxt_val (dx_fn (ok_is_int T) (hr.mono (by decide)) T.m_is_int T.F_is_int.kp T.b_is_int tk (dxa_cons (dx_var 1 (pv 1)) (dxa_cons dx_int (dxa_cons dx_int dxa_nil)))))) (dss_one (ds_raise 1 rfl tk PySem.F.excBase_ValueError T.x_BadNumber T.g_BadNumber T.k_BadNumber (raises_own T.e_BadNumber T.t_BadNumber))) dss_nil)
  (dss_cons (ds_setLc1 (own := [("x", 3), ("y", 4)]) 2 rfl sc.nd (di_list (dx_fn (ok_points_of T) (hr.mono (by decide)) T.m_points_of T.F_points_of.kp T.b_points_of tk (dxa_cons (dx_var 0 (pv 0)) dxa_nil))) (blkOk_by (N := N_least_false) (sc := defScope s_least_false) (by decide +kernel)) (fun _ _ _ _ _ => (dg_tup rfl (dgs_cons (dg_name 3 sc.nd) (dgs_cons (dg_name 4 sc.nd) dgs_nil)))) (fun _ _ _ _ _ => (dxt_cmp cm_ge (dx_var 4 (pv 4)) (dx_var 1 (pv 1)))) (fun _ _ _ _ _ => (dx_var 3 (pv 3))))
  (dss_one (ds_ret (dx_if (dxt_cmp (cm_ne (Nat.lt_of_succ_lt hu)) (dx_var 2 (pv 2)) (dx_lst dxa_nil)) (dx_callB (cr_minE rfl) sa_min rfl T.n_min (by decide +kernel) (dxa_cons (dx_var 2 (pv 2)) dxa_nil)) dx_non))))))⟩
theorem sc_common : FnScope N_common ["one", "other"] (defScope s_common) := ⟨rfl, rfl, rfl, by decide +kernel, rfl, by decide +kernel, by decide +kernel⟩
theorem ok_common (T : Txt K mg) : FnOk P w K mg base (L2.CX P w) 1 T.f_common T.fd_common ["one", "other"] (spD T.cl 2 sem_common) := by
  refine fn_pure (cl := T.cl) (k := 0) (m := 0) T.F_common sc_common rfl fun cdv A outer s H E hr => ?_
  have sc := sc_common
  have hu : _ + 65 < cLine := hu65 hr
  have tk := takesE (cl := T.cl) (takes_of (X := cxOf (L2.CX P w) P w K mg base N_common "common" (defScope s_common) T.f_common cdv A outer s H E) rfl rfl rfl rfl)
  have po := passes_of (X := cxOf (L2.CX P w) P w K mg base N_common "common" (defScope s_common) T.f_common cdv A outer s H E) rfl
  exact ⟨_, (dss_cons (ds_par (i := 0) (j := 1) rfl sc.nd (dxa_cons (dx_callB cr_abs sa_abs rfl T.n_abs PyProof.Rows.boot_abs (dxa_cons (dx_var 0 (pv 0)) dxa_nil)) (dxa_cons (dx_callB cr_abs sa_abs rfl T.n_abs PyProof.Rows.boot_abs (dxa_cons (dx_var 1 (pv 1)) dxa_nil)) dxa_nil)))
  (dss_cons (ds_while MU_common po (dxt_cmp (cm_ne (Nat.lt_of_succ_lt hu)) (dx_var 1 (pv 1)) dx_int) (dss_one (ds_par (i := 0) (j := 1) rfl sc.nd (dxa_cons (dx_var 1 (pv 1)) (dxa_cons (dx_mod (dx_var 0 (pv 0)) (dx_var 1 (pv 1))) dxa_nil)))))
  (dss_one (ds_ret (dx_var 0 (pv 0))))))⟩
theorem sc_lowest : FnScope N_lowest ["top", "below"] (defScope s_lowest) := ⟨rfl, rfl, rfl, by decide +kernel, rfl, by decide +kernel, by decide +kernel⟩
theorem ok_lowest (T : Txt K mg) : FnOk P w K mg base (L2.CX P w) 2 T.f_lowest T.fd_lowest ["top", "below"] (spD T.cl 2 sem_lowest) := by
  refine fn_pure (cl := T.cl) (k := 1) (m := 1) T.F_lowest sc_lowest rfl fun cdv A outer s H E hr => ?_
  have sc := sc_lowest
  have hu : _ + 65 < cLine := hu65 hr
  have tk := takesE (cl := T.cl) (takes_of (X := cxOf (L2.CX P w) P w K mg base N_lowest "lowest" (defScope s_lowest) T.f_lowest cdv A outer s H E) rfl rfl rfl rfl)
  have po := passes_of (X := cxOf (L2.CX P w) P w K mg base N_lowest "lowest" (defScope s_lowest) T.f_lowest cdv A outer s H E) rfl
  exact ⟨_, (dss_cons (ds_if (dxt_cmp cm_lt (dx_var 1 (pv 1)) dx_int) (dss_one (ds_par (i := 0) (j := 1) rfl sc.nd (dxa_cons (dx_neg (dx_var 0 (pv 0))) (dxa_cons (dx_neg (dx_var 1 (pv 1))) dxa_nil)))) dss_nil)
  (dss_cons (ds_set 2 sc.nd (dx_fn (ok_common T) (hr.mono (by decide)) T.m_common T.F_common.kp T.b_common tk (dxa_cons (dx_var 0 (pv 0)) (dxa_cons (dx_var 1 (pv 1)) dxa_nil))))
  (dss_one (ds_ret (dx_tup (dxa_cons (dx_fdiv (dx_var 0 (pv 0)) (dx_var 2 (pv 2))) (dxa_cons (dx_fdiv (dx_var 1 (pv 1)) (dx_var 2 (pv 2))) dxa_nil)))))))⟩
theorem sc_plus : FnScope N_plus ["one", "other"] (defScope s_plus) := ⟨rfl, rfl, rfl, by decide +kernel, rfl, by decide +kernel, by decide +kernel⟩
theorem ok_plus (T : Txt K mg) : FnOk P w K mg base (L2.CX P w) 3 T.f_plus T.fd_plus ["one", "other"] (spD T.cl 2 sem_plus) := by
  refine fn_pure (cl := T.cl) (k := 2) (m := 0) T.F_plus sc_plus rfl fun cdv A outer s H E hr => ?_
  have sc := sc_plus
  have hu : _ + 65 < cLine := hu65 hr
  have tk := takesE (cl := T.cl) (takes_of (X := cxOf (L2.CX P w) P w K mg base N_plus "plus" (defScope s_plus) T.f_plus cdv A outer s H E) rfl rfl rfl rfl)
  have po := passes_of (X := cxOf (L2.CX P w) P w K mg base N_plus "plus" (defScope s_plus) T.f_plus cdv A outer s H E) rfl
  exact ⟨_, (dss_one (ds_ret (dx_fn (ok_lowest T) (hr.mono (by decide)) T.m_lowest T.F_lowest.kp T.b_lowest tk (dxa_cons (dx_add (dx_mul (dx_ix (dx_var 0 (pv 0)) dx_int) (dx_ix (dx_var 1 (pv 1)) dx_int)) (dx_mul (dx_ix (dx_var 1 (pv 1)) dx_int) (dx_ix (dx_var 0 (pv 0)) dx_int))) (dxa_cons (dx_mul (dx_ix (dx_var 0 (pv 0)) dx_int) (dx_ix (dx_var 1 (pv 1)) dx_int)) dxa_nil)))))⟩
theorem sc_product : FnScope N_product ["one", "other"] (defScope s_product) := ⟨rfl, rfl, rfl, by decide +kernel, rfl, by decide +kernel, by decide +kernel⟩
theorem ok_product (T : Txt K mg) : FnOk P w K mg base (L2.CX P w) 3 T.f_product T.fd_product ["one", "other"] (spD T.cl 2 sem_product) := by
  refine fn_pure (cl := T.cl) (k := 2) (m := 0) T.F_product sc_product rfl fun cdv A outer s H E hr => ?_
  have sc := sc_product
  have hu : _ + 65 < cLine := hu65 hr
  have tk := takesE (cl := T.cl) (takes_of (X := cxOf (L2.CX P w) P w K mg base N_product "product" (defScope s_product) T.f_product cdv A outer s H E) rfl rfl rfl rfl)
  have po := passes_of (X := cxOf (L2.CX P w) P w K mg base N_product "product" (defScope s_product) T.f_product cdv A outer s H E) rfl
  exact ⟨_, (dss_one (ds_ret (dx_fn (ok_lowest T) (hr.mono (by decide)) T.m_lowest T.F_lowest.kp T.b_lowest tk (dxa_cons (dx_mul (dx_ix (dx_var 0 (pv 0)) dx_int) (dx_ix (dx_var 1 (pv 1)) dx_int)) (dxa_cons (dx_mul (dx_ix (dx_var 0 (pv 0)) dx_int) (dx_ix (dx_var 1 (pv 1)) dx_int)) dxa_nil)))))⟩
theorem sc_less : FnScope N_less ["one", "other"] (defScope s_less) := ⟨rfl, rfl, rfl, by decide +kernel, rfl, by decide +kernel, by decide +kernel⟩
theorem ok_less (T : Txt K mg) : FnOk P w K mg base (L2.CX P w) 1 T.f_less T.fd_less ["one", "other"] (spD T.cl 2 sem_less) := by
  refine fn_pure (cl := T.cl) (k := 0) (m := 0) T.F_less sc_less rfl fun cdv A outer s H E hr => ?_
  have sc := sc_less
  have hu : _ + 65 < cLine := hu65 hr
  have tk := takesE (cl := T.cl) (takes_of (X := cxOf (L2.CX P w) P w K mg base N_less "less" (defScope s_less) T.f_less cdv A outer s H E) rfl rfl rfl rfl)
  have po := passes_of (X := cxOf (L2.CX P w) P w K mg base N_less "less" (defScope s_less) T.f_less cdv A outer s H E) rfl
  exact ⟨_, (dss_one (ds_ret (dx_cmp cm_lt (dx_mul (dx_ix (dx_var 0 (pv 0)) dx_int) (dx_ix (dx_var 1 (pv 1)) dx_int)) (dx_mul (dx_ix (dx_var 1 (pv 1)) dx_int) (dx_ix (dx_var 0 (pv 0)) dx_int)))))⟩
theorem sc_is_mean : FnScope N_is_mean ["value", "most"] (defScope s_is_mean) := ⟨rfl, rfl, rfl, by decide +kernel, rfl, by decide +kernel, by decide +kernel⟩
theorem ok_is_mean (T : Txt K mg) : FnOk P w K mg base (L2.CX P w) 2 T.f_is_mean T.fd_is_mean ["value", "most"] (spD T.cl 2 sem_is_mean) := by
  refine fn_pure (cl := T.cl) (k := 1) (m := 0) T.F_is_mean sc_is_mean rfl fun cdv A outer s H E hr => ?_
  have sc := sc_is_mean
  have hu : _ + 65 < cLine := hu65 hr
  have tk := takesE (cl := T.cl) (takes_of (X := cxOf (L2.CX P w) P w K mg base N_is_mean "is_mean" (defScope s_is_mean) T.f_is_mean cdv A outer s H E) rfl rfl rfl rfl)
  have po := passes_of (X := cxOf (L2.CX P w) P w K mg base N_is_mean "is_mean" (defScope s_is_mean) T.f_is_mean cdv A outer s H E) rfl
  exact ⟨_, (dss_cons (ds_if (DXW.t (dxw_or (dxt_not (dxt_val (dx_isi isi_tuple T.n_isinstance T.n_tuple (dx_var 0 (pv 0))))) (dxw_or (dxt_cmp (cm_ne (Nat.lt_of_succ_lt hu)) (dx_callB cr_len sa_len rfl T.n_len PySem.boot_len (dxa_cons (dx_var 0 (pv 0)) dxa_nil)) dx_int) (dxw_or1 (dxt_not (dxt_val (dx_fn (ok_is_int T) (hr.mono (by decide)) T.m_is_int T.F_is_int.kp T.b_is_int tk (dxa_cons (dx_ix (dx_var 0 (pv 0)) dx_int) (dxa_cons dx_int (dxa_cons dx_int dxa_nil)))))))))) (dss_one (ds_ret dx_bl)) dss_nil)
  (dss_one (ds_ret (dx_and (dx_fn (ok_is_int T) (hr.mono (by decide)) T.m_is_int T.F_is_int.kp T.b_is_int tk (dxa_cons (dx_ix (dx_var 0 (pv 0)) dx_int) (dxa_cons dx_int (dxa_cons (dx_mul (dx_var 1 (pv 1)) (dx_ix (dx_var 0 (pv 0)) dx_int)) dxa_nil)))) (dx_one (dx_cmp (cm_eq (Nat.lt_of_succ_lt hu)) (dx_fn (ok_common T) (hr.mono (by decide)) T.m_common T.F_common.kp T.b_common tk (dxa_cons (dx_ix (dx_var 0 (pv 0)) dx_int) (dxa_cons (dx_ix (dx_var 0 (pv 0)) dx_int) dxa_nil))) dx_int))))))⟩
theorem sc_check_mean : FnScope N_check_mean ["value", "most"] (defScope s_check_mean) := ⟨rfl, rfl, rfl, by decide +kernel, rfl, by decide +kernel, by decide +kernel⟩
theorem ok_check_mean (T : Txt K mg) : FnOk P w K mg base (L2.CX P w) 3 T.f_check_mean T.fd_check_mean ["value", "most"] (spD T.cl 2 sem_check_mean) := by
  refine fn_pure (cl := T.cl) (k := 2) (m := 0) T.F_check_mean sc_check_mean rfl fun cdv A outer s H E hr => ?_
  have sc := sc_check_mean
  have hu : _ + 65 < cLine := hu65 hr
  have tk := takesE (cl := T.cl) (takes_of (X := cxOf (L2.CX P w) P w K mg base N_check_mean "check_mean" (defScope s_check_mean) T.f_check_mean cdv A outer s H E) rfl rfl rfl rfl)
  have po := passes_of (X := cxOf (L2.CX P w) P w K mg base N_check_mean "check_mean" (defScope s_check_mean) T.f_check_mean cdv A outer s H E) rfl
  exact ⟨_, (dss_one (ds_if (dxt_not (dxt_val (dx_fn (ok_is_mean T) (hr.mono (by decide)) T.m_is_mean T.F_is_mean.kp T.b_is_mean tk (dxa_cons (dx_var 0 (pv 0)) (dxa_cons (dx_var 1 (pv 1)) dxa_nil))))) (dss_one (ds_raise 1 rfl tk PySem.F.excBase_ValueError T.x_BadNumber T.g_BadNumber T.k_BadNumber (raises_own T.e_BadNumber T.t_BadNumber))) dss_nil))⟩
theorem sc_outcomes : FnScope N_outcomes ["things"] (defScope s_outcomes) := ⟨rfl, rfl, rfl, by decide +kernel, rfl, by decide +kernel, by decide +kernel⟩
theorem ok_outcomes (T : Txt K mg) : FnOk P w K mg base (L2.CX P w) 1 T.f_outcomes T.fd_outcomes ["things"] (spD T.cl 1 sem_outcomes) := by
  refine fn_pure (cl := T.cl) (k := 0) (m := 7) T.F_outcomes sc_outcomes rfl fun cdv A outer s H E hr => ?_
  have sc := sc_outcomes
  have hu : _ + 65 < cLine := hu65 hr
  have tk := takesE (cl := T.cl) (takes_of (X := cxOf (L2.CX P w) P w K mg base N_outcomes "outcomes" (defScope s_outcomes) T.f_outcomes cdv A outer s H E) rfl rfl rfl rfl)
  have po := passes_of (X := cxOf (L2.CX P w) P w K mg base N_outcomes "outcomes" (defScope s_outcomes) T.f_outcomes cdv A outer s H E) rfl
  exact ⟨_, (dss_cons (ds_asg (dx_tup (dxa_cons dx_int (dxa_cons dx_int (dxa_cons dx_int dxa_nil)))) (dg_tup rfl (dgs_cons (dg_name 1 sc.nd) (dgs_cons (dg_name 2 sc.nd) (dgs_cons (dg_name 3 sc.nd) dgs_nil)))))
  (dss_cons (ds_for po rfl (di_list (dx_var 0 (pv 0))) (dg_tup rfl (dgs_cons (dg_name 4 sc.nd) (dgs_cons (dg_name 5 sc.nd) dgs_nil))) (dss_one (ds_for po rfl (di_list (dx_var 0 (pv 0))) (dg_tup rfl (dgs_cons (dg_name 6 sc.nd) (dgs_cons (dg_name 7 sc.nd) dgs_nil))) (dss_one (ds_if (DXW.t (dxw_and (dxt_val (dx_var 5 (pv 5))) (dxw_and1 (dxt_not (dxt_val (dx_var 7 (pv 7))))))) (dss_cons (ds_aug 1 sc.nd iop_add s2_iadd (dx_if (dxt_cmp cm_gt (dx_var 4 (pv 4)) (dx_var 6 (pv 6))) dx_int dx_int))
  (dss_cons (ds_aug 2 sc.nd iop_add s2_iadd (dx_if (dxt_cmp (cm_eq (Nat.lt_of_succ_lt hu)) (dx_var 4 (pv 4)) (dx_var 6 (pv 6))) dx_int dx_int))
  (dss_one (ds_aug 3 sc.nd iop_add s2_iadd (dx_if (dxt_cmp cm_lt (dx_var 4 (pv 4)) (dx_var 6 (pv 6))) dx_int dx_int))))) dss_nil)))))
  (dss_one (ds_ret (dx_tup (dxa_cons (dx_var 1 (pv 1)) (dxa_cons (dx_var 2 (pv 2)) (dxa_cons (dx_var 3 (pv 3)) dxa_nil))))))))⟩
theorem sc_pair_counts : FnScope N_pair_counts ["things"] (defScope s_pair_counts) := ⟨rfl, rfl, rfl, by decide +kernel, rfl, by decide +kernel, by decide +kernel⟩
theorem ok_pair_counts (T : Txt K mg) : FnOk P w K mg base (L2.CX P w) 5 T.f_pair_counts T.fd_pair_counts ["things"] (spD T.cl 1 sem_pair_counts) := by
  refine fn_pure (cl := T.cl) (k := 4) (m := 0) T.F_pair_counts sc_pair_counts rfl fun cdv A outer s H E hr => ?_
  have sc := sc_pair_counts
  have hu : _ + 65 < cLine := hu65 hr
  have tk := takesE (cl := T.cl) (takes_of (X := cxOf (L2.CX P w) P w K mg base N_pair_counts "pair_counts" (defScope s_pair_counts) T.f_pair_counts cdv A outer s H E) rfl rfl rfl rfl)
  have po := passes_of (X := cxOf (L2.CX P w) P w K mg base N_pair_counts "pair_counts" (defScope s_pair_counts) T.f_pair_counts cdv A outer s H E) rfl
  exact ⟨_, (dss_cons (ds_expr (dx_fn (ok_check_things T) (hr.mono (by decide)) T.m_check_things T.F_check_things.kp T.b_check_things tk (dxa_cons (dx_var 0 (pv 0)) dxa_nil)))
  (dss_one (ds_ret (dx_fn (ok_outcomes T) (hr.mono (by decide)) T.m_outcomes T.F_outcomes.kp T.b_outcomes tk (dxa_cons (dx_var 0 (pv 0)) dxa_nil)))))⟩
theorem sc_double_area : FnScope N_double_area ["points"] (defScope s_double_area) := ⟨rfl, rfl, rfl, by decide +kernel, rfl, by decide +kernel, by decide +kernel⟩
theorem ok_double_area (T : Txt K mg) : FnOk P w K mg base (L2.CX P w) 1 T.f_double_area T.fd_double_area ["points"] (spD T.cl 1 sem_double_area) := by
  refine fn_pure (cl := T.cl) (k := 0) (m := 3) T.F_double_area sc_double_area rfl fun cdv A outer s H E hr => ?_
  have sc := sc_double_area
  have hu : _ + 65 < cLine := hu65 hr
  have tk := takesE (cl := T.cl) (takes_of (X := cxOf (L2.CX P w) P w K mg base N_double_area "double_area" (defScope s_double_area) T.f_double_area cdv A outer s H E) rfl rfl rfl rfl)
  have po := passes_of (X := cxOf (L2.CX P w) P w K mg base N_double_area "double_area" (defScope s_double_area) T.f_double_area cdv A outer s H E) rfl
  exact ⟨_, (dss_cons (ds_set 1 sc.nd dx_int)
  (dss_cons (ds_for po rfl (di_zip T.n_zip (dxa_cons (dx_var 0 (pv 0)) (dxa_cons (dx_sl (dx_var 0 (pv 0)) (dxo_some dx_int) dxo_none) dxa_nil))) (dg_tup rfl (dgs_cons (dg_name 2 sc.nd) (dgs_cons (dg_name 3 sc.nd) dgs_nil))) (dss_one (ds_aug 1 sc.nd iop_add s2_iadd (dx_mul (dx_sub (dx_ix (dx_var 3 (pv 3)) dx_int) (dx_ix (dx_var 2 (pv 2)) dx_int)) (dx_add (dx_ix (dx_var 2 (pv 2)) dx_int) (dx_ix (dx_var 3 (pv 3)) dx_int))))))
  (dss_one (ds_ret (dx_var 1 (pv 1))))))⟩
theorem sc_area : FnScope N_area ["things"] (defScope s_area) := ⟨rfl, rfl, rfl, by decide +kernel, rfl, by decide +kernel, by decide +kernel⟩
theorem ok_area (T : Txt K mg) : FnOk P w K mg base (L2.CX P w) 5 T.f_area T.fd_area ["things"] (spD T.cl 1 sem_area) := by
  refine fn_pure (cl := T.cl) (k := 4) (m := 2) T.F_area sc_area rfl fun cdv A outer s H E hr => ?_
  have sc := sc_area
  have hu : _ + 65 < cLine := hu65 hr
  have tk := takesE (cl := T.cl) (takes_of (X := cxOf (L2.CX P w) P w K mg base N_area "area" (defScope s_area) T.f_area cdv A outer s H E) rfl rfl rfl rfl)
  have po := passes_of (X := cxOf (L2.CX P w) P w K mg base N_area "area" (defScope s_area) T.f_area cdv A outer s H E) rfl
  exact ⟨_, (dss_cons (ds_expr (dx_fn (ok_check_things T) (hr.mono (by decide)) T.m_check_things T.F_check_things.kp T.b_check_things tk (dxa_cons (dx_var 0 (pv 0)) dxa_nil)))
  (dss_cons (ds_set 1 sc.nd (dx_fn (ok_points_of T) (hr.mono (by decide)) T.m_points_of T.F_points_of.kp T.b_points_of tk (dxa_cons (dx_var 0 (pv 0)) dxa_nil)))
  (dss_cons (ds_set 2 sc.nd (dx_mul (dx_ix (dx_ix (dx_var 1 (pv 1)) (dx_neg dx_int)) dx_int) (dx_ix (dx_ix (dx_var 1 (pv 1)) (dx_neg dx_int)) dx_int)))
  (dss_cons (ds_if (dxt_cmp (cm_eq (Nat.lt_of_succ_lt hu)) (dx_var 2 (pv 2)) dx_int) (dss_one (ds_raise 4 rfl tk PySem.F.excBase_ValueError T.x_NotFound T.g_NotFound T.k_NotFound (raises_own T.e_NotFound T.t_NotFound))) dss_nil)
  (dss_one (ds_ret (dx_fn (ok_lowest T) (hr.mono (by decide)) T.m_lowest T.F_lowest.kp T.b_lowest tk (dxa_cons (dx_fn (ok_double_area T) (hr.mono (by decide)) T.m_double_area T.F_double_area.kp T.b_double_area tk (dxa_cons (dx_var 1 (pv 1)) dxa_nil)) (dxa_cons (dx_mul dx_int (dx_var 2 (pv 2))) dxa_nil)))))))))⟩
theorem sc_in_order : FnScope N_in_order ["things"] (defScope s_in_order) := ⟨rfl, rfl, rfl, by decide +kernel, rfl, by decide +kernel, by decide +kernel⟩
theorem ok_in_order (T : Txt K mg) : FnOk P w K mg base (L2.CX P w) 5 T.f_in_order T.fd_in_order ["things"] (spD T.cl 1 sem_in_order) := by
  refine fn_pure (cl := T.cl) (k := 4) (m := 3) T.F_in_order sc_in_order rfl fun cdv A outer s H E hr => ?_
  have sc := sc_in_order
  have hu : _ + 65 < cLine := hu65 hr
  have tk := takesE (cl := T.cl) (takes_of (X := cxOf (L2.CX P w) P w K mg base N_in_order "in_order" (defScope s_in_order) T.f_in_order cdv A outer s H E) rfl rfl rfl rfl)
  have po := passes_of (X := cxOf (L2.CX P w) P w K mg base N_in_order "in_order" (defScope s_in_order) T.f_in_order cdv A outer s H E) rfl
  exact ⟨_, (dss_cons (ds_expr (dx_fn (ok_check_things T) (hr.mono (by decide)) T.m_check_things T.F_check_things.kp T.b_check_things tk (dxa_cons (dx_var 0 (pv 0)) dxa_nil)))
  (dss_cons (ds_asg (dx_fn (ok_outcomes T) (hr.mono (by decide)) T.m_outcomes T.F_outcomes.kp T.b_outcomes tk (dxa_cons (dx_var 0 (pv 0)) dxa_nil)) (dg_tup rfl (dgs_cons (dg_name 1 sc.nd) (dgs_cons (dg_name 2 sc.nd) (dgs_cons (dg_name 3 sc.nd) dgs_nil)))))
  (dss_one (ds_ret (dx_and (dx_cmp (cm_eq (Nat.lt_of_succ_lt hu)) (dx_var 2 (pv 2)) dx_int) (dx_one (dx_cmp (cm_eq (Nat.lt_of_succ_lt hu)) (dx_var 3 (pv 3)) dx_int)))))))⟩
theorem sc_wrong_pairs : FnScope N_wrong_pairs ["things"] (defScope s_wrong_pairs) := ⟨rfl, rfl, rfl, by decide +kernel, rfl, by decide +kernel, by decide +kernel⟩
theorem ok_wrong_pairs (T : Txt K mg) : FnOk P w K mg base (L2.CX P w) 5 T.f_wrong_pairs T.fd_wrong_pairs ["things"] (spD T.cl 1 sem_wrong_pairs) := by
  refine fn_pure (cl := T.cl) (k := 4) (m := 7) T.F_wrong_pairs sc_wrong_pairs rfl fun cdv A outer s H E hr => ?_
  have sc := sc_wrong_pairs
  have hu : _ + 65 < cLine := hu65 hr
  have tk := takesE (cl := T.cl) (takes_of (X := cxOf (L2.CX P w) P w K mg base N_wrong_pairs "wrong_pairs" (defScope s_wrong_pairs) T.f_wrong_pairs cdv A outer s H E) rfl rfl rfl rfl)
  have po := passes_of (X := cxOf (L2.CX P w) P w K mg base N_wrong_pairs "wrong_pairs" (defScope s_wrong_pairs) T.f_wrong_pairs cdv A outer s H E) rfl
  exact ⟨_, (dss_cons (ds_expr (dx_fn (ok_check_things T) (hr.mono (by decide)) T.m_check_things T.F_check_things.kp T.b_check_things tk (dxa_cons (dx_var 0 (pv 0)) dxa_nil)))
  (dss_cons (ds_setM 1 sc.nd (dxf_lst dxa_nil))
  (dss_cons (ds_for po rfl (di_enum T.n_enumerate (dxa_cons (dx_var 0 (pv 0)) dxa_nil)) (dg_tup rfl (dgs_cons (dg_name 2 sc.nd) (dgs_cons (dg_tup rfl (dgs_cons (dg_name 3 sc.nd) (dgs_cons (dg_name 4 sc.nd) dgs_nil))) dgs_nil))) (dss_one (ds_for po rfl (di_enum T.n_enumerate (dxa_cons (dx_var 0 (pv 0)) dxa_nil)) (dg_tup rfl (dgs_cons (dg_name 5 sc.nd) (dgs_cons (dg_tup rfl (dgs_cons (dg_name 6 sc.nd) (dgs_cons (dg_name 7 sc.nd) dgs_nil))) dgs_nil))) (dss_one (ds_if (DXW.t (dxw_and (dxt_val (dx_var 4 (pv 4))) (dxw_and (dxt_not (dxt_val (dx_var 7 (pv 7)))) (dxw_and1 (dxt_cmp cm_ge (dx_var 6 (pv 6)) (dx_var 3 (pv 3))))))) (dss_one (ds_appM 1 (pv 1) (dx_tup (dxa_cons (dx_var 2 (pv 2)) (dxa_cons (dx_var 5 (pv 5)) dxa_nil))))) dss_nil)))))
  (dss_frz [1] (dss_one (ds_ret (dx_var 1 (pv 1))))))))⟩
theorem sc_way_turn : FnScope N_way_turn ["one", "middle", "other"] (defScope s_way_turn) := ⟨rfl, rfl, rfl, by decide +kernel, rfl, by decide +kernel, by decide +kernel⟩
theorem ok_way_turn (T : Txt K mg) : FnOk P w K mg base (L2.CX P w) 1 T.f_way_turn T.fd_way_turn ["one", "middle", "other"] (spD T.cl 3 sem_way_turn) := by
  refine fn_pure (cl := T.cl) (k := 0) (m := 2) T.F_way_turn sc_way_turn rfl fun cdv A outer s H E hr => ?_
  have sc := sc_way_turn
  have hu : _ + 65 < cLine := hu65 hr
  have tk := takesE (cl := T.cl) (takes_of (X := cxOf (L2.CX P w) P w K mg base N_way_turn "way_turn" (defScope s_way_turn) T.f_way_turn cdv A outer s H E) rfl rfl rfl rfl)
  have po := passes_of (X := cxOf (L2.CX P w) P w K mg base N_way_turn "way_turn" (defScope s_way_turn) T.f_way_turn cdv A outer s H E) rfl
  exact ⟨_, (dss_cons (ds_par (i := 3) (j := 4) rfl sc.nd (dxa_cons (dx_sub (dx_ix (dx_var 1 (pv 1)) dx_int) (dx_ix (dx_var 0 (pv 0)) dx_int)) (dxa_cons (dx_sub (dx_ix (dx_var 1 (pv 1)) dx_int) (dx_ix (dx_var 0 (pv 0)) dx_int)) dxa_nil)))
  (dss_one (ds_ret (dx_sub (dx_mul (dx_var 3 (pv 3)) (dx_sub (dx_ix (dx_var 2 (pv 2)) dx_int) (dx_ix (dx_var 0 (pv 0)) dx_int))) (dx_mul (dx_var 4 (pv 4)) (dx_sub (dx_ix (dx_var 2 (pv 2)) dx_int) (dx_ix (dx_var 0 (pv 0)) dx_int)))))))⟩
theorem sc_corners_of : FnScope N_corners_of ["points"] (defScope s_corners_of) := ⟨rfl, rfl, rfl, by decide +kernel, rfl, by decide +kernel, by decide +kernel⟩
theorem ok_corners_of (T : Txt K mg) : FnOk P w K mg base (L2.CX P w) 2 T.f_corners_of T.fd_corners_of ["points"] (spD T.cl 1 sem_corners_of) := by
  refine fn_pure (cl := T.cl) (k := 1) (m := 2) T.F_corners_of sc_corners_of rfl fun cdv A outer s H E hr => ?_
  have sc := sc_corners_of
  have hu : _ + 65 < cLine := hu65 hr
  have tk := takesE (cl := T.cl) (takes_of (X := cxOf (L2.CX P w) P w K mg base N_corners_of "corners_of" (defScope s_corners_of) T.f_corners_of cdv A outer s H E) rfl rfl rfl rfl)
  have po := passes_of (X := cxOf (L2.CX P w) P w K mg base N_corners_of "corners_of" (defScope s_corners_of) T.f_corners_of cdv A outer s H E) rfl
  exact ⟨_, (dss_cons (ds_setM 1 sc.nd (dxf_lst dxa_nil))
  (dss_cons (ds_for po rfl (di_list (dx_var 0 (pv 0))) (dg_name 2 sc.nd) (dss_cons (ds_while MU_corners_of po (DXW.t (dxw_and (dxt_cmp cm_ge (dx_callM cr_len sa_len rfl T.n_len PySem.boot_len (pv 1)) dx_int) (dxw_and1 (dxt_cmp cm_ge (dx_fn (ok_way_turn T) (hr.mono (by decide)) T.m_way_turn T.F_way_turn.kp T.b_way_turn tk (dxa_cons (dx_ixM (pv 1) (dx_neg dx_int)) (dxa_cons (dx_ixM (pv 1) (dx_neg dx_int)) (dxa_cons (dx_var 2 (pv 2)) dxa_nil)))) dx_int)))) (dss_one (ds_setM 1 sc.nd (dxf_slM (pv 1) dxo_none (dxo_some (dx_neg dx_int))))))
  (dss_one (ds_appM 1 (pv 1) (dx_var 2 (pv 2))))))
  (dss_frz [1] (dss_one (ds_ret (dx_var 1 (pv 1)))))))⟩
theorem sc_hull : FnScope N_hull ["things"] (defScope s_hull) := ⟨rfl, rfl, rfl, by decide +kernel, rfl, by decide +kernel, by decide +kernel⟩
theorem ok_hull (T : Txt K mg) : FnOk P w K mg base (L2.CX P w) 5 T.f_hull T.fd_hull ["things"] (spD T.cl 1 sem_hull) := by
  refine fn_pure (cl := T.cl) (k := 4) (m := 0) T.F_hull sc_hull rfl fun cdv A outer s H E hr => ?_
  have sc := sc_hull
  have hu : _ + 65 < cLine := hu65 hr
  have tk := takesE (cl := T.cl) (takes_of (X := cxOf (L2.CX P w) P w K mg base N_hull "hull" (defScope s_hull) T.f_hull cdv A outer s H E) rfl rfl rfl rfl)
  have po := passes_of (X := cxOf (L2.CX P w) P w K mg base N_hull "hull" (defScope s_hull) T.f_hull cdv A outer s H E) rfl
  exact ⟨_, (dss_cons (ds_expr (dx_fn (ok_check_things T) (hr.mono (by decide)) T.m_check_things T.F_check_things.kp T.b_check_things tk (dxa_cons (dx_var 0 (pv 0)) dxa_nil)))
  (dss_one (ds_ret (dx_fn (ok_corners_of T) (hr.mono (by decide)) T.m_corners_of T.F_corners_of.kp T.b_corners_of tk (dxa_cons (dx_fn (ok_points_of T) (hr.mono (by decide)) T.m_points_of T.F_points_of.kp T.b_points_of tk (dxa_cons (dx_var 0 (pv 0)) dxa_nil)) dxa_nil)))))⟩
theorem sc_height_of : FnScope N_height_of ["corners", "place"] (defScope s_height_of) := ⟨rfl, rfl, rfl, by decide +kernel, rfl, by decide +kernel, by decide +kernel⟩
theorem ok_height_of (T : Txt K mg) : FnOk P w K mg base (L2.CX P w) 3 T.f_height_of T.fd_height_of ["corners", "place"] (spD T.cl 2 sem_height_of) := by
  refine fn_pure (cl := T.cl) (k := 2) (m := 6) T.F_height_of sc_height_of rfl fun cdv A outer s H E hr => ?_
  have sc := sc_height_of
  have hu : _ + 65 < cLine := hu65 hr
  have tk := takesE (cl := T.cl) (takes_of (X := cxOf (L2.CX P w) P w K mg base N_height_of "height_of" (defScope s_height_of) T.f_height_of cdv A outer s H E) rfl rfl rfl rfl)
  have po := passes_of (X := cxOf (L2.CX P w) P w K mg base N_height_of "height_of" (defScope s_height_of) T.f_height_of cdv A outer s H E) rfl
  exact ⟨_, (dss_cons (ds_set 2 sc.nd (dx_tup (dxa_cons dx_int (dxa_cons dx_int dxa_nil))))
  (dss_cons (ds_for po rfl (di_zip T.n_zip (dxa_cons (dx_var 0 (pv 0)) (dxa_cons (dx_sl (dx_var 0 (pv 0)) (dxo_some dx_int) dxo_none) dxa_nil))) (dg_tup rfl (dgs_cons (dg_name 3 sc.nd) (dgs_cons (dg_name 4 sc.nd) dgs_nil))) (dss_one (ds_if (dxt_chain cm_le cm_le (dx_mul (dx_ix (dx_var 3 (pv 3)) dx_int) (dx_ix (dx_var 1 (pv 1)) dx_int)) (dx_ix (dx_var 1 (pv 1)) dx_int) (dx_mul (dx_ix (dx_var 4 (pv 4)) dx_int) (dx_ix (dx_var 1 (pv 1)) dx_int))) (dss_cons (ds_set 5 sc.nd (dx_sub (dx_ix (dx_var 4 (pv 4)) dx_int) (dx_ix (dx_var 3 (pv 3)) dx_int)))
  (dss_cons (ds_if (dxt_cmp (cm_eq (Nat.lt_of_succ_lt hu)) (dx_var 5 (pv 5)) dx_int) (dss_one (ds_set 6 sc.nd (dx_tup (dxa_cons (dx_ix (dx_var 4 (pv 4)) dx_int) (dxa_cons dx_int dxa_nil))))) (dss_cons (ds_set 7 sc.nd (dx_add (dx_mul (dx_mul (dx_ix (dx_var 3 (pv 3)) dx_int) (dx_var 5 (pv 5))) (dx_ix (dx_var 1 (pv 1)) dx_int)) (dx_mul (dx_sub (dx_ix (dx_var 1 (pv 1)) dx_int) (dx_mul (dx_ix (dx_var 3 (pv 3)) dx_int) (dx_ix (dx_var 1 (pv 1)) dx_int))) (dx_sub (dx_ix (dx_var 4 (pv 4)) dx_int) (dx_ix (dx_var 3 (pv 3)) dx_int)))))
  (dss_one (ds_set 6 sc.nd (dx_fn (ok_lowest T) (hr.mono (by decide)) T.m_lowest T.F_lowest.kp T.b_lowest tk (dxa_cons (dx_var 7 (pv 7)) (dxa_cons (dx_mul (dx_var 5 (pv 5)) (dx_ix (dx_var 1 (pv 1)) dx_int)) dxa_nil)))))))
  (dss_one (ds_set 2 sc.nd (dx_if (dxt_val (dx_fn (ok_less T) (hr.mono (by decide)) T.m_less T.F_less.kp T.b_less tk (dxa_cons (dx_var 2 (pv 2)) (dxa_cons (dx_var 6 (pv 6)) dxa_nil)))) (dx_var 6 (pv 6)) (dx_var 2 (pv 2))))))) dss_nil)))
  (dss_one (ds_ret (dx_var 2 (pv 2))))))⟩
theorem sc_waste : FnScope N_waste ["things"] (defScope s_waste) := ⟨rfl, rfl, rfl, by decide +kernel, rfl, by decide +kernel, by decide +kernel⟩
theorem ok_waste (T : Txt K mg) : FnOk P w K mg base (L2.CX P w) 5 T.f_waste T.fd_waste ["things"] (spD T.cl 1 sem_waste) := by
  refine fn_pure (cl := T.cl) (k := 4) (m := 1) T.F_waste sc_waste rfl fun cdv A outer s H E hr => ?_
  have sc := sc_waste
  have hu : _ + 65 < cLine := hu65 hr
  have tk := takesE (cl := T.cl) (takes_of (X := cxOf (L2.CX P w) P w K mg base N_waste "waste" (defScope s_waste) T.f_waste cdv A outer s H E) rfl rfl rfl rfl)
  have po := passes_of (X := cxOf (L2.CX P w) P w K mg base N_waste "waste" (defScope s_waste) T.f_waste cdv A outer s H E) rfl
  exact ⟨_, (dss_cons (ds_expr (dx_fn (ok_check_things T) (hr.mono (by decide)) T.m_check_things T.F_check_things.kp T.b_check_things tk (dxa_cons (dx_var 0 (pv 0)) dxa_nil)))
  (dss_cons (ds_set 1 sc.nd (dx_fn (ok_points_of T) (hr.mono (by decide)) T.m_points_of T.F_points_of.kp T.b_points_of tk (dxa_cons (dx_var 0 (pv 0)) dxa_nil)))
  (dss_one (ds_ret (dx_sub (dx_fn (ok_double_area T) (hr.mono (by decide)) T.m_double_area T.F_double_area.kp T.b_double_area tk (dxa_cons (dx_fn (ok_corners_of T) (hr.mono (by decide)) T.m_corners_of T.F_corners_of.kp T.b_corners_of tk (dxa_cons (dx_var 1 (pv 1)) dxa_nil)) dxa_nil)) (dx_fn (ok_double_area T) (hr.mono (by decide)) T.m_double_area T.F_double_area.kp T.b_double_area tk (dxa_cons (dx_var 1 (pv 1)) dxa_nil)))))))⟩
theorem sc_is_bent : FnScope N_is_bent ["things"] (defScope s_is_bent) := ⟨rfl, rfl, rfl, by decide +kernel, rfl, by decide +kernel, by decide +kernel⟩
theorem ok_is_bent (T : Txt K mg) : FnOk P w K mg base (L2.CX P w) 5 T.f_is_bent T.fd_is_bent ["things"] (spD T.cl 1 sem_is_bent) := by
  refine fn_pure (cl := T.cl) (k := 4) (m := 1) T.F_is_bent sc_is_bent rfl fun cdv A outer s H E hr => ?_
  have sc := sc_is_bent
  have hu : _ + 65 < cLine := hu65 hr
  have tk := takesE (cl := T.cl) (takes_of (X := cxOf (L2.CX P w) P w K mg base N_is_bent "is_bent" (defScope s_is_bent) T.f_is_bent cdv A outer s H E) rfl rfl rfl rfl)
  have po := passes_of (X := cxOf (L2.CX P w) P w K mg base N_is_bent "is_bent" (defScope s_is_bent) T.f_is_bent cdv A outer s H E) rfl
  exact ⟨_, (dss_cons (ds_expr (dx_fn (ok_check_things T) (hr.mono (by decide)) T.m_check_things T.F_check_things.kp T.b_check_things tk (dxa_cons (dx_var 0 (pv 0)) dxa_nil)))
  (dss_cons (ds_set 1 sc.nd (dx_fn (ok_points_of T) (hr.mono (by decide)) T.m_points_of T.F_points_of.kp T.b_points_of tk (dxa_cons (dx_var 0 (pv 0)) dxa_nil)))
  (dss_one (ds_ret (dx_cmp (cm_eq (Nat.lt_of_succ_lt hu)) (dx_fn (ok_double_area T) (hr.mono (by decide)) T.m_double_area T.F_double_area.kp T.b_double_area tk (dxa_cons (dx_fn (ok_corners_of T) (hr.mono (by decide)) T.m_corners_of T.F_corners_of.kp T.b_corners_of tk (dxa_cons (dx_var 1 (pv 1)) dxa_nil)) dxa_nil)) (dx_fn (ok_double_area T) (hr.mono (by decide)) T.m_double_area T.F_double_area.kp T.b_double_area tk (dxa_cons (dx_var 1 (pv 1)) dxa_nil)))))))⟩
theorem sc_cost_of : FnScope N_cost_of ["things", "threshold", "false_cost", "miss_cost"] (defScope s_cost_of) := ⟨rfl, rfl, rfl, by decide +kernel, rfl, by decide +kernel, by decide +kernel⟩
theorem ok_cost_of (T : Txt K mg) : FnOk P w K mg base (L2.CX P w) 2 T.f_cost_of T.fd_cost_of ["things", "threshold", "false_cost", "miss_cost"] (spD T.cl 4 sem_cost_of) := by
  refine fn_pure (cl := T.cl) (k := 1) (m := 2) T.F_cost_of sc_cost_of rfl fun cdv A outer s H E hr => ?_
  have sc := sc_cost_of
  have hu : _ + 65 < cLine := hu65 hr
  have tk := takesE (cl := T.cl) (takes_of (X := cxOf (L2.CX P w) P w K mg base N_cost_of "cost_of" (defScope s_cost_of) T.f_cost_of cdv A outer s H E) rfl rfl rfl rfl)
  have po := passes_of (X := cxOf (L2.CX P w) P w K mg base N_cost_of "cost_of" (defScope s_cost_of) T.f_cost_of cdv A outer s H E) rfl
  exact ⟨_, (dss_cons (ds_asg (dx_fn (ok_counts T) (hr.mono (by decide)) T.m_counts T.F_counts.kp T.b_counts tk (dxa_cons (dx_var 0 (pv 0)) (dxa_cons (dx_var 1 (pv 1)) dxa_nil))) (dg_tup rfl (dgs_cons (dg_name 4 sc.nd) (dgs_cons (dg_name 5 sc.nd) dgs_nil))))
  (dss_one (ds_ret (dx_add (dx_mul (dx_var 2 (pv 2)) (dx_var 4 (pv 4))) (dx_mul (dx_var 3 (pv 3)) (dx_sub (dx_ix (dx_fn (ok_counts T) (hr.mono (by decide)) T.m_counts T.F_counts.kp T.b_counts tk (dxa_cons (dx_var 0 (pv 0)) (dxa_cons dx_int dxa_nil))) dx_int) (dx_var 5 (pv 5))))))))⟩
theorem sc_check_costs : FnScope N_check_costs ["false_cost", "miss_cost"] (defScope s_check_costs) := ⟨rfl, rfl, rfl, by decide +kernel, rfl, by decide +kernel, by decide +kernel⟩
theorem ok_check_costs (T : Txt K mg) : FnOk P w K mg base (L2.CX P w) 3 T.f_check_costs T.fd_check_costs ["false_cost", "miss_cost"] (spD T.cl 2 sem_check_costs) := by
  refine fn_pure (cl := T.cl) (k := 2) (m := 0) T.F_check_costs sc_check_costs rfl fun cdv A outer s H E hr => ?_
  have sc := sc_check_costs
  have hu : _ + 65 < cLine := hu65 hr
  have tk := takesE (cl := T.cl) (takes_of (X := cxOf (L2.CX P w) P w K mg base N_check_costs "check_costs" (defScope s_check_costs) T.f_check_costs cdv A outer s H E) rfl rfl rfl rfl)
  have po := passes_of (X := cxOf (L2.CX P w) P w K mg base N_check_costs "check_costs" (defScope s_check_costs) T.f_check_costs cdv A outer s H E) rfl
  exact ⟨_, (dss_cons (ds_expr (dx_fn (ok_check_cost T) (hr.mono (by decide)) T.m_check_cost T.F_check_cost.kp T.b_check_cost tk (dxa_cons (dx_var 0 (pv 0)) dxa_nil)))
  (dss_one (ds_expr (dx_fn (ok_check_cost T) (hr.mono (by decide)) T.m_check_cost T.F_check_cost.kp T.b_check_cost tk (dxa_cons (dx_var 1 (pv 1)) dxa_nil)))))⟩
theorem sc_cost_at : FnScope N_cost_at ["things", "threshold", "false_cost", "miss_cost"] (defScope s_cost_at) := ⟨rfl, rfl, rfl, by decide +kernel, rfl, by decide +kernel, by decide +kernel⟩
theorem ok_cost_at (T : Txt K mg) : FnOk P w K mg base (L2.CX P w) 5 T.f_cost_at T.fd_cost_at ["things", "threshold", "false_cost", "miss_cost"] (spD T.cl 4 sem_cost_at) := by
  refine fn_pure (cl := T.cl) (k := 4) (m := 0) T.F_cost_at sc_cost_at rfl fun cdv A outer s H E hr => ?_
  have sc := sc_cost_at
  have hu : _ + 65 < cLine := hu65 hr
  have tk := takesE (cl := T.cl) (takes_of (X := cxOf (L2.CX P w) P w K mg base N_cost_at "cost_at" (defScope s_cost_at) T.f_cost_at cdv A outer s H E) rfl rfl rfl rfl)
  have po := passes_of (X := cxOf (L2.CX P w) P w K mg base N_cost_at "cost_at" (defScope s_cost_at) T.f_cost_at cdv A outer s H E) rfl
  exact ⟨_, (dss_cons (ds_expr (dx_fn (ok_check_things T) (hr.mono (by decide)) T.m_check_things T.F_check_things.kp T.b_check_things tk (dxa_cons (dx_var 0 (pv 0)) dxa_nil)))
  (dss_cons (ds_expr (dx_fn (ok_check_threshold T) (hr.mono (by decide)) T.m_check_threshold T.F_check_threshold.kp T.b_check_threshold tk (dxa_cons (dx_var 1 (pv 1)) dxa_nil)))
  (dss_cons (ds_expr (dx_fn (ok_check_costs T) (hr.mono (by decide)) T.m_check_costs T.F_check_costs.kp T.b_check_costs tk (dxa_cons (dx_var 2 (pv 2)) (dxa_cons (dx_var 3 (pv 3)) dxa_nil))))
  (dss_one (ds_ret (dx_fn (ok_cost_of T) (hr.mono (by decide)) T.m_cost_of T.F_cost_of.kp T.b_cost_of tk (dxa_cons (dx_var 0 (pv 0)) (dxa_cons (dx_var 1 (pv 1)) (dxa_cons (dx_var 2 (pv 2)) (dxa_cons (dx_var 3 (pv 3)) dxa_nil))))))))))⟩
theorem sc_least_cost : FnScope N_least_cost ["things", "false_cost", "miss_cost"] (defScope s_least_cost) := ⟨rfl, rfl, rfl, by decide +kernel, rfl, by decide +kernel, by decide +kernel⟩
theorem ok_least_cost (T : Txt K mg) : FnOk P w K mg base (L2.CX P w) 5 T.f_least_cost T.fd_least_cost ["things", "false_cost", "miss_cost"] (spD T.cl 3 sem_least_cost) := by
  refine fn_pure (cl := T.cl) (k := 4) (m := 1) T.F_least_cost sc_least_cost rfl fun cdv A outer s H E hr => ?_
  have sc := sc_least_cost
  have hu : _ + 65 < cLine := hu65 hr
  have tk := takesE (cl := T.cl) (takes_of (X := cxOf (L2.CX P w) P w K mg base N_least_cost "least_cost" (defScope s_least_cost) T.f_least_cost cdv A outer s H E) rfl rfl rfl rfl)
  have po := passes_of (X := cxOf (L2.CX P w) P w K mg base N_least_cost "least_cost" (defScope s_least_cost) T.f_least_cost cdv A outer s H E) rfl
  exact ⟨_, (dss_cons (ds_expr (dx_fn (ok_check_things T) (hr.mono (by decide)) T.m_check_things T.F_check_things.kp T.b_check_things tk (dxa_cons (dx_var 0 (pv 0)) dxa_nil)))
  (dss_cons (ds_expr (dx_fn (ok_check_costs T) (hr.mono (by decide)) T.m_check_costs T.F_check_costs.kp T.b_check_costs tk (dxa_cons (dx_var 1 (pv 1)) (dxa_cons (dx_var 2 (pv 2)) dxa_nil))))
  (dss_one (ds_ret (dx_callB (cr_minE rfl) sa_min rfl T.n_min (by decide +kernel) (dxa_cons (dx_new (dxf_lc0 (own := [("threshold", 3)]) rfl sc.nd (di_list (dx_fn (ok_thresholds_of T) (hr.mono (by decide)) T.m_thresholds_of T.F_thresholds_of.kp T.b_thresholds_of tk (dxa_cons (dx_var 0 (pv 0)) dxa_nil))) (blkOk_by (N := N_least_cost) (sc := defScope s_least_cost) (by decide +kernel)) (fun _ _ _ _ _ => (dg_name 3 sc.nd)) (fun _ _ _ _ _ => (dx_fn (ok_cost_of T) (hr.mono (by decide)) T.m_cost_of T.F_cost_of.kp T.b_cost_of takesN (dxa_cons (dx_var 0 (pv 0)) (dxa_cons (dx_var 3 (pv 3)) (dxa_cons (dx_var 1 (pv 1)) (dxa_cons (dx_var 2 (pv 2)) dxa_nil)))))))) dxa_nil))))))⟩
theorem sc_best_points : FnScope N_best_points ["things", "false_cost", "miss_cost"] (defScope s_best_points) := ⟨rfl, rfl, rfl, by decide +kernel, rfl, by decide +kernel, by decide +kernel⟩
theorem ok_best_points (T : Txt K mg) : FnOk P w K mg base (L2.CX P w) 5 T.f_best_points T.fd_best_points ["things", "false_cost", "miss_cost"] (spD T.cl 3 sem_best_points) := by
  refine fn_pure (cl := T.cl) (k := 4) (m := 7) T.F_best_points sc_best_points rfl fun cdv A outer s H E hr => ?_
  have sc := sc_best_points
  have hu : _ + 65 < cLine := hu65 hr
  have tk := takesE (cl := T.cl) (takes_of (X := cxOf (L2.CX P w) P w K mg base N_best_points "best_points" (defScope s_best_points) T.f_best_points cdv A outer s H E) rfl rfl rfl rfl)
  have po := passes_of (X := cxOf (L2.CX P w) P w K mg base N_best_points "best_points" (defScope s_best_points) T.f_best_points cdv A outer s H E) rfl
  exact ⟨_, (dss_cons (ds_expr (dx_fn (ok_check_things T) (hr.mono (by decide)) T.m_check_things T.F_check_things.kp T.b_check_things tk (dxa_cons (dx_var 0 (pv 0)) dxa_nil)))
  (dss_cons (ds_expr (dx_fn (ok_check_costs T) (hr.mono (by decide)) T.m_check_costs T.F_check_costs.kp T.b_check_costs tk (dxa_cons (dx_var 1 (pv 1)) (dxa_cons (dx_var 2 (pv 2)) dxa_nil))))
  (dss_cons (ds_set 3 sc.nd (dx_ix (dx_fn (ok_counts T) (hr.mono (by decide)) T.m_counts T.F_counts.kp T.b_counts tk (dxa_cons (dx_var 0 (pv 0)) (dxa_cons dx_int dxa_nil))) dx_int))
  (dss_cons (ds_set 4 sc.nd (dx_fn (ok_points_of T) (hr.mono (by decide)) T.m_points_of T.F_points_of.kp T.b_points_of tk (dxa_cons (dx_var 0 (pv 0)) dxa_nil)))
  (dss_cons (ds_set 5 sc.nd (dx_new (dxf_lc0 (own := [("x", 6), ("y", 7)]) rfl sc.nd (di_list (dx_var 4 (pv 4))) (blkOk_by (N := N_best_points) (sc := defScope s_best_points) (by decide +kernel)) (fun _ _ _ _ _ => (dg_tup rfl (dgs_cons (dg_name 6 sc.nd) (dgs_cons (dg_name 7 sc.nd) dgs_nil)))) (fun _ _ _ _ _ => (dx_add (dx_mul (dx_var 1 (pv 1)) (dx_var 6 (pv 6))) (dx_mul (dx_var 2 (pv 2)) (dx_sub (dx_var 3 (pv 3)) (dx_var 7 (pv 7)))))))))
  (dss_one (ds_ret (dx_new (dxf_lc1 (own := [("point", 8), ("cost", 9)]) rfl sc.nd (di_zip T.n_zip (dxa_cons (dx_var 4 (pv 4)) (dxa_cons (dx_var 5 (pv 5)) dxa_nil))) (blkOk_by (N := N_best_points) (sc := defScope s_best_points) (by decide +kernel)) (fun _ _ _ _ _ => (dg_tup rfl (dgs_cons (dg_name 8 sc.nd) (dgs_cons (dg_name 9 sc.nd) dgs_nil)))) (fun _ _ _ _ _ => (dxt_cmp (cm_eq (Nat.lt_of_succ_lt hu)) (dx_var 9 (pv 9)) (dx_callB (cr_minE rfl) sa_min rfl T.n_min (by decide +kernel) (dxa_cons (dx_var 5 (pv 5)) dxa_nil)))) (fun _ _ _ _ _ => (dx_var 8 (pv 8))))))))))))⟩
theorem sc_best_thresholds : FnScope N_best_thresholds ["things", "false_cost", "miss_cost"] (defScope s_best_thresholds) := ⟨rfl, rfl, rfl, by decide +kernel, rfl, by decide +kernel, by decide +kernel⟩
theorem ok_best_thresholds (T : Txt K mg) : FnOk P w K mg base (L2.CX P w) 5 T.f_best_thresholds T.fd_best_thresholds ["things", "false_cost", "miss_cost"] (spD T.cl 3 sem_best_thresholds) := by
  refine fn_pure (cl := T.cl) (k := 4) (m := 2) T.F_best_thresholds sc_best_thresholds rfl fun cdv A outer s H E hr => ?_
  have sc := sc_best_thresholds
  have hu : _ + 65 < cLine := hu65 hr
  have tk := takesE (cl := T.cl) (takes_of (X := cxOf (L2.CX P w) P w K mg base N_best_thresholds "best_thresholds" (defScope s_best_thresholds) T.f_best_thresholds cdv A outer s H E) rfl rfl rfl rfl)
  have po := passes_of (X := cxOf (L2.CX P w) P w K mg base N_best_thresholds "best_thresholds" (defScope s_best_thresholds) T.f_best_thresholds cdv A outer s H E) rfl
  exact ⟨_, (dss_cons (ds_expr (dx_fn (ok_check_things T) (hr.mono (by decide)) T.m_check_things T.F_check_things.kp T.b_check_things tk (dxa_cons (dx_var 0 (pv 0)) dxa_nil)))
  (dss_cons (ds_expr (dx_fn (ok_check_costs T) (hr.mono (by decide)) T.m_check_costs T.F_check_costs.kp T.b_check_costs tk (dxa_cons (dx_var 1 (pv 1)) (dxa_cons (dx_var 2 (pv 2)) dxa_nil))))
  (dss_cons (ds_set 3 sc.nd (dx_new (dxf_lc0 (own := [("threshold", 4)]) rfl sc.nd (di_range1 T.n_range (dxa_cons dx_int dxa_nil)) (blkOk_by (N := N_best_thresholds) (sc := defScope s_best_thresholds) (by decide +kernel)) (fun _ _ _ _ _ => (dg_name 4 sc.nd)) (fun _ _ _ _ _ => (dx_fn (ok_cost_of T) (hr.mono (by decide)) T.m_cost_of T.F_cost_of.kp T.b_cost_of takesN (dxa_cons (dx_var 0 (pv 0)) (dxa_cons (dx_var 4 (pv 4)) (dxa_cons (dx_var 1 (pv 1)) (dxa_cons (dx_var 2 (pv 2)) dxa_nil)))))))))
  (dss_one (ds_ret (dx_new (dxf_lc1 (own := [("threshold", 4)]) rfl sc.nd (di_range1 T.n_range (dxa_cons dx_int dxa_nil)) (blkOk_by (N := N_best_thresholds) (sc := defScope s_best_thresholds) (by decide +kernel)) (fun _ _ _ _ _ => (dg_name 4 sc.nd)) (fun _ _ _ _ _ => (dxt_cmp (cm_eq (Nat.lt_of_succ_lt hu)) (dx_ix (dx_var 3 (pv 3)) (dx_var 4 (pv 4))) (dx_callB (cr_minE rfl) sa_min rfl T.n_min (by decide +kernel) (dxa_cons (dx_var 3 (pv 3)) dxa_nil)))) (fun _ _ _ _ _ => (dx_var 4 (pv 4))))))))))⟩
theorem sc_cost_ranges : FnScope N_cost_ranges ["things"] (defScope s_cost_ranges) := ⟨rfl, rfl, rfl, by decide +kernel, rfl, by decide +kernel, by decide +kernel⟩
theorem ok_cost_ranges (T : Txt K mg) : FnOk P w K mg base (L2.CX P w) 5 T.f_cost_ranges T.fd_cost_ranges ["things"] (spD T.cl 1 sem_cost_ranges) := by
  refine fn_pure (cl := T.cl) (k := 4) (m := 7) T.F_cost_ranges sc_cost_ranges rfl fun cdv A outer s H E hr => ?_
  have sc := sc_cost_ranges
  have hu : _ + 65 < cLine := hu65 hr
  have tk := takesE (cl := T.cl) (takes_of (X := cxOf (L2.CX P w) P w K mg base N_cost_ranges "cost_ranges" (defScope s_cost_ranges) T.f_cost_ranges cdv A outer s H E) rfl rfl rfl rfl)
  have po := passes_of (X := cxOf (L2.CX P w) P w K mg base N_cost_ranges "cost_ranges" (defScope s_cost_ranges) T.f_cost_ranges cdv A outer s H E) rfl
  exact ⟨_, (dss_cons (ds_expr (dx_fn (ok_check_things T) (hr.mono (by decide)) T.m_check_things T.F_check_things.kp T.b_check_things tk (dxa_cons (dx_var 0 (pv 0)) dxa_nil)))
  (dss_cons (ds_set 1 sc.nd (dx_fn (ok_corners_of T) (hr.mono (by decide)) T.m_corners_of T.F_corners_of.kp T.b_corners_of tk (dxa_cons (dx_fn (ok_points_of T) (hr.mono (by decide)) T.m_points_of T.F_points_of.kp T.b_points_of tk (dxa_cons (dx_var 0 (pv 0)) dxa_nil)) dxa_nil)))
  (dss_cons (ds_setLc0 (own := [("a", 6), ("b", 7)]) 2 rfl sc.nd (di_zip T.n_zip (dxa_cons (dx_var 1 (pv 1)) (dxa_cons (dx_sl (dx_var 1 (pv 1)) (dxo_some dx_int) dxo_none) dxa_nil))) (blkOk_by (N := N_cost_ranges) (sc := defScope s_cost_ranges) (by decide +kernel)) (fun _ _ _ _ _ => (dg_tup rfl (dgs_cons (dg_name 6 sc.nd) (dgs_cons (dg_name 7 sc.nd) dgs_nil)))) (fun _ _ _ _ _ => (dx_tup (dxa_cons (dx_sub (dx_ix (dx_var 7 (pv 7)) dx_int) (dx_ix (dx_var 6 (pv 6)) dx_int)) (dxa_cons (dx_sub (dx_ix (dx_var 7 (pv 7)) dx_int) (dx_ix (dx_var 6 (pv 6)) dx_int)) dxa_nil)))))
  (dss_cons (ds_setM 3 sc.nd (dxf_lst dxa_nil))
  (dss_cons (ds_for po rfl (di_enum T.n_enumerate (dxa_cons (dx_var 1 (pv 1)) dxa_nil)) (dg_tup rfl (dgs_cons (dg_name 4 sc.nd) (dgs_cons (dg_name 5 sc.nd) dgs_nil))) (dss_one (ds_appM 3 (pv 3) (dx_tup (dxa_cons (dx_var 5 (pv 5)) (dxa_cons (dx_if (dxt_cmp cm_gt (dx_var 4 (pv 4)) dx_int) (dx_ix (dx_var 2 (pv 2)) (dx_sub (dx_var 4 (pv 4)) dx_int)) dx_non) (dxa_cons (dx_if (dxt_cmp cm_lt (dx_var 4 (pv 4)) (dx_callB cr_len sa_len rfl T.n_len PySem.boot_len (dxa_cons (dx_var 2 (pv 2)) dxa_nil))) (dx_ix (dx_var 2 (pv 2)) (dx_var 4 (pv 4))) dx_non) dxa_nil)))))))
  (dss_frz [3] (dss_one (ds_ret (dx_var 3 (pv 3))))))))))⟩
theorem sc_is_ever_best : FnScope N_is_ever_best ["things", "point"] (defScope s_is_ever_best) := ⟨rfl, rfl, rfl, by decide +kernel, rfl, by decide +kernel, by decide +kernel⟩
theorem ok_is_ever_best (T : Txt K mg) : FnOk P w K mg base (L2.CX P w) 5 T.f_is_ever_best T.fd_is_ever_best ["things", "point"] (spD T.cl 2 sem_is_ever_best) := by
  refine fn_pure (cl := T.cl) (k := 4) (m := 3) T.F_is_ever_best sc_is_ever_best rfl fun cdv A outer s H E hr => ?_
  have sc := sc_is_ever_best
  have hu : _ + 65 < cLine := hu65 hr
  have tk := takesE (cl := T.cl) (takes_of (X := cxOf (L2.CX P w) P w K mg base N_is_ever_best "is_ever_best" (defScope s_is_ever_best) T.f_is_ever_best cdv A outer s H E) rfl rfl rfl rfl)
  have po := passes_of (X := cxOf (L2.CX P w) P w K mg base N_is_ever_best "is_ever_best" (defScope s_is_ever_best) T.f_is_ever_best cdv A outer s H E) rfl
  exact ⟨_, (dss_cons (ds_expr (dx_fn (ok_check_things T) (hr.mono (by decide)) T.m_check_things T.F_check_things.kp T.b_check_things tk (dxa_cons (dx_var 0 (pv 0)) dxa_nil)))
  (dss_cons (ds_set 2 sc.nd (dx_fn (ok_points_of T) (hr.mono (by decide)) T.m_points_of T.F_points_of.kp T.b_points_of tk (dxa_cons (dx_var 0 (pv 0)) dxa_nil)))
  (dss_cons (ds_if (DXW.t (dxw_or (dxt_not (dxt_val (dx_isi isi_tuple T.n_isinstance T.n_tuple (dx_var 1 (pv 1))))) (dxw_or1 (dxt_cmp (cm_notin hu) (dx_var 1 (pv 1)) (dx_var 2 (pv 2)))))) (dss_one (ds_raise 4 rfl tk PySem.F.excBase_ValueError T.x_NotFound T.g_NotFound T.k_NotFound (raises_own T.e_NotFound T.t_NotFound))) dss_nil)
  (dss_cons (ds_for po rfl (di_list (dx_var 2 (pv 2))) (dg_name 3 sc.nd) (dss_cons (ds_if (DXW.t (dxw_and (dxt_cmp (cm_ne (Nat.lt_of_succ_lt hu)) (dx_var 3 (pv 3)) (dx_var 1 (pv 1))) (dxw_and (dxt_cmp cm_le (dx_ix (dx_var 3 (pv 3)) dx_int) (dx_ix (dx_var 1 (pv 1)) dx_int)) (dxw_and1 (dxt_cmp cm_ge (dx_ix (dx_var 3 (pv 3)) dx_int) (dx_ix (dx_var 1 (pv 1)) dx_int)))))) (dss_one (ds_ret dx_bl)) dss_nil)
  (dss_one (ds_for po rfl (di_list (dx_var 2 (pv 2))) (dg_name 4 sc.nd) (dss_one (ds_if (DXW.t (dxw_and (dxt_chain cm_lt cm_lt (dx_ix (dx_var 3 (pv 3)) dx_int) (dx_ix (dx_var 1 (pv 1)) dx_int) (dx_ix (dx_var 4 (pv 4)) dx_int)) (dxw_and1 (dxt_cmp cm_gt (dx_fn (ok_way_turn T) (hr.mono (by decide)) T.m_way_turn T.F_way_turn.kp T.b_way_turn tk (dxa_cons (dx_var 3 (pv 3)) (dxa_cons (dx_var 1 (pv 1)) (dxa_cons (dx_var 4 (pv 4)) dxa_nil)))) dx_int)))) (dss_one (ds_ret dx_bl)) dss_nil))))))
  (dss_one (ds_ret dx_bl))))))⟩
theorem sc_miss_cost_for : FnScope N_miss_cost_for ["things", "false_cost", "limit"] (defScope s_miss_cost_for) := ⟨rfl, rfl, rfl, by decide +kernel, rfl, by decide +kernel, by decide +kernel⟩
theorem ok_miss_cost_for (T : Txt K mg) : FnOk P w K mg base (L2.CX P w) 5 T.f_miss_cost_for T.fd_miss_cost_for ["things", "false_cost", "limit"] (spD T.cl 3 sem_miss_cost_for) := by
  refine fn_pure (cl := T.cl) (k := 4) (m := 7) T.F_miss_cost_for sc_miss_cost_for rfl fun cdv A outer s H E hr => ?_
  have sc := sc_miss_cost_for
  have hu : _ + 65 < cLine := hu65 hr
  have tk := takesE (cl := T.cl) (takes_of (X := cxOf (L2.CX P w) P w K mg base N_miss_cost_for "miss_cost_for" (defScope s_miss_cost_for) T.f_miss_cost_for cdv A outer s H E) rfl rfl rfl rfl)
  have po := passes_of (X := cxOf (L2.CX P w) P w K mg base N_miss_cost_for "miss_cost_for" (defScope s_miss_cost_for) T.f_miss_cost_for cdv A outer s H E) rfl
  exact ⟨_, (dss_cons (ds_expr (dx_fn (ok_check_things T) (hr.mono (by decide)) T.m_check_things T.F_check_things.kp T.b_check_things tk (dxa_cons (dx_var 0 (pv 0)) dxa_nil)))
  (dss_cons (ds_expr (dx_fn (ok_check_cost T) (hr.mono (by decide)) T.m_check_cost T.F_check_cost.kp T.b_check_cost tk (dxa_cons (dx_var 1 (pv 1)) dxa_nil)))
  (dss_cons (ds_if (dxt_not (dxt_val (dx_fn (ok_is_int T) (hr.mono (by decide)) T.m_is_int T.F_is_int.kp T.b_is_int tk (dxa_cons (dx_var 2 (pv 2)) (dxa_cons dx_int (dxa_cons dx_int dxa_nil)))))) (dss_one (ds_raise 1 rfl tk PySem.F.excBase_ValueError T.x_BadNumber T.g_BadNumber T.k_BadNumber (raises_own T.e_BadNumber T.t_BadNumber))) dss_nil)
  (dss_cons (ds_set 3 sc.nd (dx_ix (dx_fn (ok_counts T) (hr.mono (by decide)) T.m_counts T.F_counts.kp T.b_counts tk (dxa_cons (dx_var 0 (pv 0)) (dxa_cons dx_int dxa_nil))) dx_int))
  (dss_cons (ds_for po rfl (di_range1 T.n_range (dxa_cons (dx_add (dx_var 2 (pv 2)) dx_int) dxa_nil)) (dg_name 4 sc.nd) (dss_cons (ds_set 5 sc.nd (dx_fn (ok_points_of T) (hr.mono (by decide)) T.m_points_of T.F_points_of.kp T.b_points_of tk (dxa_cons (dx_var 0 (pv 0)) dxa_nil)))
  (dss_cons (ds_set 6 sc.nd (dx_new (dxf_lc0 (own := [("x", 7), ("y", 8)]) rfl sc.nd (di_list (dx_var 5 (pv 5))) (blkOk_by (N := N_miss_cost_for) (sc := defScope s_miss_cost_for) (by decide +kernel)) (fun _ _ _ _ _ => (dg_tup rfl (dgs_cons (dg_name 7 sc.nd) (dgs_cons (dg_name 8 sc.nd) dgs_nil)))) (fun _ _ _ _ _ => (dx_add (dx_mul (dx_var 1 (pv 1)) (dx_var 7 (pv 7))) (dx_mul (dx_var 4 (pv 4)) (dx_sub (dx_var 3 (pv 3)) (dx_var 8 (pv 8)))))))))
  (dss_one (ds_if (dxt_cmp (cm_eq (Nat.lt_of_succ_lt hu)) (dx_callB (cr_maxE rfl) sa_max rfl T.n_max (by decide +kernel) (dxa_cons (dx_new (dxf_lc1 (own := [("cost", 9), ("x", 7), ("y", 8)]) rfl sc.nd (di_zip T.n_zip (dxa_cons (dx_var 5 (pv 5)) (dxa_cons (dx_var 6 (pv 6)) dxa_nil))) (blkOk_by (N := N_miss_cost_for) (sc := defScope s_miss_cost_for) (by decide +kernel)) (fun _ _ _ _ _ => (dg_tup rfl (dgs_cons (dg_tup rfl (dgs_cons (dg_name 7 sc.nd) (dgs_cons (dg_name 8 sc.nd) dgs_nil))) (dgs_cons (dg_name 9 sc.nd) dgs_nil)))) (fun _ _ _ _ _ => (dxt_cmp (cm_eq (Nat.lt_of_succ_lt hu)) (dx_var 9 (pv 9)) (dx_callB (cr_minE rfl) sa_min rfl T.n_min (by decide +kernel) (dxa_cons (dx_var 6 (pv 6)) dxa_nil)))) (fun _ _ _ _ _ => (dx_var 8 (pv 8))))) dxa_nil)) (dx_var 3 (pv 3))) (dss_one (ds_ret (dx_var 4 (pv 4)))) dss_nil)))))
  (dss_one (ds_ret dx_non)))))))⟩
theorem sc_check_share : FnScope N_check_share ["value"] (defScope s_check_share) := ⟨rfl, rfl, rfl, by decide +kernel, rfl, by decide +kernel, by decide +kernel⟩
theorem ok_check_share (T : Txt K mg) : FnOk P w K mg base (L2.CX P w) 2 T.f_check_share T.fd_check_share ["value"] (spD T.cl 1 sem_check_share) := by
  refine fn_pure (cl := T.cl) (k := 1) (m := 0) T.F_check_share sc_check_share rfl fun cdv A outer s H E hr => ?_
  have sc := sc_check_share
  have hu : _ + 65 < cLine := hu65 hr
  have tk := takesE (cl := T.cl) (takes_of (X := cxOf (L2.CX P w) P w K mg base N_check_share "check_share" (defScope s_check_share) T.f_check_share cdv A outer s H E) rfl rfl rfl rfl)
  have po := passes_of (X := cxOf (L2.CX P w) P w K mg base N_check_share "check_share" (defScope s_check_share) T.f_check_share cdv A outer s H E) rfl
  exact ⟨_, (dss_cons (ds_if (DXW.t (dxw_or (dxt_not (dxt_val (dx_isi isi_tuple T.n_isinstance T.n_tuple (dx_var 0 (pv 0))))) (dxw_or (dxt_cmp (cm_ne (Nat.lt_of_succ_lt hu)) (dx_callB cr_len sa_len rfl T.n_len PySem.boot_len (dxa_cons (dx_var 0 (pv 0)) dxa_nil)) dx_int) (dxw_or1 (dxt_not (dxt_val (dx_fn (ok_is_int T) (hr.mono (by decide)) T.m_is_int T.F_is_int.kp T.b_is_int tk (dxa_cons (dx_ix (dx_var 0 (pv 0)) dx_int) (dxa_cons dx_int (dxa_cons dx_int dxa_nil)))))))))) (dss_one (ds_raise 1 rfl tk PySem.F.excBase_ValueError T.x_BadNumber T.g_BadNumber T.k_BadNumber (raises_own T.e_BadNumber T.t_BadNumber))) dss_nil)
  (dss_one (ds_if (DXW.t (dxw_or (dxt_not (dxt_val (dx_fn (ok_is_int T) (hr.mono (by decide)) T.m_is_int T.F_is_int.kp T.b_is_int tk (dxa_cons (dx_ix (dx_var 0 (pv 0)) dx_int) (dxa_cons dx_int (dxa_cons (dx_ix (dx_var 0 (pv 0)) dx_int) dxa_nil)))))) (dxw_or1 (dxt_cmp (cm_ne (Nat.lt_of_succ_lt hu)) (dx_fn (ok_common T) (hr.mono (by decide)) T.m_common T.F_common.kp T.b_common tk (dxa_cons (dx_ix (dx_var 0 (pv 0)) dx_int) (dxa_cons (dx_ix (dx_var 0 (pv 0)) dx_int) dxa_nil))) dx_int)))) (dss_one (ds_raise 1 rfl tk PySem.F.excBase_ValueError T.x_BadNumber T.g_BadNumber T.k_BadNumber (raises_own T.e_BadNumber T.t_BadNumber))) dss_nil)))⟩
theorem sc_mean_point : FnScope N_mean_point ["one", "other", "share"] (defScope s_mean_point) := ⟨rfl, rfl, rfl, by decide +kernel, rfl, by decide +kernel, by decide +kernel⟩
theorem ok_mean_point (T : Txt K mg) : FnOk P w K mg base (L2.CX P w) 4 T.f_mean_point T.fd_mean_point ["one", "other", "share"] (spD T.cl 3 sem_mean_point) := by
  refine fn_pure (cl := T.cl) (k := 3) (m := 2) T.F_mean_point sc_mean_point rfl fun cdv A outer s H E hr => ?_
  have sc := sc_mean_point
  have hu : _ + 65 < cLine := hu65 hr
  have tk := takesE (cl := T.cl) (takes_of (X := cxOf (L2.CX P w) P w K mg base N_mean_point "mean_point" (defScope s_mean_point) T.f_mean_point cdv A outer s H E) rfl rfl rfl rfl)
  have po := passes_of (X := cxOf (L2.CX P w) P w K mg base N_mean_point "mean_point" (defScope s_mean_point) T.f_mean_point cdv A outer s H E) rfl
  exact ⟨_, (dss_cons (ds_set 3 sc.nd (dx_tup (dxa_cons (dx_sub (dx_ix (dx_var 2 (pv 2)) dx_int) (dx_ix (dx_var 2 (pv 2)) dx_int)) (dxa_cons (dx_ix (dx_var 2 (pv 2)) dx_int) dxa_nil))))
  (dss_one (ds_ret (dx_callT cr_tupleE sa_tuple rfl T.n_tuple PyProof.Rows.boot_tuple (dxa_cons (dx_new (dxf_lc0 (own := [("k", 4)]) rfl sc.nd (di_tup (dx_tup (dxa_cons dx_int (dxa_cons dx_int dxa_nil)))) (blkOk_by (N := N_mean_point) (sc := defScope s_mean_point) (by decide +kernel)) (fun _ _ _ _ _ => (dg_name 4 sc.nd)) (fun _ _ _ _ _ => (dx_fn (ok_plus T) (hr.mono (by decide)) T.m_plus T.F_plus.kp T.b_plus takesN (dxa_cons (dx_fn (ok_product T) (hr.mono (by decide)) T.m_product T.F_product.kp T.b_product takesN (dxa_cons (dx_tup (dxa_cons (dx_ix (dx_var 0 (pv 0)) (dx_var 4 (pv 4))) (dxa_cons dx_int dxa_nil))) (dxa_cons (dx_var 2 (pv 2)) dxa_nil))) (dxa_cons (dx_fn (ok_product T) (hr.mono (by decide)) T.m_product T.F_product.kp T.b_product takesN (dxa_cons (dx_tup (dxa_cons (dx_ix (dx_var 1 (pv 1)) (dx_var 4 (pv 4))) (dxa_cons dx_int dxa_nil))) (dxa_cons (dx_var 3 (pv 3)) dxa_nil))) dxa_nil)))))) dxa_nil)))))⟩
theorem sc_mixed_alarms : FnScope N_mixed_alarms ["things", "first", "second", "share"] (defScope s_mixed_alarms) := ⟨rfl, rfl, rfl, by decide +kernel, rfl, by decide +kernel, by decide +kernel⟩
theorem ok_mixed_alarms (T : Txt K mg) : FnOk P w K mg base (L2.CX P w) 5 T.f_mixed_alarms T.fd_mixed_alarms ["things", "first", "second", "share"] (spD T.cl 4 sem_mixed_alarms) := by
  refine fn_pure (cl := T.cl) (k := 4) (m := 0) T.F_mixed_alarms sc_mixed_alarms rfl fun cdv A outer s H E hr => ?_
  have sc := sc_mixed_alarms
  have hu : _ + 65 < cLine := hu65 hr
  have tk := takesE (cl := T.cl) (takes_of (X := cxOf (L2.CX P w) P w K mg base N_mixed_alarms "mixed_alarms" (defScope s_mixed_alarms) T.f_mixed_alarms cdv A outer s H E) rfl rfl rfl rfl)
  have po := passes_of (X := cxOf (L2.CX P w) P w K mg base N_mixed_alarms "mixed_alarms" (defScope s_mixed_alarms) T.f_mixed_alarms cdv A outer s H E) rfl
  exact ⟨_, (dss_cons (ds_expr (dx_fn (ok_check_things T) (hr.mono (by decide)) T.m_check_things T.F_check_things.kp T.b_check_things tk (dxa_cons (dx_var 0 (pv 0)) dxa_nil)))
  (dss_cons (ds_if (DXW.t (dxw_or (dxt_not (dxt_val (dx_fn (ok_is_int T) (hr.mono (by decide)) T.m_is_int T.F_is_int.kp T.b_is_int tk (dxa_cons (dx_var 1 (pv 1)) (dxa_cons dx_int (dxa_cons dx_int dxa_nil)))))) (dxw_or1 (dxt_not (dxt_val (dx_fn (ok_is_int T) (hr.mono (by decide)) T.m_is_int T.F_is_int.kp T.b_is_int tk (dxa_cons (dx_var 2 (pv 2)) (dxa_cons dx_int (dxa_cons dx_int dxa_nil))))))))) (dss_one (ds_raise 1 rfl tk PySem.F.excBase_ValueError T.x_BadNumber T.g_BadNumber T.k_BadNumber (raises_own T.e_BadNumber T.t_BadNumber))) dss_nil)
  (dss_cons (ds_expr (dx_fn (ok_check_share T) (hr.mono (by decide)) T.m_check_share T.F_check_share.kp T.b_check_share tk (dxa_cons (dx_var 3 (pv 3)) dxa_nil)))
  (dss_one (ds_ret (dx_fn (ok_mean_point T) (hr.mono (by decide)) T.m_mean_point T.F_mean_point.kp T.b_mean_point tk (dxa_cons (dx_fn (ok_counts T) (hr.mono (by decide)) T.m_counts T.F_counts.kp T.b_counts tk (dxa_cons (dx_var 0 (pv 0)) (dxa_cons (dx_var 1 (pv 1)) dxa_nil))) (dxa_cons (dx_fn (ok_counts T) (hr.mono (by decide)) T.m_counts T.F_counts.kp T.b_counts tk (dxa_cons (dx_var 0 (pv 0)) (dxa_cons (dx_var 2 (pv 2)) dxa_nil))) (dxa_cons (dx_var 3 (pv 3)) dxa_nil)))))))))⟩
theorem sc_best_true : FnScope N_best_true ["things", "false"] (defScope s_best_true) := ⟨rfl, rfl, rfl, by decide +kernel, rfl, by decide +kernel, by decide +kernel⟩
theorem ok_best_true (T : Txt K mg) : FnOk P w K mg base (L2.CX P w) 5 T.f_best_true T.fd_best_true ["things", "false"] (spD T.cl 2 sem_best_true) := by
  refine fn_pure (cl := T.cl) (k := 4) (m := 0) T.F_best_true sc_best_true rfl fun cdv A outer s H E hr => ?_
  have sc := sc_best_true
  have hu : _ + 65 < cLine := hu65 hr
  have tk := takesE (cl := T.cl) (takes_of (X := cxOf (L2.CX P w) P w K mg base N_best_true "best_true" (defScope s_best_true) T.f_best_true cdv A outer s H E) rfl rfl rfl rfl)
  have po := passes_of (X := cxOf (L2.CX P w) P w K mg base N_best_true "best_true" (defScope s_best_true) T.f_best_true cdv A outer s H E) rfl
  exact ⟨_, (dss_cons (ds_expr (dx_fn (ok_check_things T) (hr.mono (by decide)) T.m_check_things T.F_check_things.kp T.b_check_things tk (dxa_cons (dx_var 0 (pv 0)) dxa_nil)))
  (dss_cons (ds_expr (dx_fn (ok_check_mean T) (hr.mono (by decide)) T.m_check_mean T.F_check_mean.kp T.b_check_mean tk (dxa_cons (dx_var 1 (pv 1)) (dxa_cons (dx_ix (dx_fn (ok_counts T) (hr.mono (by decide)) T.m_counts T.F_counts.kp T.b_counts tk (dxa_cons (dx_var 0 (pv 0)) (dxa_cons dx_int dxa_nil))) dx_int) dxa_nil))))
  (dss_one (ds_ret (dx_fn (ok_height_of T) (hr.mono (by decide)) T.m_height_of T.F_height_of.kp T.b_height_of tk (dxa_cons (dx_fn (ok_corners_of T) (hr.mono (by decide)) T.m_corners_of T.F_corners_of.kp T.b_corners_of tk (dxa_cons (dx_fn (ok_points_of T) (hr.mono (by decide)) T.m_points_of T.F_points_of.kp T.b_points_of tk (dxa_cons (dx_var 0 (pv 0)) dxa_nil)) dxa_nil)) (dxa_cons (dx_var 1 (pv 1)) dxa_nil)))))))⟩
theorem sc_threshold_of : FnScope N_threshold_of ["things", "point"] (defScope s_threshold_of) := ⟨rfl, rfl, rfl, by decide +kernel, rfl, by decide +kernel, by decide +kernel⟩
theorem ok_threshold_of (T : Txt K mg) : FnOk P w K mg base (L2.CX P w) 2 T.f_threshold_of T.fd_threshold_of ["things", "point"] (spD T.cl 2 sem_threshold_of) := by
  refine fn_pure (cl := T.cl) (k := 1) (m := 1) T.F_threshold_of sc_threshold_of rfl fun cdv A outer s H E hr => ?_
  have sc := sc_threshold_of
  have hu : _ + 65 < cLine := hu65 hr
  have tk := takesE (cl := T.cl) (takes_of (X := cxOf (L2.CX P w) P w K mg base N_threshold_of "threshold_of" (defScope s_threshold_of) T.f_threshold_of cdv A outer s H E) rfl rfl rfl rfl)
  have po := passes_of (X := cxOf (L2.CX P w) P w K mg base N_threshold_of "threshold_of" (defScope s_threshold_of) T.f_threshold_of cdv A outer s H E) rfl
  exact ⟨_, (dss_cons (ds_for po rfl (di_list (dx_add (dx_lst (dxa_cons dx_int dxa_nil)) (dx_fn (ok_scores_of T) (hr.mono (by decide)) T.m_scores_of T.F_scores_of.kp T.b_scores_of tk (dxa_cons (dx_var 0 (pv 0)) dxa_nil)))) (dg_name 2 sc.nd) (dss_one (ds_if (dxt_cmp (cm_eq (Nat.lt_of_succ_lt hu)) (dx_fn (ok_counts T) (hr.mono (by decide)) T.m_counts T.F_counts.kp T.b_counts tk (dxa_cons (dx_var 0 (pv 0)) (dxa_cons (dx_var 2 (pv 2)) dxa_nil))) (dx_var 1 (pv 1))) (dss_one (ds_ret (dx_var 2 (pv 2)))) dss_nil)))
  (dss_one (ds_ret dx_int)))⟩
theorem sc_best_mixture : FnScope N_best_mixture ["things", "false"] (defScope s_best_mixture) := ⟨rfl, rfl, rfl, by decide +kernel, rfl, by decide +kernel, by decide +kernel⟩
theorem ok_best_mixture (T : Txt K mg) : FnOk P w K mg base (L2.CX P w) 5 T.f_best_mixture T.fd_best_mixture ["things", "false"] (spD T.cl 2 sem_best_mixture) := by
  refine fn_pure (cl := T.cl) (k := 4) (m := 6) T.F_best_mixture sc_best_mixture rfl fun cdv A outer s H E hr => ?_
  have sc := sc_best_mixture
  have hu : _ + 65 < cLine := hu65 hr
  have tk := takesE (cl := T.cl) (takes_of (X := cxOf (L2.CX P w) P w K mg base N_best_mixture "best_mixture" (defScope s_best_mixture) T.f_best_mixture cdv A outer s H E) rfl rfl rfl rfl)
  have po := passes_of (X := cxOf (L2.CX P w) P w K mg base N_best_mixture "best_mixture" (defScope s_best_mixture) T.f_best_mixture cdv A outer s H E) rfl
  exact ⟨_, (dss_cons (ds_expr (dx_fn (ok_check_things T) (hr.mono (by decide)) T.m_check_things T.F_check_things.kp T.b_check_things tk (dxa_cons (dx_var 0 (pv 0)) dxa_nil)))
  (dss_cons (ds_expr (dx_fn (ok_check_mean T) (hr.mono (by decide)) T.m_check_mean T.F_check_mean.kp T.b_check_mean tk (dxa_cons (dx_var 1 (pv 1)) (dxa_cons (dx_ix (dx_fn (ok_counts T) (hr.mono (by decide)) T.m_counts T.F_counts.kp T.b_counts tk (dxa_cons (dx_var 0 (pv 0)) (dxa_cons dx_int dxa_nil))) dx_int) dxa_nil))))
  (dss_cons (ds_set 2 sc.nd (dx_fn (ok_corners_of T) (hr.mono (by decide)) T.m_corners_of T.F_corners_of.kp T.b_corners_of tk (dxa_cons (dx_fn (ok_points_of T) (hr.mono (by decide)) T.m_points_of T.F_points_of.kp T.b_points_of tk (dxa_cons (dx_var 0 (pv 0)) dxa_nil)) dxa_nil)))
  (dss_cons (ds_set 3 sc.nd (dx_fn (ok_height_of T) (hr.mono (by decide)) T.m_height_of T.F_height_of.kp T.b_height_of tk (dxa_cons (dx_var 2 (pv 2)) (dxa_cons (dx_var 1 (pv 1)) dxa_nil))))
  (dss_cons (ds_for po rfl (di_zip T.n_zip (dxa_cons (dx_var 2 (pv 2)) (dxa_cons (dx_sl (dx_var 2 (pv 2)) (dxo_some dx_int) dxo_none) dxa_nil))) (dg_tup rfl (dgs_cons (dg_name 4 sc.nd) (dgs_cons (dg_name 5 sc.nd) dgs_nil))) (dss_one (ds_if (dxt_chain cm_le cm_le (dx_mul (dx_ix (dx_var 4 (pv 4)) dx_int) (dx_ix (dx_var 1 (pv 1)) dx_int)) (dx_ix (dx_var 1 (pv 1)) dx_int) (dx_mul (dx_ix (dx_var 5 (pv 5)) dx_int) (dx_ix (dx_var 1 (pv 1)) dx_int))) (dss_cons (ds_set 6 sc.nd (dx_sub (dx_ix (dx_var 5 (pv 5)) dx_int) (dx_ix (dx_var 4 (pv 4)) dx_int)))
  (dss_cons (ds_set 7 sc.nd (dx_if (dxt_cmp (cm_eq (Nat.lt_of_succ_lt hu)) (dx_var 6 (pv 6)) dx_int) (dx_tup (dxa_cons dx_int (dxa_cons dx_int dxa_nil))) (dx_fn (ok_lowest T) (hr.mono (by decide)) T.m_lowest T.F_lowest.kp T.b_lowest tk (dxa_cons (dx_sub (dx_mul (dx_ix (dx_var 5 (pv 5)) dx_int) (dx_ix (dx_var 1 (pv 1)) dx_int)) (dx_ix (dx_var 1 (pv 1)) dx_int)) (dxa_cons (dx_mul (dx_var 6 (pv 6)) (dx_ix (dx_var 1 (pv 1)) dx_int)) dxa_nil)))))
  (dss_one (ds_if (dxt_cmp (cm_eq (Nat.lt_of_succ_lt hu)) (dx_ix (dx_fn (ok_mean_point T) (hr.mono (by decide)) T.m_mean_point T.F_mean_point.kp T.b_mean_point tk (dxa_cons (dx_var 4 (pv 4)) (dxa_cons (dx_var 5 (pv 5)) (dxa_cons (dx_var 7 (pv 7)) dxa_nil)))) dx_int) (dx_var 3 (pv 3))) (dss_one (ds_ret (dx_tup (dxa_cons (dx_fn (ok_threshold_of T) (hr.mono (by decide)) T.m_threshold_of T.F_threshold_of.kp T.b_threshold_of tk (dxa_cons (dx_var 0 (pv 0)) (dxa_cons (dx_var 4 (pv 4)) dxa_nil))) (dxa_cons (dx_fn (ok_threshold_of T) (hr.mono (by decide)) T.m_threshold_of T.F_threshold_of.kp T.b_threshold_of tk (dxa_cons (dx_var 0 (pv 0)) (dxa_cons (dx_var 5 (pv 5)) dxa_nil))) (dxa_cons (dx_var 7 (pv 7)) dxa_nil)))))) dss_nil)))) dss_nil)))
  (dss_one (ds_ret (dx_tup (dxa_cons dx_int (dxa_cons dx_int (dxa_cons (dx_tup (dxa_cons dx_int (dxa_cons dx_int dxa_nil))) dxa_nil)))))))))))⟩
theorem sc_gain : FnScope N_gain ["things", "false"] (defScope s_gain) := ⟨rfl, rfl, rfl, by decide +kernel, rfl, by decide +kernel, by decide +kernel⟩
theorem ok_gain (T : Txt K mg) : FnOk P w K mg base (L2.CX P w) 5 T.f_gain T.fd_gain ["things", "false"] (spD T.cl 2 sem_gain) := by
  refine fn_pure (cl := T.cl) (k := 4) (m := 4) T.F_gain sc_gain rfl fun cdv A outer s H E hr => ?_
  have sc := sc_gain
  have hu : _ + 65 < cLine := hu65 hr
  have tk := takesE (cl := T.cl) (takes_of (X := cxOf (L2.CX P w) P w K mg base N_gain "gain" (defScope s_gain) T.f_gain cdv A outer s H E) rfl rfl rfl rfl)
  have po := passes_of (X := cxOf (L2.CX P w) P w K mg base N_gain "gain" (defScope s_gain) T.f_gain cdv A outer s H E) rfl
  exact ⟨_, (dss_cons (ds_expr (dx_fn (ok_check_things T) (hr.mono (by decide)) T.m_check_things T.F_check_things.kp T.b_check_things tk (dxa_cons (dx_var 0 (pv 0)) dxa_nil)))
  (dss_cons (ds_expr (dx_fn (ok_check_mean T) (hr.mono (by decide)) T.m_check_mean T.F_check_mean.kp T.b_check_mean tk (dxa_cons (dx_var 1 (pv 1)) (dxa_cons (dx_ix (dx_fn (ok_counts T) (hr.mono (by decide)) T.m_counts T.F_counts.kp T.b_counts tk (dxa_cons (dx_var 0 (pv 0)) (dxa_cons dx_int dxa_nil))) dx_int) dxa_nil))))
  (dss_cons (ds_set 2 sc.nd (dx_fn (ok_height_of T) (hr.mono (by decide)) T.m_height_of T.F_height_of.kp T.b_height_of tk (dxa_cons (dx_fn (ok_corners_of T) (hr.mono (by decide)) T.m_corners_of T.F_corners_of.kp T.b_corners_of tk (dxa_cons (dx_fn (ok_points_of T) (hr.mono (by decide)) T.m_points_of T.F_points_of.kp T.b_points_of tk (dxa_cons (dx_var 0 (pv 0)) dxa_nil)) dxa_nil)) (dxa_cons (dx_var 1 (pv 1)) dxa_nil))))
  (dss_cons (ds_set 3 sc.nd (dx_callB (cr_maxE rfl) sa_max rfl T.n_max (by decide +kernel) (dxa_cons (dx_new (dxf_lc1 (own := [("x", 4), ("y", 5)]) rfl sc.nd (di_list (dx_fn (ok_points_of T) (hr.mono (by decide)) T.m_points_of T.F_points_of.kp T.b_points_of tk (dxa_cons (dx_var 0 (pv 0)) dxa_nil))) (blkOk_by (N := N_gain) (sc := defScope s_gain) (by decide +kernel)) (fun _ _ _ _ _ => (dg_tup rfl (dgs_cons (dg_name 4 sc.nd) (dgs_cons (dg_name 5 sc.nd) dgs_nil)))) (fun _ _ _ _ _ => (dxt_not (dxt_val (dx_fn (ok_less T) (hr.mono (by decide)) T.m_less T.F_less.kp T.b_less takesN (dxa_cons (dx_var 1 (pv 1)) (dxa_cons (dx_tup (dxa_cons (dx_var 4 (pv 4)) (dxa_cons dx_int dxa_nil))) dxa_nil)))))) (fun _ _ _ _ _ => (dx_var 5 (pv 5))))) dxa_nil)))
  (dss_one (ds_ret (dx_fn (ok_plus T) (hr.mono (by decide)) T.m_plus T.F_plus.kp T.b_plus tk (dxa_cons (dx_var 2 (pv 2)) (dxa_cons (dx_tup (dxa_cons (dx_neg (dx_var 3 (pv 3))) (dxa_cons dx_int dxa_nil))) dxa_nil)))))))))⟩
theorem sc_levels : FnScope N_levels ["things"] (defScope s_levels) := ⟨rfl, rfl, rfl, by decide +kernel, rfl, by decide +kernel, by decide +kernel⟩
theorem ok_levels (T : Txt K mg) : FnOk P w K mg base (L2.CX P w) 2 T.f_levels T.fd_levels ["things"] (spD T.cl 1 sem_levels) := by
  refine fn_pure (cl := T.cl) (k := 1) (m := 4) T.F_levels sc_levels rfl fun cdv A outer s H E hr => ?_
  have sc := sc_levels
  have hu : _ + 65 < cLine := hu65 hr
  have tk := takesE (cl := T.cl) (takes_of (X := cxOf (L2.CX P w) P w K mg base N_levels "levels" (defScope s_levels) T.f_levels cdv A outer s H E) rfl rfl rfl rfl)
  have po := passes_of (X := cxOf (L2.CX P w) P w K mg base N_levels "levels" (defScope s_levels) T.f_levels cdv A outer s H E) rfl
  exact ⟨_, (dss_cons (ds_setM 1 sc.nd (dxf_lst dxa_nil))
  (dss_cons (ds_set 2 sc.nd (dx_tup (dxa_cons dx_int (dxa_cons dx_int dxa_nil))))
  (dss_cons (ds_for po rfl (di_list (dx_fn (ok_scores_of T) (hr.mono (by decide)) T.m_scores_of T.F_scores_of.kp T.b_scores_of tk (dxa_cons (dx_var 0 (pv 0)) dxa_nil))) (dg_name 3 sc.nd) (dss_cons (ds_set 4 sc.nd (dx_fn (ok_counts T) (hr.mono (by decide)) T.m_counts T.F_counts.kp T.b_counts tk (dxa_cons (dx_var 0 (pv 0)) (dxa_cons (dx_var 3 (pv 3)) dxa_nil))))
  (dss_cons (ds_appM 1 (pv 1) (dx_lst (dxa_cons (dx_var 3 (pv 3)) (dxa_cons (dx_var 3 (pv 3)) (dxa_cons (dx_sub (dx_ix (dx_var 4 (pv 4)) dx_int) (dx_ix (dx_var 2 (pv 2)) dx_int)) (dxa_cons (dx_sub (dx_ix (dx_var 4 (pv 4)) dx_int) (dx_ix (dx_var 2 (pv 2)) dx_int)) dxa_nil))))))
  (dss_one (ds_set 2 sc.nd (dx_var 4 (pv 4)))))))
  (dss_frz [1] (dss_one (ds_ret (dx_var 1 (pv 1))))))))⟩
theorem sc_falls : FnScope N_falls ["one", "other"] (defScope s_falls) := ⟨rfl, rfl, rfl, by decide +kernel, rfl, by decide +kernel, by decide +kernel⟩
theorem ok_falls (T : Txt K mg) : FnOk P w K mg base (L2.CX P w) 1 T.f_falls T.fd_falls ["one", "other"] (spD T.cl 2 sem_falls) := by
  refine fn_pure (cl := T.cl) (k := 0) (m := 0) T.F_falls sc_falls rfl fun cdv A outer s H E hr => ?_
  have sc := sc_falls
  have hu : _ + 65 < cLine := hu65 hr
  have tk := takesE (cl := T.cl) (takes_of (X := cxOf (L2.CX P w) P w K mg base N_falls "falls" (defScope s_falls) T.f_falls cdv A outer s H E) rfl rfl rfl rfl)
  have po := passes_of (X := cxOf (L2.CX P w) P w K mg base N_falls "falls" (defScope s_falls) T.f_falls cdv A outer s H E) rfl
  exact ⟨_, (dss_one (ds_ret (dx_cmp cm_lt (dx_mul (dx_ix (dx_var 1 (pv 1)) dx_int) (dx_add (dx_ix (dx_var 0 (pv 0)) dx_int) (dx_ix (dx_var 0 (pv 0)) dx_int))) (dx_mul (dx_ix (dx_var 0 (pv 0)) dx_int) (dx_add (dx_ix (dx_var 1 (pv 1)) dx_int) (dx_ix (dx_var 1 (pv 1)) dx_int))))))⟩
theorem sc_put_together : FnScope N_put_together ["one", "other"] (defScope s_put_together) := ⟨rfl, rfl, rfl, by decide +kernel, rfl, by decide +kernel, by decide +kernel⟩
theorem ok_put_together (T : Txt K mg) : FnOk P w K mg base (L2.CX P w) 1 T.f_put_together T.fd_put_together ["one", "other"] (spD T.cl 2 sem_put_together) := by
  refine fn_pure (cl := T.cl) (k := 0) (m := 0) T.F_put_together sc_put_together rfl fun cdv A outer s H E hr => ?_
  have sc := sc_put_together
  have hu : _ + 65 < cLine := hu65 hr
  have tk := takesE (cl := T.cl) (takes_of (X := cxOf (L2.CX P w) P w K mg base N_put_together "put_together" (defScope s_put_together) T.f_put_together cdv A outer s H E) rfl rfl rfl rfl)
  have po := passes_of (X := cxOf (L2.CX P w) P w K mg base N_put_together "put_together" (defScope s_put_together) T.f_put_together cdv A outer s H E) rfl
  exact ⟨_, (dss_one (ds_ret (dx_lst (dxa_cons (dx_ix (dx_var 1 (pv 1)) dx_int) (dxa_cons (dx_ix (dx_var 0 (pv 0)) dx_int) (dxa_cons (dx_add (dx_ix (dx_var 0 (pv 0)) dx_int) (dx_ix (dx_var 1 (pv 1)) dx_int)) (dxa_cons (dx_add (dx_ix (dx_var 0 (pv 0)) dx_int) (dx_ix (dx_var 1 (pv 1)) dx_int)) dxa_nil)))))))⟩
theorem sc_pooled : FnScope N_pooled ["things"] (defScope s_pooled) := ⟨rfl, rfl, rfl, by decide +kernel, rfl, by decide +kernel, by decide +kernel⟩
theorem ok_pooled (T : Txt K mg) : FnOk P w K mg base (L2.CX P w) 3 T.f_pooled T.fd_pooled ["things"] (spD T.cl 1 sem_pooled) := by
  refine fn_pure (cl := T.cl) (k := 2) (m := 2) T.F_pooled sc_pooled rfl fun cdv A outer s H E hr => ?_
  have sc := sc_pooled
  have hu : _ + 65 < cLine := hu65 hr
  have tk := takesE (cl := T.cl) (takes_of (X := cxOf (L2.CX P w) P w K mg base N_pooled "pooled" (defScope s_pooled) T.f_pooled cdv A outer s H E) rfl rfl rfl rfl)
  have po := passes_of (X := cxOf (L2.CX P w) P w K mg base N_pooled "pooled" (defScope s_pooled) T.f_pooled cdv A outer s H E) rfl
  exact ⟨_, (dss_cons (ds_setM 1 sc.nd (dxf_lst dxa_nil))
  (dss_cons (ds_for po rfl (di_list (dx_fn (ok_levels T) (hr.mono (by decide)) T.m_levels T.F_levels.kp T.b_levels tk (dxa_cons (dx_var 0 (pv 0)) dxa_nil))) (dg_name 2 sc.nd) (dss_cons (ds_appM 1 (pv 1) (dx_var 2 (pv 2)))
  (dss_one (ds_while MU_pooled po (DXW.t (dxw_and (dxt_cmp cm_ge (dx_callM cr_len sa_len rfl T.n_len PySem.boot_len (pv 1)) dx_int) (dxw_and1 (dxt_not (dxt_val (dx_fn (ok_falls T) (hr.mono (by decide)) T.m_falls T.F_falls.kp T.b_falls tk (dxa_cons (dx_ixM (pv 1) (dx_neg dx_int)) (dxa_cons (dx_ixM (pv 1) (dx_neg dx_int)) dxa_nil)))))))) (dss_one (ds_setM 1 sc.nd (dxf_add (dx_new (dxf_slM (pv 1) dxo_none (dxo_some (dx_neg dx_int)))) (dx_lst (dxa_cons (dx_fn (ok_put_together T) (hr.mono (by decide)) T.m_put_together T.F_put_together.kp T.b_put_together tk (dxa_cons (dx_ixM (pv 1) (dx_neg dx_int)) (dxa_cons (dx_ixM (pv 1) (dx_neg dx_int)) dxa_nil))) dxa_nil)))))))))
  (dss_frz [1] (dss_one (ds_ret (dx_var 1 (pv 1)))))))⟩
theorem sc_pools : FnScope N_pools ["things"] (defScope s_pools) := ⟨rfl, rfl, rfl, by decide +kernel, rfl, by decide +kernel, by decide +kernel⟩
theorem ok_pools (T : Txt K mg) : FnOk P w K mg base (L2.CX P w) 5 T.f_pools T.fd_pools ["things"] (spD T.cl 1 sem_pools) := by
  refine fn_pure (cl := T.cl) (k := 4) (m := 1) T.F_pools sc_pools rfl fun cdv A outer s H E hr => ?_
  have sc := sc_pools
  have hu : _ + 65 < cLine := hu65 hr
  have tk := takesE (cl := T.cl) (takes_of (X := cxOf (L2.CX P w) P w K mg base N_pools "pools" (defScope s_pools) T.f_pools cdv A outer s H E) rfl rfl rfl rfl)
  have po := passes_of (X := cxOf (L2.CX P w) P w K mg base N_pools "pools" (defScope s_pools) T.f_pools cdv A outer s H E) rfl
  exact ⟨_, (dss_cons (ds_expr (dx_fn (ok_check_things T) (hr.mono (by decide)) T.m_check_things T.F_check_things.kp T.b_check_things tk (dxa_cons (dx_var 0 (pv 0)) dxa_nil)))
  (dss_one (ds_ret (dx_new (dxf_lc0 (own := [("pool", 1)]) rfl sc.nd (di_list (dx_fn (ok_pooled T) (hr.mono (by decide)) T.m_pooled T.F_pooled.kp T.b_pooled tk (dxa_cons (dx_var 0 (pv 0)) dxa_nil))) (blkOk_by (N := N_pools) (sc := defScope s_pools) (by decide +kernel)) (fun _ _ _ _ _ => (dg_name 1 sc.nd)) (fun _ _ _ _ _ => (dx_callT cr_tupleE sa_tuple rfl T.n_tuple PyProof.Rows.boot_tuple (dxa_cons (dx_var 1 (pv 1)) dxa_nil))))))))⟩
theorem sc_share_of : FnScope N_share_of ["things", "score"] (defScope s_share_of) := ⟨rfl, rfl, rfl, by decide +kernel, rfl, by decide +kernel, by decide +kernel⟩
theorem ok_share_of (T : Txt K mg) : FnOk P w K mg base (L2.CX P w) 5 T.f_share_of T.fd_share_of ["things", "score"] (spD T.cl 2 sem_share_of) := by
  refine fn_pure (cl := T.cl) (k := 4) (m := 2) T.F_share_of sc_share_of rfl fun cdv A outer s H E hr => ?_
  have sc := sc_share_of
  have hu : _ + 65 < cLine := hu65 hr
  have tk := takesE (cl := T.cl) (takes_of (X := cxOf (L2.CX P w) P w K mg base N_share_of "share_of" (defScope s_share_of) T.f_share_of cdv A outer s H E) rfl rfl rfl rfl)
  have po := passes_of (X := cxOf (L2.CX P w) P w K mg base N_share_of "share_of" (defScope s_share_of) T.f_share_of cdv A outer s H E) rfl
  exact ⟨_, (dss_cons (ds_expr (dx_fn (ok_check_things T) (hr.mono (by decide)) T.m_check_things T.F_check_things.kp T.b_check_things tk (dxa_cons (dx_var 0 (pv 0)) dxa_nil)))
  (dss_cons (ds_if (DXW.t (dxw_or (dxt_not (dxt_val (dx_fn (ok_is_int T) (hr.mono (by decide)) T.m_is_int T.F_is_int.kp T.b_is_int tk (dxa_cons (dx_var 1 (pv 1)) (dxa_cons dx_int (dxa_cons dx_int dxa_nil)))))) (dxw_or1 (dxt_cmp (cm_notin hu) (dx_var 1 (pv 1)) (dx_fn (ok_scores_of T) (hr.mono (by decide)) T.m_scores_of T.F_scores_of.kp T.b_scores_of tk (dxa_cons (dx_var 0 (pv 0)) dxa_nil)))))) (dss_one (ds_ret dx_non)) dss_nil)
  (dss_cons (ds_set 2 sc.nd (dx_ix (dx_new (dxf_lc1 (own := [("one", 3)]) rfl sc.nd (di_list (dx_fn (ok_pooled T) (hr.mono (by decide)) T.m_pooled T.F_pooled.kp T.b_pooled tk (dxa_cons (dx_var 0 (pv 0)) dxa_nil))) (blkOk_by (N := N_share_of) (sc := defScope s_share_of) (by decide +kernel)) (fun _ _ _ _ _ => (dg_name 3 sc.nd)) (fun _ _ _ _ _ => (dxt_chain cm_le cm_le (dx_ix (dx_var 3 (pv 3)) dx_int) (dx_var 1 (pv 1)) (dx_ix (dx_var 3 (pv 3)) dx_int))) (fun _ _ _ _ _ => (dx_var 3 (pv 3))))) dx_int))
  (dss_one (ds_ret (dx_fn (ok_lowest T) (hr.mono (by decide)) T.m_lowest T.F_lowest.kp T.b_lowest tk (dxa_cons (dx_ix (dx_var 2 (pv 2)) dx_int) (dxa_cons (dx_add (dx_ix (dx_var 2 (pv 2)) dx_int) (dx_ix (dx_var 2 (pv 2)) dx_int)) dxa_nil))))))))⟩
theorem sc_shares : FnScope N_shares ["things"] (defScope s_shares) := ⟨rfl, rfl, rfl, by decide +kernel, rfl, by decide +kernel, by decide +kernel⟩
theorem ok_shares (T : Txt K mg) : FnOk P w K mg base (L2.CX P w) 6 T.f_shares T.fd_shares ["things"] (spD T.cl 1 sem_shares) := by
  refine fn_pure (cl := T.cl) (k := 5) (m := 2) T.F_shares sc_shares rfl fun cdv A outer s H E hr => ?_
  have sc := sc_shares
  have hu : _ + 65 < cLine := hu65 hr
  have tk := takesE (cl := T.cl) (takes_of (X := cxOf (L2.CX P w) P w K mg base N_shares "shares" (defScope s_shares) T.f_shares cdv A outer s H E) rfl rfl rfl rfl)
  have po := passes_of (X := cxOf (L2.CX P w) P w K mg base N_shares "shares" (defScope s_shares) T.f_shares cdv A outer s H E) rfl
  exact ⟨_, (dss_cons (ds_expr (dx_fn (ok_check_things T) (hr.mono (by decide)) T.m_check_things T.F_check_things.kp T.b_check_things tk (dxa_cons (dx_var 0 (pv 0)) dxa_nil)))
  (dss_one (ds_ret (dx_new (dxf_lc0 (own := [("score", 1), ("faulty", 2)]) rfl sc.nd (di_list (dx_var 0 (pv 0))) (blkOk_by (N := N_shares) (sc := defScope s_shares) (by decide +kernel)) (fun _ _ _ _ _ => (dg_tup rfl (dgs_cons (dg_name 1 sc.nd) (dgs_cons (dg_name 2 sc.nd) dgs_nil)))) (fun _ _ _ _ _ => (dx_fn (ok_share_of T) (hr.mono (by decide)) T.m_share_of T.F_share_of.kp T.b_share_of takesN (dxa_cons (dx_var 0 (pv 0)) (dxa_cons (dx_var 1 (pv 1)) dxa_nil)))))))))⟩
theorem sc_squared_error : FnScope N_squared_error ["things"] (defScope s_squared_error) := ⟨rfl, rfl, rfl, by decide +kernel, rfl, by decide +kernel, by decide +kernel⟩
theorem ok_squared_error (T : Txt K mg) : FnOk P w K mg base (L2.CX P w) 5 T.f_squared_error T.fd_squared_error ["things"] (spD T.cl 1 sem_squared_error) := by
  refine fn_pure (cl := T.cl) (k := 4) (m := 6) T.F_squared_error sc_squared_error rfl fun cdv A outer s H E hr => ?_
  have sc := sc_squared_error
  have hu : _ + 65 < cLine := hu65 hr
  have tk := takesE (cl := T.cl) (takes_of (X := cxOf (L2.CX P w) P w K mg base N_squared_error "squared_error" (defScope s_squared_error) T.f_squared_error cdv A outer s H E) rfl rfl rfl rfl)
  have po := passes_of (X := cxOf (L2.CX P w) P w K mg base N_squared_error "squared_error" (defScope s_squared_error) T.f_squared_error cdv A outer s H E) rfl
  exact ⟨_, (dss_cons (ds_expr (dx_fn (ok_check_things T) (hr.mono (by decide)) T.m_check_things T.F_check_things.kp T.b_check_things tk (dxa_cons (dx_var 0 (pv 0)) dxa_nil)))
  (dss_cons (ds_set 1 sc.nd (dx_tup (dxa_cons dx_int (dxa_cons dx_int dxa_nil))))
  (dss_cons (ds_for po rfl (di_list (dx_fn (ok_pooled T) (hr.mono (by decide)) T.m_pooled T.F_pooled.kp T.b_pooled tk (dxa_cons (dx_var 0 (pv 0)) dxa_nil))) (dg_lst rfl (dgs_cons (dg_name 2 sc.nd) (dgs_cons (dg_name 3 sc.nd) (dgs_cons (dg_name 4 sc.nd) (dgs_cons (dg_name 5 sc.nd) dgs_nil))))) (dss_cons (ds_set 6 sc.nd (dx_fn (ok_lowest T) (hr.mono (by decide)) T.m_lowest T.F_lowest.kp T.b_lowest tk (dxa_cons (dx_mul (dx_var 5 (pv 5)) (dx_var 4 (pv 4))) (dxa_cons (dx_add (dx_var 4 (pv 4)) (dx_var 5 (pv 5))) dxa_nil))))
  (dss_one (ds_set 1 sc.nd (dx_fn (ok_lowest T) (hr.mono (by decide)) T.m_lowest T.F_lowest.kp T.b_lowest tk (dxa_cons (dx_add (dx_mul (dx_ix (dx_var 1 (pv 1)) dx_int) (dx_ix (dx_var 6 (pv 6)) dx_int)) (dx_mul (dx_ix (dx_var 6 (pv 6)) dx_int) (dx_ix (dx_var 1 (pv 1)) dx_int))) (dxa_cons (dx_mul (dx_ix (dx_var 1 (pv 1)) dx_int) (dx_ix (dx_var 6 (pv 6)) dx_int)) dxa_nil)))))))
  (dss_one (ds_ret (dx_var 1 (pv 1)))))))⟩
theorem sc_is_pooled : FnScope N_is_pooled ["things"] (defScope s_is_pooled) := ⟨rfl, rfl, rfl, by decide +kernel, rfl, by decide +kernel, by decide +kernel⟩
theorem ok_is_pooled (T : Txt K mg) : FnOk P w K mg base (L2.CX P w) 5 T.f_is_pooled T.fd_is_pooled ["things"] (spD T.cl 1 sem_is_pooled) := by
  refine fn_pure (cl := T.cl) (k := 4) (m := 0) T.F_is_pooled sc_is_pooled rfl fun cdv A outer s H E hr => ?_
  have sc := sc_is_pooled
  have hu : _ + 65 < cLine := hu65 hr
  have tk := takesE (cl := T.cl) (takes_of (X := cxOf (L2.CX P w) P w K mg base N_is_pooled "is_pooled" (defScope s_is_pooled) T.f_is_pooled cdv A outer s H E) rfl rfl rfl rfl)
  have po := passes_of (X := cxOf (L2.CX P w) P w K mg base N_is_pooled "is_pooled" (defScope s_is_pooled) T.f_is_pooled cdv A outer s H E) rfl
  exact ⟨_, (dss_cons (ds_expr (dx_fn (ok_check_things T) (hr.mono (by decide)) T.m_check_things T.F_check_things.kp T.b_check_things tk (dxa_cons (dx_var 0 (pv 0)) dxa_nil)))
  (dss_one (ds_ret (dx_cmp (cm_eq (Nat.lt_of_succ_lt hu)) (dx_callB cr_len sa_len rfl T.n_len PySem.boot_len (dxa_cons (dx_fn (ok_pooled T) (hr.mono (by decide)) T.m_pooled T.F_pooled.kp T.b_pooled tk (dxa_cons (dx_var 0 (pv 0)) dxa_nil)) dxa_nil)) (dx_callB cr_len sa_len rfl T.n_len PySem.boot_len (dxa_cons (dx_fn (ok_scores_of T) (hr.mono (by decide)) T.m_scores_of T.F_scores_of.kp T.b_scores_of tk (dxa_cons (dx_var 0 (pv 0)) dxa_nil)) dxa_nil))))))⟩
theorem sc_joined : FnScope N_joined ["things", "other"] (defScope s_joined) := ⟨rfl, rfl, rfl, by decide +kernel, rfl, by decide +kernel, by decide +kernel⟩
theorem ok_joined (T : Txt K mg) : FnOk P w K mg base (L2.CX P w) 5 T.f_joined T.fd_joined ["things", "other"] (spD T.cl 2 sem_joined) := by
  refine fn_pure (cl := T.cl) (k := 4) (m := 1) T.F_joined sc_joined rfl fun cdv A outer s H E hr => ?_
  have sc := sc_joined
  have hu : _ + 65 < cLine := hu65 hr
  have tk := takesE (cl := T.cl) (takes_of (X := cxOf (L2.CX P w) P w K mg base N_joined "joined" (defScope s_joined) T.f_joined cdv A outer s H E) rfl rfl rfl rfl)
  have po := passes_of (X := cxOf (L2.CX P w) P w K mg base N_joined "joined" (defScope s_joined) T.f_joined cdv A outer s H E) rfl
  exact ⟨_, (dss_cons (ds_expr (dx_fn (ok_check_things T) (hr.mono (by decide)) T.m_check_things T.F_check_things.kp T.b_check_things tk (dxa_cons (dx_var 0 (pv 0)) dxa_nil)))
  (dss_cons (ds_expr (dx_fn (ok_check_things T) (hr.mono (by decide)) T.m_check_things T.F_check_things.kp T.b_check_things tk (dxa_cons (dx_var 1 (pv 1)) dxa_nil)))
  (dss_cons (ds_set 2 sc.nd (dx_add (dx_var 0 (pv 0)) (dx_var 1 (pv 1))))
  (dss_cons (ds_expr (dx_fn (ok_check_things T) (hr.mono (by decide)) T.m_check_things T.F_check_things.kp T.b_check_things tk (dxa_cons (dx_var 2 (pv 2)) dxa_nil)))
  (dss_one (ds_ret (dx_var 2 (pv 2))))))))⟩
theorem sc_turned_over : FnScope N_turned_over ["things"] (defScope s_turned_over) := ⟨rfl, rfl, rfl, by decide +kernel, rfl, by decide +kernel, by decide +kernel⟩
theorem ok_turned_over (T : Txt K mg) : FnOk P w K mg base (L2.CX P w) 5 T.f_turned_over T.fd_turned_over ["things"] (spD T.cl 1 sem_turned_over) := by
  refine fn_pure (cl := T.cl) (k := 4) (m := 2) T.F_turned_over sc_turned_over rfl fun cdv A outer s H E hr => ?_
  have sc := sc_turned_over
  have hu : _ + 65 < cLine := hu65 hr
  have tk := takesE (cl := T.cl) (takes_of (X := cxOf (L2.CX P w) P w K mg base N_turned_over "turned_over" (defScope s_turned_over) T.f_turned_over cdv A outer s H E) rfl rfl rfl rfl)
  have po := passes_of (X := cxOf (L2.CX P w) P w K mg base N_turned_over "turned_over" (defScope s_turned_over) T.f_turned_over cdv A outer s H E) rfl
  exact ⟨_, (dss_cons (ds_expr (dx_fn (ok_check_things T) (hr.mono (by decide)) T.m_check_things T.F_check_things.kp T.b_check_things tk (dxa_cons (dx_var 0 (pv 0)) dxa_nil)))
  (dss_one (ds_ret (dx_new (dxf_lc0 (own := [("score", 1), ("faulty", 2)]) rfl sc.nd (di_list (dx_var 0 (pv 0))) (blkOk_by (N := N_turned_over) (sc := defScope s_turned_over) (by decide +kernel)) (fun _ _ _ _ _ => (dg_tup rfl (dgs_cons (dg_name 1 sc.nd) (dgs_cons (dg_name 2 sc.nd) dgs_nil)))) (fun _ _ _ _ _ => (dx_tup (dxa_cons (dx_sub dx_int (dx_var 1 (pv 1))) (dxa_cons (dx_var 2 (pv 2)) dxa_nil)))))))))⟩
theorem sc_exchanged : FnScope N_exchanged ["things"] (defScope s_exchanged) := ⟨rfl, rfl, rfl, by decide +kernel, rfl, by decide +kernel, by decide +kernel⟩
theorem ok_exchanged (T : Txt K mg) : FnOk P w K mg base (L2.CX P w) 5 T.f_exchanged T.fd_exchanged ["things"] (spD T.cl 1 sem_exchanged) := by
  refine fn_pure (cl := T.cl) (k := 4) (m := 2) T.F_exchanged sc_exchanged rfl fun cdv A outer s H E hr => ?_
  have sc := sc_exchanged
  have hu : _ + 65 < cLine := hu65 hr
  have tk := takesE (cl := T.cl) (takes_of (X := cxOf (L2.CX P w) P w K mg base N_exchanged "exchanged" (defScope s_exchanged) T.f_exchanged cdv A outer s H E) rfl rfl rfl rfl)
  have po := passes_of (X := cxOf (L2.CX P w) P w K mg base N_exchanged "exchanged" (defScope s_exchanged) T.f_exchanged cdv A outer s H E) rfl
  exact ⟨_, (dss_cons (ds_expr (dx_fn (ok_check_things T) (hr.mono (by decide)) T.m_check_things T.F_check_things.kp T.b_check_things tk (dxa_cons (dx_var 0 (pv 0)) dxa_nil)))
  (dss_one (ds_ret (dx_new (dxf_lc0 (own := [("score", 1), ("faulty", 2)]) rfl sc.nd (di_list (dx_var 0 (pv 0))) (blkOk_by (N := N_exchanged) (sc := defScope s_exchanged) (by decide +kernel)) (fun _ _ _ _ _ => (dg_tup rfl (dgs_cons (dg_name 1 sc.nd) (dgs_cons (dg_name 2 sc.nd) dgs_nil)))) (fun _ _ _ _ _ => (dx_tup (dxa_cons (dx_var 1 (pv 1)) (dxa_cons (dx_not (dx_var 2 (pv 2))) dxa_nil)))))))))⟩
theorem sc_format_things : FnScope N_format_things ["things"] (defScope s_format_things) := ⟨rfl, rfl, rfl, by decide +kernel, rfl, by decide +kernel, by decide +kernel⟩
theorem ok_format_things (T : Txt K mg) : FnOk P w K mg base (L2.CX P w) 5 T.f_format_things T.fd_format_things ["things"] (spD T.cl 1 sem_format_things) := by
  refine fn_pure (cl := T.cl) (k := 4) (m := 2) T.F_format_things sc_format_things rfl fun cdv A outer s H E hr => ?_
  have sc := sc_format_things
  have hu : _ + 65 < cLine := hu65 hr
  have tk := takesE (cl := T.cl) (takes_of (X := cxOf (L2.CX P w) P w K mg base N_format_things "format_things" (defScope s_format_things) T.f_format_things cdv A outer s H E) rfl rfl rfl rfl)
  have po := passes_of (X := cxOf (L2.CX P w) P w K mg base N_format_things "format_things" (defScope s_format_things) T.f_format_things cdv A outer s H E) rfl
  exact ⟨_, (dss_cons (ds_expr (dx_fn (ok_check_things T) (hr.mono (by decide)) T.m_check_things T.F_check_things.kp T.b_check_things tk (dxa_cons (dx_var 0 (pv 0)) dxa_nil)))
  (dss_one (ds_ret (dx_join (dx_str) (dx_new (dxf_lc0 (own := [("score", 1), ("faulty", 2)]) rfl sc.nd (di_list (dx_var 0 (pv 0))) (blkOk_by (N := N_format_things) (sc := defScope s_format_things) (by decide +kernel)) (fun _ _ _ _ _ => (dg_tup rfl (dgs_cons (dg_name 1 sc.nd) (dgs_cons (dg_name 2 sc.nd) dgs_nil)))) (fun _ _ _ _ _ => (dx_add (dx_callT call_str_int sa_str rfl T.n_str PyProof.Rows.boot_str (dxa_cons (dx_var 1 (pv 1)) dxa_nil)) (dx_if (dxt_val (dx_var 2 (pv 2))) (dx_str) (dx_str))))))))))⟩
theorem sc_law_start : FnScope N_law_start ["_law_script"] (defScope s_law_start) := ⟨rfl, rfl, rfl, by decide +kernel, rfl, by decide +kernel, by decide +kernel⟩
theorem ok_law_start (T : Txt K mg) : FnOk P w K mg base (L2.CX P w) 1 T.f_law_start T.fd_law_start ["_law_script"] (spStart K) := by
  refine T.F_law_start.okX sc_law_start (fun vs H Q E h => ?_) fun cdv A outer s H vs Q E hr h => ?_
  · obtain ⟨p, ns, rfl, _⟩ := h
    rfl
  · obtain ⟨p, ns, rfl, hs, hl, k⟩ := h
    have hu : _ + 65 < cLine := hu65 hr
    exact ⟨tStart K, pss_one (ps_ret (pe_lst (pa_cons (pe_ifExp (pt_cmpR (op_neE (Nat.lt_of_succ_lt hu)) (pv 0) (pe_lst pa_nil) (nomark _)) (pe_callTy cr_listE rfl T.n_list PyProof.Rows.boot_list (pa_cons (pv 0) pa_nil)) (pe_lst (pa_cons pe_int pa_nil))) (pa_cons pe_int pa_nil)))), start_t hs hl k⟩
theorem sc_law_draw : FnScope N_law_draw ["_law_draws", "_law_limit"] (defScope s_law_draw) := ⟨rfl, rfl, rfl, by decide +kernel, rfl, by decide +kernel, by decide +kernel⟩
theorem ok_law_draw (T : Txt K mg) : FnOk P w K mg base (L2.CX P w) 1 T.f_law_draw T.fd_law_draw ["_law_draws", "_law_limit"] (spS T.cl 2 drawSem) := by
  refine T.F_law_draw.okX sc_law_draw (fun vs H Q E h => h.1) fun cdv A outer s H vs Q E hr h => ?_
  have sc := sc_law_draw
  obtain ⟨hl, M0, s0, ws, ds, rfl, hM, ha, hb, hD, r, hs⟩ := h
  match ws, hl with
  | [v], _ =>
    refine ⟨tDraw K, pss_cons (ps_set (i := 2) sc.nd rfl (Or.inl rfl) (pe_ix ix_list (pv 0) pe_int fun _ _ => rfl)) (pss_cons (ps_asg (pe_op op_add (pe_ix ix_list (pv 0) pe_int fun _ _ => rfl) pe_int) (pg_sub (pv 0) pe_int set_list))
      (pss_cons (ps_set (i := 3) sc.nd rfl (Or.inl rfl) (pe_op op_mod (pe_ix ix_list (pv 0) pe_int fun _ _ => rfl) (pe_callB cr_len rfl T.n_len PySem.boot_len (pa_cons (pv 2) pa_nil)))) (pss_cons (ps_set (i := 4) sc.nd rfl (Or.inl rfl) (pe_ix ix_list (pv 2) (pv 3) fun _ _ => rfl))
      (pss_cons (ps_if (pt_cmpR op_ge (pv 4) pe_int (nomark _)) (pss_cons (ps_asg (pe_op op_fdiv (pv 4) (pv 1)) (pg_sub (pv 2) (pv 3) set_list)) (pss_one (ps_ret (pe_op op_mod (pv 4) (pv 1))))) pss_nil)
      (pss_cons (ps_set (i := 5) sc.nd rfl (Or.inl rfl) (pe_op op_mod (pe_op op_add (pv 4) (pe_op op_mul pe_int (pe_ix ix_list (pv 0) pe_int fun _ _ => rfl))) pe_int)) (pss_cons (ps_set (i := 5) sc.nd rfl (Or.inl rfl) (pe_op op_mod (pe_op op_pow (pv 5) pe_int) pe_int))
      (pss_one (ps_ret (pe_op op_mod (pe_op op_fdiv (pe_op op_mod (pe_op op_add (pe_op op_mul (pe_op op_fdiv (pv 5) pe_int) pe_int) (pv 5)) pe_int) pe_int) (pv 1)))))))))), ?_⟩
    refine draw_t hD ha hb r ?_
    cases e : drawSem ds s0 with
    | ok d s1 => rw [e] at hs; exact hs
    | er c s1 => trivial
    | bad => rw [e] at hs; exact hs
theorem sc_law_error : FnScope N_law_error ["_law_caught"] (defScope s_law_error) := ⟨rfl, rfl, rfl, by decide +kernel, rfl, by decide +kernel, by decide +kernel⟩
theorem ok_law_error (T : Txt K mg) : FnOk P w K mg base (L2.CX P w) 1 T.f_law_error T.fd_law_error ["_law_caught"] (spErr T.cl) := by
  refine fn_err (cl := T.cl) (k := 0) (m := 1) (F := F_law_error) T.F_law_error sc_law_error rfl (fun cdv A outer s H E hr => ?_) DL.err_run
  have sc := sc_law_error
  have hu : _ + 65 < cLine := hu65 hr
  have tk := takesE (cl := T.cl) (takes_of (X := cxOf (L2.CX P w) P w K mg base N_law_error "_law_error" (defScope s_law_error) T.f_law_error cdv A outer s H E) rfl rfl rfl rfl)
  exact ⟨_, (dss_cons (ds_set 1 sc.nd (dx_lst (dxa_cons (dx_isX 0 (fun c => decide (c = 0)) T.n_isinstance T.ER.E (pv 0) (pe_glob (v := .ref (T.cl 0)) rfl T.g_BadThings rfl) rel_ref (T.ER.q 0 (by decide))) (dxa_cons (dx_isX 0 (fun c => decide (c = 1)) T.n_isinstance T.ER.E (pv 0) (pe_glob (v := .ref (T.cl 1)) rfl T.g_BadNumber rfl) rel_ref (T.ER.q 1 (by decide))) (dxa_cons (dx_isX 0 (fun c => decide (c = 2)) T.n_isinstance T.ER.E (pv 0) (pe_glob (v := .ref (T.cl 2)) rfl T.g_BadPoints rfl) rel_ref (T.ER.q 2 (by decide))) dxa_nil)))))
  (dss_cons (ds_set 1 sc.nd (dx_add (dx_var 1 (pv 1)) (dx_lst (dxa_cons (dx_isX 0 (fun c => decide (c = 3)) T.n_isinstance T.ER.E (pv 0) (pe_glob (v := .ref (T.cl 3)) rfl T.g_BadText rfl) rel_ref (T.ER.q 3 (by decide))) (dxa_cons (dx_isX 0 (fun c => decide (c = 4)) T.n_isinstance T.ER.E (pv 0) (pe_glob (v := .ref (T.cl 4)) rfl T.g_NotFound rfl) rel_ref (T.ER.q 4 (by decide))) dxa_nil)))))
  (dss_cons (ds_if (DXW.t (dxw_or (dxt_cmp (cm_ne (Nat.lt_of_succ_lt hu)) (dx_count hu (dx_var 1 (pv 1)) dx_bl) dx_int) (dxw_or (dxt_not (dxt_val (dx_isX 0 (fun _ => true) T.n_isinstance T.ER.E (pv 0) (pe_glob (v := .ref T.CA) rfl T.g_AlarmError rfl) rel_ref T.ER.qA))) (dxw_or1 (dxt_not (dxt_val (dx_isX 0 (fun _ => true) T.n_isinstance T.ER.E (pv 0) (pe_bltn (v := .ty "ValueError") (u := .type "ValueError") rfl T.n_ValueError (by decide +kernel) rfl) rel_ty T.ER.qV))))))) (dss_one (ds_ret (dx_str))) dss_nil)
  (dss_one (ds_ret (dx_ix (dx_lst (dxa_cons (dx_str) (dxa_cons (dx_str) (dxa_cons (dx_str) (dxa_cons (dx_str) (dxa_cons (dx_str) dxa_nil)))))) (dx_index hu (dx_var 1 (pv 1)) dx_bl)))))))⟩
theorem sc_law_one : FnScope N_law_one ["_law_kind", "_law_things"] (defScope s_law_one) := ⟨rfl, rfl, rfl, by decide +kernel, rfl, by decide +kernel, by decide +kernel⟩
theorem ok_law_one (T : Txt K mg) : FnOk P w K mg base (L2.CX P w) 7 T.f_law_one T.fd_law_one ["_law_kind", "_law_things"] (spD T.cl 2 sem_law_one) := by
  refine fn_pure (cl := T.cl) (k := 6) (m := 0) T.F_law_one sc_law_one rfl fun cdv A outer s H E hr => ?_
  have sc := sc_law_one
  have hu : _ + 65 < cLine := hu65 hr
  have tk := takesE (cl := T.cl) (takes_of (X := cxOf (L2.CX P w) P w K mg base N_law_one "_law_one" (defScope s_law_one) T.f_law_one cdv A outer s H E) rfl rfl rfl rfl)
  have po := passes_of (X := cxOf (L2.CX P w) P w K mg base N_law_one "_law_one" (defScope s_law_one) T.f_law_one cdv A outer s H E) rfl
  exact ⟨_, (dss_cons (ds_if (dxt_cmp (cm_eq (Nat.lt_of_succ_lt hu)) (dx_var 0 (pv 0)) dx_int) (dss_one (ds_ret (dx_fn (ok_unlike_scores T) (hr.mono (by decide)) T.m_unlike_scores T.F_unlike_scores.kp T.b_unlike_scores tk (dxa_cons (dx_var 1 (pv 1)) dxa_nil)))) dss_nil)
  (dss_cons (ds_if (dxt_cmp (cm_eq (Nat.lt_of_succ_lt hu)) (dx_var 0 (pv 0)) dx_int) (dss_one (ds_ret (dx_fn (ok_totals T) (hr.mono (by decide)) T.m_totals T.F_totals.kp T.b_totals tk (dxa_cons (dx_var 1 (pv 1)) dxa_nil)))) dss_nil)
  (dss_cons (ds_if (dxt_cmp (cm_eq (Nat.lt_of_succ_lt hu)) (dx_var 0 (pv 0)) dx_int) (dss_one (ds_ret (dx_fn (ok_curve T) (hr.mono (by decide)) T.m_curve T.F_curve.kp T.b_curve tk (dxa_cons (dx_var 1 (pv 1)) dxa_nil)))) dss_nil)
  (dss_cons (ds_if (dxt_cmp (cm_eq (Nat.lt_of_succ_lt hu)) (dx_var 0 (pv 0)) dx_int) (dss_one (ds_ret (dx_fn (ok_pair_counts T) (hr.mono (by decide)) T.m_pair_counts T.F_pair_counts.kp T.b_pair_counts tk (dxa_cons (dx_var 1 (pv 1)) dxa_nil)))) dss_nil)
  (dss_cons (ds_if (dxt_cmp (cm_eq (Nat.lt_of_succ_lt hu)) (dx_var 0 (pv 0)) dx_int) (dss_one (ds_ret (dx_fn (ok_in_order T) (hr.mono (by decide)) T.m_in_order T.F_in_order.kp T.b_in_order tk (dxa_cons (dx_var 1 (pv 1)) dxa_nil)))) dss_nil)
  (dss_cons (ds_if (dxt_cmp (cm_eq (Nat.lt_of_succ_lt hu)) (dx_var 0 (pv 0)) dx_int) (dss_one (ds_ret (dx_fn (ok_wrong_pairs T) (hr.mono (by decide)) T.m_wrong_pairs T.F_wrong_pairs.kp T.b_wrong_pairs tk (dxa_cons (dx_var 1 (pv 1)) dxa_nil)))) dss_nil)
  (dss_cons (ds_if (dxt_cmp (cm_eq (Nat.lt_of_succ_lt hu)) (dx_var 0 (pv 0)) dx_int) (dss_one (ds_ret (dx_fn (ok_hull T) (hr.mono (by decide)) T.m_hull T.F_hull.kp T.b_hull tk (dxa_cons (dx_var 1 (pv 1)) dxa_nil)))) dss_nil)
  (dss_cons (ds_if (dxt_cmp (cm_eq (Nat.lt_of_succ_lt hu)) (dx_var 0 (pv 0)) dx_int) (dss_one (ds_ret (dx_fn (ok_waste T) (hr.mono (by decide)) T.m_waste T.F_waste.kp T.b_waste tk (dxa_cons (dx_var 1 (pv 1)) dxa_nil)))) dss_nil)
  (dss_cons (ds_if (dxt_cmp (cm_eq (Nat.lt_of_succ_lt hu)) (dx_var 0 (pv 0)) dx_int) (dss_one (ds_ret (dx_fn (ok_is_bent T) (hr.mono (by decide)) T.m_is_bent T.F_is_bent.kp T.b_is_bent tk (dxa_cons (dx_var 1 (pv 1)) dxa_nil)))) dss_nil)
  (dss_cons (ds_if (dxt_cmp (cm_eq (Nat.lt_of_succ_lt hu)) (dx_var 0 (pv 0)) dx_int) (dss_one (ds_ret (dx_fn (ok_cost_ranges T) (hr.mono (by decide)) T.m_cost_ranges T.F_cost_ranges.kp T.b_cost_ranges tk (dxa_cons (dx_var 1 (pv 1)) dxa_nil)))) dss_nil)
  (dss_cons (ds_if (dxt_cmp (cm_eq (Nat.lt_of_succ_lt hu)) (dx_var 0 (pv 0)) dx_int) (dss_one (ds_ret (dx_fn (ok_pools T) (hr.mono (by decide)) T.m_pools T.F_pools.kp T.b_pools tk (dxa_cons (dx_var 1 (pv 1)) dxa_nil)))) dss_nil)
  (dss_cons (ds_if (dxt_cmp (cm_eq (Nat.lt_of_succ_lt hu)) (dx_var 0 (pv 0)) dx_int) (dss_one (ds_ret (dx_fn (ok_shares T) (hr.mono (by decide)) T.m_shares T.F_shares.kp T.b_shares tk (dxa_cons (dx_var 1 (pv 1)) dxa_nil)))) dss_nil)
  (dss_cons (ds_if (dxt_cmp (cm_eq (Nat.lt_of_succ_lt hu)) (dx_var 0 (pv 0)) dx_int) (dss_one (ds_ret (dx_fn (ok_squared_error T) (hr.mono (by decide)) T.m_squared_error T.F_squared_error.kp T.b_squared_error tk (dxa_cons (dx_var 1 (pv 1)) dxa_nil)))) dss_nil)
  (dss_cons (ds_if (dxt_cmp (cm_eq (Nat.lt_of_succ_lt hu)) (dx_var 0 (pv 0)) dx_int) (dss_one (ds_ret (dx_fn (ok_is_pooled T) (hr.mono (by decide)) T.m_is_pooled T.F_is_pooled.kp T.b_is_pooled tk (dxa_cons (dx_var 1 (pv 1)) dxa_nil)))) dss_nil)
  (dss_cons (ds_if (dxt_cmp (cm_eq (Nat.lt_of_succ_lt hu)) (dx_var 0 (pv 0)) dx_int) (dss_one (ds_ret (dx_fn (ok_turned_over T) (hr.mono (by decide)) T.m_turned_over T.F_turned_over.kp T.b_turned_over tk (dxa_cons (dx_var 1 (pv 1)) dxa_nil)))) dss_nil)
  (dss_cons (ds_if (dxt_cmp (cm_eq (Nat.lt_of_succ_lt hu)) (dx_var 0 (pv 0)) dx_int) (dss_one (ds_ret (dx_fn (ok_exchanged T) (hr.mono (by decide)) T.m_exchanged T.F_exchanged.kp T.b_exchanged tk (dxa_cons (dx_var 1 (pv 1)) dxa_nil)))) dss_nil)
  (dss_one (ds_ret (dx_if (dxt_cmp (cm_eq (Nat.lt_of_succ_lt hu)) (dx_var 0 (pv 0)) dx_int) (dx_fn (ok_format_things T) (hr.mono (by decide)) T.m_format_things T.F_format_things.kp T.b_format_things tk (dxa_cons (dx_var 1 (pv 1)) dxa_nil)) (dx_fn (ok_area T) (hr.mono (by decide)) T.m_area T.F_area.kp T.b_area tk (dxa_cons (dx_var 1 (pv 1)) dxa_nil)))))))))))))))))))))⟩
theorem sc_law_two : FnScope N_law_two ["_law_kind", "_law_things", "_law_one_here", "_law_two_here"] (defScope s_law_two) := ⟨rfl, rfl, rfl, by decide +kernel, rfl, by decide +kernel, by decide +kernel⟩
theorem ok_law_two (T : Txt K mg) : FnOk P w K mg base (L2.CX P w) 6 T.f_law_two T.fd_law_two ["_law_kind", "_law_things", "_law_one_here", "_law_two_here"] (spD T.cl 4 sem_law_two) := by
  refine fn_pure (cl := T.cl) (k := 5) (m := 0) T.F_law_two sc_law_two rfl fun cdv A outer s H E hr => ?_
  have sc := sc_law_two
  have hu : _ + 65 < cLine := hu65 hr
  have tk := takesE (cl := T.cl) (takes_of (X := cxOf (L2.CX P w) P w K mg base N_law_two "_law_two" (defScope s_law_two) T.f_law_two cdv A outer s H E) rfl rfl rfl rfl)
  have po := passes_of (X := cxOf (L2.CX P w) P w K mg base N_law_two "_law_two" (defScope s_law_two) T.f_law_two cdv A outer s H E) rfl
  exact ⟨_, (dss_cons (ds_if (dxt_cmp (cm_eq (Nat.lt_of_succ_lt hu)) (dx_var 0 (pv 0)) dx_int) (dss_one (ds_ret (dx_fn (ok_alarms_at T) (hr.mono (by decide)) T.m_alarms_at T.F_alarms_at.kp T.b_alarms_at tk (dxa_cons (dx_var 1 (pv 1)) (dxa_cons (dx_var 2 (pv 2)) dxa_nil))))) dss_nil)
  (dss_cons (ds_if (dxt_cmp (cm_eq (Nat.lt_of_succ_lt hu)) (dx_var 0 (pv 0)) dx_int) (dss_one (ds_ret (dx_fn (ok_most_true T) (hr.mono (by decide)) T.m_most_true T.F_most_true.kp T.b_most_true tk (dxa_cons (dx_var 1 (pv 1)) (dxa_cons (dx_var 2 (pv 2)) dxa_nil))))) dss_nil)
  (dss_cons (ds_if (dxt_cmp (cm_eq (Nat.lt_of_succ_lt hu)) (dx_var 0 (pv 0)) dx_int) (dss_one (ds_ret (dx_fn (ok_least_false T) (hr.mono (by decide)) T.m_least_false T.F_least_false.kp T.b_least_false tk (dxa_cons (dx_var 1 (pv 1)) (dxa_cons (dx_var 2 (pv 2)) dxa_nil))))) dss_nil)
  (dss_cons (ds_if (dxt_cmp (cm_eq (Nat.lt_of_succ_lt hu)) (dx_var 0 (pv 0)) dx_int) (dss_one (ds_ret (dx_fn (ok_least_cost T) (hr.mono (by decide)) T.m_least_cost T.F_least_cost.kp T.b_least_cost tk (dxa_cons (dx_var 1 (pv 1)) (dxa_cons (dx_var 2 (pv 2)) (dxa_cons (dx_var 3 (pv 3)) dxa_nil)))))) dss_nil)
  (dss_cons (ds_if (dxt_cmp (cm_eq (Nat.lt_of_succ_lt hu)) (dx_var 0 (pv 0)) dx_int) (dss_one (ds_ret (dx_fn (ok_best_points T) (hr.mono (by decide)) T.m_best_points T.F_best_points.kp T.b_best_points tk (dxa_cons (dx_var 1 (pv 1)) (dxa_cons (dx_var 2 (pv 2)) (dxa_cons (dx_var 3 (pv 3)) dxa_nil)))))) dss_nil)
  (dss_cons (ds_if (dxt_cmp (cm_eq (Nat.lt_of_succ_lt hu)) (dx_var 0 (pv 0)) dx_int) (dss_one (ds_ret (dx_fn (ok_best_thresholds T) (hr.mono (by decide)) T.m_best_thresholds T.F_best_thresholds.kp T.b_best_thresholds tk (dxa_cons (dx_var 1 (pv 1)) (dxa_cons (dx_var 2 (pv 2)) (dxa_cons (dx_var 3 (pv 3)) dxa_nil)))))) dss_nil)
  (dss_cons (ds_if (dxt_cmp (cm_eq (Nat.lt_of_succ_lt hu)) (dx_var 0 (pv 0)) dx_int) (dss_one (ds_ret (dx_fn (ok_miss_cost_for T) (hr.mono (by decide)) T.m_miss_cost_for T.F_miss_cost_for.kp T.b_miss_cost_for tk (dxa_cons (dx_var 1 (pv 1)) (dxa_cons (dx_var 2 (pv 2)) (dxa_cons (dx_var 3 (pv 3)) dxa_nil)))))) dss_nil)
  (dss_cons (ds_if (dxt_cmp (cm_eq (Nat.lt_of_succ_lt hu)) (dx_var 0 (pv 0)) dx_int) (dss_one (ds_ret (dx_fn (ok_cost_at T) (hr.mono (by decide)) T.m_cost_at T.F_cost_at.kp T.b_cost_at tk (dxa_cons (dx_var 1 (pv 1)) (dxa_cons (dx_var 2 (pv 2)) (dxa_cons (dx_var 3 (pv 3)) (dxa_cons dx_int dxa_nil))))))) dss_nil)
  (dss_cons (ds_if (dxt_cmp (cm_eq (Nat.lt_of_succ_lt hu)) (dx_var 0 (pv 0)) dx_int) (dss_one (ds_ret (dx_fn (ok_mixed_alarms T) (hr.mono (by decide)) T.m_mixed_alarms T.F_mixed_alarms.kp T.b_mixed_alarms tk (dxa_cons (dx_var 1 (pv 1)) (dxa_cons (dx_var 2 (pv 2)) (dxa_cons (dx_var 3 (pv 3)) (dxa_cons (dx_tup (dxa_cons dx_int (dxa_cons dx_int dxa_nil))) dxa_nil))))))) dss_nil)
  (dss_cons (ds_if (dxt_cmp (cm_eq (Nat.lt_of_succ_lt hu)) (dx_var 0 (pv 0)) dx_int) (dss_one (ds_ret (dx_fn (ok_best_true T) (hr.mono (by decide)) T.m_best_true T.F_best_true.kp T.b_best_true tk (dxa_cons (dx_var 1 (pv 1)) (dxa_cons (dx_var 2 (pv 2)) dxa_nil))))) dss_nil)
  (dss_cons (ds_if (dxt_cmp (cm_eq (Nat.lt_of_succ_lt hu)) (dx_var 0 (pv 0)) dx_int) (dss_one (ds_ret (dx_fn (ok_best_mixture T) (hr.mono (by decide)) T.m_best_mixture T.F_best_mixture.kp T.b_best_mixture tk (dxa_cons (dx_var 1 (pv 1)) (dxa_cons (dx_var 2 (pv 2)) dxa_nil))))) dss_nil)
  (dss_cons (ds_if (dxt_cmp (cm_eq (Nat.lt_of_succ_lt hu)) (dx_var 0 (pv 0)) dx_int) (dss_one (ds_ret (dx_fn (ok_gain T) (hr.mono (by decide)) T.m_gain T.F_gain.kp T.b_gain tk (dxa_cons (dx_var 1 (pv 1)) (dxa_cons (dx_var 2 (pv 2)) dxa_nil))))) dss_nil)
  (dss_cons (ds_if (dxt_cmp (cm_eq (Nat.lt_of_succ_lt hu)) (dx_var 0 (pv 0)) dx_int) (dss_one (ds_ret (dx_fn (ok_joined T) (hr.mono (by decide)) T.m_joined T.F_joined.kp T.b_joined tk (dxa_cons (dx_var 1 (pv 1)) (dxa_cons (dx_lst (dxa_cons (dx_tup (dxa_cons dx_int (dxa_cons dx_bl dxa_nil))) dxa_nil)) dxa_nil))))) dss_nil)
  (dss_one (ds_ret (dx_if (dxt_cmp (cm_eq (Nat.lt_of_succ_lt hu)) (dx_var 0 (pv 0)) dx_int) (dx_fn (ok_share_of T) (hr.mono (by decide)) T.m_share_of T.F_share_of.kp T.b_share_of tk (dxa_cons (dx_var 1 (pv 1)) (dxa_cons (dx_var 2 (pv 2)) dxa_nil))) (dx_fn (ok_is_ever_best T) (hr.mono (by decide)) T.m_is_ever_best T.F_is_ever_best.kp T.b_is_ever_best tk (dxa_cons (dx_var 1 (pv 1)) (dxa_cons (dx_var 2 (pv 2)) dxa_nil)))))))))))))))))))⟩
theorem sc_law_asked : FnScope N_law_asked ["_law_group", "_law_kind", "_law_things", "_law_one_here", "_law_two_here"] (defScope s_law_asked) := ⟨rfl, rfl, rfl, by decide +kernel, rfl, by decide +kernel, by decide +kernel⟩
theorem ok_law_asked (T : Txt K mg) : FnOk P w K mg base (L2.CX P w) 8 T.f_law_asked T.fd_law_asked ["_law_group", "_law_kind", "_law_things", "_law_one_here", "_law_two_here"] (spD T.cl 5 sem_law_asked) := by
  refine fn_pure (cl := T.cl) (k := 7) (m := 2) T.F_law_asked sc_law_asked rfl fun cdv A outer s H E hr => ?_
  have sc := sc_law_asked
  have hu : _ + 65 < cLine := hu65 hr
  have tk := takesE (cl := T.cl) (takes_of (X := cxOf (L2.CX P w) P w K mg base N_law_asked "_law_asked" (defScope s_law_asked) T.f_law_asked cdv A outer s H E) rfl rfl rfl rfl)
  have po := passes_of (X := cxOf (L2.CX P w) P w K mg base N_law_asked "_law_asked" (defScope s_law_asked) T.f_law_asked cdv A outer s H E) rfl
  exact ⟨_, (dss_cons (ds_set 5 sc.nd dx_non)
  (dss_try 6 5 rfl rfl rfl sc.nd (by decide) ⟨rfl, by decide, .inl T.g_AlarmError⟩ T.ER.A (fun _ _ _ => pv 6) (pv 5) (pv 5) (fun Wx2 pn2 xe2 tk => (dss_one (ds_if (dxt_cmp (cm_eq (Nat.lt_of_succ_lt hu)) (dx_var 0 (pv 0)) dx_int) (dss_one (ds_expr (dx_fn (ok_law_one T) (hr.mono (by decide)) T.m_law_one T.F_law_one.kp T.b_law_one tk (dxa_cons (dx_var 1 (pv 1)) (dxa_cons (dx_var 2 (pv 2)) dxa_nil))))) (dss_one (ds_expr (dx_fn (ok_law_two T) (hr.mono (by decide)) T.m_law_two T.F_law_two.kp T.b_law_two tk (dxa_cons (dx_var 1 (pv 1)) (dxa_cons (dx_var 2 (pv 2)) (dxa_cons (dx_var 3 (pv 3)) (dxa_cons (dx_var 4 (pv 4)) dxa_nil))))))))))
  (dx_str) (ok_law_error T) (hr.mono (by decide)) T.m_law_error T.F_law_error.kp T.b_law_error tk))⟩
theorem sc_law_limits : FnScope N_law_limits ["_law_things"] (defScope s_law_limits) := ⟨rfl, rfl, rfl, by decide +kernel, rfl, by decide +kernel, by decide +kernel⟩
theorem ok_law_limits (T : Txt K mg) : FnOk P w K mg base (L2.CX P w) 9 T.f_law_limits T.fd_law_limits ["_law_things"] (spD T.cl 1 sem_law_limits) := by
  refine fn_pure (cl := T.cl) (k := 8) (m := 7) T.F_law_limits sc_law_limits rfl fun cdv A outer s H E hr => ?_
  have sc := sc_law_limits
  have hu : _ + 65 < cLine := hu65 hr
  have tk := takesE (cl := T.cl) (takes_of (X := cxOf (L2.CX P w) P w K mg base N_law_limits "_law_limits" (defScope s_law_limits) T.f_law_limits cdv A outer s H E) rfl rfl rfl rfl)
  have po := passes_of (X := cxOf (L2.CX P w) P w K mg base N_law_limits "_law_limits" (defScope s_law_limits) T.f_law_limits cdv A outer s H E) rfl
  exact ⟨_, (dss_cons (ds_set 1 sc.nd (dx_lst (dxa_cons (dx_tup (dxa_cons dx_int (dxa_cons dx_int (dxa_cons dx_int dxa_nil)))) (dxa_cons (dx_tup (dxa_cons dx_int (dxa_cons dx_int (dxa_cons dx_int dxa_nil)))) (dxa_cons (dx_tup (dxa_cons dx_int (dxa_cons dx_int (dxa_cons dx_int dxa_nil)))) (dxa_cons (dx_tup (dxa_cons dx_int (dxa_cons dx_int (dxa_cons dx_int dxa_nil)))) (dxa_cons (dx_tup (dxa_cons dx_int (dxa_cons dx_int (dxa_cons dx_int dxa_nil)))) (dxa_cons (dx_tup (dxa_cons dx_int (dxa_cons dx_int (dxa_cons dx_int dxa_nil)))) (dxa_cons (dx_tup (dxa_cons dx_int (dxa_cons dx_int (dxa_cons dx_int dxa_nil)))) (dxa_cons (dx_tup (dxa_cons dx_int (dxa_cons dx_int (dxa_cons dx_int dxa_nil)))) (dxa_cons (dx_tup (dxa_cons dx_int (dxa_cons dx_int (dxa_cons dx_int dxa_nil)))) dxa_nil)))))))))))
  (dss_cons (ds_for po rfl (di_list (dx_var 1 (pv 1))) (dg_tup rfl (dgs_cons (dg_name 2 sc.nd) (dgs_cons (dg_name 3 sc.nd) (dgs_cons (dg_name 4 sc.nd) dgs_nil)))) (dss_cons (ds_if (dxt_cmp (cm_ne (Nat.lt_of_succ_lt hu)) (dx_new (dxf_lc0 (own := [("_law_bad", 5)]) rfl sc.nd (di_tup (dx_tup (dxa_cons dx_non (dxa_cons (dx_sub (dx_var 3 (pv 3)) dx_int) (dxa_cons (dx_add (dx_var 4 (pv 4)) dx_int) (dxa_cons dx_bl (dxa_cons (dx_callT call_str_int sa_str rfl T.n_str PyProof.Rows.boot_str (dxa_cons (dx_var 3 (pv 3)) dxa_nil)) dxa_nil))))))) (blkOk_by (N := N_law_limits) (sc := defScope s_law_limits) (by decide +kernel)) (fun _ _ _ _ _ => (dg_name 5 sc.nd)) (fun _ _ _ _ _ => (dx_fn (ok_law_asked T) (hr.mono (by decide)) T.m_law_asked T.F_law_asked.kp T.b_law_asked takesN (dxa_cons dx_int (dxa_cons (dx_var 2 (pv 2)) (dxa_cons (dx_var 0 (pv 0)) (dxa_cons (dx_var 5 (pv 5)) (dxa_cons dx_int dxa_nil))))))))) (dx_mul (dx_lst (dxa_cons (dx_str) dxa_nil)) dx_int)) (dss_one (ds_ret dx_bl)) dss_nil)
  (dss_one (ds_if (dxt_cmp (cm_ne (Nat.lt_of_succ_lt hu)) (dx_new (dxf_lc0 (own := [("_law_good", 7)]) rfl sc.nd (di_tup (dx_tup (dxa_cons (dx_var 3 (pv 3)) (dxa_cons (dx_var 4 (pv 4)) dxa_nil)))) (blkOk_by (N := N_law_limits) (sc := defScope s_law_limits) (by decide +kernel)) (fun _ _ _ _ _ => (dg_name 7 sc.nd)) (fun _ _ _ _ _ => (dx_fn (ok_law_asked T) (hr.mono (by decide)) T.m_law_asked T.F_law_asked.kp T.b_law_asked takesN (dxa_cons dx_int (dxa_cons (dx_var 2 (pv 2)) (dxa_cons (dx_var 0 (pv 0)) (dxa_cons (dx_var 7 (pv 7)) (dxa_cons dx_int dxa_nil))))))))) (dx_mul (dx_lst (dxa_cons (dx_str) dxa_nil)) dx_int)) (dss_one (ds_ret dx_bl)) dss_nil))))
  (dss_cons (ds_for po rfl (di_list (dx_lst (dxa_cons (dx_tup (dxa_cons dx_int (dxa_cons dx_int (dxa_cons dx_int dxa_nil)))) (dxa_cons (dx_tup (dxa_cons dx_int (dxa_cons dx_int (dxa_cons dx_int dxa_nil)))) (dxa_cons (dx_tup (dxa_cons dx_int (dxa_cons dx_int (dxa_cons dx_int dxa_nil)))) (dxa_cons (dx_tup (dxa_cons dx_int (dxa_cons dx_int (dxa_cons dx_int dxa_nil)))) (dxa_cons (dx_tup (dxa_cons dx_int (dxa_cons dx_int (dxa_cons dx_int dxa_nil)))) (dxa_cons (dx_tup (dxa_cons dx_int (dxa_cons dx_int (dxa_cons dx_int dxa_nil)))) dxa_nil)))))))) (dg_tup rfl (dgs_cons (dg_name 2 sc.nd) (dgs_cons (dg_name 3 sc.nd) (dgs_cons (dg_name 4 sc.nd) dgs_nil)))) (dss_cons (ds_if (dxt_cmp (cm_ne (Nat.lt_of_succ_lt hu)) (dx_new (dxf_lc0 (own := [("_law_bad", 5)]) rfl sc.nd (di_tup (dx_tup (dxa_cons dx_non (dxa_cons (dx_sub (dx_var 3 (pv 3)) dx_int) (dxa_cons (dx_add (dx_var 4 (pv 4)) dx_int) (dxa_cons dx_bl (dxa_cons (dx_callT call_str_int sa_str rfl T.n_str PyProof.Rows.boot_str (dxa_cons (dx_var 3 (pv 3)) dxa_nil)) dxa_nil))))))) (blkOk_by (N := N_law_limits) (sc := defScope s_law_limits) (by decide +kernel)) (fun _ _ _ _ _ => (dg_name 5 sc.nd)) (fun _ _ _ _ _ => (dx_fn (ok_law_asked T) (hr.mono (by decide)) T.m_law_asked T.F_law_asked.kp T.b_law_asked takesN (dxa_cons dx_int (dxa_cons (dx_var 2 (pv 2)) (dxa_cons (dx_var 0 (pv 0)) (dxa_cons dx_int (dxa_cons (dx_var 5 (pv 5)) dxa_nil))))))))) (dx_mul (dx_lst (dxa_cons (dx_str) dxa_nil)) dx_int)) (dss_one (ds_ret dx_bl)) dss_nil)
  (dss_one (ds_if (dxt_cmp (cm_ne (Nat.lt_of_succ_lt hu)) (dx_new (dxf_lc0 (own := [("_law_good", 7)]) rfl sc.nd (di_tup (dx_tup (dxa_cons (dx_var 3 (pv 3)) (dxa_cons (dx_var 4 (pv 4)) dxa_nil)))) (blkOk_by (N := N_law_limits) (sc := defScope s_law_limits) (by decide +kernel)) (fun _ _ _ _ _ => (dg_name 7 sc.nd)) (fun _ _ _ _ _ => (dx_fn (ok_law_asked T) (hr.mono (by decide)) T.m_law_asked T.F_law_asked.kp T.b_law_asked takesN (dxa_cons dx_int (dxa_cons (dx_var 2 (pv 2)) (dxa_cons (dx_var 0 (pv 0)) (dxa_cons dx_int (dxa_cons (dx_var 7 (pv 7)) dxa_nil))))))))) (dx_mul (dx_lst (dxa_cons (dx_str) dxa_nil)) dx_int)) (dss_one (ds_ret dx_bl)) dss_nil))))
  (dss_cons (ds_for po rfl (di_list (dx_lst (dxa_cons dx_non (dxa_cons dx_int (dxa_cons (dx_tup (dxa_cons dx_int dxa_nil)) (dxa_cons (dx_lst (dxa_cons dx_int (dxa_cons dx_int dxa_nil))) (dxa_cons (dx_tup (dxa_cons dx_int (dxa_cons dx_int dxa_nil))) (dxa_cons (dx_tup (dxa_cons dx_int (dxa_cons dx_int dxa_nil))) (dxa_cons (dx_tup (dxa_cons (dx_sub dx_int dx_int) (dxa_cons dx_int dxa_nil))) (dxa_cons (dx_tup (dxa_cons dx_bl (dxa_cons dx_int dxa_nil))) (dxa_cons (dx_tup (dxa_cons dx_int (dxa_cons dx_int dxa_nil))) (dxa_cons (dx_tup (dxa_cons dx_int (dxa_cons dx_int dxa_nil))) (dxa_cons (dx_tup (dxa_cons dx_int (dxa_cons dx_int dxa_nil))) dxa_nil))))))))))))) (dg_name 5 sc.nd) (dss_one (ds_if (dxt_cmp (cm_ne (Nat.lt_of_succ_lt hu)) (dx_new (dxf_lc0 (own := [("_law_k", 6)]) rfl sc.nd (di_tup (dx_tup (dxa_cons dx_int (dxa_cons dx_int (dxa_cons dx_int dxa_nil))))) (blkOk_by (N := N_law_limits) (sc := defScope s_law_limits) (by decide +kernel)) (fun _ _ _ _ _ => (dg_name 6 sc.nd)) (fun _ _ _ _ _ => (dx_fn (ok_law_asked T) (hr.mono (by decide)) T.m_law_asked T.F_law_asked.kp T.b_law_asked takesN (dxa_cons dx_int (dxa_cons (dx_var 6 (pv 6)) (dxa_cons (dx_var 0 (pv 0)) (dxa_cons (dx_var 5 (pv 5)) (dxa_cons dx_int dxa_nil))))))))) (dx_mul (dx_lst (dxa_cons (dx_str) dxa_nil)) dx_int)) (dss_one (ds_ret dx_bl)) dss_nil)))
  (dss_one (ds_ret (dx_cmp (cm_eq (Nat.lt_of_succ_lt hu)) (dx_new (dxf_lc0 (own := [("_law_k", 6)]) rfl sc.nd (di_tup (dx_tup (dxa_cons dx_int (dxa_cons dx_int (dxa_cons dx_int dxa_nil))))) (blkOk_by (N := N_law_limits) (sc := defScope s_law_limits) (by decide +kernel)) (fun _ _ _ _ _ => (dg_name 6 sc.nd)) (fun _ _ _ _ _ => (dx_fn (ok_law_asked T) (hr.mono (by decide)) T.m_law_asked T.F_law_asked.kp T.b_law_asked takesN (dxa_cons dx_int (dxa_cons (dx_var 6 (pv 6)) (dxa_cons (dx_var 0 (pv 0)) (dxa_cons (dx_tup (dxa_cons dx_int (dxa_cons dx_int dxa_nil))) (dxa_cons dx_int dxa_nil))))))))) (dx_mul (dx_lst (dxa_cons (dx_str) dxa_nil)) dx_int))))))))⟩
theorem sc_law : FnScope N_law ["_law_script"] (defScope s_law) := ⟨rfl, rfl, rfl, by decide +kernel, rfl, by decide +kernel, by decide +kernel⟩
theorem ok_law (T : Txt K mg) (hF : ∀ (a b : Addr) (nums : List Int), nums ≠ [] → nums.length ≤ 63 → ∃ s', F_law (.no :: .v (.ref a) :: List.replicate 4 .no) ⟨a, b, nums, 0⟩ = .rt (.d (.bool true)) s') : FnOk P w K mg base (L2.CX P w) 10 T.f_law T.fd_law ["_law_script"] (spLaw K) := by
  refine law_fn (cl := T.cl) (k := 9) T.F_law sc_law rfl rfl (fun cdv A outer s H E hr => ⟨ps_set (i := 1) sc_law.nd rfl (by first | exact Or.inl rfl | exact Or.inr rfl) (pe_callS (ok_law_start T) (hr.mono (by decide)) rfl T.m_law_start T.F_law_start.kp T.b_law_start (fun σ => passAt takesN σ) (pa_cons (pv 0) pa_nil)), ?_⟩) hF
  have sc := sc_law
  have hu : _ + 65 < cLine := hu65 hr
  have tk := takesN (cl := T.cl) (X := cxOf (L2.CX P w) P w K mg base N_law "law" (defScope s_law) T.f_law cdv A outer s H E)
  have po := passes_of (X := cxOf (L2.CX P w) P w K mg base N_law "law" (defScope s_law) T.f_law cdv A outer s H E) rfl
  exact ⟨_, (dss_cons (ds_for po rfl (di_list (dx_lst (dxa_cons dx_non (dxa_cons dx_int (dxa_cons (dx_tup dxa_nil) (dxa_cons (dx_lst dxa_nil) (dxa_cons (dx_tup (dxa_cons (dx_tup (dxa_cons dx_int (dxa_cons dx_bl dxa_nil))) dxa_nil)) (dxa_cons (dx_lst (dxa_cons (dx_tup (dxa_cons dx_int (dxa_cons dx_bl dxa_nil))) dxa_nil)) (dxa_cons (dx_lst (dxa_cons (dx_tup (dxa_cons (dx_sub dx_int dx_int) (dxa_cons dx_bl dxa_nil))) dxa_nil)) (dxa_cons (dx_lst (dxa_cons (dx_tup (dxa_cons dx_bl (dxa_cons dx_bl dxa_nil))) dxa_nil)) (dxa_cons (dx_lst (dxa_cons (dx_tup (dxa_cons dx_int (dxa_cons dx_int dxa_nil))) dxa_nil)) (dxa_cons (dx_lst (dxa_cons (dx_tup (dxa_cons dx_int (dxa_cons dx_non dxa_nil))) dxa_nil)) (dxa_cons (dx_lst (dxa_cons (dx_tup (dxa_cons dx_int dxa_nil)) dxa_nil)) (dxa_cons (dx_lst (dxa_cons (dx_lst (dxa_cons dx_int (dxa_cons dx_bl dxa_nil))) dxa_nil)) (dxa_cons (dx_mul (dx_lst (dxa_cons (dx_tup (dxa_cons dx_int (dxa_cons dx_bl dxa_nil))) dxa_nil)) dx_int) (dxa_cons (dx_lst (dxa_cons dx_non dxa_nil)) dxa_nil)))))))))))))))) (dg_name 2 sc.nd) (dss_cons (ds_if (DXW.t (dxw_or (dxt_cmp cm_notB (dx_fn (ok_is_things T) (hr.mono (by decide)) T.m_is_things T.F_is_things.kp T.b_is_things tk (dxa_cons (dx_var 2 (pv 2)) dxa_nil)) dx_bl) (dxw_or1 (dxt_cmp (cm_ne (Nat.lt_of_succ_lt hu)) (dx_new (dxf_lc0 (own := [("_law_k", 4)]) rfl sc.nd (di_range1 T.n_range (dxa_cons dx_int dxa_nil)) (blkOk_by (N := N_law) (sc := defScope s_law) (by decide +kernel)) (fun _ _ _ _ _ => (dg_name 4 sc.nd)) (fun _ _ _ _ _ => (dx_fn (ok_law_asked T) (hr.mono (by decide)) T.m_law_asked T.F_law_asked.kp T.b_law_asked takesN (dxa_cons dx_int (dxa_cons (dx_var 4 (pv 4)) (dxa_cons (dx_var 2 (pv 2)) (dxa_cons dx_int (dxa_cons dx_int dxa_nil))))))))) (dx_mul (dx_lst (dxa_cons (dx_str) dxa_nil)) dx_int))))) (dss_one (ds_ret dx_bl)) dss_nil)
  (dss_one (ds_if (dxt_cmp (cm_ne (Nat.lt_of_succ_lt hu)) (dx_new (dxf_lc0 (own := [("_law_k", 4)]) rfl sc.nd (di_range1 T.n_range (dxa_cons dx_int dxa_nil)) (blkOk_by (N := N_law) (sc := defScope s_law) (by decide +kernel)) (fun _ _ _ _ _ => (dg_name 4 sc.nd)) (fun _ _ _ _ _ => (dx_fn (ok_law_asked T) (hr.mono (by decide)) T.m_law_asked T.F_law_asked.kp T.b_law_asked takesN (dxa_cons dx_int (dxa_cons (dx_var 4 (pv 4)) (dxa_cons (dx_var 2 (pv 2)) (dxa_cons dx_non (dxa_cons dx_non dxa_nil))))))))) (dx_mul (dx_lst (dxa_cons (dx_str) dxa_nil)) dx_int)) (dss_one (ds_ret dx_bl)) dss_nil))))
  (dss_cons (ds_set 3 sc.nd (dx_lst (dxa_cons (dx_tup (dxa_cons dx_int (dxa_cons dx_bl dxa_nil))) (dxa_cons (dx_tup (dxa_cons dx_int (dxa_cons dx_bl dxa_nil))) (dxa_cons (dx_tup (dxa_cons (dx_fnS (ok_law_draw T) (hr.mono (by decide)) T.m_law_draw T.F_law_draw.kp T.b_law_draw tk (dxa_cons (dx_var 1 (pv 1)) (dxa_cons dx_int dxa_nil))) (dxa_cons dx_bl dxa_nil))) (dxa_cons (dx_tup (dxa_cons dx_int (dxa_cons dx_bl dxa_nil))) dxa_nil))))))
  (dss_cons (ds_if (DXW.t (dxw_or (dxt_cmp (cm_ne (Nat.lt_of_succ_lt hu)) (dx_new (dxf_lc0 (own := [("_law_k", 4)]) rfl sc.nd (di_range1 T.n_range (dxa_cons dx_int dxa_nil)) (blkOk_by (N := N_law) (sc := defScope s_law) (by decide +kernel)) (fun _ _ _ _ _ => (dg_name 4 sc.nd)) (fun _ _ _ _ _ => (dx_fn (ok_law_asked T) (hr.mono (by decide)) T.m_law_asked T.F_law_asked.kp T.b_law_asked takesN (dxa_cons dx_int (dxa_cons (dx_var 4 (pv 4)) (dxa_cons (dx_var 3 (pv 3)) (dxa_cons dx_int (dxa_cons dx_int dxa_nil))))))))) (dx_mul (dx_lst (dxa_cons (dx_str) dxa_nil)) dx_int)) (dxw_or1 (dxt_cmp (cm_ne (Nat.lt_of_succ_lt hu)) (dx_fn (ok_law_asked T) (hr.mono (by decide)) T.m_law_asked T.F_law_asked.kp T.b_law_asked tk (dxa_cons dx_int (dxa_cons dx_int (dxa_cons (dx_mul (dx_lst (dxa_cons (dx_tup (dxa_cons dx_int (dxa_cons dx_bl dxa_nil))) dxa_nil)) dx_int) (dxa_cons dx_int (dxa_cons dx_int dxa_nil)))))) (dx_str))))) (dss_one (ds_ret dx_bl)) dss_nil)
  (dss_cons (ds_if (DXW.t (dxw_or (dxt_cmp (cm_ne (Nat.lt_of_succ_lt hu)) (dx_new (dxf_lc0 (own := [("_law_mark", 5)]) rfl sc.nd (di_tup (dx_tup (dxa_cons dx_bl (dxa_cons dx_bl dxa_nil)))) (blkOk_by (N := N_law) (sc := defScope s_law) (by decide +kernel)) (fun _ _ _ _ _ => (dg_name 5 sc.nd)) (fun _ _ _ _ _ => (dx_fn (ok_law_asked T) (hr.mono (by decide)) T.m_law_asked T.F_law_asked.kp T.b_law_asked takesN (dxa_cons dx_int (dxa_cons dx_int (dxa_cons (dx_mul (dx_lst (dxa_cons (dx_tup (dxa_cons dx_int (dxa_cons (dx_var 5 (pv 5)) dxa_nil))) dxa_nil)) dx_int) (dxa_cons dx_int (dxa_cons dx_int dxa_nil))))))))) (dx_mul (dx_lst (dxa_cons (dx_str) dxa_nil)) dx_int)) (dxw_or1 (dxt_cmp cm_notB (dx_fn (ok_is_things T) (hr.mono (by decide)) T.m_is_things T.F_is_things.kp T.b_is_things tk (dxa_cons (dx_mul (dx_lst (dxa_cons (dx_tup (dxa_cons dx_int (dxa_cons dx_bl dxa_nil))) dxa_nil)) dx_int) dxa_nil)) dx_bl)))) (dss_one (ds_ret dx_bl)) dss_nil)
  (dss_cons (ds_if (dxt_cmp (cm_ne (Nat.lt_of_succ_lt hu)) (dx_new (dxf_lc0 (own := [("_law_bad", 2)]) rfl sc.nd (di_tup (dx_tup (dxa_cons dx_non (dxa_cons (dx_tup (dxa_cons dx_int (dxa_cons dx_int dxa_nil))) (dxa_cons (dx_lst (dxa_cons dx_int (dxa_cons dx_int dxa_nil))) (dxa_cons (dx_str) dxa_nil)))))) (blkOk_by (N := N_law) (sc := defScope s_law) (by decide +kernel)) (fun _ _ _ _ _ => (dg_name 2 sc.nd)) (fun _ _ _ _ _ => (dx_fn (ok_law_asked T) (hr.mono (by decide)) T.m_law_asked T.F_law_asked.kp T.b_law_asked takesN (dxa_cons dx_int (dxa_cons dx_int (dxa_cons (dx_var 3 (pv 3)) (dxa_cons (dx_var 2 (pv 2)) (dxa_cons dx_int dxa_nil))))))))) (dx_mul (dx_lst (dxa_cons (dx_str) dxa_nil)) dx_int)) (dss_one (ds_ret dx_bl)) dss_nil)
  (dss_one (ds_ret (dx_fn (ok_law_limits T) (hr.mono (by decide)) T.m_law_limits T.F_law_limits.kp T.b_law_limits tk (dxa_cons (dx_var 3 (pv 3)) dxa_nil)))))))))⟩
end

end Lw
namespace Lw
open PySem L2 DL

def A16 : FS DSt := (sFor (lList (eLst (aCons (eC .none) (aCons (eC (.int 5)) (aCons (eTup aNil) (aCons (eLst aNil) (aCons (eTup (aCons (eTup (aCons (eC (.int 1)) (aCons (eC (.bool true)) aNil))) aNil)) (aCons (eLst (aCons (eTup (aCons (eC (.int 100)) (aCons (eC (.bool true)) aNil))) aNil)) (aCons (eLst (aCons (eTup (aCons (eOp subD (eC (.int 0)) (eC (.int 1))) (aCons (eC (.bool true)) aNil))) aNil)) (aCons (eLst (aCons (eTup (aCons (eC (.bool true)) (aCons (eC (.bool true)) aNil))) aNil)) (aCons (eLst (aCons (eTup (aCons (eC (.int 1)) (aCons (eC (.int 1)) aNil))) aNil)) (aCons (eLst (aCons (eTup (aCons (eC (.int 1)) (aCons (eC .none) aNil))) aNil)) (aCons (eLst (aCons (eTup (aCons (eC (.int 1)) aNil)) aNil)) (aCons (eLst (aCons (eLst (aCons (eC (.int 1)) (aCons (eC (.bool true)) aNil))) aNil)) (aCons (eOp mulD (eLst (aCons (eTup (aCons (eC (.int 0)) (aCons (eC (.bool true)) aNil))) aNil)) (eC (.int 13))) (aCons (eLst (aCons (eC .none) aNil)) aNil)))))))))))))))) (pNm 2) (sSeq (sIf (fOr (fun ρ s => tstOf ((eOp notBD (eFn 1 sem_is_things (aCons (eVar 2) aNil)) (eC (.bool false))) ρ s)) (fun ρ s => tstOf ((eOp neD (eNew (lComp (lRng1 (aCons (eC (.int 18)) aNil)) [4] (pNm 4) fYes (eFn 5 sem_law_asked (aCons (eC (.int 1)) (aCons (eVar 4) (aCons (eVar 2) (aCons (eC (.int 0)) (aCons (eC (.int 0)) aNil)))))))) (eOp mulD (eLst (aCons (eC (.str "things")) aNil)) (eC (.int 18)))) ρ s))) (sRet (eC (.bool false))) sNil)
  (sIf (fun ρ s => tstOf ((eOp neD (eNew (lComp (lRng1 (aCons (eC (.int 15)) aNil)) [4] (pNm 4) fYes (eFn 5 sem_law_asked (aCons (eC (.int 2)) (aCons (eVar 4) (aCons (eVar 2) (aCons (eC .none) (aCons (eC .none) aNil)))))))) (eOp mulD (eLst (aCons (eC (.str "things")) aNil)) (eC (.int 15)))) ρ s)) (sRet (eC (.bool false))) sNil)))
def B16 : FS DSt := (sSet 3 (eLst (aCons (eTup (aCons (eC (.int 9)) (aCons (eC (.bool true)) aNil))) (aCons (eTup (aCons (eC (.int 7)) (aCons (eC (.bool false)) aNil))) (aCons (eTup (aCons (eFnS 2 drawSem (aCons (eVar 1) (aCons (eC (.int 99)) aNil))) (aCons (eC (.bool true)) aNil))) (aCons (eTup (aCons (eC (.int 5)) (aCons (eC (.bool false)) aNil))) aNil))))))
def R16 : FS DSt := (sSeq (sIf (fOr (fun ρ s => tstOf ((eOp neD (eNew (lComp (lRng1 (aCons (eC (.int 18)) aNil)) [4] (pNm 4) fYes (eFn 5 sem_law_asked (aCons (eC (.int 1)) (aCons (eVar 4) (aCons (eVar 3) (aCons (eC (.int 0)) (aCons (eC (.int 0)) aNil)))))))) (eOp mulD (eLst (aCons (eC (.str "done")) aNil)) (eC (.int 18)))) ρ s)) (fun ρ s => tstOf ((eOp neD (eFn 5 sem_law_asked (aCons (eC (.int 2)) (aCons (eC (.int 12)) (aCons (eOp mulD (eLst (aCons (eTup (aCons (eC (.int 0)) (aCons (eC (.bool true)) aNil))) aNil)) (eC (.int 12))) (aCons (eC (.int 0)) (aCons (eC (.int 0)) aNil)))))) (eC (.str "things"))) ρ s))) (sRet (eC (.bool false))) sNil)
  (sSeq (sIf (fOr (fun ρ s => tstOf ((eOp neD (eNew (lComp (lTup (eTup (aCons (eC (.bool true)) (aCons (eC (.bool false)) aNil)))) [5] (pNm 5) fYes (eFn 5 sem_law_asked (aCons (eC (.int 1)) (aCons (eC (.int 17)) (aCons (eOp mulD (eLst (aCons (eTup (aCons (eC (.int 1)) (aCons (eVar 5) aNil))) aNil)) (eC (.int 3))) (aCons (eC (.int 0)) (aCons (eC (.int 0)) aNil)))))))) (eOp mulD (eLst (aCons (eC (.str "none")) aNil)) (eC (.int 2)))) ρ s)) (fun ρ s => tstOf ((eOp notBD (eFn 1 sem_is_things (aCons (eOp mulD (eLst (aCons (eTup (aCons (eC (.int 99)) (aCons (eC (.bool false)) aNil))) aNil)) (eC (.int 12))) aNil)) (eC (.bool true))) ρ s))) (sRet (eC (.bool false))) sNil)
  (sSeq (sIf (fun ρ s => tstOf ((eOp neD (eNew (lComp (lTup (eTup (aCons (eC .none) (aCons (eTup (aCons (eC (.int 9)) (aCons (eC (.int 9)) aNil))) (aCons (eLst (aCons (eC (.int 0)) (aCons (eC (.int 0)) aNil))) (aCons (eC (.str "x")) aNil)))))) [2] (pNm 2) fYes (eFn 5 sem_law_asked (aCons (eC (.int 2)) (aCons (eC (.int 14)) (aCons (eVar 3) (aCons (eVar 2) (aCons (eC (.int 0)) aNil)))))))) (eOp mulD (eLst (aCons (eC (.str "none")) aNil)) (eC (.int 4)))) ρ s)) (sRet (eC (.bool false))) sNil)
  (sRet (eFn 1 sem_law_limits (aCons (eVar 3) aNil))))))
def e16 (ad : Addr) (b t : Sl) : DL.Env := [.no, .v (.ref ad), b, t, .no, .no]
theorem a16 (ad : Addr) (s : DSt) : A16 (e16 ad .no .no) s = .nx (e16 ad (.d (.list [.none])) .no) s := by kernel_rfl
def th16 (r : Int) : D := .list [.tuple [.int 9, .bool true], .tuple [.int 7, .bool false], .tuple [.int r, .bool true], .tuple [.int 5, .bool false]]
theorem r16_0 (ad : Addr) (s : DSt) : R16 (e16 ad (.d (.list [.none])) (.d (th16 0))) s = .rt (.d (.bool true)) s := by kernel_rfl
theorem r16_1 (ad : Addr) (s : DSt) : R16 (e16 ad (.d (.list [.none])) (.d (th16 1))) s = .rt (.d (.bool true)) s := by kernel_rfl
theorem r16_2 (ad : Addr) (s : DSt) : R16 (e16 ad (.d (.list [.none])) (.d (th16 2))) s = .rt (.d (.bool true)) s := by kernel_rfl
theorem r16_3 (ad : Addr) (s : DSt) : R16 (e16 ad (.d (.list [.none])) (.d (th16 3))) s = .rt (.d (.bool true)) s := by kernel_rfl
theorem r16_4 (ad : Addr) (s : DSt) : R16 (e16 ad (.d (.list [.none])) (.d (th16 4))) s = .rt (.d (.bool true)) s := by kernel_rfl
theorem r16_5 (ad : Addr) (s : DSt) : R16 (e16 ad (.d (.list [.none])) (.d (th16 5))) s = .rt (.d (.bool true)) s := by kernel_rfl
theorem r16_6 (ad : Addr) (s : DSt) : R16 (e16 ad (.d (.list [.none])) (.d (th16 6))) s = .rt (.d (.bool true)) s := by kernel_rfl
theorem r16_7 (ad : Addr) (s : DSt) : R16 (e16 ad (.d (.list [.none])) (.d (th16 7))) s = .rt (.d (.bool true)) s := by kernel_rfl
theorem r16_8 (ad : Addr) (s : DSt) : R16 (e16 ad (.d (.list [.none])) (.d (th16 8))) s = .rt (.d (.bool true)) s := by kernel_rfl
theorem r16_9 (ad : Addr) (s : DSt) : R16 (e16 ad (.d (.list [.none])) (.d (th16 9))) s = .rt (.d (.bool true)) s := by kernel_rfl
theorem r16_10 (ad : Addr) (s : DSt) : R16 (e16 ad (.d (.list [.none])) (.d (th16 10))) s = .rt (.d (.bool true)) s := by kernel_rfl
theorem r16_11 (ad : Addr) (s : DSt) : R16 (e16 ad (.d (.list [.none])) (.d (th16 11))) s = .rt (.d (.bool true)) s := by kernel_rfl
theorem r16_12 (ad : Addr) (s : DSt) : R16 (e16 ad (.d (.list [.none])) (.d (th16 12))) s = .rt (.d (.bool true)) s := by kernel_rfl
theorem r16_13 (ad : Addr) (s : DSt) : R16 (e16 ad (.d (.list [.none])) (.d (th16 13))) s = .rt (.d (.bool true)) s := by kernel_rfl
theorem r16_14 (ad : Addr) (s : DSt) : R16 (e16 ad (.d (.list [.none])) (.d (th16 14))) s = .rt (.d (.bool true)) s := by kernel_rfl
theorem r16_15 (ad : Addr) (s : DSt) : R16 (e16 ad (.d (.list [.none])) (.d (th16 15))) s = .rt (.d (.bool true)) s := by kernel_rfl
theorem r16_16 (ad : Addr) (s : DSt) : R16 (e16 ad (.d (.list [.none])) (.d (th16 16))) s = .rt (.d (.bool true)) s := by kernel_rfl
theorem r16_17 (ad : Addr) (s : DSt) : R16 (e16 ad (.d (.list [.none])) (.d (th16 17))) s = .rt (.d (.bool true)) s := by kernel_rfl
theorem r16_18 (ad : Addr) (s : DSt) : R16 (e16 ad (.d (.list [.none])) (.d (th16 18))) s = .rt (.d (.bool true)) s := by kernel_rfl
theorem r16_19 (ad : Addr) (s : DSt) : R16 (e16 ad (.d (.list [.none])) (.d (th16 19))) s = .rt (.d (.bool true)) s := by kernel_rfl
theorem r16_20 (ad : Addr) (s : DSt) : R16 (e16 ad (.d (.list [.none])) (.d (th16 20))) s = .rt (.d (.bool true)) s := by kernel_rfl
theorem r16_21 (ad : Addr) (s : DSt) : R16 (e16 ad (.d (.list [.none])) (.d (th16 21))) s = .rt (.d (.bool true)) s := by kernel_rfl
theorem r16_22 (ad : Addr) (s : DSt) : R16 (e16 ad (.d (.list [.none])) (.d (th16 22))) s = .rt (.d (.bool true)) s := by kernel_rfl
theorem r16_23 (ad : Addr) (s : DSt) : R16 (e16 ad (.d (.list [.none])) (.d (th16 23))) s = .rt (.d (.bool true)) s := by kernel_rfl
theorem r16_24 (ad : Addr) (s : DSt) : R16 (e16 ad (.d (.list [.none])) (.d (th16 24))) s = .rt (.d (.bool true)) s := by kernel_rfl
theorem r16_25 (ad : Addr) (s : DSt) : R16 (e16 ad (.d (.list [.none])) (.d (th16 25))) s = .rt (.d (.bool true)) s := by kernel_rfl
theorem r16_26 (ad : Addr) (s : DSt) : R16 (e16 ad (.d (.list [.none])) (.d (th16 26))) s = .rt (.d (.bool true)) s := by kernel_rfl
theorem r16_27 (ad : Addr) (s : DSt) : R16 (e16 ad (.d (.list [.none])) (.d (th16 27))) s = .rt (.d (.bool true)) s := by kernel_rfl
theorem r16_28 (ad : Addr) (s : DSt) : R16 (e16 ad (.d (.list [.none])) (.d (th16 28))) s = .rt (.d (.bool true)) s := by kernel_rfl
theorem r16_29 (ad : Addr) (s : DSt) : R16 (e16 ad (.d (.list [.none])) (.d (th16 29))) s = .rt (.d (.bool true)) s := by kernel_rfl
theorem r16_30 (ad : Addr) (s : DSt) : R16 (e16 ad (.d (.list [.none])) (.d (th16 30))) s = .rt (.d (.bool true)) s := by kernel_rfl
theorem r16_31 (ad : Addr) (s : DSt) : R16 (e16 ad (.d (.list [.none])) (.d (th16 31))) s = .rt (.d (.bool true)) s := by kernel_rfl
theorem r16_32 (ad : Addr) (s : DSt) : R16 (e16 ad (.d (.list [.none])) (.d (th16 32))) s = .rt (.d (.bool true)) s := by kernel_rfl
theorem r16_33 (ad : Addr) (s : DSt) : R16 (e16 ad (.d (.list [.none])) (.d (th16 33))) s = .rt (.d (.bool true)) s := by kernel_rfl
theorem r16_34 (ad : Addr) (s : DSt) : R16 (e16 ad (.d (.list [.none])) (.d (th16 34))) s = .rt (.d (.bool true)) s := by kernel_rfl
theorem r16_35 (ad : Addr) (s : DSt) : R16 (e16 ad (.d (.list [.none])) (.d (th16 35))) s = .rt (.d (.bool true)) s := by kernel_rfl
theorem r16_36 (ad : Addr) (s : DSt) : R16 (e16 ad (.d (.list [.none])) (.d (th16 36))) s = .rt (.d (.bool true)) s := by kernel_rfl
theorem r16_37 (ad : Addr) (s : DSt) : R16 (e16 ad (.d (.list [.none])) (.d (th16 37))) s = .rt (.d (.bool true)) s := by kernel_rfl
theorem r16_38 (ad : Addr) (s : DSt) : R16 (e16 ad (.d (.list [.none])) (.d (th16 38))) s = .rt (.d (.bool true)) s := by kernel_rfl
theorem r16_39 (ad : Addr) (s : DSt) : R16 (e16 ad (.d (.list [.none])) (.d (th16 39))) s = .rt (.d (.bool true)) s := by kernel_rfl
theorem r16_40 (ad : Addr) (s : DSt) : R16 (e16 ad (.d (.list [.none])) (.d (th16 40))) s = .rt (.d (.bool true)) s := by kernel_rfl
theorem r16_41 (ad : Addr) (s : DSt) : R16 (e16 ad (.d (.list [.none])) (.d (th16 41))) s = .rt (.d (.bool true)) s := by kernel_rfl
theorem r16_42 (ad : Addr) (s : DSt) : R16 (e16 ad (.d (.list [.none])) (.d (th16 42))) s = .rt (.d (.bool true)) s := by kernel_rfl
theorem r16_43 (ad : Addr) (s : DSt) : R16 (e16 ad (.d (.list [.none])) (.d (th16 43))) s = .rt (.d (.bool true)) s := by kernel_rfl
theorem r16_44 (ad : Addr) (s : DSt) : R16 (e16 ad (.d (.list [.none])) (.d (th16 44))) s = .rt (.d (.bool true)) s := by kernel_rfl
theorem r16_45 (ad : Addr) (s : DSt) : R16 (e16 ad (.d (.list [.none])) (.d (th16 45))) s = .rt (.d (.bool true)) s := by kernel_rfl
theorem r16_46 (ad : Addr) (s : DSt) : R16 (e16 ad (.d (.list [.none])) (.d (th16 46))) s = .rt (.d (.bool true)) s := by kernel_rfl
theorem r16_47 (ad : Addr) (s : DSt) : R16 (e16 ad (.d (.list [.none])) (.d (th16 47))) s = .rt (.d (.bool true)) s := by kernel_rfl
theorem r16_48 (ad : Addr) (s : DSt) : R16 (e16 ad (.d (.list [.none])) (.d (th16 48))) s = .rt (.d (.bool true)) s := by kernel_rfl
theorem r16_49 (ad : Addr) (s : DSt) : R16 (e16 ad (.d (.list [.none])) (.d (th16 49))) s = .rt (.d (.bool true)) s := by kernel_rfl
theorem r16_50 (ad : Addr) (s : DSt) : R16 (e16 ad (.d (.list [.none])) (.d (th16 50))) s = .rt (.d (.bool true)) s := by kernel_rfl
theorem r16_51 (ad : Addr) (s : DSt) : R16 (e16 ad (.d (.list [.none])) (.d (th16 51))) s = .rt (.d (.bool true)) s := by kernel_rfl
theorem r16_52 (ad : Addr) (s : DSt) : R16 (e16 ad (.d (.list [.none])) (.d (th16 52))) s = .rt (.d (.bool true)) s := by kernel_rfl
theorem r16_53 (ad : Addr) (s : DSt) : R16 (e16 ad (.d (.list [.none])) (.d (th16 53))) s = .rt (.d (.bool true)) s := by kernel_rfl
theorem r16_54 (ad : Addr) (s : DSt) : R16 (e16 ad (.d (.list [.none])) (.d (th16 54))) s = .rt (.d (.bool true)) s := by kernel_rfl
theorem r16_55 (ad : Addr) (s : DSt) : R16 (e16 ad (.d (.list [.none])) (.d (th16 55))) s = .rt (.d (.bool true)) s := by kernel_rfl
theorem r16_56 (ad : Addr) (s : DSt) : R16 (e16 ad (.d (.list [.none])) (.d (th16 56))) s = .rt (.d (.bool true)) s := by kernel_rfl
theorem r16_57 (ad : Addr) (s : DSt) : R16 (e16 ad (.d (.list [.none])) (.d (th16 57))) s = .rt (.d (.bool true)) s := by kernel_rfl
theorem r16_58 (ad : Addr) (s : DSt) : R16 (e16 ad (.d (.list [.none])) (.d (th16 58))) s = .rt (.d (.bool true)) s := by kernel_rfl
theorem r16_59 (ad : Addr) (s : DSt) : R16 (e16 ad (.d (.list [.none])) (.d (th16 59))) s = .rt (.d (.bool true)) s := by kernel_rfl
theorem r16_60 (ad : Addr) (s : DSt) : R16 (e16 ad (.d (.list [.none])) (.d (th16 60))) s = .rt (.d (.bool true)) s := by kernel_rfl
theorem r16_61 (ad : Addr) (s : DSt) : R16 (e16 ad (.d (.list [.none])) (.d (th16 61))) s = .rt (.d (.bool true)) s := by kernel_rfl
theorem r16_62 (ad : Addr) (s : DSt) : R16 (e16 ad (.d (.list [.none])) (.d (th16 62))) s = .rt (.d (.bool true)) s := by kernel_rfl
theorem r16_63 (ad : Addr) (s : DSt) : R16 (e16 ad (.d (.list [.none])) (.d (th16 63))) s = .rt (.d (.bool true)) s := by kernel_rfl
theorem r16_64 (ad : Addr) (s : DSt) : R16 (e16 ad (.d (.list [.none])) (.d (th16 64))) s = .rt (.d (.bool true)) s := by kernel_rfl
theorem r16_65 (ad : Addr) (s : DSt) : R16 (e16 ad (.d (.list [.none])) (.d (th16 65))) s = .rt (.d (.bool true)) s := by kernel_rfl
theorem r16_66 (ad : Addr) (s : DSt) : R16 (e16 ad (.d (.list [.none])) (.d (th16 66))) s = .rt (.d (.bool true)) s := by kernel_rfl
theorem r16_67 (ad : Addr) (s : DSt) : R16 (e16 ad (.d (.list [.none])) (.d (th16 67))) s = .rt (.d (.bool true)) s := by kernel_rfl
theorem r16_68 (ad : Addr) (s : DSt) : R16 (e16 ad (.d (.list [.none])) (.d (th16 68))) s = .rt (.d (.bool true)) s := by kernel_rfl
theorem r16_69 (ad : Addr) (s : DSt) : R16 (e16 ad (.d (.list [.none])) (.d (th16 69))) s = .rt (.d (.bool true)) s := by kernel_rfl
theorem r16_70 (ad : Addr) (s : DSt) : R16 (e16 ad (.d (.list [.none])) (.d (th16 70))) s = .rt (.d (.bool true)) s := by kernel_rfl
theorem r16_71 (ad : Addr) (s : DSt) : R16 (e16 ad (.d (.list [.none])) (.d (th16 71))) s = .rt (.d (.bool true)) s := by kernel_rfl
theorem r16_72 (ad : Addr) (s : DSt) : R16 (e16 ad (.d (.list [.none])) (.d (th16 72))) s = .rt (.d (.bool true)) s := by kernel_rfl
theorem r16_73 (ad : Addr) (s : DSt) : R16 (e16 ad (.d (.list [.none])) (.d (th16 73))) s = .rt (.d (.bool true)) s := by kernel_rfl
theorem r16_74 (ad : Addr) (s : DSt) : R16 (e16 ad (.d (.list [.none])) (.d (th16 74))) s = .rt (.d (.bool true)) s := by kernel_rfl
theorem r16_75 (ad : Addr) (s : DSt) : R16 (e16 ad (.d (.list [.none])) (.d (th16 75))) s = .rt (.d (.bool true)) s := by kernel_rfl
theorem r16_76 (ad : Addr) (s : DSt) : R16 (e16 ad (.d (.list [.none])) (.d (th16 76))) s = .rt (.d (.bool true)) s := by kernel_rfl
theorem r16_77 (ad : Addr) (s : DSt) : R16 (e16 ad (.d (.list [.none])) (.d (th16 77))) s = .rt (.d (.bool true)) s := by kernel_rfl
theorem r16_78 (ad : Addr) (s : DSt) : R16 (e16 ad (.d (.list [.none])) (.d (th16 78))) s = .rt (.d (.bool true)) s := by kernel_rfl
theorem r16_79 (ad : Addr) (s : DSt) : R16 (e16 ad (.d (.list [.none])) (.d (th16 79))) s = .rt (.d (.bool true)) s := by kernel_rfl
theorem r16_80 (ad : Addr) (s : DSt) : R16 (e16 ad (.d (.list [.none])) (.d (th16 80))) s = .rt (.d (.bool true)) s := by kernel_rfl
theorem r16_81 (ad : Addr) (s : DSt) : R16 (e16 ad (.d (.list [.none])) (.d (th16 81))) s = .rt (.d (.bool true)) s := by kernel_rfl
theorem r16_82 (ad : Addr) (s : DSt) : R16 (e16 ad (.d (.list [.none])) (.d (th16 82))) s = .rt (.d (.bool true)) s := by kernel_rfl
theorem r16_83 (ad : Addr) (s : DSt) : R16 (e16 ad (.d (.list [.none])) (.d (th16 83))) s = .rt (.d (.bool true)) s := by kernel_rfl
theorem r16_84 (ad : Addr) (s : DSt) : R16 (e16 ad (.d (.list [.none])) (.d (th16 84))) s = .rt (.d (.bool true)) s := by kernel_rfl
theorem r16_85 (ad : Addr) (s : DSt) : R16 (e16 ad (.d (.list [.none])) (.d (th16 85))) s = .rt (.d (.bool true)) s := by kernel_rfl
theorem r16_86 (ad : Addr) (s : DSt) : R16 (e16 ad (.d (.list [.none])) (.d (th16 86))) s = .rt (.d (.bool true)) s := by kernel_rfl
theorem r16_87 (ad : Addr) (s : DSt) : R16 (e16 ad (.d (.list [.none])) (.d (th16 87))) s = .rt (.d (.bool true)) s := by kernel_rfl
theorem r16_88 (ad : Addr) (s : DSt) : R16 (e16 ad (.d (.list [.none])) (.d (th16 88))) s = .rt (.d (.bool true)) s := by kernel_rfl
theorem r16_89 (ad : Addr) (s : DSt) : R16 (e16 ad (.d (.list [.none])) (.d (th16 89))) s = .rt (.d (.bool true)) s := by kernel_rfl
theorem r16_90 (ad : Addr) (s : DSt) : R16 (e16 ad (.d (.list [.none])) (.d (th16 90))) s = .rt (.d (.bool true)) s := by kernel_rfl
theorem r16_91 (ad : Addr) (s : DSt) : R16 (e16 ad (.d (.list [.none])) (.d (th16 91))) s = .rt (.d (.bool true)) s := by kernel_rfl
theorem r16_92 (ad : Addr) (s : DSt) : R16 (e16 ad (.d (.list [.none])) (.d (th16 92))) s = .rt (.d (.bool true)) s := by kernel_rfl
theorem r16_93 (ad : Addr) (s : DSt) : R16 (e16 ad (.d (.list [.none])) (.d (th16 93))) s = .rt (.d (.bool true)) s := by kernel_rfl
theorem r16_94 (ad : Addr) (s : DSt) : R16 (e16 ad (.d (.list [.none])) (.d (th16 94))) s = .rt (.d (.bool true)) s := by kernel_rfl
theorem r16_95 (ad : Addr) (s : DSt) : R16 (e16 ad (.d (.list [.none])) (.d (th16 95))) s = .rt (.d (.bool true)) s := by kernel_rfl
theorem r16_96 (ad : Addr) (s : DSt) : R16 (e16 ad (.d (.list [.none])) (.d (th16 96))) s = .rt (.d (.bool true)) s := by kernel_rfl
theorem r16_97 (ad : Addr) (s : DSt) : R16 (e16 ad (.d (.list [.none])) (.d (th16 97))) s = .rt (.d (.bool true)) s := by kernel_rfl
theorem r16_98 (ad : Addr) (s : DSt) : R16 (e16 ad (.d (.list [.none])) (.d (th16 98))) s = .rt (.d (.bool true)) s := by kernel_rfl
theorem r16 (ad : Addr) (s : DSt) : ∀ n : Nat, n < 99 → R16 (e16 ad (.d (.list [.none])) (.d (th16 (n : Nat)))) s = .rt (.d (.bool true)) s
  | 0, _ => r16_0 ad s
  | 1, _ => r16_1 ad s
  | 2, _ => r16_2 ad s
  | 3, _ => r16_3 ad s
  | 4, _ => r16_4 ad s
  | 5, _ => r16_5 ad s
  | 6, _ => r16_6 ad s
  | 7, _ => r16_7 ad s
  | 8, _ => r16_8 ad s
  | 9, _ => r16_9 ad s
  | 10, _ => r16_10 ad s
  | 11, _ => r16_11 ad s
  | 12, _ => r16_12 ad s
  | 13, _ => r16_13 ad s
  | 14, _ => r16_14 ad s
  | 15, _ => r16_15 ad s
  | 16, _ => r16_16 ad s
  | 17, _ => r16_17 ad s
  | 18, _ => r16_18 ad s
  | 19, _ => r16_19 ad s
  | 20, _ => r16_20 ad s
  | 21, _ => r16_21 ad s
  | 22, _ => r16_22 ad s
  | 23, _ => r16_23 ad s
  | 24, _ => r16_24 ad s
  | 25, _ => r16_25 ad s
  | 26, _ => r16_26 ad s
  | 27, _ => r16_27 ad s
  | 28, _ => r16_28 ad s
  | 29, _ => r16_29 ad s
  | 30, _ => r16_30 ad s
  | 31, _ => r16_31 ad s
  | 32, _ => r16_32 ad s
  | 33, _ => r16_33 ad s
  | 34, _ => r16_34 ad s
  | 35, _ => r16_35 ad s
  | 36, _ => r16_36 ad s
  | 37, _ => r16_37 ad s
  | 38, _ => r16_38 ad s
  | 39, _ => r16_39 ad s
  | 40, _ => r16_40 ad s
  | 41, _ => r16_41 ad s
  | 42, _ => r16_42 ad s
  | 43, _ => r16_43 ad s
  | 44, _ => r16_44 ad s
  | 45, _ => r16_45 ad s
  | 46, _ => r16_46 ad s
  | 47, _ => r16_47 ad s
  | 48, _ => r16_48 ad s
  | 49, _ => r16_49 ad s
  | 50, _ => r16_50 ad s
  | 51, _ => r16_51 ad s
  | 52, _ => r16_52 ad s
  | 53, _ => r16_53 ad s
  | 54, _ => r16_54 ad s
  | 55, _ => r16_55 ad s
  | 56, _ => r16_56 ad s
  | 57, _ => r16_57 ad s
  | 58, _ => r16_58 ad s
  | 59, _ => r16_59 ad s
  | 60, _ => r16_60 ad s
  | 61, _ => r16_61 ad s
  | 62, _ => r16_62 ad s
  | 63, _ => r16_63 ad s
  | 64, _ => r16_64 ad s
  | 65, _ => r16_65 ad s
  | 66, _ => r16_66 ad s
  | 67, _ => r16_67 ad s
  | 68, _ => r16_68 ad s
  | 69, _ => r16_69 ad s
  | 70, _ => r16_70 ad s
  | 71, _ => r16_71 ad s
  | 72, _ => r16_72 ad s
  | 73, _ => r16_73 ad s
  | 74, _ => r16_74 ad s
  | 75, _ => r16_75 ad s
  | 76, _ => r16_76 ad s
  | 77, _ => r16_77 ad s
  | 78, _ => r16_78 ad s
  | 79, _ => r16_79 ad s
  | 80, _ => r16_80 ad s
  | 81, _ => r16_81 ad s
  | 82, _ => r16_82 ad s
  | 83, _ => r16_83 ad s
  | 84, _ => r16_84 ad s
  | 85, _ => r16_85 ad s
  | 86, _ => r16_86 ad s
  | 87, _ => r16_87 ad s
  | 88, _ => r16_88 ad s
  | 89, _ => r16_89 ad s
  | 90, _ => r16_90 ad s
  | 91, _ => r16_91 ad s
  | 92, _ => r16_92 ad s
  | 93, _ => r16_93 ad s
  | 94, _ => r16_94 ad s
  | 95, _ => r16_95 ad s
  | 96, _ => r16_96 ad s
  | 97, _ => r16_97 ad s
  | 98, _ => r16_98 ad s
  | n + 99, h => absurd h (by omega)
theorem law_math : ∀ (a b : Addr) (nums : List Int), nums ≠ [] → nums.length ≤ 63 → ∃ s', F_law (.no :: .v (.ref a) :: List.replicate 4 .no) ⟨a, b, nums, 0⟩ = .rt (.d (.bool true)) s' := by
  intro ad bd nums hn hl
  obtain ⟨r, s1, d, r0, r1, n1⟩ := draw_ok (k := 99) (s := ⟨ad, bd, nums, 0⟩) (by decide) (by decide) hn
  have b16 : B16 (e16 ad (.d (.list [.none])) .no) ⟨ad, bd, nums, 0⟩ = .nx (e16 ad (.d (.list [.none])) (.d (th16 r))) s1 :=
    ev_set (v := .d (th16 r)) (ev_lst (ds := [.tuple [.int 9, .bool true], .tuple [.int 7, .bool false], .tuple [.int r, .bool true], .tuple [.int 5, .bool false]]) (ev_cons rfl (ev_cons rfl (ev_cons (ev_tup (ds := [.int r, .bool true]) (ev_cons (ev_fnS (ds := [.int 99]) rfl rfl rfl rfl d n1) (ev_cons rfl rfl)) rfl (by show 2 ≤ lim; decide)) (ev_cons rfl rfl)))) rfl (by show 4 ≤ lim; decide))
  obtain ⟨n, rfl⟩ : ∃ n : Nat, r = (n : Nat) := ⟨r.toNat, by omega⟩
  refine ⟨s1, ?_⟩
  show sSeq A16 (sSeq B16 R16) (e16 ad .no .no) ⟨ad, bd, nums, 0⟩ = _
  exact ev_seq (a16 ad _) (ev_seq b16 (r16 ad s1 n (by omega)))

end Lw
namespace Lw
open PySem PySem.Spec PyProof.Rows L2 DL
theorem all_mk {l : PySem.W.OpenLaw} {w : World} {K : PySem.W.Frag} {h : Heap} {mg : Str → Option Value} {fa : Addr} (X : K.In h) (G : h.Ns mainGlobals mg) (hfa : mg "law" = some (.ref fa)) (hm : ∀ (a b : Addr) (nums : List Int), nums ≠ [] → nums.length ≤ 63 → ∃ s', F_law (.no :: .v (.ref a) :: List.replicate 4 .no) ⟨a, b, nums, 0⟩ = .rt (.d (.bool true)) s')
    {f0 : Addr} {od0 an0 : Option Addr} {sl0 : Array (Option Value)} {oc0 kV0 dc0 pm0 cd0 ct0 : Value}
    {f1 : Addr} {od1 an1 : Option Addr} {sl1 : Array (Option Value)} {oc1 kV1 dc1 pm1 cd1 ct1 : Value}
    {f2 : Addr} {od2 an2 : Option Addr} {sl2 : Array (Option Value)} {oc2 kV2 dc2 pm2 cd2 ct2 : Value}
    {f3 : Addr} {od3 an3 : Option Addr} {sl3 : Array (Option Value)} {oc3 kV3 dc3 pm3 cd3 ct3 : Value}
    {f4 : Addr} {od4 an4 : Option Addr} {sl4 : Array (Option Value)} {oc4 kV4 dc4 pm4 cd4 ct4 : Value}
    {f5 : Addr} {od5 an5 : Option Addr} {sl5 : Array (Option Value)} {oc5 kV5 dc5 pm5 cd5 ct5 : Value}
    {f6 : Addr} {od6 an6 : Option Addr} {sl6 : Array (Option Value)} {oc6 kV6 dc6 pm6 cd6 ct6 : Value}
    {f7 : Addr} {od7 an7 : Option Addr} {sl7 : Array (Option Value)} {oc7 kV7 dc7 pm7 cd7 ct7 : Value}
    {f8 : Addr} {od8 an8 : Option Addr} {sl8 : Array (Option Value)} {oc8 kV8 dc8 pm8 cd8 ct8 : Value}
    {f9 : Addr} {od9 an9 : Option Addr} {sl9 : Array (Option Value)} {oc9 kV9 dc9 pm9 cd9 ct9 : Value}
    {f10 : Addr} {od10 an10 : Option Addr} {sl10 : Array (Option Value)} {oc10 kV10 dc10 pm10 cd10 ct10 : Value}
    {f11 : Addr} {od11 an11 : Option Addr} {sl11 : Array (Option Value)} {oc11 kV11 dc11 pm11 cd11 ct11 : Value}
    {f12 : Addr} {od12 an12 : Option Addr} {sl12 : Array (Option Value)} {oc12 kV12 dc12 pm12 cd12 ct12 : Value}
    {f13 : Addr} {od13 an13 : Option Addr} {sl13 : Array (Option Value)} {oc13 kV13 dc13 pm13 cd13 ct13 : Value}
    {f14 : Addr} {od14 an14 : Option Addr} {sl14 : Array (Option Value)} {oc14 kV14 dc14 pm14 cd14 ct14 : Value}
    {f15 : Addr} {od15 an15 : Option Addr} {sl15 : Array (Option Value)} {oc15 kV15 dc15 pm15 cd15 ct15 : Value}
    {f16 : Addr} {od16 an16 : Option Addr} {sl16 : Array (Option Value)} {oc16 kV16 dc16 pm16 cd16 ct16 : Value}
    {f17 : Addr} {od17 an17 : Option Addr} {sl17 : Array (Option Value)} {oc17 kV17 dc17 pm17 cd17 ct17 : Value}
    {f18 : Addr} {od18 an18 : Option Addr} {sl18 : Array (Option Value)} {oc18 kV18 dc18 pm18 cd18 ct18 : Value}
    {f19 : Addr} {od19 an19 : Option Addr} {sl19 : Array (Option Value)} {oc19 kV19 dc19 pm19 cd19 ct19 : Value}
    {f20 : Addr} {od20 an20 : Option Addr} {sl20 : Array (Option Value)} {oc20 kV20 dc20 pm20 cd20 ct20 : Value}
    {f21 : Addr} {od21 an21 : Option Addr} {sl21 : Array (Option Value)} {oc21 kV21 dc21 pm21 cd21 ct21 : Value}
    {f22 : Addr} {od22 an22 : Option Addr} {sl22 : Array (Option Value)} {oc22 kV22 dc22 pm22 cd22 ct22 : Value}
    {f23 : Addr} {od23 an23 : Option Addr} {sl23 : Array (Option Value)} {oc23 kV23 dc23 pm23 cd23 ct23 : Value}
    {f24 : Addr} {od24 an24 : Option Addr} {sl24 : Array (Option Value)} {oc24 kV24 dc24 pm24 cd24 ct24 : Value}
    {f25 : Addr} {od25 an25 : Option Addr} {sl25 : Array (Option Value)} {oc25 kV25 dc25 pm25 cd25 ct25 : Value}
    {f26 : Addr} {od26 an26 : Option Addr} {sl26 : Array (Option Value)} {oc26 kV26 dc26 pm26 cd26 ct26 : Value}
    {f27 : Addr} {od27 an27 : Option Addr} {sl27 : Array (Option Value)} {oc27 kV27 dc27 pm27 cd27 ct27 : Value}
    {f28 : Addr} {od28 an28 : Option Addr} {sl28 : Array (Option Value)} {oc28 kV28 dc28 pm28 cd28 ct28 : Value}
    {f29 : Addr} {od29 an29 : Option Addr} {sl29 : Array (Option Value)} {oc29 kV29 dc29 pm29 cd29 ct29 : Value}
    {f30 : Addr} {od30 an30 : Option Addr} {sl30 : Array (Option Value)} {oc30 kV30 dc30 pm30 cd30 ct30 : Value}
    {f31 : Addr} {od31 an31 : Option Addr} {sl31 : Array (Option Value)} {oc31 kV31 dc31 pm31 cd31 ct31 : Value}
    {f32 : Addr} {od32 an32 : Option Addr} {sl32 : Array (Option Value)} {oc32 kV32 dc32 pm32 cd32 ct32 : Value}
    {f33 : Addr} {od33 an33 : Option Addr} {sl33 : Array (Option Value)} {oc33 kV33 dc33 pm33 cd33 ct33 : Value}
    {f34 : Addr} {od34 an34 : Option Addr} {sl34 : Array (Option Value)} {oc34 kV34 dc34 pm34 cd34 ct34 : Value}
    {f35 : Addr} {od35 an35 : Option Addr} {sl35 : Array (Option Value)} {oc35 kV35 dc35 pm35 cd35 ct35 : Value}
    {f36 : Addr} {od36 an36 : Option Addr} {sl36 : Array (Option Value)} {oc36 kV36 dc36 pm36 cd36 ct36 : Value}
    {f37 : Addr} {od37 an37 : Option Addr} {sl37 : Array (Option Value)} {oc37 kV37 dc37 pm37 cd37 ct37 : Value}
    {f38 : Addr} {od38 an38 : Option Addr} {sl38 : Array (Option Value)} {oc38 kV38 dc38 pm38 cd38 ct38 : Value}
    {f39 : Addr} {od39 an39 : Option Addr} {sl39 : Array (Option Value)} {oc39 kV39 dc39 pm39 cd39 ct39 : Value}
    {f40 : Addr} {od40 an40 : Option Addr} {sl40 : Array (Option Value)} {oc40 kV40 dc40 pm40 cd40 ct40 : Value}
    {f41 : Addr} {od41 an41 : Option Addr} {sl41 : Array (Option Value)} {oc41 kV41 dc41 pm41 cd41 ct41 : Value}
    {f42 : Addr} {od42 an42 : Option Addr} {sl42 : Array (Option Value)} {oc42 kV42 dc42 pm42 cd42 ct42 : Value}
    {f43 : Addr} {od43 an43 : Option Addr} {sl43 : Array (Option Value)} {oc43 kV43 dc43 pm43 cd43 ct43 : Value}
    {f44 : Addr} {od44 an44 : Option Addr} {sl44 : Array (Option Value)} {oc44 kV44 dc44 pm44 cd44 ct44 : Value}
    {f45 : Addr} {od45 an45 : Option Addr} {sl45 : Array (Option Value)} {oc45 kV45 dc45 pm45 cd45 ct45 : Value}
    {f46 : Addr} {od46 an46 : Option Addr} {sl46 : Array (Option Value)} {oc46 kV46 dc46 pm46 cd46 ct46 : Value}
    {f47 : Addr} {od47 an47 : Option Addr} {sl47 : Array (Option Value)} {oc47 kV47 dc47 pm47 cd47 ct47 : Value}
    {f48 : Addr} {od48 an48 : Option Addr} {sl48 : Array (Option Value)} {oc48 kV48 dc48 pm48 cd48 ct48 : Value}
    {f49 : Addr} {od49 an49 : Option Addr} {sl49 : Array (Option Value)} {oc49 kV49 dc49 pm49 cd49 ct49 : Value}
    {f50 : Addr} {od50 an50 : Option Addr} {sl50 : Array (Option Value)} {oc50 kV50 dc50 pm50 cd50 ct50 : Value}
    {f51 : Addr} {od51 an51 : Option Addr} {sl51 : Array (Option Value)} {oc51 kV51 dc51 pm51 cd51 ct51 : Value}
    {f52 : Addr} {od52 an52 : Option Addr} {sl52 : Array (Option Value)} {oc52 kV52 dc52 pm52 cd52 ct52 : Value}
    {f53 : Addr} {od53 an53 : Option Addr} {sl53 : Array (Option Value)} {oc53 kV53 dc53 pm53 cd53 ct53 : Value}
    {f54 : Addr} {od54 an54 : Option Addr} {sl54 : Array (Option Value)} {oc54 kV54 dc54 pm54 cd54 ct54 : Value}
    {f55 : Addr} {od55 an55 : Option Addr} {sl55 : Array (Option Value)} {oc55 kV55 dc55 pm55 cd55 ct55 : Value}
    {f56 : Addr} {od56 an56 : Option Addr} {sl56 : Array (Option Value)} {oc56 kV56 dc56 pm56 cd56 ct56 : Value}
    {f57 : Addr} {od57 an57 : Option Addr} {sl57 : Array (Option Value)} {oc57 kV57 dc57 pm57 cd57 ct57 : Value}
    {f58 : Addr} {od58 an58 : Option Addr} {sl58 : Array (Option Value)} {oc58 kV58 dc58 pm58 cd58 ct58 : Value}
    {f59 : Addr} {od59 an59 : Option Addr} {sl59 : Array (Option Value)} {oc59 kV59 dc59 pm59 cd59 ct59 : Value}
    {f60 : Addr} {od60 an60 : Option Addr} {sl60 : Array (Option Value)} {oc60 kV60 dc60 pm60 cd60 ct60 : Value}
    {f61 : Addr} {od61 an61 : Option Addr} {sl61 : Array (Option Value)} {oc61 kV61 dc61 pm61 cd61 ct61 : Value}
    {f62 : Addr} {od62 an62 : Option Addr} {sl62 : Array (Option Value)} {oc62 kV62 dc62 pm62 cd62 ct62 : Value}
    {f63 : Addr} {od63 an63 : Option Addr} {sl63 : Array (Option Value)} {oc63 kV63 dc63 pm63 cd63 ct63 : Value}
    {f64 : Addr} {od64 an64 : Option Addr} {sl64 : Array (Option Value)} {oc64 kV64 dc64 pm64 cd64 ct64 : Value}
    {f65 : Addr} {od65 an65 : Option Addr} {sl65 : Array (Option Value)} {oc65 kV65 dc65 pm65 cd65 ct65 : Value}
    {f66 : Addr} {od66 an66 : Option Addr} {sl66 : Array (Option Value)} {oc66 kV66 dc66 pm66 cd66 ct66 : Value}
    {f67 : Addr} {od67 an67 : Option Addr} {sl67 : Array (Option Value)} {oc67 kV67 dc67 pm67 cd67 ct67 : Value}
    {f68 : Addr} {od68 an68 : Option Addr} {sl68 : Array (Option Value)} {oc68 kV68 dc68 pm68 cd68 ct68 : Value}
    {f69 : Addr} {od69 an69 : Option Addr} {sl69 : Array (Option Value)} {oc69 kV69 dc69 pm69 cd69 ct69 : Value}
    {f70 : Addr} {od70 an70 : Option Addr} {sl70 : Array (Option Value)} {oc70 kV70 dc70 pm70 cd70 ct70 : Value}
    {f71 : Addr} {od71 an71 : Option Addr} {sl71 : Array (Option Value)} {oc71 kV71 dc71 pm71 cd71 ct71 : Value}
    {C0 : Addr}
    {C1 : Addr}
    {C2 : Addr}
    {C3 : Addr}
    {C4 : Addr}
    {t_MOST_SCORE : Nat}
    {t_MOST_THINGS : Nat}
    (a0 : PySem.W.nsIn K mainGlobals "is_int" = some (some (.ref f0))) (l0 : K.lookup f0 = some ⟨oc0, od0, .func (PySem.W.fnOf "is_int" "is_int" (defArgs s_is_int) (defBody s_is_int) (defScope s_is_int) .none kV0 dc0 pm0 an0 cd0 ct0), sl0⟩) (c0 : PySem.W.codeIn K cd0 "is_int" = true) (k0 : PySem.W.keepIn K (.ref f0) = true)
    (a1 : PySem.W.nsIn K mainGlobals "is_thing" = some (some (.ref f1))) (l1 : K.lookup f1 = some ⟨oc1, od1, .func (PySem.W.fnOf "is_thing" "is_thing" (defArgs s_is_thing) (defBody s_is_thing) (defScope s_is_thing) .none kV1 dc1 pm1 an1 cd1 ct1), sl1⟩) (c1 : PySem.W.codeIn K cd1 "is_thing" = true) (k1 : PySem.W.keepIn K (.ref f1) = true)
    (a2 : PySem.W.nsIn K mainGlobals "is_things" = some (some (.ref f2))) (l2 : K.lookup f2 = some ⟨oc2, od2, .func (PySem.W.fnOf "is_things" "is_things" (defArgs s_is_things) (defBody s_is_things) (defScope s_is_things) .none kV2 dc2 pm2 an2 cd2 ct2), sl2⟩) (c2 : PySem.W.codeIn K cd2 "is_things" = true) (k2 : PySem.W.keepIn K (.ref f2) = true)
    (a3 : PySem.W.nsIn K mainGlobals "check_things" = some (some (.ref f3))) (l3 : K.lookup f3 = some ⟨oc3, od3, .func (PySem.W.fnOf "check_things" "check_things" (defArgs s_check_things) (defBody s_check_things) (defScope s_check_things) .none kV3 dc3 pm3 an3 cd3 ct3), sl3⟩) (c3 : PySem.W.codeIn K cd3 "check_things" = true) (k3 : PySem.W.keepIn K (.ref f3) = true)
    (a4 : PySem.W.nsIn K mainGlobals "check_threshold" = some (some (.ref f4))) (l4 : K.lookup f4 = some ⟨oc4, od4, .func (PySem.W.fnOf "check_threshold" "check_threshold" (defArgs s_check_threshold) (defBody s_check_threshold) (defScope s_check_threshold) .none kV4 dc4 pm4 an4 cd4 ct4), sl4⟩) (c4 : PySem.W.codeIn K cd4 "check_threshold" = true) (k4 : PySem.W.keepIn K (.ref f4) = true)
    (a5 : PySem.W.nsIn K mainGlobals "check_cost" = some (some (.ref f5))) (l5 : K.lookup f5 = some ⟨oc5, od5, .func (PySem.W.fnOf "check_cost" "check_cost" (defArgs s_check_cost) (defBody s_check_cost) (defScope s_check_cost) .none kV5 dc5 pm5 an5 cd5 ct5), sl5⟩) (c5 : PySem.W.codeIn K cd5 "check_cost" = true) (k5 : PySem.W.keepIn K (.ref f5) = true)
    (a6 : PySem.W.nsIn K mainGlobals "counts" = some (some (.ref f6))) (l6 : K.lookup f6 = some ⟨oc6, od6, .func (PySem.W.fnOf "counts" "counts" (defArgs s_counts) (defBody s_counts) (defScope s_counts) .none kV6 dc6 pm6 an6 cd6 ct6), sl6⟩) (c6 : PySem.W.codeIn K cd6 "counts" = true) (k6 : PySem.W.keepIn K (.ref f6) = true)
    (a7 : PySem.W.nsIn K mainGlobals "alarms_at" = some (some (.ref f7))) (l7 : K.lookup f7 = some ⟨oc7, od7, .func (PySem.W.fnOf "alarms_at" "alarms_at" (defArgs s_alarms_at) (defBody s_alarms_at) (defScope s_alarms_at) .none kV7 dc7 pm7 an7 cd7 ct7), sl7⟩) (c7 : PySem.W.codeIn K cd7 "alarms_at" = true) (k7 : PySem.W.keepIn K (.ref f7) = true)
    (a8 : PySem.W.nsIn K mainGlobals "scores_of" = some (some (.ref f8))) (l8 : K.lookup f8 = some ⟨oc8, od8, .func (PySem.W.fnOf "scores_of" "scores_of" (defArgs s_scores_of) (defBody s_scores_of) (defScope s_scores_of) .none kV8 dc8 pm8 an8 cd8 ct8), sl8⟩) (c8 : PySem.W.codeIn K cd8 "scores_of" = true) (k8 : PySem.W.keepIn K (.ref f8) = true)
    (a9 : PySem.W.nsIn K mainGlobals "unlike_scores" = some (some (.ref f9))) (l9 : K.lookup f9 = some ⟨oc9, od9, .func (PySem.W.fnOf "unlike_scores" "unlike_scores" (defArgs s_unlike_scores) (defBody s_unlike_scores) (defScope s_unlike_scores) .none kV9 dc9 pm9 an9 cd9 ct9), sl9⟩) (c9 : PySem.W.codeIn K cd9 "unlike_scores" = true) (k9 : PySem.W.keepIn K (.ref f9) = true)
    (a10 : PySem.W.nsIn K mainGlobals "thresholds_of" = some (some (.ref f10))) (l10 : K.lookup f10 = some ⟨oc10, od10, .func (PySem.W.fnOf "thresholds_of" "thresholds_of" (defArgs s_thresholds_of) (defBody s_thresholds_of) (defScope s_thresholds_of) .none kV10 dc10 pm10 an10 cd10 ct10), sl10⟩) (c10 : PySem.W.codeIn K cd10 "thresholds_of" = true) (k10 : PySem.W.keepIn K (.ref f10) = true)
    (a11 : PySem.W.nsIn K mainGlobals "totals" = some (some (.ref f11))) (l11 : K.lookup f11 = some ⟨oc11, od11, .func (PySem.W.fnOf "totals" "totals" (defArgs s_totals) (defBody s_totals) (defScope s_totals) .none kV11 dc11 pm11 an11 cd11 ct11), sl11⟩) (c11 : PySem.W.codeIn K cd11 "totals" = true) (k11 : PySem.W.keepIn K (.ref f11) = true)
    (a12 : PySem.W.nsIn K mainGlobals "points_of" = some (some (.ref f12))) (l12 : K.lookup f12 = some ⟨oc12, od12, .func (PySem.W.fnOf "points_of" "points_of" (defArgs s_points_of) (defBody s_points_of) (defScope s_points_of) .none kV12 dc12 pm12 an12 cd12 ct12), sl12⟩) (c12 : PySem.W.codeIn K cd12 "points_of" = true) (k12 : PySem.W.keepIn K (.ref f12) = true)
    (a13 : PySem.W.nsIn K mainGlobals "curve" = some (some (.ref f13))) (l13 : K.lookup f13 = some ⟨oc13, od13, .func (PySem.W.fnOf "curve" "curve" (defArgs s_curve) (defBody s_curve) (defScope s_curve) .none kV13 dc13 pm13 an13 cd13 ct13), sl13⟩) (c13 : PySem.W.codeIn K cd13 "curve" = true) (k13 : PySem.W.keepIn K (.ref f13) = true)
    (a14 : PySem.W.nsIn K mainGlobals "most_true" = some (some (.ref f14))) (l14 : K.lookup f14 = some ⟨oc14, od14, .func (PySem.W.fnOf "most_true" "most_true" (defArgs s_most_true) (defBody s_most_true) (defScope s_most_true) .none kV14 dc14 pm14 an14 cd14 ct14), sl14⟩) (c14 : PySem.W.codeIn K cd14 "most_true" = true) (k14 : PySem.W.keepIn K (.ref f14) = true)
    (a15 : PySem.W.nsIn K mainGlobals "least_false" = some (some (.ref f15))) (l15 : K.lookup f15 = some ⟨oc15, od15, .func (PySem.W.fnOf "least_false" "least_false" (defArgs s_least_false) (defBody s_least_false) (defScope s_least_false) .none kV15 dc15 pm15 an15 cd15 ct15), sl15⟩) (c15 : PySem.W.codeIn K cd15 "least_false" = true) (k15 : PySem.W.keepIn K (.ref f15) = true)
    (a16 : PySem.W.nsIn K mainGlobals "common" = some (some (.ref f16))) (l16 : K.lookup f16 = some ⟨oc16, od16, .func (PySem.W.fnOf "common" "common" (defArgs s_common) (defBody s_common) (defScope s_common) .none kV16 dc16 pm16 an16 cd16 ct16), sl16⟩) (c16 : PySem.W.codeIn K cd16 "common" = true) (k16 : PySem.W.keepIn K (.ref f16) = true)
    (a17 : PySem.W.nsIn K mainGlobals "lowest" = some (some (.ref f17))) (l17 : K.lookup f17 = some ⟨oc17, od17, .func (PySem.W.fnOf "lowest" "lowest" (defArgs s_lowest) (defBody s_lowest) (defScope s_lowest) .none kV17 dc17 pm17 an17 cd17 ct17), sl17⟩) (c17 : PySem.W.codeIn K cd17 "lowest" = true) (k17 : PySem.W.keepIn K (.ref f17) = true)
    (a18 : PySem.W.nsIn K mainGlobals "plus" = some (some (.ref f18))) (l18 : K.lookup f18 = some ⟨oc18, od18, .func (PySem.W.fnOf "plus" "plus" (defArgs s_plus) (defBody s_plus) (defScope s_plus) .none kV18 dc18 pm18 an18 cd18 ct18), sl18⟩) (c18 : PySem.W.codeIn K cd18 "plus" = true) (k18 : PySem.W.keepIn K (.ref f18) = true)
    (a19 : PySem.W.nsIn K mainGlobals "product" = some (some (.ref f19))) (l19 : K.lookup f19 = some ⟨oc19, od19, .func (PySem.W.fnOf "product" "product" (defArgs s_product) (defBody s_product) (defScope s_product) .none kV19 dc19 pm19 an19 cd19 ct19), sl19⟩) (c19 : PySem.W.codeIn K cd19 "product" = true) (k19 : PySem.W.keepIn K (.ref f19) = true)
    (a20 : PySem.W.nsIn K mainGlobals "less" = some (some (.ref f20))) (l20 : K.lookup f20 = some ⟨oc20, od20, .func (PySem.W.fnOf "less" "less" (defArgs s_less) (defBody s_less) (defScope s_less) .none kV20 dc20 pm20 an20 cd20 ct20), sl20⟩) (c20 : PySem.W.codeIn K cd20 "less" = true) (k20 : PySem.W.keepIn K (.ref f20) = true)
    (a21 : PySem.W.nsIn K mainGlobals "is_mean" = some (some (.ref f21))) (l21 : K.lookup f21 = some ⟨oc21, od21, .func (PySem.W.fnOf "is_mean" "is_mean" (defArgs s_is_mean) (defBody s_is_mean) (defScope s_is_mean) .none kV21 dc21 pm21 an21 cd21 ct21), sl21⟩) (c21 : PySem.W.codeIn K cd21 "is_mean" = true) (k21 : PySem.W.keepIn K (.ref f21) = true)
    (a22 : PySem.W.nsIn K mainGlobals "check_mean" = some (some (.ref f22))) (l22 : K.lookup f22 = some ⟨oc22, od22, .func (PySem.W.fnOf "check_mean" "check_mean" (defArgs s_check_mean) (defBody s_check_mean) (defScope s_check_mean) .none kV22 dc22 pm22 an22 cd22 ct22), sl22⟩) (c22 : PySem.W.codeIn K cd22 "check_mean" = true) (k22 : PySem.W.keepIn K (.ref f22) = true)
    (a23 : PySem.W.nsIn K mainGlobals "outcomes" = some (some (.ref f23))) (l23 : K.lookup f23 = some ⟨oc23, od23, .func (PySem.W.fnOf "outcomes" "outcomes" (defArgs s_outcomes) (defBody s_outcomes) (defScope s_outcomes) .none kV23 dc23 pm23 an23 cd23 ct23), sl23⟩) (c23 : PySem.W.codeIn K cd23 "outcomes" = true) (k23 : PySem.W.keepIn K (.ref f23) = true)
    (a24 : PySem.W.nsIn K mainGlobals "pair_counts" = some (some (.ref f24))) (l24 : K.lookup f24 = some ⟨oc24, od24, .func (PySem.W.fnOf "pair_counts" "pair_counts" (defArgs s_pair_counts) (defBody s_pair_counts) (defScope s_pair_counts) .none kV24 dc24 pm24 an24 cd24 ct24), sl24⟩) (c24 : PySem.W.codeIn K cd24 "pair_counts" = true) (k24 : PySem.W.keepIn K (.ref f24) = true)
    (a25 : PySem.W.nsIn K mainGlobals "double_area" = some (some (.ref f25))) (l25 : K.lookup f25 = some ⟨oc25, od25, .func (PySem.W.fnOf "double_area" "double_area" (defArgs s_double_area) (defBody s_double_area) (defScope s_double_area) .none kV25 dc25 pm25 an25 cd25 ct25), sl25⟩) (c25 : PySem.W.codeIn K cd25 "double_area" = true) (k25 : PySem.W.keepIn K (.ref f25) = true)
    (a26 : PySem.W.nsIn K mainGlobals "area" = some (some (.ref f26))) (l26 : K.lookup f26 = some ⟨oc26, od26, .func (PySem.W.fnOf "area" "area" (defArgs s_area) (defBody s_area) (defScope s_area) .none kV26 dc26 pm26 an26 cd26 ct26), sl26⟩) (c26 : PySem.W.codeIn K cd26 "area" = true) (k26 : PySem.W.keepIn K (.ref f26) = true)
    (a27 : PySem.W.nsIn K mainGlobals "in_order" = some (some (.ref f27))) (l27 : K.lookup f27 = some ⟨oc27, od27, .func (PySem.W.fnOf "in_order" "in_order" (defArgs s_in_order) (defBody s_in_order) (defScope s_in_order) .none kV27 dc27 pm27 an27 cd27 ct27), sl27⟩) (c27 : PySem.W.codeIn K cd27 "in_order" = true) (k27 : PySem.W.keepIn K (.ref f27) = true)
    (a28 : PySem.W.nsIn K mainGlobals "wrong_pairs" = some (some (.ref f28))) (l28 : K.lookup f28 = some ⟨oc28, od28, .func (PySem.W.fnOf "wrong_pairs" "wrong_pairs" (defArgs s_wrong_pairs) (defBody s_wrong_pairs) (defScope s_wrong_pairs) .none kV28 dc28 pm28 an28 cd28 ct28), sl28⟩) (c28 : PySem.W.codeIn K cd28 "wrong_pairs" = true) (k28 : PySem.W.keepIn K (.ref f28) = true)
    (a29 : PySem.W.nsIn K mainGlobals "way_turn" = some (some (.ref f29))) (l29 : K.lookup f29 = some ⟨oc29, od29, .func (PySem.W.fnOf "way_turn" "way_turn" (defArgs s_way_turn) (defBody s_way_turn) (defScope s_way_turn) .none kV29 dc29 pm29 an29 cd29 ct29), sl29⟩) (c29 : PySem.W.codeIn K cd29 "way_turn" = true) (k29 : PySem.W.keepIn K (.ref f29) = true)
    (a30 : PySem.W.nsIn K mainGlobals "corners_of" = some (some (.ref f30))) (l30 : K.lookup f30 = some ⟨oc30, od30, .func (PySem.W.fnOf "corners_of" "corners_of" (defArgs s_corners_of) (defBody s_corners_of) (defScope s_corners_of) .none kV30 dc30 pm30 an30 cd30 ct30), sl30⟩) (c30 : PySem.W.codeIn K cd30 "corners_of" = true) (k30 : PySem.W.keepIn K (.ref f30) = true)
    (a31 : PySem.W.nsIn K mainGlobals "hull" = some (some (.ref f31))) (l31 : K.lookup f31 = some ⟨oc31, od31, .func (PySem.W.fnOf "hull" "hull" (defArgs s_hull) (defBody s_hull) (defScope s_hull) .none kV31 dc31 pm31 an31 cd31 ct31), sl31⟩) (c31 : PySem.W.codeIn K cd31 "hull" = true) (k31 : PySem.W.keepIn K (.ref f31) = true)
    (a32 : PySem.W.nsIn K mainGlobals "height_of" = some (some (.ref f32))) (l32 : K.lookup f32 = some ⟨oc32, od32, .func (PySem.W.fnOf "height_of" "height_of" (defArgs s_height_of) (defBody s_height_of) (defScope s_height_of) .none kV32 dc32 pm32 an32 cd32 ct32), sl32⟩) (c32 : PySem.W.codeIn K cd32 "height_of" = true) (k32 : PySem.W.keepIn K (.ref f32) = true)
    (a33 : PySem.W.nsIn K mainGlobals "waste" = some (some (.ref f33))) (l33 : K.lookup f33 = some ⟨oc33, od33, .func (PySem.W.fnOf "waste" "waste" (defArgs s_waste) (defBody s_waste) (defScope s_waste) .none kV33 dc33 pm33 an33 cd33 ct33), sl33⟩) (c33 : PySem.W.codeIn K cd33 "waste" = true) (k33 : PySem.W.keepIn K (.ref f33) = true)
    (a34 : PySem.W.nsIn K mainGlobals "is_bent" = some (some (.ref f34))) (l34 : K.lookup f34 = some ⟨oc34, od34, .func (PySem.W.fnOf "is_bent" "is_bent" (defArgs s_is_bent) (defBody s_is_bent) (defScope s_is_bent) .none kV34 dc34 pm34 an34 cd34 ct34), sl34⟩) (c34 : PySem.W.codeIn K cd34 "is_bent" = true) (k34 : PySem.W.keepIn K (.ref f34) = true)
    (a35 : PySem.W.nsIn K mainGlobals "cost_of" = some (some (.ref f35))) (l35 : K.lookup f35 = some ⟨oc35, od35, .func (PySem.W.fnOf "cost_of" "cost_of" (defArgs s_cost_of) (defBody s_cost_of) (defScope s_cost_of) .none kV35 dc35 pm35 an35 cd35 ct35), sl35⟩) (c35 : PySem.W.codeIn K cd35 "cost_of" = true) (k35 : PySem.W.keepIn K (.ref f35) = true)
    (a36 : PySem.W.nsIn K mainGlobals "check_costs" = some (some (.ref f36))) (l36 : K.lookup f36 = some ⟨oc36, od36, .func (PySem.W.fnOf "check_costs" "check_costs" (defArgs s_check_costs) (defBody s_check_costs) (defScope s_check_costs) .none kV36 dc36 pm36 an36 cd36 ct36), sl36⟩) (c36 : PySem.W.codeIn K cd36 "check_costs" = true) (k36 : PySem.W.keepIn K (.ref f36) = true)
    (a37 : PySem.W.nsIn K mainGlobals "cost_at" = some (some (.ref f37))) (l37 : K.lookup f37 = some ⟨oc37, od37, .func (PySem.W.fnOf "cost_at" "cost_at" (defArgs s_cost_at) (defBody s_cost_at) (defScope s_cost_at) .none kV37 dc37 pm37 an37 cd37 ct37), sl37⟩) (c37 : PySem.W.codeIn K cd37 "cost_at" = true) (k37 : PySem.W.keepIn K (.ref f37) = true)
    (a38 : PySem.W.nsIn K mainGlobals "least_cost" = some (some (.ref f38))) (l38 : K.lookup f38 = some ⟨oc38, od38, .func (PySem.W.fnOf "least_cost" "least_cost" (defArgs s_least_cost) (defBody s_least_cost) (defScope s_least_cost) .none kV38 dc38 pm38 an38 cd38 ct38), sl38⟩) (c38 : PySem.W.codeIn K cd38 "least_cost" = true) (k38 : PySem.W.keepIn K (.ref f38) = true)
    (a39 : PySem.W.nsIn K mainGlobals "best_points" = some (some (.ref f39))) (l39 : K.lookup f39 = some ⟨oc39, od39, .func (PySem.W.fnOf "best_points" "best_points" (defArgs s_best_points) (defBody s_best_points) (defScope s_best_points) .none kV39 dc39 pm39 an39 cd39 ct39), sl39⟩) (c39 : PySem.W.codeIn K cd39 "best_points" = true) (k39 : PySem.W.keepIn K (.ref f39) = true)
    (a40 : PySem.W.nsIn K mainGlobals "best_thresholds" = some (some (.ref f40))) (l40 : K.lookup f40 = some ⟨oc40, od40, .func (PySem.W.fnOf "best_thresholds" "best_thresholds" (defArgs s_best_thresholds) (defBody s_best_thresholds) (defScope s_best_thresholds) .none kV40 dc40 pm40 an40 cd40 ct40), sl40⟩) (c40 : PySem.W.codeIn K cd40 "best_thresholds" = true) (k40 : PySem.W.keepIn K (.ref f40) = true)
    (a41 : PySem.W.nsIn K mainGlobals "cost_ranges" = some (some (.ref f41))) (l41 : K.lookup f41 = some ⟨oc41, od41, .func (PySem.W.fnOf "cost_ranges" "cost_ranges" (defArgs s_cost_ranges) (defBody s_cost_ranges) (defScope s_cost_ranges) .none kV41 dc41 pm41 an41 cd41 ct41), sl41⟩) (c41 : PySem.W.codeIn K cd41 "cost_ranges" = true) (k41 : PySem.W.keepIn K (.ref f41) = true)
    (a42 : PySem.W.nsIn K mainGlobals "is_ever_best" = some (some (.ref f42))) (l42 : K.lookup f42 = some ⟨oc42, od42, .func (PySem.W.fnOf "is_ever_best" "is_ever_best" (defArgs s_is_ever_best) (defBody s_is_ever_best) (defScope s_is_ever_best) .none kV42 dc42 pm42 an42 cd42 ct42), sl42⟩) (c42 : PySem.W.codeIn K cd42 "is_ever_best" = true) (k42 : PySem.W.keepIn K (.ref f42) = true)
    (a43 : PySem.W.nsIn K mainGlobals "miss_cost_for" = some (some (.ref f43))) (l43 : K.lookup f43 = some ⟨oc43, od43, .func (PySem.W.fnOf "miss_cost_for" "miss_cost_for" (defArgs s_miss_cost_for) (defBody s_miss_cost_for) (defScope s_miss_cost_for) .none kV43 dc43 pm43 an43 cd43 ct43), sl43⟩) (c43 : PySem.W.codeIn K cd43 "miss_cost_for" = true) (k43 : PySem.W.keepIn K (.ref f43) = true)
    (a44 : PySem.W.nsIn K mainGlobals "check_share" = some (some (.ref f44))) (l44 : K.lookup f44 = some ⟨oc44, od44, .func (PySem.W.fnOf "check_share" "check_share" (defArgs s_check_share) (defBody s_check_share) (defScope s_check_share) .none kV44 dc44 pm44 an44 cd44 ct44), sl44⟩) (c44 : PySem.W.codeIn K cd44 "check_share" = true) (k44 : PySem.W.keepIn K (.ref f44) = true)
    (a45 : PySem.W.nsIn K mainGlobals "mean_point" = some (some (.ref f45))) (l45 : K.lookup f45 = some ⟨oc45, od45, .func (PySem.W.fnOf "mean_point" "mean_point" (defArgs s_mean_point) (defBody s_mean_point) (defScope s_mean_point) .none kV45 dc45 pm45 an45 cd45 ct45), sl45⟩) (c45 : PySem.W.codeIn K cd45 "mean_point" = true) (k45 : PySem.W.keepIn K (.ref f45) = true)
    (a46 : PySem.W.nsIn K mainGlobals "mixed_alarms" = some (some (.ref f46))) (l46 : K.lookup f46 = some ⟨oc46, od46, .func (PySem.W.fnOf "mixed_alarms" "mixed_alarms" (defArgs s_mixed_alarms) (defBody s_mixed_alarms) (defScope s_mixed_alarms) .none kV46 dc46 pm46 an46 cd46 ct46), sl46⟩) (c46 : PySem.W.codeIn K cd46 "mixed_alarms" = true) (k46 : PySem.W.keepIn K (.ref f46) = true)
    (a47 : PySem.W.nsIn K mainGlobals "best_true" = some (some (.ref f47))) (l47 : K.lookup f47 = some ⟨oc47, od47, .func (PySem.W.fnOf "best_true" "best_true" (defArgs s_best_true) (defBody s_best_true) (defScope s_best_true) .none kV47 dc47 pm47 an47 cd47 ct47), sl47⟩) (c47 : PySem.W.codeIn K cd47 "best_true" = true) (k47 : PySem.W.keepIn K (.ref f47) = true)
    (a48 : PySem.W.nsIn K mainGlobals "threshold_of" = some (some (.ref f48))) (l48 : K.lookup f48 = some ⟨oc48, od48, .func (PySem.W.fnOf "threshold_of" "threshold_of" (defArgs s_threshold_of) (defBody s_threshold_of) (defScope s_threshold_of) .none kV48 dc48 pm48 an48 cd48 ct48), sl48⟩) (c48 : PySem.W.codeIn K cd48 "threshold_of" = true) (k48 : PySem.W.keepIn K (.ref f48) = true)
    (a49 : PySem.W.nsIn K mainGlobals "best_mixture" = some (some (.ref f49))) (l49 : K.lookup f49 = some ⟨oc49, od49, .func (PySem.W.fnOf "best_mixture" "best_mixture" (defArgs s_best_mixture) (defBody s_best_mixture) (defScope s_best_mixture) .none kV49 dc49 pm49 an49 cd49 ct49), sl49⟩) (c49 : PySem.W.codeIn K cd49 "best_mixture" = true) (k49 : PySem.W.keepIn K (.ref f49) = true)
    (a50 : PySem.W.nsIn K mainGlobals "gain" = some (some (.ref f50))) (l50 : K.lookup f50 = some ⟨oc50, od50, .func (PySem.W.fnOf "gain" "gain" (defArgs s_gain) (defBody s_gain) (defScope s_gain) .none kV50 dc50 pm50 an50 cd50 ct50), sl50⟩) (c50 : PySem.W.codeIn K cd50 "gain" = true) (k50 : PySem.W.keepIn K (.ref f50) = true)
    (a51 : PySem.W.nsIn K mainGlobals "levels" = some (some (.ref f51))) (l51 : K.lookup f51 = some ⟨oc51, od51, .func (PySem.W.fnOf "levels" "levels" (defArgs s_levels) (defBody s_levels) (defScope s_levels) .none kV51 dc51 pm51 an51 cd51 ct51), sl51⟩) (c51 : PySem.W.codeIn K cd51 "levels" = true) (k51 : PySem.W.keepIn K (.ref f51) = true)
    (a52 : PySem.W.nsIn K mainGlobals "falls" = some (some (.ref f52))) (l52 : K.lookup f52 = some ⟨oc52, od52, .func (PySem.W.fnOf "falls" "falls" (defArgs s_falls) (defBody s_falls) (defScope s_falls) .none kV52 dc52 pm52 an52 cd52 ct52), sl52⟩) (c52 : PySem.W.codeIn K cd52 "falls" = true) (k52 : PySem.W.keepIn K (.ref f52) = true)
    (a53 : PySem.W.nsIn K mainGlobals "put_together" = some (some (.ref f53))) (l53 : K.lookup f53 = some ⟨oc53, od53, .func (PySem.W.fnOf "put_together" "put_together" (defArgs s_put_together) (defBody s_put_together) (defScope s_put_together) .none kV53 dc53 pm53 an53 cd53 ct53), sl53⟩) (c53 : PySem.W.codeIn K cd53 "put_together" = true) (k53 : PySem.W.keepIn K (.ref f53) = true)
    (a54 : PySem.W.nsIn K mainGlobals "pooled" = some (some (.ref f54))) (l54 : K.lookup f54 = some ⟨oc54, od54, .func (PySem.W.fnOf "pooled" "pooled" (defArgs s_pooled) (defBody s_pooled) (defScope s_pooled) .none kV54 dc54 pm54 an54 cd54 ct54), sl54⟩) (c54 : PySem.W.codeIn K cd54 "pooled" = true) (k54 : PySem.W.keepIn K (.ref f54) = true)
    (a55 : PySem.W.nsIn K mainGlobals "pools" = some (some (.ref f55))) (l55 : K.lookup f55 = some ⟨oc55, od55, .func (PySem.W.fnOf "pools" "pools" (defArgs s_pools) (defBody s_pools) (defScope s_pools) .none kV55 dc55 pm55 an55 cd55 ct55), sl55⟩) (c55 : PySem.W.codeIn K cd55 "pools" = true) (k55 : PySem.W.keepIn K (.ref f55) = true)
    (a56 : PySem.W.nsIn K mainGlobals "share_of" = some (some (.ref f56))) (l56 : K.lookup f56 = some ⟨oc56, od56, .func (PySem.W.fnOf "share_of" "share_of" (defArgs s_share_of) (defBody s_share_of) (defScope s_share_of) .none kV56 dc56 pm56 an56 cd56 ct56), sl56⟩) (c56 : PySem.W.codeIn K cd56 "share_of" = true) (k56 : PySem.W.keepIn K (.ref f56) = true)
    (a57 : PySem.W.nsIn K mainGlobals "shares" = some (some (.ref f57))) (l57 : K.lookup f57 = some ⟨oc57, od57, .func (PySem.W.fnOf "shares" "shares" (defArgs s_shares) (defBody s_shares) (defScope s_shares) .none kV57 dc57 pm57 an57 cd57 ct57), sl57⟩) (c57 : PySem.W.codeIn K cd57 "shares" = true) (k57 : PySem.W.keepIn K (.ref f57) = true)
    (a58 : PySem.W.nsIn K mainGlobals "squared_error" = some (some (.ref f58))) (l58 : K.lookup f58 = some ⟨oc58, od58, .func (PySem.W.fnOf "squared_error" "squared_error" (defArgs s_squared_error) (defBody s_squared_error) (defScope s_squared_error) .none kV58 dc58 pm58 an58 cd58 ct58), sl58⟩) (c58 : PySem.W.codeIn K cd58 "squared_error" = true) (k58 : PySem.W.keepIn K (.ref f58) = true)
    (a59 : PySem.W.nsIn K mainGlobals "is_pooled" = some (some (.ref f59))) (l59 : K.lookup f59 = some ⟨oc59, od59, .func (PySem.W.fnOf "is_pooled" "is_pooled" (defArgs s_is_pooled) (defBody s_is_pooled) (defScope s_is_pooled) .none kV59 dc59 pm59 an59 cd59 ct59), sl59⟩) (c59 : PySem.W.codeIn K cd59 "is_pooled" = true) (k59 : PySem.W.keepIn K (.ref f59) = true)
    (a60 : PySem.W.nsIn K mainGlobals "joined" = some (some (.ref f60))) (l60 : K.lookup f60 = some ⟨oc60, od60, .func (PySem.W.fnOf "joined" "joined" (defArgs s_joined) (defBody s_joined) (defScope s_joined) .none kV60 dc60 pm60 an60 cd60 ct60), sl60⟩) (c60 : PySem.W.codeIn K cd60 "joined" = true) (k60 : PySem.W.keepIn K (.ref f60) = true)
    (a61 : PySem.W.nsIn K mainGlobals "turned_over" = some (some (.ref f61))) (l61 : K.lookup f61 = some ⟨oc61, od61, .func (PySem.W.fnOf "turned_over" "turned_over" (defArgs s_turned_over) (defBody s_turned_over) (defScope s_turned_over) .none kV61 dc61 pm61 an61 cd61 ct61), sl61⟩) (c61 : PySem.W.codeIn K cd61 "turned_over" = true) (k61 : PySem.W.keepIn K (.ref f61) = true)
    (a62 : PySem.W.nsIn K mainGlobals "exchanged" = some (some (.ref f62))) (l62 : K.lookup f62 = some ⟨oc62, od62, .func (PySem.W.fnOf "exchanged" "exchanged" (defArgs s_exchanged) (defBody s_exchanged) (defScope s_exchanged) .none kV62 dc62 pm62 an62 cd62 ct62), sl62⟩) (c62 : PySem.W.codeIn K cd62 "exchanged" = true) (k62 : PySem.W.keepIn K (.ref f62) = true)
    (a63 : PySem.W.nsIn K mainGlobals "format_things" = some (some (.ref f63))) (l63 : K.lookup f63 = some ⟨oc63, od63, .func (PySem.W.fnOf "format_things" "format_things" (defArgs s_format_things) (defBody s_format_things) (defScope s_format_things) .none kV63 dc63 pm63 an63 cd63 ct63), sl63⟩) (c63 : PySem.W.codeIn K cd63 "format_things" = true) (k63 : PySem.W.keepIn K (.ref f63) = true)
    (a64 : PySem.W.nsIn K mainGlobals "_law_start" = some (some (.ref f64))) (l64 : K.lookup f64 = some ⟨oc64, od64, .func (PySem.W.fnOf "_law_start" "_law_start" (defArgs s_law_start) (defBody s_law_start) (defScope s_law_start) .none kV64 dc64 pm64 an64 cd64 ct64), sl64⟩) (c64 : PySem.W.codeIn K cd64 "_law_start" = true) (k64 : PySem.W.keepIn K (.ref f64) = true)
    (a65 : PySem.W.nsIn K mainGlobals "_law_draw" = some (some (.ref f65))) (l65 : K.lookup f65 = some ⟨oc65, od65, .func (PySem.W.fnOf "_law_draw" "_law_draw" (defArgs s_law_draw) (defBody s_law_draw) (defScope s_law_draw) .none kV65 dc65 pm65 an65 cd65 ct65), sl65⟩) (c65 : PySem.W.codeIn K cd65 "_law_draw" = true) (k65 : PySem.W.keepIn K (.ref f65) = true)
    (a66 : PySem.W.nsIn K mainGlobals "_law_error" = some (some (.ref f66))) (l66 : K.lookup f66 = some ⟨oc66, od66, .func (PySem.W.fnOf "_law_error" "_law_error" (defArgs s_law_error) (defBody s_law_error) (defScope s_law_error) .none kV66 dc66 pm66 an66 cd66 ct66), sl66⟩) (c66 : PySem.W.codeIn K cd66 "_law_error" = true) (k66 : PySem.W.keepIn K (.ref f66) = true)
    (a67 : PySem.W.nsIn K mainGlobals "_law_one" = some (some (.ref f67))) (l67 : K.lookup f67 = some ⟨oc67, od67, .func (PySem.W.fnOf "_law_one" "_law_one" (defArgs s_law_one) (defBody s_law_one) (defScope s_law_one) .none kV67 dc67 pm67 an67 cd67 ct67), sl67⟩) (c67 : PySem.W.codeIn K cd67 "_law_one" = true) (k67 : PySem.W.keepIn K (.ref f67) = true)
    (a68 : PySem.W.nsIn K mainGlobals "_law_two" = some (some (.ref f68))) (l68 : K.lookup f68 = some ⟨oc68, od68, .func (PySem.W.fnOf "_law_two" "_law_two" (defArgs s_law_two) (defBody s_law_two) (defScope s_law_two) .none kV68 dc68 pm68 an68 cd68 ct68), sl68⟩) (c68 : PySem.W.codeIn K cd68 "_law_two" = true) (k68 : PySem.W.keepIn K (.ref f68) = true)
    (a69 : PySem.W.nsIn K mainGlobals "_law_asked" = some (some (.ref f69))) (l69 : K.lookup f69 = some ⟨oc69, od69, .func (PySem.W.fnOf "_law_asked" "_law_asked" (defArgs s_law_asked) (defBody s_law_asked) (defScope s_law_asked) .none kV69 dc69 pm69 an69 cd69 ct69), sl69⟩) (c69 : PySem.W.codeIn K cd69 "_law_asked" = true) (k69 : PySem.W.keepIn K (.ref f69) = true)
    (a70 : PySem.W.nsIn K mainGlobals "_law_limits" = some (some (.ref f70))) (l70 : K.lookup f70 = some ⟨oc70, od70, .func (PySem.W.fnOf "_law_limits" "_law_limits" (defArgs s_law_limits) (defBody s_law_limits) (defScope s_law_limits) .none kV70 dc70 pm70 an70 cd70 ct70), sl70⟩) (c70 : PySem.W.codeIn K cd70 "_law_limits" = true) (k70 : PySem.W.keepIn K (.ref f70) = true)
    (a71 : PySem.W.nsIn K mainGlobals "law" = some (some (.ref f71))) (l71 : K.lookup f71 = some ⟨oc71, od71, .func (PySem.W.fnOf "law" "law" (defArgs s_law) (defBody s_law) (defScope s_law) .none kV71 dc71 pm71 an71 cd71 ct71), sl71⟩) (c71 : PySem.W.codeIn K cd71 "law" = true) (k71 : PySem.W.keepIn K (.ref f71) = true)
    (z_ValueError : PySem.W.nsIn K mainGlobals "ValueError" = some none)
    (z_abs : PySem.W.nsIn K mainGlobals "abs" = some none)
    (z_all : PySem.W.nsIn K mainGlobals "all" = some none)
    (z_bool : PySem.W.nsIn K mainGlobals "bool" = some none)
    (z_enumerate : PySem.W.nsIn K mainGlobals "enumerate" = some none)
    (z_int : PySem.W.nsIn K mainGlobals "int" = some none)
    (z_isinstance : PySem.W.nsIn K mainGlobals "isinstance" = some none)
    (z_len : PySem.W.nsIn K mainGlobals "len" = some none)
    (z_list : PySem.W.nsIn K mainGlobals "list" = some none)
    (z_max : PySem.W.nsIn K mainGlobals "max" = some none)
    (z_min : PySem.W.nsIn K mainGlobals "min" = some none)
    (z_range : PySem.W.nsIn K mainGlobals "range" = some none)
    (z_set : PySem.W.nsIn K mainGlobals "set" = some none)
    (z_sorted : PySem.W.nsIn K mainGlobals "sorted" = some none)
    (z_str : PySem.W.nsIn K mainGlobals "str" = some none)
    (z_tuple : PySem.W.nsIn K mainGlobals "tuple" = some none)
    (z_zip : PySem.W.nsIn K mainGlobals "zip" = some none)
    (y_MOST_SCORE : PySem.W.nsIn K mainGlobals "MOST_SCORE" = some (some (.int 99 t_MOST_SCORE)))
    (y_MOST_THINGS : PySem.W.nsIn K mainGlobals "MOST_THINGS" = some (some (.int 12 t_MOST_THINGS)))
    (g_BadThings : PySem.W.nsIn K mainGlobals "BadThings" = some (some (.ref C0))) (x_BadThings : PySem.W.excIn K C0 [.type "ValueError", .type "Exception", .type "BaseException", .type "object"] "ValueError.__new__" = true) (p_BadThings : PySem.W.keepIn K (.ref C0) = true) (e_BadThings : PySem.W.subIn K (.ref C0) (.type "BaseException") = some true) (t_BadThings : PySem.W.typeIn K (.ref C0) = some (.type "type"))
    (g_BadNumber : PySem.W.nsIn K mainGlobals "BadNumber" = some (some (.ref C1))) (x_BadNumber : PySem.W.excIn K C1 [.type "ValueError", .type "Exception", .type "BaseException", .type "object"] "ValueError.__new__" = true) (p_BadNumber : PySem.W.keepIn K (.ref C1) = true) (e_BadNumber : PySem.W.subIn K (.ref C1) (.type "BaseException") = some true) (t_BadNumber : PySem.W.typeIn K (.ref C1) = some (.type "type"))
    (g_BadPoints : PySem.W.nsIn K mainGlobals "BadPoints" = some (some (.ref C2))) (x_BadPoints : PySem.W.excIn K C2 [.type "ValueError", .type "Exception", .type "BaseException", .type "object"] "ValueError.__new__" = true) (p_BadPoints : PySem.W.keepIn K (.ref C2) = true) (e_BadPoints : PySem.W.subIn K (.ref C2) (.type "BaseException") = some true) (t_BadPoints : PySem.W.typeIn K (.ref C2) = some (.type "type"))
    (g_BadText : PySem.W.nsIn K mainGlobals "BadText" = some (some (.ref C3))) (x_BadText : PySem.W.excIn K C3 [.type "ValueError", .type "Exception", .type "BaseException", .type "object"] "ValueError.__new__" = true) (p_BadText : PySem.W.keepIn K (.ref C3) = true) (e_BadText : PySem.W.subIn K (.ref C3) (.type "BaseException") = some true) (t_BadText : PySem.W.typeIn K (.ref C3) = some (.type "type"))
    (g_NotFound : PySem.W.nsIn K mainGlobals "NotFound" = some (some (.ref C4))) (x_NotFound : PySem.W.excIn K C4 [.type "ValueError", .type "Exception", .type "BaseException", .type "object"] "ValueError.__new__" = true) (p_NotFound : PySem.W.keepIn K (.ref C4) = true) (e_NotFound : PySem.W.subIn K (.ref C4) (.type "BaseException") = some true) (t_NotFound : PySem.W.typeIn K (.ref C4) = some (.type "type"))
    {CA : Addr} (g_AlarmError : PySem.W.nsIn K mainGlobals "AlarmError" = some (some (.ref CA))) (ca_s : PySem.W.subIn K (.ref CA) (.type "BaseException") = some true) (ca_d : PySem.W.hasDictIn K CA = true) (ca_t : PySem.W.typeIn K (.ref CA) = some (.type "type"))
    (en : PySem.W.specialIn K (.builtin "object.__class__") "__get__" = some (some (.builtin "getset_descriptor.__get__"))) (et : PySem.W.takesIn K (.builtin "object.__class__") = some true)
    (eg0 : PySem.W.findIn K (.ref C0) "__getattribute__" = some (some (.builtin "BaseException.__getattribute__"))) (ek0 : PySem.W.findIn K (.ref C0) "__getattr__" = some none) (ed0 : PySem.W.hasDictIn K C0 = true) (ea0 : PySem.W.findIn K (.ref C0) "__class__" = some (some (.builtin "object.__class__"))) (em0 : PySem.W.mroIn K C0 (.type "object") = some true) (eu0 : PySem.W.subIn K (.ref C0) (.ref CA) = some true) (ev0 : PySem.W.subIn K (.ref C0) (.type "ValueError") = some true)
    (es00 : PySem.W.subIn K (.ref C0) (.ref C0) = some true)
    (es01 : PySem.W.subIn K (.ref C0) (.ref C1) = some false)
    (es02 : PySem.W.subIn K (.ref C0) (.ref C2) = some false)
    (es03 : PySem.W.subIn K (.ref C0) (.ref C3) = some false)
    (es04 : PySem.W.subIn K (.ref C0) (.ref C4) = some false)
    (eg1 : PySem.W.findIn K (.ref C1) "__getattribute__" = some (some (.builtin "BaseException.__getattribute__"))) (ek1 : PySem.W.findIn K (.ref C1) "__getattr__" = some none) (ed1 : PySem.W.hasDictIn K C1 = true) (ea1 : PySem.W.findIn K (.ref C1) "__class__" = some (some (.builtin "object.__class__"))) (em1 : PySem.W.mroIn K C1 (.type "object") = some true) (eu1 : PySem.W.subIn K (.ref C1) (.ref CA) = some true) (ev1 : PySem.W.subIn K (.ref C1) (.type "ValueError") = some true)
    (es10 : PySem.W.subIn K (.ref C1) (.ref C0) = some false)
    (es11 : PySem.W.subIn K (.ref C1) (.ref C1) = some true)
    (es12 : PySem.W.subIn K (.ref C1) (.ref C2) = some false)
    (es13 : PySem.W.subIn K (.ref C1) (.ref C3) = some false)
    (es14 : PySem.W.subIn K (.ref C1) (.ref C4) = some false)
    (eg2 : PySem.W.findIn K (.ref C2) "__getattribute__" = some (some (.builtin "BaseException.__getattribute__"))) (ek2 : PySem.W.findIn K (.ref C2) "__getattr__" = some none) (ed2 : PySem.W.hasDictIn K C2 = true) (ea2 : PySem.W.findIn K (.ref C2) "__class__" = some (some (.builtin "object.__class__"))) (em2 : PySem.W.mroIn K C2 (.type "object") = some true) (eu2 : PySem.W.subIn K (.ref C2) (.ref CA) = some true) (ev2 : PySem.W.subIn K (.ref C2) (.type "ValueError") = some true)
    (es20 : PySem.W.subIn K (.ref C2) (.ref C0) = some false)
    (es21 : PySem.W.subIn K (.ref C2) (.ref C1) = some false)
    (es22 : PySem.W.subIn K (.ref C2) (.ref C2) = some true)
    (es23 : PySem.W.subIn K (.ref C2) (.ref C3) = some false)
    (es24 : PySem.W.subIn K (.ref C2) (.ref C4) = some false)
    (eg3 : PySem.W.findIn K (.ref C3) "__getattribute__" = some (some (.builtin "BaseException.__getattribute__"))) (ek3 : PySem.W.findIn K (.ref C3) "__getattr__" = some none) (ed3 : PySem.W.hasDictIn K C3 = true) (ea3 : PySem.W.findIn K (.ref C3) "__class__" = some (some (.builtin "object.__class__"))) (em3 : PySem.W.mroIn K C3 (.type "object") = some true) (eu3 : PySem.W.subIn K (.ref C3) (.ref CA) = some true) (ev3 : PySem.W.subIn K (.ref C3) (.type "ValueError") = some true)
    (es30 : PySem.W.subIn K (.ref C3) (.ref C0) = some false)
    (es31 : PySem.W.subIn K (.ref C3) (.ref C1) = some false)
    (es32 : PySem.W.subIn K (.ref C3) (.ref C2) = some false)
    (es33 : PySem.W.subIn K (.ref C3) (.ref C3) = some true)
    (es34 : PySem.W.subIn K (.ref C3) (.ref C4) = some false)
    (eg4 : PySem.W.findIn K (.ref C4) "__getattribute__" = some (some (.builtin "BaseException.__getattribute__"))) (ek4 : PySem.W.findIn K (.ref C4) "__getattr__" = some none) (ed4 : PySem.W.hasDictIn K C4 = true) (ea4 : PySem.W.findIn K (.ref C4) "__class__" = some (some (.builtin "object.__class__"))) (em4 : PySem.W.mroIn K C4 (.type "object") = some true) (eu4 : PySem.W.subIn K (.ref C4) (.ref CA) = some true) (ev4 : PySem.W.subIn K (.ref C4) (.type "ValueError") = some true)
    (es40 : PySem.W.subIn K (.ref C4) (.ref C0) = some false)
    (es41 : PySem.W.subIn K (.ref C4) (.ref C1) = some false)
    (es42 : PySem.W.subIn K (.ref C4) (.ref C2) = some false)
    (es43 : PySem.W.subIn K (.ref C4) (.ref C3) = some false)
    (es44 : PySem.W.subIn K (.ref C4) (.ref C4) = some true)
    : ∃ fd : FuncData, (∀ (s : Shared) (v : Value), BindsTo s fd ⟨[v], []⟩ [("_law_script", v)]) ∧ ∀ base : Heap, K.In base → base.Ns mainGlobals mg → FnOk l.prog w K mg base (L2.CX l.prog w) 10 fa fd ["_law_script"] (spLaw K) := by
  have e := hfa.symm.trans (PySem.W.mg_of X G a71)
  cases e
  have F0 := fun_mk (st := s_is_int) l0 c0 k0
  have F1 := fun_mk (st := s_is_thing) l1 c1 k1
  have F2 := fun_mk (st := s_is_things) l2 c2 k2
  have F3 := fun_mk (st := s_check_things) l3 c3 k3
  have F4 := fun_mk (st := s_check_threshold) l4 c4 k4
  have F5 := fun_mk (st := s_check_cost) l5 c5 k5
  have F6 := fun_mk (st := s_counts) l6 c6 k6
  have F7 := fun_mk (st := s_alarms_at) l7 c7 k7
  have F8 := fun_mk (st := s_scores_of) l8 c8 k8
  have F9 := fun_mk (st := s_unlike_scores) l9 c9 k9
  have F10 := fun_mk (st := s_thresholds_of) l10 c10 k10
  have F11 := fun_mk (st := s_totals) l11 c11 k11
  have F12 := fun_mk (st := s_points_of) l12 c12 k12
  have F13 := fun_mk (st := s_curve) l13 c13 k13
  have F14 := fun_mk (st := s_most_true) l14 c14 k14
  have F15 := fun_mk (st := s_least_false) l15 c15 k15
  have F16 := fun_mk (st := s_common) l16 c16 k16
  have F17 := fun_mk (st := s_lowest) l17 c17 k17
  have F18 := fun_mk (st := s_plus) l18 c18 k18
  have F19 := fun_mk (st := s_product) l19 c19 k19
  have F20 := fun_mk (st := s_less) l20 c20 k20
  have F21 := fun_mk (st := s_is_mean) l21 c21 k21
  have F22 := fun_mk (st := s_check_mean) l22 c22 k22
  have F23 := fun_mk (st := s_outcomes) l23 c23 k23
  have F24 := fun_mk (st := s_pair_counts) l24 c24 k24
  have F25 := fun_mk (st := s_double_area) l25 c25 k25
  have F26 := fun_mk (st := s_area) l26 c26 k26
  have F27 := fun_mk (st := s_in_order) l27 c27 k27
  have F28 := fun_mk (st := s_wrong_pairs) l28 c28 k28
  have F29 := fun_mk (st := s_way_turn) l29 c29 k29
  have F30 := fun_mk (st := s_corners_of) l30 c30 k30
  have F31 := fun_mk (st := s_hull) l31 c31 k31
  have F32 := fun_mk (st := s_height_of) l32 c32 k32
  have F33 := fun_mk (st := s_waste) l33 c33 k33
  have F34 := fun_mk (st := s_is_bent) l34 c34 k34
  have F35 := fun_mk (st := s_cost_of) l35 c35 k35
  have F36 := fun_mk (st := s_check_costs) l36 c36 k36
  have F37 := fun_mk (st := s_cost_at) l37 c37 k37
  have F38 := fun_mk (st := s_least_cost) l38 c38 k38
  have F39 := fun_mk (st := s_best_points) l39 c39 k39
  have F40 := fun_mk (st := s_best_thresholds) l40 c40 k40
  have F41 := fun_mk (st := s_cost_ranges) l41 c41 k41
  have F42 := fun_mk (st := s_is_ever_best) l42 c42 k42
  have F43 := fun_mk (st := s_miss_cost_for) l43 c43 k43
  have F44 := fun_mk (st := s_check_share) l44 c44 k44
  have F45 := fun_mk (st := s_mean_point) l45 c45 k45
  have F46 := fun_mk (st := s_mixed_alarms) l46 c46 k46
  have F47 := fun_mk (st := s_best_true) l47 c47 k47
  have F48 := fun_mk (st := s_threshold_of) l48 c48 k48
  have F49 := fun_mk (st := s_best_mixture) l49 c49 k49
  have F50 := fun_mk (st := s_gain) l50 c50 k50
  have F51 := fun_mk (st := s_levels) l51 c51 k51
  have F52 := fun_mk (st := s_falls) l52 c52 k52
  have F53 := fun_mk (st := s_put_together) l53 c53 k53
  have F54 := fun_mk (st := s_pooled) l54 c54 k54
  have F55 := fun_mk (st := s_pools) l55 c55 k55
  have F56 := fun_mk (st := s_share_of) l56 c56 k56
  have F57 := fun_mk (st := s_shares) l57 c57 k57
  have F58 := fun_mk (st := s_squared_error) l58 c58 k58
  have F59 := fun_mk (st := s_is_pooled) l59 c59 k59
  have F60 := fun_mk (st := s_joined) l60 c60 k60
  have F61 := fun_mk (st := s_turned_over) l61 c61 k61
  have F62 := fun_mk (st := s_exchanged) l62 c62 k62
  have F63 := fun_mk (st := s_format_things) l63 c63 k63
  have F64 := fun_mk (st := s_law_start) l64 c64 k64
  have F65 := fun_mk (st := s_law_draw) l65 c65 k65
  have F66 := fun_mk (st := s_law_error) l66 c66 k66
  have F67 := fun_mk (st := s_law_one) l67 c67 k67
  have F68 := fun_mk (st := s_law_two) l68 c68 k68
  have F69 := fun_mk (st := s_law_asked) l69 c69 k69
  have F70 := fun_mk (st := s_law_limits) l70 c70 k70
  have F71 := fun_mk (st := s_law) l71 c71 k71
  let T : Txt K mg := {
    cl := fun i => if i = 0 then C0 else if i = 1 then C1 else if i = 2 then C2 else if i = 3 then C3 else if i = 4 then C4 else 0
    n_ValueError := PySem.W.mg_none_of X G z_ValueError
    n_abs := PySem.W.mg_none_of X G z_abs
    n_all := PySem.W.mg_none_of X G z_all
    n_bool := PySem.W.mg_none_of X G z_bool
    n_enumerate := PySem.W.mg_none_of X G z_enumerate
    n_int := PySem.W.mg_none_of X G z_int
    n_isinstance := PySem.W.mg_none_of X G z_isinstance
    n_len := PySem.W.mg_none_of X G z_len
    n_list := PySem.W.mg_none_of X G z_list
    n_max := PySem.W.mg_none_of X G z_max
    n_min := PySem.W.mg_none_of X G z_min
    n_range := PySem.W.mg_none_of X G z_range
    n_set := PySem.W.mg_none_of X G z_set
    n_sorted := PySem.W.mg_none_of X G z_sorted
    n_str := PySem.W.mg_none_of X G z_str
    n_tuple := PySem.W.mg_none_of X G z_tuple
    n_zip := PySem.W.mg_none_of X G z_zip
    c_MOST_SCORE := ⟨_, PySem.W.mg_of X G y_MOST_SCORE, _, rfl⟩
    c_MOST_THINGS := ⟨_, PySem.W.mg_of X G y_MOST_THINGS, _, rfl⟩
    x_BadThings := x_BadThings
    g_BadThings := PySem.W.mg_of X G g_BadThings
    k_BadThings := p_BadThings
    e_BadThings := e_BadThings
    t_BadThings := t_BadThings
    x_BadNumber := x_BadNumber
    g_BadNumber := PySem.W.mg_of X G g_BadNumber
    k_BadNumber := p_BadNumber
    e_BadNumber := e_BadNumber
    t_BadNumber := t_BadNumber
    x_BadPoints := x_BadPoints
    g_BadPoints := PySem.W.mg_of X G g_BadPoints
    k_BadPoints := p_BadPoints
    e_BadPoints := e_BadPoints
    t_BadPoints := t_BadPoints
    x_BadText := x_BadText
    g_BadText := PySem.W.mg_of X G g_BadText
    k_BadText := p_BadText
    e_BadText := e_BadText
    t_BadText := t_BadText
    x_NotFound := x_NotFound
    g_NotFound := PySem.W.mg_of X G g_NotFound
    k_NotFound := p_NotFound
    e_NotFound := e_NotFound
    t_NotFound := t_NotFound
    CA := CA
    g_AlarmError := PySem.W.mg_of X G g_AlarmError
    ER := errT_mk (fun c hc => match c, hc with | 0, _ => ⟨⟨eg0, ek0, e_BadThings, ed0, ea0, en, et, em0⟩, t_BadThings, es00, eu0, ev0⟩ | 1, _ => ⟨⟨eg1, ek1, e_BadNumber, ed1, ea1, en, et, em1⟩, t_BadNumber, es11, eu1, ev1⟩ | 2, _ => ⟨⟨eg2, ek2, e_BadPoints, ed2, ea2, en, et, em2⟩, t_BadPoints, es22, eu2, ev2⟩ | 3, _ => ⟨⟨eg3, ek3, e_BadText, ed3, ea3, en, et, em3⟩, t_BadText, es33, eu3, ev3⟩ | 4, _ => ⟨⟨eg4, ek4, e_NotFound, ed4, ea4, en, et, em4⟩, t_NotFound, es44, eu4, ev4⟩ | c + 5, hc => absurd hc (by omega)) ca_s ca_d ca_t (fun c d hc hd hn => match c, d, hc, hd, hn with | 0, 0, _, _, n => absurd rfl n | 0, 1, _, _, n => es01 | 0, 2, _, _, n => es02 | 0, 3, _, _, n => es03 | 0, 4, _, _, n => es04 | 1, 0, _, _, n => es10 | 1, 1, _, _, n => absurd rfl n | 1, 2, _, _, n => es12 | 1, 3, _, _, n => es13 | 1, 4, _, _, n => es14 | 2, 0, _, _, n => es20 | 2, 1, _, _, n => es21 | 2, 2, _, _, n => absurd rfl n | 2, 3, _, _, n => es23 | 2, 4, _, _, n => es24 | 3, 0, _, _, n => es30 | 3, 1, _, _, n => es31 | 3, 2, _, _, n => es32 | 3, 3, _, _, n => absurd rfl n | 3, 4, _, _, n => es34 | 4, 0, _, _, n => es40 | 4, 1, _, _, n => es41 | 4, 2, _, _, n => es42 | 4, 3, _, _, n => es43 | 4, 4, _, _, n => absurd rfl n | c + 5, _, hc, _, _ => absurd hc (by omega) | _, d + 5, _, hd, _ => absurd hd (by omega))
    f_is_int := _
    fd_is_int := _
    F_is_int := F0
    b_is_int := F0.binds (ps := ["value", "low", "high"]) fun _ _ _ _ _ _ us hl => match us, hl with | [_, _, _], _ => rfl
    m_is_int := PySem.W.mg_of X G a0
    f_is_thing := _
    fd_is_thing := _
    F_is_thing := F1
    b_is_thing := F1.binds (ps := ["value"]) fun _ _ _ _ _ _ us hl => match us, hl with | [_], _ => rfl
    m_is_thing := PySem.W.mg_of X G a1
    f_is_things := _
    fd_is_things := _
    F_is_things := F2
    b_is_things := F2.binds (ps := ["value"]) fun _ _ _ _ _ _ us hl => match us, hl with | [_], _ => rfl
    m_is_things := PySem.W.mg_of X G a2
    f_check_things := _
    fd_check_things := _
    F_check_things := F3
    b_check_things := F3.binds (ps := ["value"]) fun _ _ _ _ _ _ us hl => match us, hl with | [_], _ => rfl
    m_check_things := PySem.W.mg_of X G a3
    f_check_threshold := _
    fd_check_threshold := _
    F_check_threshold := F4
    b_check_threshold := F4.binds (ps := ["value"]) fun _ _ _ _ _ _ us hl => match us, hl with | [_], _ => rfl
    m_check_threshold := PySem.W.mg_of X G a4
    f_check_cost := _
    fd_check_cost := _
    F_check_cost := F5
    b_check_cost := F5.binds (ps := ["value"]) fun _ _ _ _ _ _ us hl => match us, hl with | [_], _ => rfl
    m_check_cost := PySem.W.mg_of X G a5
    f_counts := _
    fd_counts := _
    F_counts := F6
    b_counts := F6.binds (ps := ["things", "threshold"]) fun _ _ _ _ _ _ us hl => match us, hl with | [_, _], _ => rfl
    m_counts := PySem.W.mg_of X G a6
    f_alarms_at := _
    fd_alarms_at := _
    F_alarms_at := F7
    b_alarms_at := F7.binds (ps := ["things", "threshold"]) fun _ _ _ _ _ _ us hl => match us, hl with | [_, _], _ => rfl
    m_alarms_at := PySem.W.mg_of X G a7
    f_scores_of := _
    fd_scores_of := _
    F_scores_of := F8
    b_scores_of := F8.binds (ps := ["things"]) fun _ _ _ _ _ _ us hl => match us, hl with | [_], _ => rfl
    m_scores_of := PySem.W.mg_of X G a8
    f_unlike_scores := _
    fd_unlike_scores := _
    F_unlike_scores := F9
    b_unlike_scores := F9.binds (ps := ["things"]) fun _ _ _ _ _ _ us hl => match us, hl with | [_], _ => rfl
    m_unlike_scores := PySem.W.mg_of X G a9
    f_thresholds_of := _
    fd_thresholds_of := _
    F_thresholds_of := F10
    b_thresholds_of := F10.binds (ps := ["things"]) fun _ _ _ _ _ _ us hl => match us, hl with | [_], _ => rfl
    m_thresholds_of := PySem.W.mg_of X G a10
    f_totals := _
    fd_totals := _
    F_totals := F11
    b_totals := F11.binds (ps := ["things"]) fun _ _ _ _ _ _ us hl => match us, hl with | [_], _ => rfl
    m_totals := PySem.W.mg_of X G a11
    f_points_of := _
    fd_points_of := _
    F_points_of := F12
    b_points_of := F12.binds (ps := ["things"]) fun _ _ _ _ _ _ us hl => match us, hl with | [_], _ => rfl
    m_points_of := PySem.W.mg_of X G a12
    f_curve := _
    fd_curve := _
    F_curve := F13
    b_curve := F13.binds (ps := ["things"]) fun _ _ _ _ _ _ us hl => match us, hl with | [_], _ => rfl
    m_curve := PySem.W.mg_of X G a13
    f_most_true := _
    fd_most_true := _
    F_most_true := F14
    b_most_true := F14.binds (ps := ["things", "false"]) fun _ _ _ _ _ _ us hl => match us, hl with | [_, _], _ => rfl
    m_most_true := PySem.W.mg_of X G a14
    f_least_false := _
    fd_least_false := _
    F_least_false := F15
    b_least_false := F15.binds (ps := ["things", "true"]) fun _ _ _ _ _ _ us hl => match us, hl with | [_, _], _ => rfl
    m_least_false := PySem.W.mg_of X G a15
    f_common := _
    fd_common := _
    F_common := F16
    b_common := F16.binds (ps := ["one", "other"]) fun _ _ _ _ _ _ us hl => match us, hl with | [_, _], _ => rfl
    m_common := PySem.W.mg_of X G a16
    f_lowest := _
    fd_lowest := _
    F_lowest := F17
    b_lowest := F17.binds (ps := ["top", "below"]) fun _ _ _ _ _ _ us hl => match us, hl with | [_, _], _ => rfl
    m_lowest := PySem.W.mg_of X G a17
    f_plus := _
    fd_plus := _
    F_plus := F18
    b_plus := F18.binds (ps := ["one", "other"]) fun _ _ _ _ _ _ us hl => match us, hl with | [_, _], _ => rfl
    m_plus := PySem.W.mg_of X G a18
    f_product := _
    fd_product := _
    F_product := F19
    b_product := F19.binds (ps := ["one", "other"]) fun _ _ _ _ _ _ us hl => match us, hl with | [_, _], _ => rfl
    m_product := PySem.W.mg_of X G a19
    f_less := _
    fd_less := _
    F_less := F20
    b_less := F20.binds (ps := ["one", "other"]) fun _ _ _ _ _ _ us hl => match us, hl with | [_, _], _ => rfl
    m_less := PySem.W.mg_of X G a20
    f_is_mean := _
    fd_is_mean := _
    F_is_mean := F21
    b_is_mean := F21.binds (ps := ["value", "most"]) fun _ _ _ _ _ _ us hl => match us, hl with | [_, _], _ => rfl
    m_is_mean := PySem.W.mg_of X G a21
    f_check_mean := _
    fd_check_mean := _
    F_check_mean := F22
    b_check_mean := F22.binds (ps := ["value", "most"]) fun _ _ _ _ _ _ us hl => match us, hl with | [_, _], _ => rfl
    m_check_mean := PySem.W.mg_of X G a22
    f_outcomes := _
    fd_outcomes := _
    F_outcomes := F23
    b_outcomes := F23.binds (ps := ["things"]) fun _ _ _ _ _ _ us hl => match us, hl with | [_], _ => rfl
    m_outcomes := PySem.W.mg_of X G a23
    f_pair_counts := _
    fd_pair_counts := _
    F_pair_counts := F24
    b_pair_counts := F24.binds (ps := ["things"]) fun _ _ _ _ _ _ us hl => match us, hl with | [_], _ => rfl
    m_pair_counts := PySem.W.mg_of X G a24
    f_double_area := _
    fd_double_area := _
    F_double_area := F25
    b_double_area := F25.binds (ps := ["points"]) fun _ _ _ _ _ _ us hl => match us, hl with | [_], _ => rfl
    m_double_area := PySem.W.mg_of X G a25
    f_area := _
    fd_area := _
    F_area := F26
    b_area := F26.binds (ps := ["things"]) fun _ _ _ _ _ _ us hl => match us, hl with | [_], _ => rfl
    m_area := PySem.W.mg_of X G a26
    f_in_order := _
    fd_in_order := _
    F_in_order := F27
    b_in_order := F27.binds (ps := ["things"]) fun _ _ _ _ _ _ us hl => match us, hl with | [_], _ => rfl
    m_in_order := PySem.W.mg_of X G a27
    f_wrong_pairs := _
    fd_wrong_pairs := _
    F_wrong_pairs := F28
    b_wrong_pairs := F28.binds (ps := ["things"]) fun _ _ _ _ _ _ us hl => match us, hl with | [_], _ => rfl
    m_wrong_pairs := PySem.W.mg_of X G a28
    f_way_turn := _
    fd_way_turn := _
    F_way_turn := F29
    b_way_turn := F29.binds (ps := ["one", "middle", "other"]) fun _ _ _ _ _ _ us hl => match us, hl with | [_, _, _], _ => rfl
    m_way_turn := PySem.W.mg_of X G a29
    f_corners_of := _
    fd_corners_of := _
    F_corners_of := F30
    b_corners_of := F30.binds (ps := ["points"]) fun _ _ _ _ _ _ us hl => match us, hl with | [_], _ => rfl
    m_corners_of := PySem.W.mg_of X G a30
    f_hull := _
    fd_hull := _
    F_hull := F31
    b_hull := F31.binds (ps := ["things"]) fun _ _ _ _ _ _ us hl => match us, hl with | [_], _ => rfl
    m_hull := PySem.W.mg_of X G a31
    f_height_of := _
    fd_height_of := _
    F_height_of := F32
    b_height_of := F32.binds (ps := ["corners", "place"]) fun _ _ _ _ _ _ us hl => match us, hl with | [_, _], _ => rfl
    m_height_of := PySem.W.mg_of X G a32
    f_waste := _
    fd_waste := _
    F_waste := F33
    b_waste := F33.binds (ps := ["things"]) fun _ _ _ _ _ _ us hl => match us, hl with | [_], _ => rfl
    m_waste := PySem.W.mg_of X G a33
    f_is_bent := _
    fd_is_bent := _
    F_is_bent := F34
    b_is_bent := F34.binds (ps := ["things"]) fun _ _ _ _ _ _ us hl => match us, hl with | [_], _ => rfl
    m_is_bent := PySem.W.mg_of X G a34
    f_cost_of := _
    fd_cost_of := _
    F_cost_of := F35
    b_cost_of := F35.binds (ps := ["things", "threshold", "false_cost", "miss_cost"]) fun _ _ _ _ _ _ us hl => match us, hl with | [_, _, _, _], _ => rfl
    m_cost_of := PySem.W.mg_of X G a35
    f_check_costs := _
    fd_check_costs := _
    F_check_costs := F36
    b_check_costs := F36.binds (ps := ["false_cost", "miss_cost"]) fun _ _ _ _ _ _ us hl => match us, hl with | [_, _], _ => rfl
    m_check_costs := PySem.W.mg_of X G a36
    f_cost_at := _
    fd_cost_at := _
    F_cost_at := F37
    b_cost_at := F37.binds (ps := ["things", "threshold", "false_cost", "miss_cost"]) fun _ _ _ _ _ _ us hl => match us, hl with | [_, _, _, _], _ => rfl
    m_cost_at := PySem.W.mg_of X G a37
    f_least_cost := _
    fd_least_cost := _
    F_least_cost := F38
    b_least_cost := F38.binds (ps := ["things", "false_cost", "miss_cost"]) fun _ _ _ _ _ _ us hl => match us, hl with | [_, _, _], _ => rfl
    m_least_cost := PySem.W.mg_of X G a38
    f_best_points := _
    fd_best_points := _
    F_best_points := F39
    b_best_points := F39.binds (ps := ["things", "false_cost", "miss_cost"]) fun _ _ _ _ _ _ us hl => match us, hl with | [_, _, _], _ => rfl
    m_best_points := PySem.W.mg_of X G a39
    f_best_thresholds := _
    fd_best_thresholds := _
    F_best_thresholds := F40
    b_best_thresholds := F40.binds (ps := ["things", "false_cost", "miss_cost"]) fun _ _ _ _ _ _ us hl => match us, hl with | [_, _, _], _ => rfl
    m_best_thresholds := PySem.W.mg_of X G a40
    f_cost_ranges := _
    fd_cost_ranges := _
    F_cost_ranges := F41
    b_cost_ranges := F41.binds (ps := ["things"]) fun _ _ _ _ _ _ us hl => match us, hl with | [_], _ => rfl
    m_cost_ranges := PySem.W.mg_of X G a41
    f_is_ever_best := _
    fd_is_ever_best := _
    F_is_ever_best := F42
    b_is_ever_best := F42.binds (ps := ["things", "point"]) fun _ _ _ _ _ _ us hl => match us, hl with | [_, _], _ => rfl
    m_is_ever_best := PySem.W.mg_of X G a42
    f_miss_cost_for := _
    fd_miss_cost_for := _
    F_miss_cost_for := F43
    b_miss_cost_for := F43.binds (ps := ["things", "false_cost", "limit"]) fun _ _ _ _ _ _ us hl => match us, hl with | [_, _, _], _ => rfl
    m_miss_cost_for := PySem.W.mg_of X G a43
    f_check_share := _
    fd_check_share := _
    F_check_share := F44
    b_check_share := F44.binds (ps := ["value"]) fun _ _ _ _ _ _ us hl => match us, hl with | [_], _ => rfl
    m_check_share := PySem.W.mg_of X G a44
    f_mean_point := _
    fd_mean_point := _
    F_mean_point := F45
    b_mean_point := F45.binds (ps := ["one", "other", "share"]) fun _ _ _ _ _ _ us hl => match us, hl with | [_, _, _], _ => rfl
    m_mean_point := PySem.W.mg_of X G a45
    f_mixed_alarms := _
    fd_mixed_alarms := _
    F_mixed_alarms := F46
    b_mixed_alarms := F46.binds (ps := ["things", "first", "second", "share"]) fun _ _ _ _ _ _ us hl => match us, hl with | [_, _, _, _], _ => rfl
    m_mixed_alarms := PySem.W.mg_of X G a46
    f_best_true := _
    fd_best_true := _
    F_best_true := F47
    b_best_true := F47.binds (ps := ["things", "false"]) fun _ _ _ _ _ _ us hl => match us, hl with | [_, _], _ => rfl
    m_best_true := PySem.W.mg_of X G a47
    f_threshold_of := _
    fd_threshold_of := _
    F_threshold_of := F48
    b_threshold_of := F48.binds (ps := ["things", "point"]) fun _ _ _ _ _ _ us hl => match us, hl with | [_, _], _ => rfl
    m_threshold_of := PySem.W.mg_of X G a48
    f_best_mixture := _
    fd_best_mixture := _
    F_best_mixture := F49
    b_best_mixture := F49.binds (ps := ["things", "false"]) fun _ _ _ _ _ _ us hl => match us, hl with | [_, _], _ => rfl
    m_best_mixture := PySem.W.mg_of X G a49
    f_gain := _
    fd_gain := _
    F_gain := F50
    b_gain := F50.binds (ps := ["things", "false"]) fun _ _ _ _ _ _ us hl => match us, hl with | [_, _], _ => rfl
    m_gain := PySem.W.mg_of X G a50
    f_levels := _
    fd_levels := _
    F_levels := F51
    b_levels := F51.binds (ps := ["things"]) fun _ _ _ _ _ _ us hl => match us, hl with | [_], _ => rfl
    m_levels := PySem.W.mg_of X G a51
    f_falls := _
    fd_falls := _
    F_falls := F52
    b_falls := F52.binds (ps := ["one", "other"]) fun _ _ _ _ _ _ us hl => match us, hl with | [_, _], _ => rfl
    m_falls := PySem.W.mg_of X G a52
    f_put_together := _
    fd_put_together := _
    F_put_together := F53
    b_put_together := F53.binds (ps := ["one", "other"]) fun _ _ _ _ _ _ us hl => match us, hl with | [_, _], _ => rfl
    m_put_together := PySem.W.mg_of X G a53
    f_pooled := _
    fd_pooled := _
    F_pooled := F54
    b_pooled := F54.binds (ps := ["things"]) fun _ _ _ _ _ _ us hl => match us, hl with | [_], _ => rfl
    m_pooled := PySem.W.mg_of X G a54
    f_pools := _
    fd_pools := _
    F_pools := F55
    b_pools := F55.binds (ps := ["things"]) fun _ _ _ _ _ _ us hl => match us, hl with | [_], _ => rfl
    m_pools := PySem.W.mg_of X G a55
    f_share_of := _
    fd_share_of := _
    F_share_of := F56
    b_share_of := F56.binds (ps := ["things", "score"]) fun _ _ _ _ _ _ us hl => match us, hl with | [_, _], _ => rfl
    m_share_of := PySem.W.mg_of X G a56
    f_shares := _
    fd_shares := _
    F_shares := F57
    b_shares := F57.binds (ps := ["things"]) fun _ _ _ _ _ _ us hl => match us, hl with | [_], _ => rfl
    m_shares := PySem.W.mg_of X G a57
    f_squared_error := _
    fd_squared_error := _
    F_squared_error := F58
    b_squared_error := F58.binds (ps := ["things"]) fun _ _ _ _ _ _ us hl => match us, hl with | [_], _ => rfl
    m_squared_error := PySem.W.mg_of X G a58
    f_is_pooled := _
    fd_is_pooled := _
    F_is_pooled := F59
    b_is_pooled := F59.binds (ps := ["things"]) fun _ _ _ _ _ _ us hl => match us, hl with | [_], _ => rfl
    m_is_pooled := PySem.W.mg_of X G a59
    f_joined := _
    fd_joined := _
    F_joined := F60
    b_joined := F60.binds (ps := ["things", "other"]) fun _ _ _ _ _ _ us hl => match us, hl with | [_, _], _ => rfl
    m_joined := PySem.W.mg_of X G a60
    f_turned_over := _
    fd_turned_over := _
    F_turned_over := F61
    b_turned_over := F61.binds (ps := ["things"]) fun _ _ _ _ _ _ us hl => match us, hl with | [_], _ => rfl
    m_turned_over := PySem.W.mg_of X G a61
    f_exchanged := _
    fd_exchanged := _
    F_exchanged := F62
    b_exchanged := F62.binds (ps := ["things"]) fun _ _ _ _ _ _ us hl => match us, hl with | [_], _ => rfl
    m_exchanged := PySem.W.mg_of X G a62
    f_format_things := _
    fd_format_things := _
    F_format_things := F63
    b_format_things := F63.binds (ps := ["things"]) fun _ _ _ _ _ _ us hl => match us, hl with | [_], _ => rfl
    m_format_things := PySem.W.mg_of X G a63
    f_law_start := _
    fd_law_start := _
    F_law_start := F64
    b_law_start := F64.binds (ps := ["_law_script"]) fun _ _ _ _ _ _ us hl => match us, hl with | [_], _ => rfl
    m_law_start := PySem.W.mg_of X G a64
    f_law_draw := _
    fd_law_draw := _
    F_law_draw := F65
    b_law_draw := F65.binds (ps := ["_law_draws", "_law_limit"]) fun _ _ _ _ _ _ us hl => match us, hl with | [_, _], _ => rfl
    m_law_draw := PySem.W.mg_of X G a65
    f_law_error := _
    fd_law_error := _
    F_law_error := F66
    b_law_error := F66.binds (ps := ["_law_caught"]) fun _ _ _ _ _ _ us hl => match us, hl with | [_], _ => rfl
    m_law_error := PySem.W.mg_of X G a66
    f_law_one := _
    fd_law_one := _
    F_law_one := F67
    b_law_one := F67.binds (ps := ["_law_kind", "_law_things"]) fun _ _ _ _ _ _ us hl => match us, hl with | [_, _], _ => rfl
    m_law_one := PySem.W.mg_of X G a67
    f_law_two := _
    fd_law_two := _
    F_law_two := F68
    b_law_two := F68.binds (ps := ["_law_kind", "_law_things", "_law_one_here", "_law_two_here"]) fun _ _ _ _ _ _ us hl => match us, hl with | [_, _, _, _], _ => rfl
    m_law_two := PySem.W.mg_of X G a68
    f_law_asked := _
    fd_law_asked := _
    F_law_asked := F69
    b_law_asked := F69.binds (ps := ["_law_group", "_law_kind", "_law_things", "_law_one_here", "_law_two_here"]) fun _ _ _ _ _ _ us hl => match us, hl with | [_, _, _, _, _], _ => rfl
    m_law_asked := PySem.W.mg_of X G a69
    f_law_limits := _
    fd_law_limits := _
    F_law_limits := F70
    b_law_limits := F70.binds (ps := ["_law_things"]) fun _ _ _ _ _ _ us hl => match us, hl with | [_], _ => rfl
    m_law_limits := PySem.W.mg_of X G a70
    f_law := _
    fd_law := _
    F_law := F71
    b_law := F71.binds (ps := ["_law_script"]) fun _ _ _ _ _ _ us hl => match us, hl with | [_], _ => rfl
    m_law := PySem.W.mg_of X G a71
  }
  exact ⟨_, fun s v => .of_eq rfl, fun base _ _ => ok_law T hm⟩
theorem walk {l : PySem.W.OpenLaw} {q : Program} {loose : List Str} {XP : (Str → Option Value) → Heap → Prop} {YP : World → Heap → Prop} {d : DefRec} {K : Params → PySem.W.Frag} (hn : l.most = some 63) (hdf : d.params.defaults = [])
    (hY : ∀ (w : World) (h : Heap), YP w h → (K w.params).In h) (F : ∀ (w : World) (mg : Str → Option Value) (fa : Addr) (h : Heap), (K w.params).In h → h.Ns mainGlobals mg → mg d.name = some (.ref fa) →
      ∃ fd : FuncData, (∀ (s : Shared) (u : Value), BindsTo s fd ⟨[u], []⟩ [("_law_script", u)]) ∧ ∀ base : Heap, (K w.params).In base → base.Ns mainGlobals mg → FnOk l.prog w (K w.params) mg base (L2.CX l.prog w) 10 fa fd ["_law_script"] (spLaw (K w.params))) : PySem.W.WalkO q loose XP YP l.row.toRowW d [] (fun f vs => PySem.call f vs) :=
  L2.walk_of (n := 63) (k := 10) (x := "_law_script") (CX := fun w => L2.CX l.prog w) (sp := fun w => spLaw (K w.params)) hn (by decide) hdf ⟨rfl, by decide, by decide⟩ hY F (fun _ _ a ns hl _ hS => ⟨a, ns, rfl, hS, hl, fun _ => rfl⟩) fun _ _ _ _ _ z => cx_false z
end Lw
open PySem PySem.W PyProof.Rows in
set_option maxRecDepth 100000 in
set_option maxHeartbeats 0 in
theorem PySem.Challenge.cw_alarmcurves_k16_errors_holds : PySem.Challenge.rw_alarmcurves_k16_errors.Holds := by
  w_on; o_law; k_head; (case hw => w_witness2)
  k_fill
  refine Lw.walk (l := PySem.Challenge.rw_alarmcurves_k16_errors) rfl rfl (fun w h Y => PySem.W.kIn_of Y) ?F
  case F =>
    intro w mg fa h KX G hmg
    refine' Lw.all_mk KX G hmg Lw.law_math ?a0 ?l0 ?c0 ?k0 ?a1 ?l1 ?c1 ?k1 ?a2 ?l2 ?c2 ?k2 ?a3 ?l3 ?c3 ?k3 ?a4 ?l4 ?c4 ?k4 ?a5 ?l5 ?c5 ?k5 ?a6 ?l6 ?c6 ?k6 ?a7 ?l7 ?c7 ?k7 ?a8 ?l8 ?c8 ?k8 ?a9 ?l9 ?c9 ?k9 ?a10 ?l10 ?c10 ?k10 ?a11 ?l11 ?c11 ?k11 ?a12 ?l12 ?c12 ?k12 ?a13 ?l13 ?c13 ?k13 ?a14 ?l14 ?c14 ?k14 ?a15 ?l15 ?c15 ?k15 ?a16 ?l16 ?c16 ?k16 ?a17 ?l17 ?c17 ?k17 ?a18 ?l18 ?c18 ?k18 ?a19 ?l19 ?c19 ?k19 ?a20 ?l20 ?c20 ?k20 ?a21 ?l21 ?c21 ?k21 ?a22 ?l22 ?c22 ?k22 ?a23 ?l23 ?c23 ?k23 ?a24 ?l24 ?c24 ?k24 ?a25 ?l25 ?c25 ?k25 ?a26 ?l26 ?c26 ?k26 ?a27 ?l27 ?c27 ?k27 ?a28 ?l28 ?c28 ?k28 ?a29 ?l29 ?c29 ?k29 ?a30 ?l30 ?c30 ?k30 ?a31 ?l31 ?c31 ?k31 ?a32 ?l32 ?c32 ?k32 ?a33 ?l33 ?c33 ?k33 ?a34 ?l34 ?c34 ?k34 ?a35 ?l35 ?c35 ?k35 ?a36 ?l36 ?c36 ?k36 ?a37 ?l37 ?c37 ?k37 ?a38 ?l38 ?c38 ?k38 ?a39 ?l39 ?c39 ?k39 ?a40 ?l40 ?c40 ?k40 ?a41 ?l41 ?c41 ?k41 ?a42 ?l42 ?c42 ?k42 ?a43 ?l43 ?c43 ?k43 ?a44 ?l44 ?c44 ?k44 ?a45 ?l45 ?c45 ?k45 ?a46 ?l46 ?c46 ?k46 ?a47 ?l47 ?c47 ?k47 ?a48 ?l48 ?c48 ?k48 ?a49 ?l49 ?c49 ?k49 ?a50 ?l50 ?c50 ?k50 ?a51 ?l51 ?c51 ?k51 ?a52 ?l52 ?c52 ?k52 ?a53 ?l53 ?c53 ?k53 ?a54 ?l54 ?c54 ?k54 ?a55 ?l55 ?c55 ?k55 ?a56 ?l56 ?c56 ?k56 ?a57 ?l57 ?c57 ?k57 ?a58 ?l58 ?c58 ?k58 ?a59 ?l59 ?c59 ?k59 ?a60 ?l60 ?c60 ?k60 ?a61 ?l61 ?c61 ?k61 ?a62 ?l62 ?c62 ?k62 ?a63 ?l63 ?c63 ?k63 ?a64 ?l64 ?c64 ?k64 ?a65 ?l65 ?c65 ?k65 ?a66 ?l66 ?c66 ?k66 ?a67 ?l67 ?c67 ?k67 ?a68 ?l68 ?c68 ?k68 ?a69 ?l69 ?c69 ?k69 ?a70 ?l70 ?c70 ?k70 ?a71 ?l71 ?c71 ?k71 ?z_ValueError ?z_abs ?z_all ?z_bool ?z_enumerate ?z_int ?z_isinstance ?z_len ?z_list ?z_max ?z_min ?z_range ?z_set ?z_sorted ?z_str ?z_tuple ?z_zip ?y_MOST_SCORE ?y_MOST_THINGS ?g_BadThings ?x_BadThings ?p_BadThings ?e_BadThings ?t_BadThings ?g_BadNumber ?x_BadNumber ?p_BadNumber ?e_BadNumber ?t_BadNumber ?g_BadPoints ?x_BadPoints ?p_BadPoints ?e_BadPoints ?t_BadPoints ?g_BadText ?x_BadText ?p_BadText ?e_BadText ?t_BadText ?g_NotFound ?x_NotFound ?p_NotFound ?e_NotFound ?t_NotFound ?g_AlarmError ?ca_s ?ca_d ?ca_t ?en ?et ?eg0 ?ek0 ?ed0 ?ea0 ?em0 ?eu0 ?ev0 ?es00 ?es01 ?es02 ?es03 ?es04 ?eg1 ?ek1 ?ed1 ?ea1 ?em1 ?eu1 ?ev1 ?es10 ?es11 ?es12 ?es13 ?es14 ?eg2 ?ek2 ?ed2 ?ea2 ?em2 ?eu2 ?ev2 ?es20 ?es21 ?es22 ?es23 ?es24 ?eg3 ?ek3 ?ed3 ?ea3 ?em3 ?eu3 ?ev3 ?es30 ?es31 ?es32 ?es33 ?es34 ?eg4 ?ek4 ?ed4 ?ea4 ?em4 ?eu4 ?ev4 ?es40 ?es41 ?es42 ?es43 ?es44
    (case a0 => k_is)
    (case l0 => k_is)
    (case c0 => k_is)
    (case k0 => k_is)
    (case a1 => k_is)
    (case l1 => k_is)
    (case c1 => k_is)
    (case k1 => k_is)
    (case a2 => k_is)
    (case l2 => k_is)
    (case c2 => k_is)
    (case k2 => k_is)
    (case a3 => k_is)
    (case l3 => k_is)
    (case c3 => k_is)
    (case k3 => k_is)
    (case a4 => k_is)
    (case l4 => k_is)
    (case c4 => k_is)
    (case k4 => k_is)
    (case a5 => k_is)
    (case l5 => k_is)
    (case c5 => k_is)
    (case k5 => k_is)
    (case a6 => k_is)
    (case l6 => k_is)
    (case c6 => k_is)
    (case k6 => k_is)
    (case a7 => k_is)
    (case l7 => k_is)
    (case c7 => k_is)
    (case k7 => k_is)
    (case a8 => k_is)
    (case l8 => k_is)
    (case c8 => k_is)
    (case k8 => k_is)
    (case a9 => k_is)
    (case l9 => k_is)
    (case c9 => k_is)
    (case k9 => k_is)
    (case a10 => k_is)
    (case l10 => k_is)
    (case c10 => k_is)
    (case k10 => k_is)
    (case a11 => k_is)
    (case l11 => k_is)
    (case c11 => k_is)
    (case k11 => k_is)
    (case a12 => k_is)
    (case l12 => k_is)
    (case c12 => k_is)
    (case k12 => k_is)
    (case a13 => k_is)
    (case l13 => k_is)
    (case c13 => k_is)
    (case k13 => k_is)
    (case a14 => k_is)
    (case l14 => k_is)
    (case c14 => k_is)
    (case k14 => k_is)
    (case a15 => k_is)
    (case l15 => k_is)
    (case c15 => k_is)
    (case k15 => k_is)
    (case a16 => k_is)
    (case l16 => k_is)
    (case c16 => k_is)
    (case k16 => k_is)
    (case a17 => k_is)
    (case l17 => k_is)
    (case c17 => k_is)
    (case k17 => k_is)
    (case a18 => k_is)
    (case l18 => k_is)
    (case c18 => k_is)
    (case k18 => k_is)
    (case a19 => k_is)
    (case l19 => k_is)
    (case c19 => k_is)
    (case k19 => k_is)
    (case a20 => k_is)
    (case l20 => k_is)
    (case c20 => k_is)
    (case k20 => k_is)
    (case a21 => k_is)
    (case l21 => k_is)
    (case c21 => k_is)
    (case k21 => k_is)
    (case a22 => k_is)
    (case l22 => k_is)
    (case c22 => k_is)
    (case k22 => k_is)
    (case a23 => k_is)
    (case l23 => k_is)
    (case c23 => k_is)
    (case k23 => k_is)
    (case a24 => k_is)
    (case l24 => k_is)
    (case c24 => k_is)
    (case k24 => k_is)
    (case a25 => k_is)
    (case l25 => k_is)
    (case c25 => k_is)
    (case k25 => k_is)
    (case a26 => k_is)
    (case l26 => k_is)
    (case c26 => k_is)
    (case k26 => k_is)
    (case a27 => k_is)
    (case l27 => k_is)
    (case c27 => k_is)
    (case k27 => k_is)
    (case a28 => k_is)
    (case l28 => k_is)
    (case c28 => k_is)
    (case k28 => k_is)
    (case a29 => k_is)
    (case l29 => k_is)
    (case c29 => k_is)
    (case k29 => k_is)
    (case a30 => k_is)
    (case l30 => k_is)
    (case c30 => k_is)
    (case k30 => k_is)
    (case a31 => k_is)
    (case l31 => k_is)
    (case c31 => k_is)
    (case k31 => k_is)
    (case a32 => k_is)
    (case l32 => k_is)
    (case c32 => k_is)
    (case k32 => k_is)
    (case a33 => k_is)
    (case l33 => k_is)
    (case c33 => k_is)
    (case k33 => k_is)
    (case a34 => k_is)
    (case l34 => k_is)
    (case c34 => k_is)
    (case k34 => k_is)
    (case a35 => k_is)
    (case l35 => k_is)
    (case c35 => k_is)
    (case k35 => k_is)
    (case a36 => k_is)
    (case l36 => k_is)
    (case c36 => k_is)
    (case k36 => k_is)
    (case a37 => k_is)
    (case l37 => k_is)
    (case c37 => k_is)
    (case k37 => k_is)
    (case a38 => k_is)
    (case l38 => k_is)
    (case c38 => k_is)
    (case k38 => k_is)
    (case a39 => k_is)
    (case l39 => k_is)
    (case c39 => k_is)
    (case k39 => k_is)
    (case a40 => k_is)
    (case l40 => k_is)
    (case c40 => k_is)
    (case k40 => k_is)
    (case a41 => k_is)
    (case l41 => k_is)
    (case c41 => k_is)
    (case k41 => k_is)
    (case a42 => k_is)
    (case l42 => k_is)
    (case c42 => k_is)
    (case k42 => k_is)
    (case a43 => k_is)
    (case l43 => k_is)
    (case c43 => k_is)
    (case k43 => k_is)
    (case a44 => k_is)
    (case l44 => k_is)
    (case c44 => k_is)
    (case k44 => k_is)
    (case a45 => k_is)
    (case l45 => k_is)
    (case c45 => k_is)
    (case k45 => k_is)
    (case a46 => k_is)
    (case l46 => k_is)
    (case c46 => k_is)
    (case k46 => k_is)
    (case a47 => k_is)
    (case l47 => k_is)
    (case c47 => k_is)
    (case k47 => k_is)
    (case a48 => k_is)
    (case l48 => k_is)
    (case c48 => k_is)
    (case k48 => k_is)
    (case a49 => k_is)
    (case l49 => k_is)
    (case c49 => k_is)
    (case k49 => k_is)
    (case a50 => k_is)
    (case l50 => k_is)
    (case c50 => k_is)
    (case k50 => k_is)
    (case a51 => k_is)
    (case l51 => k_is)
    (case c51 => k_is)
    (case k51 => k_is)
    (case a52 => k_is)
    (case l52 => k_is)
    (case c52 => k_is)
    (case k52 => k_is)
    (case a53 => k_is)
    (case l53 => k_is)
    (case c53 => k_is)
    (case k53 => k_is)
    (case a54 => k_is)
    (case l54 => k_is)
    (case c54 => k_is)
    (case k54 => k_is)
    (case a55 => k_is)
    (case l55 => k_is)
    (case c55 => k_is)
    (case k55 => k_is)
    (case a56 => k_is)
    (case l56 => k_is)
    (case c56 => k_is)
    (case k56 => k_is)
    (case a57 => k_is)
    (case l57 => k_is)
    (case c57 => k_is)
    (case k57 => k_is)
    (case a58 => k_is)
    (case l58 => k_is)
    (case c58 => k_is)
    (case k58 => k_is)
    (case a59 => k_is)
    (case l59 => k_is)
    (case c59 => k_is)
    (case k59 => k_is)
    (case a60 => k_is)
    (case l60 => k_is)
    (case c60 => k_is)
    (case k60 => k_is)
    (case a61 => k_is)
    (case l61 => k_is)
    (case c61 => k_is)
    (case k61 => k_is)
    (case a62 => k_is)
    (case l62 => k_is)
    (case c62 => k_is)
    (case k62 => k_is)
    (case a63 => k_is)
    (case l63 => k_is)
    (case c63 => k_is)
    (case k63 => k_is)
    (case a64 => k_is)
    (case l64 => k_is)
    (case c64 => k_is)
    (case k64 => k_is)
    (case a65 => k_is)
    (case l65 => k_is)
    (case c65 => k_is)
    (case k65 => k_is)
    (case a66 => k_is)
    (case l66 => k_is)
    (case c66 => k_is)
    (case k66 => k_is)
    (case a67 => k_is)
    (case l67 => k_is)
    (case c67 => k_is)
    (case k67 => k_is)
    (case a68 => k_is)
    (case l68 => k_is)
    (case c68 => k_is)
    (case k68 => k_is)
    (case a69 => k_is)
    (case l69 => k_is)
    (case c69 => k_is)
    (case k69 => k_is)
    (case a70 => k_is)
    (case l70 => k_is)
    (case c70 => k_is)
    (case k70 => k_is)
    (case a71 => k_is)
    (case l71 => k_is)
    (case c71 => k_is)
    (case k71 => k_is)
    (case z_ValueError => k_is)
    (case z_abs => k_is)
    (case z_all => k_is)
    (case z_bool => k_is)
    (case z_enumerate => k_is)
    (case z_int => k_is)
    (case z_isinstance => k_is)
    (case z_len => k_is)
    (case z_list => k_is)
    (case z_max => k_is)
    (case z_min => k_is)
    (case z_range => k_is)
    (case z_set => k_is)
    (case z_sorted => k_is)
    (case z_str => k_is)
    (case z_tuple => k_is)
    (case z_zip => k_is)
    (case y_MOST_SCORE => k_is)
    (case y_MOST_THINGS => k_is)
    (case g_BadThings => k_is)
    (case x_BadThings => k_exc)
    (case p_BadThings => k_is)
    (case e_BadThings => k_is)
    (case t_BadThings => k_is)
    (case g_BadNumber => k_is)
    (case x_BadNumber => k_exc)
    (case p_BadNumber => k_is)
    (case e_BadNumber => k_is)
    (case t_BadNumber => k_is)
    (case g_BadPoints => k_is)
    (case x_BadPoints => k_exc)
    (case p_BadPoints => k_is)
    (case e_BadPoints => k_is)
    (case t_BadPoints => k_is)
    (case g_BadText => k_is)
    (case x_BadText => k_exc)
    (case p_BadText => k_is)
    (case e_BadText => k_is)
    (case t_BadText => k_is)
    (case g_NotFound => k_is)
    (case x_NotFound => k_exc)
    (case p_NotFound => k_is)
    (case e_NotFound => k_is)
    (case t_NotFound => k_is)
    (case g_AlarmError => k_is)
    (case ca_s => k_is)
    (case ca_d => k_is)
    (case ca_t => k_is)
    (case en => k_is)
    (case et => k_is)
    (case eg0 => k_is)
    (case ek0 => k_is)
    (case ed0 => k_is)
    (case ea0 => k_is)
    (case em0 => k_is)
    (case eu0 => k_is)
    (case ev0 => k_is)
    (case es00 => k_is)
    (case es01 => k_is)
    (case es02 => k_is)
    (case es03 => k_is)
    (case es04 => k_is)
    (case eg1 => k_is)
    (case ek1 => k_is)
    (case ed1 => k_is)
    (case ea1 => k_is)
    (case em1 => k_is)
    (case eu1 => k_is)
    (case ev1 => k_is)
    (case es10 => k_is)
    (case es11 => k_is)
    (case es12 => k_is)
    (case es13 => k_is)
    (case es14 => k_is)
    (case eg2 => k_is)
    (case ek2 => k_is)
    (case ed2 => k_is)
    (case ea2 => k_is)
    (case em2 => k_is)
    (case eu2 => k_is)
    (case ev2 => k_is)
    (case es20 => k_is)
    (case es21 => k_is)
    (case es22 => k_is)
    (case es23 => k_is)
    (case es24 => k_is)
    (case eg3 => k_is)
    (case ek3 => k_is)
    (case ed3 => k_is)
    (case ea3 => k_is)
    (case em3 => k_is)
    (case eu3 => k_is)
    (case ev3 => k_is)
    (case es30 => k_is)
    (case es31 => k_is)
    (case es32 => k_is)
    (case es33 => k_is)
    (case es34 => k_is)
    (case eg4 => k_is)
    (case ek4 => k_is)
    (case ed4 => k_is)
    (case ea4 => k_is)
    (case em4 => k_is)
    (case eu4 => k_is)
    (case ev4 => k_is)
    (case es40 => k_is)
    (case es41 => k_is)
    (case es42 => k_is)
    (case es43 => k_is)
    (case es44 => k_is)
#print axioms PySem.Challenge.cw_alarmcurves_k16_errors_holds
