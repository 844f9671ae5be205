import PyProof.Rows.All
import Wide.All
import OpenK.AllK
import Wide.FinOn
import HandS.Base
import HandS.Call
import HandS.List
import HandS.Comp
import HandS.Exc
import HandS.Words
import HandS.WordsExc
import HandS.ExcOwn
import HandS.Deep
import HandS.Style
import HandS.IsInst
import HandS.TupAny
import HandS.SetFor
import HandS.Conv
import KE.SortData
import KE.KTupSum
import HandS.Strs
import HandS.Walk
import HandS.Iter
import HandS.Text
import HandS.TryOnly
import HandS.ExcIs
import HandS.ExcValue
import HandS.TupSets
import HandS.FStr
import PySem.Challenge.RW_alarmcurves_k11_whole_watches
set_option Elab.async false
set_option linter.all false
set_option maxRecDepth 100000
set_option maxHeartbeats 4000000
namespace DL
open PySem L2

abbrev D := PyData
def lim : Nat := 100000

/-! ### pure data as it lies in an abstract heap -/
mutual
inductive Rp (H : Hp) : V → D → Prop
  | non : Rp H .non .none
  | bl (b : Bool) : Rp H (.bl b) (.bool b)
  | int (i : Int) : Rp H (.int i) (.int i)
  | str (x : Str) : x.length ≤ lim → PyData.strOk x = true → Rp H (.str x) (.str x)
  | lst {a : Addr} {xs : List V} {ds : List D} : H a = some (.lst xs) → xs.length ≤ lim → RpAll H xs ds → Rp H (.ref a) (.list ds)
  | tup {a : Addr} {xs : List V} {ds : List D} : H a = some (.tup xs) → xs.length ≤ lim → RpAll H xs ds → Rp H (.ref a) (.tuple ds)
inductive RpAll (H : Hp) : List V → List D → Prop
  | nil : RpAll H [] []
  | cons {v : V} {vs : List V} {d : D} {ds : List D} : Rp H v d → RpAll H vs ds → RpAll H (v :: vs) (d :: ds)
end

mutual
theorem Rp.mono {H H' : Hp} (e : Same H H') : ∀ (d : D) (v : V), Rp H v d → Rp H' v d
  | .none, _, h => by cases h; exact .non
  | .bool b, _, h => by cases h; exact .bl b
  | .int i, _, h => by cases h; exact .int i
  | .str x, _, h => by cases h with | str _ a b => exact .str x a b
  | .list ds, _, h => by cases h with | lst a b c => exact .lst (e _ _ a) b (RpAll.mono e ds _ c)
  | .tuple ds, _, h => by cases h with | tup a b c => exact .tup (e _ _ a) b (RpAll.mono e ds _ c)
  | .dict _, _, h => by cases h
theorem RpAll.mono {H H' : Hp} (e : Same H H') : ∀ (ds : List D) (vs : List V), RpAll H vs ds → RpAll H' vs ds
  | [], _, h => by cases h; exact .nil
  | d :: ds, _, h => by cases h with | cons a b => exact .cons (Rp.mono e d _ a) (RpAll.mono e ds _ b)
end
theorem Rp.up {H H' : Hp} {d : D} {v : V} (h : Rp H v d) (e : Same H H') : Rp H' v d := Rp.mono e d v h
theorem RpAll.up {H H' : Hp} {ds : List D} {vs : List V} (h : RpAll H vs ds) (e : Same H H') : RpAll H' vs ds := RpAll.mono e ds vs h
mutual
theorem Rp.dp {K : PySem.W.Frag} {H : Hp} : ∀ (d : D) (v : V), Rp H v d → Dp K H v d
  | .none, _, h => by cases h; exact .non
  | .bool b, _, h => by cases h; exact .bl b
  | .int i, _, h => by cases h; exact .int i
  | .str x, _, h => by cases h with | str _ a b => exact .str x
  | .list ds, _, h => by cases h with | lst a b c => exact .lst (SqL.of a) (RpAll.dp ds _ c)
  | .tuple ds, _, h => by cases h with | tup a b c => exact .tup (SqT.of a) (RpAll.dp ds _ c)
  | .dict _, _, h => by cases h
theorem RpAll.dp {K : PySem.W.Frag} {H : Hp} : ∀ (ds : List D) (vs : List V), RpAll H vs ds → DpAll K H vs ds
  | [], _, h => by cases h; exact .nil
  | d :: ds, _, h => by cases h with | cons a b => exact .cons (Rp.dp d _ a) (RpAll.dp ds _ b)
end
mutual
theorem Rp.lay {H : Hp} : ∀ (d : D) (v : V), Rp H v d → d.canLay0 = true
  | .none, _, h => by simp [PyData.canLay0]
  | .bool b, _, h => by simp [PyData.canLay0]
  | .int i, _, h => by simp [PyData.canLay0]
  | .str x, _, h => by cases h with | str _ a b => simpa [PyData.canLay0] using b
  | .list ds, _, h => by cases h with | lst a b c => simpa [PyData.canLay0] using RpAll.lay ds _ c
  | .tuple ds, _, h => by cases h with | tup a b c => simpa [PyData.canLay0] using RpAll.lay ds _ c
  | .dict _, _, h => by cases h
theorem RpAll.lay {H : Hp} : ∀ (ds : List D) (vs : List V), RpAll H vs ds → PyData.canLayAll0 ds = true
  | [], _, h => by simp [PyData.canLayAll0]
  | d :: ds, _, h => by cases h with | cons a b => simp [PyData.canLayAll0, Rp.lay d _ a, RpAll.lay ds _ b]
end
theorem RpAll.len {H : Hp} : ∀ {vs : List V} {ds : List D}, RpAll H vs ds → vs.length = ds.length
  | _, _, .nil => rfl
  | _, _, .cons _ h => by simp [RpAll.len h]
theorem RpAll.get {H : Hp} : ∀ {vs : List V} {ds : List D} {i : Nat} {d : D}, RpAll H vs ds → ds[i]? = some d → ∃ v, vs[i]? = some v ∧ Rp H v d
  | _, _, _, _, .nil, e => by simp at e
  | _, _, 0, _, .cons r _, e => by simp at e; subst e; exact ⟨_, rfl, r⟩
  | _, _, i + 1, d, .cons _ t, e => by
    obtain ⟨u, h1, h2⟩ := RpAll.get (i := i) (d := d) t (by simpa using e)
    exact ⟨u, by simpa using h1, h2⟩
theorem RpAll.getV {H : Hp} : ∀ {vs : List V} {ds : List D} {i : Nat} {v : V}, RpAll H vs ds → vs[i]? = some v → ∃ d, ds[i]? = some d ∧ Rp H v d
  | _, _, _, _, .nil, e => by simp at e
  | _, _, 0, _, .cons r _, e => by simp at e; subst e; exact ⟨_, rfl, r⟩
  | _, _, i + 1, d, .cons _ t, e => by
    obtain ⟨u, h1, h2⟩ := RpAll.getV (i := i) (v := d) t (by simpa using e)
    exact ⟨u, by simpa using h1, h2⟩
theorem RpAll.append {H : Hp} : ∀ {vs ws : List V} {ds es : List D}, RpAll H vs ds → RpAll H ws es → RpAll H (vs ++ ws) (ds ++ es)
  | _, _, _, _, .nil, s => s
  | _, _, _, _, .cons r t, s => .cons r (RpAll.append t s)
theorem RpAll.take {H : Hp} : ∀ {vs : List V} {ds : List D} (n : Nat), RpAll H vs ds → RpAll H (vs.take n) (ds.take n)
  | _, _, 0, _ => .nil
  | _, _, _ + 1, .nil => .nil
  | _, _, n + 1, .cons r t => .cons r (RpAll.take n t)
theorem RpAll.drop {H : Hp} : ∀ {vs : List V} {ds : List D} (n : Nat), RpAll H vs ds → RpAll H (vs.drop n) (ds.drop n)
  | _, _, 0, r => r
  | _, _, _ + 1, .nil => .nil
  | _, _, n + 1, .cons _ t => RpAll.drop n t
theorem RpAll.reverse {H : Hp} : ∀ {vs : List V} {ds : List D}, RpAll H vs ds → RpAll H vs.reverse ds.reverse
  | _, _, .nil => .nil
  | _, _, .cons r t => by
    rw [List.reverse_cons, List.reverse_cons]
    exact RpAll.append (RpAll.reverse t) (.cons r .nil)
theorem RpAll.set {H : Hp} {v : V} {d : D} (r : Rp H v d) : ∀ {vs : List V} {ds : List D} (i : Nat), RpAll H vs ds → RpAll H (vs.set i v) (ds.set i d)
  | _, _, _, .nil => .nil
  | _, _, 0, .cons _ t => .cons r t
  | _, _, i + 1, .cons q t => .cons q (RpAll.set r i t)

/-! ### scalars lie in no heap -/
def scalarD : D → Bool
  | .none | .bool _ | .int _ | .str _ => true
  | _ => false
theorem Rp.scalar {H H' : Hp} {d : D} {v : V} (h : Rp H v d) (s : scalarD d = true) : Rp H' v d := by
  cases h with
  | non => exact .non
  | bl b => exact .bl b
  | int i => exact .int i
  | str x a b => exact .str x a b
  | lst => cases s
  | tup => cases s

/-! ### the heap without the addresses of P -/
open Classical in
noncomputable def Fz (P : Addr → Prop) (H : Hp) : Hp := fun a => if P a then none else H a
theorem Fz_some {P : Addr → Prop} {H : Hp} {a : Addr} {o : HO} : Fz P H a = some o ↔ ¬ P a ∧ H a = some o := by
  unfold Fz
  by_cases h : P a
  · simp [h]
  · simp [h]
theorem Fz_mono {P P' : Addr → Prop} {H H' : Hp} (hp : ∀ a, H a ≠ none → P' a → P a) (e : ∀ a o, ¬ P a → H a = some o → H' a = some o) : Same (Fz P H) (Fz P' H') := fun a o h => by
  obtain ⟨h1, h2⟩ := Fz_some.mp h
  exact Fz_some.mpr ⟨fun q => h1 (hp a (by rw [h2]; simp) q), e a o h1 h2⟩
theorem Fz_sub {P : Addr → Prop} {H : Hp} : Same (Fz P H) H := fun a o h => (Fz_some.mp h).2

/-! ### the results -/
inductive Res (S α : Type) where
  | ok (a : α) (s : S)
  | er (c : Nat) (s : S)
  | bad
@[inline] def Res.bnd {S α β : Type} (m : Res S α) (k : α → S → Res S β) : Res S β := match m with
  | .ok a s => k a s
  | .er c s => .er c s
  | .bad => .bad

/-- an expression's value: data, or a value that is no data -/
inductive Dv where
  | d (x : D)
  | v (x : V)
def Is (F : Hp) (v : V) : Dv → Prop
  | .d x => Rp F v x
  | .v x => v = x
theorem Is.up {F F' : Hp} {v : V} {d : Dv} (h : Is F v d) (e : Same F F') : Is F' v d := by
  cases d with
  | d x => exact Rp.up (show Rp F v x from h) e
  | v x => exact h
/-- a slot: nothing told, data, a list of one's own (its items), a value that is no data -/
inductive Sl where
  | no
  | d (x : D)
  | m (xs : List D)
  | v (x : V)
abbrev Env := List Sl

/-- what lies behind the slots: a state S and how it lies in the heap; hid: addresses that are no data; low: what stood at the entry -/
structure Wd (S : Type) where
  hid : Addr → Prop
  low : Addr → Prop
  at_ : S → Hp → Prop
  ext : ∀ s H H', at_ s H → Same H H' → at_ s H'
  mutn : ∀ s H p o o', at_ s H → H p = some o → (∀ xs, o ≠ .tup xs) → ¬ hid p → ¬ low p → at_ s (upd H p o')
  hidIn : ∀ s H p, at_ s H → hid p → H p ≠ none
  lowIn : ∀ s H p, at_ s H → low p → H p ≠ none

section
variable {S : Type} (W : Wd S)
def Own (ρ : Env) (σ : L2.St) (a : Addr) : Prop := ∃ (i : Nat) (xs : List D), ρ[i]? = some (.m xs) ∧ σ[i]? = some (some (.ref a))
/-- what may be read as data -/
noncomputable def Frz (ρ : Env) (σ : L2.St) (H : Hp) : Hp := Fz (fun a => W.hid a ∨ Own ρ σ a) H
structure EnvOk (ρ : Env) (σ : L2.St) (s : S) (H : Hp) : Prop where
  len : ρ.length = σ.length
  at_ : W.at_ s H
  dat : ∀ (i : Nat) (x : D), ρ[i]? = some (.d x) → ∃ v, σ[i]? = some (some v) ∧ Rp (Frz W ρ σ H) v x
  raw : ∀ (i : Nat) (x : V), ρ[i]? = some (.v x) → σ[i]? = some (some x)
  mutl : ∀ (i : Nat) (xs : List D), ρ[i]? = some (.m xs) → ∃ (a : Addr) (vs : List V), σ[i]? = some (some (.ref a)) ∧ H a = some (.lst vs) ∧ vs.length ≤ lim ∧ RpAll (Frz W ρ σ H) vs xs ∧ ¬ W.hid a ∧ ¬ W.low a
  sep : ∀ (i j : Nat) (xs ys : List D) (a : Addr), ρ[i]? = some (.m xs) → ρ[j]? = some (.m ys) → σ[i]? = some (some (.ref a)) → σ[j]? = some (some (.ref a)) → i = j
/-- what an expression leaves: all that is not hidden is kept -/
def Stp (H H' : Hp) : Prop := ∀ (a : Addr) (o : HO), ¬ W.hid a → H a = some o → H' a = some o
end
section
variable {S : Type} {W : Wd S} {ρ : Env} {σ : L2.St} {s s' : S} {H H' H'' : Hp}
theorem Stp.refl : Stp W H H := fun _ _ _ h => h
theorem Stp.trans (a : Stp W H H') (b : Stp W H' H'') : Stp W H H'' := fun x o n h => b x o n (a x o n h)
theorem Stp.of (e : Same H H') : Stp W H H' := fun a o _ h => e a o h
theorem EnvOk.ownIn (E : EnvOk W ρ σ s H) {a : Addr} (h : Own ρ σ a) : ∃ vs, H a = some (.lst vs) ∧ ¬ W.hid a ∧ ¬ W.low a := by
  obtain ⟨i, xs, h1, h2⟩ := h
  obtain ⟨b, vs, e1, e2, _, _, e3, e4⟩ := E.mutl i xs h1
  rw [e1] at h2
  cases h2
  exact ⟨vs, e2, e3, e4⟩
theorem Frz.stp (e : Stp W H H') : Same (Frz W ρ σ H) (Frz W ρ σ H') :=
  Fz_mono (fun _ _ h => h) fun a o h q => e a o (fun z => h (.inl z)) q
theorem EnvOk.step (E : EnvOk W ρ σ s H) (a : W.at_ s' H') (e : Stp W H H') : EnvOk W ρ σ s' H' where
  len := E.len
  at_ := a
  dat := fun i x h => let ⟨v, h1, h2⟩ := E.dat i x h; ⟨v, h1, h2.up (Frz.stp e)⟩
  raw := E.raw
  mutl := fun i xs h => let ⟨b, vs, h1, h2, h3, h4, h5, h6⟩ := E.mutl i xs h; ⟨b, vs, h1, e b _ h5 h2, h3, h4.up (Frz.stp e), h5, h6⟩
  sep := E.sep
theorem EnvOk.ext (E : EnvOk W ρ σ s H) (e : Same H H') : EnvOk W ρ σ s H' := E.step (W.ext _ _ _ E.at_ e) (Stp.of e)
/-- a new address is neither hidden nor one's own nor low -/
theorem EnvOk.new (E : EnvOk W ρ σ s H) {p : Addr} (hp : H p = none) : ¬ W.hid p ∧ ¬ W.low p ∧ ¬ Own ρ σ p :=
  ⟨fun h => W.hidIn _ _ _ E.at_ h hp, fun h => W.lowIn _ _ _ E.at_ h hp, fun h => by
    obtain ⟨vs, e, _⟩ := E.ownIn h
    rw [hp] at e
    cases e⟩
theorem Same.new {H : Hp} {p : Addr} {o : HO} (h : H p = none) : Same H (upd H p o) := fun a u e => by
  rw [upd_ne (ne_of_none e h)]
  exact e
theorem Same.mut {H H' : Hp} {p : Addr} {o : HO} (e : Same H H') (h : H p = none) : Same H (upd H' p o) := fun a u ha => by
  rw [upd_ne (ne_of_none ha h)]
  exact e a u ha
theorem frz_new (E : EnvOk W ρ σ s H) {p : Addr} {o : HO} (hp : H p = none) : Frz W ρ σ (upd H p o) p = some o :=
  Fz_some.mpr ⟨fun h => h.elim (E.new hp).1 (E.new hp).2.2, upd_same⟩
end
end DL

namespace DL
open PySem L2

/-! ### operations by values -/
def InH (P : Addr → Prop) (H : Hp) : Prop := ∀ a, P a → H a ≠ none
theorem InH.new {P : Addr → Prop} {H : Hp} (h : InH P H) {p : Addr} (hp : H p = none) : ¬ P p := fun q => h p q hp
theorem InH.up {P : Addr → Prop} {H H' : Hp} (h : InH P H) (e : Same H H') : InH P H' := fun a q => by
  cases z : H a with
  | none => exact absurd z (h a q)
  | some o => rw [e a o z]; simp
theorem Fz_same {P : Addr → Prop} {H H' : Hp} (e : Same H H') : Same (Fz P H) (Fz P H') := Fz_mono (fun _ _ h => h) fun a o _ h => e a o h
theorem Fz_at {P : Addr → Prop} {H : Hp} {p : Addr} {o : HO} (hp : ¬ P p) (h : H p = some o) : Fz P H p = some o := Fz_some.mpr ⟨hp, h⟩
theorem rp_lst {P : Addr → Prop} {H : Hp} {p : Addr} {vs : List V} {ds : List D} (hP : InH P H) (hp : H p = none) (hl : vs.length ≤ lim) (r : RpAll (Fz P H) vs ds) : Rp (Fz P (upd H p (.lst vs))) (.ref p) (.list ds) :=
  .lst (Fz_at (hP.new hp) upd_same) hl (r.up (Fz_same (Same.new hp)))
theorem rp_tup {P : Addr → Prop} {H : Hp} {p : Addr} {vs : List V} {ds : List D} (hP : InH P H) (hp : H p = none) (hl : vs.length ≤ lim) (r : RpAll (Fz P H) vs ds) : Rp (Fz P (upd H p (.tup vs))) (.ref p) (.tuple ds) :=
  .tup (Fz_at (hP.new hp) upd_same) hl (r.up (Fz_same (Same.new hp)))
theorem lim_line {n : Nat} (h : n ≤ lim) : n ≤ sizeLine := by rw [sizeLine_eq]; unfold lim at h; omega

/-- a two-place operation: its reading, what it makes -/
def S2 (r : R2) (op : D → D → Option D) : Prop := ∀ (P : Addr → Prop) (H : Hp) (x y : V) (d e z : D) (Q : VK), InH P H → Rp (Fz P H) x d → Rp (Fz P H) y e → op d e = some z →
  (∀ v H', Same H H' → Rp (Fz P H') v z → Q v H') → r x y H Q
/-- a call of a builtin on values -/
def SA (r : List V → Hp → VK → Prop) (op : List D → Option D) : Prop := ∀ (P : Addr → Prop) (H : Hp) (xs : List V) (ds : List D) (z : D) (Q : VK), InH P H → RpAll (Fz P H) xs ds → op ds = some z →
  (∀ v H', Same H H' → Rp (Fz P H') v z → Q v H') → r xs H Q

theorem S2.or {r r' : R2} {f g : D → D → Option D} (a : S2 r f) (b : S2 r' g) : S2 (fun x y H Q => r x y H Q ∨ r' x y H Q) (fun x y => (f x y).or (g x y)) := by
  intro P H x y d e z Q hP hx hy ho k
  cases h : f d e with
  | some w =>
    have e1 : (f d e).or (g d e) = some z := ho
    rw [h] at e1
    cases e1
    exact .inl (a P H x y d e _ Q hP hx hy h k)
  | none =>
    have e1 : (f d e).or (g d e) = some z := ho
    rw [h] at e1
    exact .inr (b P H x y d e _ Q hP hx hy e1 k)
theorem SA.or {r r' : List V → Hp → VK → Prop} {f g : List D → Option D} (a : SA r f) (b : SA r' g) : SA (fun x H Q => r x H Q ∨ r' x H Q) (fun x => (f x).or (g x)) := by
  intro P H x d z Q hP hx ho k
  cases h : f d with
  | some w =>
    have e1 : (f d).or (g d) = some z := ho
    rw [h] at e1
    cases e1
    exact .inl (a P H x d _ Q hP hx h k)
  | none =>
    have e1 : (f d).or (g d) = some z := ho
    rw [h] at e1
    exact .inr (b P H x d _ Q hP hx e1 k)

/-! ints -/
def onI (C : Int → Int → Bool) (g : Int → Int → D) : D → D → Option D
  | .int i, .int j => if C i j then some (g i j) else none
  | _, _ => none
theorem onI_int {C : Int → Int → Bool} {g : Int → Int → D} {d e z : D} (h : onI C g d e = some z) : ∃ i j, d = .int i ∧ e = .int j ∧ C i j = true ∧ z = g i j := by
  cases d <;> cases e <;> simp [onI] at h
  exact ⟨_, _, rfl, rfl, h.1, h.2.symm⟩
theorem s2_I {C : Int → Int → Prop} {Cb : Int → Int → Bool} {g : Int → Int → Int} (hc : ∀ i j, Cb i j = true → C i j) : S2 (rI C fun i j => .int (g i j)) (onI Cb fun i j => .int (g i j)) := by
  intro P H x y d e z Q hP hx hy ho k
  obtain ⟨i, j, rfl, rfl, c, rfl⟩ := onI_int ho
  cases hx; cases hy
  exact ⟨i, j, rfl, rfl, hc _ _ c, k _ _ (Same.refl _) (.int _)⟩
theorem s2_I0 {g : Int → Int → Int} : S2 (rI0 fun i j => .int (g i j)) (onI (fun _ _ => true) fun i j => .int (g i j)) := by
  intro P H x y d e z Q hP hx hy ho k
  obtain ⟨i, j, rfl, rfl, c, rfl⟩ := onI_int ho
  cases hx; cases hy
  exact ⟨i, j, rfl, rfl, k _ _ (Same.refl _) (.int _)⟩
theorem s2_B0 {g : Int → Int → Bool} : S2 (rI0 fun i j => .bl (g i j)) (onI (fun _ _ => true) fun i j => .bool (g i j)) := by
  intro P H x y d e z Q hP hx hy ho k
  obtain ⟨i, j, rfl, rfl, c, rfl⟩ := onI_int ho
  cases hx; cases hy
  exact ⟨i, j, rfl, rfl, k _ _ (Same.refl _) (.bl _)⟩
def big64 (i : Int) : Bool := decide (-(2 ^ 64) < i) && decide (i < 2 ^ 64)
theorem big64_iff {i : Int} : big64 i = true ↔ -(2 ^ 64) < i ∧ i < 2 ^ 64 := by simp [big64]

section
variable {X : Cx}
/-! a + b: ints, lists, texts, tuples -/
def rAddD (K : PySem.W.Frag) : R2 := fun x y H Q => rI0 (fun i j => .int (i + j)) x y H Q ∨ (rCat x y H Q ∨ (rCatA K x y H Q ∨ ∃ i j, x = .str i ∧ y = .str j ∧ i.length + j.length ≤ sizeLine ∧ Q (.str (i ++ j)) H))
theorem op_addD : OpR X (binaryOp .Add) (rAddD X.K) := op_add.or (op_cat.or (op_catA.or op_add_str))
def addD : D → D → Option D
  | .int i, .int j => some (.int (i + j))
  | .list xs, .list ys => if xs.length + ys.length ≤ lim then some (.list (xs ++ ys)) else none
  | .tuple xs, .tuple ys => if xs.length + ys.length ≤ lim then some (.tuple (xs ++ ys)) else none
  | .str x, .str y => if x.length + y.length ≤ lim ∧ (x ++ y).length ≤ lim ∧ PyData.strOk (x ++ y) = true then some (.str (x ++ y)) else none
  | _, _ => none
theorem ite_some {α : Type} {c : Prop} [Decidable c] {a z : α} (h : (if c then some a else none) = some z) : c ∧ a = z := by
  by_cases hc : c
  · rw [if_pos hc] at h; exact ⟨hc, Option.some.inj h⟩
  · rw [if_neg hc] at h; cases h
theorem s2_add {K : PySem.W.Frag} : S2 (rAddD K) addD := by
  intro P H x y d e z Q hP hx hy ho k
  cases hx with
  | int i =>
    cases hy with
    | int j => cases ho; exact .inl ⟨i, j, rfl, rfl, k _ _ (Same.refl _) (.int _)⟩
    | _ => cases ho
  | str i a b =>
    cases hy with
    | str j a' b' =>
      obtain ⟨h, rfl⟩ := ite_some ho
      exact .inr (.inr (.inr ⟨i, j, rfl, rfl, lim_line h.1, k _ _ (Same.refl _) (.str _ h.2.1 h.2.2)⟩))
    | _ => cases ho
  | lst ha la ra =>
    cases hy with
    | lst hb lb rb =>
      obtain ⟨h, rfl⟩ := ite_some ho
      have l1 := ra.len
      have l2 := rb.len
      exact .inr (.inl ⟨_, _, _, _, rfl, rfl, Fz_sub _ _ ha, Fz_sub _ _ hb, lim_line (by omega), fun p hp => k _ _ (Same.new hp) (rp_lst hP hp (by rw [List.length_append]; omega) (ra.append rb))⟩)
    | _ => cases ho
  | tup ha la ra =>
    cases hy with
    | tup hb lb rb =>
      obtain ⟨h, rfl⟩ := ite_some ho
      have l1 := ra.len
      have l2 := rb.len
      refine .inr (.inr (.inl ⟨_, _, _, _, rfl, rfl, SqT.of (Fz_sub _ _ ha), SqT.of (Fz_sub _ _ hb), lim_line (by omega), fun e => ?_, fun _ e => ?_, fun _ _ p hp => ?_⟩))
      · subst e
        cases ra
        exact k _ _ (Same.refl _) (.tup hb lb rb)
      · subst e
        cases rb
        rw [List.append_nil] at k
        exact k _ _ (Same.refl _) (.tup ha la ra)
      · exact k _ _ (Same.new hp) (rp_tup hP hp (by rw [List.length_append]; omega) (ra.append rb))
    | _ => cases ho
  | _ => cases ho

/-! a - b, a % b, a // b, a ** b -/
def subD : D → D → Option D := onI (fun _ _ => true) fun i j => .int (i - j)
theorem s2_sub : S2 (rI0 fun i j => .int (i - j)) subD := s2_I0
def modD : D → D → Option D := onI (fun _ j => decide (0 < j)) fun i j => .int (i % j)
theorem s2_mod : S2 (rI (fun _ j => 0 < j) fun i j => .int (i % j)) modD := s2_I fun _ _ h => of_decide_eq_true h
def fdivD : D → D → Option D := onI (fun _ j => decide (0 < j) && decide (j < 1073741824)) fun i j => .int (i / j)
theorem s2_fdiv : S2 (rI CDiv fun i j => .int (i / j)) fdivD := s2_I fun i j h => by
  simp only [Bool.and_eq_true, decide_eq_true_eq] at h
  exact h
def powD : D → D → Option D := onI (fun i j => decide (0 ≤ j) && decide (j ≤ 1000000) && big64 i) fun i j => .int (i ^ j.toNat)
theorem s2_pow : S2 (rI CPow fun i j => .int (i ^ j.toNat)) powD := s2_I fun i j h => by
  simp only [Bool.and_eq_true, decide_eq_true_eq, big64_iff] at h
  exact ⟨h.1.1, h.1.2, by omega⟩
/-! a * b: ints; a list times an int -/
def rMulD : R2 := fun x y H Q => rI CMul (fun i j => .int (i * j)) x y H Q ∨ rRep x y H Q
theorem op_mulD : OpR X (binaryOp .Mult) rMulD := op_mul.or op_rep
def mulD : D → D → Option D
  | .int i, .int j => if (big64 i || big64 j) = true then some (.int (i * j)) else none
  | .list xs, .int k => if -(2 ^ 63) ≤ k ∧ k < 2 ^ 63 ∧ xs.length * k.toNat ≤ lim then some (.list (List.replicate k.toNat xs).flatten) else none
  | _, _ => none
theorem rpAll_rep {H : Hp} {vs : List V} {ds : List D} (r : RpAll H vs ds) : ∀ n, RpAll H (List.replicate n vs).flatten (List.replicate n ds).flatten
  | 0 => .nil
  | n + 1 => by
    rw [List.replicate_succ, List.replicate_succ, List.flatten_cons, List.flatten_cons]
    exact r.append (rpAll_rep r n)
theorem len_rep {α : Type} (vs : List α) : ∀ n, (List.replicate n vs).flatten.length = vs.length * n
  | 0 => by simp
  | n + 1 => by
    rw [List.replicate_succ, List.flatten_cons, List.length_append, len_rep vs n, Nat.mul_succ]
    omega
theorem s2_mul : S2 rMulD mulD := by
  intro P H x y d e z Q hP hx hy ho k
  cases hx with
  | int i =>
    cases hy with
    | int j =>
      obtain ⟨h, rfl⟩ := ite_some ho
      rw [Bool.or_eq_true, big64_iff, big64_iff] at h
      exact .inl ⟨i, j, rfl, rfl, h, k _ _ (Same.refl _) (.int _)⟩
    | _ => cases ho
  | lst ha la ra =>
    cases hy with
    | int j =>
      obtain ⟨⟨h1, h2, h3⟩, rfl⟩ := ite_some ho
      have l1 := ra.len
      exact .inr ⟨_, _, _, rfl, rfl, Fz_sub _ _ ha, h1, h2, lim_line (by rw [l1]; exact h3), fun p hp => k _ _ (Same.new hp) (rp_lst hP hp (by rw [len_rep, l1]; exact h3) (rpAll_rep ra _))⟩
    | _ => cases ho
  | _ => cases ho

/-! comparisons of ints -/
def ltD : D → D → Option D := onI (fun _ _ => true) fun i j => .bool (decide (i < j))
def leD : D → D → Option D := onI (fun _ _ => true) fun i j => .bool (decide (i ≤ j))
def gtD : D → D → Option D := onI (fun _ _ => true) fun i j => .bool (decide (j < i))
def geD : D → D → Option D := onI (fun _ _ => true) fun i j => .bool (decide (j ≤ i))
theorem s2_lt : S2 (rI0 fun i j => .bl (decide (i < j))) ltD := s2_B0 (g := fun i j => decide (i < j))
theorem s2_le : S2 (rI0 fun i j => .bl (decide (i ≤ j))) leD := s2_B0 (g := fun i j => decide (i ≤ j))
theorem s2_gt : S2 (rI0 fun i j => .bl (decide (j < i))) gtD := s2_B0 (g := fun i j => decide (j < i))
theorem s2_ge : S2 (rI0 fun i j => .bl (decide (j ≤ i))) geD := s2_B0 (g := fun i j => decide (j ≤ i))

/-! == and != of data -/
def rEqE (K : PySem.W.Frag) : R2 := fun x y H Q => ∃ d e, Dp K H x d ∧ Dp K H y e ∧ d.canLay0 = true ∧ e.canLay0 = true ∧ min d.depth e.depth ≤ 64 ∧ Q (.bl (PyData.eqv d e)) H
def rNeE (K : PySem.W.Frag) : R2 := fun x y H Q => ∃ d e, Dp K H x d ∧ Dp K H y e ∧ d.canLay0 = true ∧ e.canLay0 = true ∧ min d.depth e.depth ≤ 64 ∧ Q (.bl (!PyData.eqv d e)) H
theorem op_eqE (hu : X.A.units + 64 < cLine) : OpR X (compareOp .Eq) (rEqE X.K) := by
  intro pins s σ H x y v u Q I rx ry h
  obtain ⟨d, e, hd, he, sd, se, hm, q⟩ := h
  obtain ⟨as, r1⟩ := Dp.reads I d x v hd rx
  obtain ⟨bs, r2⟩ := Dp.reads I e y u he ry
  exact SeqAt.compareEq_reads r1 r2 sd se (by omega) ⟨.bl _, H, I, rfl, q⟩
theorem op_neE (hu : X.A.units + 64 < cLine) : OpR X (compareOp .NotEq) (rNeE X.K) := by
  intro pins s σ H x y v u Q I rx ry h
  obtain ⟨d, e, hd, he, sd, se, hm, q⟩ := h
  obtain ⟨as, r1⟩ := Dp.reads I d x v hd rx
  obtain ⟨bs, r2⟩ := Dp.reads I e y u he ry
  exact SeqAt.compareNe_reads r1 r2 sd se (by omega) ⟨.bl _, H, I, rfl, q⟩
def eqD (d e : D) : Option D := if d.depth ≤ 64 ∨ e.depth ≤ 64 then some (.bool (PyData.eqv d e)) else none
def neD (d e : D) : Option D := if d.depth ≤ 64 ∨ e.depth ≤ 64 then some (.bool (!PyData.eqv d e)) else none
theorem s2_eq {K : PySem.W.Frag} : S2 (rEqE K) eqD := by
  intro P H x y d e z Q hP hx hy ho k
  obtain ⟨h, rfl⟩ := ite_some ho
  exact ⟨d, e, (hx.up Fz_sub).dp, (hy.up Fz_sub).dp, hx.lay, hy.lay, by omega, k _ _ (Same.refl _) (.bl _)⟩
theorem s2_ne {K : PySem.W.Frag} : S2 (rNeE K) neD := by
  intro P H x y d e z Q hP hx hy ho k
  obtain ⟨h, rfl⟩ := ite_some ho
  exact ⟨d, e, (hx.up Fz_sub).dp, (hy.up Fz_sub).dp, hx.lay, hy.lay, by omega, k _ _ (Same.refl _) (.bl _)⟩
/-! is None, is True .. -/
def isND (d e : D) : Option D := match e with
  | .none => some (.bool (match d with | .none => true | _ => false))
  | _ => none
theorem s2_isN : S2 (fun x y H Q => y = .non ∧ Q (.bl (decide (x = .non))) H) isND := by
  intro P H x y d e z Q hP hx hy ho k
  cases hy with
  | non =>
    refine ⟨rfl, ?_⟩
    cases hx <;> (cases ho; exact k _ _ (Same.refl _) (.bl _))
  | _ => cases ho
def notND (d e : D) : Option D := match e with
  | .none => some (.bool (match d with | .none => false | _ => true))
  | _ => none
theorem s2_notN : S2 (fun x y H Q => y = .non ∧ Q (.bl (!decide (x = .non))) H) notND := by
  intro P H x y d e z Q hP hx hy ho k
  cases hy with
  | non =>
    refine ⟨rfl, ?_⟩
    cases hx <;> (cases ho; exact k _ _ (Same.refl _) (.bl _))
  | _ => cases ho
def isBD (d e : D) : Option D := match d, e with
  | .bool a, .bool b => some (.bool (decide (a = b)))
  | _, _ => none
theorem s2_isB : S2 rIsB isBD := by
  intro P H x y d e z Q hP hx hy ho k
  cases hx <;> cases hy <;> first
    | (cases ho; done)
    | (cases ho; exact ⟨_, _, rfl, rfl, k _ _ (Same.refl _) (.bl _)⟩)
def notBD (d e : D) : Option D := match d, e with
  | .bool a, .bool b => some (.bool (!decide (a = b)))
  | _, _ => none
theorem s2_notB : S2 rNotB notBD := by
  intro P H x y d e z Q hP hx hy ho k
  cases hx <;> cases hy <;> first
    | (cases ho; done)
    | (cases ho; exact ⟨_, _, rfl, rfl, k _ _ (Same.refl _) (.bl _)⟩)

/-! x in xs -/
def rInE (K : PySem.W.Frag) (neg : Bool) : R2 := fun x y H Q => ∃ d ds, Dp K H x d ∧ Dp K H y (.list ds) ∧ d.canLay0 = true ∧ PyData.canLayAll0 ds = true ∧ d.depth ≤ 64 ∧ Q (.bl (if neg then !ds.any (fun z => PyData.eqv z d) else ds.any fun z => PyData.eqv z d)) H
theorem op_inE (hu : X.A.units + 65 < cLine) : OpR X (compareOp .In) (rInE X.K false) := by
  intro pins s σ H x y v u Q I rx ry h
  obtain ⟨d, ds, hd, he, sd, se, hm, q⟩ := h
  obtain ⟨as, r1⟩ := Dp.reads I d x v hd rx
  obtain ⟨bs, r2⟩ := Dp.reads I (.list ds) y u he ry
  exact SeqAt.in_list_reads r2 r1 (by simpa [PyData.canLay0] using se) sd (by omega) ⟨.bl _, H, I, rfl, q⟩
theorem op_notInE (hu : X.A.units + 65 < cLine) : OpR X (compareOp .NotIn) (rInE X.K true) := by
  intro pins s σ H x y v u Q I rx ry h
  obtain ⟨d, ds, hd, he, sd, se, hm, q⟩ := h
  obtain ⟨as, r1⟩ := Dp.reads I d x v hd rx
  obtain ⟨bs, r2⟩ := Dp.reads I (.list ds) y u he ry
  exact SeqAt.notIn_list_reads r2 r1 (by simpa [PyData.canLay0] using se) sd (by omega) ⟨.bl _, H, I, rfl, q⟩
def inD (neg : Bool) (d e : D) : Option D := match e with
  | .list ds => if d.depth ≤ 64 then some (.bool (if neg then !ds.any (fun z => PyData.eqv z d) else ds.any fun z => PyData.eqv z d)) else none
  | _ => none
theorem s2_in {K : PySem.W.Frag} {neg : Bool} : S2 (rInE K neg) (inD neg) := by
  intro P H x y d e z Q hP hx hy ho k
  cases hy with
  | lst hb lb rb =>
    obtain ⟨h, rfl⟩ := ite_some ho
    exact ⟨d, _, (hx.up Fz_sub).dp, .lst (SqL.of (Fz_sub _ _ hb)) (rb.up Fz_sub).dp, hx.lay, rb.lay, h, k _ _ (Same.refl _) (.bl _)⟩
  | _ => cases ho

/-! xs[i] -/
def ixD (d e : D) : Option D := match d, e with
  | .list ds, .int i => atI ds i
  | .tuple ds, .int i => atI ds i
  | .str x, .int i => (atI x.cps.toList i).bind fun c => if PyData.strOk ⟨#[c]⟩ = true then some (.str ⟨#[c]⟩) else none
  | _, _ => none
theorem atI_rp {F : Hp} {vs : List V} {ds : List D} {i : Int} {z : D} (r : RpAll F vs ds) (h : atI ds i = some z) : ∃ v, atI vs i = some v ∧ Rp F v z := by
  unfold atI at h ⊢
  rw [r.len]
  cases e : ixN ds.length i with
  | none => rw [e] at h; cases h
  | some j =>
    rw [e] at h
    exact r.get h
theorem s2_ix {K : PySem.W.Frag} : S2 (rIx K) ixD := by
  intro P H x y d e z Q hP hx hy ho k
  cases hx with
  | lst ha la ra =>
    cases hy with
    | int i =>
      obtain ⟨v, h1, h2⟩ := atI_rp ra (show atI _ i = some z from ho)
      exact .inl ⟨_, _, i, v, rfl, rfl, SqL.of (Fz_sub _ _ ha), h1, k _ _ (Same.refl _) h2⟩
    | _ => cases ho
  | tup ha la ra =>
    cases hy with
    | int i =>
      obtain ⟨v, h1, h2⟩ := atI_rp ra (show atI _ i = some z from ho)
      exact .inr (.inl ⟨_, _, i, v, rfl, rfl, SqT.of (Fz_sub _ _ ha), h1, k _ _ (Same.refl _) h2⟩)
    | _ => cases ho
  | str w a b =>
    cases hy with
    | int i =>
      have ho : ((atI w.cps.toList i).bind fun c => if PyData.strOk ⟨#[c]⟩ = true then some (.str ⟨#[c]⟩) else none) = some z := ho
      cases e : atI w.cps.toList i with
      | none => rw [e] at ho; cases ho
      | some c =>
        rw [e] at ho
        obtain ⟨h, rfl⟩ := ite_some (show (if PyData.strOk ⟨#[c]⟩ = true then some (PyData.str ⟨#[c]⟩) else none) = some z from ho)
        exact .inr (.inr ⟨w, i, c, rfl, rfl, lim_line a, e, k _ _ (Same.refl _) (.str _ (by show 1 ≤ lim; decide) h)⟩)
    | _ => cases ho
  | _ => cases ho
end
end DL

namespace DL
open PySem PySem.Spec PyProof.Rows L2

/-! ### lists of ints, of bools -/
def intsOf : List D → Option (List Int)
  | [] => some []
  | .int i :: r => (intsOf r).map (i :: ·)
  | _ :: _ => none
def boolsOf : List D → Option (List Bool)
  | [] => some []
  | .bool b :: r => (boolsOf r).map (b :: ·)
  | _ :: _ => none
theorem intsOf_map : ∀ ns : List Int, intsOf (ns.map .int) = some ns
  | [] => rfl
  | n :: r => by simp [intsOf, intsOf_map r]
theorem boolsOf_map : ∀ ns : List Bool, boolsOf (ns.map .bool) = some ns
  | [] => rfl
  | n :: r => by simp [boolsOf, boolsOf_map r]
theorem intsOf_eq : ∀ {ds : List D} {ns : List Int}, intsOf ds = some ns → ds = ns.map .int
  | [], _, h => by cases h; rfl
  | .int i :: r, ns, h => by
    cases e : intsOf r with
    | none => simp [intsOf, e] at h
    | some ms =>
      simp [intsOf, e] at h
      subst h
      simp [intsOf_eq e]
  | .none :: _, _, h | .bool _ :: _, _, h | .str _ :: _, _, h | .list _ :: _, _, h | .tuple _ :: _, _, h | .dict _ :: _, _, h => by cases h
theorem boolsOf_eq : ∀ {ds : List D} {ns : List Bool}, boolsOf ds = some ns → ds = ns.map .bool
  | [], _, h => by cases h; rfl
  | .bool i :: r, ns, h => by
    cases e : boolsOf r with
    | none => simp [boolsOf, e] at h
    | some ms =>
      simp [boolsOf, e] at h
      subst h
      simp [boolsOf_eq e]
  | .none :: _, _, h | .int _ :: _, _, h | .str _ :: _, _, h | .list _ :: _, _, h | .tuple _ :: _, _, h | .dict _ :: _, _, h => by cases h
theorem rp_ints {F : Hp} : ∀ {ns : List Int} {vs : List V}, RpAll F vs (ns.map .int) → vs = ns.map V.int
  | [], _, h => by cases h; rfl
  | n :: r, _, h => by cases h with | cons a b => cases a; rw [rp_ints b]; rfl
theorem rp_bools {F : Hp} : ∀ {ns : List Bool} {vs : List V}, RpAll F vs (ns.map .bool) → vs = ns.map V.bl
  | [], _, h => by cases h; rfl
  | n :: r, _, h => by cases h with | cons a b => cases a; rw [rp_bools b]; rfl
theorem ints_rp {F : Hp} : ∀ ns : List Int, RpAll F (ns.map V.int) (ns.map .int)
  | [] => .nil
  | n :: r => .cons (.int n) (ints_rp r)

theorem rp1 {F : Hp} {xs : List V} {d : D} (h : RpAll F xs [d]) : ∃ x, xs = [x] ∧ Rp F x d := by
  cases h with | cons a b => cases b; exact ⟨_, rfl, a⟩
theorem rp2 {F : Hp} {xs : List V} {d e : D} (h : RpAll F xs [d, e]) : ∃ x y, xs = [x, y] ∧ Rp F x d ∧ Rp F y e := by
  cases h with | cons a b => cases b with | cons c b => cases b; exact ⟨_, _, rfl, a, c⟩

section
variable {X : Cx}
/-! len -/
def rLenE (K : PySem.W.Frag) : List V → Hp → VK → Prop := fun xs H Q => ∃ x n, xs = [x] ∧ LenV K x H n ∧ Q (.int n) H
theorem cr_len : CallR X (.builtin "len") (rLenE X.K) := call_len
def lenD : List D → Option D
  | [.str x] => some (.int x.length)
  | [.list ds] => some (.int ds.length)
  | [.tuple ds] => some (.int ds.length)
  | _ => none
theorem sa_len {K : PySem.W.Frag} : SA (rLenE K) lenD := by
  intro P H xs ds z Q hP hx ho k
  match ds, ho with
  | [.str x], ho =>
    cases ho
    obtain ⟨v, rfl, r⟩ := rp1 hx
    cases r with | str _ a b => exact ⟨_, x.length, rfl, ⟨lim_line a, rfl⟩, k _ _ (Same.refl _) (.int _)⟩
  | [.list ds], ho =>
    cases ho
    obtain ⟨v, rfl, r⟩ := rp1 hx
    cases r with | lst a b c => exact ⟨_, ds.length, rfl, .inl ⟨_, SqL.of (Fz_sub _ _ a), c.len.symm⟩, k _ _ (Same.refl _) (.int _)⟩
  | [.tuple ds], ho =>
    cases ho
    obtain ⟨v, rfl, r⟩ := rp1 hx
    cases r with | tup a b c => exact ⟨_, ds.length, rfl, .inr ⟨_, SqT.of (Fz_sub _ _ a), c.len.symm⟩, k _ _ (Same.refl _) (.int _)⟩
/-! abs -/
def rAbs : List V → Hp → VK → Prop := fun xs H Q => ∃ i, xs = [.int i] ∧ Q (.int (if i < 0 then -i else i)) H
theorem cr_abs : CallR X (.builtin "abs") rAbs := call_abs
def absD : List D → Option D
  | [.int i] => some (.int (if i < 0 then -i else i))
  | _ => none
theorem sa_abs : SA rAbs absD := by
  intro P H xs ds z Q hP hx ho k
  match ds, ho with
  | [.int i], ho =>
    cases ho
    obtain ⟨v, rfl, r⟩ := rp1 hx
    cases r
    exact ⟨i, rfl, k _ _ (Same.refl _) (.int _)⟩
/-! sum of a list, of a tuple of ints -/
def rSumT (K : PySem.W.Frag) : List V → Hp → VK → Prop := fun vs H Q => ∃ (a : Addr) (ns : List Int), vs = [V.ref a] ∧ SqT K H a (ns.map V.int) ∧ Q (.int ns.sum) H
theorem cr_sumT (hc : X.calm = true) : CallR X (.builtin "sum") (rSumT X.K) := by
  intro pins s σ H vs us Q I r h
  obtain ⟨a, ns, rfl, hs, q⟩ := h
  rw [Vals.ref1 r]
  obtain ⟨its, rv, p, hz⟩ := I.tuple hs
  have hi := Vals.ints rv
  obtain ⟨xs, e⟩ := hi.allInts.items
  have hn : PySem.numsOf (intItems xs).toList = ns := by rw [← e]; exact hi.numsOf
  rw [nums_intItems] at hn
  rw [e] at p
  refine PySem.W.ktm_sumG (I.ok.hd hc) p fun h' tk t' hk => ?_
  refine ⟨.int ns.sum, H, I.kept hk, ⟨t', ?_⟩, q⟩
  rw [preSum_eq, List.take_of_length_le (by simp), hn]
def rSumE (K : PySem.W.Frag) : List V → Hp → VK → Prop := fun xs H Q => rSum K xs H Q ∨ rSumT K xs H Q
theorem cr_sumE (hc : X.calm = true) : CallR X (.builtin "sum") (rSumE X.K) := (cr_sum hc).or (cr_sumT hc)
def sumD : List D → Option D
  | [.list ds] => (intsOf ds).map fun ns => .int ns.sum
  | [.tuple ds] => (intsOf ds).map fun ns => .int ns.sum
  | _ => none
theorem sa_sum {K : PySem.W.Frag} : SA (rSumE K) sumD := by
  intro P H xs ds z Q hP hx ho k
  match ds, ho with
  | [.list ds], ho =>
    have ho : (intsOf ds).map (fun ns => PyData.int ns.sum) = some z := ho
    obtain ⟨ns, e, rfl⟩ := Option.map_eq_some_iff.mp ho
    have e' := intsOf_eq e
    subst e'
    obtain ⟨v, rfl, r⟩ := rp1 hx
    cases r with
    | lst a b c =>
      have q := rp_ints c
      subst q
      exact .inl ⟨_, ns, rfl, SqL.of (Fz_sub _ _ a), k _ _ (Same.refl _) (.int _)⟩
  | [.tuple ds], ho =>
    have ho : (intsOf ds).map (fun ns => PyData.int ns.sum) = some z := ho
    obtain ⟨ns, e, rfl⟩ := Option.map_eq_some_iff.mp ho
    have e' := intsOf_eq e
    subst e'
    obtain ⟨v, rfl, r⟩ := rp1 hx
    cases r with
    | tup a b c =>
      have q := rp_ints c
      subst q
      exact .inr ⟨_, ns, rfl, SqT.of (Fz_sub _ _ a), k _ _ (Same.refl _) (.int _)⟩
/-! max, min: of a list of ints, of two ints -/
def rMax2' : List V → Hp → VK → Prop := fun xs H Q => ∃ i j, xs = [.int i, .int j] ∧ Q (.int (if j > i then j else i)) H
def rMin2' : List V → Hp → VK → Prop := fun xs H Q => ∃ i j, xs = [.int i, .int j] ∧ Q (.int (if j < i then j else i)) H
def rMaxE (K : PySem.W.Frag) : List V → Hp → VK → Prop := fun xs H Q => rMax K xs H Q ∨ rMax2' xs H Q
def rMinE (K : PySem.W.Frag) : List V → Hp → VK → Prop := fun xs H Q => rMin K xs H Q ∨ rMin2' xs H Q
theorem cr_maxE (hc : X.calm = true) : CallR X (.builtin "max") (rMaxE X.K) := (cr_max hc).or (call_max2 hc)
theorem cr_minE (hc : X.calm = true) : CallR X (.builtin "min") (rMinE X.K) := (cr_min hc).or (call_min2 hc)
def maxD : List D → Option D
  | [.list ds] => (intsOf ds).bind fun ns => ns.max?.map .int
  | [.int i, .int j] => some (.int (if j > i then j else i))
  | _ => none
def minD : List D → Option D
  | [.list ds] => (intsOf ds).bind fun ns => ns.min?.map .int
  | [.int i, .int j] => some (.int (if j < i then j else i))
  | _ => none
theorem max_is {ns : List Int} {m : Int} (h : ns.max? = some m) : 0 < ns.length ∧ ∀ y, y ∈ ns → (∀ a, a ∈ ns → a ≤ y) → y = m := by
  obtain ⟨h1, h2⟩ := List.max?_eq_some_iff.mp h
  refine ⟨List.length_pos_of_mem h1, fun y hy hm => ?_⟩
  have a := h2 y hy
  have b := hm m h1
  omega
theorem min_is {ns : List Int} {m : Int} (h : ns.min? = some m) : 0 < ns.length ∧ ∀ y, y ∈ ns → (∀ a, a ∈ ns → y ≤ a) → y = m := by
  obtain ⟨h1, h2⟩ := List.min?_eq_some_iff.mp h
  refine ⟨List.length_pos_of_mem h1, fun y hy hm => ?_⟩
  have a := h2 y hy
  have b := hm m h1
  omega
theorem sa_max {K : PySem.W.Frag} : SA (rMaxE K) maxD := by
  intro P H xs ds z Q hP hx ho k
  match ds, ho with
  | [.list ds], ho =>
    have ho : (intsOf ds).bind (fun ns => ns.max?.map PyData.int) = some z := ho
    obtain ⟨ns, e, e2⟩ := Option.bind_eq_some_iff.mp ho
    obtain ⟨m, e3, rfl⟩ := Option.map_eq_some_iff.mp e2
    have e' := intsOf_eq e
    subst e'
    obtain ⟨v, rfl, r⟩ := rp1 hx
    cases r with
    | lst a b c =>
      have q := rp_ints c
      subst q
      obtain ⟨h1, h2⟩ := max_is e3
      exact .inl ⟨_, ns, rfl, SqL.of (Fz_sub _ _ a), h1, fun y hy hm => by rw [h2 y hy hm]; exact k _ _ (Same.refl _) (.int _)⟩
  | [.int i, .int j], ho =>
    cases ho
    obtain ⟨v, w, rfl, r, r'⟩ := rp2 hx
    cases r; cases r'
    exact .inr ⟨i, j, rfl, k _ _ (Same.refl _) (.int _)⟩
theorem sa_min {K : PySem.W.Frag} : SA (rMinE K) minD := by
  intro P H xs ds z Q hP hx ho k
  match ds, ho with
  | [.list ds], ho =>
    have ho : (intsOf ds).bind (fun ns => ns.min?.map PyData.int) = some z := ho
    obtain ⟨ns, e, e2⟩ := Option.bind_eq_some_iff.mp ho
    obtain ⟨m, e3, rfl⟩ := Option.map_eq_some_iff.mp e2
    have e' := intsOf_eq e
    subst e'
    obtain ⟨v, rfl, r⟩ := rp1 hx
    cases r with
    | lst a b c =>
      have q := rp_ints c
      subst q
      obtain ⟨h1, h2⟩ := min_is e3
      exact .inl ⟨_, ns, rfl, SqL.of (Fz_sub _ _ a), h1, fun y hy hm => by rw [h2 y hy hm]; exact k _ _ (Same.refl _) (.int _)⟩
  | [.int i, .int j], ho =>
    cases ho
    obtain ⟨v, w, rfl, r, r'⟩ := rp2 hx
    cases r; cases r'
    exact .inr ⟨i, j, rfl, k _ _ (Same.refl _) (.int _)⟩
/-! all of a list of bools -/
def allD : List D → Option D
  | [.list ds] => (boolsOf ds).map fun bs => .bool (bs.all id)
  | _ => none
theorem sa_all {K : PySem.W.Frag} : SA (rAll K) allD := by
  intro P H xs ds z Q hP hx ho k
  match ds, ho with
  | [.list ds], ho =>
    have ho : (boolsOf ds).map (fun ns => PyData.bool (ns.all id)) = some z := ho
    obtain ⟨ns, e, rfl⟩ := Option.map_eq_some_iff.mp ho
    have e' := boolsOf_eq e
    subst e'
    obtain ⟨v, rfl, r⟩ := rp1 hx
    cases r with
    | lst a b c =>
      have q := rp_bools c
      subst q
      exact ⟨_, ns, rfl, SqL.of (Fz_sub _ _ a), k _ _ (Same.refl _) (.bl _)⟩
/-! list(xs), tuple(xs) -/
def rListE (K : PySem.W.Frag) : List V → Hp → VK → Prop := fun xs H Q => ∃ p ys, xs = [.ref p] ∧ (SqL K H p ys ∨ SqT K H p ys) ∧ ∀ l, H l = none → Q (.ref l) (upd H l (.lst ys))
def rTupleE (K : PySem.W.Frag) : List V → Hp → VK → Prop := fun xs H Q => ∃ p ys, xs = [.ref p] ∧ ((SqL K H p ys ∧ ∀ l, H l = none → Q (.ref l) (upd H l (.tup ys))) ∨ (SqT K H p ys ∧ Q (.ref p) H))
theorem cr_listE : CallR X (.type "list") (rListE X.K) := call_list_of
theorem cr_tupleE : CallR X (.type "tuple") (rTupleE X.K) := call_tuple_of
def listD : List D → Option D
  | [.list ds] => some (.list ds)
  | [.tuple ds] => some (.list ds)
  | _ => none
def tupleD : List D → Option D
  | [.list ds] => some (.tuple ds)
  | [.tuple ds] => some (.tuple ds)
  | _ => none
theorem sa_list {K : PySem.W.Frag} : SA (rListE K) listD := by
  intro P H xs ds z Q hP hx ho k
  match ds, ho with
  | [.list ds], ho =>
    cases ho
    obtain ⟨v, rfl, r⟩ := rp1 hx
    cases r with | lst a b c => exact ⟨_, _, rfl, .inl (SqL.of (Fz_sub _ _ a)), fun l hl => k _ _ (Same.new hl) (rp_lst hP hl b c)⟩
  | [.tuple ds], ho =>
    cases ho
    obtain ⟨v, rfl, r⟩ := rp1 hx
    cases r with | tup a b c => exact ⟨_, _, rfl, .inr (SqT.of (Fz_sub _ _ a)), fun l hl => k _ _ (Same.new hl) (rp_lst hP hl b c)⟩
theorem sa_tuple {K : PySem.W.Frag} : SA (rTupleE K) tupleD := by
  intro P H xs ds z Q hP hx ho k
  match ds, ho with
  | [.list ds], ho =>
    cases ho
    obtain ⟨v, rfl, r⟩ := rp1 hx
    cases r with | lst a b c => exact ⟨_, _, rfl, .inl ⟨SqL.of (Fz_sub _ _ a), fun l hl => k _ _ (Same.new hl) (rp_tup hP hl b c)⟩⟩
  | [.tuple ds], ho =>
    cases ho
    obtain ⟨v, rfl, r⟩ := rp1 hx
    cases r with | tup a b c => exact ⟨_, _, rfl, .inr ⟨SqT.of (Fz_sub _ _ a), k _ _ (Same.refl _) (.tup a b c)⟩⟩

/-! sorted of data that are alike -/
def allAlikeB (ds : List D) : Bool := ds.all fun d => ds.all fun e => PySem.W.alike d e
def sortableB (ds : List D) : Bool := (ds.all fun d => match d with | .tuple (_ :: _) => true | _ => false) || (ds.all fun d => match d with | .none => false | .tuple _ => false | _ => true)
def leD' (a b : D) : Bool := !PySem.W.dataLt b a
def sortedD : List D → Option D
  | [.list ds] => if allAlikeB ds = true ∧ sortableB ds = true ∧ (∀ d ∈ ds, d.depth ≤ 60) then some (.list (ds.mergeSort leD')) else none
  | _ => none
def rSortedE (K : PySem.W.Frag) : List V → Hp → VK → Prop := fun xs H Q => ∃ (a : Addr) (vs : List V) (bs : List (V × D)), xs = [.ref a] ∧ SqL K H a vs ∧ vs = bs.map (·.1) ∧ (∀ p ∈ bs, Dp K H p.1 p.2) ∧ PySem.W.AllAlike (bs.map (·.2)) ∧ PySem.W.Sortable (bs.map (·.2)) ∧
  (∀ p ∈ bs, p.2.depth ≤ 60) ∧ ∀ l, H l = none → Q (.ref l) (upd H l (.lst ((bs.mergeSort fun p q => leD' p.2 q.2).map (·.1))))
theorem each_vals {f : V × D → V} : ∀ {bs : List (V × D)} {us : List Value}, Vals (bs.map (·.1)) us → PySem.W.EachIs (fun v (b : V × D) => RelV b.1 v) us bs
  | [], _, h => by cases h; exact .nil
  | b :: r, _, h => by cases h with | cons a c => exact .cons a (each_vals (f := f) c)
theorem vals_each : ∀ {bs : List (V × D)} {us : List Value}, PySem.W.EachIs (fun v (b : V × D) => RelV b.1 v) us bs → Vals (bs.map (·.1)) us
  | _, _, .nil => .nil
  | _, _, .cons a c => .cons a (vals_each c)
theorem each_reads {pins : List (Addr × Obj)} {σ : L2.St} {H : Hp} {s : Shared} (I : Inv X pins σ H s) : ∀ {bs : List (V × D)} {us : List Value}, Vals (bs.map (·.1)) us → (∀ p ∈ bs, Dp X.K H p.1 p.2) →
    PySem.W.EachIs (fun v (b : V × D) => ∃ as, Reads s.heap v b.2 as) us bs
  | [], _, h, _ => by cases h; exact .nil
  | b :: r, _, h, hd => by cases h with | cons a c => exact .cons (Dp.reads I b.2 b.1 _ (hd b (by simp)) a) (each_reads I c fun p hp => hd p (by simp [hp]))
theorem cr_sortedE (hu : X.A.units + 64 < cLine) : CallR X (.builtin "sorted") (rSortedE X.K) := by
  intro pins s σ H xs us Q I r h
  obtain ⟨a, vs, bs, rfl, hs, rfl, hd, hal, hk, hdep, q⟩ := h
  rw [Vals.ref1 r]
  obtain ⟨its, rv, p, hz⟩ := I.list hs
  rw [List.length_map] at hz
  refine PySem.W.sorted_data (enc := fun b : V × D => b.2) (R := fun v (b : V × D) => RelV b.1 v) p.isList (each_vals (f := fun b => b.1) rv) (each_reads I rv hd) hal hk hz (fun b hb => by have := hdep b hb; omega) fun out hlen he => ?_
  obtain ⟨c, hc⟩ := PyProof.Rows.sortedAll_at s.heap its out.toArray
  have hn : H (s.heap.objs.size + 1) = none := I.hok.fresh (Nat.le_succ _)
  have e1 : (PySem.W.dataLe false fun b : V × D => b.2) = fun p q : V × D => leD' p.2 q.2 := rfl
  rw [e1] at he
  have rr := vals_each he
  refine ⟨.ref (s.heap.objs.size + 1), upd H (s.heap.objs.size + 1) (.lst ((bs.mergeSort fun p q => leD' p.2 q.2).map (·.1))), I.laid (t' := s.toks) (fun b o e => PyProof.Rows.sortedAll_old e) (Nat.le_succ _) ⟨?_, out, c, rr, hc⟩, rfl, q _ hn⟩
  rw [List.length_map, List.length_mergeSort]
  exact hz
end
end DL

/-! set(list of ints) as the sorted rule of the sets of ints wants it -/
namespace DL
open PySem PySem.Spec PyProof.Rows L2
abbrev nset (w : World) : Obj := { cls := .type "set", dict := none, data := .set #[] 0 (.fresh 0 0 (!w.params.followText "set-order")) }
section
variable {P : Program} {w : World} {A : Around} {E : Value → Shared → Prop} {s : Shared}
/-- what set.__init__ leaves at a -/
def SetBack (w : World) (h0 : Heap) (ns : List Int) (s0 : Shared) (r : Value) (s2 : Shared) : Prop := r = .none ∧ ∃ h' tk c, s2 = { s0 with heap := h', toks := tk } ∧ SetR w h' h0.objs.size (fun j => decide (j ∈ ns)) c ∧ c ≤ ns.length ∧ ∀ b o, h0.get? b = some o → h'.get? b = some o
theorem set_of_listI {l : Addr} {its : Array Value} (ns : List Int) {Q : Value → Shared → Prop} (hd : A.handled = none) (pl : s.heap.IsList l its) (ii : IntsAre its.toList ns) (room : ns.length + 1 < scanBound)
    (k : ∀ (h' : Heap) (tk c : Nat), SetR w h' s.heap.objs.size (fun j => decide (j ∈ ns)) c → c ≤ ns.length → (∀ b o, s.heap.get? b = some o → h'.get? b = some o) → Q (.ref s.heap.objs.size) { s with heap := h', toks := tk }) :
    wpAny (model P w) A (call (.type "set") [.ref l]) Q E s := by
  have sz : its.size = ns.length := by have z := ii.length; simpa using z
  obtain ⟨c0, tl0, mro0⟩ := F.called_set.mro
  have made0 := F.called_set.made
  have sub0 := F.called_set.sub
  refine wpAny_call (codeAny_of_tree ?_)
  show wpAny _ _ (callAny (.type "set") _) _ _ _
  refine wpAny_pure ⟨Code.quiet_builtin _ (by decide +kernel), codeAny_builtin F.entry_type_call ?_⟩
  rw [Around.under_plain (weight_type_call_type "set" [.ref l] []) rfl]
  have nt := F.called_set.notType
  have cc := F.called_set.canCreate
  have tc := F.typeCall_set_1 (.ref l)
  repeat (any_goals (first | assumption | wp_step))
  refine codeAny_mono (code_set_led1 (.ref l) (E := E) (Q₁ := fun u z => u = .ref s.heap.objs.size ∧ z = { s with heap := s.heap.push (nset w) }) ⟨rfl, rfl⟩) fun r z hr => ?_
  cases r with
  | error e => exact hr
  | ok fl =>
    cases fl with
    | ret u =>
      obtain ⟨rfl, rfl⟩ := hr
      have gS : (s.heap.push (nset w)).get? s.heap.objs.size = some (nset w) := Heap.get?_push_size _ rfl
      have tS : Shared.TypeIs { s with heap := s.heap.push (nset w) } (.ref s.heap.objs.size) "set" := ⟨_, gS, rfl⟩
      have il := F.called_set.init.lookup
      have ib := F.called_set.init.bind (.ref s.heap.objs.size)
      repeat (any_goals (first | assumption | wp_step))
      refine codeAny_mono (codeAny_call_builtin (R := wants (SetBack w s.heap ns s) E) F.called_set.init.plain F.entry_set_init (check_set_init_1 tS ?_)) fun r2 z2 hr2 => ?_
      · obtain ⟨⟨oc, od, odt, osl⟩, ho, hc, n0, hdt⟩ := pl
        simp only at hc hdt
        subst hc hdt
        have ho' : (s.heap.push (nset w)).get? l = some { cls := .type "list", dict := od, data := .seq its n0, slots := osl } := Heap.get?_push_of_some _ ho
        have q1 := F.sub_list_set
        have q2 := F.sub_list_frozenset
        have q3 : (Value.type "list" == Value.type "dict") = false := by decide
        have pl1 : (s.heap.push (nset w)).IsList l its := ⟨_, ho', rfl, n0, rfl⟩
        unfold Builtin.«set.__init__» noKeywords Builtin.Frozenset.updateFrom
        generalize hPI : pyIter = PI
        wp_walk
        subst hPI
        refine wpAny_pyIter_list pl1 ?_
        refine wpAny_bind (wpAny_runValue ?_)
        have lt := Heap.lt_size ho
        have hd3 : A.in1.in1.in1.handled = none := by simp [hd]
        have zz : (s.heap.push (nset w)).objs.size = s.heap.objs.size + 1 := Heap.size_push ..
        have neI : l ≠ (s.heap.push (nset w)).objs.size := by rw [zz]; exact Nat.ne_of_lt (Nat.lt_succ_of_lt lt)
        have nfp : s.heap.objs.size ∉ [(s.heap.push (nset w)).objs.size, l] := by
          rw [zz]
          intro hm
          simp only [List.mem_cons, List.not_mem_nil, or_false] at hm
          rcases hm with hm | hm
          · exact absurd hm (Nat.ne_of_lt (Nat.lt_succ_self _))
          · exact absurd hm (Nat.ne_of_gt lt)
        have val : ∀ (i : Nat) (v : Value), its[i]? = some v → ∃ k t, ns[i]? = some k ∧ v = .int k t := fun i v hv => by
          have hi : i < ns.length := by rw [← sz]; exact (Array.getElem?_eq_some_iff.mp hv).1
          obtain ⟨t, e⟩ := ii.int_at i v (by rw [Array.getElem?_toList]; exact hv)
          exact ⟨ns[i], t, List.getElem?_eq_getElem hi, by rw [e, List.getD_eq_getElem?_getD, List.getElem?_eq_getElem hi]; rfl⟩
        refine set_update_ints ((Walks.list hd3 _ l neI its).toS) s.heap.objs.size nfp ns sz room val (its.size - 0) 0 _ (by omega) (Nat.zero_le _) ⟨⟨_, Heap.get?_push_size _ rfl, rfl, rfl⟩, (pl1.push _)⟩ ?_ ?_
        · exact ⟨0, Nat.le_refl 0, setR_new_at (Heap.get?_push_of_some _ gS)⟩
        · intro z3 c3 mv hc3 hS3
          obtain ⟨h3, g3, d3, t3, o3⟩ := z3
          have eg : g3 = s.gens := mv.gens
          have ed : d3 = s.drawn := mv.drawn
          have eo : o3 = s.os := mv.os
          subst eg ed eo
          show wpAny _ _ _ _ _ _
          refine wpAny_pure ?_
          show wpAny _ _ (ret Value.none) _ _ _
          rw [sz] at hc3
          refine wpAny_pure ⟨rfl, h3, t3, c3, rfl, hS3, hc3, fun b o e => ?_⟩
          have b0 := Heap.lt_size e
          refine mv.heap b o ?_ (Heap.get?_push_of_some _ (Heap.get?_push_of_some _ e))
          intro hm
          rw [zz] at hm
          simp only [List.mem_cons, List.not_mem_nil, or_false] at hm
          rcases hm with hm | hm
          · exact absurd hm (Nat.ne_of_lt b0)
          · exact absurd hm (Nat.ne_of_lt (Nat.lt_succ_of_lt b0))
      · cases r2 with
        | error e => exact hr2
        | ok fl2 =>
          cases fl2 with
          | ret r =>
            obtain ⟨rfl, h', tk, c', rfl, hS', hc', hk'⟩ := hr2
            repeat (any_goals (first | assumption | wp_step))
            exact k _ _ _ hS' hc' hk'
          | _ => exact hr2.elim
    | _ => exact hr.elim
end
section
variable {X : Cx}
def rSetL (K : PySem.W.Frag) (w : World) : List V → Hp → VK → Prop := fun vs H Q => ∃ (a : Addr) (ns : List Int), vs = [V.ref a] ∧ SqL K H a (ns.map V.int) ∧ ns.length < 64 ∧ ∀ p c, H p = none → c ≤ ns.length → Q (.ref p) (upd H p (SetO w p (fun j => decide (j ∈ ns)) c))
theorem cr_setL (hc : X.calm = true) : CallR X (.type "set") (rSetL X.K X.w) := by
  intro pins s σ H vs us Q I r h
  obtain ⟨a, ns, rfl, hs, hl, q⟩ := h
  rw [Vals.ref1 r]
  obtain ⟨its, rv, p, hz⟩ := I.list hs
  refine set_of_listI ns (I.ok.hd hc) p.isList (by simpa using Vals.ints rv) (by unfold scanBound; omega) fun h' tk c hS hcl hk => ?_
  have hn : H s.heap.objs.size = none := I.hok.fresh (Nat.le_refl _)
  exact ⟨.ref _, _, I.laid (t' := tk) hk (Nat.le_refl _) (setO_new hS), rfl, q _ c hn hcl⟩

/-! sorted(set(xs)) -/
def insU (x : Int) : List Int → List Int
  | [] => [x]
  | y :: r => if x < y then x :: y :: r else if x = y then y :: r else y :: insU x r
def sortU : List Int → List Int
  | [] => []
  | x :: r => insU x (sortU r)
theorem insU_mem {x k : Int} : ∀ {l : List Int}, k ∈ insU x l ↔ k = x ∨ k ∈ l
  | [] => by simp [insU]
  | y :: r => by
    unfold insU
    split
    · simp
    · split
      · rename_i h
        subst h
        simp
      · simp only [List.mem_cons, insU_mem (l := r)]
        constructor
        · rintro (h | h | h) <;> simp [h]
        · rintro (h | h | h) <;> simp [h]
theorem insU_lt {x : Int} : ∀ {l : List Int}, l.Pairwise (· < ·) → (insU x l).Pairwise (· < ·)
  | [], _ => by simp [insU]
  | y :: r, h => by
    obtain ⟨h1, h2⟩ := List.pairwise_cons.mp h
    unfold insU
    split
    · rename_i hx
      refine List.pairwise_cons.mpr ⟨fun z hz => ?_, h⟩
      rcases List.mem_cons.mp hz with e | e
      · omega
      · have := h1 z e; omega
    · split
      · exact h
      · refine List.pairwise_cons.mpr ⟨fun z hz => ?_, insU_lt h2⟩
        rcases insU_mem.mp hz with e | e
        · omega
        · exact h1 z e
theorem sortU_mem {k : Int} : ∀ {l : List Int}, k ∈ sortU l ↔ k ∈ l
  | [] => by simp [sortU]
  | x :: r => by rw [sortU, insU_mem, sortU_mem, List.mem_cons]
theorem sortU_lt : ∀ {l : List Int}, (sortU l).Pairwise (· < ·)
  | [] => by simp [sortU]
  | x :: r => insU_lt sortU_lt
theorem insU_len {x : Int} : ∀ {l : List Int}, (insU x l).length ≤ l.length + 1
  | [] => by simp [insU]
  | y :: r => by
    unfold insU
    split
    · simp
    · split
      · simp
      · have := insU_len (x := x) (l := r)
        simp only [List.length_cons]
        omega
theorem sortU_len : ∀ {l : List Int}, (sortU l).length ≤ l.length
  | [] => by simp [sortU]
  | x :: r => by
    have h1 := insU_len (x := x) (l := sortU r)
    have h2 := sortU_len (l := r)
    simp only [sortU, List.length_cons]
    omega
/-- rising lists with the same members are one -/
theorem rising_eq : ∀ {l m : List Int}, l.Pairwise (· < ·) → m.Pairwise (· < ·) → (∀ k, k ∈ l ↔ k ∈ m) → l = m
  | [], [], _, _, _ => rfl
  | [], y :: m, _, _, h => by have := (h y).mpr (by simp); simp at this
  | x :: l, [], _, _, h => by have := (h x).mp (by simp); simp at this
  | x :: l, y :: m, h1, h2, h => by
    obtain ⟨a1, a2⟩ := List.pairwise_cons.mp h1
    obtain ⟨b1, b2⟩ := List.pairwise_cons.mp h2
    have e : x = y := by
      have p := (h x).mp (by simp)
      have q := (h y).mpr (by simp)
      rcases List.mem_cons.mp p with e | e
      · exact e
      · rcases List.mem_cons.mp q with e' | e'
        · exact e'.symm
        · have := b1 x e; have := a1 y e'; omega
    subst e
    rw [rising_eq a2 b2 fun k => ?_]
    constructor
    · intro hk
      rcases List.mem_cons.mp ((h k).mp (by simp [hk])) with e | e
      · have := a1 k hk; omega
      · exact e
    · intro hk
      rcases List.mem_cons.mp ((h k).mpr (by simp [hk])) with e | e
      · have := b1 k hk; omega
      · exact e
/-- sorted(set(xs)) as one call -/
def rSortSet (K : PySem.W.Frag) (w : World) : List V → Hp → VK → Prop := fun vs H Q => rSetL K w vs H fun v H1 => rSortedSet w [v] H1 Q
def sortSetD : List D → Option D
  | [.list ds] => (intsOf ds).bind fun ns => if ns.length < 64 then some (.list ((sortU ns).map .int)) else none
  | _ => none
theorem sa_sortSet {K : PySem.W.Frag} {w : World} : SA (rSortSet K w) sortSetD := by
  intro P H xs ds z Q hP hx ho k
  match ds, ho with
  | [.list ds], ho =>
    have ho : (intsOf ds).bind (fun ns => if ns.length < 64 then some (PyData.list ((sortU ns).map .int)) else none) = some z := ho
    obtain ⟨ns, e, e2⟩ := Option.bind_eq_some_iff.mp ho
    obtain ⟨hl, rfl⟩ := ite_some e2
    have e' := intsOf_eq e
    subst e'
    obtain ⟨v, rfl, r⟩ := rp1 hx
    cases r with
    | lst a b c =>
      have q := rp_ints c
      subst q
      refine ⟨_, ns, rfl, SqL.of (Fz_sub _ _ a), hl, fun p c hp hc => ⟨p, _, c, rfl, upd_same, by omega, fun ms q hm hk _ hq => ?_⟩⟩
      have es : ms = sortU ns := rising_eq hm sortU_lt fun j => by rw [hk j, sortU_mem]; simp
      subst es
      have s1 := Same.new (H := H) (o := SetO w p (fun j => decide (j ∈ ns)) c) hp
      have hP1 := hP.up s1
      have ll := sortU_len (l := ns)
      refine k _ _ (s1.trans (Same.new hq)) (rp_lst hP1 hq ?_ (ints_rp _))
      rw [List.length_map]
      unfold lim
      omega
end
/-! sorted of alike data -/
theorem alike_of {ds : List D} (h : allAlikeB ds = true) : PySem.W.AllAlike ds := fun d hd e he => by
  unfold allAlikeB at h
  rw [List.all_eq_true] at h
  have q := h d hd
  rw [List.all_eq_true] at q
  exact q e he
theorem sortable_of {ds : List D} (h : sortableB ds = true) : PySem.W.Sortable ds := by
  unfold sortableB at h
  rw [Bool.or_eq_true, List.all_eq_true, List.all_eq_true] at h
  rcases h with h | h
  · refine .inl fun d hd => ?_
    have q := h d hd
    split at q
    · exact ⟨_, _, rfl⟩
    · cases q
  · refine .inr fun d hd => ?_
    have q := h d hd
    constructor
    · rintro rfl
      exact absurd q Bool.false_ne_true
    · rintro xs rfl
      exact absurd q Bool.false_ne_true
theorem rpAll_zip {F : Hp} : ∀ {vs : List V} {ds : List D}, RpAll F vs ds → (vs.zip ds).map (·.1) = vs ∧ (vs.zip ds).map (·.2) = ds ∧ ∀ p ∈ vs.zip ds, Rp F p.1 p.2
  | _, _, .nil => ⟨rfl, rfl, fun p h => nomatch h⟩
  | _, _, .cons a b => by
    obtain ⟨h1, h2, h3⟩ := rpAll_zip b
    refine ⟨by rw [List.zip_cons_cons, List.map_cons, h1], by rw [List.zip_cons_cons, List.map_cons, h2], fun p hp => ?_⟩
    rcases List.mem_cons.mp (by simpa using hp) with e | e
    · rw [e]; exact a
    · exact h3 p e
theorem rpAll_of_pairs {F : Hp} : ∀ {bs : List (V × D)}, (∀ p ∈ bs, Rp F p.1 p.2) → RpAll F (bs.map (·.1)) (bs.map (·.2))
  | [], _ => .nil
  | b :: r, h => .cons (h b (by simp)) (rpAll_of_pairs fun p hp => h p (by simp [hp]))
theorem sa_sorted {K : PySem.W.Frag} : SA (rSortedE K) sortedD := by
  intro P H xs ds z Q hP hx ho k
  match ds, ho with
  | [.list ds], ho =>
    obtain ⟨⟨h1, h2, h3⟩, rfl⟩ := ite_some (show (if allAlikeB ds = true ∧ sortableB ds = true ∧ (∀ d ∈ ds, d.depth ≤ 60) then some (PyData.list (ds.mergeSort leD')) else none) = some z from ho)
    obtain ⟨v, rfl, r⟩ := rp1 hx
    cases r with
    | @lst a vs _ ha la ra =>
      obtain ⟨z1, z2, z3⟩ := rpAll_zip ra
      refine ⟨a, vs, vs.zip ds, rfl, SqL.of (Fz_sub _ _ ha), z1.symm, fun p hp => ((z3 p hp).up Fz_sub).dp, by rw [z2]; exact alike_of h1, by rw [z2]; exact sortable_of h2, fun p hp => h3 _ (by rw [← z2]; exact List.mem_map_of_mem hp), fun l hl => ?_⟩
      have e : ((vs.zip ds).mergeSort fun p q => leD' p.2 q.2).map (·.2) = ds.mergeSort leD' := by
        rw [List.map_mergeSort (s := leD') (fun a _ b _ => rfl), z2]
      refine k _ _ (Same.new hl) (rp_lst hP hl ?_ ?_)
      · have e2 : ((vs.zip ds).mergeSort fun p q => leD' p.2 q.2).length = vs.length := by
          rw [List.length_mergeSort]
          have := congrArg List.length z1
          simpa using this
        rw [List.length_map, e2]
        exact la
      · rw [← e]
        exact rpAll_of_pairs fun p hp => z3 p (List.mem_mergeSort.mp hp)
end DL

namespace DL
open PySem L2

section
variable {S : Type}
/-- one more hidden address, what stands there is fixed -/
def Wd.hide (W : Wd S) (p : Addr) (o : HO) : Wd S where
  hid := fun a => W.hid a ∨ a = p
  low := W.low
  at_ := fun s H => W.at_ s H ∧ H p = some o
  ext := fun s H H' h e => ⟨W.ext s H H' h.1 e, e p o h.2⟩
  mutn := fun s H q u u' h hq nt n l => ⟨W.mutn s H q u u' h.1 hq nt (fun z => n (.inl z)) l, by
    rw [upd_ne fun e => n (.inr e.symm)]
    exact h.2⟩
  hidIn := fun s H q h n => by
    rcases n with n | n
    · exact W.hidIn s H q h.1 n
    · rw [n, h.2]; simp
  lowIn := fun s H q h n => W.lowIn s H q h.1 n
/-- a family of worlds, closed under hiding -/
structure Fam (S : Type) where
  ok : Wd S → Prop
  hide : ∀ W p xs, ok W → ¬ W.hid p → ¬ W.low p → ok (W.hide p (.lst xs))
/-- what is wanted of an exception of the class number c -/
abbrev Wsh := Nat → L2.St → Hp → Prop
def NoW : Wsh := fun _ _ _ => False
def Post {α : Type} (W : Wd S) (Wx : Wsh) (σ : L2.St) (H : Hp) (r : Res S α) (K : α → S → Hp → Prop) : Prop := match r with
  | .ok a s => ∀ H', W.at_ s H' → Stp W H H' → K a s H'
  | .er c s => ∀ H', W.at_ s H' → Stp W H H' → Wx c σ H'
  | .bad => False
section
variable {W : Wd S} {Wx : Wsh} {σ : L2.St} {H H1 : Hp} {α β : Type}
theorem Post.later {r : Res S α} {K : α → S → Hp → Prop} (h : Post W Wx σ H r K) (e : Stp W H H1) : Post W Wx σ H1 r K := by
  cases r with
  | ok a s => exact fun H' a' e' => h H' a' (e.trans e')
  | er c s => exact fun H' a' e' => h H' a' (e.trans e')
  | bad => exact h
theorem Post.imp {r : Res S α} {K K' : α → S → Hp → Prop} (h : Post W Wx σ H r K) (f : ∀ a s' H', W.at_ s' H' → Stp W H H' → K a s' H' → K' a s' H') : Post W Wx σ H r K' := by
  cases r with
  | ok a s => exact fun H' a' e' => f a s H' a' e' (h H' a' e')
  | er c s => exact h
  | bad => exact h
theorem Post.bnd {m : Res S α} {k : α → S → Res S β} {K : β → S → Hp → Prop} (h : Post W Wx σ H (m.bnd k) K) : Post W Wx σ H m (fun a s' H' => Post W Wx σ H' (k a s') K) := by
  cases m with
  | ok a s => exact fun H' _ e' => Post.later (show Post W Wx σ H (k a s) K from h) e'
  | er c s => exact h
  | bad => exact h
theorem Post.ok {a : α} {s : S} {K : α → S → Hp → Prop} (h : Post W Wx σ H (.ok a s) K) (q : W.at_ s H) : K a s H := h H q Stp.refl
end

abbrev FE (S : Type) := Env → S → Res S Dv
abbrev FA (S : Type) := Env → S → Res S (List Dv)
abbrev FT (S : Type) := Env → S → Res S Bool
/-- data out of data -/
def lift (o : Option D) (s : S) : Res S Dv := match o with
  | some z => .ok (.d z) s
  | none => .bad
def IsAll (F : Hp) : List V → List Dv → Prop := Paired (Is F)
def DE (𝒲 : Fam S) (Wx : Wsh) (t : TE) (f : FE S) : Prop := ∀ W, 𝒲.ok W → ∀ ρ σ s H (Q : VK), EnvOk W ρ σ s H → Post W Wx σ H (f ρ s) (fun d _ H' => ∀ v, Is (Frz W ρ σ H') v d → Q v H') → t σ H Q
def DA (𝒲 : Fam S) (Wx : Wsh) (t : TA) (f : FA S) : Prop := ∀ W, 𝒲.ok W → ∀ ρ σ s H (Q : List V → Hp → Prop), EnvOk W ρ σ s H → Post W Wx σ H (f ρ s) (fun d _ H' => ∀ v, IsAll (Frz W ρ σ H') v d → Q v H') → t σ H Q
def DT (𝒲 : Fam S) (Wx : Wsh) (t : TT) (f : FT S) : Prop := ∀ W, 𝒲.ok W → ∀ ρ σ s H (Q : Bool → Hp → Prop), EnvOk W ρ σ s H → Post W Wx σ H (f ρ s) (fun b _ H' => Q b H') → t σ H Q
structure DX (X : Cx) (𝒲 : Fam S) (Wx : Wsh) (e : Expr) (t : TE) (f : FE S) : Prop where
  pe : PE X e t
  de : DE 𝒲 Wx t f
structure DXA (X : Cx) (𝒲 : Fam S) (Wx : Wsh) (es : List Expr) (t : TA) (f : FA S) : Prop where
  pa : PA X es t
  da : DA 𝒲 Wx t f
structure DXT (X : Cx) (𝒲 : Fam S) (Wx : Wsh) (e : Expr) (t : TT) (f : FT S) : Prop where
  pt : PT X e t
  dt : DT 𝒲 Wx t f
/-- a test whatever its whole is -/
structure DXW (X : Cx) (𝒲 : Fam S) (Wx : Wsh) (e : Expr) (t : TT) (f : FT S) : Prop where
  pw : PW X e t
  dt : DT 𝒲 Wx t f

theorem EnvOk.inH {W : Wd S} {ρ : Env} {σ : L2.St} {s : S} {H : Hp} (E : EnvOk W ρ σ s H) : InH (fun a => W.hid a ∨ Own ρ σ a) H := fun a h => by
  rcases h with h | h
  · exact W.hidIn _ _ _ E.at_ h
  · obtain ⟨vs, e, _⟩ := E.ownIn h
    rw [e]; simp

variable {X : Cx} {𝒲 : Fam S} {Wx : Wsh} {e a b : Expr} {ta tb tc : TE} {fa fb fc : FE S} {pos : Pos}

/-! ### names, constants -/
def eVar (i : Nat) : FE S := fun ρ s => match ρ[i]? with
  | some (.d x) => .ok (.d x) s
  | some (.v x) => .ok (.v x) s
  | _ => .bad
theorem de_var {i : Nat} : DE 𝒲 Wx (tVar i) (eVar i) := by
  intro W hW ρ σ s H Q E h
  unfold eVar at h
  split at h
  · rename_i x e
    obtain ⟨v, h1, h2⟩ := E.dat i x e
    exact ⟨v, h1, h.ok E.at_ v h2⟩
  · rename_i x e
    exact ⟨x, E.raw i x e, h.ok E.at_ x rfl⟩
  · exact h.elim
def eC (x : D) : FE S := fun _ s => .ok (.d x) s
theorem de_c {v : V} {x : D} (hx : ∀ F, Rp F v x) : DE 𝒲 Wx (tC v) (eC x) := fun W hW ρ σ s H Q E h => h.ok E.at_ v (hx _)
theorem dx_var (i : Nat) {x : Str} (h : PE X (.Name x pos) (tVar i)) : DX X 𝒲 Wx (.Name x pos) (tVar i) (eVar i) := ⟨h, de_var⟩
theorem dx_int {i : Int} {j : Nat} : DX X 𝒲 Wx (.Constant (.int i) j pos) (tC (.int i)) (eC (.int i)) := ⟨pe_int, de_c fun _ => .int i⟩
theorem dx_bl {i : Bool} {j : Nat} : DX X 𝒲 Wx (.Constant (.bool i) j pos) (tC (.bl i)) (eC (.bool i)) := ⟨pe_bl, de_c fun _ => .bl i⟩
theorem dx_non {j : Nat} : DX X 𝒲 Wx (.Constant .none j pos) (tC .non) (eC .none) := ⟨pe_non, de_c fun _ => .non⟩
theorem dx_str {x : Str} {j : Nat} (h : x.length ≤ lim ∧ PyData.strOk x = true := by decide +kernel) : DX X 𝒲 Wx (.Constant (.str x) j pos) (tC (.str x)) (eC (.str x)) := ⟨pe_str, de_c fun _ => .str x h.1 h.2⟩

/-! ### operators -/
def eOp (op : D → D → Option D) (fa fb : FE S) : FE S := fun ρ s => (fa ρ s).bnd fun x s => (fb ρ s).bnd fun y s => match x, y with
  | .d x, .d y => lift (op x y) s
  | _, _ => .bad
theorem de_op {r : R2} {op : D → D → Option D} (ho : S2 r op) (ha : DE 𝒲 Wx ta fa) (hb : DE 𝒲 Wx tb fb) : DE 𝒲 Wx (tOp r ta tb) (eOp op fa fb) := by
  intro W hW ρ σ s H Q E h
  refine ha W hW ρ σ s H _ E (h.bnd.imp fun x s1 H1 a1 e1 q v hv => ?_)
  have E1 := E.step a1 e1
  refine hb W hW ρ σ s1 H1 _ E1 (q.bnd.imp fun y s2 H2 a2 e2 q2 u hu => ?_)
  have E2 := E1.step a2 e2
  cases x with
  | v x => exact q2.elim
  | d x =>
    cases y with
    | v y => exact q2.elim
    | d y =>
      have q2 : Post W Wx σ H2 (lift (op x y) s2) (fun d _ H' => ∀ v, Is (Frz W ρ σ H') v d → Q v H') := q2
      cases hz : op x y with
      | none => rw [hz] at q2; exact q2.elim
      | some z =>
        rw [hz] at q2
        exact ho _ H2 v u x y z Q E2.inH (Rp.up (show Rp _ v x from hv) (Frz.stp e2)) hu hz fun w H3 e3 hw => q2 H3 (W.ext _ _ _ a2 e3) (Stp.of e3) w hw
theorem dx_op {op : Operator} {r : R2} {f : D → D → Option D} (hp : OpR X (binaryOp op) r) (ho : S2 r f) (ha : DX X 𝒲 Wx a ta fa) (hb : DX X 𝒲 Wx b tb fb) : DX X 𝒲 Wx (.BinOp a op b pos) (tOp r ta tb) (eOp f fa fb) := ⟨pe_op hp ha.pe hb.pe, de_op ho ha.de hb.de⟩
theorem dx_add (ha : DX X 𝒲 Wx a ta fa) (hb : DX X 𝒲 Wx b tb fb) : DX X 𝒲 Wx (.BinOp a .Add b pos) (tOp (rAddD X.K) ta tb) (eOp addD fa fb) := dx_op op_addD s2_add ha hb
theorem dx_sub (ha : DX X 𝒲 Wx a ta fa) (hb : DX X 𝒲 Wx b tb fb) : DX X 𝒲 Wx (.BinOp a .Sub b pos) (tOp (rI0 fun i j => .int (i - j)) ta tb) (eOp subD fa fb) := dx_op op_sub s2_sub ha hb
theorem dx_mul (ha : DX X 𝒲 Wx a ta fa) (hb : DX X 𝒲 Wx b tb fb) : DX X 𝒲 Wx (.BinOp a .Mult b pos) (tOp rMulD ta tb) (eOp mulD fa fb) := dx_op op_mulD s2_mul ha hb
theorem dx_mod (ha : DX X 𝒲 Wx a ta fa) (hb : DX X 𝒲 Wx b tb fb) : DX X 𝒲 Wx (.BinOp a .Mod b pos) (tOp (rI (fun _ j => 0 < j) fun i j => .int (i % j)) ta tb) (eOp modD fa fb) := dx_op op_mod s2_mod ha hb
theorem dx_fdiv (ha : DX X 𝒲 Wx a ta fa) (hb : DX X 𝒲 Wx b tb fb) : DX X 𝒲 Wx (.BinOp a .FloorDiv b pos) (tOp (rI CDiv fun i j => .int (i / j)) ta tb) (eOp fdivD fa fb) := dx_op op_fdiv s2_fdiv ha hb
theorem dx_pow (ha : DX X 𝒲 Wx a ta fa) (hb : DX X 𝒲 Wx b tb fb) : DX X 𝒲 Wx (.BinOp a .Pow b pos) (tOp (rI CPow fun i j => .int (i ^ j.toNat)) ta tb) (eOp powD fa fb) := dx_op op_pow s2_pow ha hb
/-- -a -/
def eNeg (fa : FE S) : FE S := fun ρ s => (fa ρ s).bnd fun x s => match x with
  | .d (.int i) => .ok (.d (.int (-i))) s
  | _ => .bad
theorem dx_neg (ha : DX X 𝒲 Wx a ta fa) : DX X 𝒲 Wx (.UnaryOp .USub a pos) (tUn (rU fun i => .int (-i)) ta) (eNeg fa) := by
  refine ⟨pe_un un_neg ha.pe, fun W hW ρ σ s H Q E h => ?_⟩
  refine ha.de W hW ρ σ s H _ E (h.bnd.imp fun x s1 H1 a1 e1 q v hv => ?_)
  split at q
  · cases (show Rp _ v (.int _) from hv)
    exact ⟨_, rfl, q.ok a1 _ (Rp.int _)⟩
  · exact q.elim

/-! ### comparisons as values, as tests -/
structure Cm (X : Cx) (op : CmpOp) (r : R2) (f : D → D → Option D) : Prop where
  op : OpR X (compareOp op) r
  s2 : S2 r f
theorem cm_eq (hu : X.A.units + 64 < cLine) : Cm X .Eq (rEqE X.K) eqD := ⟨op_eqE hu, s2_eq⟩
theorem cm_ne (hu : X.A.units + 64 < cLine) : Cm X .NotEq (rNeE X.K) neD := ⟨op_neE hu, s2_ne⟩
theorem cm_lt : Cm X .Lt (rI0 fun i j => .bl (decide (i < j))) ltD := ⟨op_lt, s2_lt⟩
theorem cm_le : Cm X .LtE (rI0 fun i j => .bl (decide (i ≤ j))) leD := ⟨op_le, s2_le⟩
theorem cm_gt : Cm X .Gt (rI0 fun i j => .bl (decide (j < i))) gtD := ⟨op_gt, s2_gt⟩
theorem cm_ge : Cm X .GtE (rI0 fun i j => .bl (decide (j ≤ i))) geD := ⟨op_ge, s2_ge⟩
theorem cm_isN : Cm X .Is (fun x y H Q => y = .non ∧ Q (.bl (decide (x = .non))) H) isND := ⟨op_isN, s2_isN⟩
theorem cm_notN : Cm X .IsNot (fun x y H Q => y = .non ∧ Q (.bl (!decide (x = .non))) H) notND := ⟨op_notN, s2_notN⟩
theorem cm_isB : Cm X .Is rIsB isBD := ⟨op_isBl, s2_isB⟩
theorem cm_notB : Cm X .IsNot rNotB notBD := ⟨op_notBl, s2_notB⟩
theorem cm_in (hu : X.A.units + 65 < cLine) : Cm X .In (rInE X.K false) (inD false) := ⟨op_inE hu, s2_in⟩
theorem cm_notin (hu : X.A.units + 65 < cLine) : Cm X .NotIn (rInE X.K true) (inD true) := ⟨op_notInE hu, s2_in⟩
theorem dx_cmp {op : CmpOp} {r : R2} {f : D → D → Option D} (c : Cm X op r f) (ha : DX X 𝒲 Wx a ta fa) (hb : DX X 𝒲 Wx b tb fb) (hm : behindInMarks op b = false := by first | exact nomark _ (by decide) (by decide) | rfl | with_unfolding_all rfl) :
    DX X 𝒲 Wx (.Compare a [op] [b] pos) (tOp r ta tb) (eOp f fa fb) := ⟨pe_cmpR c.op ha.pe hb.pe hm, de_op c.s2 ha.de hb.de⟩
/-- a value that is a bool, as a test -/
def tstOf (r : Res S Dv) : Res S Bool := r.bnd fun x s => match x with
  | .d (.bool b) => .ok b s
  | _ => .bad
theorem dt_of {t : TE} {f : FE S} {Q : Bool → Hp → Prop} {W : Wd S} {ρ : Env} {σ : L2.St} {s : S} {H : Hp} (hW : 𝒲.ok W) (d : DE 𝒲 Wx t f) (E : EnvOk W ρ σ s H) (h : Post W Wx σ H (tstOf (f ρ s)) (fun b _ H' => Q b H')) : t σ H fun x H' => ∃ k, x = .bl k ∧ Q k H' := by
  refine d W hW ρ σ s H _ E (h.bnd.imp fun x s1 H1 a1 e1 q v hv => ?_)
  split at q
  · cases (show Rp _ v (.bool _) from hv)
    exact ⟨_, rfl, q.ok a1⟩
  · exact q.elim
theorem dxt_cmp {op : CmpOp} {r : R2} {f : D → D → Option D} (c : Cm X op r f) (ha : DX X 𝒲 Wx a ta fa) (hb : DX X 𝒲 Wx b tb fb) (hm : behindInMarks op b = false := by first | exact nomark _ (by decide) (by decide) | rfl | with_unfolding_all rfl) :
    DXT X 𝒲 Wx (.Compare a [op] [b] pos) (tTest (tOp r ta tb)) (fun ρ s => tstOf (eOp f fa fb ρ s)) := ⟨pt_cmpR c.op ha.pe hb.pe hm, fun W hW ρ σ s H Q E h => dt_of hW (de_op c.s2 ha.de hb.de) E h⟩
/-- a op b op c -/
def eChain (f g : D → D → Option D) (fa fb fc : FE S) : FE S := fun ρ s => (fa ρ s).bnd fun x s => (fb ρ s).bnd fun y s => match x, y with
  | .d x, .d y => (match f x y with
    | some (.bool true) => (fc ρ s).bnd fun z s => (match z with
      | .d z => lift (g y z) s
      | _ => .bad)
    | some (.bool false) => .ok (.d (.bool false)) s
    | _ => .bad)
  | _, _ => .bad
theorem de_chain {r r' : R2} {f g : D → D → Option D} (ho : S2 r f) (ho' : S2 r' g) (ha : DE 𝒲 Wx ta fa) (hb : DE 𝒲 Wx tb fb) (hc : DE 𝒲 Wx tc fc) : DE 𝒲 Wx (tChain r r' ta tb tc) (eChain f g fa fb fc) := by
  intro W hW ρ σ s H Q E h
  refine ha W hW ρ σ s H _ E (h.bnd.imp fun x s1 H1 a1 e1 q v hv => ?_)
  have E1 := E.step a1 e1
  refine hb W hW ρ σ s1 H1 _ E1 (q.bnd.imp fun y s2 H2 a2 e2 q2 u hu => ?_)
  have E2 := E1.step a2 e2
  cases x with
  | v x => exact q2.elim
  | d x =>
    cases y with
    | v y => exact q2.elim
    | d y =>
      dsimp only at q2
      split at q2
      · rename_i hz
        refine ho _ H2 v u x y _ _ E2.inH (Rp.up (show Rp _ v x from hv) (Frz.stp e2)) hu hz fun w H3 e3 hw => ?_
        cases hw
        refine ⟨true, rfl, ?_⟩
        rw [if_pos rfl]
        have a3 := W.ext _ _ _ a2 e3
        have E3 := E2.step a3 (Stp.of e3)
        refine hc W hW ρ σ s2 H3 _ E3 ((q2.later (Stp.of e3)).bnd.imp fun z s4 H4 a4 e4 q4 w' hw' => ?_)
        have E4 := E3.step a4 e4
        cases z with
        | v z => exact q4.elim
        | d z =>
          dsimp only at q4
          cases hz2 : g y z with
          | none => rw [hz2] at q4; exact q4.elim
          | some z2 =>
            rw [hz2] at q4
            exact ho' _ H4 u w' y z z2 Q E4.inH (Rp.up (show Rp _ u y from hu) ((Frz.stp (Stp.of e3)).trans (Frz.stp e4))) hw' hz2 fun w2 H5 e5 hw2 => q4 H5 (W.ext _ _ _ a4 e5) (Stp.of e5) w2 hw2
      · rename_i hz
        refine ho _ H2 v u x y _ _ E2.inH (Rp.up (show Rp _ v x from hv) (Frz.stp e2)) hu hz fun w H3 e3 hw => ?_
        cases hw
        refine ⟨false, rfl, ?_⟩
        rw [if_neg Bool.false_ne_true]
        exact q2 H3 (W.ext _ _ _ a2 e3) (Stp.of e3) _ (Rp.bl _)
      · exact q2.elim
theorem dx_chain {op op' : CmpOp} {c : Expr} {r r' : R2} {f g : D → D → Option D} (c1 : Cm X op r f) (c2 : Cm X op' r' g) (ha : DX X 𝒲 Wx a ta fa) (hb : DX X 𝒲 Wx b tb fb) (hc : DX X 𝒲 Wx c tc fc) (hm : lastMarks [op, op'] [b, c] = false := by with_unfolding_all rfl) :
    DX X 𝒲 Wx (.Compare a [op, op'] [b, c] pos) (tChain r r' ta tb tc) (eChain f g fa fb fc) := ⟨pe_chain c1.op c2.op ha.pe hb.pe hc.pe hm, de_chain c1.s2 c2.s2 ha.de hb.de hc.de⟩
theorem dxt_chain {op op' : CmpOp} {c : Expr} {r r' : R2} {f g : D → D → Option D} (c1 : Cm X op r f) (c2 : Cm X op' r' g) (ha : DX X 𝒲 Wx a ta fa) (hb : DX X 𝒲 Wx b tb fb) (hc : DX X 𝒲 Wx c tc fc) (hm : lastMarks [op, op'] [b, c] = false := by with_unfolding_all rfl) :
    DXT X 𝒲 Wx (.Compare a [op, op'] [b, c] pos) (tTest (tChain r r' ta tb tc)) (fun ρ s => tstOf (eChain f g fa fb fc ρ s)) := ⟨pt_chain c1.op c2.op ha.pe hb.pe hc.pe hm, fun W hW ρ σ s H Q E h => dt_of hW (de_chain c1.s2 c2.s2 ha.de hb.de hc.de) E h⟩

/-! ### and, or, not; if .. else -/
def eAnd (fa fb : FE S) : FE S := fun ρ s => (fa ρ s).bnd fun x s => match x with
  | .d (.bool true) => fb ρ s
  | .d (.bool false) => .ok (.d (.bool false)) s
  | _ => .bad
def eOr (fa fb : FE S) : FE S := fun ρ s => (fa ρ s).bnd fun x s => match x with
  | .d (.bool true) => .ok (.d (.bool true)) s
  | .d (.bool false) => fb ρ s
  | _ => .bad
def eNot (fa : FE S) : FE S := fun ρ s => (fa ρ s).bnd fun x s => match x with
  | .d (.bool k) => .ok (.d (.bool (!k))) s
  | _ => .bad
variable {rest : List Expr}
theorem dx_one {op} (ha : DX X 𝒲 Wx a ta fa) : DX X 𝒲 Wx (.BoolOp op [a] pos) ta fa := ⟨pe_one ha.pe, ha.de⟩
theorem dx_and (ha : DX X 𝒲 Wx a ta fa) (hb : DX X 𝒲 Wx (.BoolOp .And (b :: rest) pos) tb fb) : DX X 𝒲 Wx (.BoolOp .And (a :: b :: rest) pos) (tAndV ta tb) (eAnd fa fb) := by
  refine ⟨pe_and ha.pe hb.pe, fun W hW ρ σ s H Q E h => ?_⟩
  refine ha.de W hW ρ σ s H _ E (h.bnd.imp fun x s1 H1 a1 e1 q v hv => ?_)
  split at q
  · cases (show Rp _ v (.bool _) from hv)
    exact ⟨true, rfl, by rw [if_pos rfl]; exact hb.de W hW ρ σ s1 H1 Q (E.step a1 e1) q⟩
  · cases (show Rp _ v (.bool _) from hv)
    exact ⟨false, rfl, by rw [if_neg Bool.false_ne_true]; exact q.ok a1 _ (Rp.bl _)⟩
  · exact q.elim
theorem dx_or (ha : DX X 𝒲 Wx a ta fa) (hb : DX X 𝒲 Wx (.BoolOp .Or (b :: rest) pos) tb fb) : DX X 𝒲 Wx (.BoolOp .Or (a :: b :: rest) pos) (tOrV ta tb) (eOr fa fb) := by
  refine ⟨pe_or ha.pe hb.pe, fun W hW ρ σ s H Q E h => ?_⟩
  refine ha.de W hW ρ σ s H _ E (h.bnd.imp fun x s1 H1 a1 e1 q v hv => ?_)
  split at q
  · cases (show Rp _ v (.bool _) from hv)
    exact ⟨true, rfl, by rw [if_pos rfl]; exact q.ok a1 _ (Rp.bl _)⟩
  · cases (show Rp _ v (.bool _) from hv)
    exact ⟨false, rfl, by rw [if_neg Bool.false_ne_true]; exact hb.de W hW ρ σ s1 H1 Q (E.step a1 e1) q⟩
  · exact q.elim
theorem dx_not (ha : DX X 𝒲 Wx a ta fa) : DX X 𝒲 Wx (.UnaryOp .Not a pos) (tNotV ta) (eNot fa) := by
  refine ⟨pe_not ha.pe, fun W hW ρ σ s H Q E h => ?_⟩
  refine ha.de W hW ρ σ s H _ E (h.bnd.imp fun x s1 H1 a1 e1 q v hv => ?_)
  split at q
  · cases (show Rp _ v (.bool _) from hv)
    exact ⟨_, rfl, q.ok a1 _ (Rp.bl _)⟩
  · exact q.elim
/-- tests -/
def fAnd (f g : FT S) : FT S := fun ρ s => (f ρ s).bnd fun k s => if k = true then g ρ s else .ok false s
def fOr (f g : FT S) : FT S := fun ρ s => (f ρ s).bnd fun k s => if k = true then .ok true s else g ρ s
def fNot (f : FT S) : FT S := fun ρ s => (f ρ s).bnd fun k s => .ok (!k) s
variable {tA tB' : TT} {fA fB : FT S}
theorem dxt_val (ha : DX X 𝒲 Wx a ta fa) (he : ∀ whole, isTrue a X.env whole = (do let v ← whole; standAt a.pos; holding [v] (truthy v)) := by intro _; rfl) : DXT X 𝒲 Wx a (tB ta) (fun ρ s => tstOf (fa ρ s)) :=
  ⟨pt_val ha.pe he, fun W hW ρ σ s H Q E h => dt_of hW ha.de E h⟩
theorem DXW.t (h : DXW X 𝒲 Wx a tA fA) : DXT X 𝒲 Wx a tA fA := ⟨h.pw.pt, h.dt⟩
theorem dxw_and1 (ha : DXT X 𝒲 Wx a tA fA) : DXW X 𝒲 Wx (.BoolOp .And [a] pos) tA fA := ⟨pw_and1 ha.pt, ha.dt⟩
theorem dxw_or1 (ha : DXT X 𝒲 Wx a tA fA) : DXW X 𝒲 Wx (.BoolOp .Or [a] pos) tA fA := ⟨pw_or1 ha.pt, ha.dt⟩
theorem dxw_and (ha : DXT X 𝒲 Wx a tA fA) (hb : DXW X 𝒲 Wx (.BoolOp .And (b :: rest) pos) tB' fB) : DXW X 𝒲 Wx (.BoolOp .And (a :: b :: rest) pos) (tAnd tA tB') (fAnd fA fB) := by
  refine ⟨pw_and ha.pt hb.pw, fun W hW ρ σ s H Q E h => ?_⟩
  refine ha.dt W hW ρ σ s H _ E (h.bnd.imp fun k s1 H1 a1 e1 q => ?_)
  cases k with
  | true =>
    rw [if_pos rfl] at q ⊢
    exact hb.dt W hW ρ σ s1 H1 Q (E.step a1 e1) q
  | false =>
    rw [if_neg Bool.false_ne_true] at q ⊢
    exact q.ok a1
theorem dxw_or (ha : DXT X 𝒲 Wx a tA fA) (hb : DXW X 𝒲 Wx (.BoolOp .Or (b :: rest) pos) tB' fB) : DXW X 𝒲 Wx (.BoolOp .Or (a :: b :: rest) pos) (tOr tA tB') (fOr fA fB) := by
  refine ⟨pw_or ha.pt hb.pw, fun W hW ρ σ s H Q E h => ?_⟩
  refine ha.dt W hW ρ σ s H _ E (h.bnd.imp fun k s1 H1 a1 e1 q => ?_)
  cases k with
  | true =>
    rw [if_pos rfl] at q ⊢
    exact q.ok a1
  | false =>
    rw [if_neg Bool.false_ne_true] at q ⊢
    exact hb.dt W hW ρ σ s1 H1 Q (E.step a1 e1) q
theorem dxt_not (ha : DXT X 𝒲 Wx a tA fA) : DXT X 𝒲 Wx (.UnaryOp .Not a pos) (tNot tA) (fNot fA) := by
  refine ⟨pt_not ha.pt, fun W hW ρ σ s H Q E h => ?_⟩
  exact ha.dt W hW ρ σ s H _ E (h.bnd.imp fun k s1 H1 a1 e1 q => q.ok a1)
def eIf (f : FT S) (fa fb : FE S) : FE S := fun ρ s => (f ρ s).bnd fun k s => if k = true then fa ρ s else fb ρ s
theorem dx_if {c : Expr} (hc : DXT X 𝒲 Wx c tA fA) (ha : DX X 𝒲 Wx a ta fa) (hb : DX X 𝒲 Wx b tb fb) : DX X 𝒲 Wx (.IfExp c a b pos) (tIf tA ta tb) (eIf fA fa fb) := by
  refine ⟨pe_ifExp hc.pt ha.pe hb.pe, fun W hW ρ σ s H Q E h => ?_⟩
  refine hc.dt W hW ρ σ s H _ E (h.bnd.imp fun k s1 H1 a1 e1 q => ?_)
  cases k with
  | true =>
    rw [if_pos rfl] at q ⊢
    exact ha.de W hW ρ σ s1 H1 Q (E.step a1 e1) q
  | false =>
    rw [if_neg Bool.false_ne_true] at q ⊢
    exact hb.de W hW ρ σ s1 H1 Q (E.step a1 e1) q

/-! ### arguments, displays -/
theorem IsAll.up {F F' : Hp} (e : Same F F') : ∀ {vs : List V} {ds : List Dv}, IsAll F vs ds → IsAll F' vs ds
  | _, _, .nil => .nil
  | _, _, .cons a b => .cons (a.up e) (IsAll.up e b)
def aNil : FA S := fun _ s => .ok [] s
def aCons (f : FE S) (g : FA S) : FA S := fun ρ s => (f ρ s).bnd fun x s => (g ρ s).bnd fun xs s => .ok (x :: xs) s
theorem dxa_nil : DXA X 𝒲 Wx [] tNil aNil := ⟨pa_nil, fun W hW ρ σ s H Q E h => h.ok E.at_ _ .nil⟩
theorem dxa_cons {es : List Expr} {t : TA} {g : FA S} (ha : DX X 𝒲 Wx a ta fa) (hr : DXA X 𝒲 Wx es t g) (hs : starEach (a :: es) X.env = (false, eval a X.env) :: starEach es X.env := by rfl) : DXA X 𝒲 Wx (a :: es) (tCons ta t) (aCons fa g) := by
  refine ⟨pa_cons ha.pe hr.pa hs, fun W hW ρ σ s H Q E h => ?_⟩
  refine ha.de W hW ρ σ s H _ E (h.bnd.imp fun x s1 H1 a1 e1 q v hv => ?_)
  have E1 := E.step a1 e1
  refine hr.da W hW ρ σ s1 H1 _ E1 (q.bnd.imp fun y s2 H2 a2 e2 q2 u hu => ?_)
  exact q2.ok a2 _ (.cons (hv.up (Frz.stp e2)) hu)
/-- all of them data -/
def datas : List Dv → Option (List D)
  | [] => some []
  | .d x :: r => (datas r).map (x :: ·)
  | .v _ :: _ => none
theorem datas_rp {F : Hp} : ∀ {vs : List V} {xs : List Dv} {ds : List D}, IsAll F vs xs → datas xs = some ds → RpAll F vs ds
  | _, [], _, h, e => by cases h; cases e; exact .nil
  | _, .d x :: r, ds, h, e => by
    cases h with
    | cons a b =>
      have e : (datas r).map (x :: ·) = some ds := e
      obtain ⟨es, e1, rfl⟩ := Option.map_eq_some_iff.mp e
      exact .cons a (datas_rp b e1)
  | _, .v _ :: _, _, _, e => by cases e
def eTup (g : FA S) : FE S := fun ρ s => (g ρ s).bnd fun xs s => lift ((datas xs).bind fun ds => if ds.length ≤ lim then some (.tuple ds) else none) s
def eLst (g : FA S) : FE S := fun ρ s => (g ρ s).bnd fun xs s => lift ((datas xs).bind fun ds => if ds.length ≤ lim then some (.list ds) else none) s
theorem dx_tup {es : List Expr} {k : Nat} {t : TA} {g : FA S} (h : DXA X 𝒲 Wx es t g) : DX X 𝒲 Wx (.Tuple es k pos) (tTup t) (eTup g) := by
  refine ⟨pe_tup h.pa, fun W hW ρ σ s H Q E hp => ?_⟩
  refine h.da W hW ρ σ s H _ E (hp.bnd.imp fun x s1 H1 a1 e1 q v hv => ?_)
  cases hd : datas x with
  | none => rw [hd] at q; exact q.elim
  | some ds =>
    rw [hd] at q
    have q : Post W Wx σ H1 (lift (if ds.length ≤ lim then some (PyData.tuple ds) else none) s1) _ := q
    by_cases hl : ds.length ≤ lim
    · rw [if_pos hl] at q
      have r := datas_rp hv hd
      have hl2 : v.length ≤ lim := by rw [r.len]; exact hl
      exact ⟨lim_line hl2, fun p hn => q _ (W.ext _ _ _ a1 (Same.new hn)) (Stp.of (Same.new hn)) _ (rp_tup (E.step a1 e1).inH hn hl2 r)⟩
    · rw [if_neg hl] at q; exact q.elim
theorem dx_lst {es : List Expr} {t : TA} {g : FA S} (h : DXA X 𝒲 Wx es t g) : DX X 𝒲 Wx (.List es pos) (tLst t) (eLst g) := by
  refine ⟨pe_lst h.pa, fun W hW ρ σ s H Q E hp => ?_⟩
  refine h.da W hW ρ σ s H _ E (hp.bnd.imp fun x s1 H1 a1 e1 q v hv => ?_)
  cases hd : datas x with
  | none => rw [hd] at q; exact q.elim
  | some ds =>
    rw [hd] at q
    have q : Post W Wx σ H1 (lift (if ds.length ≤ lim then some (PyData.list ds) else none) s1) _ := q
    by_cases hl : ds.length ≤ lim
    · rw [if_pos hl] at q
      have r := datas_rp hv hd
      have hl2 : v.length ≤ lim := by rw [r.len]; exact hl
      exact ⟨lim_line hl2, fun p hn => q _ (W.ext _ _ _ a1 (Same.new hn)) (Stp.of (Same.new hn)) _ (rp_lst (E.step a1 e1).inH hn hl2 r)⟩
    · rw [if_neg hl] at q; exact q.elim

/-! ### xs[i] -/
theorem dx_ix (ha : DX X 𝒲 Wx a ta fa) (hb : DX X 𝒲 Wx b tb fb) (hs : PlainIx b := by exact fun _ _ => rfl) : DX X 𝒲 Wx (.Subscript a b pos) (tOp (rIx X.K) ta tb) (eOp ixD fa fb) := ⟨pe_ix ix_seq ha.pe hb.pe hs, de_op s2_ix ha.de hb.de⟩

/-! ### built-in calls -/
def eCall (op : List D → Option D) (g : FA S) : FE S := fun ρ s => (g ρ s).bnd fun xs s => lift ((datas xs).bind op) s
theorem de_call {r : List V → Hp → VK → Prop} {t : TA} {g : FA S} {op : List D → Option D} (ho : SA r op) (h : DA 𝒲 Wx t g) : DE 𝒲 Wx (tCB r t) (eCall op g) := by
  intro W hW ρ σ s H Q E hp
  refine h W hW ρ σ s H _ E (hp.bnd.imp fun x s1 H1 a1 e1 q v hv => ?_)
  cases hd : datas x with
  | none => rw [hd] at q; exact q.elim
  | some ds =>
    rw [hd] at q
    have q : Post W Wx σ H1 (lift (op ds) s1) _ := q
    cases hz : op ds with
    | none => rw [hz] at q; exact q.elim
    | some z =>
      rw [hz] at q
      exact ho _ H1 v ds z Q (E.step a1 e1).inH (datas_rp hv hd) hz fun w H3 e3 hw => q H3 (W.ext _ _ _ a1 e3) (Stp.of e3) w hw
theorem dx_callB {x : Str} {es : List Expr} {r : List V → Hp → VK → Prop} {t : TA} {g : FA S} {op : List D → Option D} {id : String} {p : Pos} (hc : CallR X (.builtin id) r) (ho : SA r op) (hg : Gl X x) (hm : X.mg x = none) (hv : bootBuiltins x = some (.builtin id)) (h : DXA X 𝒲 Wx (e :: es) t g)
    (hn : x ≠ "__name__" := by decide) (hdb : (x == ("__debug__" : Str)) = false := by decide) (he : starEach (e :: es) X.env = (false, eval e X.env) :: starEach es X.env := by rfl) (hpl : (backTo pos (starEach es X.env)).any (·.1) = false := by rfl) :
    DX X 𝒲 Wx (.Call (.Name x p) (e :: es) [] pos) (tCB r t) (eCall op g) := ⟨pe_callB hc hg hm hv h.pa hn hdb he hpl, de_call ho h.da⟩
theorem dx_callT {x : Str} {es : List Expr} {r : List V → Hp → VK → Prop} {t : TA} {g : FA S} {op : List D → Option D} {T : String} {p : Pos} (hc : CallR X (.type T) r) (ho : SA r op) (hg : Gl X x) (hm : X.mg x = none) (hv : bootBuiltins x = some (.type T)) (h : DXA X 𝒲 Wx (e :: es) t g)
    (hn : x ≠ "__name__" := by decide) (hdb : (x == ("__debug__" : Str)) = false := by decide) (he : starEach (e :: es) X.env = (false, eval e X.env) :: starEach es X.env := by rfl) (hpl : (backTo pos (starEach es X.env)).any (·.1) = false := by rfl) :
    DX X 𝒲 Wx (.Call (.Name x p) (e :: es) [] pos) (tCB r t) (eCall op g) := ⟨pe_callTy hc hg hm hv h.pa hn hdb he hpl, de_call ho h.da⟩
end
end DL

namespace DL
open PySem L2

section
variable {S : Type} {X : Cx} {𝒲 : Fam S} {Wx : Wsh} {e a b : Expr} {ta tb tc : TE} {fa fb fc : FE S} {pos : Pos}

/-! ### new lists -/
abbrev FL (S : Type) := Env → S → Res S (List D)
/-- a new list: nobody else holds it -/
def DF (𝒲 : Fam S) (Wx : Wsh) (t : TE) (f : FL S) : Prop := ∀ W, 𝒲.ok W → ∀ ρ σ s H (Q : VK), EnvOk W ρ σ s H → Post W Wx σ H (f ρ s) (fun ds _ H' => ∀ p vs, H p = none → H' p = some (.lst vs) → vs.length ≤ lim → RpAll (Fz (fun a => W.hid a ∨ Own ρ σ a ∨ a = p) H') vs ds → Q (.ref p) H') → t σ H Q
structure DXF (X : Cx) (𝒲 : Fam S) (Wx : Wsh) (e : Expr) (t : TE) (f : FL S) : Prop where
  pe : PE X e t
  df : DF 𝒲 Wx t f
def eNew (f : FL S) : FE S := fun ρ s => (f ρ s).bnd fun ds s => .ok (.d (.list ds)) s
theorem frz_hide {W : Wd S} {ρ : Env} {σ : L2.St} {H : Hp} {p : Addr} : Same (Fz (fun a => W.hid a ∨ Own ρ σ a ∨ a = p) H) (Frz W ρ σ H) := Fz_mono (fun a _ h => by
  rcases h with h | h
  · exact .inl h
  · exact .inr (.inl h)) fun _ _ _ h => h
theorem EnvOk.newBack {W : Wd S} {ρ : Env} {σ : L2.St} {s s' : S} {H H' : Hp} (E : EnvOk W ρ σ s H) (a : W.at_ s' H') (e : Stp W H H') {p : Addr} (h : H' p = none) : H p = none := by
  cases z : H p with
  | none => rfl
  | some o =>
    by_cases q : W.hid p
    · exact absurd h (W.hidIn _ _ _ a q)
    · rw [e p o q z] at h; cases h
theorem dx_new {t : TE} {f : FL S} (h : DXF X 𝒲 Wx e t f) : DX X 𝒲 Wx e t (eNew f) := by
  refine ⟨h.pe, fun W hW ρ σ s H Q E hp => ?_⟩
  refine h.df W hW ρ σ s H _ E (hp.bnd.imp fun ds s1 H1 a1 e1 q p vs h0 h1 hl r => ?_)
  have n := E.new h0
  exact q.ok a1 _ (.lst (Fz_at (fun z => z.elim n.1 n.2.2) h1) hl (r.up frz_hide))
/-- a display -/
def lLst (g : FA S) : FL S := fun ρ s => (g ρ s).bnd fun xs s => match datas xs with
  | some ds => if ds.length ≤ lim then .ok ds s else .bad
  | none => .bad
theorem fz_new {P : Addr → Prop} {H : Hp} {p : Addr} {o : HO} {vs : List V} {ds : List D} (h : H p = none) (r : RpAll (Fz P H) vs ds) : RpAll (Fz (fun a => P a ∨ a = p) (upd H p o)) vs ds :=
  r.up (Fz_mono (fun a ha hq => hq.elim id fun e => absurd h (by rw [← e]; exact ha)) fun a o' hn hq => by
    rw [upd_ne (ne_of_none hq h)]; exact hq)
theorem fz_new' {W : Wd S} {ρ : Env} {σ : L2.St} {H : Hp} {p : Addr} {o : HO} {vs : List V} {ds : List D} (h : H p = none) (r : RpAll (Frz W ρ σ H) vs ds) : RpAll (Fz (fun a => W.hid a ∨ Own ρ σ a ∨ a = p) (upd H p o)) vs ds :=
  (fz_new (o := o) h r).up (Fz_mono (fun a _ hq => by
    rcases hq with q | q | q
    · exact .inl (.inl q)
    · exact .inl (.inr q)
    · exact .inr q) fun _ _ _ h => h)
theorem dxf_lst {es : List Expr} {t : TA} {g : FA S} (h : DXA X 𝒲 Wx es t g) : DXF X 𝒲 Wx (.List es pos) (tLst t) (lLst g) := by
  refine ⟨pe_lst h.pa, fun W hW ρ σ s H Q E hp => ?_⟩
  refine h.da W hW ρ σ s H _ E (hp.bnd.imp fun x s1 H1 a1 e1 q v hv => ?_)
  split at q
  · rename_i ds hd
    split at q
    · rename_i hl
      have r := datas_rp hv hd
      have hl2 : v.length ≤ lim := by rw [r.len]; exact hl
      exact ⟨lim_line hl2, fun p hn => q _ (W.ext _ _ _ a1 (Same.new hn)) (Stp.of (Same.new hn)) p v (E.newBack a1 e1 hn) upd_same hl2 (fz_new' hn r)⟩
    · exact q.elim
  · exact q.elim

/-! ### slices -/
def DO (𝒲 : Fam S) (Wx : Wsh) (t : TO) (f : Env → S → Res S (Option Int)) : Prop := ∀ W, 𝒲.ok W → ∀ ρ σ s H (Q : Option Int → Hp → Prop), EnvOk W ρ σ s H → Post W Wx σ H (f ρ s) (fun o _ H' => Q o H') → t σ H Q
structure DXO (X : Cx) (𝒲 : Fam S) (Wx : Wsh) (e : Option Expr) (t : TO) (f : Env → S → Res S (Option Int)) : Prop where
  po : PO X e t
  d : DO 𝒲 Wx t f
def oNone : Env → S → Res S (Option Int) := fun _ s => .ok none s
def oSome (f : FE S) : Env → S → Res S (Option Int) := fun ρ s => (f ρ s).bnd fun x s => match x with
  | .d (.int i) => .ok (some i) s
  | _ => .bad
theorem dxo_none : DXO X 𝒲 Wx none tNoPart oNone := ⟨po_none, fun W hW ρ σ s H Q E h => h.ok E.at_⟩
theorem dxo_some (ha : DX X 𝒲 Wx a ta fa) : DXO X 𝒲 Wx (some a) (tPart ta) (oSome fa) := by
  refine ⟨po_some ha.pe, fun W hW ρ σ s H Q E h => ?_⟩
  refine ha.de W hW ρ σ s H _ E (h.bnd.imp fun x s1 H1 a1 e1 q v hv => ?_)
  split at q
  · cases (show Rp _ v (.int _) from hv)
    exact ⟨_, rfl, q.ok a1⟩
  · exact q.elim
def cutL {α : Type} (xs : List α) (lo hi : Option Int) : List α := (xs.drop (HT.sIx xs.length 0 lo)).take (HT.sIx xs.length xs.length hi - HT.sIx xs.length 0 lo)
theorem cutL_len {α : Type} (xs : List α) (lo hi : Option Int) : (cutL xs lo hi).length ≤ xs.length := by
  unfold cutL
  rw [List.length_take, List.length_drop]
  omega
theorem rp_cut {F : Hp} {vs : List V} {ds : List D} (r : RpAll F vs ds) (lo hi : Option Int) : RpAll F (cutV vs lo hi) (cutL ds lo hi) := by
  unfold cutV cutL
  rw [r.len]
  exact (r.drop _).take _
def sliceD (d : D) (lo hi : Option Int) : Option D := match d with
  | .list ds => some (.list (cutL ds lo hi))
  | .tuple ds => some (.tuple (cutL ds lo hi))
  | .str x => if PyData.strOk (cutS x lo hi) = true then some (.str (cutS x lo hi)) else none
  | _ => none
def rSlE (K : PySem.W.Frag) : V → Option Int → Option Int → Hp → VK → Prop := fun x lo hi H Q => rSlL K x lo hi H Q ∨ (rSlA K x lo hi H Q ∨ rSlS x lo hi H Q)
theorem sl_E : SlR X (rSlE X.K) := sl_list.or (sl_tupA.or sl_str)
theorem sliceD_ok {K : PySem.W.Frag} {P : Addr → Prop} {H : Hp} {x : V} {d z : D} {lo hi : Option Int} {Q : VK} (hP : InH P H) (hx : Rp (Fz P H) x d) (ho : sliceD d lo hi = some z) (k : ∀ v H', Same H H' → Rp (Fz P H') v z → Q v H') : rSlE K x lo hi H Q := by
  cases hx with
  | lst ha la ra =>
    cases ho
    have l2 : ∀ xs : List V, (cutV xs lo hi).length ≤ xs.length := fun xs => cutL_len xs lo hi
    exact .inl ⟨_, _, rfl, SqL.of (Fz_sub _ _ ha), fun p hp => k _ _ (Same.new hp) (rp_lst hP hp (Nat.le_trans (l2 _) la) (rp_cut ra lo hi))⟩
  | tup ha la ra =>
    cases ho
    have l2 : ∀ xs : List V, (cutV xs lo hi).length ≤ xs.length := fun xs => cutL_len xs lo hi
    refine .inr (.inl ⟨_, _, rfl, SqT.of (Fz_sub _ _ ha), fun hw => ?_, fun _ p hp => k _ _ (Same.new hp) (rp_tup hP hp (Nat.le_trans (l2 _) la) (rp_cut ra lo hi))⟩)
    have e := ra.len
    refine k _ _ (Same.refl _) (.tup ha la ?_)
    unfold cutL
    rw [← e, hw.1, hw.2, List.drop_zero, Nat.sub_zero, e, List.take_length]
    exact ra
  | str w h1 h2 =>
    obtain ⟨h, rfl⟩ := ite_some ho
    exact .inr (.inr ⟨w, rfl, lim_line h1, k _ _ (Same.refl _) (.str _ (Nat.le_trans (cutS_length w lo hi) h1) h)⟩)
  | _ => cases ho
def eSl (fa : FE S) (fl fh : Env → S → Res S (Option Int)) : FE S := fun ρ s => (fa ρ s).bnd fun x s => (fl ρ s).bnd fun l s => (fh ρ s).bnd fun h s => match x with
  | .d x => lift (sliceD x l h) s
  | _ => .bad
theorem dx_sl {lo hi : Option Expr} {tl th : TO} {fl fh : Env → S → Res S (Option Int)} {p2 : Pos} (ha : DX X 𝒲 Wx a ta fa) (hl : DXO X 𝒲 Wx lo tl fl) (hh : DXO X 𝒲 Wx hi th fh) : DX X 𝒲 Wx (.Subscript a (.Slice lo hi none p2) pos) (tSl (rSlE X.K) ta tl th) (eSl fa fl fh) := by
  refine ⟨pe_slice sl_E ha.pe hl.po hh.po, fun W hW ρ σ s H Q E h => ?_⟩
  refine ha.de W hW ρ σ s H _ E (h.bnd.imp fun x s1 H1 a1 e1 q v hv => ?_)
  have E1 := E.step a1 e1
  refine hl.d W hW ρ σ s1 H1 _ E1 (q.bnd.imp fun l s2 H2 a2 e2 q2 => ?_)
  have E2 := E1.step a2 e2
  refine hh.d W hW ρ σ s2 H2 _ E2 (q2.bnd.imp fun u s3 H3 a3 e3 q3 => ?_)
  have E3 := E2.step a3 e3
  cases x with
  | v x => exact q3.elim
  | d x =>
    have q3 : Post W Wx σ H3 (lift (sliceD x l u) s3) _ := q3
    cases hz : sliceD x l u with
    | none => rw [hz] at q3; exact q3.elim
    | some z =>
      rw [hz] at q3
      exact sliceD_ok E3.inH (Rp.up (show Rp _ v x from hv) ((Frz.stp e2).trans (Frz.stp e3))) hz fun w H4 e4 hw => q3 H4 (W.ext _ _ _ a3 e4) (Stp.of e4) w hw
/-- xs[lo:hi] as a new list: xs data, or a list of one's own -/
def lSl (fa : FE S) (fl fh : Env → S → Res S (Option Int)) : FL S := fun ρ s => (fa ρ s).bnd fun x s => (fl ρ s).bnd fun l s => (fh ρ s).bnd fun h s => match x with
  | .d (.list ds) => .ok (cutL ds l h) s
  | _ => .bad
theorem dxf_sl {lo hi : Option Expr} {tl th : TO} {fl fh : Env → S → Res S (Option Int)} {p2 : Pos} (ha : DX X 𝒲 Wx a ta fa) (hl : DXO X 𝒲 Wx lo tl fl) (hh : DXO X 𝒲 Wx hi th fh) : DXF X 𝒲 Wx (.Subscript a (.Slice lo hi none p2) pos) (tSl (rSlL X.K) ta tl th) (lSl fa fl fh) := by
  refine ⟨pe_slice sl_list ha.pe hl.po hh.po, fun W hW ρ σ s H Q E h => ?_⟩
  refine ha.de W hW ρ σ s H _ E (h.bnd.imp fun x s1 H1 a1 e1 q v hv => ?_)
  have E1 := E.step a1 e1
  refine hl.d W hW ρ σ s1 H1 _ E1 (q.bnd.imp fun l s2 H2 a2 e2 q2 => ?_)
  have E2 := E1.step a2 e2
  refine hh.d W hW ρ σ s2 H2 _ E2 (q2.bnd.imp fun u s3 H3 a3 e3 q3 => ?_)
  have E3 := E2.step a3 e3
  split at q3
  · rename_i ds
    have hv := Rp.up (show Rp _ v (.list ds) from hv) ((Frz.stp e2).trans (Frz.stp e3))
    cases hv with
    | lst ha la ra =>
      refine ⟨_, _, rfl, SqL.of (Fz_sub _ _ ha), fun p hp => q3 _ (W.ext _ _ _ a3 (Same.new hp)) (Stp.of (Same.new hp)) p _ ?_ upd_same (Nat.le_trans (cutL_len _ _ _) la) (fz_new' hp (rp_cut ra l u))⟩
      exact E.newBack a3 ((e1.trans e2).trans e3) hp
  · exact q3.elim
/-- a list of one's own, sliced -/
def lSlM (i : Nat) (fl fh : Env → S → Res S (Option Int)) : FL S := fun ρ s => match ρ[i]? with
  | some (.m ds) => (fl ρ s).bnd fun l s => (fh ρ s).bnd fun h s => .ok (cutL ds l h) s
  | _ => .bad
theorem dxf_slM {i : Nat} {x : Str} {lo hi : Option Expr} {tl th : TO} {fl fh : Env → S → Res S (Option Int)} {p2 p3 : Pos} (ha : PE X (.Name x p3) (tVar i)) (hl : DXO X 𝒲 Wx lo tl fl) (hh : DXO X 𝒲 Wx hi th fh) : DXF X 𝒲 Wx (.Subscript (.Name x p3) (.Slice lo hi none p2) pos) (tSl (rSlL X.K) (tVar i) tl th) (lSlM i fl fh) := by
  refine ⟨pe_slice sl_list ha hl.po hh.po, fun W hW ρ σ s H Q E h => ?_⟩
  unfold lSlM at h
  split at h
  · rename_i ds hi
    obtain ⟨a, vs, g1, g2, g3, g4, g5, g6⟩ := E.mutl i ds hi
    refine ⟨_, g1, ?_⟩
    refine hl.d W hW ρ σ s H _ E (h.bnd.imp fun l s2 H2 a2 e2 q2 => ?_)
    have E2 := E.step a2 e2
    refine hh.d W hW ρ σ s2 H2 _ E2 (q2.bnd.imp fun u s3 H3 a3 e3 q3 => ?_)
    have e4 := e2.trans e3
    refine ⟨a, vs, rfl, SqL.of (e4 _ _ g5 g2), fun p hp => q3 _ (W.ext _ _ _ a3 (Same.new hp)) (Stp.of (Same.new hp)) p _ (E.newBack a3 e4 hp) upd_same (Nat.le_trans (cutL_len vs _ _) g3) (fz_new' hp (rp_cut (g4.up (Frz.stp e4)) l u))⟩
  · exact h.elim
/-- a + b, lists, as a new list -/
def lAdd (fa fb : FE S) : FL S := fun ρ s => (fa ρ s).bnd fun x s => (fb ρ s).bnd fun y s => match x, y with
  | .d (.list xs), .d (.list ys) => if xs.length + ys.length ≤ lim then .ok (xs ++ ys) s else .bad
  | _, _ => .bad
theorem dxf_add (ha : DX X 𝒲 Wx a ta fa) (hb : DX X 𝒲 Wx b tb fb) : DXF X 𝒲 Wx (.BinOp a .Add b pos) (tOp rCat ta tb) (lAdd fa fb) := by
  refine ⟨pe_op op_cat ha.pe hb.pe, fun W hW ρ σ s H Q E h => ?_⟩
  refine ha.de W hW ρ σ s H _ E (h.bnd.imp fun x s1 H1 a1 e1 q v hv => ?_)
  have E1 := E.step a1 e1
  refine hb.de W hW ρ σ s1 H1 _ E1 (q.bnd.imp fun y s2 H2 a2 e2 q2 u hu => ?_)
  split at q2
  · rename_i xs ys
    have hv := Rp.up (show Rp _ v (.list xs) from hv) (Frz.stp e2)
    have hu : Rp _ u (.list ys) := hu
    split at q2
    · rename_i hl
      cases hv with
      | lst h1 l1 r1 =>
        cases hu with
        | lst h2 l2 r2 =>
          have n1 := r1.len
          have n2 := r2.len
          exact ⟨_, _, _, _, rfl, rfl, Fz_sub _ _ h1, Fz_sub _ _ h2, lim_line (by omega), fun p hp => q2 _ (W.ext _ _ _ a2 (Same.new hp)) (Stp.of (Same.new hp)) p _ (E.newBack a2 (e1.trans e2) hp) upd_same (by rw [List.length_append]; omega) (fz_new' hp (r1.append r2))⟩
    · exact q2.elim
  · exact q2.elim
/-- xs[::-1] -/
def eRev (fa : FE S) : FE S := fun ρ s => (fa ρ s).bnd fun x s => match x with
  | .d (.list ds) => .ok (.d (.list ds.reverse)) s
  | _ => .bad
theorem dx_rev {k : Nat} {p1 p2 p3 : Pos} (ha : DX X 𝒲 Wx a ta fa) : DX X 𝒲 Wx (.Subscript a (.Slice none none (some (.UnaryOp .USub (.Constant (.int 1) k p1) p2)) p3) pos) (tRevL X.K ta) (eRev fa) := by
  refine ⟨pe_revL ha.pe, fun W hW ρ σ s H Q E h => ?_⟩
  refine ha.de W hW ρ σ s H _ E (h.bnd.imp fun x s1 H1 a1 e1 q v hv => ?_)
  split at q
  · rename_i ds
    have hv : Rp _ v (.list ds) := hv
    have E1 := E.step a1 e1
    cases hv with
    | lst h1 l1 r1 => exact ⟨_, _, rfl, SqL.of (Fz_sub _ _ h1), fun p hp => q _ (W.ext _ _ _ a1 (Same.new hp)) (Stp.of (Same.new hp)) _ (rp_lst E1.inH hp (by rw [List.length_reverse]; exact l1) r1.reverse)⟩
  · exact q.elim

/-! ### a list of one's own, read for its items or for a scalar -/
/-- xs[i], xs one's own -/
def eIxM (i : Nat) (fb : FE S) : FE S := fun ρ s => match ρ[i]? with
  | some (.m ds) => (fb ρ s).bnd fun y s => match y with
    | .d (.int j) => lift (atI ds j) s
    | _ => .bad
  | _ => .bad
theorem dx_ixM {i : Nat} {x : Str} {p3 : Pos} (ha : PE X (.Name x p3) (tVar i)) (hb : DX X 𝒲 Wx b tb fb) (hs : PlainIx b := by exact fun _ _ => rfl) : DX X 𝒲 Wx (.Subscript (.Name x p3) b pos) (tOp (rIxL X.K) (tVar i) tb) (eIxM i fb) := by
  refine ⟨pe_ix ix_list ha hb.pe hs, fun W hW ρ σ s H Q E h => ?_⟩
  unfold eIxM at h
  split at h
  · rename_i ds hi
    obtain ⟨a, vs, g1, g2, g3, g4, g5, g6⟩ := E.mutl i ds hi
    refine ⟨_, g1, ?_⟩
    refine hb.de W hW ρ σ s H _ E (h.bnd.imp fun y s2 H2 a2 e2 q2 u hu => ?_)
    split at q2
    · rename_i j
      cases (show Rp _ u (.int j) from hu)
      cases hz : atI ds j with
      | none => rw [hz] at q2; exact q2.elim
      | some z =>
        rw [hz] at q2
        obtain ⟨w, h1, h2⟩ := atI_rp (g4.up (Frz.stp e2)) hz
        exact ⟨a, vs, j, w, rfl, rfl, SqL.of (e2 _ _ g5 g2), h1, q2.ok a2 w h2⟩
    · exact q2.elim
  · exact h.elim
/-- the own list at i as data, the other own ones hidden still -/
theorem EnvOk.asData {W : Wd S} {ρ : Env} {σ : L2.St} {s : S} {H : Hp} (E : EnvOk W ρ σ s H) {i : Nat} {ds : List D} (hi : ρ[i]? = some (.m ds)) : ∃ (a : Addr) (P : Addr → Prop), σ[i]? = some (some (.ref a)) ∧ (∀ H', InH (fun a => W.hid a ∨ Own ρ σ a) H' → InH P H') ∧ (∀ H', Same (Frz W ρ σ H') (Fz P H')) ∧ ∀ H', Stp W H H' → Rp (Fz P H') (.ref a) (.list ds) := by
  obtain ⟨a, vs, g1, g2, g3, g4, g5, g6⟩ := E.mutl i ds hi
  refine ⟨a, fun b => (W.hid b ∨ Own ρ σ b) ∧ b ≠ a, g1, fun H' h b q => h b q.1, fun H' => Fz_mono (fun _ _ q => q.1) (fun _ _ _ q => q), fun H' e => ?_⟩
  exact .lst (Fz_at (fun q => q.2 rfl) (e _ _ g5 g2)) g3 (g4.up ((Frz.stp e).trans (Fz_mono (fun _ _ q => q.1) (fun _ _ _ q => q))))
/-- x op xs, xs one's own, the answer a scalar -/
def eOpMR (op : D → D → Option D) (fa : FE S) (i : Nat) : FE S := fun ρ s => match ρ[i]? with
  | some (.m ds) => (fa ρ s).bnd fun x s => match x with
    | .d x => (match op x (.list ds) with
      | some z => if scalarD z = true then .ok (.d z) s else .bad
      | none => .bad)
    | _ => .bad
  | _ => .bad
theorem de_opMR {i : Nat} {r : R2} {op : D → D → Option D} (ho : S2 r op) (ha : DE 𝒲 Wx ta fa) : DE 𝒲 Wx (tOp r ta (tVar i)) (eOpMR op fa i) := by
  intro W hW ρ σ s H Q E h
  unfold eOpMR at h
  split at h
  · rename_i ds hi
    obtain ⟨a, P, g1, g2, g3, g4⟩ := E.asData hi
    refine ha W hW ρ σ s H _ E (h.bnd.imp fun x s1 H1 a1 e1 q v hv => ?_)
    cases x with
    | v x => exact q.elim
    | d x =>
      dsimp only at q
      split at q
      · rename_i z hz
        split at q
        · rename_i hsc
          exact ⟨_, g1, ho P H1 v _ x _ z Q (g2 _ (E.step a1 e1).inH) (Rp.up (show Rp _ v x from hv) (g3 _)) (g4 _ e1) hz fun w H3 e3 hw => q H3 (W.ext _ _ _ a1 e3) (Stp.of e3) w (Rp.scalar hw hsc)⟩
        · exact q.elim
      · exact q.elim
  · exact h.elim
theorem dx_cmpMR {op : CmpOp} {r : R2} {f : D → D → Option D} {i : Nat} {x : Str} {p3 : Pos} (c : Cm X op r f) (ha : DX X 𝒲 Wx a ta fa) (hb : PE X (.Name x p3) (tVar i)) (hm : behindInMarks op (.Name x p3) = false := by first | exact nomark _ (by decide) (by decide) | rfl | with_unfolding_all rfl) :
    DX X 𝒲 Wx (.Compare a [op] [.Name x p3] pos) (tOp r ta (tVar i)) (eOpMR f fa i) := ⟨pe_cmpR c.op ha.pe hb hm, de_opMR c.s2 ha.de⟩
theorem dxt_cmpMR {op : CmpOp} {r : R2} {f : D → D → Option D} {i : Nat} {x : Str} {p3 : Pos} (c : Cm X op r f) (ha : DX X 𝒲 Wx a ta fa) (hb : PE X (.Name x p3) (tVar i)) (hm : behindInMarks op (.Name x p3) = false := by first | exact nomark _ (by decide) (by decide) | rfl | with_unfolding_all rfl) :
    DXT X 𝒲 Wx (.Compare a [op] [.Name x p3] pos) (tTest (tOp r ta (tVar i))) (fun ρ s => tstOf (eOpMR f fa i ρ s)) := ⟨pt_cmpR c.op ha.pe hb hm, fun W hW ρ σ s H Q E h => dt_of hW (de_opMR c.s2 ha.de) E h⟩
/-- f(xs), xs one's own, the answer a scalar -/
def eCallM (op : List D → Option D) (i : Nat) : FE S := fun ρ s => match ρ[i]? with
  | some (.m ds) => (match op [.list ds] with
    | some z => if scalarD z = true then .ok (.d z) s else .bad
    | none => .bad)
  | _ => .bad
theorem dx_callM {x y : Str} {r : List V → Hp → VK → Prop} {op : List D → Option D} {id : String} {p p3 : Pos} {i : Nat} (hc : CallR X (.builtin id) r) (ho : SA r op) (hg : Gl X x) (hm : X.mg x = none) (hv : bootBuiltins x = some (.builtin id)) (h : PE X (.Name y p3) (tVar i))
    (hn : x ≠ "__name__" := by decide) (hdb : (x == ("__debug__" : Str)) = false := by decide) (he : starEach [.Name y p3] X.env = (false, eval (.Name y p3) X.env) :: starEach [] X.env := by rfl) (hpl : (backTo pos (starEach [] X.env)).any (·.1) = false := by rfl) :
    DX X 𝒲 Wx (.Call (.Name x p) [.Name y p3] [] pos) (tCB r (tCons (tVar i) tNil)) (eCallM op i) := by
  refine ⟨pe_callB hc hg hm hv (pa_cons h pa_nil) hn hdb he hpl, fun W hW ρ σ s H Q E hp => ?_⟩
  unfold eCallM at hp
  split at hp
  · rename_i ds hi
    obtain ⟨a, P, g1, g2, g3, g4⟩ := E.asData hi
    split at hp
    · rename_i z hz
      split at hp
      · rename_i hsc
        exact ⟨_, g1, ho P H _ _ z Q (g2 _ E.inH) (.cons (g4 _ Stp.refl) .nil) hz fun w H3 e3 hw => hp H3 (W.ext _ _ _ E.at_ e3) (Stp.of e3) w (Rp.scalar hw hsc)⟩
      · exact hp.elim
    · exact hp.elim
  · exact hp.elim
end
end DL

namespace DL
open PySem L2

inductive Out (S : Type) where
  | nx (ρ : Env) (s : S)
  | rt (d : Dv) (s : S)
  | bk (ρ : Env) (s : S)
  | ct (ρ : Env) (s : S)
  | er (c : Nat) (ρ : Env) (s : S)
  | bad
def Out.seq {S : Type} (o : Out S) (k : Env → S → Out S) : Out S := match o with
  | .nx ρ s => k ρ s
  | .rt d s => .rt d s
  | .bk ρ s => .bk ρ s
  | .ct ρ s => .ct ρ s
  | .er c ρ s => .er c ρ s
  | .bad => .bad
def Res.out {S α : Type} (r : Res S α) (ρ : Env) (k : α → S → Out S) : Out S := match r with
  | .ok a s => k a s
  | .er c s => .er c ρ s
  | .bad => .bad
def Sl.of : Dv → Sl
  | .d x => .d x
  | .v x => .v x

section
variable {S : Type}
/-- the data only grow -/
def Grow (W : Wd S) (ρ : Env) (σ : L2.St) (H : Hp) (ρ' : Env) (σ' : L2.St) (H' : Hp) : Prop := Same (Frz W ρ σ H) (Frz W ρ' σ' H')
def PostS (W : Wd S) (Wx : Wsh) (ρ : Env) (σ : L2.St) (H : Hp) (o : Out S) (D : Ends) : Prop := match o with
  | .nx ρ' s' => ∀ σ' H', EnvOk W ρ' σ' s' H' → Grow W ρ σ H ρ' σ' H' → D.nx σ' H'
  | .rt d s' => ∀ v H', W.at_ s' H' → Is (Fz W.hid H') v d → D.rt v H'
  | .bk ρ' s' => ∀ σ' H', EnvOk W ρ' σ' s' H' → Grow W ρ σ H ρ' σ' H' → D.bk σ' H'
  | .ct ρ' s' => ∀ σ' H', EnvOk W ρ' σ' s' H' → Grow W ρ σ H ρ' σ' H' → D.ct σ' H'
  | .er c ρ' s' => ∀ σ' H', EnvOk W ρ' σ' s' H' → Grow W ρ σ H ρ' σ' H' → Wx c σ' H'
  | .bad => False
abbrev FS (S : Type) := Env → S → Out S
def DS (𝒲 : Fam S) (Wx : Wsh) (t : TS) (F : FS S) : Prop := ∀ W, 𝒲.ok W → ∀ ρ σ s H (D : Ends), EnvOk W ρ σ s H → PostS W Wx ρ σ H (F ρ s) D → t D σ H
structure DXS (X : Cx) (𝒲 : Fam S) (Wx : Wsh) (st : Stmt) (t : TS) (F : FS S) : Prop where
  ps : PS X st t
  ds : DS 𝒲 Wx t F
structure DXSs (X : Cx) (𝒲 : Fam S) (Wx : Wsh) (st : List Stmt) (t : TS) (F : FS S) : Prop where
  ps : PSs X st t
  ds : DS 𝒲 Wx t F
section
variable {W : Wd S} {Wx : Wsh} {ρ ρ1 : Env} {σ σ1 : L2.St} {H H1 : Hp} {Dn : Ends}
theorem Grow.refl : Grow W ρ σ H ρ σ H := Same.refl _
theorem Grow.stp (e : Stp W H H1) : Grow W ρ σ H ρ σ H1 := Frz.stp e
theorem PostS.later {o : Out S} (h : PostS W Wx ρ σ H o Dn) (g : Grow W ρ σ H ρ1 σ1 H1) : PostS W Wx ρ1 σ1 H1 o Dn := by
  cases o with
  | nx a s => exact fun σ' H' e q => h σ' H' e (Same.trans g q)
  | rt d s => exact h
  | bk a s => exact fun σ' H' e q => h σ' H' e (Same.trans g q)
  | ct a s => exact fun σ' H' e q => h σ' H' e (Same.trans g q)
  | er c a s => exact fun σ' H' e q => h σ' H' e (Same.trans g q)
  | bad => exact h
/-- an expression ahead of the rest -/
theorem PostS.out {α : Type} {s : S} {r : Res S α} {k : α → S → Out S} (E : EnvOk W ρ σ s H) (h : PostS W Wx ρ σ H (r.out ρ k) Dn) : Post W Wx σ H r (fun a s' _ => PostS W Wx ρ σ H (k a s') Dn) := by
  cases r with
  | ok a s' => exact fun _ _ _ => h
  | er c s' => exact fun H' a e => h σ H' (E.step a e) (Grow.stp e)
  | bad => exact h
theorem PostS.seq {o : Out S} {k : FS S} (D' : Ends) (hr : D'.rt = Dn.rt) (hb : D'.bk = Dn.bk) (hc : D'.ct = Dn.ct) (hn : ∀ ρ' s' σ' H', EnvOk W ρ' σ' s' H' → PostS W Wx ρ' σ' H' (k ρ' s') Dn → D'.nx σ' H') (h : PostS W Wx ρ σ H (o.seq k) Dn) : PostS W Wx ρ σ H o D' := by
  cases o with
  | nx a s => exact fun σ' H' e q => hn a s σ' H' e (PostS.later (show PostS W Wx ρ σ H (k a s) Dn from h) q)
  | rt d s => intro v H' a b; rw [hr]; exact h v H' a b
  | bk a s => intro v H' a b; rw [hb]; exact h v H' a b
  | ct a s => intro v H' a b; rw [hc]; exact h v H' a b
  | er c a s => exact h
  | bad => exact h

/-! ### a slot is set -/
theorem own_set {i : Nat} {x : Sl} {v : Option V} {a : Addr} (h : Own (ρ.set i x) (σ.set i v) a) : Own ρ σ a ∨ ∃ xs, x = .m xs ∧ v = some (.ref a) := by
  obtain ⟨j, xs, h1, h2⟩ := h
  by_cases e : i = j
  · subst e
    by_cases hl : i < ρ.length
    · rw [List.getElem?_set_self hl] at h1
      cases h1
      by_cases hs : i < σ.length
      · rw [List.getElem?_set_self hs] at h2
        cases h2
        exact .inr ⟨xs, rfl, rfl⟩
      · rw [List.getElem?_eq_none (by rw [List.length_set]; omega)] at h2; cases h2
    · rw [List.getElem?_eq_none (by rw [List.length_set]; omega)] at h1; cases h1
  · rw [List.getElem?_set_ne e] at h1 h2
    exact .inl ⟨j, xs, h1, h2⟩
theorem frz_setD {i : Nat} {x : Sl} {v : Option V} (hx : ∀ xs, x ≠ .m xs) : Same (Frz W ρ σ H) (Frz W (ρ.set i x) (σ.set i v) H) := Fz_mono (fun a _ h => by
  rcases h with h | h
  · exact .inl h
  · rcases own_set h with h | ⟨xs, e, _⟩
    · exact .inr h
    · exact absurd e (hx xs)) fun _ _ _ h => h
theorem EnvOk.setAny {s : S} (E : EnvOk W ρ σ s H) (i : Nat) {x : Sl} {v : Option V} (hx : ∀ xs, x ≠ .m xs) (hd : ∀ z, x = .d z → ∃ u, v = some u ∧ Rp (Frz W ρ σ H) u z) (hv : ∀ z, x = .v z → v = some z) : EnvOk W (ρ.set i x) (σ.set i v) s H where
  len := by rw [List.length_set, List.length_set]; exact E.len
  at_ := E.at_
  dat := fun j z h => by
    by_cases e : i = j
    · subst e
      by_cases hl : i < ρ.length
      · rw [List.getElem?_set_self hl] at h
        cases h
        obtain ⟨u, e1, r⟩ := hd z rfl
        exact ⟨u, by rw [List.getElem?_set_self (by rw [← E.len]; exact hl), e1], r.up (frz_setD hx)⟩
      · rw [List.getElem?_eq_none (by rw [List.length_set]; omega)] at h; cases h
    · rw [List.getElem?_set_ne e] at h
      obtain ⟨u, e1, r⟩ := E.dat j z h
      exact ⟨u, by rw [List.getElem?_set_ne e]; exact e1, r.up (frz_setD hx)⟩
  raw := fun j z h => by
    by_cases e : i = j
    · subst e
      by_cases hl : i < ρ.length
      · rw [List.getElem?_set_self hl] at h
        cases h
        rw [List.getElem?_set_self (by rw [← E.len]; exact hl), hv z rfl]
      · rw [List.getElem?_eq_none (by rw [List.length_set]; omega)] at h; cases h
    · rw [List.getElem?_set_ne e] at h ⊢
      exact E.raw j z h
  mutl := fun j xs h => by
    by_cases e : i = j
    · subst e
      by_cases hl : i < ρ.length
      · rw [List.getElem?_set_self hl] at h
        cases h
        exact absurd rfl (hx xs)
      · rw [List.getElem?_eq_none (by rw [List.length_set]; omega)] at h; cases h
    · rw [List.getElem?_set_ne e] at h
      obtain ⟨a, vs, e1, e2, e3, e4, e5, e6⟩ := E.mutl j xs h
      exact ⟨a, vs, by rw [List.getElem?_set_ne e]; exact e1, e2, e3, e4.up (frz_setD hx), e5, e6⟩
  sep := fun j k xs ys a h1 h2 h3 h4 => by
    have nj : i ≠ j := fun e => by
      subst e
      by_cases hl : i < ρ.length
      · rw [List.getElem?_set_self hl] at h1; cases h1; exact hx xs rfl
      · rw [List.getElem?_eq_none (by rw [List.length_set]; omega)] at h1; cases h1
    have nk : i ≠ k := fun e => by
      subst e
      by_cases hl : i < ρ.length
      · rw [List.getElem?_set_self hl] at h2; cases h2; exact hx ys rfl
      · rw [List.getElem?_eq_none (by rw [List.length_set]; omega)] at h2; cases h2
    rw [List.getElem?_set_ne nj] at h1 h3
    rw [List.getElem?_set_ne nk] at h2 h4
    exact E.sep j k xs ys a h1 h2 h3 h4
theorem of_ne (d : Dv) : ∀ xs, Sl.of d ≠ .m xs := fun xs e => by cases d <;> cases e
theorem EnvOk.setD {s : S} (E : EnvOk W ρ σ s H) (i : Nat) {d : Dv} {v : V} (h : Is (Frz W ρ σ H) v d) : EnvOk W (ρ.set i (Sl.of d)) (σ.set i (some v)) s H := by
  refine E.setAny i (of_ne d) (fun z e => ?_) (fun z e => ?_)
  · cases d with
    | d x => cases e; exact ⟨v, rfl, h⟩
    | v x => cases e
  · cases d with
    | d x => cases e
    | v x => cases e; exact congrArg some (show v = _ from h)
theorem Grow.setD {i : Nat} {d : Dv} {v : Option V} : Grow W ρ σ H (ρ.set i (Sl.of d)) (σ.set i v) H := frz_setD (of_ne d)
theorem EnvOk.setG {s : S} (E : EnvOk W ρ σ s H) (i : Nat) {d : Dv} {v : V} (h : Is (Frz W ρ σ H) v d) : EnvOk W (ρ.set i (Sl.of d)) (σ.set i (some v)) s H ∧ Grow W ρ σ H (ρ.set i (Sl.of d)) (σ.set i (some v)) H := ⟨E.setD i h, Grow.setD⟩
/-- a new list becomes one's own -/
theorem EnvOk.setM {s s' : S} {H' : Hp} (E : EnvOk W ρ σ s H) (a : W.at_ s' H') (e : Stp W H H') (i : Nat) {p : Addr} {vs : List V} {ds : List D} (h0 : H p = none) (h1 : H' p = some (.lst vs)) (hl : vs.length ≤ lim) (r : RpAll (Fz (fun a => W.hid a ∨ Own ρ σ a ∨ a = p) H') vs ds) :
    EnvOk W (ρ.set i (.m ds)) (σ.set i (some (.ref p))) s' H' ∧ Grow W ρ σ H (ρ.set i (.m ds)) (σ.set i (some (.ref p))) H' := by
  have n := E.new h0
  have g : Same (Frz W ρ σ H) (Frz W (ρ.set i (.m ds)) (σ.set i (some (.ref p))) H') := Fz_mono (fun b hb h => by
    rcases h with h | h
    · exact .inl h
    · rcases own_set h with h | ⟨xs, _, e2⟩
      · exact .inr h
      · have e3 : p = b := by simpa using e2
        rw [← e3] at hb
        exact absurd h0 hb) fun b o hn hq => e b o (fun z => hn (.inl z)) hq
  have g2 : Same (Fz (fun a => W.hid a ∨ Own ρ σ a ∨ a = p) H') (Frz W (ρ.set i (.m ds)) (σ.set i (some (.ref p))) H') := Fz_mono (fun b _ h => by
    rcases h with h | h
    · exact .inl h
    · rcases own_set h with h | ⟨xs, _, e2⟩
      · exact .inr (.inl h)
      · have e3 : p = b := by simpa using e2
        exact .inr (.inr e3.symm)) fun _ _ _ h => h
  have nown : ∀ (j : Nat) (xs : List D), ρ[j]? = some (Sl.m xs) → σ[j]? ≠ some (some (V.ref p)) := fun j xs h1 h2 => n.2.2 ⟨j, xs, h1, h2⟩
  refine ⟨⟨?_, a, fun j z h => ?_, fun j z h => ?_, fun j xs h => ?_, fun j k xs ys b q1 q2 q3 q4 => ?_⟩, g⟩
  · rw [List.length_set, List.length_set]; exact E.len
  · by_cases q : i = j
    · subst q
      by_cases hl : i < ρ.length
      · rw [List.getElem?_set_self hl] at h; cases h
      · rw [List.getElem?_eq_none (by rw [List.length_set]; omega)] at h; cases h
    · rw [List.getElem?_set_ne q] at h
      obtain ⟨u, e1, r⟩ := E.dat j z h
      exact ⟨u, by rw [List.getElem?_set_ne q]; exact e1, r.up g⟩
  · by_cases q : i = j
    · subst q
      by_cases hl : i < ρ.length
      · rw [List.getElem?_set_self hl] at h; cases h
      · rw [List.getElem?_eq_none (by rw [List.length_set]; omega)] at h; cases h
    · rw [List.getElem?_set_ne q] at h ⊢
      exact E.raw j z h
  · by_cases q : i = j
    · subst q
      by_cases hl' : i < ρ.length
      · rw [List.getElem?_set_self hl'] at h
        cases h
        exact ⟨p, vs, by rw [List.getElem?_set_self (by rw [← E.len]; exact hl')], h1, hl, r.up g2, n.1, n.2.1⟩
      · rw [List.getElem?_eq_none (by rw [List.length_set]; omega)] at h; cases h
    · rw [List.getElem?_set_ne q] at h
      obtain ⟨b, ws, e1, e2, e3, e4, e5, e6⟩ := E.mutl j xs h
      exact ⟨b, ws, by rw [List.getElem?_set_ne q]; exact e1, e b _ e5 e2, e3, e4.up g, e5, e6⟩
  · by_cases j1 : i = j
    · by_cases k1 : i = k
      · rw [← j1, ← k1]
      · subst j1
        by_cases hl' : i < ρ.length
        · rw [List.getElem?_set_self (by rw [← E.len]; exact hl')] at q3
          cases q3
          rw [List.getElem?_set_ne k1] at q2 q4
          exact absurd q4 (nown k ys q2)
        · rw [List.getElem?_eq_none (by rw [List.length_set]; omega)] at q1; cases q1
    · by_cases k1 : i = k
      · subst k1
        by_cases hl' : i < ρ.length
        · rw [List.getElem?_set_self (by rw [← E.len]; exact hl')] at q4
          cases q4
          rw [List.getElem?_set_ne j1] at q1 q3
          exact absurd q3 (nown j xs q1)
        · rw [List.getElem?_eq_none (by rw [List.length_set]; omega)] at q2; cases q2
      · rw [List.getElem?_set_ne j1] at q1 q3
        rw [List.getElem?_set_ne k1] at q2 q4
        exact E.sep j k xs ys b q1 q2 q3 q4
/-- a list of one's own is changed -/
theorem EnvOk.write {s : S} (E : EnvOk W ρ σ s H) {i : Nat} {xs ds : List D} {a : Addr} {vs : List V} (hi : ρ[i]? = some (.m xs)) (ha : σ[i]? = some (some (.ref a))) (hl : vs.length ≤ lim) (r : RpAll (Frz W ρ σ H) vs ds) :
    EnvOk W (ρ.set i (.m ds)) σ s (upd H a (.lst vs)) ∧ Grow W ρ σ H (ρ.set i (.m ds)) σ (upd H a (.lst vs)) := by
  obtain ⟨b, ws, m1, m2, m3, m4, m5, m6⟩ := E.mutl i xs hi
  rw [ha] at m1
  cases m1
  have oa : Own ρ σ a := ⟨i, xs, hi, ha⟩
  have hil : i < ρ.length := (List.getElem?_eq_some_iff.mp hi).1
  have own' : ∀ b, Own (ρ.set i (.m ds)) σ b → Own ρ σ b := fun b ⟨j, zs, h1, h2⟩ => by
    by_cases q : i = j
    · subst q
      exact ⟨i, xs, hi, h2⟩
    · rw [List.getElem?_set_ne q] at h1
      exact ⟨j, zs, h1, h2⟩
  have g : Same (Frz W ρ σ H) (Frz W (ρ.set i (.m ds)) σ (upd H a (.lst vs))) := Fz_mono (fun b _ h => h.imp id (own' b)) fun b o hn hq => by
    rw [upd_ne fun e => hn (.inr (by rw [e]; exact oa))]
    exact hq
  refine ⟨⟨?_, W.mutn _ _ _ _ _ E.at_ m2 (fun _ z => nomatch z) m5 m6, fun j z h => ?_, fun j z h => ?_, fun j zs h => ?_, fun j k zs ys b q1 q2 q3 q4 => ?_⟩, g⟩
  · rw [List.length_set]; exact E.len
  · by_cases q : i = j
    · subst q
      rw [List.getElem?_set_self hil] at h; cases h
    · rw [List.getElem?_set_ne q] at h
      obtain ⟨u, e1, r⟩ := E.dat j z h
      exact ⟨u, e1, r.up g⟩
  · by_cases q : i = j
    · subst q
      rw [List.getElem?_set_self hil] at h; cases h
    · rw [List.getElem?_set_ne q] at h
      exact E.raw j z h
  · by_cases q : i = j
    · subst q
      rw [List.getElem?_set_self hil] at h
      cases h
      exact ⟨a, vs, ha, upd_same, hl, r.up g, m5, m6⟩
    · rw [List.getElem?_set_ne q] at h
      obtain ⟨b, us, e1, e2, e3, e4, e5, e6⟩ := E.mutl j zs h
      have nb : b ≠ a := fun e => q (E.sep i j xs zs a hi h ha (by rw [← e]; exact e1))
      exact ⟨b, us, e1, by rw [upd_ne nb]; exact e2, e3, e4.up g, e5, e6⟩
  · have w : ∀ (j : Nat) (zs : List D), (ρ.set i (Sl.m ds))[j]? = some (Sl.m zs) → ∃ ys : List D, ρ[j]? = some (Sl.m ys) := fun j zs h => by
      by_cases q : i = j
      · subst q; exact ⟨xs, hi⟩
      · rw [List.getElem?_set_ne q] at h; exact ⟨zs, h⟩
    obtain ⟨y1, w1⟩ := w j zs q1
    obtain ⟨y2, w2⟩ := w k ys q2
    exact E.sep j k y1 y2 b w1 w2 q3 q4
/-- a list of one's own becomes data -/
theorem EnvOk.frz {s : S} (E : EnvOk W ρ σ s H) {i : Nat} {xs : List D} (hi : ρ[i]? = some (.m xs)) : EnvOk W (ρ.set i (.d (.list xs))) σ s H ∧ Grow W ρ σ H (ρ.set i (.d (.list xs))) σ H := by
  obtain ⟨a, vs, m1, m2, m3, m4, m5, m6⟩ := E.mutl i xs hi
  have hil : i < ρ.length := (List.getElem?_eq_some_iff.mp hi).1
  have w : ∀ (j : Nat) (zs : List D), (ρ.set i (Sl.d (.list xs)))[j]? = some (Sl.m zs) → i ≠ j ∧ ρ[j]? = some (Sl.m zs) := fun j zs h => by
    by_cases q : i = j
    · subst q; rw [List.getElem?_set_self hil] at h; cases h
    · rw [List.getElem?_set_ne q] at h; exact ⟨q, h⟩
  have own' : ∀ b, Own (ρ.set i (.d (.list xs))) σ b → Own ρ σ b ∧ b ≠ a := fun b ⟨j, zs, h1, h2⟩ => by
    obtain ⟨q, h3⟩ := w j zs h1
    exact ⟨⟨j, zs, h3, h2⟩, fun e => q (E.sep i j xs zs a hi h3 m1 (by rw [← e]; exact h2))⟩
  have g : Same (Frz W ρ σ H) (Frz W (ρ.set i (.d (.list xs))) σ H) := Fz_mono (fun b _ h => h.imp id fun q => (own' b q).1) fun _ _ _ h => h
  refine ⟨⟨?_, E.at_, fun j z h => ?_, fun j z h => ?_, fun j zs h => ?_, fun j k zs ys b q1 q2 q3 q4 => E.sep j k zs ys b (w j zs q1).2 (w k ys q2).2 q3 q4⟩, g⟩
  · rw [List.length_set]; exact E.len
  · by_cases q : i = j
    · subst q
      rw [List.getElem?_set_self hil] at h
      cases h
      refine ⟨.ref a, m1, .lst (Fz_at (fun z => ?_) m2) m3 (m4.up g)⟩
      rcases z with z | z
      · exact m5 z
      · exact (own' a z).2 rfl
    · rw [List.getElem?_set_ne q] at h
      obtain ⟨u, e1, r⟩ := E.dat j z h
      exact ⟨u, e1, r.up g⟩
  · by_cases q : i = j
    · subst q
      rw [List.getElem?_set_self hil] at h; cases h
    · rw [List.getElem?_set_ne q] at h
      exact E.raw j z h
  · obtain ⟨q, h3⟩ := w j zs h
    obtain ⟨b, us, e1, e2, e3, e4, e5, e6⟩ := E.mutl j zs h3
    exact ⟨b, us, e1, e2, e3, e4.up g, e5, e6⟩
end

/-! ### blocks -/
section
variable {X : Cx} {𝒲 : Fam S} {Wx : Wsh} {e a b : Expr} {ta tb tc : TE} {fa fb fc : FE S} {pos : Pos} {st : Stmt} {rest : List Stmt} {t u : TS} {F G : FS S}
def sNil : FS S := fun ρ s => .nx ρ s
def sSeq (F G : FS S) : FS S := fun ρ s => (F ρ s).seq G
theorem dss_nil : DXSs X 𝒲 Wx [] tNext sNil := ⟨pss_nil, fun W hW ρ σ s H D E h => h σ H E Grow.refl⟩
theorem dss_cons (h1 : DXS X 𝒲 Wx st t F) (h2 : DXSs X 𝒲 Wx rest u G) : DXSs X 𝒲 Wx (st :: rest) (tSeq t u) (sSeq F G) :=
  ⟨pss_cons h1.ps h2.ps, fun W hW ρ σ s H D E h => h1.ds W hW ρ σ s H _ E (PostS.seq (Dn := D) { D with nx := u D } rfl rfl rfl (fun ρ' s' σ' H' E' q => h2.ds W hW ρ' σ' s' H' D E' q) h)⟩
theorem dss_one (h1 : DXS X 𝒲 Wx st t F) : DXSs X 𝒲 Wx [st] t F := ⟨pss_one h1.ps, h1.ds⟩
/-- the own lists become data ahead of a statement -/
def frzE : List Nat → Env → Env
  | [], ρ => ρ
  | i :: r, ρ => frzE r (match ρ[i]? with | some (.m xs) => ρ.set i (.d (.list xs)) | _ => ρ)
theorem frzE_ok {W : Wd S} {σ : L2.St} {s : S} {H : Hp} : ∀ (l : List Nat) (ρ : Env), EnvOk W ρ σ s H → EnvOk W (frzE l ρ) σ s H ∧ Grow W ρ σ H (frzE l ρ) σ H
  | [], ρ, E => ⟨E, Grow.refl⟩
  | i :: r, ρ, E => by
    show EnvOk W (frzE r (match ρ[i]? with | some (.m xs) => ρ.set i (.d (.list xs)) | _ => ρ)) σ s H ∧ Grow W ρ σ H (frzE r (match ρ[i]? with | some (.m xs) => ρ.set i (.d (.list xs)) | _ => ρ)) σ H
    split
    · rename_i xs hi
      obtain ⟨E1, g1⟩ := E.frz hi
      obtain ⟨E2, g2⟩ := frzE_ok r _ E1
      exact ⟨E2, Same.trans g1 g2⟩
    · exact frzE_ok r ρ E
theorem dss_frz (l : List Nat) (h : DXSs X 𝒲 Wx rest u G) : DXSs X 𝒲 Wx rest u (fun ρ s => G (frzE l ρ) s) :=
  ⟨h.ps, fun W hW ρ σ s H D E q => by
    obtain ⟨E1, g1⟩ := frzE_ok l ρ E
    exact h.ds W hW _ σ s H D E1 (q.later g1)⟩
theorem ds_doc {x j pos pos'} : DXS X 𝒲 Wx (.Expr (.Constant (.str x) j pos) pos') tNext sNil := ⟨ps_doc, fun W hW ρ σ s H D E h => h σ H E Grow.refl⟩
theorem ds_pass : DXS X 𝒲 Wx (.Pass pos) tNext sNil := ⟨ps_pass, fun W hW ρ σ s H D E h => h σ H E Grow.refl⟩
def sDrop (f : FE S) : FS S := fun ρ s => (f ρ s).out ρ fun _ s => .nx ρ s
theorem ds_expr (ha : DX X 𝒲 Wx a ta fa) (hs : swapsWith a none pos.line X.env = pure false := by rfl) : DXS X 𝒲 Wx (.Expr a pos) (tDrop ta) (sDrop fa) :=
  ⟨ps_expr ha.pe hs, fun W hW ρ σ s H D E h => ha.de W hW ρ σ s H _ E ((PostS.out E h).imp fun x s1 H1 a1 e1 q v hv => q σ H1 (E.step a1 e1) (Grow.stp e1))⟩
def sRet (f : FE S) : FS S := fun ρ s => (f ρ s).out ρ fun d s => .rt d s
theorem fz_hid {W : Wd S} {ρ : Env} {σ : L2.St} {H : Hp} : Same (Frz W ρ σ H) (Fz W.hid H) := Fz_mono (fun _ _ h => .inl h) fun _ _ _ h => h
theorem ds_ret (ha : DX X 𝒲 Wx a ta fa) : DXS X 𝒲 Wx (.Return (some a) pos) (tRet ta) (sRet fa) :=
  ⟨ps_ret ha.pe, fun W hW ρ σ s H D E h => ha.de W hW ρ σ s H _ E ((PostS.out E h).imp fun x s1 H1 a1 e1 q v hv => q v H1 a1 (hv.up fz_hid))⟩
def sRetN : FS S := fun ρ s => .rt (.d .none) s
theorem ds_retN : DXS X 𝒲 Wx (.Return none pos) tRetN sRetN := ⟨ps_retN, fun W hW ρ σ s H D E h => h _ H E.at_ Rp.non⟩
def sIf (f : FT S) (F G : FS S) : FS S := fun ρ s => (f ρ s).out ρ fun k s => if k = true then F ρ s else G ρ s
theorem ds_if {c : Expr} {A B : List Stmt} {tA : TT} {fA : FT S} (hc : DXT X 𝒲 Wx c tA fA) (ha : DXSs X 𝒲 Wx A t F) (hb : DXSs X 𝒲 Wx B u G) : DXS X 𝒲 Wx (.If c A B pos) (tIfS tA t u) (sIf fA F G) := by
  refine ⟨ps_if hc.pt ha.ps hb.ps, fun W hW ρ σ s H D E h => ?_⟩
  refine hc.dt W hW ρ σ s H _ E ((PostS.out E h).imp fun k s1 H1 a1 e1 q => ?_)
  cases k with
  | true =>
    rw [if_pos rfl] at q ⊢
    exact ha.ds W hW ρ σ s1 H1 D (E.step a1 e1) (q.later (Grow.stp e1))
  | false =>
    rw [if_neg Bool.false_ne_true] at q ⊢
    exact hb.ds W hW ρ σ s1 H1 D (E.step a1 e1) (q.later (Grow.stp e1))
/-! ### assignments -/
def sSet (i : Nat) (f : FE S) : FS S := fun ρ s => (f ρ s).out ρ fun d s => .nx (ρ.set i (Sl.of d)) s
theorem set_ok {i : Nat} {te : TE} {f : FE S} (hd : DE 𝒲 Wx te f) : DS 𝒲 Wx (tAsg te (gName i)) (sSet i f) := fun W hW ρ σ s H D E h =>
  hd W hW ρ σ s H _ E ((PostS.out E h).imp fun x s1 H1 a1 e1 q v hv => q _ H1 ((E.step a1 e1).setD i hv) (Same.trans (Grow.stp e1) Grow.setD))
theorem ds_set (i : Nat) {x : Str} {p : Pos} (hN : X.N.Nodup) (ha : DX X 𝒲 Wx a ta fa) (hi : X.N[i]? = some x := by rfl) (hx : Loc X.env.scope x := by first | exact .inl rfl | exact .inr rfl) (hs : swapsWith a (some (.Name x p)) pos.line X.env = pure false := by rfl)
    (hf : X.fn x = true ∨ X.env.scope.names.lookup x = some .local := by first | exact .inl rfl | exact .inr rfl) : DXS X 𝒲 Wx (.Assign [.Name x p] a pos) (tAsg ta (gName i)) (sSet i fa) := ⟨ps_set hN hi hx ha.pe hs hf, set_ok ha.de⟩
/-- a new list, one's own from here on -/
def sSetM (i : Nat) (f : FL S) : FS S := fun ρ s => (f ρ s).out ρ fun ds s => .nx (ρ.set i (.m ds)) s
theorem setM_ok {i : Nat} {te : TE} {f : FL S} (hd : DF 𝒲 Wx te f) : DS 𝒲 Wx (tAsg te (gName i)) (sSetM i f) := fun W hW ρ σ s H D E h =>
  hd W hW ρ σ s H _ E ((PostS.out E h).imp fun ds s1 H1 a1 e1 q p vs h0 h1 hl r =>
    let ⟨E1, g1⟩ := E.setM a1 e1 i h0 h1 hl r
    q _ H1 E1 g1)
theorem ds_setM (i : Nat) {x : Str} {p : Pos} {f : FL S} (hN : X.N.Nodup) (ha : DXF X 𝒲 Wx a ta f) (hi : X.N[i]? = some x := by rfl) (hx : Loc X.env.scope x := by first | exact .inl rfl | exact .inr rfl) (hs : swapsWith a (some (.Name x p)) pos.line X.env = pure false := by rfl)
    (hf : X.fn x = true ∨ X.env.scope.names.lookup x = some .local := by first | exact .inl rfl | exact .inr rfl) : DXS X 𝒲 Wx (.Assign [.Name x p] a pos) (tAsg ta (gName i)) (sSetM i f) := ⟨ps_set hN hi hx ha.pe hs hf, setM_ok ha.df⟩
/-- name op= e, ints -/
def sAug (i : Nat) (op : D → D → Option D) (f : FE S) : FS S := fun ρ s => match ρ[i]? with
  | some (.d x) => (f ρ s).out ρ fun y s => (match y with
    | .d y => (match op x y with
      | some z => .nx (ρ.set i (.d z)) s
      | none => .bad)
    | _ => .bad)
  | _ => .bad
theorem aug_ok {i : Nat} {te : TE} {f : FE S} {op : D → D → Option D} {r : R2} (ho : S2 r op) (hd : DE 𝒲 Wx te f) : DS 𝒲 Wx (tAug i te r) (sAug i op f) := fun W hW ρ σ s H Dn E h => by
  unfold sAug at h
  split at h
  · rename_i x hx
    obtain ⟨v, e1, r1⟩ := E.dat i x hx
    refine ⟨v, e1, hd W hW ρ σ s H _ E ((PostS.out E h).imp fun y s1 H1 a1 q1 q u hu => ?_)⟩
    cases y with
    | v y => exact q.elim
    | d y =>
      dsimp only at q
      split at q
      · rename_i z hz
        refine ho _ H1 v u x y z _ (E.step a1 q1).inH (r1.up (Frz.stp q1)) hu hz fun w H2 e2 hw => ?_
        have E2 := (E.step a1 q1).ext e2
        exact q _ H2 (E2.setD i (d := .d z) hw) (Same.trans (Grow.stp (q1.trans (Stp.of e2))) (Grow.setD (d := .d z)))
      · exact q.elim
  · exact h.elim
theorem ds_aug (i : Nat) {x : Str} {p : Pos} {op : Operator} {r : R2} {f : D → D → Option D} (hN : X.N.Nodup) (hp : OpR X (inplaceOp op) r) (ho : S2 r f) (ha : DX X 𝒲 Wx a ta fa) (hi : X.N[i]? = some x := by rfl) (hx : Loc X.env.scope x := by first | exact .inl rfl | exact .inr rfl)
    (hf : X.fn x = true ∨ X.env.scope.names.lookup x = some .local := by first | exact .inl rfl | exact .inr rfl) : DXS X 𝒲 Wx (.AugAssign (.Name x p) op a pos) (tAug i ta r) (sAug i f fa) := ⟨ps_aug hN hi hx ha.pe hp hf, aug_ok ho ha.de⟩
def iaddD : D → D → Option D := onI (fun _ _ => true) fun i j => .int (i + j)
theorem s2_iadd : S2 (rI0 fun i j => .int (i + j)) iaddD := s2_I0
/-- xs += ys, xs one's own -/
def sAugM (i : Nat) (f : FE S) : FS S := fun ρ s => match ρ[i]? with
  | some (.m xs) => (f ρ s).out ρ fun y s => (match y with
    | .d (.list ys) => if xs.length + ys.length ≤ lim then .nx (ρ.set i (.m (xs ++ ys))) s else .bad
    | _ => .bad)
  | _ => .bad
theorem ds_augM (i : Nat) {x : Str} {p : Pos} (hN : X.N.Nodup) (ha : DX X 𝒲 Wx a ta fa) (hi : X.N[i]? = some x := by rfl) (hx : Loc X.env.scope x := by first | exact .inl rfl | exact .inr rfl)
    (hf : X.fn x = true ∨ X.env.scope.names.lookup x = some .local := by first | exact .inl rfl | exact .inr rfl) : DXS X 𝒲 Wx (.AugAssign (.Name x p) .Add a pos) (tAug i ta rExt2) (sAugM i fa) := by
  refine ⟨ps_aug hN hi hx ha.pe iop_ext hf, fun W hW ρ σ s H Dn E h => ?_⟩
  unfold sAugM at h
  split at h
  · rename_i xs hm
    obtain ⟨l, vs, m1, m2, m3, m4, m5, m6⟩ := E.mutl i xs hm
    refine ⟨_, m1, ha.de W hW ρ σ s H _ E ((PostS.out E h).imp fun y s1 H1 a1 q1 q u hu => ?_)⟩
    split at q
    · rename_i ys
      split at q
      · rename_i hl
        have hu : Rp _ u (.list ys) := hu
        have E1 := E.step a1 q1
        cases hu with
        | lst h1 l1 r1 =>
          have r4 := m4.up (Frz.stp q1)
          have n1 := r4.len
          have n2 := r1.len
          refine ⟨l, _, vs, _, rfl, rfl, q1 _ _ m5 m2, Fz_sub _ _ h1, lim_line (by omega), ?_⟩
          obtain ⟨E2, g2⟩ := E1.write (ds := xs ++ ys) hm m1 (by rw [List.length_append]; omega) (r4.append r1)
          have e3 : σ.set i (some (V.ref l)) = σ := by
            apply List.ext_getElem?
            intro j
            by_cases e : i = j
            · subst e
              rw [List.getElem?_set_self (List.getElem?_eq_some_iff.mp m1).1, m1]
            · rw [List.getElem?_set_ne e]
          rw [e3]
          exact q _ _ E2 (Same.trans (Grow.stp q1) g2)
      · exact q.elim
    · exact q.elim
  · exact h.elim
/-- xs.append(e), xs one's own -/
def sApp (i : Nat) (f : FE S) : FS S := fun ρ s => match ρ[i]? with
  | some (.m xs) => (f ρ s).out ρ fun y s => (match y with
    | .d y => if xs.length < lim then .nx (ρ.set i (.m (xs ++ [y]))) s else .bad
    | _ => .bad)
  | _ => .bad
theorem app_ds {i : Nat} {K : PySem.W.Frag} {te : TE} {f : FE S} (hd : DE 𝒲 Wx te f) : DS 𝒲 Wx (tDrop (tBM K "list" rAppend (tVar i) (tCons te tNil))) (sApp i f) := fun W hW ρ σ s H Dn E h => by
  unfold sApp at h
  split at h
  · rename_i xs hm
    obtain ⟨l, vs, m1, m2, m3, m4, m5, m6⟩ := E.mutl i xs hm
    refine ⟨_, m1, Or.inl ⟨rfl, _, SqL.of m2⟩, hd W hW ρ σ s H _ E ((PostS.out E h).imp fun y s1 H1 a1 q1 q u hu => ?_)⟩
    cases y with
    | v y => exact q.elim
    | d y =>
      dsimp only at q
      split at q
      · rename_i hl
        have E1 := E.step a1 q1
        have r4 := m4.up (Frz.stp q1)
        have n1 := r4.len
        refine ⟨l, vs, u, rfl, rfl, q1 _ _ m5 m2, Nat.lt_of_lt_of_le (by rw [n1]; exact hl) (by rw [sizeLine_eq]; decide), ?_⟩
        obtain ⟨E2, g2⟩ := E1.write (ds := xs ++ [y]) hm m1 (by rw [List.length_append, List.length_singleton]; omega) (r4.append (.cons hu .nil))
        exact q _ _ E2 (Same.trans (Grow.stp q1) g2)
      · exact q.elim
  · exact h.elim
theorem ds_app (i : Nat) {o : Expr} {p : Pos} {e0 : Expr} (h : PS X (.Expr e0 pos) (tDrop (tBM X.K "list" rAppend (tVar i) (tCons ta tNil)))) (ha : DX X 𝒲 Wx a ta fa) : DXS X 𝒲 Wx (.Expr e0 pos) (tDrop (tBM X.K "list" rAppend (tVar i) (tCons ta tNil))) (sApp i fa) := ⟨h, app_ds ha.de⟩

/-! ### targets -/
def GOk (g : TG) (p : D → Env → Option Env) (ts : List Nat) : Prop := ∀ {S : Type} (W : Wd S) (ρ : Env) (σ : L2.St) (s : S) (H : Hp) (x : V) (d : D) (ρ' : Env) (Q : L2.St → Hp → Prop), EnvOk W ρ σ s H → Rp (Frz W ρ σ H) x d → p d ρ = some ρ' →
  (∀ σ', EnvOk W ρ' σ' s H → Grow W ρ σ H ρ' σ' H → (∀ j, j ∉ ts → σ'[j]? = σ[j]?) → σ'.length = σ.length → Q σ' H) → g x σ H Q
def GsOk (g : TGs) (p : List D → Env → Option Env) (ts : List Nat) : Prop := ∀ {S : Type} (W : Wd S) (ρ : Env) (σ : L2.St) (s : S) (H : Hp) (x : List V) (d : List D) (ρ' : Env) (Q : L2.St → Hp → Prop), EnvOk W ρ σ s H → RpAll (Frz W ρ σ H) x d → p d ρ = some ρ' →
  (∀ σ', EnvOk W ρ' σ' s H → Grow W ρ σ H ρ' σ' H → (∀ j, j ∉ ts → σ'[j]? = σ[j]?) → σ'.length = σ.length → Q σ' H) → g x σ H Q
structure DXG (X : Cx) (e : Expr) (g : TG) (p : D → Env → Option Env) (ts : List Nat) : Prop where
  pg : PG X e g
  ok : GOk g p ts
  kp : ∀ (d : D) (ρ ρ' : Env), p d ρ = some ρ' → ∀ j, j ∉ ts → ρ'[j]? = ρ[j]?
structure DXGs (X : Cx) (es : List Expr) (g : TGs) (p : List D → Env → Option Env) (ts : List Nat) : Prop where
  pg : PGs X es g
  ok : GsOk g p ts
  kp : ∀ (d : List D) (ρ ρ' : Env), p d ρ = some ρ' → ∀ j, j ∉ ts → ρ'[j]? = ρ[j]?
def pNm (i : Nat) : D → Env → Option Env := fun d ρ => some (ρ.set i (.d d))
theorem dg_name (i : Nat) {x : Str} {p : Pos} (hN : X.N.Nodup) (hi : X.N[i]? = some x := by rfl) (hx : Loc X.env.scope x := by first | exact .inl rfl | exact .inr rfl) (hf : X.fn x = true ∨ X.env.scope.names.lookup x = some .local := by first | exact .inl rfl | exact .inr rfl) : DXG X (.Name x p) (gName i) (pNm i) [i] := by
  refine ⟨pg_name hN hi hx hf, fun W ρ σ s H v d ρ' Q E r e k => ?_, fun d ρ ρ' e j hj => ?_⟩
  case refine_2 =>
    cases e
    rw [List.getElem?_set_ne]
    intro e
    exact hj (by simp [e])
  cases e
  refine k _ (E.setD i (d := .d d) r) (Grow.setD (d := .d d)) (fun j hj => ?_) (List.length_set)
  rw [List.getElem?_set_ne]
  intro e
  exact hj (by simp [e])
def psNil : List D → Env → Option Env := fun ds ρ => if ds.isEmpty = true then some ρ else none
def psCons (p : D → Env → Option Env) (q : List D → Env → Option Env) : List D → Env → Option Env := fun ds ρ => match ds with
  | d :: r => (p d ρ).bind (q r)
  | [] => none
theorem dgs_nil : DXGs X [] gNil psNil [] := by
  refine ⟨pgs_nil, fun W ρ σ s H v d ρ' Q E r e k => ?_, fun d ρ ρ' e j hj => ?_⟩
  case refine_2 =>
    cases d with
    | nil => cases e; rfl
    | cons a b => cases e
  cases d with
  | nil =>
    cases r
    cases e
    exact ⟨rfl, k σ E Grow.refl (fun _ _ => rfl) rfl⟩
  | cons a b => cases e
theorem dgs_cons {es : List Expr} {g : TG} {gs : TGs} {p : D → Env → Option Env} {q : List D → Env → Option Env} {ts us : List Nat} (h1 : DXG X e g p ts) (h2 : DXGs X es gs q us) (hs : (assignEach (e :: es) X.env).map (·.2) = assign e X.env :: (assignEach es X.env).map (·.2) := by rfl) :
    DXGs X (e :: es) (gCons g gs) (psCons p q) (ts ++ us) := by
  refine ⟨pgs_cons h1.pg h2.pg hs, fun W ρ σ s H v d ρ' Q E r e k => ?_, fun d ρ ρ' e j hj => ?_⟩
  case refine_2 =>
    cases d with
    | nil => cases e
    | cons a b =>
      have e : (p a ρ).bind (q b) = some ρ' := e
      obtain ⟨ρ1, e1, e2⟩ := Option.bind_eq_some_iff.mp e
      exact (h2.kp b ρ1 ρ' e2 j fun z => hj (List.mem_append_right _ z)).trans (h1.kp a ρ ρ1 e1 j fun z => hj (List.mem_append_left _ z))
  cases d with
  | nil => cases e
  | cons a b =>
    cases r with
    | cons r1 r2 =>
      have e : (p a ρ).bind (q b) = some ρ' := e
      obtain ⟨ρ1, e1, e2⟩ := Option.bind_eq_some_iff.mp e
      refine ⟨_, _, rfl, h1.ok W ρ σ s H _ a ρ1 _ E r1 e1 fun σ1 E1 g1 j1 l1 => ?_⟩
      refine h2.ok W ρ1 σ1 s H _ b ρ' _ E1 (r2.up g1) e2 fun σ2 E2 g2 j2 l2 => ?_
      exact k σ2 E2 (Same.trans g1 g2) (fun j hj => (j2 j fun z => hj (List.mem_append_right _ z)).trans (j1 j fun z => hj (List.mem_append_left _ z))) (l2.trans l1)
def pTp (n : Nat) (p : List D → Env → Option Env) : D → Env → Option Env := fun d ρ => match d with
  | .tuple ds => if ds.length = n then p ds ρ else none
  | _ => none
def pLs (n : Nat) (p : List D → Env → Option Env) : D → Env → Option Env := fun d ρ => match d with
  | .list ds => if ds.length = n then p ds ρ else none
  | _ => none
theorem dg_tup {es : List Expr} {k : Nat} {gs : TGs} {n : Nat} {p : List D → Env → Option Env} {ts : List Nat} (hc : X.calm = true) (h : DXGs X es gs p ts) (hn : (assignEach es X.env).length = n := by rfl) (hst : (assignEach es X.env).findIdx? (·.1) = none := by rfl) :
    DXG X (.Tuple es k pos) (gTup X.K n gs) (pTp n p) ts := by
  refine ⟨pg_tup hc h.pg hn hst, fun W ρ σ s H v d ρ' Q E r e k => ?_, fun d ρ ρ' e j hj => ?_⟩
  case refine_2 =>
    unfold pTp at e
    split at e
    · split at e
      · exact h.kp _ ρ ρ' e j hj
      · cases e
    · cases e
  cases r with
  | tup h1 l1 r1 =>
    unfold pTp at e
    dsimp only at e
    split at e
    · rename_i hl
      exact ⟨_, _, rfl, SqT.of (Fz_sub _ _ h1), by rw [r1.len]; exact hl, h.ok W ρ σ s H _ _ ρ' Q E r1 e k⟩
    · cases e
  | _ => cases e
theorem dg_lst {es : List Expr} {k : Nat} {gs : TGs} {n : Nat} {p : List D → Env → Option Env} {ts : List Nat} (hc : X.calm = true) (h : DXGs X es gs p ts) (hn : (assignEach es X.env).length = n := by rfl) (hst : (assignEach es X.env).findIdx? (·.1) = none := by rfl) :
    DXG X (.Tuple es k pos) (gLst X.K n gs) (pLs n p) ts := by
  refine ⟨pg_lst hc h.pg hn hst, fun W ρ σ s H v d ρ' Q E r e k => ?_, fun d ρ ρ' e j hj => ?_⟩
  case refine_2 =>
    unfold pLs at e
    split at e
    · split at e
      · exact h.kp _ ρ ρ' e j hj
      · cases e
    · cases e
  cases r with
  | lst h1 l1 r1 =>
    unfold pLs at e
    dsimp only at e
    split at e
    · rename_i hl
      exact ⟨_, _, rfl, SqL.of (Fz_sub _ _ h1), by rw [r1.len]; exact hl, h.ok W ρ σ s H _ _ ρ' Q E r1 e k⟩
    · cases e
  | _ => cases e
/-- pattern = e -/
def sAsg (p : D → Env → Option Env) (f : FE S) : FS S := fun ρ s => (f ρ s).out ρ fun d s => match d with
  | .d d => (match p d ρ with
    | some ρ' => .nx ρ' s
    | none => .bad)
  | _ => .bad
theorem ds_asg {tg : Expr} {g : TG} {p : D → Env → Option Env} {ts : List Nat} (ha : DX X 𝒲 Wx a ta fa) (hg : DXG X tg g p ts) (hs : swapsWithSole [tg] a pos.line X.env = pure false := by rfl) (hw : swappedStores [tg] a X.env = pure none := by rfl)
    (h1 : (assignEach [tg] X.env).map (·.2) = [assign tg X.env] := by rfl) : DXS X 𝒲 Wx (.Assign [tg] a pos) (tAsg ta g) (sAsg p fa) := by
  refine ⟨ps_asg ha.pe hg.pg hs hw h1, fun W hW ρ σ s H Dn E h => ?_⟩
  refine ha.de W hW ρ σ s H _ E ((PostS.out E h).imp fun x s1 H1 a1 e1 q v hv => ?_)
  cases x with
  | v x => exact q.elim
  | d x =>
    dsimp only at q
    split at q
    · rename_i ρ' hp
      exact hg.ok W ρ σ s1 H1 v x ρ' _ (E.step a1 e1) hv hp fun σ' E' g' _ _ => q σ' H1 E' (Same.trans (Grow.stp e1) g')
    · exact q.elim
/-- x, y = a, b; x, y, z = a, b, c: plain local names -/
def sPar (i j : Nat) (g : FA S) : FS S := fun ρ s => (g ρ s).out ρ fun xs s => match xs with
  | [x, y] => .nx ((ρ.set i (Sl.of x)).set j (Sl.of y)) s
  | _ => .bad
theorem ds_par {i j : Nat} {x y : Str} {px py pt : Pos} {kt k2 pt2} {t : TA} {g : FA S} (hc : X.calm = true) (hN : X.N.Nodup) (ha : DXA X 𝒲 Wx [a, b] t g) (hi : X.N[i]? = some x := by rfl) (hj : X.N[j]? = some y := by rfl) (hij : i ≠ j := by decide)
    (hx : X.env.scope.names.lookup x = some .local := by rfl) (hy : X.env.scope.names.lookup y = some .local := by rfl)
    (hw : swappedStores [.Tuple [.Name x px, .Name y py] kt pt] (.Tuple [a, b] k2 pt2) X.env = pure (some [x, y]) := by rfl) (hs : swapsWithSole [.Tuple [.Name x px, .Name y py] kt pt] (.Tuple [a, b] k2 pt2) pos.line X.env = pure false := by rfl) :
    DXS X 𝒲 Wx (.Assign [.Tuple [.Name x px, .Name y py] kt pt] (.Tuple [a, b] k2 pt2) pos) (tPar i j t) (sPar i j g) := by
  refine ⟨ps_par hc hN hi hj hij hx hy ha.pa hw hs, fun W hW ρ σ s H Dn E h => ?_⟩
  refine ha.da W hW ρ σ s H _ E ((PostS.out E h).imp fun xs s1 H1 a1 e1 q v hv => ?_)
  split at q
  · cases hv with
    | cons r1 rr =>
      cases rr with
      | cons r2 rr =>
        cases rr
        obtain ⟨E1, g1⟩ := (E.step a1 e1).setG i r1
        obtain ⟨E2, g2⟩ := E1.setG j (r2.up g1)
        exact ⟨_, _, rfl, q _ H1 E2 (Same.trans (Grow.stp e1) (Same.trans g1 g2))⟩
  · exact q.elim
def sPar3 (i j l : Nat) (g : FA S) : FS S := fun ρ s => (g ρ s).out ρ fun xs s => match xs with
  | [x, y, z] => .nx (((ρ.set i (Sl.of x)).set j (Sl.of y)).set l (Sl.of z)) s
  | _ => .bad
theorem ds_par3 {i j l : Nat} {x y z : Str} {c : Expr} {px py pz pt : Pos} {kt k2 pt2} {t : TA} {g : FA S} (hc : X.calm = true) (hN : X.N.Nodup) (ha : DXA X 𝒲 Wx [a, b, c] t g) (hi : X.N[i]? = some x := by rfl) (hj : X.N[j]? = some y := by rfl) (hl : X.N[l]? = some z := by rfl)
    (hij : i ≠ j := by decide) (hil : i ≠ l := by decide) (hjl : j ≠ l := by decide)
    (hx : X.env.scope.names.lookup x = some .local := by rfl) (hy : X.env.scope.names.lookup y = some .local := by rfl) (hz : X.env.scope.names.lookup z = some .local := by rfl)
    (hw : swappedStores [.Tuple [.Name x px, .Name y py, .Name z pz] kt pt] (.Tuple [a, b, c] k2 pt2) X.env = pure (some [x, y, z]) := by rfl) (hs : swapsWithSole [.Tuple [.Name x px, .Name y py, .Name z pz] kt pt] (.Tuple [a, b, c] k2 pt2) pos.line X.env = pure false := by rfl) :
    DXS X 𝒲 Wx (.Assign [.Tuple [.Name x px, .Name y py, .Name z pz] kt pt] (.Tuple [a, b, c] k2 pt2) pos) (tPar3 i j l t) (sPar3 i j l g) := by
  refine ⟨ps_par3 hc hN hi hj hl hij hil hjl hx hy hz ha.pa hw hs, fun W hW ρ σ s H Dn E h => ?_⟩
  refine ha.da W hW ρ σ s H _ E ((PostS.out E h).imp fun xs s1 H1 a1 e1 q v hv => ?_)
  split at q
  · cases hv with
    | cons r1 rr =>
      cases rr with
      | cons r2 rr =>
        cases rr with
        | cons r3 rr =>
          cases rr
          obtain ⟨E1, g1⟩ := (E.step a1 e1).setG i r1
          obtain ⟨E2, g2⟩ := E1.setG j (r2.up g1)
          obtain ⟨E3, g3⟩ := E2.setG l (r3.up (Same.trans g1 g2))
          exact ⟨_, _, _, rfl, q _ H1 E3 (Same.trans (Grow.stp e1) (Same.trans (Same.trans g1 g2) g3))⟩
  · exact q.elim
end
end
end DL

namespace DL
open PySem L2
section
variable {S : Type} {X : Cx} {𝒲 : Fam S} {Wx : Wsh} {e a b : Expr} {ta tb tc : TE} {fa fb fc : FE S} {pos : Pos} {t u : TS} {F G : FS S}

/-! ### what a loop walks over -/
/-- J gives the data ds, while what stood in F0 stands -/
def Yld (F0 : Hp) (J : It) (ds : List D) : Prop := ds.length ≤ lim ∧ ∃ (G : Hp → Prop) (Y : Nat → Hp → V → Hp → Prop), Walk J ds.length G Y ∧ (∀ H, Same F0 H → G H) ∧
  ∀ i H x H', i < ds.length → Y i H x H' → ∀ P : Addr → Prop, InH P H → Same F0 (Fz P H) → Same H H' ∧ ∃ d, ds[i]? = some d ∧ Rp (Fz P H') x d
def DIt (𝒲 : Fam S) (Wx : Wsh) (wi : TI) (f : FL S) : Prop := ∀ W, 𝒲.ok W → ∀ ρ σ s H (R : It → Hp → Prop), EnvOk W ρ σ s H → Post W Wx σ H (f ρ s) (fun ds _ H' => ∀ J, Yld (Frz W ρ σ H') J ds → R J H') → wi σ H R
structure DXI (X : Cx) (𝒲 : Fam S) (Wx : Wsh) (tg e : Expr) (wi : TI) (f : FL S) : Prop where
  pi : PI X tg e wi
  di : DIt 𝒲 Wx wi f
variable {tg : Expr}
def lList (f : FE S) : FL S := fun ρ s => (f ρ s).bnd fun x s => match x with
  | .d (.list ds) => .ok ds s
  | _ => .bad
theorem yld_list {K : PySem.W.Frag} {F0 : Hp} {a : Addr} {vs : List V} {ds : List D} (h : F0 a = some (.lst vs)) (hl : vs.length ≤ lim) (r : RpAll F0 vs ds) : Yld F0 (Itl K a) ds := by
  have e := r.len
  refine ⟨by rw [← e]; exact hl, _, _, by rw [← e]; exact walk_list (xs := vs), fun H q => SqL.of (q _ _ h), fun i H x H' hi y P hP q => ?_⟩
  obtain ⟨rfl, hx⟩ := y
  obtain ⟨d, hd, rd⟩ := r.getV hx
  exact ⟨Same.refl _, d, hd, rd.up q⟩
theorem yld_tup {K : PySem.W.Frag} {F0 : Hp} {a : Addr} {vs : List V} {ds : List D} (h : F0 a = some (.tup vs)) (hl : vs.length ≤ lim) (r : RpAll F0 vs ds) : Yld F0 (Itt K a) ds := by
  have e := r.len
  refine ⟨by rw [← e]; exact hl, _, _, by rw [← e]; exact walk_tup (xs := vs), fun H q => SqT.of (q _ _ h), fun i H x H' hi y P hP q => ?_⟩
  obtain ⟨rfl, hx⟩ := y
  obtain ⟨d, hd, rd⟩ := r.getV hx
  exact ⟨Same.refl _, d, hd, rd.up q⟩
theorem di_list (ha : DX X 𝒲 Wx a ta fa) : DXI X 𝒲 Wx tg a (iList X.K ta) (lList fa) := by
  refine ⟨pi_list ha.pe, fun W hW ρ σ s H R E h => ?_⟩
  refine ha.de W hW ρ σ s H _ E (h.bnd.imp fun x s1 H1 a1 e1 q v hv => ?_)
  split at q
  · rename_i ds
    have hv : Rp _ v (.list ds) := hv
    cases hv with
    | lst h1 l1 r1 => exact ⟨_, rfl, ⟨_, SqL.of (Fz_sub _ _ h1)⟩, q.ok a1 _ (yld_list h1 l1 r1)⟩
  · exact q.elim
def lTup (f : FE S) : FL S := fun ρ s => (f ρ s).bnd fun x s => match x with
  | .d (.tuple ds) => .ok ds s
  | _ => .bad
theorem di_tup (ha : DX X 𝒲 Wx a ta fa) : DXI X 𝒲 Wx tg a (iTup X.K ta) (lTup fa) := by
  refine ⟨pi_tup ha.pe, fun W hW ρ σ s H R E h => ?_⟩
  refine ha.de W hW ρ σ s H _ E (h.bnd.imp fun x s1 H1 a1 e1 q v hv => ?_)
  split at q
  · rename_i ds
    have hv : Rp _ v (.tuple ds) := hv
    cases hv with
    | tup h1 l1 r1 => exact ⟨_, rfl, ⟨_, SqT.of (Fz_sub _ _ h1)⟩, q.ok a1 _ (yld_tup h1 l1 r1)⟩
  · exact q.elim
/-! range -/
def rngL (lo : Int) (n : Nat) : List D := (List.range n).map fun (i : Nat) => PyData.int (lo + (i : Int))
theorem rngL_len (lo : Int) (n : Nat) : (rngL lo n).length = n := by simp [rngL]
theorem rngL_get (lo : Int) {n i : Nat} (h : i < n) : (rngL lo n)[i]? = some (.int (lo + (i : Int))) := by simp [rngL, h]
theorem yld_range {F0 : Hp} {lo : Int} {n : Nat} (hn : n ≤ lim) : Yld F0 (Itr lo n) (rngL lo n) := by
  refine ⟨by rw [rngL_len]; exact hn, _, _, by rw [rngL_len]; exact walk_range, fun _ _ => trivial, fun i H x H' hi y P hP q => ?_⟩
  obtain ⟨rfl, rfl⟩ := y
  rw [rngL_len] at hi
  exact ⟨Same.refl _, _, rngL_get lo hi, .int _⟩
def lRng1 (f : FA S) : FL S := fun ρ s => (f ρ s).bnd fun xs s => match xs with
  | [.d (.int j)] => if j ≤ (lim : Int) ∧ -(2 ^ 62) ≤ j then .ok (rngL 0 j.toNat) s else .bad
  | _ => .bad
theorem di_range1 {p : Pos} {t : TA} {g : FA S} (hm : X.mg "range" = none) (ha : DXA X 𝒲 Wx [a] t g) (hg : Gl X "range" := by rfl) (hs : starEach [a] X.env = [(false, eval a X.env)] := by rfl) : DXI X 𝒲 Wx tg (.Call (.Name "range" p) [a] [] pos) (iRng1 t) (lRng1 g) := by
  refine ⟨pi_range1 hg hm ha.pa hs, fun W hW ρ σ s H R E h => ?_⟩
  refine ha.da W hW ρ σ s H _ E (h.bnd.imp fun xs s1 H1 a1 e1 q v hv => ?_)
  split at q
  · rename_i j
    split at q
    · rename_i hj
      have hl : (lim : Int) = 100000 := rfl
      cases hv with
      | cons r rr =>
        cases rr
        cases (show Rp _ _ (.int j) from r)
        exact ⟨j, rfl, by omega, by omega, q.ok a1 _ (yld_range (by omega))⟩
    · exact q.elim
  · exact q.elim
def lRng2 (f : FA S) : FL S := fun ρ s => (f ρ s).bnd fun xs s => match xs with
  | [.d (.int i), .d (.int j)] => if -(2 ^ 62) ≤ i ∧ i < 2 ^ 62 ∧ -(2 ^ 62) ≤ j ∧ j < 2 ^ 62 ∧ (j - i).toNat ≤ lim then .ok (rngL i (j - i).toNat) s else .bad
  | _ => .bad
theorem di_range2 {p : Pos} {t : TA} {g : FA S} (hm : X.mg "range" = none) (ha : DXA X 𝒲 Wx [a, b] t g) (hg : Gl X "range" := by rfl) (hs : starEach [a, b] X.env = [(false, eval a X.env), (false, eval b X.env)] := by rfl) (hs2 : starEach [b] X.env = [(false, eval b X.env)] := by rfl) :
    DXI X 𝒲 Wx tg (.Call (.Name "range" p) [a, b] [] pos) (iRng2 t) (lRng2 g) := by
  refine ⟨pi_range2 hg hm ha.pa hs hs2, fun W hW ρ σ s H R E h => ?_⟩
  refine ha.da W hW ρ σ s H _ E (h.bnd.imp fun xs s1 H1 a1 e1 q v hv => ?_)
  split at q
  · rename_i i j
    split at q
    · rename_i hj
      cases hv with
      | cons r rr =>
        cases rr with
        | cons r' rr =>
          cases rr
          cases (show Rp _ _ (.int i) from r)
          cases (show Rp _ _ (.int j) from r')
          exact ⟨i, j, rfl, ⟨hj.1, hj.2.1, hj.2.2.1, hj.2.2.2.1⟩, q.ok a1 _ (yld_range hj.2.2.2.2)⟩
    · exact q.elim
  · exact q.elim
/-- range(i, j, -1) -/
def rngD (lo : Int) (n : Nat) : List D := (List.range n).map fun (i : Nat) => PyData.int (lo - (i : Int))
theorem yld_rangeD {F0 : Hp} {lo : Int} {n : Nat} (hn : n ≤ lim) : Yld F0 (Itc lo (-1) n) (rngD lo n) := by
  have hl : (rngD lo n).length = n := by simp [rngD]
  refine ⟨by rw [hl]; exact hn, _, _, by rw [hl]; exact walk_rangeC, fun _ _ => trivial, fun i H x H' hi y P hP q => ?_⟩
  obtain ⟨rfl, rfl⟩ := y
  rw [hl] at hi
  refine ⟨Same.refl _, .int (lo + (i : Int) * (-1)), ?_, .int _⟩
  have e : lo + (i : Int) * (-1) = lo - (i : Int) := by omega
  rw [e]
  simp [rngD, hi]
def lRngD (f : FA S) : FL S := fun ρ s => (f ρ s).bnd fun xs s => match xs with
  | [.d (.int i), .d (.int j), .d (.int (-1))] => if -(2 ^ 62) ≤ i ∧ i < 2 ^ 62 ∧ -(2 ^ 62) ≤ j ∧ j < 2 ^ 62 ∧ (i - j).toNat ≤ lim then .ok (rngD i (i - j).toNat) s else .bad
  | _ => .bad
theorem di_rangeD {p : Pos} {c : Expr} {t : TA} {g : FA S} (hm : X.mg "range" = none) (ha : DXA X 𝒲 Wx [a, b, c] t g) (hg : Gl X "range" := by rfl) (hs : starEach [a, b, c] X.env = (false, eval a X.env) :: starEach [b, c] X.env := by rfl) (hpl : (backTo pos (starEach [b, c] X.env)).any (·.1) = false := by rfl) : DXI X 𝒲 Wx tg (.Call (.Name "range" p) [a, b, c] [] pos) (iRng3 t) (lRngD g) := by
  refine ⟨pi_range3 hg hm ha.pa hs hpl, fun W hW ρ σ s H R E h => ?_⟩
  refine ha.da W hW ρ σ s H _ E (h.bnd.imp fun xs s1 H1 a1 e1 q v hv => ?_)
  split at q
  · rename_i i j
    split at q
    · rename_i hj
      cases hv with
      | cons r rr =>
        cases rr with
        | cons r' rr =>
          cases rr with
          | cons r'' rr =>
            cases rr
            cases (show Rp _ _ (.int i) from r)
            cases (show Rp _ _ (.int j) from r')
            cases (show Rp _ _ (.int (-1)) from r'')
            exact ⟨i, j, -1, _, rfl, RgC.neg hj.1 hj.2.1 hj.2.2.1 hj.2.2.2.1, q.ok a1 _ (yld_rangeD hj.2.2.2.2)⟩
    · exact q.elim
  · exact q.elim
/-! enumerate, zip -/
def enumL (ds : List D) : List D := (ds.zipIdx).map fun p => PyData.tuple [.int (p.2 : Nat), p.1]
theorem enumL_len (ds : List D) : (enumL ds).length = ds.length := by simp [enumL]
def lEnum (f : FA S) : FL S := fun ρ s => (f ρ s).bnd fun xs s => match xs with
  | [.d (.list ds)] => .ok (enumL ds) s
  | _ => .bad
theorem rp_pair {P : Addr → Prop} {H : Hp} {T : Addr} {x y : V} {d e : D} (hP : InH P H) (hT : H T = none) (r1 : Rp (Fz P H) x d) (r2 : Rp (Fz P H) y e) : Rp (Fz P (upd H T (.tup [x, y]))) (.ref T) (.tuple [d, e]) :=
  rp_tup hP hT (by show 2 ≤ lim; decide) (.cons r1 (.cons r2 .nil))
theorem di_enum {elts : List Expr} {kk : Nat} {p tpos : Pos} {t : TA} {g : FA S} (hm : X.mg "enumerate" = none) (ha : DXA X 𝒲 Wx [a] t g) (hg : Gl X "enumerate" := by rfl) (hs : starEach [a] X.env = [(false, eval a X.env)] := by rfl) :
    DXI X 𝒲 Wx (.Tuple elts kk tpos) (.Call (.Name "enumerate" p) [a] [] pos) (iEnum X.K t) (lEnum g) := by
  refine ⟨pi_enum hg hm ha.pa hs, fun W hW ρ σ s H R E h => ?_⟩
  refine ha.da W hW ρ σ s H _ E (h.bnd.imp fun xs s1 H1 a1 e1 q v hv => ?_)
  split at q
  · rename_i ds
    cases hv with
    | cons r rr =>
      cases rr
      have r : Rp _ _ (.list ds) := r
      cases r with
      | @lst a' vs _ h1 l1 r1 =>
        refine ⟨_, vs, rfl, SqL.of (Fz_sub _ _ h1), q.ok a1 _ ⟨by rw [enumL_len, ← r1.len]; exact l1, _, _, by rw [enumL_len, ← r1.len]; exact walk_enum (xs := vs), fun H q => SqL.of (q _ _ h1), fun i H x H' hi y P hP q => ?_⟩⟩
        obtain ⟨T, x1, y1, rfl, hT, rfl, hx1, hy1⟩ := y
        cases hx1
        obtain ⟨d, hd, rd⟩ := r1.getV hy1
        refine ⟨Same.new hT, .tuple [.int (i : Nat), d], ?_, rp_pair hP hT (.int _) (rd.up q)⟩
        simp [enumL, hd]
  · exact q.elim
def zipL (xs ys : List D) : List D := (xs.zip ys).map fun p => PyData.tuple [p.1, p.2]
def lZip (f : FA S) : FL S := fun ρ s => (f ρ s).bnd fun xs s => match xs with
  | [.d (.list ds), .d (.list es)] => .ok (zipL ds es) s
  | _ => .bad
theorem di_zip {elts : List Expr} {kk : Nat} {p tpos : Pos} {t : TA} {g : FA S} (hm : X.mg "zip" = none) (ha : DXA X 𝒲 Wx [a, b] t g) (hg : Gl X "zip" := by rfl)
    (hs : starEach [a, b] X.env = (false, eval a X.env) :: starEach [b] X.env := by rfl) (hpl : (backTo pos (starEach [b] X.env)).any (·.1) = false := by rfl) :
    DXI X 𝒲 Wx (.Tuple elts kk tpos) (.Call (.Name "zip" p) [a, b] [] pos) (iZip X.K t) (lZip g) := by
  refine ⟨pi_zip hg hm ha.pa hs hpl, fun W hW ρ σ s H R E h => ?_⟩
  refine ha.da W hW ρ σ s H _ E (h.bnd.imp fun xs s1 H1 a1 e1 q v hv => ?_)
  split at q
  · rename_i ds es
    cases hv with
    | cons r rr =>
      cases rr with
      | cons r' rr =>
        cases rr
        have r : Rp _ _ (.list ds) := r
        have r' : Rp _ _ (.list es) := r'
        cases r with
        | @lst a' vs _ h1 l1 r1 =>
          cases r' with
          | @lst b' ws _ h2 l2 r2 =>
            have z1 := r1.len
            have z2 := r2.len
            have zl : (zipL ds es).length = min vs.length ws.length := by simp [zipL, z1, z2]
            refine ⟨_, _, vs, ws, rfl, SqL.of (Fz_sub _ _ h1), SqL.of (Fz_sub _ _ h2), q.ok a1 _ ⟨by rw [zl]; omega, _, _, walk_zip zl, fun H q => ⟨SqL.of (q _ _ h1), SqL.of (q _ _ h2)⟩, fun i H x H' hi y P hP q => ?_⟩⟩
            obtain ⟨T, x1, y1, rfl, hT, rfl, hx1, hy1⟩ := y
            obtain ⟨d, hd, rd⟩ := r1.getV hx1
            obtain ⟨d', hd', rd'⟩ := r2.getV hy1
            refine ⟨Same.new hT, .tuple [d, d'], ?_, rp_pair hP hT (rd.up q) (rd'.up q)⟩
            have hz : (ds.zip es)[i]? = some (d, d') := List.getElem?_zip_eq_some.mpr ⟨hd, hd'⟩
            simp [zipL, hz]
  · exact q.elim

/-! ### for -/
def loopS (p : D → Env → Option Env) (F : FS S) : List D → FS S
  | [], ρ, s => .nx ρ s
  | d :: r, ρ, s => match p d ρ with
    | none => .bad
    | some ρ1 => (match F ρ1 s with
      | .nx ρ2 s2 => loopS p F r ρ2 s2
      | .ct ρ2 s2 => loopS p F r ρ2 s2
      | .bk ρ2 s2 => .nx ρ2 s2
      | .rt d s2 => .rt d s2
      | .er c ρ2 s2 => .er c ρ2 s2
      | .bad => .bad)
def sFor (f : FL S) (p : D → Env → Option Env) (F : FS S) : FS S := fun ρ s => (f ρ s).out ρ fun ds s => loopS p F ds ρ s
theorem for_ok {wi : TI} {g : TG} {p : D → Env → Option Env} {ts : List Nat} {f : FL S} (hi : DIt 𝒲 Wx wi f) (hg : GOk g p ts) (hb : DS 𝒲 Wx t F) : DS 𝒲 Wx (tFor wi g t) (sFor f p F) := fun W hW ρ σ s H Dn E h => by
  refine hi W hW ρ σ s H _ E ((PostS.out E h).imp fun ds s1 H1 a1 e1 q J y => ?_)
  obtain ⟨hlim, G0, Y, w, hG, hY⟩ := y
  have E1 := E.step a1 e1
  have q1 : PostS W Wx ρ σ H1 (loopS p F ds ρ s1) Dn := q.later (Grow.stp e1)
  refine for_it w (fun i σ' H' => ∃ ρ' s', EnvOk W ρ' σ' s' H' ∧ Grow W ρ σ H1 ρ' σ' H' ∧ PostS W Wx ρ' σ' H' (loopS p F (ds.drop i) ρ' s') Dn) ⟨ρ, s1, E1, Grow.refl, q1⟩ (fun i σ' H' _ ⟨ρ', s', _, g', _⟩ => hG H' (Same.trans g' Fz_sub)) ?_ ?_
  · rintro i x σ' H' H2 hin ⟨ρ', s', E', g', q'⟩ yy
    obtain ⟨sm, d, hd, rd⟩ := hY i H' x H2 hin yy _ E'.inH g'
    have E2 := E'.ext sm
    have e3 : ds.drop i = d :: ds.drop (i + 1) := by
      have hd' := List.getElem?_eq_some_iff.mp hd
      rw [List.drop_eq_getElem_cons hd'.1, hd'.2]
    rw [e3] at q'
    have q2 : PostS W Wx ρ' σ' H2 (loopS p F (d :: ds.drop (i + 1)) ρ' s') Dn := q'.later (Grow.stp (Stp.of sm))
    unfold loopS at q2
    cases hp : p d ρ' with
    | none => rw [hp] at q2; exact q2.elim
    | some ρ1 =>
      rw [hp] at q2
      dsimp only at q2
      refine hg W ρ' σ' s' H2 x d ρ1 _ E2 rd hp fun σ1 E3 g3 _ _ => hb W hW ρ1 σ1 s' H2 _ E3 ?_
      have q3 := q2.later g3
      have gg : Grow W ρ σ H1 ρ1 σ1 H2 := Same.trans g' (Same.trans (Grow.stp (Stp.of sm)) g3)
      cases hF : F ρ1 s' with
      | nx ρ2 s2 =>
        rw [hF] at q3
        exact fun σ4 H4 E4 g4 => ⟨ρ2, s2, E4, Same.trans gg g4, q3.later g4⟩
      | ct ρ2 s2 =>
        rw [hF] at q3
        exact fun σ4 H4 E4 g4 => ⟨ρ2, s2, E4, Same.trans gg g4, q3.later g4⟩
      | bk ρ2 s2 =>
        rw [hF] at q3
        exact fun σ4 H4 E4 g4 => q3 σ4 H4 E4 g4
      | rt d' s2 => rw [hF] at q3; exact q3
      | er c ρ2 s2 => rw [hF] at q3; exact q3
      | bad => rw [hF] at q3; exact q3.elim
  · rintro σ' H' ⟨ρ', s', E', g', q'⟩
    rw [List.drop_length] at q'
    exact q' σ' H' E' Grow.refl
theorem ds_for {wi : TI} {g : TG} {p : D → Env → Option Env} {ts : List Nat} {f : FL S} {iter : Expr} {body : List Stmt} (hp : PassesOwn (model X.prog X.w) X.A X.env X.xe) (hc : X.calm = true) (hi : DXI X 𝒲 Wx tg iter wi f) (hg : DXG X tg g p ts) (hb : DXSs X 𝒲 Wx body t F)
    (hs : ∀ x, foldedSetIterable iter X.env x = pure x := by intro _; rfl) : DXS X 𝒲 Wx (.For tg iter body [] pos) (tFor wi g t) (sFor f p F) := ⟨ps_for hp hc hi.pi hg.pg hb.ps hs, for_ok hi.di hg.ok hb.ds⟩

/-! ### while -/
def loopW (f : FT S) (F : FS S) : Nat → FS S
  | 0, _, _ => .bad
  | n + 1, ρ, s => (f ρ s).out ρ fun k s => if k = true then (match F ρ s with
      | .nx ρ2 s2 => loopW f F n ρ2 s2
      | .ct ρ2 s2 => loopW f F n ρ2 s2
      | .bk ρ2 s2 => .nx ρ2 s2
      | .rt d s2 => .rt d s2
      | .er c ρ2 s2 => .er c ρ2 s2
      | .bad => .bad) else .nx ρ s
def sWhile (μ : Env → Nat) (f : FT S) (F : FS S) : FS S := fun ρ s => loopW f F (μ ρ) ρ s
theorem while_ok {μ : Env → Nat} {tA : TT} {f : FT S} (hc : DT 𝒲 Wx tA f) (hb : DS 𝒲 Wx t F) : DS 𝒲 Wx (tWhile tA t) (sWhile μ f F) := fun W hW ρ σ s H Dn E h => by
  refine ⟨fun n σ' H' => ∃ ρ' s', EnvOk W ρ' σ' s' H' ∧ PostS W Wx ρ' σ' H' (loopW f F n ρ' s') Dn, ⟨μ ρ, ρ, s, E, h⟩, ?_⟩
  rintro n σ' H' ⟨ρ', s', E', q⟩
  cases n with
  | zero => exact q.elim
  | succ n =>
    unfold loopW at q
    refine hc W hW ρ' σ' s' H' _ E' ((PostS.out E' q).imp fun k s1 H1 a1 e1 q1 => ?_)
    have E1 := E'.step a1 e1
    have q1 := q1.later (Grow.stp e1)
    cases k with
    | false =>
      rw [if_neg Bool.false_ne_true] at q1 ⊢
      exact q1 σ' H1 E1 Grow.refl
    | true =>
      rw [if_pos rfl] at q1 ⊢
      refine ⟨fun σ2 H2 => ∃ ρ2 s2, EnvOk W ρ2 σ2 s2 H2 ∧ PostS W Wx ρ2 σ2 H2 (loopW f F n ρ2 s2) Dn, fun σ2 H2 q2 => ⟨n, Nat.lt_succ_self n, q2⟩, hb W hW ρ' σ' s1 H1 _ E1 ?_⟩
      cases hF : F ρ' s1 with
      | nx ρ2 s2 => rw [hF] at q1; exact fun σ4 H4 E4 g4 => ⟨ρ2, s2, E4, q1.later g4⟩
      | ct ρ2 s2 => rw [hF] at q1; exact fun σ4 H4 E4 g4 => ⟨ρ2, s2, E4, q1.later g4⟩
      | bk ρ2 s2 => rw [hF] at q1; exact fun σ4 H4 E4 g4 => q1 σ4 H4 E4 g4
      | rt d' s2 => rw [hF] at q1; exact q1
      | er c ρ2 s2 => rw [hF] at q1; exact q1
      | bad => rw [hF] at q1; exact q1.elim
theorem ds_while (μ : Env → Nat) {c : Expr} {body : List Stmt} {tA : TT} {f : FT S} (hp : PassesOwn (model X.prog X.w) X.A X.env X.xe) (hc : DXT X 𝒲 Wx c tA f) (hb : DXSs X 𝒲 Wx body t F) : DXS X 𝒲 Wx (.While c body [] pos) (tWhile tA t) (sWhile μ f F) := ⟨ps_while hp hc.pt hb.ps, while_ok hc.dt hb.ds⟩

/-! ### comprehensions -/
/-- the block's own slots forgotten; none where one of them holds an own list -/
def wipeE : List Nat → Env → Option Env
  | [], ρ => some ρ
  | i :: r, ρ => (wipeE r ρ).bind fun ρ1 => match ρ1[i]? with
    | some (.m _) => none
    | _ => some (ρ1.set i .no)
theorem wipe_ok {W : Wd S} {s : S} {H : Hp} : ∀ (vs : List Nat) {ρ ρ1 : Env} {σ : L2.St}, EnvOk W ρ σ s H → wipeE vs ρ = some ρ1 → EnvOk W ρ1 (wipe σ vs) s H ∧ (∀ b, Own ρ1 (wipe σ vs) b ↔ Own ρ σ b)
  | [], _, _, _, E, h => by cases h; exact ⟨E, fun _ => Iff.rfl⟩
  | i :: r, ρ, ρ1, σ, E, h => by
    have h : ((wipeE r ρ).bind fun ρ1 => match ρ1[i]? with | some (.m _) => none | _ => some (ρ1.set i .no)) = some ρ1 := h
    obtain ⟨ρ2, h1, h2⟩ := Option.bind_eq_some_iff.mp h
    obtain ⟨E2, o2⟩ := wipe_ok r E h1
    split at h2
    · cases h2
    · rename_i hn
      cases h2
      show EnvOk W (ρ2.set i .no) ((wipe σ r).set i none) s H ∧ _
      refine ⟨E2.setAny i (fun _ z => nomatch z) (fun _ z => nomatch z) (fun _ z => nomatch z), fun b => ⟨fun ho => ?_, fun ho => ?_⟩⟩
      · rcases own_set ho with z | ⟨xs, z, _⟩
        · exact (o2 b).mp z
        · cases z
      · obtain ⟨j, xs, z1, z2⟩ := (o2 b).mpr ho
        have ne : i ≠ j := fun q => by subst q; exact hn xs z1
        exact ⟨j, xs, by rw [List.getElem?_set_ne ne]; exact z1, by show ((wipe σ r).set i none)[j]? = _; rw [List.getElem?_set_ne ne]; exact z2⟩
theorem wipe_get : ∀ (vs : List Nat) (σ : L2.St) (j : Nat), j ∉ vs → (wipe σ vs)[j]? = σ[j]?
  | [], _, _, _ => rfl
  | i :: r, σ, j, h => by
    show ((wipe σ r).set i none)[j]? = _
    rw [List.getElem?_set_ne (fun e => h (by simp [e]))]
    exact wipe_get r σ j fun z => h (by simp [z])
theorem wipe_in : ∀ (vs : List Nat) (σ : L2.St) (j : Nat), j ∈ vs → (wipe σ vs)[j]? = if j < σ.length then some none else none
  | i :: r, σ, j, h => by
    show ((wipe σ r).set i none)[j]? = _
    by_cases e : i = j
    · subst e
      rw [List.getElem?_set, if_pos rfl, wipe_length]
    · rw [List.getElem?_set_ne e]
      exact wipe_in r σ j (by simpa [Ne.symm e] using h)
theorem wipe_eq {vs : List Nat} {σ σ' : L2.St} (hl : σ'.length = σ.length) (h : ∀ j, j ∉ vs → σ'[j]? = σ[j]?) : wipe σ' vs = wipe σ vs := by
  apply List.ext_getElem?
  intro j
  by_cases e : j ∈ vs
  · rw [wipe_in vs σ' j e, wipe_in vs σ j e, hl]
  · rw [wipe_get vs σ' j e, wipe_get vs σ j e, h j e]
theorem wipe_no : ∀ (vs : List Nat) {ρ ρ1 : Env}, wipeE vs ρ = some ρ1 → ∀ j, j ∈ vs → ∀ xs, ρ1[j]? ≠ some (Sl.m xs)
  | i :: r, ρ, ρ1, h, j, hj, xs => by
    have h : ((wipeE r ρ).bind fun ρ1 => match ρ1[i]? with | some (.m _) => none | _ => some (ρ1.set i .no)) = some ρ1 := h
    obtain ⟨ρ2, h1, h2⟩ := Option.bind_eq_some_iff.mp h
    split at h2
    · cases h2
    · cases h2
      by_cases e : i = j
      · subst e
        rw [List.getElem?_set, if_pos rfl]
        split
        · intro z; cases z
        · intro z; cases z
      · rw [List.getElem?_set_ne e]
        exact wipe_no r h1 j (by simpa [Ne.symm e] using hj) xs
/-- the turns of a comprehension -/
def compS (p : D → Env → Option Env) (ft : FT S) (fe : FE S) (ρ : Env) : List D → S → Res S (List D)
  | [], s => .ok [] s
  | d :: r, s => match p d ρ with
    | none => .bad
    | some ρ1 => (match ft ρ1 s with
      | .ok k s1 => if k = true then (match fe ρ1 s1 with
          | .ok (.d y) s2 => (compS p ft fe ρ r s2).bnd fun ys s => .ok (y :: ys) s
          | _ => .bad) else compS p ft fe ρ r s1
      | _ => .bad)
def lComp (f : FL S) (vs : List Nat) (p : D → Env → Option Env) (ft : FT S) (fe : FE S) : FL S := fun ρ s => match wipeE vs ρ with
  | none => .bad
  | some ρ1 => (f ρ s).bnd fun ds s => compS p ft fe ρ1 ds s
theorem EnvOk.hide {W : Wd S} {ρ : Env} {σ : L2.St} {s : S} {H : Hp} {p : Addr} {o : HO} (E : EnvOk W ρ σ s H) (h : H p = none) : EnvOk (W.hide p o) ρ σ s (upd H p o) := by
  have n := E.new h
  have up : Same (Frz W ρ σ H) (Frz (W.hide p o) ρ σ (upd H p o)) := Fz_mono (fun b hb q => by
    rcases q with (q | q) | q
    · exact .inl q
    · exact absurd (by rw [q]; exact h) hb
    · exact .inr q) fun b o' _ q => by rw [upd_ne (ne_of_none q h)]; exact q
  refine ⟨E.len, ⟨W.ext _ _ _ E.at_ (Same.new h), upd_same⟩, fun i x q => ?_, E.raw, fun i xs q => ?_, E.sep⟩
  · obtain ⟨v, e1, r⟩ := E.dat i x q
    exact ⟨v, e1, r.up up⟩
  · obtain ⟨b, vs, e1, e2, e3, e4, e5, e6⟩ := E.mutl i xs q
    exact ⟨b, vs, e1, Same.new h _ _ e2, e3, e4.up up, (fun z => z.elim e5 fun z => by rw [z, h] at e2; cases e2), e6⟩
/-- what stands at the hidden address is changed -/
theorem EnvOk.rehide {W : Wd S} {ρ : Env} {σ : L2.St} {s : S} {H : Hp} {p : Addr} {o o' : List V} (E : EnvOk (W.hide p (.lst o)) ρ σ s H) (n1 : ¬ W.hid p) (n2 : ¬ W.low p) : EnvOk (W.hide p (.lst o')) ρ σ s (upd H p (.lst o')) := by
  have up : Same (Frz (W.hide p (.lst o)) ρ σ H) (Frz (W.hide p (.lst o')) ρ σ (upd H p (.lst o'))) := Fz_mono (fun _ _ q => q) fun b u hn q => by
    rw [upd_ne fun e => hn (.inl (.inr e))]
    exact q
  refine ⟨E.len, ⟨W.mutn _ _ _ _ _ E.at_.1 E.at_.2 (fun _ z => nomatch z) n1 n2, upd_same⟩, fun i x q => ?_, E.raw, fun i xs q => ?_, E.sep⟩
  · obtain ⟨v, e1, r⟩ := E.dat i x q
    exact ⟨v, e1, r.up up⟩
  · obtain ⟨b, vs, e1, e2, e3, e4, e5, e6⟩ := E.mutl i xs q
    exact ⟨b, vs, e1, by rw [upd_ne fun e => e5 (.inr e)]; exact e2, e3, e4.up up, e5, e6⟩
theorem comp_ok {wi : TI} {g : TG} {p : D → Env → Option Env} {ts vs : List Nat} {f : FL S} {tt : TT} {te : TE} {ft : FT S} {fe : FE S} (hi : DIt 𝒲 Wx wi f) (hg : GOk g p ts) (hkp : ∀ (d : D) (ρ ρ' : Env), p d ρ = some ρ' → ∀ j, j ∉ ts → ρ'[j]? = ρ[j]?) (hts : ∀ j ∈ ts, j ∈ vs) (ht : DT 𝒲 NoW tt ft) (he : DE 𝒲 NoW te fe) : DF 𝒲 Wx (tLc wi g tt te vs) (lComp f vs p ft fe) := fun W hW ρ σ s H Q E h => by
  unfold lComp at h
  cases hw : wipeE vs ρ with
  | none => rw [hw] at h; exact h.elim
  | some ρ1 =>
    rw [hw] at h
    refine hi W hW ρ σ s H _ E (h.bnd.imp fun ds s1 H1 a1 e1 q J y => ?_)
    obtain ⟨hlim, G0, Y, w, hG, hY⟩ := y
    have E1 := E.step a1 e1
    obtain ⟨Ew, ow⟩ := wipe_ok vs E1 hw
    intro Dl hD
    have nD := E1.new hD
    have up0 : ∀ o, Same (Frz W ρ σ H1) (Frz (W.hide Dl o) ρ1 (wipe σ vs) (upd H1 Dl o)) := fun o => Fz_mono (fun b hb z => by
      rcases z with (z | z) | z
      · exact .inl z
      · exact absurd (by rw [z]; exact hD) hb
      · exact .inr ((ow b).mp z)) fun b o _ z => by rw [upd_ne (ne_of_none z hD)]; exact z
    refine lc_it w (fun i H' => ∃ s' acc ads, EnvOk (W.hide Dl (.lst acc)) ρ1 (wipe σ vs) s' H' ∧ Stp W H1 H' ∧ acc.length ≤ i ∧ RpAll (Frz (W.hide Dl (.lst acc)) ρ1 (wipe σ vs) H') acc ads ∧ Same (Frz W ρ σ H1) (Frz (W.hide Dl (.lst acc)) ρ1 (wipe σ vs) H') ∧
      Post W Wx σ H1 ((compS p ft fe ρ1 (ds.drop i) s').bnd fun ys s => .ok (ads ++ ys) s) (fun ds _ H' => ∀ p vs, H p = none → H' p = some (.lst vs) → vs.length ≤ lim → RpAll (Fz (fun a => W.hid a ∨ Own ρ σ a ∨ a = p) H') vs ds → Q (.ref p) H'))
      ⟨s1, [], [], Ew.hide hD, Stp.of (Same.new hD), Nat.zero_le _, .nil, up0 _, ?_⟩ (fun i H' _ ⟨s', acc, ads, E', st', _, _, g', _⟩ => hG H' (Same.trans g' Fz_sub)) ?_ ?_
    · rw [List.drop_zero]
      cases hcs : compS p ft fe ρ1 ds s1 with
      | ok ys s2 => rw [hcs] at q; exact q
      | er c s2 => rw [hcs] at q; exact q
      | bad => rw [hcs] at q; exact q
    · rintro i x H' H2 hin ⟨s', acc, ads, E', st', hal, racc, g', q'⟩ yy
      have hW2 := 𝒲.hide W Dl acc hW nD.1 nD.2.1
      obtain ⟨sm, d, hd, rd⟩ := hY i H' x H2 hin yy _ E'.inH g'
      have E2 := E'.ext sm
      have e3 : ds.drop i = d :: ds.drop (i + 1) := by
        have hd' := List.getElem?_eq_some_iff.mp hd
        rw [List.drop_eq_getElem_cons hd'.1, hd'.2]
      rw [e3] at q'
      unfold compS at q'
      cases hp : p d ρ1 with
      | none => rw [hp] at q'; exact q'.elim
      | some ρ2 =>
        rw [hp] at q'
        dsimp only at q'
        refine hg (W.hide Dl (.lst acc)) ρ1 (wipe σ vs) s' H2 x d ρ2 _ E2 rd hp fun σ3 E3 g3 j3 l3 => ?_
        have ww : wipe σ3 vs = wipe σ vs := by
          have e4 := wipe_eq (vs := vs) l3 fun j hj => j3 j fun z => hj (hts j z)
          rw [e4]
          exact wipe_eq (wipe_length σ vs) fun j hj => wipe_get vs σ j hj
        refine ⟨ww, ht _ hW2 ρ2 σ3 s' H2 _ E3 ?_⟩
        -- the steps of the turn, seen from outside
        have stW : ∀ {H0 : Hp}, Stp (W.hide Dl (.lst acc)) H2 H0 → Stp W H1 H0 := fun {H0} t0 b o n1 z => t0 b o (fun k => k.elim n1 fun k => by rw [k, hD] at z; cases z) (sm b o (st' b o n1 z))
        have gW : ∀ {H0 : Hp}, Stp (W.hide Dl (.lst acc)) H2 H0 → Same (Frz (W.hide Dl (.lst acc)) ρ1 (wipe σ vs) H') (Frz (W.hide Dl (.lst acc)) ρ1 (wipe σ vs) H0) := fun {H0} t0 => Same.trans (Frz.stp (Stp.of sm)) (Frz.stp t0)
        cases hft : ft ρ2 s' with
        | bad => rw [hft] at q'; exact q'.elim
        | er c s2 => rw [hft] at q'; exact q'.elim
        | ok k s2 =>
          rw [hft] at q'
          intro H3 a3 st3
          cases k with
          | false =>
            simp only [Bool.false_eq_true, if_false] at q' ⊢
            exact ⟨s2, acc, ads, E2.step a3 st3, stW st3, Nat.le_succ_of_le hal, racc.up (gW st3), Same.trans g' (gW st3), q'⟩
          | true =>
            simp only [if_true] at q' ⊢
            refine he _ hW2 ρ2 σ3 s2 H3 _ (E3.step a3 st3) ?_
            cases hfe : fe ρ2 s2 with
            | bad => rw [hfe] at q'; exact q'.elim
            | er c s3 => rw [hfe] at q'; exact q'.elim
            | ok z s3 =>
              rw [hfe] at q'
              cases z with
              | v z => exact q'.elim
              | d z =>
                intro H4 a4 st4 v hv
                have st34 := st3.trans st4
                have E4 := E2.step a4 st34
                have hv : Rp _ v z := hv
                -- the item as data of the block
                have rv : Rp (Frz (W.hide Dl (.lst acc)) ρ1 (wipe σ vs) H4) v z := by
                  refine hv.up (Fz_mono (fun b _ k => ?_) fun _ _ _ k => k)
                  rcases k with k | ⟨j, xs, k1, k2⟩
                  · exact .inl k
                  · have nj : j ∉ ts := fun z => wipe_no vs hw j (hts j z) xs k1
                    exact .inr ⟨j, xs, (hkp d ρ1 ρ2 hp j nj).trans k1, (j3 j nj).trans k2⟩
                refine ⟨acc, a4.2, Nat.lt_of_lt_of_le (Nat.lt_of_le_of_lt hal (Nat.lt_of_lt_of_le hin hlim)) (by rw [sizeLine_eq]; decide), s3, acc ++ [v], ads ++ [z], E4.rehide nD.1 nD.2.1, fun b o n1 k => ?_, ?_, ?_, ?_, ?_⟩
                · have k1 := stW st34 b o n1 k
                  rw [upd_ne (ne_of_none k hD)]
                  exact k1
                · rw [List.length_append, List.length_singleton]; omega
                · have up4 : Same (Frz (W.hide Dl (.lst acc)) ρ1 (wipe σ vs) H4) (Frz (W.hide Dl (.lst (acc ++ [v]))) ρ1 (wipe σ vs) (upd H4 Dl (.lst (acc ++ [v])))) := Fz_mono (fun _ _ k => k) fun b u hn k => by
                    rw [upd_ne fun e => hn (.inl (.inr e))]
                    exact k
                  exact ((racc.up (gW st34)).append (.cons rv .nil)).up up4
                · refine Same.trans g' (Same.trans (gW st34) (Fz_mono (fun _ _ k => k) fun b u hn k => ?_))
                  rw [upd_ne fun e => hn (.inl (.inr e))]
                  exact k
                · dsimp only at q'
                  cases hcs : compS p ft fe ρ1 (ds.drop (i + 1)) s3 with
                  | ok ys s5 =>
                    rw [hcs] at q'
                    have q' : Post W Wx σ H1 (.ok (ads ++ z :: ys) s5) _ := q'
                    show Post W Wx σ H1 (.ok ((ads ++ [z]) ++ ys) s5) _
                    rw [List.append_assoc]
                    exact q'
                  | er c s5 => rw [hcs] at q'; exact q'
                  | bad => rw [hcs] at q'; exact q'
    · rintro H' ⟨s', acc, ads, E', st', hal, racc, g', q'⟩
      rw [List.drop_length] at q'
      have q' : Post W Wx σ H1 (.ok (ads ++ []) s') _ := q'
      rw [List.append_nil] at q'
      refine q' H' E'.at_.1 st' Dl acc (E.newBack a1 e1 hD) E'.at_.2 (Nat.le_trans hal hlim) (racc.up (Fz_mono (fun b _ k => ?_) fun _ _ _ k => k))
      rcases k with k | k | k
      · exact .inl (.inl k)
      · exact .inr ((ow b).mpr k)
      · exact .inl (.inr k)

/-- [elt for target in iter if ..] -/
theorem dxf_lc {elt tg iter : Expr} {ifs : List Expr} {scope : Scope} {own : List (Str × Nat)} {wi : TI} {g : TG} {p : D → Env → Option Env} {ts : List Nat} {f : FL S} {tt : TT} {te : TE} {ft : FT S} {fe : FE S} (hc : X.calm = true) (hN : X.N.Nodup) (hi : DXI X 𝒲 Wx tg iter wi f) (ok : BlkOk X.N X.env.scope scope own) (hts : ∀ j ∈ ts, j ∈ own.map (·.2))
    (hg : ∀ (s : Shared) (H : Hp) (C : Addr) (cl : List (Str × Addr)) (fp : List Addr), DXG (X.blk s H scope (compEnvC scope cl C X.env) fp) tg g p ts) (ht : ∀ (s : Shared) (H : Hp) (C : Addr) (cl : List (Str × Addr)) (fp : List Addr), PTs (X.blk s H scope (compEnvC scope cl C X.env) fp) ifs tt) (ht2 : DT 𝒲 NoW tt ft)
    (he : ∀ (s : Shared) (H : Hp) (C : Addr) (cl : List (Str × Addr)) (fp : List Addr), DX (X.blk s H scope (compEnvC scope cl C X.env) fp) 𝒲 NoW elt te fe) (hs : ∀ x, foldedSetIterable iter X.env x = pure x := by intro _; rfl) :
    DXF X 𝒲 Wx (.ListComp elt [⟨tg, iter, ifs, 0⟩] scope pos) (tLc wi g tt te (own.map (·.2))) (lComp f (own.map (·.2)) p ft fe) :=
  ⟨pe_lc hc hN hi.pi ok (fun s H C cl fp => (hg s H C cl fp).pg) ht (fun s H C cl fp => (he s H C cl fp).pe) hs,
   comp_ok hi.di (hg X.s_0 X.H_0 0 [] []).ok (hg X.s_0 X.H_0 0 [] []).kp hts ht2 (he X.s_0 X.H_0 0 [] []).de⟩
def fYes : FT S := fun _ s => .ok true s
theorem dt_yes : DT 𝒲 Wx tYes fYes := fun W hW ρ σ s H Q E h => h.ok E.at_
/-- without a test; what is made hangs on the block's own things by name only -/
theorem dxf_lc0 {elt tg iter : Expr} {scope : Scope} {own : List (Str × Nat)} {wi : TI} {g : Shared → Hp → Addr → List (Str × Addr) → List Addr → TG} {p : D → Env → Option Env} {ts : List Nat} {f : FL S} {te : Shared → Hp → Addr → List (Str × Addr) → List Addr → TE} {fe : FE S} (hc : X.calm = true) (hN : X.N.Nodup) (hi : DXI X 𝒲 Wx tg iter wi f) (ok : BlkOk X.N X.env.scope scope own)
    (hg : ∀ (s : Shared) (H : Hp) (C : Addr) (cl : List (Str × Addr)) (fp : List Addr), DXG (X.blk s H scope (compEnvC scope cl C X.env) fp) tg (g s H C cl fp) p ts)
    (he : ∀ (s : Shared) (H : Hp) (C : Addr) (cl : List (Str × Addr)) (fp : List Addr), DX (X.blk s H scope (compEnvC scope cl C X.env) fp) 𝒲 NoW elt (te s H C cl fp) fe)
    (hts : ∀ j ∈ ts, j ∈ own.map (·.2) := by decide) (hg0 : ∀ (s : Shared) (H : Hp) (C : Addr) (cl : List (Str × Addr)) (fp : List Addr), g s H C cl fp = g X.s_0 X.H_0 0 [] [] := by intros; rfl) (he0 : ∀ (s : Shared) (H : Hp) (C : Addr) (cl : List (Str × Addr)) (fp : List Addr), te s H C cl fp = te X.s_0 X.H_0 0 [] [] := by intros; rfl)
    (hs : ∀ x, foldedSetIterable iter X.env x = pure x := by intro _; rfl) :
    DXF X 𝒲 Wx (.ListComp elt [⟨tg, iter, [], 0⟩] scope pos) (tLc wi (g X.s_0 X.H_0 0 [] []) tYes (te X.s_0 X.H_0 0 [] []) (own.map (·.2))) (lComp f (own.map (·.2)) p fYes fe) :=
  dxf_lc hc hN hi ok hts (fun s H C cl fp => hg0 s H C cl fp ▸ hg s H C cl fp) (fun _ _ _ _ _ => pts_nil) dt_yes (fun s H C cl fp => he0 s H C cl fp ▸ he s H C cl fp) hs
/-- with one test -/
theorem dxf_lc1 {elt tg iter c : Expr} {scope : Scope} {own : List (Str × Nat)} {wi : TI} {g : Shared → Hp → Addr → List (Str × Addr) → List Addr → TG} {p : D → Env → Option Env} {ts : List Nat} {f : FL S} {tt : Shared → Hp → Addr → List (Str × Addr) → List Addr → TT} {te : Shared → Hp → Addr → List (Str × Addr) → List Addr → TE} {ft : FT S} {fe : FE S} (hc : X.calm = true) (hN : X.N.Nodup) (hi : DXI X 𝒲 Wx tg iter wi f) (ok : BlkOk X.N X.env.scope scope own)
    (hg : ∀ (s : Shared) (H : Hp) (C : Addr) (cl : List (Str × Addr)) (fp : List Addr), DXG (X.blk s H scope (compEnvC scope cl C X.env) fp) tg (g s H C cl fp) p ts) (ht : ∀ (s : Shared) (H : Hp) (C : Addr) (cl : List (Str × Addr)) (fp : List Addr), DXT (X.blk s H scope (compEnvC scope cl C X.env) fp) 𝒲 NoW c (tt s H C cl fp) ft)
    (he : ∀ (s : Shared) (H : Hp) (C : Addr) (cl : List (Str × Addr)) (fp : List Addr), DX (X.blk s H scope (compEnvC scope cl C X.env) fp) 𝒲 NoW elt (te s H C cl fp) fe)
    (hts : ∀ j ∈ ts, j ∈ own.map (·.2) := by decide) (hg0 : ∀ (s : Shared) (H : Hp) (C : Addr) (cl : List (Str × Addr)) (fp : List Addr), g s H C cl fp = g X.s_0 X.H_0 0 [] [] := by intros; rfl) (ht0 : ∀ (s : Shared) (H : Hp) (C : Addr) (cl : List (Str × Addr)) (fp : List Addr), tt s H C cl fp = tt X.s_0 X.H_0 0 [] [] := by intros; rfl)
    (he0 : ∀ (s : Shared) (H : Hp) (C : Addr) (cl : List (Str × Addr)) (fp : List Addr), te s H C cl fp = te X.s_0 X.H_0 0 [] [] := by intros; rfl) (hs : ∀ x, foldedSetIterable iter X.env x = pure x := by intro _; rfl) :
    DXF X 𝒲 Wx (.ListComp elt [⟨tg, iter, [c], 0⟩] scope pos) (tLc wi (g X.s_0 X.H_0 0 [] []) (tt X.s_0 X.H_0 0 [] []) (te X.s_0 X.H_0 0 [] []) (own.map (·.2))) (lComp f (own.map (·.2)) p ft fe) :=
  dxf_lc hc hN hi ok hts (fun s H C cl fp => hg0 s H C cl fp ▸ hg s H C cl fp) (fun s H C cl fp => pts_one (ht0 s H C cl fp ▸ (ht s H C cl fp)).pt) (ht X.s_0 X.H_0 0 [] []).dt (fun s H C cl fp => he0 s H C cl fp ▸ he s H C cl fp) hs
/-- name = [..] on one line -/
theorem setLc_ps {i : Nat} {y : Str} {py : Pos} {elt tg iter : Expr} {ifs : List Expr} {scope : Scope} {own : List (Str × Nat)} {spos : Pos} {wi : TI} {g : TG} {tt : TT} {te : TE} (hc : X.calm = true) (hN : X.N.Nodup) (hy : X.N[i]? = some y) (hyl : X.env.scope.names.lookup y = some .local)
    (hsw : swapsWith (.ListComp elt [⟨tg, iter, ifs, 0⟩] scope pos) (some (.Name y py)) spos.line X.env = pure true) (hi : PI X tg iter wi) (ok : BlkOk X.N X.env.scope scope own)
    (hg : ∀ (s : Shared) (H : Hp) (C : Addr) (cl : List (Str × Addr)) (fp : List Addr), PG (X.blk s H scope (compEnvC scope cl C X.env) fp) tg g) (ht : ∀ (s : Shared) (H : Hp) (C : Addr) (cl : List (Str × Addr)) (fp : List Addr), PTs (X.blk s H scope (compEnvC scope cl C X.env) fp) ifs tt)
    (he : ∀ (s : Shared) (H : Hp) (C : Addr) (cl : List (Str × Addr)) (fp : List Addr), PE (X.blk s H scope (compEnvC scope cl C X.env) fp) elt te) (hs : ∀ x, foldedSetIterable iter X.env x = pure x) :
    PS X (.Assign [.Name y py] (.ListComp elt [⟨tg, iter, ifs, 0⟩] scope pos) spos) (tAsg (tLc wi g tt te (own.map (·.2))) (gName i)) := ps_setLc hc hN hy hyl hsw hi ok hg ht he hs
end
end DL

namespace DL
open PySem PySem.Spec PyProof.Rows L2

/-! ### defs of data -/
/-- the wish of the kit's layer for a wish by class numbers -/
def WR (cl : Nat → Addr) (Wx : Wsh) : WX := fun cls d σ H => ∃ c, cls = .ref (cl c) ∧ d = none ∧ Wx c σ H
theorem takesN {X : Cx} {cl : Nat → Addr} : Takes X (WR cl NoW) := fun _ _ x => by
  obtain ⟨_, _, _, _, _, _, _, _, _, _, _, _, _, _, _, _, c, _, _, z⟩ := x
  exact z.elim
def spD (cl : Nat → Addr) (n : Nat) (sem : List D → Res Unit D) : Sp := fun vs H Q E => vs.length = n ∧ ∃ (M0 : Addr → Prop) (ds : List D), InH M0 H ∧ RpAll (Fz M0 H) vs ds ∧ (match sem ds with
  | .ok d _ => ∀ v H', Same H H' → Rp (Fz M0 H') v d → Q v H'
  | .er c _ => ∀ H', Same H H' → E (.ref (cl c)) none H'
  | .bad => False)
def pureW (M0 : Addr → Prop) (H0 : Hp) (h : InH M0 H0) : Wd Unit where
  hid := M0
  low := fun p => H0 p ≠ none
  at_ := fun _ H => Same H0 H
  ext := fun _ _ _ a b => a.trans b
  mutn := fun _ H p _ _ a _ _ _ l => Same.mut a (by
    cases z : H0 p with
    | none => rfl
    | some o => exact absurd (by rw [z]; simp) l)
  hidIn := fun _ H p a m => (h.up a) p m
  lowIn := fun _ H p a l => by
    cases z : H0 p with
    | none => exact absurd z l
    | some o => rw [a p o z]; simp
def allF : Fam Unit := ⟨fun _ => True, fun _ _ _ _ _ _ => trivial⟩
/-- what a def makes of its arguments -/
def fnSem (m : Nat) (F : FS Unit) (ds : List D) : Res Unit D := match F (ds.map .d ++ List.replicate m .no) () with
  | .rt (.d d) s => .ok d s
  | .nx _ s => .ok .none s
  | .er c _ s => .er c s
  | _ => .bad
theorem start_env {W : Wd Unit} {N : List Str} {vs : List V} {ds : List D} {H : Hp} (hW : W.at_ () H) (r : RpAll (Fz W.hid H) vs ds) : EnvOk W (ds.map .d ++ List.replicate (N.length - vs.length) .no) (L2.start N vs) () H := by
  have hl := r.len
  have no : ∀ b, ¬ Own (ds.map Sl.d ++ List.replicate (N.length - vs.length) Sl.no) (L2.start N vs) b := fun b ⟨i, xs, h1, _⟩ => by
    by_cases hi : i < (ds.map Sl.d).length
    · rw [List.getElem?_append_left hi, List.getElem?_map] at h1
      cases z : ds[i]? with
      | none => rw [z] at h1; cases h1
      | some x => rw [z] at h1; cases h1
    · rw [List.getElem?_append_right (by omega), List.getElem?_replicate] at h1
      split at h1 <;> cases h1
  have up : Same (Fz W.hid H) (Frz W (ds.map .d ++ List.replicate (N.length - vs.length) .no) (L2.start N vs) H) := Fz_mono (fun b _ q => q.elim id fun z => absurd z (no b)) fun _ _ _ q => q
  refine ⟨?_, hW, fun i x h => ?_, fun i x h => ?_, fun i xs h => ?_, fun i j xs ys a h1 _ _ _ => ?_⟩
  · unfold L2.start
    simp [hl]
  · by_cases hi : i < (ds.map Sl.d).length
    · rw [List.getElem?_append_left hi, List.getElem?_map] at h
      cases z : ds[i]? with
      | none => rw [z] at h; cases h
      | some y =>
        rw [z] at h
        have e : y = x := by simpa using h
        subst e
        obtain ⟨v, h1, h2⟩ := r.get z
        refine ⟨v, ?_, h2.up up⟩
        unfold L2.start
        rw [List.getElem?_append_left (by rw [List.length_map]; simpa [hl] using hi), List.getElem?_map, h1]
        rfl
    · rw [List.getElem?_append_right (by omega), List.getElem?_replicate] at h
      split at h <;> cases h
  · by_cases hi : i < (ds.map Sl.d).length
    · rw [List.getElem?_append_left hi, List.getElem?_map] at h
      cases z : ds[i]? with
      | none => rw [z] at h; cases h
      | some y => rw [z] at h; cases h
    · rw [List.getElem?_append_right (by omega), List.getElem?_replicate] at h
      split at h <;> cases h
  · by_cases hi : i < (ds.map Sl.d).length
    · rw [List.getElem?_append_left hi, List.getElem?_map] at h
      cases z : ds[i]? with
      | none => rw [z] at h; cases h
      | some y => rw [z] at h; cases h
    · rw [List.getElem?_append_right (by omega), List.getElem?_replicate] at h
      split at h <;> cases h
  · by_cases hi : i < (ds.map Sl.d).length
    · rw [List.getElem?_append_left hi, List.getElem?_map] at h1
      cases z : ds[i]? with
      | none => rw [z] at h1; cases h1
      | some y => rw [z] at h1; cases h1
    · rw [List.getElem?_append_right (by omega), List.getElem?_replicate] at h1
      split at h1 <;> cases h1
/-- the wish of a def's own context -/
def WE1 (cl : Nat → Addr) (E : XK) : Wsh := fun c _ H => E (.ref (cl c)) none H
theorem takesE {X : Cx} {cl : Nat → Addr} {E : XK} (h : Takes X (fun cls d _ H => E cls d H)) : Takes X (WR cl (WE1 cl E)) := h.imp fun cls d σ H ⟨c, e1, e2, w⟩ => by
  subst e1 e2
  exact w
section
variable {P : Program} {w : World} {K : PySem.W.Frag} {mg : Str → Option Value} {base : Heap} {cl : Nat → Addr}
theorem fn_pure {x qual : Str} {st : Stmt} {f : Addr} {fd : FuncData} {N ps : List Str} {k m : Nat} {F : FS Unit} (Fn : Fun K x qual st f fd) (Sc : FnScope N ps (defScope st)) (hm : N.length = ps.length + m)
    (body : ∀ (cdv : Value) (A : Around) (outer : List PySem.Env) (s : Shared) (H : Hp) (E : XK), Room k (A.deeper (envOfC qual (defScope st) s.heap.objs.size f cdv)) →
      ∃ t, DXSs (cxOf (L2.CX P w) P w K mg base N qual (defScope st) f cdv A outer s H E) allF (WE1 cl E) (defBody st) t F) :
    FnOk P w K mg base (L2.CX P w) (k + 1) f fd ps (spD cl ps.length (fnSem m F)) := by
  refine Fn.okX Sc (fun vs H Q E h => h.1) fun cdv A outer s H vs Q E hr h => ?_
  obtain ⟨t, hb⟩ := body cdv A outer s H E hr
  obtain ⟨hl, M0, ds, hM, r, hs⟩ := h
  refine ⟨t, hb.ps, ?_⟩
  have hm' : m = N.length - vs.length := by omega
  refine hb.ds (pureW M0 H hM) trivial _ _ () H _ (start_env (W := pureW M0 H hM) (N := N) (Same.refl H) r) ?_
  unfold fnSem at hs
  rw [hm'] at hs
  cases hF : F (ds.map .d ++ List.replicate (N.length - vs.length) .no) () with
  | nx ρ' s' => rw [hF] at hs; exact fun σ' H' e g => hs _ _ e.at_ .non
  | rt d s' =>
    rw [hF] at hs
    cases d with
    | d d => exact fun v H' a i => hs v H' a i
    | v d => exact hs.elim
  | er c ρ' s' => rw [hF] at hs; exact fun σ' H' e g => hs H' e.at_
  | bk ρ' s' => rw [hF] at hs; exact hs.elim
  | ct ρ' s' => rw [hF] at hs; exact hs.elim
  | bad => rw [hF] at hs; exact hs.elim
end
/-- a def called -/
def eFn {S : Type} (n : Nat) (sem : List D → Res Unit D) (g : FA S) : FE S := fun ρ s => (g ρ s).bnd fun xs s => match datas xs with
  | some ds => if ds.length = n then (match sem ds with
      | .ok d _ => .ok (.d d) s
      | .er c _ => .er c s
      | .bad => .bad) else .bad
  | none => .bad
section
variable {S : Type} {X : Cx} {𝒲 : Fam S} {Wx : Wsh} {e : Expr} {es : List Expr} {t : TA} {g : FA S} {pos : Pos} {cl : Nat → Addr}
theorem IsAll.len {F : Hp} : ∀ {vs : List V} {ds : List Dv}, IsAll F vs ds → vs.length = ds.length
  | _, _, .nil => rfl
  | _, _, .cons _ h => by simp [IsAll.len h]
theorem dx_fn {k n : Nat} {f : Addr} {fd : FuncData} {ps : List Str} {sem : List D → Res Unit D} {x : Str} {p : Pos} (Fo : FnOk X.prog X.w X.K X.mg X.base (L2.CX X.prog X.w) k f fd ps (spD cl n sem)) (hr : Room k X.A) (hm : X.mg x = some (.ref f)) (hk : PySem.W.keepIn X.K (.ref f) = true) (hb : Binds X.K fd ps [])
    (tk : Takes X (WR cl Wx)) (ha : DXA X 𝒲 Wx (e :: es) t g) (hg : Gl X x := by rfl) (hdb : (x == ("__debug__" : Str)) = false := by decide) (he : starEach (e :: es) X.env = (false, eval e X.env) :: starEach es X.env := by rfl) (hpl : (backTo pos (starEach es X.env)).any (·.1) = false := by rfl) :
    DX X 𝒲 Wx (.Call (.Name x p) (e :: es) [] pos) (tCallS (spD cl n sem) (WE (WR cl Wx)) t) (eFn n sem g) := by
  refine ⟨pe_callS Fo hr hg hm hk hb (fun σ => passAt tk σ) ha.pa hdb he hpl, fun W hW ρ σ s H Q E h => ?_⟩
  refine ha.da W hW ρ σ s H _ E (h.bnd.imp fun xs s1 H1 a1 e1 q v hv => ?_)
  have E1 := E.step a1 e1
  cases hd : datas xs with
  | none => rw [hd] at q; exact q.elim
  | some ds =>
    rw [hd] at q
    have r := datas_rp hv hd
    dsimp only at q
    split at q
    · rename_i hn
      refine ⟨by rw [r.len]; exact hn, _, ds, E1.inH, r, ?_⟩
      cases hs : sem ds with
      | ok d _ =>
        rw [hs] at q
        exact fun v' H' sm rv => q H' (W.ext _ _ _ a1 sm) (Stp.of sm) v' rv
      | er c _ =>
        rw [hs] at q
        exact fun H' sm => ⟨c, rfl, rfl, q H' (W.ext _ _ _ a1 sm) (Stp.of sm)⟩
      | bad => rw [hs] at q; exact q.elim
    · exact q.elim
/-- raise X('..') -/
def sRaise (c : Nat) : FS S := fun ρ s => .er c ρ s
theorem ds_raise (c : Nat) {x m : Str} {j : Nat} {p p2 pos' : Pos} {bmB : List Value} {B newId initId : String} (hc : X.calm = true) (tk : Takes X (WR cl Wx)) (F : ExcBaseFacts B newId initId bmB) (q : PySem.W.excIn X.K (cl c) bmB newId = true) (gC : X.mg x = some (.ref (cl c))) (kC : PySem.W.keepIn X.K (.ref (cl c)) = true)
    (r : Raises X (.ref (cl c))) (hg : Gl X x := by rfl) (hdb : (x == ("__debug__" : Str)) = false := by decide) :
    DXS X 𝒲 Wx (.Raise (some (.Call (.Name x p) [.Constant (.str m) j p2] [] pos')) none pos) (fun _ σ H => WR cl Wx (.ref (cl c)) none σ H) (sRaise c) :=
  ⟨ps_raise hc tk (pmk_own F q gC kC r hg hdb), fun W hW ρ σ s H D E h => ⟨c, rfl, rfl, h σ H E Grow.refl⟩⟩
end
end DL

namespace DL
open PySem PySem.Spec PyProof.Rows L2
section
variable {S : Type} {X : Cx} {𝒲 : Fam S} {Wx : Wsh} {e a b : Expr} {ta tb tc : TE} {fa fb fc : FE S} {pos : Pos} {t u : TS} {F G : FS S}

/-! ### constants of the module -/
def GC (mg : Str → Option Value) (x : Str) (v : V) : Prop := ∃ u, mg x = some u ∧ RelV v u
theorem dx_globI {x : Str} {i : Int} (h : GC X.mg x (.int i)) (hg : Gl X x := by rfl) (hd : (x == ("__debug__" : Str)) = false := by decide) : DX X 𝒲 Wx (.Name x pos) (tC (.int i)) (eC (.int i)) := let ⟨_, hm, r⟩ := h; ⟨pe_glob hg hm r hd, de_c fun _ => .int i⟩
theorem dx_globS {x y : Str} (h : GC X.mg x (.str y)) (hy : y.length ≤ lim ∧ PyData.strOk y = true := by decide +kernel) (hg : Gl X x := by rfl) (hd : (x == ("__debug__" : Str)) = false := by decide) : DX X 𝒲 Wx (.Name x pos) (tC (.str y)) (eC (.str y)) := let ⟨_, hm, r⟩ := h; ⟨pe_glob hg hm r hd, de_c fun _ => .str y hy.1 hy.2⟩

/-! ### isinstance -/
def tyD : D → String
  | .none => "NoneType"
  | .bool _ => "bool"
  | .int _ => "int"
  | .str _ => "str"
  | .list _ => "list"
  | .tuple _ => "tuple"
  | .dict _ => "dict"
structure Isi (ty : String) (f : D → Bool) : Prop where
  kit : ∀ d, kitB (tyD d) ty = some (f d)
def isInt : D → Bool
  | .int _ | .bool _ => true
  | _ => false
def isBool : D → Bool
  | .bool _ => true
  | _ => false
def isStr : D → Bool
  | .str _ => true
  | _ => false
def isList : D → Bool
  | .list _ => true
  | _ => false
def isTuple : D → Bool
  | .tuple _ => true
  | _ => false
theorem isi_int : Isi "int" isInt := ⟨fun d => by cases d <;> first | exact (by decide +kernel : kitB "NoneType" "int" = some false) | exact (by decide +kernel : kitB "bool" "int" = some true) | exact (by decide +kernel : kitB "int" "int" = some true) | exact (by decide +kernel : kitB "str" "int" = some false) | exact (by decide +kernel : kitB "list" "int" = some false) | exact (by decide +kernel : kitB "tuple" "int" = some false) | exact (by decide +kernel : kitB "dict" "int" = some false)⟩
theorem isi_bool : Isi "bool" isBool := ⟨fun d => by cases d <;> first | exact (by decide +kernel : kitB "NoneType" "bool" = some false) | exact (by decide +kernel : kitB "bool" "bool" = some true) | exact (by decide +kernel : kitB "int" "bool" = some false) | exact (by decide +kernel : kitB "str" "bool" = some false) | exact (by decide +kernel : kitB "list" "bool" = some false) | exact (by decide +kernel : kitB "tuple" "bool" = some false) | exact (by decide +kernel : kitB "dict" "bool" = some false)⟩
theorem isi_str : Isi "str" isStr := ⟨fun d => by cases d <;> first | exact (by decide +kernel : kitB "NoneType" "str" = some false) | exact (by decide +kernel : kitB "bool" "str" = some false) | exact (by decide +kernel : kitB "int" "str" = some false) | exact (by decide +kernel : kitB "str" "str" = some true) | exact (by decide +kernel : kitB "list" "str" = some false) | exact (by decide +kernel : kitB "tuple" "str" = some false) | exact (by decide +kernel : kitB "dict" "str" = some false)⟩
theorem isi_list : Isi "list" isList := ⟨fun d => by cases d <;> first | exact (by decide +kernel : kitB "NoneType" "list" = some false) | exact (by decide +kernel : kitB "bool" "list" = some false) | exact (by decide +kernel : kitB "int" "list" = some false) | exact (by decide +kernel : kitB "str" "list" = some false) | exact (by decide +kernel : kitB "list" "list" = some true) | exact (by decide +kernel : kitB "tuple" "list" = some false) | exact (by decide +kernel : kitB "dict" "list" = some false)⟩
theorem isi_tuple : Isi "tuple" isTuple := ⟨fun d => by cases d <;> first | exact (by decide +kernel : kitB "NoneType" "tuple" = some false) | exact (by decide +kernel : kitB "bool" "tuple" = some false) | exact (by decide +kernel : kitB "int" "tuple" = some false) | exact (by decide +kernel : kitB "str" "tuple" = some false) | exact (by decide +kernel : kitB "list" "tuple" = some false) | exact (by decide +kernel : kitB "tuple" "tuple" = some true) | exact (by decide +kernel : kitB "dict" "tuple" = some false)⟩
theorem rp_ty {K : PySem.W.Frag} {F H : Hp} {v : V} {d : D} (h : Rp F v d) (e : Same F H) : TyOf K H v (.type (tyD d)) := by
  cases h with
  | non => exact .non
  | bl b => exact .bl b
  | int i => exact .int i
  | str x _ _ => exact .str x
  | lst a _ _ => exact .lst (e _ _ a)
  | tup a _ _ => exact .tup (e _ _ a)
def eIsi (f : D → Bool) (fa : FE S) : FE S := fun ρ s => (fa ρ s).bnd fun x s => match x with
  | .d x => .ok (.d (.bool (f x))) s
  | .v _ => .bad
theorem dx_isi {ty : String} {f : D → Bool} (hi : Isi ty f) {y : Str} {p p2 : Pos} (hm : X.mg "isinstance" = none) (hm2 : X.mg y = none) (ha : DX X 𝒲 Wx a ta fa) (hv2 : bootBuiltins y = some (.type ty) := by decide +kernel) (hg : Gl X "isinstance" := by rfl) (hg2 : Gl X y := by rfl)
    (hn2 : y ≠ "__name__" := by decide) (hd2 : (y == ("__debug__" : Str)) = false := by decide) (he : starEach [a, .Name y p2] X.env = (false, eval a X.env) :: starEach [.Name y p2] X.env := by rfl) (hpl : (backTo pos (starEach [.Name y p2] X.env)).any (·.1) = false := by rfl)
    (hs2 : starEach [.Name y p2] X.env = (false, eval (.Name y p2) X.env) :: starEach [] X.env := by rfl) :
    DX X 𝒲 Wx (.Call (.Name "isinstance" p) [a, .Name y p2] [] pos) (tCB (rIsi X.K) (tCons ta (tCons (tC (.ty ty)) tNil))) (eIsi f fa) := by
  refine ⟨pe_callB call_isi hg hm PyProof.Rows.boot_isinstance (pa_cons ha.pe (pa_cons (pe_bltn hg2 hm2 hv2 rfl hn2 hd2) pa_nil hs2) he) (by decide) (by decide) he hpl, fun W hW ρ σ s H Q E h => ?_⟩
  refine ha.de W hW ρ σ s H _ E (h.bnd.imp fun x s1 H1 a1 e1 q v hv => ?_)
  cases x with
  | v x => exact q.elim
  | d d => exact ⟨v, .ty ty, .type (tyD d), .type ty, f d, rfl, .ty ty, .base (rp_ty hv Fz_sub), kit_ty (hi.kit d), q.ok a1 _ (Rp.bl _)⟩

/-! ### sorted(set(xs)) -/
theorem dx_sortSet {p p2 pos2 : Pos} {t : TA} {g : FA S} (hc : X.calm = true) (hm : X.mg "sorted" = none) (hm2 : X.mg "set" = none) (ha : DXA X 𝒲 Wx [a] t g) (hg : Gl X "sorted" := by rfl) (hg2 : Gl X "set" := by rfl)
    (he : starEach [.Call (.Name "set" p2) [a] [] pos2] X.env = (false, eval (.Call (.Name "set" p2) [a] [] pos2) X.env) :: starEach [] X.env := by rfl) (he2 : starEach [a] X.env = (false, eval a X.env) :: starEach [] X.env := by rfl)
    (hpl : (backTo pos (starEach [] X.env)).any (·.1) = false := by rfl) (hpl2 : (backTo pos2 (starEach [] X.env)).any (·.1) = false := by rfl) :
    DX X 𝒲 Wx (.Call (.Name "sorted" p) [.Call (.Name "set" p2) [a] [] pos2] [] pos) (tCB (rSortedSet X.w) (tCons (tCB (rSetL X.K X.w) t) tNil)) (eCall sortSetD g) := by
  refine ⟨pe_callB (cr_sortedSet hc) hg hm PyProof.Rows.boot_sorted (pa_cons (pe_callTy (cr_setL hc) hg2 hm2 PyProof.Rows.boot_set ha.pa (by decide) (by decide) he2 hpl2) pa_nil he) (by decide) (by decide) he hpl, fun W hW ρ σ s H Q E hp => ?_⟩
  refine ha.da W hW ρ σ s H _ E (hp.bnd.imp fun x s1 H1 a1 e1 q v hv => ?_)
  cases hd : datas x with
  | none => rw [hd] at q; exact q.elim
  | some ds =>
    rw [hd] at q
    have q : Post W Wx σ H1 (lift (sortSetD ds) s1) _ := q
    cases hz : sortSetD ds with
    | none => rw [hz] at q; exact q.elim
    | some z =>
      rw [hz] at q
      exact sa_sortSet (K := X.K) (w := X.w) _ H1 v ds z Q (E.step a1 e1).inH (datas_rp hv hd) hz fun w H3 e3 hw => q H3 (W.ext _ _ _ a1 e3) (Stp.of e3) w hw

/-! ### name = [..] on one line -/
theorem de_new {t : TE} {f : FL S} (h : DF 𝒲 Wx t f) : DE 𝒲 Wx t (eNew f) := by
  intro W hW ρ σ s H Q E hp
  refine h W hW ρ σ s H _ E (hp.bnd.imp fun ds s1 H1 a1 e1 q p vs h0 h1 hl r => ?_)
  have n := E.new h0
  exact q.ok a1 _ (.lst (Fz_at (fun z => z.elim n.1 n.2.2) h1) hl (r.up frz_hide))
section
variable {tg iter elt c : Expr} {scope : Scope} {own : List (Str × Nat)} {wi : TI} {g : Shared → Hp → Addr → List (Str × Addr) → List Addr → TG} {p : D → Env → Option Env} {ts : List Nat} {f : FL S} {te : Shared → Hp → Addr → List (Str × Addr) → List Addr → TE} {fe : FE S} {tt : Shared → Hp → Addr → List (Str × Addr) → List Addr → TT} {ft : FT S} {y : Str} {py spos : Pos}
theorem ds_setLc0 (i : Nat) (hc : X.calm = true) (hN : X.N.Nodup) (hi : DXI X 𝒲 Wx tg iter wi f) (ok : BlkOk X.N X.env.scope scope own)
    (hg : ∀ (s : Shared) (H : Hp) (C : Addr) (cl : List (Str × Addr)) (fp : List Addr), DXG (X.blk s H scope (compEnvC scope cl C X.env) fp) tg (g s H C cl fp) p ts)
    (he : ∀ (s : Shared) (H : Hp) (C : Addr) (cl : List (Str × Addr)) (fp : List Addr), DX (X.blk s H scope (compEnvC scope cl C X.env) fp) 𝒲 NoW elt (te s H C cl fp) fe)
    (hts : ∀ j ∈ ts, j ∈ own.map (·.2) := by decide) (hg0 : ∀ (s : Shared) (H : Hp) (C : Addr) (cl : List (Str × Addr)) (fp : List Addr), g s H C cl fp = g X.s_0 X.H_0 0 [] [] := by intros; rfl) (he0 : ∀ (s : Shared) (H : Hp) (C : Addr) (cl : List (Str × Addr)) (fp : List Addr), te s H C cl fp = te X.s_0 X.H_0 0 [] [] := by intros; rfl)
    (hy : X.N[i]? = some y := by rfl) (hyl : X.env.scope.names.lookup y = some .local := by rfl) (hsw : swapsWith (.ListComp elt [⟨tg, iter, [], 0⟩] scope pos) (some (.Name y py)) spos.line X.env = pure true := by exact sw_true rfl rfl rfl (by decide +kernel))
    (hs : ∀ x, foldedSetIterable iter X.env x = pure x := by intro _; rfl) :
    DXS X 𝒲 Wx (.Assign [.Name y py] (.ListComp elt [⟨tg, iter, [], 0⟩] scope pos) spos) (tAsg (tLc wi (g X.s_0 X.H_0 0 [] []) tYes (te X.s_0 X.H_0 0 [] []) (own.map (·.2))) (gName i)) (sSet i (eNew (lComp f (own.map (·.2)) p fYes fe))) :=
  ⟨setLc_ps hc hN hy hyl hsw hi.pi ok (fun s H C cl fp => (hg0 s H C cl fp ▸ hg s H C cl fp).pg) (fun _ _ _ _ _ => pts_nil) (fun s H C cl fp => (he0 s H C cl fp ▸ he s H C cl fp).pe) hs,
   set_ok (de_new (comp_ok hi.di (hg X.s_0 X.H_0 0 [] []).ok (hg X.s_0 X.H_0 0 [] []).kp hts dt_yes (he X.s_0 X.H_0 0 [] []).de))⟩
theorem ds_setLc1 (i : Nat) (hc : X.calm = true) (hN : X.N.Nodup) (hi : DXI X 𝒲 Wx tg iter wi f) (ok : BlkOk X.N X.env.scope scope own)
    (hg : ∀ (s : Shared) (H : Hp) (C : Addr) (cl : List (Str × Addr)) (fp : List Addr), DXG (X.blk s H scope (compEnvC scope cl C X.env) fp) tg (g s H C cl fp) p ts)
    (ht : ∀ (s : Shared) (H : Hp) (C : Addr) (cl : List (Str × Addr)) (fp : List Addr), DXT (X.blk s H scope (compEnvC scope cl C X.env) fp) 𝒲 NoW c (tt s H C cl fp) ft)
    (he : ∀ (s : Shared) (H : Hp) (C : Addr) (cl : List (Str × Addr)) (fp : List Addr), DX (X.blk s H scope (compEnvC scope cl C X.env) fp) 𝒲 NoW elt (te s H C cl fp) fe)
    (hts : ∀ j ∈ ts, j ∈ own.map (·.2) := by decide) (hg0 : ∀ (s : Shared) (H : Hp) (C : Addr) (cl : List (Str × Addr)) (fp : List Addr), g s H C cl fp = g X.s_0 X.H_0 0 [] [] := by intros; rfl) (ht0 : ∀ (s : Shared) (H : Hp) (C : Addr) (cl : List (Str × Addr)) (fp : List Addr), tt s H C cl fp = tt X.s_0 X.H_0 0 [] [] := by intros; rfl) (he0 : ∀ (s : Shared) (H : Hp) (C : Addr) (cl : List (Str × Addr)) (fp : List Addr), te s H C cl fp = te X.s_0 X.H_0 0 [] [] := by intros; rfl)
    (hy : X.N[i]? = some y := by rfl) (hyl : X.env.scope.names.lookup y = some .local := by rfl) (hsw : swapsWith (.ListComp elt [⟨tg, iter, [c], 0⟩] scope pos) (some (.Name y py)) spos.line X.env = pure true := by exact sw_true rfl rfl rfl (by decide +kernel))
    (hs : ∀ x, foldedSetIterable iter X.env x = pure x := by intro _; rfl) :
    DXS X 𝒲 Wx (.Assign [.Name y py] (.ListComp elt [⟨tg, iter, [c], 0⟩] scope pos) spos) (tAsg (tLc wi (g X.s_0 X.H_0 0 [] []) (tt X.s_0 X.H_0 0 [] []) (te X.s_0 X.H_0 0 [] []) (own.map (·.2))) (gName i)) (sSet i (eNew (lComp f (own.map (·.2)) p ft fe))) :=
  ⟨setLc_ps hc hN hy hyl hsw hi.pi ok (fun s H C cl fp => (hg0 s H C cl fp ▸ hg s H C cl fp).pg) (fun s H C cl fp => pts_one (ht0 s H C cl fp ▸ ht s H C cl fp).pt) (fun s H C cl fp => (he0 s H C cl fp ▸ he s H C cl fp).pe) hs,
   set_ok (de_new (comp_ok hi.di (hg X.s_0 X.H_0 0 [] []).ok (hg X.s_0 X.H_0 0 [] []).kp hts (ht X.s_0 X.H_0 0 [] []).dt (he X.s_0 X.H_0 0 [] []).de))⟩
end

/-! ### xs.append(e) of an own list -/
theorem ds_appM (i : Nat) {x : Str} {p apos cpos : Pos} (ho : PE X (.Name x p) (tVar i)) (ha : DX X 𝒲 Wx a ta fa) (hbase : attributeBase (.Name x p) "append" X.env (eval (.Name x p) X.env) = eval (.Name x p) X.env := by rfl)
    (hfew : ((backTo cpos (starEach [a] X.env)).all (fun x => !x.1) && (backToKw cpos (keywordEach [] X.env)).all (fun x => x.1.isSome)
      && decide ([a].length + ([] : List Keyword).length + (if ([] : List Keyword).isEmpty then 0 else 1) < 30)) = true := by rfl)
    (hline : (apos.endLine == cpos.line) = true := by rfl) (hs : starEach [a] X.env = (false, eval a X.env) :: starEach [] X.env := by rfl) (hplain : (backTo cpos (starEach [] X.env)).any (·.1) = false := by rfl)
    (hsw : swapsWith (.Call (.Attribute (.Name x p) "append" apos) [a] [] cpos) none pos.line X.env = pure false := by rfl) :
    DXS X 𝒲 Wx (.Expr (.Call (.Attribute (.Name x p) "append" apos) [a] [] cpos) pos) (tDrop (tBM X.K "list" rAppend (tVar i) (tCons ta tNil))) (sApp i fa) :=
  ⟨ps_expr (pe_bm PySem.F.plainAttrs_list PySem.F.slot_list_append PySem.F.type_list_append mt_append ho (pa_cons ha.pe pa_nil hs) hbase hfew hline hs hplain) hsw, app_ds ha.de⟩

/-! ### xs.count(x) -/
def rCountD (K : PySem.W.Frag) : V → List V → Hp → VK → Prop := fun x xs H Q => ∃ (a : Addr) (y : V) (d : PyData) (ds : List PyData), x = V.ref a ∧ xs = [y] ∧ Dp K H (V.ref a) (.list ds) ∧ Dp K H y d ∧ PyData.canLayAll0 ds = true ∧ d.canLay0 = true ∧ d.depth ≤ 64 ∧
  Q (.int ((ds.countP fun z => PyData.eqv z d : Nat) : Int)) H
theorem mt_countD (hu : X.A.units + 65 < cLine) : MtR X "list.count" (rCountD X.K) := by
  intro pins s σ H x xs v us Q I rx rxs h
  obtain ⟨a, y, d, ds, rfl, rfl, hl, hy, hxs, sd, hdep, q⟩ := h
  cases rx
  cases rxs with
  | cons ry rt =>
    rename_i uy ut
    cases rt
    obtain ⟨bs, r1⟩ := Dp.reads I d y uy hy ry
    have hroom : X.A.units + 1 + min (PyData.depthAll ds) d.depth < cLine := by omega
    cases hl with
    | lst hs ha =>
      obtain ⟨its, rv, ⟨⟨cls, dd, data, sls⟩, n, ho, hc, hdn, hdt⟩, hlen⟩ := I.list hs
      simp only at hc hdt
      subst hc hdt
      obtain ⟨as, h4⟩ := Dp.readsAll I ds _ its ha rv
      have hmap : its.map (SeqAt.readOf s.heap) = ds := SeqAt.readsAll_map ds its as hxs h4
      refine call_meets PySem.F.slot_list_count ⟨_, ho, rfl⟩ PySem.F.entry_list_count (PySem.F.args_list_count_2 _ _)
        (SeqAt.list_countAt a its.toArray n dd sls uy (fun u => PyData.eqv (SeqAt.readOf s.heap u) d)) ⟨ho, SeqAt.items_eqAt (vs := its.toArray) (show ReadsAll s.heap its.toArray.toList ds as from h4) r1 hxs sd hroom, ?_⟩
      have ec : its.toArray.toList.countP (fun u => PyData.eqv (SeqAt.readOf s.heap u) d) = ds.countP fun z => PyData.eqv z d := by
        rw [← hmap, List.countP_map]
        rfl
      refine ⟨.int ((ds.countP fun z => PyData.eqv z d : Nat) : Int), H, I.tok _, ⟨s.toks, ?_⟩, q⟩
      show Value.int ((its.toArray.toList.countP (fun u => PyData.eqv (SeqAt.readOf s.heap u) d) : Nat) : Int) s.toks = _
      rw [ec]
/-- o.m(x) of a list o -/
def eBmL (op : List D → D → Option D) (fo fa : FE S) : FE S := fun ρ s => (fo ρ s).bnd fun x s => match x with
  | .d (.list ds) => (fa ρ s).bnd fun y s => (match y with
    | .d y => lift (op ds y) s
    | .v _ => .bad)
  | _ => .bad
def countD (ds : List D) (y : D) : Option D := if y.depth ≤ 64 then some (.int ((ds.countP fun z => PyData.eqv z y : Nat) : Int)) else none
theorem dx_count {o : Expr} {to : TE} {fo : FE S} {apos cpos : Pos} (hu : X.A.units + 65 < cLine) (ho : DX X 𝒲 Wx o to fo) (ha : DX X 𝒲 Wx a ta fa) (hbase : attributeBase o "count" X.env (eval o X.env) = eval o X.env := by rfl)
    (hfew : ((backTo cpos (starEach [a] X.env)).all (fun x => !x.1) && (backToKw cpos (keywordEach [] X.env)).all (fun x => x.1.isSome)
      && decide ([a].length + ([] : List Keyword).length + (if ([] : List Keyword).isEmpty then 0 else 1) < 30)) = true := by rfl)
    (hline : (apos.endLine == cpos.line) = true := by rfl) (hs : starEach [a] X.env = (false, eval a X.env) :: starEach [] X.env := by rfl) (hplain : (backTo cpos (starEach [] X.env)).any (·.1) = false := by rfl) :
    DX X 𝒲 Wx (.Call (.Attribute o "count" apos) [a] [] cpos) (tBM X.K "list" (rCountD X.K) to (tCons ta tNil)) (eBmL countD fo fa) := by
  refine ⟨pe_bm PySem.F.plainAttrs_list PySem.F.slot_list_count PySem.F.type_list_count (mt_countD hu) ho.pe (pa_cons ha.pe pa_nil hs) hbase hfew hline hs hplain, fun W hW ρ σ s H Q E h => ?_⟩
  refine ho.de W hW ρ σ s H _ E (h.bnd.imp fun x s1 H1 a1 e1 q v hv => ?_)
  have E1 := E.step a1 e1
  split at q
  · rename_i ds
    have hv : Rp _ v (.list ds) := hv
    cases hv with
    | lst h1 l1 r1 =>
      refine ⟨.inl ⟨rfl, _, SqL.of (Fz_sub _ _ h1)⟩, ?_⟩
      refine ha.de W hW ρ σ s1 H1 _ E1 (q.bnd.imp fun y s2 H2 a2 e2 q2 u hu => ?_)
      cases y with
      | v y => exact q2.elim
      | d y =>
        have q2 : Post W Wx σ H2 (lift (countD ds y) s2) _ := q2
        cases hz : countD ds y with
        | none => rw [hz] at q2; exact q2.elim
        | some z =>
          rw [hz] at q2
          obtain ⟨hdep, rfl⟩ := ite_some hz
          have hu : Rp _ u y := hu
          have r2 := r1.up (Frz.stp e2)
          exact ⟨_, u, y, ds, rfl, rfl, .lst (SqL.of (Fz_sub _ _ (Frz.stp e2 _ _ h1))) (r2.up Fz_sub).dp, (hu.up Fz_sub).dp, r2.lay, hu.lay, hdep, q2.ok a2 _ (Rp.int _)⟩
  · exact q.elim

/-! ### list(range(..)), tuple(range(..)) -/
def rgOk (a b : Int) : Bool := decide (-(2 ^ 62) ≤ a) && decide (a < 2 ^ 62) && decide (-(2 ^ 62) ≤ b) && decide (b < 2 ^ 62) && decide ((b - a).toNat ≤ lim)
theorem rgOk_is {a b : Int} (h : rgOk a b = true) : RgOk a b ∧ (b - a).toNat ≤ lim := by
  unfold rgOk at h
  simp only [Bool.and_eq_true, decide_eq_true_eq] at h
  obtain ⟨⟨⟨⟨h1, h2⟩, h3⟩, h4⟩, h5⟩ := h
  unfold lim at h5 ⊢
  exact ⟨⟨h1, h2, h3, h4, by omega⟩, h5⟩
theorem rgV_rp {F : Hp} (a b : Int) : RpAll F (rgV a b) (rngL a (b - a).toNat) := by
  have e1 : rgV a b = ((List.range (b - a).toNat).map fun i : Nat => a + (i : Int)).map V.int := by unfold rgV; rw [List.map_map]; rfl
  have e2 : rngL a (b - a).toNat = ((List.range (b - a).toNat).map fun i : Nat => a + (i : Int)).map PyData.int := by unfold rngL; rw [List.map_map]; rfl
  rw [e1, e2]
  exact ints_rp _
/-- an expression that makes a range, what it makes -/
structure DXR (X : Cx) (𝒲 : Fam S) (Wx : Wsh) (e : Expr) (t : L2.St → Hp → (Int → Int → Hp → Prop) → Prop) (f : Env → S → Res S (Int × Int)) : Prop where
  pr : PRg X e t
  dr : ∀ W, 𝒲.ok W → ∀ ρ σ s H (Q : Int → Int → Hp → Prop), EnvOk W ρ σ s H → Post W Wx σ H (f ρ s) (fun p _ H' => Q p.1 p.2 H') → t σ H Q
def rRg1 (fa : FE S) : Env → S → Res S (Int × Int) := fun ρ s => (fa ρ s).bnd fun x s => match x with
  | .d (.int n) => .ok (0, n) s
  | _ => .bad
def rRg2 (fa fb : FE S) : Env → S → Res S (Int × Int) := fun ρ s => (fa ρ s).bnd fun x s => (fb ρ s).bnd fun y s => match x, y with
  | .d (.int i), .d (.int j) => .ok (i, j) s
  | _, _ => .bad
theorem dr_1 {p : Pos} (hm : X.mg "range" = none) (ha : DX X 𝒲 Wx a ta fa) (hg : Gl X "range" := by rfl) (na : starEach [a] X.env = (false, eval a X.env) :: starEach [] X.env := by rfl) : DXR X 𝒲 Wx (.Call (.Name "range" p) [a] [] pos) (tRg1 ta) (rRg1 fa) := by
  refine ⟨prg_1 hg hm ha.pe na, fun W hW ρ σ s H Q E h => ?_⟩
  refine ha.de W hW ρ σ s H _ E (h.bnd.imp fun x s1 H1 a1 e1 q v hv => ?_)
  split at q
  · rename_i n
    cases (show Rp _ v (.int n) from hv)
    exact ⟨n, rfl, q.ok a1⟩
  · exact q.elim
theorem dr_2 {p : Pos} (hm : X.mg "range" = none) (ha : DX X 𝒲 Wx a ta fa) (hb : DX X 𝒲 Wx b tb fb) (hg : Gl X "range" := by rfl) (na : starEach [a, b] X.env = (false, eval a X.env) :: starEach [b] X.env := by rfl)
    (nb : starEach [b] X.env = (false, eval b X.env) :: starEach [] X.env := by rfl) (hp : (backTo pos (starEach [b] X.env)).any (·.1) = false := by rfl) : DXR X 𝒲 Wx (.Call (.Name "range" p) [a, b] [] pos) (tRg2 ta tb) (rRg2 fa fb) := by
  refine ⟨prg_2 hg hm ha.pe hb.pe na nb hp, fun W hW ρ σ s H Q E h => ?_⟩
  refine ha.de W hW ρ σ s H _ E (h.bnd.imp fun x s1 H1 a1 e1 q v hv => ?_)
  refine hb.de W hW ρ σ s1 H1 _ (E.step a1 e1) (q.bnd.imp fun y s2 H2 a2 e2 q2 u hu => ?_)
  split at q2
  · rename_i i j
    cases (show Rp _ v (.int i) from hv)
    cases (show Rp _ u (.int j) from hu)
    exact ⟨i, j, rfl, rfl, q2.ok a2⟩
  · exact q2.elim
def lRange (f : Env → S → Res S (Int × Int)) : FL S := fun ρ s => (f ρ s).bnd fun p s => if rgOk p.1 p.2 = true then .ok (rngL p.1 (p.2 - p.1).toNat) s else .bad
theorem dxf_listRg {p : Pos} {e : Expr} {t : L2.St → Hp → (Int → Int → Hp → Prop) → Prop} {f : Env → S → Res S (Int × Int)} (hc : X.calm = true) (hm : X.mg "list" = none) (h : DXR X 𝒲 Wx e t f) (hg : Gl X "list" := by rfl) (na : starEach [e] X.env = (false, eval e X.env) :: starEach [] X.env := by rfl) :
    DXF X 𝒲 Wx (.Call (.Name "list" p) [e] [] pos) (tLstRg t) (lRange f) := by
  refine ⟨pe_listRg hc hg hm h.pr na, fun W hW ρ σ s H Q E hp => ?_⟩
  refine h.dr W hW ρ σ s H _ E (hp.bnd.imp fun x s1 H1 a1 e1 q => ?_)
  split at q
  · rename_i hr
    obtain ⟨h1, h2⟩ := rgOk_is hr
    exact ⟨h1, fun p hn => q _ (W.ext _ _ _ a1 (Same.new hn)) (Stp.of (Same.new hn)) p _ (E.newBack a1 e1 hn) upd_same (by unfold rgV; rw [List.length_map, List.length_range]; exact h2) (rgV_rp _ _)⟩
  · exact q.elim
def eTupRg (f : Env → S → Res S (Int × Int)) : FE S := fun ρ s => (f ρ s).bnd fun p s => if rgOk p.1 p.2 = true then .ok (.d (.tuple (rngL p.1 (p.2 - p.1).toNat))) s else .bad
theorem dx_tupRg {p : Pos} {e : Expr} {t : L2.St → Hp → (Int → Int → Hp → Prop) → Prop} {f : Env → S → Res S (Int × Int)} (hc : X.calm = true) (hm : X.mg "tuple" = none) (h : DXR X 𝒲 Wx e t f) (hg : Gl X "tuple" := by rfl) (na : starEach [e] X.env = (false, eval e X.env) :: starEach [] X.env := by rfl) :
    DX X 𝒲 Wx (.Call (.Name "tuple" p) [e] [] pos) (tTupRg t) (eTupRg f) := by
  refine ⟨pe_tupRg hc hg hm h.pr na, fun W hW ρ σ s H Q E hp => ?_⟩
  refine h.dr W hW ρ σ s H _ E (hp.bnd.imp fun x s1 H1 a1 e1 q => ?_)
  split at q
  · rename_i hr
    obtain ⟨h1, h2⟩ := rgOk_is hr
    exact ⟨h1, fun p hn => q _ (W.ext _ _ _ a1 (Same.new hn)) (Stp.of (Same.new hn)) _ (rp_tup (E.step a1 e1).inH hn (by unfold rgV; rw [List.length_map, List.length_range]; exact h2) (rgV_rp _ _))⟩
  · exact q.elim
end
end DL

namespace DL
open PySem PySem.Spec PyProof.Rows L2
/-! ### the drawn numbers: a list [numbers, count] at a, its numbers at b -/
structure DSt where
  a : Addr
  b : Addr
  nums : List Int
  cnt : Int
structure Dr (s : DSt) (H : Hp) : Prop where
  ha : H s.a = some (.lst [.ref s.b, .int s.cnt])
  hb : H s.b = some (.lst (s.nums.map V.int))
  ne : s.a ≠ s.b
theorem Dr.up {s : DSt} {H H' : Hp} (h : Dr s H) (e : Same H H') : Dr s H' := ⟨e _ _ h.ha, e _ _ h.hb, h.ne⟩
/-- all else is kept -/
def Kept2 (a b : Addr) (H H' : Hp) : Prop := ∀ (c : Addr) (o : HO), c ≠ a → c ≠ b → H c = some o → H' c = some o
def drawOk (W : Wd DSt) : Prop := (∀ s H, W.at_ s H → W.hid s.a ∧ W.hid s.b ∧ Dr s H) ∧ ∀ s s' H H', W.at_ s H → s'.a = s.a → s'.b = s.b → Dr s' H' → Kept2 s.a s.b H H' → W.at_ s' H'
theorem drawOk_hide (W : Wd DSt) (p : Addr) (o : List V) (h : drawOk W) (n : ¬ W.hid p) (_ : ¬ W.low p) : drawOk (W.hide p (.lst o)) :=
  ⟨fun s H a => ⟨.inl (h.1 s H a.1).1, .inl (h.1 s H a.1).2.1, (h.1 s H a.1).2.2⟩, fun s s' H H' a e1 e2 d k =>
    ⟨h.2 s s' H H' a.1 e1 e2 d k, k p (.lst o) (fun z => n (by rw [z]; exact (h.1 s H a.1).1)) (fun z => n (by rw [z]; exact (h.1 s H a.1).2.1)) a.2⟩⟩
def drawFam : Fam DSt := ⟨drawOk, drawOk_hide⟩
/-- the promise of a def whose first argument is the drawn numbers -/
def spS (cl : Nat → Addr) (n : Nat) (sem : List D → DSt → Res DSt D) : Sp := fun vs H Q E => vs.length = n ∧ ∃ (M0 : Addr → Prop) (s : DSt) (ws : List V) (ds : List D), vs = .ref s.a :: ws ∧ InH M0 H ∧ M0 s.a ∧ M0 s.b ∧ Dr s H ∧ RpAll (Fz M0 H) ws ds ∧
  (match sem ds s with
  | .ok d s' => s'.a = s.a ∧ s'.b = s.b ∧ ∀ v H', Dr s' H' → Kept2 s.a s.b H H' → Rp (Fz M0 H') v d → Q v H'
  | .er c s' => s'.a = s.a ∧ s'.b = s.b ∧ ∀ H', Dr s' H' → Kept2 s.a s.b H H' → E (.ref (cl c)) none H'
  | .bad => False)
theorem Kept2.in {a b : Addr} {H H' : Hp} (k : Kept2 a b H H') (h1 : H' a ≠ none) (h2 : H' b ≠ none) {p : Addr} (h : H p ≠ none) : H' p ≠ none := by
  by_cases e1 : p = a
  · rw [e1]; exact h1
  · by_cases e2 : p = b
    · rw [e2]; exact h2
    · cases z : H p with
      | none => exact absurd z h
      | some o => rw [k p o e1 e2 z]; simp
def drawW (M0 : Addr → Prop) (s0 : DSt) (H0 : Hp) (hM : InH M0 H0) (ha : M0 s0.a) (hb : M0 s0.b) : Wd DSt where
  hid := M0
  low := fun p => H0 p ≠ none
  at_ := fun s H => s.a = s0.a ∧ s.b = s0.b ∧ Dr s H ∧ Kept2 s0.a s0.b H0 H
  ext := fun s H H' h e => ⟨h.1, h.2.1, h.2.2.1.up e, fun c o n1 n2 q => e _ _ (h.2.2.2 c o n1 n2 q)⟩
  mutn := fun s H p o o' h _ _ nh nl => by
    have n1 : s.a ≠ p := fun z => nh (by rw [← z, h.1]; exact ha)
    have n2 : s.b ≠ p := fun z => nh (by rw [← z, h.2.1]; exact hb)
    refine ⟨h.1, h.2.1, ⟨by rw [upd_ne n1]; exact h.2.2.1.ha, by rw [upd_ne n2]; exact h.2.2.1.hb, h.2.2.1.ne⟩, fun c o' m1 m2 q => ?_⟩
    have n3 : c ≠ p := fun z => nl (by rw [← z, q]; simp)
    rw [upd_ne n3]
    exact h.2.2.2 c o' m1 m2 q
  hidIn := fun s H p h m => h.2.2.2.in (by rw [← h.1, h.2.2.1.ha]; simp) (by rw [← h.2.1, h.2.2.1.hb]; simp) (hM p m)
  lowIn := fun s H p h m => h.2.2.2.in (by rw [← h.1, h.2.2.1.ha]; simp) (by rw [← h.2.1, h.2.2.1.hb]; simp) m
theorem drawW_ok {M0 : Addr → Prop} {s0 : DSt} {H0 : Hp} {hM : InH M0 H0} {ha : M0 s0.a} {hb : M0 s0.b} : drawFam.ok (drawW M0 s0 H0 hM ha hb) :=
  ⟨fun s H h => ⟨by show M0 s.a; rw [h.1]; exact ha, by show M0 s.b; rw [h.2.1]; exact hb, h.2.2.1⟩, fun s s' H H' h e1 e2 d k => ⟨e1.trans h.1, e2.trans h.2.1, d, fun c o n1 n2 q => k c o (by rw [h.1]; exact n1) (by rw [h.2.1]; exact n2) (h.2.2.2 c o n1 n2 q)⟩⟩
/-- what such a def makes -/
def semS (m : Nat) (F : FS DSt) (ds : List D) (s : DSt) : Res DSt D := match F (.v (.ref s.a) :: (ds.map .d ++ List.replicate m .no)) s with
  | .rt (.d d) s => if True then .ok d s else .bad
  | .nx _ s => .ok .none s
  | .er c _ s => .er c s
  | _ => .bad
/-- slots that hold no own lists -/
theorem env_of {S : Type} {W : Wd S} {ρ : Env} {σ : L2.St} {s : S} {H : Hp} (hl : ρ.length = σ.length) (hW : W.at_ s H) (nm : ∀ (i : Nat) (xs : List D), ρ[i]? ≠ some (.m xs)) (hd : ∀ (i : Nat) (x : D), ρ[i]? = some (.d x) → ∃ v, σ[i]? = some (some v) ∧ Rp (Fz W.hid H) v x)
    (hv : ∀ (i : Nat) (x : V), ρ[i]? = some (.v x) → σ[i]? = some (some x)) : EnvOk W ρ σ s H := by
  have no : ∀ b, ¬ Own ρ σ b := fun b ⟨i, xs, h1, _⟩ => nm i xs h1
  have up : Same (Fz W.hid H) (Frz W ρ σ H) := Fz_mono (fun b _ q => q.elim id fun z => absurd z (no b)) fun _ _ _ q => q
  exact ⟨hl, hW, fun i x h => let ⟨v, h1, h2⟩ := hd i x h; ⟨v, h1, h2.up up⟩, hv, fun i xs h => absurd h (nm i xs), fun i j xs ys a h1 _ _ _ => absurd h1 (nm i xs)⟩
theorem start_envS {W : Wd DSt} {N : List Str} {vs : List V} {ds : List D} {H : Hp} {s : DSt} {a : Addr} (hW : W.at_ s H) (r : RpAll (Fz W.hid H) vs ds) (hn : vs.length + 1 ≤ N.length) : EnvOk W (.v (.ref a) :: (ds.map .d ++ List.replicate (N.length - (vs.length + 1)) .no)) (L2.start N (.ref a :: vs)) s H := by
  have hl := r.len
  have e0 : L2.start N (.ref a :: vs) = some (.ref a) :: (vs.map some ++ List.replicate (N.length - (vs.length + 1)) none) := by
    unfold L2.start
    simp
  rw [e0]
  refine env_of (by simp [hl]) hW ?_ ?_ ?_
  · intro i xs h
    cases i with
    | zero => cases h
    | succ i =>
      rw [List.getElem?_cons_succ] at h
      by_cases hi : i < (ds.map Sl.d).length
      · rw [List.getElem?_append_left hi, List.getElem?_map] at h
        cases z : ds[i]? with
        | none => rw [z] at h; cases h
        | some y => rw [z] at h; cases h
      · rw [List.getElem?_append_right (by omega), List.getElem?_replicate] at h
        split at h <;> cases h
  · intro i x h
    cases i with
    | zero => cases h
    | succ i =>
      rw [List.getElem?_cons_succ] at h ⊢
      by_cases hi : i < (ds.map Sl.d).length
      · rw [List.getElem?_append_left hi, List.getElem?_map] at h
        cases z : ds[i]? with
        | none => rw [z] at h; cases h
        | some y =>
          rw [z] at h
          have e : y = x := by simpa using h
          subst e
          obtain ⟨v, h1, h2⟩ := r.get z
          refine ⟨v, ?_, h2⟩
          rw [List.getElem?_append_left (by rw [List.length_map]; simpa [hl] using hi), List.getElem?_map, h1]
          rfl
      · rw [List.getElem?_append_right (by omega), List.getElem?_replicate] at h
        split at h <;> cases h
  · intro i x h
    cases i with
    | zero => cases h; rfl
    | succ i =>
      rw [List.getElem?_cons_succ] at h
      by_cases hi : i < (ds.map Sl.d).length
      · rw [List.getElem?_append_left hi, List.getElem?_map] at h
        cases z : ds[i]? with
        | none => rw [z] at h; cases h
        | some y => rw [z] at h; cases h
      · rw [List.getElem?_append_right (by omega), List.getElem?_replicate] at h
        split at h <;> cases h
section
variable {P : Program} {w : World} {K : PySem.W.Frag} {mg : Str → Option Value} {base : Heap} {cl : Nat → Addr}
theorem fn_draw {x qual : Str} {st : Stmt} {f : Addr} {fd : FuncData} {N ps : List Str} {k m : Nat} {F : FS DSt} (Fn : Fun K x qual st f fd) (Sc : FnScope N ps (defScope st)) (hm : N.length = ps.length + m)
    (body : ∀ (cdv : Value) (A : Around) (outer : List PySem.Env) (s : Shared) (H : Hp) (E : XK), Room k (A.deeper (envOfC qual (defScope st) s.heap.objs.size f cdv)) →
      ∃ t, DXSs (cxOf (L2.CX P w) P w K mg base N qual (defScope st) f cdv A outer s H E) drawFam (WE1 cl E) (defBody st) t F) :
    FnOk P w K mg base (L2.CX P w) (k + 1) f fd ps (spS cl ps.length (semS m F)) := by
  refine Fn.okX Sc (fun vs H Q E h => h.1) fun cdv A outer s H vs Q E hr h => ?_
  obtain ⟨t, hb⟩ := body cdv A outer s H E hr
  obtain ⟨hl, M0, s0, ws, ds, rfl, hM, ha, hb', hD, r, hs⟩ := h
  refine ⟨t, hb.ps, ?_⟩
  have hlen : ws.length + 1 = ps.length := by simpa using hl
  have hm' : m = N.length - (ws.length + 1) := by omega
  refine hb.ds (drawW M0 s0 H hM ha hb') drawW_ok _ _ s0 H _ (start_envS (W := drawW M0 s0 H hM ha hb') (N := N) ⟨rfl, rfl, hD, fun _ _ _ _ q => q⟩ r (by omega)) ?_
  unfold semS at hs
  rw [hm'] at hs
  cases hF : F (.v (.ref s0.a) :: (ds.map .d ++ List.replicate (N.length - (ws.length + 1)) .no)) s0 with
  | nx ρ' s' => rw [hF] at hs; exact fun σ' H' e g => hs.2.2 _ _ e.at_.2.2.1 e.at_.2.2.2 .non
  | rt d s' =>
    rw [hF] at hs
    cases d with
    | d d => exact fun v H' a i => hs.2.2 v H' a.2.2.1 a.2.2.2 i
    | v d => exact hs.elim
  | er c ρ' s' => rw [hF] at hs; exact fun σ' H' e g => hs.2.2 H' e.at_.2.2.1 e.at_.2.2.2
  | bk ρ' s' => rw [hF] at hs; exact hs.elim
  | ct ρ' s' => rw [hF] at hs; exact hs.elim
  | bad => rw [hF] at hs; exact hs.elim
end
/-- such a def called -/
def eFnS (n : Nat) (sem : List D → DSt → Res DSt D) (g : FA DSt) : FE DSt := fun ρ s => (g ρ s).bnd fun xs s => match xs with
  | .v (.ref p) :: r => (match datas r with
    | some ds => if p = s.a ∧ ds.length + 1 = n then (match sem ds s with
      | .ok d s' => if s'.a = s.a ∧ s'.b = s.b then .ok (.d d) s' else .bad
      | .er c s' => if s'.a = s.a ∧ s'.b = s.b then .er c s' else .bad
      | .bad => .bad) else .bad
    | none => .bad)
  | _ => .bad
section
variable {X : Cx} {Wx : Wsh} {e : Expr} {es : List Expr} {t : TA} {g : FA DSt} {pos : Pos} {cl : Nat → Addr}
theorem dx_fnS {k n : Nat} {f : Addr} {fd : FuncData} {ps : List Str} {sem : List D → DSt → Res DSt D} {x : Str} {p : Pos} (Fo : FnOk X.prog X.w X.K X.mg X.base (L2.CX X.prog X.w) k f fd ps (spS cl n sem)) (hr : Room k X.A) (hm : X.mg x = some (.ref f)) (hk : PySem.W.keepIn X.K (.ref f) = true) (hb : Binds X.K fd ps [])
    (tk : Takes X (WR cl Wx)) (ha : DXA X drawFam Wx (e :: es) t g) (hg : Gl X x := by rfl) (hdb : (x == ("__debug__" : Str)) = false := by decide) (he : starEach (e :: es) X.env = (false, eval e X.env) :: starEach es X.env := by rfl) (hpl : (backTo pos (starEach es X.env)).any (·.1) = false := by rfl) :
    DX X drawFam Wx (.Call (.Name x p) (e :: es) [] pos) (tCallS (spS cl n sem) (WE (WR cl Wx)) t) (eFnS n sem g) := by
  refine ⟨pe_callS Fo hr hg hm hk hb (fun σ => passAt tk σ) ha.pa hdb he hpl, fun W hW ρ σ s H Q E h => ?_⟩
  refine ha.da W hW ρ σ s H _ E (h.bnd.imp fun xs s1 H1 a1 e1 q v hv => ?_)
  have E1 := E.step a1 e1
  split at q
  · rename_i p' r
    cases hv with
    | cons h0 hr' =>
      cases (show _ = V.ref p' from h0)
      cases hd : datas r with
      | none => rw [hd] at q; exact q.elim
      | some ds =>
        rw [hd] at q
        have rr := datas_rp hr' hd
        dsimp only at q
        split at q
        · rename_i hn
          obtain ⟨rfl, hn⟩ := hn
          obtain ⟨w1, w2, w3⟩ := hW.1 s1 H1 a1
          refine ⟨by rw [List.length_cons, rr.len]; exact hn, _, s1, _, ds, rfl, E1.inH, .inl w1, .inl w2, w3, rr, ?_⟩
          have st : ∀ H', Kept2 s1.a s1.b H1 H' → Stp W H1 H' := fun H' k c o nh q => k c o (fun z => nh (by rw [z]; exact w1)) (fun z => nh (by rw [z]; exact w2)) q
          cases hs : sem ds s1 with
          | ok d s' =>
            rw [hs] at q
            dsimp only at q ⊢
            split at q
            · rename_i hab
              exact ⟨hab.1, hab.2, fun v' H' d' k' rv => q H' (hW.2 s1 s' H1 H' a1 hab.1 hab.2 d' k') (st H' k') v' rv⟩
            · exact q.elim
          | er c s' =>
            rw [hs] at q
            dsimp only at q ⊢
            split at q
            · rename_i hab
              exact ⟨hab.1, hab.2, fun H' d' k' => ⟨c, rfl, rfl, q H' (hW.2 s1 s' H1 H' a1 hab.1 hab.2 d' k') (st H' k')⟩⟩
            · exact q.elim
          | bad => rw [hs] at q; exact q.elim
        · exact q.elim
  · exact q.elim
end
/-! ### the draw itself -/
def drawSem : List D → DSt → Res DSt D
  | [.int k], s => if 0 < k ∧ k < 1073741824 ∧ s.nums ≠ [] then
      (if 1000000000000000000 ≤ s.nums.getD ((s.cnt + 1) % s.nums.length).toNat 0 then
        .ok (.int (s.nums.getD ((s.cnt + 1) % s.nums.length).toNat 0 % k)) ⟨s.a, s.b, s.nums.set ((s.cnt + 1) % s.nums.length).toNat (s.nums.getD ((s.cnt + 1) % s.nums.length).toNat 0 / k), s.cnt + 1⟩
      else .ok (.int (((((s.nums.getD ((s.cnt + 1) % s.nums.length).toNat 0 + 104729 * (s.cnt + 1)) % 4294967291) ^ 5 % 4294967279 / 64 * 69621 + ((s.nums.getD ((s.cnt + 1) % s.nums.length).toNat 0 + 104729 * (s.cnt + 1)) % 4294967291) ^ 5 % 4294967279) % 4294967231 / 8) % k)) ⟨s.a, s.b, s.nums, s.cnt + 1⟩)
      else .bad
  | _, _ => .bad
/-- the state later -/
structure Nx (s s' : DSt) : Prop where
  a : s'.a = s.a
  b : s'.b = s.b
  ne : s'.nums ≠ []
theorem Nx.trans {s s' s'' : DSt} (h : Nx s s') (k : Nx s' s'') : Nx s s'' := ⟨k.a.trans h.a, k.b.trans h.b, k.ne⟩
theorem draw_ok {k : Int} {s : DSt} (h0 : 0 < k) (h1 : k < 1073741824) (hn : s.nums ≠ []) : ∃ r s', drawSem [.int k] s = .ok (.int r) s' ∧ 0 ≤ r ∧ r < k ∧ Nx s s' := by
  have hk : k ≠ 0 := by omega
  unfold drawSem
  dsimp only
  rw [if_pos ⟨h0, h1, hn⟩]
  split
  · refine ⟨_, _, rfl, Int.emod_nonneg _ hk, Int.emod_lt_of_pos _ h0, rfl, rfl, fun z => hn ?_⟩
    have z2 := congrArg List.length z
    rw [List.length_set] at z2
    exact List.length_eq_zero_iff.mp z2
  · exact ⟨_, _, rfl, Int.emod_nonneg _ hk, Int.emod_lt_of_pos _ h0, rfl, rfl, hn⟩
/-- its text as it reads -/
def tDraw (K : PySem.W.Frag) : TS := tSeq (tAsg (tOp (rIxL K) (tVar 0) (tC (.int 0))) (gName 2))
  (tSeq (tAsg (tOp (rI0 fun i j => .int (i + j)) (tOp (rIxL K) (tVar 0) (tC (.int 1))) (tC (.int 1))) (gSub (tVar 0) (tC (.int 1)) L2.rSetL))
  (tSeq (tAsg (tOp (rI (fun _ j => 0 < j) fun i j => .int (i % j)) (tOp (rIxL K) (tVar 0) (tC (.int 1))) (tCB (rLenE K) (tCons (tVar 2) tNil))) (gName 3))
  (tSeq (tAsg (tOp (rIxL K) (tVar 2) (tVar 3)) (gName 4))
  (tSeq (tIfS (tTest (tOp (rI0 fun i j => .bl (decide (j ≤ i))) (tVar 4) (tC (.int 1000000000000000000)))) (tSeq (tAsg (tOp (rI CDiv fun i j => .int (i / j)) (tVar 4) (tVar 1)) (gSub (tVar 2) (tVar 3) L2.rSetL)) (tRet (tOp (rI (fun _ j => 0 < j) fun i j => .int (i % j)) (tVar 4) (tVar 1)))) tNext)
  (tSeq (tAsg (tOp (rI (fun _ j => 0 < j) fun i j => .int (i % j)) (tOp (rI0 fun i j => .int (i + j)) (tVar 4) (tOp (rI CMul fun i j => .int (i * j)) (tC (.int 104729)) (tOp (rIxL K) (tVar 0) (tC (.int 1))))) (tC (.int 4294967291))) (gName 5))
  (tSeq (tAsg (tOp (rI (fun _ j => 0 < j) fun i j => .int (i % j)) (tOp (rI CPow fun i j => .int (i ^ j.toNat)) (tVar 5) (tC (.int 5))) (tC (.int 4294967279))) (gName 5))
  (tRet (tOp (rI (fun _ j => 0 < j) fun i j => .int (i % j)) (tOp (rI CDiv fun i j => .int (i / j)) (tOp (rI (fun _ j => 0 < j) fun i j => .int (i % j)) (tOp (rI0 fun i j => .int (i + j)) (tOp (rI CMul fun i j => .int (i * j)) (tOp (rI CDiv fun i j => .int (i / j)) (tVar 5) (tC (.int 64))) (tC (.int 69621))) (tVar 5)) (tC (.int 4294967231))) (tC (.int 8))) (tVar 1)))))))))
theorem drawSem_is {ds : List D} {s : DSt} (h : drawSem ds s ≠ .bad) : ∃ k, ds = [.int k] ∧ 0 < k ∧ k < 1073741824 ∧ s.nums ≠ [] := by
  unfold drawSem at h
  split at h
  · rename_i k
    by_cases hc : 0 < k ∧ k < 1073741824 ∧ s.nums ≠ []
    · exact ⟨k, rfl, hc⟩
    · rw [if_neg hc] at h; exact absurd rfl h
  · exact absurd rfl h
theorem set_int {ns : List Int} (j : Nat) (z : Int) : (ns.map V.int).set j (.int z) = (ns.set j z).map V.int := by rw [List.map_set]
theorem draw_t {K : PySem.W.Frag} {H : Hp} {s : DSt} {ds : List D} {v : V} {M0 : Addr → Prop} {D : Ends} (hD : Dr s H) (ha : M0 s.a) (hb : M0 s.b) (r : RpAll (Fz M0 H) [v] ds)
    (hs : match drawSem ds s with
      | .ok d s' => s'.a = s.a ∧ s'.b = s.b ∧ ∀ v H', Dr s' H' → Kept2 s.a s.b H H' → Rp (Fz M0 H') v d → D.rt v H'
      | .er c s' => True
      | .bad => False) : tDraw K D [some (.ref s.a), some v, none, none, none, none] H := by
  obtain ⟨k, rfl, k0, k1, hn⟩ := drawSem_is (ds := ds) (s := s) fun z => by rw [z] at hs; exact hs
  obtain ⟨v', e, r0⟩ := rp1 r
  cases e
  cases (show Rp _ v (.int k) from r0)
  unfold drawSem at hs
  dsimp only at hs
  rw [if_pos ⟨k0, k1, hn⟩] at hs
  have ln : (s.nums.map V.int).length = s.nums.length := List.length_map _
  have l0 : 0 < s.nums.length := List.length_pos_iff.mpr hn
  have h0 := Int.emod_nonneg (s.cnt + 1) (show ((s.nums.length : Nat) : Int) ≠ 0 by omega)
  have h1 := Int.emod_lt_of_pos (s.cnt + 1) (show (0 : Int) < ((s.nums.length : Nat) : Int) by omega)
  have hat : ((s.cnt + 1) % (s.nums.length : Int)).toNat < s.nums.length := by omega
  have eix : ixN s.nums.length ((s.cnt + 1) % (s.nums.length : Int)) = some ((s.cnt + 1) % (s.nums.length : Int)).toNat := by
    unfold ixN
    rw [if_pos h0, if_pos h1]
  generalize ej : ((s.cnt + 1) % (s.nums.length : Int)).toNat = j at hs hat eix
  generalize ez : s.nums.getD j 0 = z at hs
  have eget : (s.nums.map V.int)[j]? = some (.int z) := by
    rw [List.getElem?_map, List.getElem?_eq_getElem hat]
    rw [List.getD_eq_getElem?_getD, List.getElem?_eq_getElem hat] at ez
    have ez : s.nums[j] = z := ez
    rw [ez]
    rfl
  have eat : atI (s.nums.map V.int) ((s.cnt + 1) % (s.nums.length : Int)) = some (.int z) := by
    unfold atI
    rw [ln, eix]
    exact eget
  have hna := hD.ne
  have hA1 : (upd H s.a (.lst [V.ref s.b, V.int (s.cnt + 1)])) s.a = some (.lst [V.ref s.b, V.int (s.cnt + 1)]) := upd_same
  have hB1 : (upd H s.a (.lst [V.ref s.b, V.int (s.cnt + 1)])) s.b = some (.lst (s.nums.map V.int)) := by rw [upd_ne hna.symm]; exact hD.hb
  refine ⟨_, rfl, s.a, _, 0, _, rfl, rfl, SqL.of hD.ha, rfl, ?_⟩
  refine ⟨_, rfl, ⟨s.a, _, 1, _, rfl, rfl, SqL.of hD.ha, rfl, ⟨_, _, rfl, rfl, _, rfl, s.a, _, 1, 1, rfl, rfl, hD.ha, rfl, ?_⟩⟩⟩
  refine ⟨_, rfl, ⟨s.a, _, 1, _, rfl, rfl, SqL.of hA1, rfl, ⟨_, rfl, ?_⟩⟩⟩
  refine ⟨_, s.nums.length, rfl, .inl ⟨_, SqL.of hB1, ln.symm⟩, ⟨_, _, rfl, rfl, by omega, ?_⟩⟩
  refine ⟨_, rfl, ⟨_, rfl, ⟨s.b, _, _, _, rfl, rfl, SqL.of hB1, eat, ?_⟩⟩⟩
  refine ⟨_, rfl, ⟨_, _, rfl, rfl, ⟨_, rfl, ?_⟩⟩⟩
  by_cases hbig : 1000000000000000000 ≤ z
  · rw [if_pos hbig] at hs
    rw [if_pos (decide_eq_true hbig)]
    refine ⟨_, rfl, ⟨_, rfl, ⟨_, _, rfl, rfl, ⟨k0, k1⟩, ⟨_, rfl, _, rfl, s.b, _, _, j, rfl, rfl, hB1, by rw [ln]; exact eix, ?_⟩⟩⟩⟩
    refine ⟨_, rfl, ⟨_, rfl, ⟨_, _, rfl, rfl, k0, ?_⟩⟩⟩
    refine hs.2.2 _ _ ⟨?_, ?_, hna⟩ ?_ (.int _)
    · show upd _ s.b _ s.a = _
      rw [upd_ne hna]
      exact upd_same
    · show upd _ s.b _ s.b = _
      rw [upd_same, set_int]
    · intro c o n1 n2 q
      rw [upd_ne n2, upd_ne n1]
      exact q
  · rw [if_neg hbig] at hs
    rw [if_neg (by simpa using hbig)]
    have m0 := Int.emod_nonneg (z + 104729 * (s.cnt + 1)) (show (4294967291 : Int) ≠ 0 by decide)
    have m1 := Int.emod_lt_of_pos (z + 104729 * (s.cnt + 1)) (show (0 : Int) < 4294967291 by decide)
    refine ⟨_, rfl, ⟨_, rfl, ⟨s.a, _, 1, _, rfl, rfl, SqL.of hA1, rfl, ⟨_, _, rfl, rfl, .inl (by decide), ⟨_, _, rfl, rfl, ⟨_, _, rfl, rfl, (show (0 : Int) < 4294967291 by decide), ?_⟩⟩⟩⟩⟩⟩
    refine ⟨_, rfl, ⟨_, _, rfl, rfl, ⟨by decide, by decide, by omega⟩, ⟨_, _, rfl, rfl, (show (0 : Int) < 4294967279 by decide), ?_⟩⟩⟩
    refine ⟨_, rfl, ⟨_, _, rfl, rfl, ⟨by decide, by decide⟩, ⟨_, _, rfl, rfl, .inr (by decide), ⟨_, rfl, ⟨_, _, rfl, rfl, ⟨_, _, rfl, rfl, (show (0 : Int) < 4294967231 by decide), ⟨_, _, rfl, rfl, ⟨by decide, by decide⟩, ⟨_, rfl, ⟨_, _, rfl, rfl, k0, ?_⟩⟩⟩⟩⟩⟩⟩⟩⟩
    refine hs.2.2 _ _ ⟨hA1, hB1, hna⟩ (fun c o n1 n2 q => by rw [upd_ne n1]; exact q) (.int _)
end DL

namespace DL
open PySem PySem.Spec PyProof.Rows L2
/-! ### the start of a law, the law -/
def spStart (K : PySem.W.Frag) : Sp := fun vs H Q E => ∃ (p : Addr) (ns : List Int), vs = [.ref p] ∧ SqL K H p (ns.map V.int) ∧ ns.length ≤ 63 ∧
  ∀ (a b : Addr) (nums : List Int) (H' : Hp), a ≠ b → nums ≠ [] → nums.length ≤ 63 → H' a = some (.lst [.ref b, .int 0]) → H' b = some (.lst (nums.map V.int)) → Q (.ref a) H'
def tStart (K : PySem.W.Frag) : TS := tRet (tLst (tCons (tIf (tTest (tOp (rNeE K) (tVar 0) (tLst tNil))) (tCB (rListE K) (tCons (tVar 0) tNil)) (tLst (tCons (tC (.int 0)) tNil))) (tCons (tC (.int 0)) tNil)))
theorem dp_ints {K : PySem.W.Frag} {H : Hp} : ∀ ns : List Int, DpAll K H (ns.map V.int) (ns.map PyData.int)
  | [] => .nil
  | n :: r => .cons (.int n) (dp_ints r)
theorem lay_ints : ∀ ns : List Int, PyData.canLayAll0 (ns.map PyData.int) = true
  | [] => by simp [PyData.canLayAll0]
  | n :: r => by simp [PyData.canLayAll0, PyData.canLay0]; simpa using lay_ints r
theorem start_t {K : PySem.W.Frag} {H : Hp} {p : Addr} {ns : List Int} {Q : VK} {nx : L2.St → Hp → Prop} (hs : SqL K H p (ns.map V.int)) (hl : ns.length ≤ 63)
    (k : ∀ (a b : Addr) (nums : List Int) (H' : Hp), a ≠ b → nums ≠ [] → nums.length ≤ 63 → H' a = some (.lst [.ref b, .int 0]) → H' b = some (.lst (nums.map V.int)) → Q (.ref a) H') : tStart K { nx := nx, rt := Q } [some (.ref p)] H := by
  refine ⟨_, rfl, ⟨Nat.zero_le _, fun q hq => ⟨_, _, .lst ((Same.new hq).seq hs) (dp_ints ns), .lst (SqL.of (show (upd H q (.lst [])) q = some (.lst []) from upd_same)) .nil, by simp [PyData.canLay0, lay_ints], by simp [PyData.canLay0, PyData.canLayAll0], by simp [PyData.depth, PyData.depthAll], ⟨_, rfl, ?_⟩⟩⟩⟩
  have sm : Same H (upd H q (.lst [])) := Same.new hq
  cases ns with
  | nil =>
    have e : (!PyData.eqv (.list (([] : List Int).map PyData.int)) (.list [])) = false := by simp [PyData.eqv, PyData.eqvAll]
    rw [e]
    dsimp only
    rw [if_neg Bool.false_ne_true]
    refine ⟨(by show 1 ≤ sizeLine; rw [sizeLine_eq]; decide), fun b hb => ⟨(by show 2 ≤ sizeLine; rw [sizeLine_eq]; decide), fun a ha => ?_⟩⟩
    have ne : a ≠ b := fun z => by rw [z, upd_same] at ha; cases ha
    exact k a b [0] _ ne (by simp) (by simp) upd_same (by rw [upd_ne ne.symm]; exact upd_same)
  | cons n r =>
    have e : (!PyData.eqv (.list ((n :: r).map PyData.int)) (.list [])) = true := by simp [PyData.eqv, PyData.eqvAll]
    rw [e]
    dsimp only
    rw [if_pos rfl]
    refine ⟨_, rfl, p, _, rfl, .inl (sm.seq hs), fun b hb => ⟨(by show 2 ≤ sizeLine; rw [sizeLine_eq]; decide), fun a ha => ?_⟩⟩
    have ne : a ≠ b := fun z => by rw [z, upd_same] at ha; cases ha
    exact k a b (n :: r) _ ne (by simp) hl upd_same (by rw [upd_ne ne.symm]; exact upd_same)
def spLaw (K : PySem.W.Frag) : Sp := fun vs H Q _ => ∃ (a : Addr) (ns : List Int), vs = [.ref a] ∧ SqL K H a (ns.map V.int) ∧ ns.length ≤ 63 ∧ ∀ H', Q (.bl true) H'
section
variable {P : Program} {w : World} {K : PySem.W.Frag} {mg : Str → Option Value} {base : Heap} {cl : Nat → Addr}
theorem law_fn {x qual : Str} {st : Stmt} {f : Addr} {fd : FuncData} {N : List Str} {k m : Nat} {F : FS DSt} {s0 : Stmt} {rest : List Stmt} (Fn : Fun K x qual st f fd) (Sc : FnScope N ["_law_script"] (defScope st)) (hm : N.length = 2 + m) (hbd : defBody st = s0 :: rest)
    (body : ∀ (cdv : Value) (A : Around) (outer : List PySem.Env) (s : Shared) (H : Hp) (E : XK), Room k (A.deeper (envOfC qual (defScope st) s.heap.objs.size f cdv)) →
      PS (cxOf (L2.CX P w) P w K mg base N qual (defScope st) f cdv A outer s H E) s0 (tAsg (tCallS (spStart K) (WE (WR cl NoW)) (tCons (tVar 0) tNil)) (gName 1)) ∧
      ∃ t, DXSs (cxOf (L2.CX P w) P w K mg base N qual (defScope st) f cdv A outer s H E) drawFam NoW rest t F)
    (hF : ∀ (a b : Addr) (nums : List Int), nums ≠ [] → nums.length ≤ 63 → ∃ s', F (.no :: .v (.ref a) :: List.replicate m .no) ⟨a, b, nums, 0⟩ = .rt (.d (.bool true)) s') :
    FnOk P w K mg base (L2.CX P w) (k + 1) f fd ["_law_script"] (spLaw K) := by
  refine Fn.okX Sc (fun vs H Q E h => ?_) fun cdv A outer s H vs Q E hr h => ?_
  · obtain ⟨a, ns, rfl, _⟩ := h
    rfl
  · obtain ⟨h0, t, hb⟩ := body cdv A outer s H E hr
    obtain ⟨p, ns, rfl, hs, hl, kq⟩ := h
    rw [hbd]
    refine ⟨_, pss_cons h0 hb.ps, ?_⟩
    have eσ : L2.start N [.ref p] = some (.ref p) :: none :: List.replicate m none := by
      unfold L2.start
      have e : N.length - [V.ref p].length = m + 1 := by simp; omega
      rw [e, List.replicate_succ]
      rfl
    rw [eσ]
    refine ⟨_, rfl, p, ns, rfl, hs, hl, fun a b nums H' ne hn hl2 hA hB => ?_⟩
    obtain ⟨s', hF⟩ := hF a b nums hn hl2
    have hM : InH (fun c => c = a ∨ c = b) H' := fun c hc => by
      rcases hc with e | e
      · rw [e, hA]; simp
      · rw [e, hB]; simp
    have hD : Dr ⟨a, b, nums, 0⟩ H' := ⟨hA, hB, ne⟩
    refine hb.ds (drawW (fun c => c = a ∨ c = b) ⟨a, b, nums, 0⟩ H' hM (.inl rfl) (.inr rfl)) drawW_ok (.no :: .v (.ref a) :: List.replicate m .no) _ ⟨a, b, nums, 0⟩ H' _ (env_of (by simp) ⟨rfl, rfl, hD, fun _ _ _ _ q => q⟩ ?_ ?_ ?_) ?_
    · intro i xs h
      match i with
      | 0 => cases h
      | 1 => cases h
      | i + 2 =>
        rw [List.getElem?_cons_succ, List.getElem?_cons_succ, List.getElem?_replicate] at h
        split at h <;> cases h
    · intro i xs h
      match i with
      | 0 => cases h
      | 1 => cases h
      | i + 2 =>
        rw [List.getElem?_cons_succ, List.getElem?_cons_succ, List.getElem?_replicate] at h
        split at h <;> cases h
    · intro i xs h
      match i with
      | 0 => cases h
      | 1 => cases h; rfl
      | i + 2 =>
        rw [List.getElem?_cons_succ, List.getElem?_cons_succ, List.getElem?_replicate] at h
        split at h <;> cases h
    · rw [hF]
      intro v H2 _ hv
      cases (show Rp _ v (.bool true) from hv)
      exact kq H2
end
theorem hu65 {k : Nat} {A : Around} {env : PySem.Env} (hr : Room k (A.deeper env)) : (A.deeper env).units + 65 < cLine := by
  have := hr.un
  omega
theorem cx_false {P : Program} {w : World} {H : Hp} {s : Shared} {e : Value} {s' : Shared} (h : L2.CX P w [] H s (fun _ _ _ => False) e s') : False := by
  obtain ⟨_, _, _, _, _, _, _, _, _, _, _, _, z⟩ := h
  exact z.elim
end DL

namespace DL
open PySem PySem.Spec PyProof.Rows L2
section
variable {S : Type} {X : Cx} {𝒲 : Fam S} {Wx : Wsh} {a b c d : Expr} {ta tb tc td : TE} {fa fb fc fd : FE S} {pos : Pos}
/-- a op b op c op d, as a test -/
def tChain3 (r1 r2 r3 : R2) (ta tb tc td : TE) : TT := fun σ H Q => ta σ H fun x H1 => tb σ H1 fun y H2 => r1 x y H2 fun u H3 => ∃ k, u = .bl k ∧
  (if k = true then tc σ H3 fun z H4 => r2 y z H4 fun u2 H5 => ∃ k2, u2 = .bl k2 ∧ (if k2 = true then td σ H5 fun w H6 => r3 z w H6 fun u3 H7 => ∃ k3, u3 = .bl k3 ∧ Q k3 H7 else Q false H5) else Q false H3)
theorem pt_chain3 {o1 o2 o3 : CmpOp} {r1 r2 r3 : R2} (h1 : OpR X (compareOp o1) r1) (h2 : OpR X (compareOp o2) r2) (h3 : OpR X (compareOp o3) r3) (ha : PE X a ta) (hb : PE X b tb) (hc : PE X c tc) (hd : PE X d td)
    (hm : lastMarks [o1, o2, o3] [b, c, d] = false := by with_unfolding_all rfl) : PT X (.Compare a [o1, o2, o3] [b, c, d] pos) (tChain3 r1 r2 r3 ta tb tc td) := by
  refine ⟨fun pins s0 σ H0 Q I0 h0 => isTrue_chain (thn (ha.run pins s0 σ H0 _ I0 h0) fun v s1 ⟨x, H1, I1, q1, e1⟩ => test_link (thn (hb.run pins s1 σ H1 _ I1 e1) fun u s2 ⟨y, H2, I2, q2, e2⟩ => thn (h1 pins s2 σ H2 x y v u _ I2 q1 q2 e2) fun k0 s3 ⟨z, H3, I3, q3, k, ez, e3⟩ => ?_)) hm⟩
  subst ez
  cases q3
  refine wpAny_truthy_bool ?_
  cases k with
  | false => exact ite_ff ⟨H3, I3, e3⟩
  | true =>
    refine ite_tt (test_link (thn (hc.run pins s3 σ H3 _ I3 e3) fun w s4 ⟨z2, H4, I4, q4, e4⟩ => thn (h2 pins s4 σ H4 y z2 u w _ I4 q2 q4 e4) fun k1 s5 ⟨z3, H5, I5, q5, k2, ez2, e5⟩ => ?_))
    subst ez2
    cases q5
    refine wpAny_truthy_bool ?_
    cases k2 with
    | false => exact ite_ff ⟨H5, I5, e5⟩
    | true =>
      refine ite_tt (test_last (thn (hd.run pins s5 σ H5 _ I5 e5) fun w2 s6 ⟨z4, H6, I6, q6, e6⟩ => thn (h3 pins s6 σ H6 z2 z4 w w2 _ I6 q4 q6 e6) fun k4 s7 ⟨z5, H7, I7, q7, k3, ez3, e7⟩ => ?_))
      subst ez3
      cases q7
      exact wpAny_truthy_bool ⟨H7, I7, e7⟩
def fChain3 (f g h : D → D → Option D) (fa fb fc fd : FE S) : FT S := fun ρ s => (fa ρ s).bnd fun x s => (fb ρ s).bnd fun y s => match x, y with
  | .d x, .d y => (match f x y with
    | some (.bool true) => (fc ρ s).bnd fun z s => (match z with
      | .d z => (match g y z with
        | some (.bool true) => (fd ρ s).bnd fun w s => (match w with
          | .d w => (match h z w with
            | some (.bool k) => .ok k s
            | _ => .bad)
          | _ => .bad)
        | some (.bool false) => .ok false s
        | _ => .bad)
      | _ => .bad)
    | some (.bool false) => .ok false s
    | _ => .bad)
  | _, _ => .bad
theorem dxt_chain3 {o1 o2 o3 : CmpOp} {r1 r2 r3 : R2} {f g h : D → D → Option D} (c1 : Cm X o1 r1 f) (c2 : Cm X o2 r2 g) (c3 : Cm X o3 r3 h) (ha : DX X 𝒲 Wx a ta fa) (hb : DX X 𝒲 Wx b tb fb) (hc : DX X 𝒲 Wx c tc fc) (hd : DX X 𝒲 Wx d td fd) (hm : lastMarks [o1, o2, o3] [b, c, d] = false := by with_unfolding_all rfl) :
    DXT X 𝒲 Wx (.Compare a [o1, o2, o3] [b, c, d] pos) (tChain3 r1 r2 r3 ta tb tc td) (fChain3 f g h fa fb fc fd) := by
  refine ⟨pt_chain3 c1.op c2.op c3.op ha.pe hb.pe hc.pe hd.pe hm, fun W hW ρ σ s H Q E hp => ?_⟩
  refine ha.de W hW ρ σ s H _ E (hp.bnd.imp fun x s1 H1 a1 e1 q v hv => ?_)
  have E1 := E.step a1 e1
  refine hb.de W hW ρ σ s1 H1 _ E1 (q.bnd.imp fun y s2 H2 a2 e2 q2 u hu => ?_)
  have E2 := E1.step a2 e2
  cases x with
  | v x => exact q2.elim
  | d x =>
    cases y with
    | v y => exact q2.elim
    | d y =>
      dsimp only at q2
      split at q2
      · rename_i hz
        refine c1.s2 _ H2 v u x y _ _ E2.inH (Rp.up (show Rp _ v x from hv) (Frz.stp e2)) hu hz fun w H3 e3 hw => ?_
        cases hw
        refine ⟨true, rfl, ?_⟩
        rw [if_pos rfl]
        have a3 := W.ext _ _ _ a2 e3
        have E3 := E2.step a3 (Stp.of e3)
        refine hc.de W hW ρ σ s2 H3 _ E3 ((q2.later (Stp.of e3)).bnd.imp fun z s4 H4 a4 e4 q4 w' hw' => ?_)
        have E4 := E3.step a4 e4
        cases z with
        | v z => exact q4.elim
        | d z =>
          dsimp only at q4
          split at q4
          · rename_i hz2
            refine c2.s2 _ H4 u w' y z _ _ E4.inH (Rp.up (show Rp _ u y from hu) ((Frz.stp (Stp.of e3)).trans (Frz.stp e4))) hw' hz2 fun w2 H5 e5 hw2 => ?_
            cases hw2
            refine ⟨true, rfl, ?_⟩
            rw [if_pos rfl]
            have a5 := W.ext _ _ _ a4 e5
            have E5 := E4.step a5 (Stp.of e5)
            refine hd.de W hW ρ σ s4 H5 _ E5 ((q4.later (Stp.of e5)).bnd.imp fun z3 s6 H6 a6 e6 q6 w3 hw3 => ?_)
            have E6 := E5.step a6 e6
            cases z3 with
            | v z3 => exact q6.elim
            | d z3 =>
              dsimp only at q6
              split at q6
              · rename_i k hz3
                refine c3.s2 _ H6 w' w3 z z3 _ _ E6.inH (Rp.up (show Rp _ w' z from hw') ((Frz.stp (Stp.of e5)).trans (Frz.stp e6))) hw3 hz3 fun w4 H7 e7 hw4 => ?_
                cases hw4
                exact ⟨k, rfl, q6 H7 (W.ext _ _ _ a6 e7) (Stp.of e7)⟩
              · exact q6.elim
          · rename_i hz2
            refine c2.s2 _ H4 u w' y z _ _ E4.inH (Rp.up (show Rp _ u y from hu) ((Frz.stp (Stp.of e3)).trans (Frz.stp e4))) hw' hz2 fun w2 H5 e5 hw2 => ?_
            cases hw2
            refine ⟨false, rfl, ?_⟩
            rw [if_neg Bool.false_ne_true]
            exact q4 H5 (W.ext _ _ _ a4 e5) (Stp.of e5)
          · exact q4.elim
      · rename_i hz
        refine c1.s2 _ H2 v u x y _ _ E2.inH (Rp.up (show Rp _ v x from hv) (Frz.stp e2)) hu hz fun w H3 e3 hw => ?_
        cases hw
        refine ⟨false, rfl, ?_⟩
        rw [if_neg Bool.false_ne_true]
        exact q2 H3 (W.ext _ _ _ a2 e3) (Stp.of e3)
      · exact q2.elim
end
end DL

namespace DL
open PySem PySem.Spec PyProof.Rows L2
/-! ### an exception's object, tracked -/
def XO (c : Value) (p : Addr) : HO := .ext fun hp => ∃ (ob : Obj) (fl : Array Value), hp.get? p = some ob ∧ Zc c none ob ∧ ob.data = .fields fl
section
variable {Y : Cx} {pl : List (Addr × Obj)} {ss : L2.St} {G : Hp} {st : Shared}
theorem trackT {p : Addr} {c : Value} {ob : Obj} {fl : Array Value} (I : Inv Y pl ss G st) (e : st.heap.get? p = some ob) (z : Zc c none ob) (d : ob.data = .fields fl) (n : G p = none) (nl : p ≠ Y.env.locals) (n0 : Y.s_0.heap.get? p = none)
    (np : ∀ q ∈ Y.pn ++ pl, q.1 ≠ p) : Inv Y pl ss (upd G p (XO c p)) st := by
  have old : ∀ b u, Y.s_0.heap.get? b = some u → b ≠ p := fun b u q w => by rw [w, n0] at q; cases q
  have dn : ∀ b u, G b = some u → b ≠ p := fun b u q w => by rw [w, n] at q; cases q
  have gs : ∀ b u, G b = some u → upd G p (XO c p) b = some u := fun b u q => by rw [upd_ne (dn b u q)]; exact q
  refine { ok := I.ok, os := I.os, bare := I.bare, loc := I.loc, cell := I.cell, len := I.len, base := ?_, free := ?_, freeC := ?_, pin := ?_, hok := ?_ }
  · exact { keep := I.base.keep, slot := I.base.slot, there := I.base.there
            free := fun b u q1 q2 q3 => by rw [upd_ne (old b u q1)]; exact I.base.free b u q1 q2 q3
            tups := fun b xs q => gs b _ (I.base.tups b xs q)
            frzs := fun b u w q => gs b _ (I.base.frzs b u w q)
            tbls := fun b ps q => let ⟨more, r⟩ := I.base.tbls b ps q; ⟨more, gs b _ r⟩ }
  · rw [upd_ne (Ne.symm nl)]; exact I.free
  · intro x k hk
    have nk : k ≠ p := fun w => by
      obtain ⟨v, o', h1, h2⟩ := I.cell x k hk
      rw [w, e] at h1
      cases h1
      rw [d] at h2
      cases h2
    rw [upd_ne nk]
    exact I.freeC x k hk
  · intro q hq
    obtain ⟨h1, h2, h3⟩ := I.pin q hq
    exact ⟨h1, by rw [upd_ne (np q hq)]; exact h2, h3⟩
  · exact I.hok.laidN (fun _ _ h => h) n ⟨⟨ob, fl, e, z, d⟩, ⟨ob, e⟩, fun _ _ ⟨o', w, q, r⟩ k => ⟨o', w, k o' q, r⟩⟩
end
/-! ### try: .. except C as n: m = n -/
/-- what is wished of an exception that the clause takes: its class is a C, and behind the clause it stands in m's slot -/
def wTk (K : PySem.W.Frag) (C : Value) (i j : Nat) (nx : L2.St → Hp → Prop) : WX := fun cls d ss G =>
  PySem.W.exmOne K cls C = some true ∧ d = none ∧ ∀ p, G p = none → j < ss.length → nx (((ss.set i (some (.ref p))).set j (some (.ref p))).set i none) (upd G p (XO cls p))
section
variable {Y : Cx} {cn en mn : Str} {C : Value} {i j : Nat} {blk : List Stmt} {p1 p2 p3 p4 p5 p6 : Pos} {tb : WX → TS}
theorem ps_tryK (hst : Y.stack = Y.env :: Y.outer) (hfr : Y.env.frame = some Y.env.locals) (nd : Y.N.Nodup) (hi : Y.N[i]? = some en) (hj : Y.N[j]? = some mn) (hie : Y.env.kindOf en = some .local) (hje : Y.env.kindOf mn = some .local) (hex : Y.ex = []) (hC : Names Y cn C)
    (hsw : swapsWith (.Name en p3) (some (.Name mn p4)) p5.line Y.env = pure false)
    (hpe : ∀ (p : Addr) (o : Obj) (pn : List (Addr × Obj)), PE (Y.suite p ((p, o) :: pn)) (.Name en p3) (tVar i))
    (hb : ∀ (W : WX) (pn : List (Addr × Obj)) (xe : Value → Shared → Prop), Takes (Y.tr pn xe) W → PassesOwn (model Y.prog Y.w) Y.A Y.env xe → PSs (Y.tr pn xe) blk (tb W)) :
    PS Y (.Try blk [.ExceptHandler (some (.Name cn p1)) (some en) [.Assign [.Name mn p4] (.Name en p3) p5] p2] [] [] p6) (fun D ss G => tb (wTk Y.K C i j D.nx) D ss G) := by
  constructor
  intro pl st ss G D I0 hw
  have okY := I0.ok
  have hfs : Y.A.frames = some (Y.env :: Y.outer) := by rw [okY.frames, hst]
  apply wpAny_Try_except
  have hbody := (hb (wTk Y.K C i j D.nx) (Y.pn ++ pl) _ (fun u st' xx => ?_) PassesOwn.looking).run [] st ss G D (I0.toTry (fun u st1 => wpAny (model Y.prog Y.w) Y.A (noteFrame u Y.env) (fun _ st2 => wpAny (model Y.prog Y.w) Y.A (setFlight u none)
      (fun _ st3 => wpAny (model Y.prog Y.w) Y.A (handleBy u Y.env [.ExceptHandler (some (.Name cn p1)) (some en) [.Assign [.Name mn p4] (.Name en p3) p5] p2]) (SP Y pl D) Y.xe st3) Y.xe st2) Y.xe st1)) hw
  · refine wpAny_mono hbody (fun fl st1 hq => ?_) fun _ _ q => q
    cases fl with
    | next => obtain ⟨s1, G1, I1, q⟩ := hq; exact wpAny_execs_nil ⟨s1, G1, I1.ofTry okY, q⟩
    | brk => obtain ⟨s1, G1, I1, q⟩ := hq; exact ⟨s1, G1, I1.ofTry okY, q⟩
    | cont => obtain ⟨s1, G1, I1, q⟩ := hq; exact ⟨s1, G1, I1.ofTry okY, q⟩
    | ret u => obtain ⟨v, s1, G1, I1, r, q⟩ := hq; exact ⟨v, s1, G1, I1.ofTry okY, r, q⟩
  · obtain ⟨p, Bs, stI, pl1, s1, G1, cls, d, rfl, I1, new, upS, skyS, freeP, eos, bare, hyes, rfl, hnx⟩ := xx
    have I2 : Inv Y pl s1 G1 stI := I1.ofTry okY
    rw [show (Y.tr (Y.pn ++ pl) _).stack = Y.stack from rfl, hst] at skyS
    show wpAny (model Y.prog Y.w) Y.A (noteFrame (.ref p) Y.env) _ _ _
    apply Sky.land Zc.steady hfs hfr skyS
    intro h1 fl1 up1
    have I3 : Inv Y pl s1 G1 { st' with heap := h1 } := I2.landed new fl1.1 (upS.trans up1) eos bare
    obtain ⟨o1, f1, e1, z1, d1⟩ := fl1.there
    have out : p ∉ frs (Y.env :: Y.outer) := fun hm => by
      obtain ⟨_, o2, e2, w2⟩ := fl1.2.2.1.mem hm
      rw [e1] at e2
      cases e2
      exact w2 _ d1
    have nB : Bs.get? p = none := fl1.2.1
    have nl : p ≠ Y.env.locals := fun w => out (List.mem_filterMap.mpr ⟨Y.env, .head _, by rw [hfr, w]⟩)
    have nf : p ∉ Y.fs := fun hm => by
      obtain ⟨en', me, q⟩ := List.mem_filterMap.mp hm
      exact out (List.mem_filterMap.mpr ⟨en', .tail _ me, q⟩)
    have nI : stI.heap.get? p = none := by
      cases w : stI.heap.get? p with
      | none => rfl
      | some o2 =>
        have w2 := new p o2 w (by show p ∉ frs Y.stack; rw [hst]; exact out)
        rw [nB] at w2
        cases w2
    have n0 : Y.s_0.heap.get? p = none := by
      cases w : Y.s_0.heap.get? p with
      | none => rfl
      | some o2 =>
        obtain ⟨o3, w2⟩ := I2.base.there p o2 w (by rw [hex]; exact fun z => nomatch z)
        rw [nI] at w2
        cases w2
    have np : ∀ q ∈ Y.pn ++ pl, q.1 ≠ p := fun q hq w => by
      have w2 := (I2.pin q hq).1
      rw [w, nI] at w2
      cases w2
    have IS := I3.suite e1 d1 freeP nl nf
    refine wpAny_handleBy_cons (codeAny_handlers_test ?_) (fun z => nomatch z)
    have lk : PySem.W.Looks (model Y.prog Y.w) h1 (typeOf (.ref p)) cls := fun _ _ _ _ kp q => wpAny_typeOf_ref (kp _ _ e1) (by rw [z1.1]; exact q)
    have lm := PySem.W.exm_one (M := model Y.prog Y.w) I3.kIn lk hyes
    have tst : ∀ {Q E : Value → Shared → Prop}, Q C { st' with heap := h1 } → wpAny (model Y.prog Y.w) (Y.A.mark (some (.ref p))) (eval (.Name cn p1) Y.env) Q E { st' with heap := h1 } := by
      intro Q E q
      obtain ⟨g1, g2, g3⟩ := hC
      rcases g3 with g3 | ⟨g3, g4, g5⟩
      · exact ld_glob (X := Y.suite p ((p, o1) :: (Y.pn ++ pl))) IS g1 g3 q g2
      · exact ld_blt (X := Y.suite p ((p, o1) :: (Y.pn ++ pl))) IS g1 g3 g4 q g5 g2
    apply tst
    apply lm.here
    apply codeAny_handlers_suite_as
    apply HandSPX.lands_againZ fl1
    intro h2 fl2 up2
    have I4 : Inv Y pl s1 G1 { st' with heap := h2 } := I2.landed new fl2.1 ((upS.trans up1).trans up2) eos bare
    obtain ⟨o2, f2, e2, z2, d2⟩ := fl2.there
    have IS2 := I4.suite e2 d2 freeP nl nf
    refine store_ok (X := Y.suite p ((p, o2) :: (Y.pn ++ pl))) (v := .ref p) IS2 nd hi (.inl hie) rfl (fun st5 I5 => ?_) (.inr hie)
    have asg : PS (Y.suite p ((p, o2) :: (Y.pn ++ pl))) (.Assign [.Name mn p4] (.Name en p3) p5) (tAsg (tVar i) (gName j)) := ps_set nd hj (.inl hje) (hpe p o2 _) hsw (.inr hje)
    have lj : j < s1.length := by rw [I2.len]; exact (List.getElem?_eq_some_iff.mp hj).1
    have li : i < s1.length := by rw [I2.len]; exact (List.getElem?_eq_some_iff.mp hi).1
    refine wpAny_mono ((pss_one asg).run [] st5 _ G1 { nx := fun s2 G2 => s2 = (s1.set i (some (.ref p))).set j (some (.ref p)) ∧ G2 = G1, rt := fun _ _ => False } I5 ⟨.ref p, List.getElem?_set_self li, rfl, rfl⟩) (fun fl st6 hq => ?_) fun _ _ z => z.elim
    cases fl with
    | brk => obtain ⟨_, _, _, z⟩ := hq; exact z.elim
    | cont => obtain ⟨_, _, _, z⟩ := hq; exact z.elim
    | ret u => obtain ⟨_, _, _, _, _, z⟩ := hq; exact z.elim
    | next =>
      obtain ⟨s2, G2, I6, rfl, rfl⟩ := hq
      refine gone_ok (X := Y.suite p ((p, o2) :: (Y.pn ++ pl))) I6 nd hi hie fun st7 I7 => ?_
      have pn7 := (I7.pin (p, o2) (List.mem_append_left _ (.head _))).1
      exact ⟨_, _, trackT (I7.unsuite okY) pn7 z2 d2 freeP nl n0 np, hnx p freeP lj⟩
end
/-! ### the name of an exception -/
def nmE : Nat → Str
  | 0 => "things"
  | 1 => "number"
  | 2 => "points"
  | 3 => "text"
  | _ => "none"
theorem nmE_ok : ∀ c, (nmE c).length ≤ lim ∧ PyData.strOk (nmE c) = true
  | 0 => by decide +kernel
  | 1 => by decide +kernel
  | 2 => by decide +kernel
  | 3 => by decide +kernel
  | _ + 4 => (by decide +kernel : ("none" : Str).length ≤ lim ∧ PyData.strOk "none" = true)
/-- the def that names an exception -/
def spErr (cl : Nat → Addr) : Sp := fun vs G Q _ => ∃ (p : Addr) (c : Nat), vs = [.ref p] ∧ c < 5 ∧ G p = some (XO (.ref (cl c)) p) ∧ ∀ G', Same G G' → Q (.str (nmE c)) G'
section
variable {S : Type} {X : Cx} {𝒲 : Fam S} {Wx : Wsh} {cl : Nat → Addr}
/-- try: F / except C as n: m = n / return R -/
def sTry (F R : FS S) : FS S := fun ρ s => match F ρ s with
  | .nx ρ' s' => R ρ' s'
  | .er c _ s' => if c < 5 then .rt (.d (.str (nmE c))) s' else .bad
  | .rt d s' => .rt d s'
  | _ => .bad
def tTry (K : PySem.W.Frag) (C : Value) (i j : Nat) (tb : Wsh → TS) (tf : TE) (tc : TE) : TS :=
  tSeq (fun D ss G => tb (fun c s1 G1 => wTk K C i j D.nx (.ref (cl c)) none s1 G1) D ss G) (tRet (tIf (tTest (tOp (fun x y H Q => y = .non ∧ Q (.bl (decide (x = .non))) H) (tVar j) (tC .non))) tf tc))
theorem dss_try (i j : Nat) {cn en mn : Str} {C : Value} {blk : List Stmt} {fe : Expr} {tf : TE} {ff : FE S} {F : FS S} {k : Nat} {f : Addr} {fd : FuncData} {tb : Wsh → List (Addr × Obj) → (Value → Shared → Prop) → TS} {p1 p2 p3 p4 p5 p6 q1 q2 q3 q4 q5 q6 q7 q8 : Pos} {k0 : Nat} {ps : List Str}
    (hst : X.stack = X.env :: X.outer) (hfr : X.env.frame = some X.env.locals) (hex : X.ex = []) (nd : X.N.Nodup) (hij : i ≠ j) (hC : Names X cn C) (hx : ∀ c, c < 5 → PySem.W.exmOne X.K (.ref (cl c)) C = some true)
    (hpe : ∀ (p : Addr) (o : Obj) (pn : List (Addr × Obj)), PE (X.suite p ((p, o) :: pn)) (.Name en p3) (tVar i)) (hpj : PE X (.Name mn q2) (tVar j)) (hpj2 : PE X (.Name mn q5) (tVar j))
    (hb : ∀ (Wx' : Wsh) (pn : List (Addr × Obj)) (xe : Value → Shared → Prop), Takes (X.tr pn xe) (WR cl Wx') → DXSs (X.tr pn xe) 𝒲 Wx' blk (tb Wx' pn xe) F)
    (hf : DX X 𝒲 Wx fe tf ff) (Fo : FnOk X.prog X.w X.K X.mg X.base (L2.CX X.prog X.w) k f fd ps (spErr cl)) (hr : Room k X.A) (hm : X.mg "_law_error" = some (.ref f)) (hk : PySem.W.keepIn X.K (.ref f) = true) (hbd : Binds X.K fd ps [])
    (tk : Takes X (WR cl Wx)) (htb : ∀ (Wx' : Wsh) (pn : List (Addr × Obj)) (xe : Value → Shared → Prop), tb Wx' pn xe = tb Wx' [] (fun _ _ => True) := by intros; rfl)
    (hi : X.N[i]? = some en := by rfl) (hj : X.N[j]? = some mn := by rfl) (hie : X.env.kindOf en = some .local := by rfl) (hje : X.env.kindOf mn = some .local := by rfl) (hsw : swapsWith (.Name en p3) (some (.Name mn p4)) p5.line X.env = pure false := by rfl) (hg : Gl X "_law_error" := by rfl)
    (he : starEach [.Name mn q5] X.env = (false, eval (.Name mn q5) X.env) :: starEach [] X.env := by rfl) (hpl : (backTo q6 (starEach [] X.env)).any (·.1) = false := by rfl) :
    DXSs X 𝒲 Wx [.Try blk [.ExceptHandler (some (.Name cn p1)) (some en) [.Assign [.Name mn p4] (.Name en p3) p5] p2] [] [] p6,
      .Return (some (.IfExp (.Compare (.Name mn q2) [.Is] [.Constant .none k0 q3] q4) fe (.Call (.Name "_law_error" q1) [.Name mn q5] [] q6) q7)) q8]
      (tTry (cl := cl) X.K C i j (fun Wx' => tb Wx' [] fun _ _ => True) tf (tCallS (spErr cl) (WE (WR cl Wx)) (tCons (tVar j) tNil))) (sTry F (sRet (eIf (fun ρ s => tstOf (eOp isND (eVar j) (eC .none) ρ s)) ff fun _ _ => .bad))) := by
  have hcall : DX X 𝒲 Wx (.Call (.Name "_law_error" q1) [.Name mn q5] [] q6) (tCallS (spErr cl) (WE (WR cl Wx)) (tCons (tVar j) tNil)) (fun _ _ => .bad) :=
    ⟨pe_callS Fo hr hg hm hk hbd (fun σ => passAt tk σ) (pa_cons hpj2 pa_nil he) (by decide) he hpl, fun _ _ _ _ _ _ _ _ z => z.elim⟩
  have hret := ds_ret (pos := q8) (dx_if (pos := q7) (dxt_cmp (pos := q4) cm_isN (dx_var j hpj : DX X 𝒲 Wx _ _ _) (dx_non (j := k0) (pos := q3)) (nomark _ (by decide) (by decide))) hf hcall)
  have hbW : ∀ (W : WX) (pn : List (Addr × Obj)) (xe : Value → Shared → Prop), Takes (X.tr pn xe) W → PassesOwn (model X.prog X.w) X.A X.env xe → PSs (X.tr pn xe) blk (tb (fun c s1 G1 => W (.ref (cl c)) none s1 G1) [] fun _ _ => True) := fun W pn xe tW _ => by
    rw [← htb _ pn xe]
    refine (hb _ pn xe (tW.imp fun cls d s1 G1 ⟨c, e1, e2, w⟩ => ?_)).ps
    subst e1 e2
    exact w
  have htry := ps_tryK (tb := fun W => tb (fun c s1 G1 => W (.ref (cl c)) none s1 G1) [] fun _ _ => True) (p1 := p1) (p2 := p2) (p6 := p6) hst hfr nd hi hj hie hje hex hC hsw hpe hbW
  refine ⟨pss_cons htry (pss_one hret.ps), fun W hW ρ σ s H D E h => ?_⟩
  have hd := (hb (fun c s1 G1 => wTk X.K C i j (tRet (tIf (tTest (tOp (fun x y H Q => y = .non ∧ Q (.bl (decide (x = .non))) H) (tVar j) (tC .non))) tf (tCallS (spErr cl) (WE (WR cl Wx)) (tCons (tVar j) tNil))) D) (.ref (cl c)) none s1 G1) [] (fun _ _ => True) (fun _ _ _ => trivial)).ds
  refine hd W hW ρ σ s H { D with nx := _ } E ?_
  unfold sTry at h
  revert h
  cases F ρ s with
  | nx ρ' s' => exact fun h σ' H' E' g => hret.ds W hW ρ' σ' s' H' D E' (PostS.later h g)
  | rt d s' => exact fun h => h
  | bk ρ' s' => exact fun h => h.elim
  | ct ρ' s' => exact fun h => h.elim
  | bad => exact fun h => h.elim
  | er c ρ' s' =>
    intro h
    dsimp only at h
    split at h
    · rename_i hc
      intro σ' H' E' g
      refine ⟨hx c hc, rfl, fun p hp lj => ?_⟩
      have hs : (((σ'.set i (some (V.ref p))).set j (some (V.ref p))).set i none)[j]? = some (some (V.ref p)) := by
        rw [List.getElem?_set_ne hij, List.getElem?_set_self (by rw [List.length_set]; exact lj)]
      refine ⟨.ref p, hs, rfl, decide (V.ref p = V.non), rfl, ?_⟩
      dsimp only
      rw [if_neg (by simp)]
      exact ⟨.ref p, hs, p, c, rfl, hc, upd_same, fun G' sm => h (.str (nmE c)) G' (W.ext _ _ _ E'.at_ ((Same.new hp).trans sm)) (Rp.str _ (nmE_ok c).1 (nmE_ok c).2)⟩
    · exact h.elim
end

/-! ### the def that names an exception -/
def exF (cl : Nat → Addr) : Fam (Addr × Nat) := ⟨fun W => ∀ s H, W.at_ s H → s.2 < 5 ∧ H s.1 = some (XO (.ref (cl s.2)) s.1), fun W p o h _ _ s H q => h s H q.1⟩
def rIsX (K : PySem.W.Frag) : List V → Hp → VK → Prop := fun xs G Q => ∃ (p D : Addr) (c : V) (cv : Value) (b : Bool), xs = [.ref p, c] ∧ G p = some (XO (.ref D) p) ∧ ExcC K D ∧ (∀ u, RelV c u → u = cv) ∧ PySem.W.kitOne K (.ref D) cv = some b ∧ Q (.bl b) G
theorem call_isX {X : Cx} : CallR X (.builtin "isinstance") (rIsX X.K) := by
  intro pl st ss G xs us Q I r h
  obtain ⟨p, D, c, cv, b, rfl, hp, C, hcv, hb, q⟩ := h
  cases r with
  | cons r1 rr =>
    cases rr with
    | cons r2 rr =>
      cases rr
      cases r1
      have e2 := hcv _ r2
      subst e2
      obtain ⟨⟨ob, fl, hg, hz, hd⟩, _⟩ := I.hok p _ hp
      have J : PySem.W.InstAt st.heap p ob D none := by
        obtain ⟨w1, w2, w3, w4⟩ := ob
        obtain ⟨z1, z2⟩ := hz
        simp only at z1 z2 hd
        subst z1 z2 hd
        exact ⟨hg, rfl, rfl, trivial⟩
      refine PySem.W.kia_one (PySem.W.handS_kitx_exc C.hg C.hk C.hs C.hd C.ha C.hn C.ht C.hm) I.kIn J hb (fun w => nomatch w) fun n => ?_
      exact ⟨.bl b, G, I.kept (t' := n) fun _ _ w => w, rfl, q⟩
def eIsX (i : Nat) (f : Nat → Bool) : FE (Addr × Nat) := fun ρ s => match ρ[i]? with
  | some (.v (.ref p)) => if p = s.1 then .ok (.d (.bool (f s.2))) s else .bad
  | _ => .bad
section
variable {X : Cx} {cl : Nat → Addr} {Wx : Wsh}
theorem dx_isX (i : Nat) (f : Nat → Bool) {x y : Str} {c : V} {cv : Value} {p p1 p2 pos : Pos} (hm : X.mg "isinstance" = none) (hE : ∀ c, c < 5 → ExcC X.K (cl c)) (hx : PE X (.Name x p1) (tVar i)) (hy : PE X (.Name y p2) (tC c)) (hc : ∀ u, RelV c u → u = cv)
    (hk : ∀ c, c < 5 → PySem.W.kitOne X.K (.ref (cl c)) cv = some (f c)) (hg : Gl X "isinstance" := by rfl)
    (he : starEach [.Name x p1, .Name y p2] X.env = (false, eval (.Name x p1) X.env) :: starEach [.Name y p2] X.env := by rfl) (hpl : (backTo pos (starEach [.Name y p2] X.env)).any (·.1) = false := by rfl)
    (hs2 : starEach [.Name y p2] X.env = (false, eval (.Name y p2) X.env) :: starEach [] X.env := by rfl) :
    DX X (exF cl) Wx (.Call (.Name "isinstance" p) [.Name x p1, .Name y p2] [] pos) (tCB (rIsX X.K) (tCons (tVar i) (tCons (tC c) tNil))) (eIsX i f) := by
  refine ⟨pe_callB call_isX hg hm PyProof.Rows.boot_isinstance (pa_cons hx (pa_cons hy pa_nil hs2) he) (by decide) (by decide) he hpl, fun W hW ρ σ s H Q E h => ?_⟩
  unfold eIsX at h
  split at h
  · rename_i q hq
    split at h
    · rename_i e
      subst e
      obtain ⟨h5, ho⟩ := hW s H E.at_
      exact ⟨_, E.raw i _ hq, _, cl s.2, c, cv, f s.2, rfl, ho, hE _ h5, hc, hk _ h5, h.ok E.at_ _ (Rp.bl _)⟩
    · exact h.elim
  · exact h.elim
/-- o.index(x) of a list o -/
def indexD (ds : List D) (y : D) : Option D := if SeqAt.shaped (.list ds) = true ∧ SeqAt.shaped y = true then (match ds.findIdx? fun z => PyData.eqv z y with
  | some j => some (.int (j : Nat))
  | none => none) else none
end
section
variable {S : Type} {X : Cx} {𝒲 : Fam S} {Wx : Wsh} {a : Expr} {ta : TE} {fa : FE S}
theorem dx_index {o : Expr} {to : TE} {fo : FE S} {apos cpos : Pos} (hu : X.A.units + 65 < cLine) (ho : DX X 𝒲 Wx o to fo) (ha : DX X 𝒲 Wx a ta fa) (hbase : attributeBase o "index" X.env (eval o X.env) = eval o X.env := by rfl)
    (hfew : ((backTo cpos (starEach [a] X.env)).all (fun x => !x.1) && (backToKw cpos (keywordEach [] X.env)).all (fun x => x.1.isSome)
      && decide ([a].length + ([] : List Keyword).length + (if ([] : List Keyword).isEmpty then 0 else 1) < 30)) = true := by rfl)
    (hline : (apos.endLine == cpos.line) = true := by rfl) (hs : starEach [a] X.env = (false, eval a X.env) :: starEach [] X.env := by rfl) (hplain : (backTo cpos (starEach [] X.env)).any (·.1) = false := by rfl) :
    DX X 𝒲 Wx (.Call (.Attribute o "index" apos) [a] [] cpos) (tBM X.K "list" (rIndexD X.K) to (tCons ta tNil)) (eBmL indexD fo fa) := by
  refine ⟨pe_bm PySem.F.plainAttrs_list PySem.F.slot_list_index PySem.F.type_list_index (mt_indexD hu) ho.pe (pa_cons ha.pe pa_nil hs) hbase hfew hline hs hplain, fun W hW ρ σ s H Q E h => ?_⟩
  refine ho.de W hW ρ σ s H _ E (h.bnd.imp fun x s1 H1 a1 e1 q v hv => ?_)
  have E1 := E.step a1 e1
  split at q
  · rename_i ds
    have hv : Rp _ v (.list ds) := hv
    cases hv with
    | lst h1 l1 r1 =>
      refine ⟨.inl ⟨rfl, _, SqL.of (Fz_sub _ _ h1)⟩, ?_⟩
      refine ha.de W hW ρ σ s1 H1 _ E1 (q.bnd.imp fun y s2 H2 a2 e2 q2 u hu => ?_)
      cases y with
      | v y => exact q2.elim
      | d y =>
        have q2 : Post W Wx σ H2 (lift (indexD ds y) s2) _ := q2
        cases hz : indexD ds y with
        | none => rw [hz] at q2; exact q2.elim
        | some z =>
          rw [hz] at q2
          unfold indexD at hz
          split at hz
          · rename_i hsh
            split at hz
            · rename_i j hj
              cases hz
              have hu : Rp _ u y := hu
              have r2 := r1.up (Frz.stp e2)
              obtain ⟨hlt, hyes, hno⟩ := List.findIdx?_eq_some_iff_getElem.mp hj
              exact ⟨_, u, y, ds, j, ds[j], rfl, rfl, .lst (SqL.of (Fz_sub _ _ (Frz.stp e2 _ _ h1))) (r2.up Fz_sub).dp, (hu.up Fz_sub).dp, hsh.1, hsh.2, List.getElem?_eq_getElem hlt, hyes, fun m z' hm hz' => by
                obtain ⟨hl', e'⟩ := List.getElem?_eq_some_iff.mp hz'
                have w := hno m hm
                rw [e'] at w
                simpa using w, q2.ok a2 _ (Rp.int _)⟩
            · cases hz
          · cases hz
  · exact q.elim
end
section
variable {P : Program} {w : World} {K : PySem.W.Frag} {mg : Str → Option Value} {base : Heap} {cl : Nat → Addr}
def exW (p : Addr) (c : Nat) (H0 : Hp) (hp : H0 p ≠ none) : Wd (Addr × Nat) where
  hid := fun q => q = p
  low := fun q => H0 q ≠ none
  at_ := fun s H => s = (p, c) ∧ Same H0 H
  ext := fun _ _ _ a b => ⟨a.1, a.2.trans b⟩
  mutn := fun _ H q _ _ a _ _ _ l => ⟨a.1, Same.mut a.2 (by
    cases z : H0 q with
    | none => rfl
    | some o => exact absurd (by rw [z]; simp) l)⟩
  hidIn := fun _ H q a m => by
    subst m
    cases z : H0 q with
    | none => exact absurd z hp
    | some o => rw [a.2 q o z]; simp
  lowIn := fun _ H q a l => by
    cases z : H0 q with
    | none => exact absurd z l
    | some o => rw [a.2 q o z]; simp
theorem fn_err {x qual : Str} {st : Stmt} {f : Addr} {fd : FuncData} {N : List Str} {k m : Nat} {F : FS (Addr × Nat)} {y : Str} (Fn : Fun K x qual st f fd) (Sc : FnScope N [y] (defScope st)) (hm : N.length = 1 + m)
    (body : ∀ (cdv : Value) (A : Around) (outer : List PySem.Env) (s : Shared) (H : Hp) (E : XK), Room k (A.deeper (envOfC qual (defScope st) s.heap.objs.size f cdv)) →
      ∃ t, DXSs (cxOf (L2.CX P w) P w K mg base N qual (defScope st) f cdv A outer s H E) (exF cl) (WE1 cl E) (defBody st) t F)
    (hF : ∀ (p : Addr) (c : Nat), c < 5 → F (.v (.ref p) :: List.replicate m .no) (p, c) = .rt (.d (.str (nmE c))) (p, c)) :
    FnOk P w K mg base (L2.CX P w) (k + 1) f fd [y] (spErr cl) := by
  refine Fn.okX Sc (fun vs H Q E h => ?_) fun cdv A outer s H vs Q E hr h => ?_
  · obtain ⟨p, c, rfl, _⟩ := h
    rfl
  · obtain ⟨t, hb⟩ := body cdv A outer s H E hr
    obtain ⟨p, c, rfl, hc, hp, kq⟩ := h
    refine ⟨t, hb.ps, ?_⟩
    have hp0 : H p ≠ none := by rw [hp]; simp
    have es : L2.start N [V.ref p] = some (.ref p) :: List.replicate m none := by
      unfold L2.start
      have e : N.length - [V.ref p].length = m := by simp; omega
      rw [e]
      rfl
    rw [es]
    refine hb.ds (exW p c H hp0) (fun s1 H1 q => ?_) (.v (.ref p) :: List.replicate m .no) _ (p, c) H _ (env_of (by simp) ⟨rfl, Same.refl H⟩ ?_ ?_ ?_) ?_
    · obtain ⟨rfl, q2⟩ := q
      exact ⟨hc, q2 p _ hp⟩
    · intro i xs e
      match i with
      | 0 => cases e
      | i + 1 =>
        rw [List.getElem?_cons_succ, List.getElem?_replicate] at e
        split at e <;> cases e
    · intro i xs e
      match i with
      | 0 => cases e
      | i + 1 =>
        rw [List.getElem?_cons_succ, List.getElem?_replicate] at e
        split at e <;> cases e
    · intro i xs e
      match i with
      | 0 => cases e; rfl
      | i + 1 =>
        rw [List.getElem?_cons_succ, List.getElem?_replicate] at e
        split at e <;> cases e
    · rw [hF p c hc]
      intro v H2 q hv
      cases (show Rp _ v (.str (nmE c)) from hv)
      exact kq H2 q.2
end

/-! ### what the classes must say -/
structure ErrT (K : PySem.W.Frag) (cl : Nat → Addr) (CA : Addr) : Prop where
  E : ∀ c, c < 5 → ExcC K (cl c)
  A : ∀ c, c < 5 → PySem.W.exmOne K (.ref (cl c)) (.ref CA) = some true
  q : ∀ d, d < 5 → ∀ c, c < 5 → PySem.W.kitOne K (.ref (cl c)) (.ref (cl d)) = some (decide (c = d))
  qA : ∀ c, c < 5 → PySem.W.kitOne K (.ref (cl c)) (.ref CA) = some true
  qV : ∀ c, c < 5 → PySem.W.kitOne K (.ref (cl c)) (.type "ValueError") = some true
structure Er1 (K : PySem.W.Frag) (C CA : Addr) : Prop where
  E : ExcC K C
  t : PySem.W.typeIn K (.ref C) = some (.type "type")
  own : PySem.W.subIn K (.ref C) (.ref C) = some true
  up : PySem.W.subIn K (.ref C) (.ref CA) = some true
  val : PySem.W.subIn K (.ref C) (.type "ValueError") = some true
theorem kit_ref {K : PySem.W.Frag} {D C : Addr} {b : Bool} (h0 : PySem.W.subIn K (.ref D) (.ref D) = some true) (hd : PySem.W.hasDictIn K C = true) (ht : PySem.W.typeIn K (.ref C) = some (.type "type")) (h : PySem.W.subIn K (.ref D) (.ref C) = some b) : PySem.W.kitOne K (.ref D) (.ref C) = some b := by
  obtain ⟨cd, hc, _⟩ := PySem.W.any_some hd
  unfold PySem.W.kitOne
  by_cases e : D = C
  · subst e
    rw [h0] at h
    cases h
    rw [if_pos (by simp)]
  · rw [if_neg (by simp [e])]
    unfold PySem.W.kitCls
    dsimp only
    rw [if_pos (by rw [hc, ht]; rfl)]
    exact h
theorem errT_mk {K : PySem.W.Frag} {cl : Nat → Addr} {CA : Addr} (h : ∀ c, c < 5 → Er1 K (cl c) CA) (hs : PySem.W.subIn K (.ref CA) (.type "BaseException") = some true) (hd : PySem.W.hasDictIn K CA = true) (ht : PySem.W.typeIn K (.ref CA) = some (.type "type"))
    (hn : ∀ c d, c < 5 → d < 5 → c ≠ d → PySem.W.subIn K (.ref (cl c)) (.ref (cl d)) = some false) : ErrT K cl CA where
  E := fun c hc => (h c hc).E
  A := fun c hc => PySem.W.exm_ref hs hd ht (h c hc).up
  q := fun d hd' c hc => kit_ref (h c hc).own (h d hd').E.hd (h d hd').t (by
    by_cases e : c = d
    · subst e; rw [decide_eq_true rfl]; exact (h c hc).own
    · rw [decide_eq_false e]; exact hn c d hc hd' e)
  qA := fun c hc => kit_ref (h c hc).own hd ht (h c hc).up
  qV := fun c hc => by
    unfold PySem.W.kitOne
    rw [if_neg (by simp)]
    unfold PySem.W.kitCls
    dsimp only
    rw [if_pos (by decide +kernel)]
    exact (h c hc).val
theorem rel_ref {p : Addr} : ∀ u, RelV (.ref p) u → u = Value.ref p := fun _ h => h
theorem rel_ty {n : String} : ∀ u, RelV (.ty n) u → u = Value.type n := fun _ h => h
theorem isX_at {i : Nat} {f : Nat → Bool} {ρ : Env} {p : Addr} {c : Nat} (h : ρ[i]? = some (.v (.ref p))) : eIsX i f ρ (p, c) = .ok (.d (.bool (f c))) (p, c) := by
  unfold eIsX
  rw [h]
  exact if_pos rfl
def F_err : FS (Addr × Nat) := (sSeq (sSet 1 (eLst (aCons (eIsX 0 (fun c => decide (c = 0))) (aCons (eIsX 0 (fun c => decide (c = 1))) (aCons (eIsX 0 (fun c => decide (c = 2))) aNil)))))
  (sSeq (sSet 1 (eOp addD (eVar 1) (eLst (aCons (eIsX 0 (fun c => decide (c = 3))) (aCons (eIsX 0 (fun c => decide (c = 4))) aNil)))))
  (sSeq (sIf (fOr (fun ρ s => tstOf ((eOp neD (eBmL countD (eVar 1) (eC (.bool true))) (eC (.int 1))) ρ s)) (fOr (fNot (fun ρ s => tstOf ((eIsX 0 (fun _ => true)) ρ s))) (fNot (fun ρ s => tstOf ((eIsX 0 (fun _ => true)) ρ s))))) (sRet (eC (.str "odd"))) sNil)
  (sRet (eOp ixD (eLst (aCons (eC (.str "things")) (aCons (eC (.str "number")) (aCons (eC (.str "points")) (aCons (eC (.str "text")) (aCons (eC (.str "none")) aNil)))))) (eBmL indexD (eVar 1) (eC (.bool true))))))))
theorem lst_threeT {S : Type} {a b c : FE S} {x y z : D} {ρ : Env} {s : S} (ha : a ρ s = .ok (.d x) s) (hb : b ρ s = .ok (.d y) s) (hc : c ρ s = .ok (.d z) s) : eLst (aCons a (aCons b (aCons c aNil))) ρ s = .ok (.d (.list [x, y, z])) s := by
  simp [eLst, aCons, aNil, ha, hb, hc, Res.bnd, datas, lift, lim]
theorem lst_twoT {S : Type} {a b : FE S} {x y : D} {ρ : Env} {s : S} (ha : a ρ s = .ok (.d x) s) (hb : b ρ s = .ok (.d y) s) : eLst (aCons a (aCons b aNil)) ρ s = .ok (.d (.list [x, y])) s := by
  simp [eLst, aCons, aNil, ha, hb, Res.bnd, datas, lift, lim]
theorem op_ofT {S : Type} {op : D → D → Option D} {fa fb : FE S} {x y z : D} {ρ : Env} {s : S} (ha : fa ρ s = .ok (.d x) s) (hb : fb ρ s = .ok (.d y) s) (h : op x y = some z) : eOp op fa fb ρ s = .ok (.d z) s := by
  simp [eOp, ha, hb, h, Res.bnd, lift]
def fErrT : FT (Addr × Nat) := (fOr (fNot (fun ρ s => tstOf ((eIsX 0 (fun _ => true)) ρ s))) (fNot (fun ρ s => tstOf ((eIsX 0 (fun _ => true)) ρ s))))
theorem errT_at {ρ : Env} {p : Addr} {c : Nat} (h : ρ[0]? = some (.v (.ref p))) : fErrT ρ (p, c) = .ok false (p, c) := by
  simp [fErrT, fOr, fNot, isX_at h, tstOf, Res.bnd]
theorem seq_nxT {S : Type} {F G : FS S} {ρ ρ' : Env} {s s' : S} (h : F ρ s = .nx ρ' s') : sSeq F G ρ s = G ρ' s' := by
  unfold sSeq
  rw [h]
  rfl
theorem err_run : ∀ (p : Addr) (c : Nat), c < 5 → F_err (.v (.ref p) :: List.replicate 1 .no) (p, c) = .rt (.d (.str (nmE c))) (p, c) := by
  intro p c hc
  have e1 : sSet 1 (eLst (aCons (eIsX 0 (fun c => decide (c = 0))) (aCons (eIsX 0 (fun c => decide (c = 1))) (aCons (eIsX 0 (fun c => decide (c = 2))) aNil)))) (.v (.ref p) :: List.replicate 1 .no) (p, c) = .nx [.v (.ref p), .d (.list [.bool (decide (c = 0)), .bool (decide (c = 1)), .bool (decide (c = 2))])] (p, c) := by
    unfold sSet
    rw [lst_threeT (isX_at rfl) (isX_at rfl) (isX_at rfl)]
    rfl
  have e2 : sSet 1 (eOp addD (eVar 1) (eLst (aCons (eIsX 0 (fun c => decide (c = 3))) (aCons (eIsX 0 (fun c => decide (c = 4))) aNil)))) [.v (.ref p), .d (.list [.bool (decide (c = 0)), .bool (decide (c = 1)), .bool (decide (c = 2))])] (p, c) = .nx [.v (.ref p), .d (.list [.bool (decide (c = 0)), .bool (decide (c = 1)), .bool (decide (c = 2)), .bool (decide (c = 3)), .bool (decide (c = 4))])] (p, c) := by
    unfold sSet
    rw [op_ofT (x := .list [.bool (decide (c = 0)), .bool (decide (c = 1)), .bool (decide (c = 2))]) (y := .list [.bool (decide (c = 3)), .bool (decide (c = 4))]) (z := .list [.bool (decide (c = 0)), .bool (decide (c = 1)), .bool (decide (c = 2)), .bool (decide (c = 3)), .bool (decide (c = 4))]) rfl (lst_twoT (isX_at rfl) (isX_at rfl)) (by simp [addD, lim])]
    rfl
  refine (seq_nxT e1).trans ((seq_nxT e2).trans ?_)
  have e3 : ∀ l : List D, eOp neD (eBmL countD (eVar 1) (eC (.bool true))) (eC (.int 1)) [.v (.ref p), .d (.list l)] (p, c) = .ok (.d (.bool (decide ((l.countP fun z => PyData.eqv z (.bool true)) ≠ 1)))) (p, c) → (sSeq (sIf (fOr (fun ρ s => tstOf ((eOp neD (eBmL countD (eVar 1) (eC (.bool true))) (eC (.int 1))) ρ s)) fErrT) (sRet (eC (.str "odd"))) sNil)
  (sRet (eOp ixD (eLst (aCons (eC (.str "things")) (aCons (eC (.str "number")) (aCons (eC (.str "points")) (aCons (eC (.str "text")) (aCons (eC (.str "none")) aNil)))))) (eBmL indexD (eVar 1) (eC (.bool true)))))) [.v (.ref p), .d (.list l)] (p, c) = if (l.countP fun z => PyData.eqv z (.bool true)) ≠ 1 then .rt (.d (.str "odd")) (p, c) else (sRet (eOp ixD (eLst (aCons (eC (.str "things")) (aCons (eC (.str "number")) (aCons (eC (.str "points")) (aCons (eC (.str "text")) (aCons (eC (.str "none")) aNil)))))) (eBmL indexD (eVar 1) (eC (.bool true))))) [.v (.ref p), .d (.list l)] (p, c) := by
    intro l he
    by_cases h : (l.countP fun z => PyData.eqv z (.bool true)) ≠ 1
    · rw [if_pos h]
      rw [decide_eq_true h] at he
      simp [sSeq, sIf, fOr, he, tstOf, Res.bnd, Res.out, sRet, eC, Out.seq]
    · rw [if_neg h]
      rw [decide_eq_false h] at he
      simp [sSeq, sIf, fOr, he, tstOf, Res.bnd, Res.out, sNil, Out.seq, errT_at]
  match c, hc with
  | 0, _ => refine (e3 _ rfl).trans rfl
  | 1, _ => refine (e3 _ rfl).trans rfl
  | 2, _ => refine (e3 _ rfl).trans rfl
  | 3, _ => refine (e3 _ rfl).trans rfl
  | 4, _ => refine (e3 _ rfl).trans rfl

/-! ### a, b, c, d = (0, 0, 0, []) -/
section
variable {S : Type} {X : Cx} {𝒲 : Fam S} {Wx : Wsh}
def sPar4M (i j k l : Nat) (a b c : Int) : FS S := fun ρ s => .nx ((((ρ.set i (.d (.int a))).set j (.d (.int b))).set k (.d (.int c))).set l (.m [])) s
theorem ds_par4M (i j k l : Nat) {x1 x2 x3 x4 : Str} {a b c : Int} {m1 m2 m3 m4 m6 : Nat} {p1 p2 p3 p4 p5 p6 p7 p8 p9 q1 q2 : Pos} (hc : X.calm = true) (hN : X.N.Nodup)
    (h1 : X.N[i]? = some x1 := by rfl) (h2 : X.N[j]? = some x2 := by rfl) (h3 : X.N[k]? = some x3 := by rfl) (h4 : X.N[l]? = some x4 := by rfl)
    (o1 : Loc X.env.scope x1 := by first | exact .inl rfl | exact .inr rfl) (o2 : Loc X.env.scope x2 := by first | exact .inl rfl | exact .inr rfl) (o3 : Loc X.env.scope x3 := by first | exact .inl rfl | exact .inr rfl) (o4 : Loc X.env.scope x4 := by first | exact .inl rfl | exact .inr rfl)
    (f1 : X.fn x1 = true ∨ X.env.scope.names.lookup x1 = some .local := by first | exact .inl rfl | exact .inr rfl) (f2 : X.fn x2 = true ∨ X.env.scope.names.lookup x2 = some .local := by first | exact .inl rfl | exact .inr rfl)
    (f3 : X.fn x3 = true ∨ X.env.scope.names.lookup x3 = some .local := by first | exact .inl rfl | exact .inr rfl) (f4 : X.fn x4 = true ∨ X.env.scope.names.lookup x4 = some .local := by first | exact .inl rfl | exact .inr rfl)
    (hn : (assignEach [.Name x1 p1, .Name x2 p2, .Name x3 p3, .Name x4 p4] X.env).length = 4 := by rfl) (hst : (assignEach [.Name x1 p1, .Name x2 p2, .Name x3 p3, .Name x4 p4] X.env).findIdx? (·.1) = none := by rfl)
    (hs : swapsWithSole [.Tuple [.Name x1 p1, .Name x2 p2, .Name x3 p3, .Name x4 p4] m1 p5] (.Tuple [.Constant (.int a) m2 p6, .Constant (.int b) m3 p7, .Constant (.int c) m4 p8, .List [] p9] m6 q1) q2.line X.env = pure false := by rfl) (hw : swappedStores [.Tuple [.Name x1 p1, .Name x2 p2, .Name x3 p3, .Name x4 p4] m1 p5] (.Tuple [.Constant (.int a) m2 p6, .Constant (.int b) m3 p7, .Constant (.int c) m4 p8, .List [] p9] m6 q1) X.env = pure none := by rfl) (hq : (assignEach [.Tuple [.Name x1 p1, .Name x2 p2, .Name x3 p3, .Name x4 p4] m1 p5] X.env).map (·.2) = [assign (.Tuple [.Name x1 p1, .Name x2 p2, .Name x3 p3, .Name x4 p4] m1 p5) X.env] := by rfl) :
    DXS X 𝒲 Wx (.Assign [.Tuple [.Name x1 p1, .Name x2 p2, .Name x3 p3, .Name x4 p4] m1 p5] (.Tuple [.Constant (.int a) m2 p6, .Constant (.int b) m3 p7, .Constant (.int c) m4 p8, .List [] p9] m6 q1) q2)
      (tAsg (tTup (tCons (tC (.int a)) (tCons (tC (.int b)) (tCons (tC (.int c)) (tCons (tLst tNil) tNil))))) (gTup X.K 4 (gCons (gName i) (gCons (gName j) (gCons (gName k) (gCons (gName l) gNil)))))) (sPar4M i j k l a b c) := by
  refine ⟨ps_asg (pe_tup (pa_cons pe_int (pa_cons pe_int (pa_cons pe_int (pa_cons (pe_lst pa_nil) pa_nil))))) (pg_tup hc (pgs_cons (pg_name hN h1 o1 f1) (pgs_cons (pg_name hN h2 o2 f2) (pgs_cons (pg_name hN h3 o3 f3) (pgs_cons (pg_name hN h4 o4 f4) pgs_nil)))) hn hst) hs hw hq, fun W hW ρ σ s H D E h => ?_⟩
  refine ⟨Nat.zero_le _, fun p hp => ⟨(by show 4 ≤ sizeLine; rw [sizeLine_eq]; decide), fun t ht => ?_⟩⟩
  have hpt : p ≠ t := fun z => by rw [← z, upd_same] at ht; cases ht
  refine ⟨_, _, rfl, SqT.of upd_same, rfl, _, _, rfl, _, _, rfl, _, _, rfl, _, _, rfl, rfl, ?_⟩
  have sm : Same H (upd (upd H p (.lst [])) t (.tup [.int a, .int b, .int c, .ref p])) := (Same.new hp).trans (Same.new ht)
  have E1 := E.setD i (d := .d (.int a)) (v := .int a) (.int a)
  have E2 := E1.setD j (d := .d (.int b)) (v := .int b) (.int b)
  have E3 := E2.setD k (d := .d (.int c)) (v := .int c) (.int c)
  obtain ⟨E4, g4⟩ := E3.setM (W.ext _ _ _ E.at_ sm) (Stp.of sm) l (p := p) (vs := []) (ds := []) hp (by rw [upd_ne hpt]; exact upd_same) (Nat.zero_le _) .nil
  have g1 : Grow W ρ σ H _ _ H := Grow.setD (i := i) (d := .d (.int a)) (v := some (.int a))
  have g2 := Grow.setD (W := W) (H := H) (ρ := ρ.set i (Sl.of (.d (.int a)))) (σ := σ.set i (some (.int a))) (i := j) (d := .d (.int b)) (v := some (.int b))
  have g3 := Grow.setD (W := W) (H := H) (ρ := (ρ.set i (Sl.of (.d (.int a)))).set j (Sl.of (.d (.int b)))) (σ := (σ.set i (some (.int a))).set j (some (.int b))) (i := k) (d := .d (.int c)) (v := some (.int c))
  exact h _ _ E4 (Same.trans (Same.trans (Same.trans g1 g2) g3) g4)
end
end DL

namespace DL
open PySem PySem.Spec PyProof.Rows L2
/-! ### str(i), sep.join(list of texts) -/
def strD : List D → Option D
  | [.int i] => if i.natAbs.log2 < 1920 ∧ (toString i : Str).length ≤ lim ∧ PyData.strOk (toString i) = true then some (.str (toString i)) else none
  | _ => none
theorem sa_str : SA (fun xs H Q => ∃ i, xs = [.int i] ∧ i.natAbs.log2 < 1920 ∧ Q (.str (toString i)) H) strD := by
  intro P H xs ds z Q hP hx ho k
  match ds, ho with
  | [.int i], ho =>
    obtain ⟨⟨h1, h2, h3⟩, rfl⟩ := ite_some ho
    obtain ⟨v, rfl, r⟩ := rp1 hx
    cases r
    exact ⟨i, rfl, h1, k _ _ (Same.refl _) (.str _ h2 h3)⟩
def strsOf : List D → Option (List Str)
  | [] => some []
  | .str x :: r => (strsOf r).map (x :: ·)
  | _ => none
theorem strs_rp {F : Hp} : ∀ {vs : List V} {ds : List D} {ys : List Str}, RpAll F vs ds → strsOf ds = some ys → vs = ys.map V.str
  | _, [], _, h, e => by cases h; cases e; rfl
  | _, .str x :: r, ys, h, e => by
    cases h with
    | cons a b =>
      cases a
      obtain ⟨zs, e1, rfl⟩ := Option.map_eq_some_iff.mp (show (strsOf r).map (x :: ·) = some ys from e)
      rw [strs_rp b e1]
      rfl
def joinD (a : Str) (ds : List D) : Option D := (strsOf ds).bind fun ys => if (ys.map (·.length)).sum + ys.length * a.length ≤ 16777216 ∧ (Txt.join a ys).length ≤ lim ∧ PyData.strOk (Txt.join a ys) = true then some (.str (Txt.join a ys)) else none
def eJoin {S : Type} (fo fa : FE S) : FE S := fun ρ s => (fo ρ s).bnd fun x s => match x with
  | .d (.str a) => (fa ρ s).bnd fun y s => (match y with
    | .d (.list ds) => lift (joinD a ds) s
    | _ => .bad)
  | _ => .bad
section
variable {S : Type} {X : Cx} {𝒲 : Fam S} {Wx : Wsh} {a o : Expr} {ta to : TE} {fa fo : FE S}
theorem dx_join {apos cpos : Pos} (ho : DX X 𝒲 Wx o to fo) (ha : DX X 𝒲 Wx a ta fa) (hbase : attributeBase o "join" X.env (eval o X.env) = eval o X.env := by rfl)
    (hfew : ((backTo cpos (starEach [a] X.env)).all (fun x => !x.1) && (backToKw cpos (keywordEach [] X.env)).all (fun x => x.1.isSome)
      && decide ([a].length + ([] : List Keyword).length + (if ([] : List Keyword).isEmpty then 0 else 1) < 30)) = true := by rfl)
    (hline : (apos.endLine == cpos.line) = true := by rfl) (hs : starEach [a] X.env = (false, eval a X.env) :: starEach [] X.env := by rfl) (hplain : (backTo cpos (starEach [] X.env)).any (·.1) = false := by rfl) :
    DX X 𝒲 Wx (.Call (.Attribute o "join" apos) [a] [] cpos) (tBM X.K "str" (fun x xs H Q => ∃ a p, ∃ ys : List Str, x = .str a ∧ xs = [.ref p] ∧ (SqL X.K H p (ys.map V.str) ∨ SqT X.K H p (ys.map V.str)) ∧
      (ys.map (·.length)).sum + ys.length * a.length ≤ 16777216 ∧ Q (.str (Txt.join a ys)) H) to (tCons ta tNil)) (eJoin fo fa) := by
  refine ⟨pe_bm PySem.F.plainAttrs_str PySem.F.slot_str_join PySem.F.type_str_join mt_join ho.pe (pa_cons ha.pe pa_nil hs) hbase hfew hline hs hplain, fun W hW ρ σ s H Q E h => ?_⟩
  refine ho.de W hW ρ σ s H _ E (h.bnd.imp fun x s1 H1 a1 e1 q v hv => ?_)
  have E1 := E.step a1 e1
  split at q
  · rename_i z
    cases (show Rp _ v (.str z) from hv)
    refine ⟨(rfl : ("str" : String) = "str"), ?_⟩
    refine ha.de W hW ρ σ s1 H1 _ E1 (q.bnd.imp fun y s2 H2 a2 e2 q2 u hu => ?_)
    split at q2
    · rename_i ds
      have hu : Rp _ u (.list ds) := hu
      cases hu with
      | lst g1 g2 g3 =>
        cases hz : joinD z ds with
        | none => rw [hz] at q2; exact q2.elim
        | some w =>
          rw [hz] at q2
          obtain ⟨ys, hy, hw⟩ := Option.bind_eq_some_iff.mp (show (strsOf ds).bind _ = some w from hz)
          obtain ⟨⟨b1, b2, b3⟩, rfl⟩ := ite_some hw
          have ev := strs_rp g3 hy
          subst ev
          exact ⟨z, _, ys, rfl, rfl, .inl (SqL.of (Fz_sub _ _ g1)), b1, q2.ok a2 _ (Rp.str _ b2 b3)⟩
    · exact q2.elim
  · exact q.elim
end
end DL

namespace DL
open PySem PySem.Spec PyProof.Rows L2
/-! ### a set out of a list of pairs, few of them unlike -/
abbrev PT := Addr × List Int
/-- never as many as 63 unlike ones -/
def FewT (qs : List PT) : Prop := ∀ M : List PT, (M.map (·.2)).Nodup → (∀ x ∈ M, x ∈ qs) → M.length + 1 < 64
section
variable {P : Program} {w : World} {A : Around} {E : Value → Shared → Prop}
theorem turns_of {it : Addr} {fp wr : List Addr} {Γ : Array GenState → Array GenState → Prop} {m : Nat} {Pv : Nat → Value → Prop} {At : Nat → Shared → Prop} {Rz : Result → Shared → Prop}
    (Wk : WalksS P w A.in1 it fp wr Γ m Pv At) (a : Addr) (na : a ∉ fp) (qs : List PT) (em : m = qs.length) (few : FewT qs) (item : ∀ j u, Pv j u → ∃ x, qs[j]? = some x ∧ u = .ref x.1)
    (g0 : Heap) (tups : ∀ x ∈ qs, IsT P w g0 x.2 x.1) (fresh : g0.get? a = none) (fresh2 : ∀ c ∈ wr, g0.get? c = none) (room : A.in1.units < cLine) :
    ∀ (left j : Nat) (st : Shared), m - j = left → j ≤ m → At j st → (∀ c o, g0.get? c = some o → st.heap.get? c = some o) → (∃ M es ep tb, SetTR P w st.heap a M es ep tb ∧ Got qs j M) →
      (∀ st2 M es ep tb, Moved (a :: wr) Γ st st2 → SetTR P w st2.heap a M es ep tb → Got qs m M → (∀ c o, g0.get? c = some o → st2.heap.get? c = some o) → Rz (.ok (.ret .none)) st2) →
      codeAny (model P w) A (.builtin "set.update.loop" ⟨[.ref a, .ref it], []⟩) Rz st := by
  have na2 : a ∉ wr := fun z => na (Wk.sub _ z)
  have up : ∀ c ∈ wr, c ∈ a :: wr := fun c z => .tail _ z
  have on : ∀ {x y : Shared}, Moved wr Γ x y → (∀ c o, g0.get? c = some o → x.heap.get? c = some o) → ∀ c o, g0.get? c = some o → y.heap.get? c = some o := by
    intro x y mv k c o e
    refine mv.heap c o (fun z => ?_) (k c o e)
    rw [fresh2 c z] at e
    cases e
  intro left
  induction left with
  | zero =>
    rintro j st el hj hat k ⟨M, es, ep, tb, hM, got⟩ fin
    obtain rfl : j = m := by omega
    apply codeAny_builtin F.entry_set_update_loop
    rw [Around.under_plainId F.plain_set_update_loop _]
    show wpAny _ A.in1 (pyNext (.ref it) >>= _) _ _ st
    apply wpAny_bind
    apply Wk.done st _ _ hat
    intro st2 mv
    show wpAny _ A.in1 (ret Value.none) _ _ st2
    have k2 := on mv k
    refine wpAny_pure (fin st2 M es ep tb (mv.mono up) (hM.keep (fun o e => mv.heap a o na2 e) fun x hx => ?_) got k2)
    exact isT_keep (tups x (List.mem_of_mem_take (got.sub x hx))) k2
  | succ left ih =>
    rintro j st el hj hat k ⟨M, es, ep, tb, hM, got⟩ fin
    have lt : j < m := by omega
    apply codeAny_builtin F.entry_set_update_loop
    rw [Around.under_plainId F.plain_set_update_loop _]
    show wpAny _ A.in1 (pyNext (.ref it) >>= _) _ _ st
    apply wpAny_bind
    apply Wk.item j st _ _ lt hat
    intro u st2 hu hat2 mv
    obtain ⟨x, hx, rfl⟩ := item j u hu
    have k2 := on mv k
    have inn : ∀ y ∈ M, y ∈ qs := fun y hy => List.mem_of_mem_take (got.sub y hy)
    have hM2 : SetTR P w st2.heap a M es ep tb := hM.keep (fun o e => mv.heap a o na2 e) fun y hy => isT_keep (tups y (inn y hy)) k2
    have hxT : IsT P w st2.heap x.2 x.1 := isT_keep (tups x (List.mem_of_getElem? hx)) k2
    show wpAny _ A.in1 (holding [Value.ref x.1] (setAdd a (.ref x.1)) >>= _) _ _ st2
    apply wpAny_bind
    apply wpAny_holding
    unfold setAdd
    apply wpAny_holding
    apply wpAny_bind
    apply wpAny_pyHash_tuple room hxT
    refine add_at (s := { st2 with toks := st2.toks + (x.2.length + 1) }) hM2 hxT room (few M hM.nd inn) fun b h2 M2 es2 ep2 tb2 but hM3 old new => ?_
    have got2 : Got qs (j + 1) M2 := by
      by_cases c : x.2 ∈ M.map (·.2)
      · rw [old c]; exact got.same hx c
      · exact got.more hx (new c)
    have k3 : ∀ c o, g0.get? c = some o → h2.get? c = some o := by
      intro c o e
      refine (but.2 c fun z => ?_).trans (k2 c o e)
      rw [z, fresh] at e
      cases e
    apply wpAny_pure
    refine ⟨plainId_quiet F.plain_set_update_loop _, ih (j + 1) _ (by omega) lt (Wk.frame _ st2 _ _ hat2 (Nat.le_add_right _ _) fun c hc o e => ?_) k3 ⟨M2, es2, ep2, tb2, hM3, got2⟩ fun st3 M4 es4 ep4 tb4 mv2 hM4 got4 k4 => ?_⟩
    · rw [but.2 c (fun z : c = a => na (z ▸ hc))]; exact e
    · refine fin st3 M4 es4 ep4 tb4 (Moved.trans Wk.gtrans ((mv.mono up).then_heap (Nat.le_add_right _ _) fun c o nc e => ?_) mv2) hM4 got4 k4
      rw [but.2 c (fun z : c = a => nc (z ▸ List.mem_cons_self))]; exact e
end
section
variable {P : Program} {w : World} {A : Around} {E : Value → Shared → Prop} {s : Shared}
/-- the empty set as it is laid -/
abbrev set0 (w : World) : Obj := { cls := .type "set", dict := none, data := .set #[] 0 (.fresh 0 0 (!w.params.followText "set-order")) }
theorem set_of_few {b : Addr} {its : Array Value} (qs : List PT) {Q : Value → Shared → Prop} (hA : A.handled = none) (isl : s.heap.IsList b its) (eits : its.toList = qs.map fun x => Value.ref x.1)
    (tups : ∀ x ∈ qs, IsT P w s.heap x.2 x.1) (few : FewT qs) (room : A.units + 3 < cLine)
    (fin : ∀ (h2 : Heap) (n : Nat) M es ep tb, SetTR P w h2 s.heap.objs.size M es ep tb → Got qs qs.length M → (∀ c o, s.heap.get? c = some o → h2.get? c = some o) → Q (.ref s.heap.objs.size) { s with heap := h2, toks := n }) :
    wpAny (model P w) A (call (.type "set") [.ref b]) Q E s := by
  have len : its.size = qs.length := by
    have q := congrArg List.length eits
    rwa [Array.length_toList, List.length_map] at q
  obtain ⟨c, tl, hmro⟩ := F.called_set.mro
  have hmade := F.called_set.made
  have hsub := F.called_set.sub
  have h1 := F.called_set.notType
  have h2 := F.called_set.canCreate
  have hct := F.typeCall_set_1 (.ref b)
  apply wpAny_call
  apply codeAny_of_tree
  show wpAny _ _ (callAny (.type "set") _) _ _ _
  refine wpAny_pure ⟨Code.quiet_builtin _ (by decide +kernel), codeAny_builtin F.entry_type_call ?_⟩
  rw [Around.under_plain (weight_type_call_type "set" [.ref b] []) rfl]
  repeat (any_goals (first | assumption | wp_step))
  refine codeAny_mono (code_set_led1 (.ref b) (E := E) (Q₁ := fun v st => v = .ref s.heap.objs.size ∧ st = { s with heap := s.heap.push (set0 w) }) ⟨rfl, rfl⟩) fun r1 st1 q1 => ?_
  cases r1 with
  | error e => exact q1
  | ok f1 =>
    cases f1 with
    | next => exact q1.elim
    | brk => exact q1.elim
    | cont => exact q1.elim
    | ret v =>
      obtain ⟨rfl, rfl⟩ := q1
      have at0 : (s.heap.push (set0 w)).get? s.heap.objs.size = some (set0 w) := Heap.get?_push_size _ rfl
      have ty0 : Shared.TypeIs { s with heap := s.heap.push (set0 w) } (.ref s.heap.objs.size) "set" := ⟨_, at0, rfl⟩
      have hli := F.called_set.init.lookup
      have hbi := F.called_set.init.bind (.ref s.heap.objs.size)
      repeat (any_goals (first | assumption | wp_step))
      refine codeAny_mono (codeAny_call_builtin (R := wants (fun v st => v = .none ∧ ∃ g n M es ep tb, st = { s with heap := g, toks := n } ∧ SetTR P w g s.heap.objs.size M es ep tb ∧ Got qs qs.length M ∧ (∀ c o, s.heap.get? c = some o → g.get? c = some o)) E)
        F.called_set.init.plain F.entry_set_init (check_set_init_1 ty0 ?_)) fun r2 st2 q2 => ?_
      · obtain ⟨⟨oc, od, oda, osl⟩, hob, hoc, on, hod⟩ := isl
        simp only at hoc hod
        subst hoc hod
        have isl : s.heap.IsList b its := ⟨_, hob, rfl, on, rfl⟩
        have obB : (s.heap.push (set0 w)).get? b = some { cls := .type "list", dict := od, data := .seq its on, slots := osl } := Heap.get?_push_of_some _ hob
        have hsls := F.sub_list_set
        have hslf := F.sub_list_frozenset
        have hne : (Value.type "list" == Value.type "dict") = false := by decide
        have isl1 : (s.heap.push (set0 w)).IsList b its := ⟨_, obB, rfl, on, rfl⟩
        unfold Builtin.«set.__init__» noKeywords Builtin.Frozenset.updateFrom
        generalize hPI : pyIter = PI
        wp_walk
        subst hPI
        apply wpAny_pyIter_list isl1
        apply wpAny_bind
        apply wpAny_runValue
        have lb : b < s.heap.objs.size := Heap.lt_size hob
        have hA3 : A.in1.in1.in1.handled = none := by simp [hA]
        have sz1 : (s.heap.push (set0 w)).objs.size = s.heap.objs.size + 1 := Heap.size_push ..
        have nb : b ≠ (s.heap.push (set0 w)).objs.size := by rw [sz1]; exact Nat.ne_of_lt (Nat.lt_succ_of_lt lb)
        have nS : s.heap.objs.size ∉ [(s.heap.push (set0 w)).objs.size, b] := by
          rw [sz1]
          intro z
          simp only [List.mem_cons, List.not_mem_nil, or_false] at z
          rcases z with z | z
          · exact absurd z (Nat.ne_of_lt (Nat.lt_succ_self _))
          · exact absurd z (Nat.ne_of_gt lb)
        have item : ∀ (j : Nat) (u : Value), its[j]? = some u → ∃ x, qs[j]? = some x ∧ u = .ref x.1 := by
          intro j u hu
          have q : its.toList[j]? = some u := by rw [Array.getElem?_toList]; exact hu
          rw [eits, List.getElem?_map, Option.map_eq_some_iff] at q
          obtain ⟨x, hx, e⟩ := q
          exact ⟨x, hx, e.symm⟩
        have none_at : ∀ c, s.heap.objs.size ≤ c → s.heap.get? c = none := by
          intro c hc
          cases q : s.heap.get? c with
          | none => rfl
          | some o => exact absurd (Nat.lt_of_lt_of_le (Heap.lt_size q) hc) (Nat.lt_irrefl _)
        refine turns_of ((Walks.list hA3 _ b nb its).toS) s.heap.objs.size nS qs len few item s.heap tups (none_at _ (Nat.le_refl _)) (fun c hc => none_at c ?_) room (its.size - 0) 0 _ (by omega) (Nat.zero_le _)
          ⟨⟨_, Heap.get?_push_size _ rfl, rfl, rfl⟩, (isl1.push _)⟩ (fun c o e => Heap.get?_push_of_some _ (Heap.get?_push_of_some _ e)) ⟨[], #[], 0, _, setTR_fresh (Heap.get?_push_of_some _ at0), Got.zero qs⟩ ?_
        · rw [List.mem_singleton.mp hc, sz1]; exact Nat.le_succ _
        · rintro ⟨g, gg, dd, n, oo⟩ M es ep tb mv hM got k
          obtain rfl : gg = s.gens := mv.gens
          obtain rfl : dd = s.drawn := mv.drawn
          obtain rfl : oo = s.os := mv.os
          show wpAny _ _ _ _ _ _
          apply wpAny_pure
          show wpAny _ _ (ret Value.none) _ _ _
          rw [len] at got
          exact wpAny_pure ⟨rfl, g, n, M, es, ep, tb, rfl, hM, got, k⟩
      · cases r2 with
        | error e => exact q2
        | ok f2 =>
          cases f2 with
          | next => exact q2.elim
          | brk => exact q2.elim
          | cont => exact q2.elim
          | ret v =>
            obtain ⟨rfl, g, n, M, es, ep, tb, rfl, hM, got, k⟩ := q2
            repeat (any_goals (first | assumption | wp_step))
            exact fin _ _ _ _ _ _ hM got k
end
end DL

namespace DL
open PySem PySem.Spec PyProof.Rows L2
def rSetFew (K : PySem.W.Frag) (P : Program) (w : World) : List V → Hp → VK → Prop := fun xs H Q => ∃ (b : Addr) (qs : List PT), xs = [V.ref b] ∧ SqL K H b (qs.map fun x => V.ref x.1) ∧ (∀ x ∈ qs, SqT K H x.1 (x.2.map V.int)) ∧ FewT qs ∧
  ∀ a M, H a = none → (∀ x ∈ M, x ∈ qs) → (∀ x ∈ qs, x.2 ∈ M.map (·.2)) → (M.map (·.2)).Nodup → Q (.ref a) (upd H a (SetTO P w a M))
theorem cr_setFew {X : Cx} (hc : X.calm = true) (hu : X.A.units + 64 < cLine) : CallR X (.type "set") (rSetFew X.K X.prog X.w) := by
  intro pl st ss H xs us Q I r h
  obtain ⟨b, qs, rfl, isl, tups, few, q⟩ := h
  rw [Vals.ref1 r]
  obtain ⟨its, rv, pl2, _⟩ := I.list isl
  refine set_of_few qs (I.ok.hd hc) pl2.isList (by simpa using refs_of_vals rv) (fun x hx => I.isT (tups x hx)) few (by omega) fun g n M es ep tb hM got k => ?_
  exact ⟨.ref st.heap.objs.size, _, I.laid (t' := n) k (Nat.le_refl _) (setTO_new hM.t0), rfl, q _ M (I.hok.fresh (Nat.le_refl _)) (fun x hx => List.mem_of_mem_take (got.sub x hx)) (fun x hx => got.all x (by rw [List.take_length]; exact hx)) hM.nd⟩
def pairsOf : List D → Option (List (Int × Int))
  | [] => some []
  | .tuple [.int a, .int b] :: r => (pairsOf r).map ((a, b) :: ·)
  | _ => none
def cdP (p : Int × Int) : Int := p.1 * 64 + p.2
def dcP (k : Int) : Int × Int := (k / 64, k % 64)
def inP (p : Int × Int) : Bool := decide (0 ≤ p.1) && decide (p.1 < 64) && (decide (0 ≤ p.2) && decide (p.2 < 64))
def prD (p : Int × Int) : D := .tuple [.int p.1, .int p.2]
def sortSetP : List D → Option D
  | [.list ds] => (pairsOf ds).bind fun ps => if ps.all inP = true ∧ (sortU (ps.map cdP)).length + 1 < 64 then some (.list ((sortU (ps.map cdP)).map fun k => prD (dcP k))) else none
  | _ => none
theorem dc_cd {p : Int × Int} (h : inP p = true) : dcP (cdP p) = p := by
  unfold inP at h
  simp only [Bool.and_eq_true, decide_eq_true_eq] at h
  unfold dcP cdP
  exact Prod.ext (by dsimp only; omega) (by dsimp only; omega)
theorem nodup_le {α : Type} [DecidableEq α] : ∀ {l m : List α}, l.Nodup → (∀ x ∈ l, x ∈ m) → l.length ≤ m.length
  | [], _, _, _ => Nat.zero_le _
  | x :: l, m, n, h => by
    obtain ⟨n1, n2⟩ := List.nodup_cons.mp n
    have hx : x ∈ m := h x (by simp)
    have ih := nodup_le (m := m.erase x) n2 fun y hy => by
      have ne : y ≠ x := fun e => n1 (e ▸ hy)
      exact (List.mem_erase_of_ne ne).mpr (h y (by simp [hy]))
    rw [List.length_erase_of_mem hx] at ih
    have := List.length_pos_of_mem hx
    rw [List.length_cons]
    omega
theorem pairs_rp {F : Hp} : ∀ {vs : List V} {ds : List D} {ps : List (Int × Int)}, RpAll F vs ds → pairsOf ds = some ps → ∃ qs : List PT, vs = qs.map (fun x => V.ref x.1) ∧ qs.map (·.2) = ps.map (fun p => [p.1, p.2]) ∧ ∀ x ∈ qs, F x.1 = some (.tup (x.2.map V.int))
  | _, [], ps, h, e => by cases h; cases e; exact ⟨[], rfl, rfl, fun _ z => nomatch z⟩
  | _, .tuple [.int a, .int b] :: r, ps, h, e => by
    obtain ⟨rs, e1, rfl⟩ := Option.map_eq_some_iff.mp (show (pairsOf r).map ((a, b) :: ·) = some ps from e)
    cases h with
    | cons h1 h2 =>
      obtain ⟨qs, q1, q2, q3⟩ := pairs_rp h2 e1
      cases h1 with
      | @tup t xs _ ha la ra =>
        have ex : xs = [.int a, .int b] := by
          cases ra with
          | cons x1 x2 =>
            cases x1
            cases x2 with
            | cons y1 y2 => cases y1; cases y2; rfl
        subst ex
        refine ⟨(t, [a, b]) :: qs, by rw [List.map_cons, q1], by rw [List.map_cons, List.map_cons, q2], fun x hx => ?_⟩
        rcases List.mem_cons.mp hx with e | e
        · rw [e]; exact ha
        · exact q3 x e
/-- sorted(set(xs)) of pairs, as one call -/
def rSortSetP (K : PySem.W.Frag) (P : Program) (w : World) : List V → Hp → VK → Prop := fun vs H Q => rSetFew K P w vs H fun v H1 => rSortedT K P w [v] H1 Q
theorem sa_sortSetP {K : PySem.W.Frag} {Pg : Program} {w : World} : SA (rSortSetP K Pg w) sortSetP := by
  intro P H xs ds z Q hP hx ho k
  match ds, ho with
  | [.list ds], ho =>
    obtain ⟨ps, e, e2⟩ := Option.bind_eq_some_iff.mp (show (pairsOf ds).bind _ = some z from ho)
    obtain ⟨⟨hin, hfew⟩, rfl⟩ := ite_some e2
    have hin := List.all_eq_true.mp hin
    obtain ⟨v, rfl, r⟩ := rp1 hx
    cases r with
    | @lst b vs _ hb lb rb =>
      obtain ⟨qs, q1, q2, q3⟩ := pairs_rp rb e
      have key : ∀ x ∈ qs, ∃ p ∈ ps, x.2 = [p.1, p.2] := fun x hx => by
        have : x.2 ∈ qs.map (·.2) := List.mem_map.mpr ⟨x, hx, rfl⟩
        rw [q2] at this
        obtain ⟨p, hp, e⟩ := List.mem_map.mp this
        exact ⟨p, hp, e.symm⟩
      have back : ∀ p ∈ ps, ∃ x ∈ qs, x.2 = [p.1, p.2] := fun p hp => by
        have : [p.1, p.2] ∈ ps.map fun p => [p.1, p.2] := List.mem_map.mpr ⟨p, hp, rfl⟩
        rw [← q2] at this
        obtain ⟨x, hx, e⟩ := List.mem_map.mp this
        exact ⟨x, hx, e⟩
      have cde : ∀ x ∈ qs, ∀ p, x.2 = [p.1, p.2] → TS.code 64 x.2 = cdP p := fun x _ p e => by rw [e, code_pair]; rfl
      have codes : ∀ M : List PT, (M.map (·.2)).Nodup → (∀ x ∈ M, x ∈ qs) → (M.map fun x => TS.code 64 x.2).Nodup ∧ ∀ c ∈ M.map (fun x => TS.code 64 x.2), c ∈ sortU (ps.map cdP) := fun M nd sub => by
        constructor
        · rw [List.nodup_iff_pairwise_ne] at nd ⊢
          rw [List.pairwise_map] at nd ⊢
          refine nd.imp_of_mem fun {x y} hx hy ne e => ne ?_
          obtain ⟨p, hp, e1⟩ := key x (sub x hx)
          obtain ⟨q, hq, e3⟩ := key y (sub y hy)
          rw [cde x (sub x hx) p e1, cde y (sub y hy) q e3] at e
          have := congrArg dcP e
          rw [dc_cd (hin p hp), dc_cd (hin q hq)] at this
          rw [e1, e3, this]
        · intro c hc
          obtain ⟨x, hx, rfl⟩ := List.mem_map.mp hc
          obtain ⟨p, hp, e1⟩ := key x (sub x hx)
          rw [sortU_mem]
          exact List.mem_map.mpr ⟨p, hp, (cde x (sub x hx) p e1).symm⟩
      refine ⟨b, qs, rfl, SqL.of (Fz_sub _ _ (q1 ▸ hb)), fun x hx => SqT.of (Fz_sub _ _ (q3 x hx)), fun M nd sub => ?_, fun a M ha sub all nd => ?_⟩
      · have c := codes M nd sub
        have := nodup_le c.1 c.2
        rw [List.length_map] at this
        omega
      · have s1 := Same.new (H := H) (o := SetTO Pg w a M) ha
        refine ⟨a, M, 2, 64, rfl, upd_same, fun x hx => SqT.of (s1 _ _ (Fz_sub _ _ (q3 x (sub x hx)))), by decide, fun x hx => ?_, fun L' l pm nd2 _ asc hl => ?_⟩
        · obtain ⟨p, hp, e1⟩ := key x (sub x hx)
          have ip := hin p hp
          unfold inP at ip
          simp only [Bool.and_eq_true, decide_eq_true_eq] at ip
          rw [e1]
          refine ⟨rfl, ?_⟩
          intro n hn
          simp only [List.mem_cons, List.not_mem_nil, or_false] at hn
          rcases hn with e | e <;> rw [e] <;> omega
        · have sub' : ∀ x ∈ L', x ∈ qs := fun x hx => sub x (pm.mem_iff.mp hx)
          have c := codes L' nd2 sub'
          have up : (L'.map fun x => TS.code 64 x.2).Pairwise (· < ·) := by
            rw [List.pairwise_map]
            have n1 := c.1
            rw [List.nodup_iff_pairwise_ne, List.pairwise_map] at n1
            exact (asc.and n1).imp fun h => Int.lt_iff_le_and_ne.mpr h
          have eS : (L'.map fun x => TS.code 64 x.2) = sortU (ps.map cdP) := rising_eq up sortU_lt fun j => by
            constructor
            · exact c.2 j
            · intro hj
              rw [sortU_mem] at hj
              obtain ⟨p, hp, rfl⟩ := List.mem_map.mp hj
              obtain ⟨x, hx, e1⟩ := back p hp
              have := all x hx
              obtain ⟨y, hy, e3⟩ := List.mem_map.mp this
              have hy' : y ∈ L' := pm.mem_iff.mpr hy
              exact List.mem_map.mpr ⟨y, hy', by rw [cde y (sub' y hy') p (e3.trans e1)]⟩
          have s2 := s1.trans (Same.new (o := .lst (L'.map fun x => V.ref x.1)) hl)
          refine k _ _ s2 (rp_lst (hP.up s1) hl ?_ ?_)
          · have := nodup_le c.1 c.2
            rw [List.length_map] at this ⊢
            unfold lim
            omega
          · have data : ∀ R : List PT, (∀ x ∈ R, x ∈ qs) → RpAll (Fz P (upd H a (SetTO Pg w a M))) (R.map fun x => V.ref x.1) (R.map fun x => prD (dcP (TS.code 64 x.2))) := fun R hR => by
              induction R with
              | nil => exact .nil
              | cons x R ih =>
                refine .cons ?_ (ih fun y hy => hR y (by simp [hy]))
                have hx := hR x (by simp)
                obtain ⟨p, hp, e1⟩ := key x hx
                dsimp only
                rw [cde x hx p e1, dc_cd (hin p hp)]
                have t := q3 x hx
                rw [e1] at t
                have t2 : Fz P (upd H a (SetTO Pg w a M)) x.1 = some (.tup [.int p.1, .int p.2]) := by
                  obtain ⟨f1, f2⟩ := Fz_some.mp t
                  exact Fz_some.mpr ⟨f1, s1 _ _ f2⟩
                exact .tup t2 (by show 2 ≤ lim; decide) (.cons (.int _) (.cons (.int _) .nil))
            have d := data L' sub'
            rw [← eS, List.map_map]
            exact d
section
variable {S : Type} {X : Cx} {𝒲 : Fam S} {Wx : Wsh} {a : Expr}
theorem dx_sortSetP {p p2 pos pos2 : Pos} {t : TA} {g : FA S} (hc : X.calm = true) (hu : X.A.units + 65 < cLine) (hm : X.mg "sorted" = none) (hm2 : X.mg "set" = none) (ha : DXA X 𝒲 Wx [a] t g) (hg : Gl X "sorted" := by rfl) (hg2 : Gl X "set" := by rfl)
    (he : starEach [.Call (.Name "set" p2) [a] [] pos2] X.env = (false, eval (.Call (.Name "set" p2) [a] [] pos2) X.env) :: starEach [] X.env := by rfl) (he2 : starEach [a] X.env = (false, eval a X.env) :: starEach [] X.env := by rfl)
    (hpl : (backTo pos (starEach [] X.env)).any (·.1) = false := by rfl) (hpl2 : (backTo pos2 (starEach [] X.env)).any (·.1) = false := by rfl) :
    DX X 𝒲 Wx (.Call (.Name "sorted" p) [.Call (.Name "set" p2) [a] [] pos2] [] pos) (tCB (rSortedT X.K X.prog X.w) (tCons (tCB (rSetFew X.K X.prog X.w) t) tNil)) (eCall sortSetP g) := by
  refine ⟨pe_callB (cr_sortedT hc) hg hm PyProof.Rows.boot_sorted (pa_cons (pe_callTy (cr_setFew hc (Nat.lt_of_succ_lt hu)) hg2 hm2 PyProof.Rows.boot_set ha.pa (by decide) (by decide) he2 hpl2) pa_nil he) (by decide) (by decide) he hpl, fun W hW ρ σ s H Q E hp => ?_⟩
  refine ha.da W hW ρ σ s H _ E (hp.bnd.imp fun x s1 H1 a1 e1 q v hv => ?_)
  cases hd : datas x with
  | none => rw [hd] at q; exact q.elim
  | some ds =>
    rw [hd] at q
    have q : Post W Wx σ H1 (lift (sortSetP ds) s1) _ := q
    cases hz : sortSetP ds with
    | none => rw [hz] at q; exact q.elim
    | some z =>
      rw [hz] at q
      exact sa_sortSetP (K := X.K) (Pg := X.prog) (w := X.w) _ H1 v ds z Q (E.step a1 e1).inH (datas_rp hv hd) hz fun w H3 e3 hw => q H3 (W.ext _ _ _ a1 e3) (Stp.of e3) w hw
end
end DL

namespace DL
open PySem L2
/-! ### typed data -/
def eTh (x : Int × Bool) : D := .tuple [.int x.1, .bool x.2]
def ePt (x : Int × Int) : D := .tuple [.int x.1, .int x.2]
def eThs (l : List (Int × Bool)) : D := .list (l.map eTh)
def ePts (l : List (Int × Int)) : D := .list (l.map ePt)
def eIs (l : List Int) : D := .list (l.map .int)
/-! ### how the combinators run -/
section
variable {S : Type} {f fa fb fc : FE S} {g : FA S} {F G : FS S} {h k : FT S} {ρ ρ1 : Env} {s s1 s2 : S} {x y z d : D} {xs : List Dv} {ds : List D} {o : Out S} {b c : Bool} {i n : Nat}
theorem ev_seq (a : F ρ s = .nx ρ1 s1) (e : G ρ1 s1 = o) : sSeq F G ρ s = o := by unfold sSeq; rw [a]; exact e
theorem ev_seqR {v : Dv} (a : F ρ s = .rt v s1) : sSeq F G ρ s = .rt v s1 := by unfold sSeq; rw [a]; rfl
theorem ev_seqE (a : F ρ s = .er n ρ1 s1) : sSeq F G ρ s = .er n ρ1 s1 := by unfold sSeq; rw [a]; rfl
theorem ev_set {v : Dv} (a : f ρ s = .ok v s1) : sSet i f ρ s = .nx (ρ.set i (Sl.of v)) s1 := by unfold sSet; rw [a]; rfl
theorem ev_setM {l : FL S} (a : l ρ s = .ok ds s1) : sSetM i l ρ s = .nx (ρ.set i (.m ds)) s1 := by unfold sSetM; rw [a]; rfl
theorem ev_ret {v : Dv} (a : f ρ s = .ok v s1) : sRet f ρ s = .rt v s1 := by unfold sRet; rw [a]; rfl
theorem ev_drop {v : Dv} (a : f ρ s = .ok v s1) : sDrop f ρ s = .nx ρ s1 := by unfold sDrop; rw [a]; rfl
theorem ev_dropE (a : f ρ s = .er n s1) : sDrop f ρ s = .er n ρ s1 := by unfold sDrop; rw [a]; rfl
theorem ev_if (a : h ρ s = .ok b s1) (e : (if b = true then F ρ s1 else G ρ s1) = o) : sIf h F G ρ s = o := by unfold sIf; rw [a]; exact e
theorem ev_ifT (a : h ρ s = .ok true s1) (e : F ρ s1 = o) : sIf h F G ρ s = o := ev_if a e
theorem ev_ifF (a : h ρ s = .ok false s1) (e : G ρ s1 = o) : sIf h F G ρ s = o := ev_if a e
theorem ev_asg {p : D → Env → Option Env} (a : f ρ s = .ok (.d d) s1) (e : p d ρ = some ρ1) : sAsg p f ρ s = .nx ρ1 s1 := by unfold sAsg; rw [a]; dsimp only [Res.out]; rw [e]
theorem ev_par {j : Nat} {u v : Dv} (a : g ρ s = .ok [u, v] s1) : sPar i j g ρ s = .nx ((ρ.set i (Sl.of u)).set j (Sl.of v)) s1 := by unfold sPar; rw [a]; rfl
theorem ev_par3 {j l : Nat} {u v w : Dv} (a : g ρ s = .ok [u, v, w] s1) : sPar3 i j l g ρ s = .nx (((ρ.set i (Sl.of u)).set j (Sl.of v)).set l (Sl.of w)) s1 := by unfold sPar3; rw [a]; rfl
theorem ev_aug {op : D → D → Option D} (e : ρ[i]? = some (.d x)) (a : f ρ s = .ok (.d y) s1) (q : op x y = some z) : sAug i op f ρ s = .nx (ρ.set i (.d z)) s1 := by unfold sAug; rw [e]; dsimp only; rw [a]; dsimp only [Res.out]; rw [q]
theorem ev_app (e : ρ[i]? = some (.m ds)) (a : f ρ s = .ok (.d y) s1) (q : ds.length < lim) : sApp i f ρ s = .nx (ρ.set i (.m (ds ++ [y]))) s1 := by unfold sApp; rw [e]; dsimp only; rw [a]; dsimp only [Res.out]; rw [if_pos q]
theorem ev_call {op : List D → Option D} (a : g ρ s = .ok xs s1) (e : datas xs = some ds) (q : op ds = some z) : eCall op g ρ s = .ok (.d z) s1 := by unfold eCall; rw [a]; dsimp only [Res.bnd]; rw [e]; dsimp only [Option.bind]; rw [q]; rfl
theorem ev_cons {u : Dv} {us : List Dv} (a : f ρ s = .ok u s1) (e : g ρ s1 = .ok us s2) : aCons f g ρ s = .ok (u :: us) s2 := by unfold aCons; rw [a]; dsimp only [Res.bnd]; rw [e]
theorem ev_fn {sem : List D → Res Unit D} (a : g ρ s = .ok xs s1) (e : datas xs = some ds) (l : ds.length = n) (q : sem ds = .ok d ()) : eFn n sem g ρ s = .ok (.d d) s1 := by unfold eFn; rw [a]; dsimp only [Res.bnd]; rw [e]; dsimp only; rw [if_pos l, q]
theorem ev_fnE {sem : List D → Res Unit D} {c : Nat} {u : Unit} (a : g ρ s = .ok xs s1) (e : datas xs = some ds) (l : ds.length = n) (q : sem ds = .er c u) : eFn n sem g ρ s = .er c s1 := by unfold eFn; rw [a]; dsimp only [Res.bnd]; rw [e]; dsimp only; rw [if_pos l, q]
theorem ev_fnS {g : FA DSt} {s s1 s2 : DSt} {p : Addr} {sem : List D → DSt → Res DSt D} {us : List Dv} (a : g ρ s = .ok (.v (.ref p) :: us) s1) (hp : p = s1.a) (e : datas us = some ds) (l : ds.length + 1 = n) (q : sem ds s1 = .ok d s2) (nx : Nx s1 s2) : eFnS n sem g ρ s = .ok (.d d) s2 := by
  unfold eFnS; rw [a]; dsimp only [Res.bnd]; rw [e]; dsimp only; rw [if_pos ⟨hp, l⟩, q]; dsimp only; rw [if_pos ⟨nx.a, nx.b⟩]
theorem ev_new {l : FL S} (a : l ρ s = .ok ds s1) : eNew l ρ s = .ok (.d (.list ds)) s1 := by unfold eNew; rw [a]; rfl
theorem ev_op {op : D → D → Option D} (a : fa ρ s = .ok (.d x) s1) (e : fb ρ s1 = .ok (.d y) s2) (q : op x y = some z) : eOp op fa fb ρ s = .ok (.d z) s2 := by unfold eOp; rw [a]; dsimp only [Res.bnd]; rw [e]; dsimp only; rw [q]; rfl
theorem ev_tst (a : f ρ s = .ok (.d (.bool b)) s1) : tstOf (f ρ s) = .ok b s1 := by unfold tstOf; rw [a]; rfl
theorem ev_eIf {v : Dv} (a : h ρ s = .ok b s1) (e : (if b = true then fa ρ s1 else fb ρ s1) = .ok v s2) : eIf h fa fb ρ s = .ok v s2 := by unfold eIf; rw [a]; exact e
theorem ev_and (a : h ρ s = .ok b s1) (e : b = true → k ρ s1 = .ok c s1) : fAnd h k ρ s = .ok (b && c) s1 := by
  unfold fAnd; rw [a]; dsimp only [Res.bnd]
  cases b with
  | true => rw [if_pos rfl, e rfl]; rfl
  | false => rfl
theorem ev_or (a : h ρ s = .ok b s1) (e : b = false → k ρ s1 = .ok c s1) : fOr h k ρ s = .ok (b || c) s1 := by
  unfold fOr; rw [a]; dsimp only [Res.bnd]
  cases b with
  | false => rw [if_neg Bool.false_ne_true, e rfl]; rfl
  | true => rfl
theorem ev_eqT (e : b = c) (a : h ρ s = .ok b s1) : h ρ s = .ok c s1 := e ▸ a
theorem ev_not (a : h ρ s = .ok b s1) : fNot h ρ s = .ok (!b) s1 := by unfold fNot; rw [a]; rfl
theorem ev_andV (a : fa ρ s = .ok (.d (.bool b)) s1) (e : b = true → fb ρ s1 = .ok (.d (.bool c)) s1) : eAnd fa fb ρ s = .ok (.d (.bool (b && c))) s1 := by
  unfold eAnd; rw [a]; dsimp only [Res.bnd]
  cases b with
  | true => exact e rfl
  | false => rfl
theorem ev_orV (a : fa ρ s = .ok (.d (.bool b)) s1) (e : b = false → fb ρ s1 = .ok (.d (.bool c)) s1) : eOr fa fb ρ s = .ok (.d (.bool (b || c))) s1 := by
  unfold eOr; rw [a]; dsimp only [Res.bnd]
  cases b with
  | false => exact e rfl
  | true => rfl
theorem ev_notV (a : fa ρ s = .ok (.d (.bool b)) s1) : eNot fa ρ s = .ok (.d (.bool (!b))) s1 := by unfold eNot; rw [a]; rfl
theorem ev_tup (a : g ρ s = .ok xs s1) (e : datas xs = some ds) (l : ds.length ≤ lim) : eTup g ρ s = .ok (.d (.tuple ds)) s1 := by unfold eTup; rw [a]; dsimp only [Res.bnd]; rw [e]; dsimp only [Option.bind]; rw [if_pos l]; rfl
theorem ev_lst (a : g ρ s = .ok xs s1) (e : datas xs = some ds) (l : ds.length ≤ lim) : eLst g ρ s = .ok (.d (.list ds)) s1 := by unfold eLst; rw [a]; dsimp only [Res.bnd]; rw [e]; dsimp only [Option.bind]; rw [if_pos l]; rfl
theorem ev_lLst (a : g ρ s = .ok xs s1) (e : datas xs = some ds) (l : ds.length ≤ lim) : lLst g ρ s = .ok ds s1 := by unfold lLst; rw [a]; dsimp only [Res.bnd]; rw [e]; dsimp only; rw [if_pos l]
theorem ev_lList (a : fa ρ s = .ok (.d (.list ds)) s1) : lList fa ρ s = .ok ds s1 := by unfold lList; rw [a]; rfl
theorem ev_lTup (a : fa ρ s = .ok (.d (.tuple ds)) s1) : lTup fa ρ s = .ok ds s1 := by unfold lTup; rw [a]; rfl
theorem ev_rev (a : fa ρ s = .ok (.d (.list ds)) s1) : eRev fa ρ s = .ok (.d (.list ds.reverse)) s1 := by unfold eRev; rw [a]; rfl
theorem ev_for {p : D → Env → Option Env} {l : FL S} (a : l ρ s = .ok ds s1) (e : loopS p F ds ρ s1 = o) : sFor l p F ρ s = o := by unfold sFor; rw [a]; exact e
theorem ev_rng1 {j : Int} (a : g ρ s = .ok [.d (.int j)] s1) (h : j ≤ (lim : Int)) (h0 : 0 ≤ j) : lRng1 g ρ s = .ok (rngL 0 j.toNat) s1 := by
  unfold lRng1; rw [a]; dsimp only [Res.bnd]; rw [if_pos ⟨h, by omega⟩]
theorem ev_bml {op : List D → D → Option D} (a : fa ρ s = .ok (.d (.list ds)) s1) (e : fb ρ s1 = .ok (.d y) s2) (q : op ds y = some z) : eBmL op fa fb ρ s = .ok (.d z) s2 := by unfold eBmL; rw [a]; dsimp only [Res.bnd]; rw [e]; dsimp only [Res.bnd]; rw [q]; rfl
theorem ev_chainT {o1 o2 : D → D → Option D} (a : fa ρ s = .ok (.d x) s) (e : fb ρ s = .ok (.d y) s) (q : o1 x y = some (.bool b)) (a2 : fc ρ s = .ok (.d z) s) (q2 : o2 y z = some (.bool c)) : eChain o1 o2 fa fb fc ρ s = .ok (.d (.bool (b && c))) s := by
  unfold eChain; rw [a]; dsimp only [Res.bnd]; rw [e]; dsimp only [Res.bnd]; rw [q]
  cases b with
  | true => dsimp only; rw [a2]; dsimp only [Res.bnd]; rw [q2]; rfl
  | false => rfl
/-- what a def makes, from its run -/
theorem sem_rt {F : FS Unit} {m : Nat} (a : F (ds.map .d ++ List.replicate m .no) () = .rt (.d d) ()) : fnSem m F ds = .ok d () := by unfold fnSem; rw [a]
theorem sem_nx {F : FS Unit} {m : Nat} (a : F (ds.map .d ++ List.replicate m .no) () = .nx ρ ()) : fnSem m F ds = .ok .none () := by unfold fnSem; rw [a]
theorem sem_er {F : FS Unit} {m : Nat} (a : F (ds.map .d ++ List.replicate m .no) () = .er n ρ ()) : fnSem m F ds = .er n () := by unfold fnSem; rw [a]
theorem semS_rt {F : FS DSt} {m : Nat} {s s1 : DSt} (a : F (.v (.ref s.a) :: (ds.map .d ++ List.replicate m .no)) s = .rt (.d d) s1) : semS m F ds s = .ok d s1 := by unfold semS; rw [a]; rfl
end
/-! ### comprehensions and loops over typed lists -/
section
variable {S : Type} {α : Type}
theorem compS_ok {p : D → Env → Option Env} {ft : FT S} {fe : FE S} {ρ : Env} {s : S} {enc : α → D} {b : α → Bool} {g : α → D} : ∀ {xs : List α}, (∀ x ∈ xs, ∃ ρ', p (enc x) ρ = some ρ' ∧ ft ρ' s = .ok (b x) s ∧ (b x = true → fe ρ' s = .ok (.d (g x)) s)) →
    compS p ft fe ρ (xs.map enc) s = .ok ((xs.filter b).map g) s
  | [], _ => rfl
  | x :: xs, h => by
    obtain ⟨ρ', h1, h2, h3⟩ := h x (by simp)
    have ih := compS_ok (xs := xs) fun y hy => h y (by simp [hy])
    rw [List.map_cons, compS, h1]
    dsimp only
    rw [h2]
    dsimp only
    cases hb : b x with
    | true =>
      rw [if_pos rfl, h3 hb]
      dsimp only
      rw [ih, List.filter_cons, if_pos hb]
      rfl
    | false =>
      rw [if_neg Bool.false_ne_true, ih, List.filter_cons, if_neg (by simp [hb])]
theorem lComp_ok {f : FL S} {vs : List Nat} {p : D → Env → Option Env} {ft : FT S} {fe : FE S} {ρ ρ1 : Env} {s s1 : S} {enc : α → D} {b : α → Bool} {g : α → D} {xs : List α} (hw : wipeE vs ρ = some ρ1) (hi : f ρ s = .ok (xs.map enc) s1)
    (h : ∀ x ∈ xs, ∃ ρ', p (enc x) ρ1 = some ρ' ∧ ft ρ' s1 = .ok (b x) s1 ∧ (b x = true → fe ρ' s1 = .ok (.d (g x)) s1)) : lComp f vs p ft fe ρ s = .ok ((xs.filter b).map g) s1 := by
  unfold lComp
  rw [hw]
  dsimp only
  rw [hi]
  exact compS_ok h
/-- without a test -/
theorem lComp_map {f : FL S} {vs : List Nat} {p : D → Env → Option Env} {fe : FE S} {ρ ρ1 : Env} {s s1 : S} {enc : α → D} {g : α → D} {xs : List α} (hw : wipeE vs ρ = some ρ1) (hi : f ρ s = .ok (xs.map enc) s1)
    (h : ∀ x ∈ xs, ∃ ρ', p (enc x) ρ1 = some ρ' ∧ fe ρ' s1 = .ok (.d (g x)) s1) : lComp f vs p fYes fe ρ s = .ok (xs.map g) s1 := by
  have q := lComp_ok (ft := fYes) (fe := fe) (b := fun _ => true) (g := g) hw hi fun x hx => let ⟨ρ', h1, h2⟩ := h x hx; ⟨ρ', h1, rfl, fun _ => h2⟩
  rw [q, List.filter_eq_self.mpr fun _ _ => rfl]
/-- a for whose body goes on: R gives the slots by what is known -/
theorem loop_fold {β : Type} {p : D → Env → Option Env} {F : FS S} {s : S} {enc : α → D} (R : β → Env) (step : β → α → β) : ∀ (xs : List α) (z : β), (∀ x ∈ xs, ∀ z : β, ∃ ρ', p (enc x) (R z) = some ρ' ∧ F ρ' s = .nx (R (step z x)) s) →
    loopS p F (xs.map enc) (R z) s = .nx (R (xs.foldl step z)) s
  | [], _, _ => rfl
  | x :: xs, z, h => by
    obtain ⟨ρ', h1, h2⟩ := h x (by simp) z
    rw [List.map_cons, loopS, h1]
    dsimp only
    rw [h2]
    exact loop_fold R step xs (step z x) fun y hy => h y (by simp [hy])
theorem loop_foldP {β : Type} {p : D → Env → Option Env} {F : FS S} {s : S} {enc : α → D} (R : β → Env) (step : β → α → β) (xs : List α) (z0 : β) (h : ∀ pre x post, pre ++ x :: post = xs → ∃ ρ', p (enc x) (R (pre.foldl step z0)) = some ρ' ∧ F ρ' s = .nx (R (step (pre.foldl step z0) x)) s) :
    loopS p F (xs.map enc) (R z0) s = .nx (R (xs.foldl step z0)) s := by
  have go : ∀ post pre, pre ++ post = xs → loopS p F (post.map enc) (R (pre.foldl step z0)) s = .nx (R (xs.foldl step z0)) s := by
    intro post
    induction post with
    | nil => intro pre e; rw [List.append_nil] at e; rw [e]; rfl
    | cons x post ih =>
      intro pre e
      obtain ⟨ρ', h1, h2⟩ := h pre x post e
      rw [List.map_cons, loopS, h1]
      dsimp only
      rw [h2]
      have q := ih (pre ++ [x]) (by rw [← e]; simp)
      rw [List.foldl_append] at q
      exact q
  exact go xs [] rfl
/-- with an invariant of what was gone over -/
theorem loop_inv {p : D → Env → Option Env} {F : FS S} {enc : α → D} (I : List α → Env → S → Prop) (xs : List α) : ∀ (pre post : List α) (ρ : Env) (s : S), pre ++ post = xs → I pre ρ s →
    (∀ (pre : List α) (x : α) (post : List α) (ρ : Env) (s : S), pre ++ x :: post = xs → I pre ρ s → ∃ ρ1, p (enc x) ρ = some ρ1 ∧ ∃ ρ2 s2, F ρ1 s = .nx ρ2 s2 ∧ I (pre ++ [x]) ρ2 s2) → ∃ ρ' s', loopS p F (post.map enc) ρ s = .nx ρ' s' ∧ I xs ρ' s'
  | pre, [], ρ, s, e, i, _ => ⟨ρ, s, rfl, by rw [← e, List.append_nil]; exact i⟩
  | pre, x :: post, ρ, s, e, i, h => by
    obtain ⟨ρ1, h1, ρ2, s2, h2, h3⟩ := h pre x post ρ s e i
    obtain ⟨ρ', s', h4, h5⟩ := loop_inv I xs (pre ++ [x]) post ρ2 s2 (by rw [← e]; simp) h3 h
    refine ⟨ρ', s', ?_, h5⟩
    rw [List.map_cons, loopS, h1]
    dsimp only
    rw [h2]
    exact h4
end
section
variable {α β : Type}
theorem Nx.refl {s : DSt} (h : s.nums ≠ []) : Nx s s := ⟨rfl, rfl, h⟩
/-- a comprehension that draws -/
theorem compS_draw {p : D → Env → Option Env} {fe : FE DSt} {ρ : Env} {enc : α → D} {e : β → D} {Q : β → Prop} : ∀ (xs : List α) (s : DSt), s.nums ≠ [] → (∀ x ∈ xs, ∀ s', Nx s s' → ∃ ρ' y s2, p (enc x) ρ = some ρ' ∧ fe ρ' s' = .ok (.d (e y)) s2 ∧ Q y ∧ Nx s' s2) →
    ∃ (ys : List β) (s' : DSt), compS p fYes fe ρ (xs.map enc) s = .ok (ys.map e) s' ∧ ys.length = xs.length ∧ (∀ y ∈ ys, Q y) ∧ Nx s s'
  | [], s, hn, _ => ⟨[], s, rfl, rfl, by simp, Nx.refl hn⟩
  | x :: xs, s, hn, h => by
    obtain ⟨ρ', y, s2, h1, h2, hq, n2⟩ := h x (by simp) s (Nx.refl hn)
    obtain ⟨ys, s3, h3, h4, h5, n3⟩ := compS_draw (p := p) (fe := fe) (ρ := ρ) (enc := enc) (e := e) (Q := Q) xs s2 n2.ne fun x hx s' n' => h x (by simp [hx]) s' (n2.trans n')
    refine ⟨y :: ys, s3, ?_, by simp [h4], fun z hz => ?_, n2.trans n3⟩
    · rw [List.map_cons, compS, h1]
      dsimp only [fYes]
      rw [if_pos rfl, h2]
      dsimp only
      rw [h3]
      rfl
    · rcases List.mem_cons.mp hz with q | q
      · rw [q]; exact hq
      · exact h5 z q
theorem lComp_draw {f : FL DSt} {vs : List Nat} {p : D → Env → Option Env} {fe : FE DSt} {ρ ρ1 : Env} {s s1 : DSt} {enc : α → D} {e : β → D} {Q : β → Prop} {xs : List α} (hw : wipeE vs ρ = some ρ1) (hi : f ρ s = .ok (xs.map enc) s1) (hn : s1.nums ≠ [])
    (h : ∀ x ∈ xs, ∀ s', Nx s1 s' → ∃ ρ' y s2, p (enc x) ρ1 = some ρ' ∧ fe ρ' s' = .ok (.d (e y)) s2 ∧ Q y ∧ Nx s' s2) : ∃ (ys : List β) (s' : DSt), lComp f vs p fYes fe ρ s = .ok (ys.map e) s' ∧ ys.length = xs.length ∧ (∀ y ∈ ys, Q y) ∧ Nx s1 s' := by
  obtain ⟨ys, s', h1, h2⟩ := compS_draw (e := e) (Q := Q) xs s1 hn h
  refine ⟨ys, s', ?_, h2⟩
  unfold lComp
  rw [hw]
  dsimp only
  rw [hi]
  exact h1
end
section
variable {S : Type} {fa : FE S} {fl fh : Env → S → Res S (Option Int)} {g : FA S} {ρ : Env} {s s1 s2 s3 : S} {x z : D} {lo hi : Option Int} {ds es : List D}
theorem ev_zip (a : g ρ s = .ok [.d (.list ds), .d (.list es)] s1) : lZip g ρ s = .ok (zipL ds es) s1 := by unfold lZip; rw [a]; rfl
theorem ev_sl (a : fa ρ s = .ok (.d x) s1) (l : fl ρ s1 = .ok lo s2) (h : fh ρ s2 = .ok hi s3) (q : sliceD x lo hi = some z) : eSl fa fl fh ρ s = .ok (.d z) s3 := by unfold eSl; rw [a]; dsimp only [Res.bnd]; rw [l]; dsimp only [Res.bnd]; rw [h]; dsimp only [Res.bnd]; rw [q]; rfl
theorem ev_opMR {op : D → D → Option D} {i : Nat} (e : ρ[i]? = some (.m ds)) (a : fa ρ s = .ok (.d x) s1) (q : op x (.list ds) = some z) (hz : scalarD z = true) : eOpMR op fa i ρ s = .ok (.d z) s1 := by
  unfold eOpMR; rw [e]; dsimp only; rw [a]; dsimp only [Res.bnd]; rw [q]; dsimp only; rw [if_pos hz]
theorem ev_callM {op : List D → Option D} {i : Nat} (e : ρ[i]? = some (.m ds)) (q : op [.list ds] = some z) (hz : scalarD z = true) : eCallM op i ρ s = .ok (.d z) s := by
  unfold eCallM; rw [e]; dsimp only; rw [q]; dsimp only; rw [if_pos hz]
theorem ev_ixM {i : Nat} {fb : FE S} {j : Int} (e : ρ[i]? = some (.m ds)) (a : fb ρ s = .ok (.d (.int j)) s1) (q : atI ds j = some z) : eIxM i fb ρ s = .ok (.d z) s1 := by
  unfold eIxM; rw [e]; dsimp only; rw [a]; dsimp only [Res.bnd]; rw [q]; rfl
theorem ev_enum (a : g ρ s = .ok [.d (.list ds)] s1) : lEnum g ρ s = .ok (enumL ds) s1 := by unfold lEnum; rw [a]; rfl
end
/-! ### operations on typed data -/
theorem intsOf_mapf {α : Type} (f : α → Int) : ∀ l : List α, intsOf (l.map fun x => .int (f x)) = some (l.map f)
  | [] => rfl
  | x :: r => by simp [intsOf, intsOf_mapf f r]
theorem boolsOf_mapf {α : Type} (f : α → Bool) : ∀ l : List α, boolsOf (l.map fun x => .bool (f x)) = some (l.map f)
  | [] => rfl
  | x :: r => by simp [boolsOf, boolsOf_mapf f r]
/-- equality that is decided by the typed things -/
def EqE {α : Type} [DecidableEq α] (enc : α → D) : Prop := ∀ a b, PyData.eqv (enc a) (enc b) = decide (a = b)
theorem eqv_all {α : Type} [DecidableEq α] {enc : α → D} (h : EqE enc) : ∀ xs ys : List α, PyData.eqvAll (xs.map enc) (ys.map enc) = decide (xs = ys)
  | [], [] => by simp [PyData.eqvAll]
  | [], _ :: _ => by simp [PyData.eqvAll]
  | _ :: _, [] => by simp [PyData.eqvAll]
  | x :: xs, y :: ys => by
    rw [List.map_cons, List.map_cons, PyData.eqvAll, h x y, eqv_all h xs ys]
    by_cases e1 : x = y <;> by_cases e2 : xs = ys <;> simp [e1, e2]
theorem eqE_int : EqE PyData.int := fun a b => by by_cases h : a = b <;> simp [PyData.eqv, h]
theorem eqE_bool : EqE PyData.bool := fun a b => by cases a <;> cases b <;> simp [PyData.eqv]
theorem eqE_th : EqE eTh := fun a b => by
  obtain ⟨a1, a2⟩ := a
  obtain ⟨b1, b2⟩ := b
  by_cases h : a1 = b1 <;> cases a2 <;> cases b2 <;> simp [eTh, PyData.eqv, PyData.eqvAll, h]
theorem eqE_pt : EqE ePt := fun a b => by
  obtain ⟨a1, a2⟩ := a
  obtain ⟨b1, b2⟩ := b
  by_cases h : a1 = b1 <;> by_cases k : a2 = b2 <;> simp [ePt, PyData.eqv, PyData.eqvAll, h, k]
theorem eqE_list {α : Type} [DecidableEq α] {enc : α → D} (h : EqE enc) : EqE fun l : List α => PyData.list (l.map enc) := fun a b => by show PyData.eqv (.list _) (.list _) = _; rw [PyData.eqv]; exact eqv_all h a b
theorem dep_all {α : Type} {enc : α → D} {k : Nat} (h : ∀ a, (enc a).depth ≤ k) : ∀ xs : List α, PyData.depthAll (xs.map enc) ≤ k
  | [] => by simp [PyData.depthAll]
  | x :: xs => by
    rw [List.map_cons, PyData.depthAll]
    exact Nat.max_le.mpr ⟨h x, dep_all h xs⟩
theorem dep_list {α : Type} {enc : α → D} {k : Nat} (h : ∀ a, (enc a).depth ≤ k) (xs : List α) : (PyData.list (xs.map enc)).depth ≤ k + 1 := by
  rw [PyData.depth]
  exact Nat.succ_le_succ (dep_all h xs)
theorem dep_pt (a : Int × Int) : (ePt a).depth ≤ 1 := by simp [ePt, PyData.depth, PyData.depthAll]
theorem dep_th (a : Int × Bool) : (eTh a).depth ≤ 1 := by simp [eTh, PyData.depth, PyData.depthAll]
theorem dep_int (a : Int) : (PyData.int a).depth ≤ 0 := by simp [PyData.depth]
theorem eqD_of {α : Type} [DecidableEq α] {enc : α → D} (h : EqE enc) {k : Nat} (hd : ∀ a, (enc a).depth ≤ k) (hk : k ≤ 64 := by decide) (a b : α) : eqD (enc a) (enc b) = some (.bool (decide (a = b))) := by
  unfold eqD
  rw [if_pos (.inl (Nat.le_trans (hd a) hk)), h a b]
theorem neD_of {α : Type} [DecidableEq α] {enc : α → D} (h : EqE enc) {k : Nat} (hd : ∀ a, (enc a).depth ≤ k) (hk : k ≤ 64 := by decide) (a b : α) : neD (enc a) (enc b) = some (.bool (!decide (a = b))) := by
  unfold neD
  rw [if_pos (.inl (Nat.le_trans (hd a) hk)), h a b]
theorem eq_pt (a b : Int × Int) : eqD (ePt a) (ePt b) = some (.bool (decide (a = b))) := eqD_of eqE_pt dep_pt (by decide) a b
theorem ne_pt (a b : Int × Int) : neD (ePt a) (ePt b) = some (.bool (!decide (a = b))) := neD_of eqE_pt dep_pt (by decide) a b
theorem eq_pts (a b : List (Int × Int)) : eqD (ePts a) (ePts b) = some (.bool (decide (a = b))) := eqD_of (enc := ePts) (eqE_list eqE_pt) (dep_list dep_pt) (by decide) a b
theorem ne_pts (a b : List (Int × Int)) : neD (ePts a) (ePts b) = some (.bool (!decide (a = b))) := neD_of (enc := ePts) (eqE_list eqE_pt) (dep_list dep_pt) (by decide) a b
theorem ne_ths (a b : List (Int × Bool)) : neD (eThs a) (eThs b) = some (.bool (!decide (a = b))) := neD_of (enc := eThs) (eqE_list eqE_th) (dep_list dep_th) (by decide) a b
theorem eq_ths (a b : List (Int × Bool)) : eqD (eThs a) (eThs b) = some (.bool (decide (a = b))) := eqD_of (enc := eThs) (eqE_list eqE_th) (dep_list dep_th) (by decide) a b
theorem ne_is (a b : List Int) : neD (eIs a) (eIs b) = some (.bool (!decide (a = b))) := neD_of (enc := eIs) (eqE_list eqE_int) (dep_list dep_int) (by decide) a b
theorem eq_is (a b : List Int) : eqD (eIs a) (eIs b) = some (.bool (decide (a = b))) := eqD_of (enc := eIs) (eqE_list eqE_int) (dep_list dep_int) (by decide) a b
theorem eq_int (a b : Int) : eqD (.int a) (.int b) = some (.bool (decide (a = b))) := eqD_of eqE_int dep_int (by decide) a b
theorem ne_int (a b : Int) : neD (.int a) (.int b) = some (.bool (!decide (a = b))) := neD_of eqE_int dep_int (by decide) a b
theorem in_of {α : Type} [DecidableEq α] {enc : α → D} (h : EqE enc) {k : Nat} (hd : ∀ a, (enc a).depth ≤ k) (hk : k ≤ 64 := by decide) (a : α) (l : List α) [dec : Decidable (a ∈ l)] : inD false (enc a) (.list (l.map enc)) = some (.bool (decide (a ∈ l))) := by
  unfold inD
  dsimp only
  rw [if_pos (Nat.le_trans (hd a) hk)]
  have e : (l.map enc).any (fun z => PyData.eqv z (enc a)) = decide (a ∈ l) := by
    rw [List.any_map, Bool.eq_iff_iff, List.any_eq_true, decide_eq_true_iff]
    constructor
    · rintro ⟨x, hx, q⟩
      have q : PyData.eqv (enc x) (enc a) = true := q
      rw [h x a] at q
      rw [← of_decide_eq_true q]
      exact hx
    · intro hx
      refine ⟨a, hx, ?_⟩
      show PyData.eqv (enc a) (enc a) = true
      rw [h a a, decide_eq_true rfl]
  rw [e]
  rfl
theorem notin_of {α : Type} [DecidableEq α] {enc : α → D} (h : EqE enc) {k : Nat} (hd : ∀ a, (enc a).depth ≤ k) (hk : k ≤ 64 := by decide) (a : α) (l : List α) [dec : Decidable (a ∈ l)] : inD true (enc a) (.list (l.map enc)) = some (.bool (!decide (a ∈ l))) := by
  have q := in_of h hd hk a l
  unfold inD at q ⊢
  dsimp only at q ⊢
  rw [if_pos (Nat.le_trans (hd a) hk)] at q ⊢
  have q := PyData.bool.inj (Option.some.inj q)
  have q : ((l.map enc).any fun z => PyData.eqv z (enc a)) = decide (a ∈ l) := q
  show some (PyData.bool (!((l.map enc).any fun z => PyData.eqv z (enc a)))) = _
  rw [q]
theorem zipL_map {α β : Type} {f : α → D} {g : β → D} (xs : List α) (ys : List β) : zipL (xs.map f) (ys.map g) = (xs.zip ys).map fun p => PyData.tuple [f p.1, g p.2] := by
  unfold zipL
  rw [List.zip_map]
  simp
theorem cutL_map {α : Type} {f : α → D} (xs : List α) (lo hi : Option Int) : cutL (xs.map f) lo hi = (cutL xs lo hi).map f := by
  unfold cutL
  simp
theorem cutL_from1 {α : Type} (xs : List α) : cutL xs (some 1) none = xs.tail := by
  cases xs with
  | nil => rfl
  | cons x r =>
    unfold cutL HT.sIx
    simp
theorem count_of {α : Type} [DecidableEq α] {enc : α → D} (h : EqE enc) {k : Nat} (hd : ∀ a, (enc a).depth ≤ k) (hk : k ≤ 64 := by decide) (a : α) (l : List α) : countD (l.map enc) (enc a) = some (.int ((l.countP fun z => decide (z = a) : Nat) : Int)) := by
  unfold countD
  rw [if_pos (Nat.le_trans (hd a) hk), List.countP_map]
  have e : ((fun z => PyData.eqv z (enc a)) ∘ enc) = fun z => decide (z = a) := funext fun z => h z a
  rw [e]
/-- zip(xs, xs[1:]) -/
theorem ev_zip1 {S : Type} {fa : FE S} {ρ : Env} {s : S} {α : Type} {enc : α → D} {xs : List α} (a : fa ρ s = .ok (.d (.list (xs.map enc))) s) : lZip (aCons fa (aCons (eSl fa (oSome (eC (.int 1))) oNone) aNil)) ρ s = .ok ((xs.zip xs.tail).map fun q => PyData.tuple [enc q.1, enc q.2]) s := by
  rw [ev_zip (ds := xs.map enc) (es := cutL (xs.map enc) (some 1) none) (ev_cons a (ev_cons (ev_sl a rfl rfl rfl) rfl)), cutL_map, cutL_from1, zipL_map]
end DL

namespace DL
open PySem L2
/-! ### things, their counts, their curve -/
structure Val (l : List (Int × Bool)) : Prop where
  lo : 1 ≤ l.length
  hi : l.length ≤ 12
  sc : ∀ x ∈ l, 0 ≤ x.1 ∧ x.1 ≤ 99
def isIntM (v : D) (lo hi : Int) : Bool := match v with
  | .int i => decide (lo ≤ i) && decide (i ≤ hi)
  | _ => false
theorem isIntM_t {i lo hi : Int} (h1 : lo ≤ i) (h2 : i ≤ hi) : isIntM (.int i) lo hi = true := by simp [isIntM, h1, h2]
def cnt (l : List (Int × Bool)) (t : Int) : Int × Int := (((l.filter fun x => decide (t ≤ x.1) && !x.2).length : Nat), ((l.filter fun x => decide (t ≤ x.1) && x.2).length : Nat))
/-- the unlike scores, from the greatest -/
def scs (l : List (Int × Bool)) : List Int := (sortU (l.map (·.1))).reverse
def pts (l : List (Int × Bool)) : List (Int × Int) := (0, 0) :: (scs l).map (cnt l)
/-- n-1, .., 0 -/
def desc (n : Nat) : List Int := (List.range n).map fun i : Nat => (n : Int) - 1 - i
theorem desc_succ (n : Nat) : desc (n + 1) = (n : Int) :: desc n := by
  unfold desc
  rw [List.range_succ_eq_map, List.map_cons, List.map_map]
  refine congr (congrArg _ ?_) (List.map_congr_left fun i _ => ?_)
  · simp
  · simp only [Function.comp_apply, Nat.succ_eq_add_one]
    omega
theorem desc_mem {k : Int} : ∀ {n : Nat}, k ∈ desc n ↔ 0 ≤ k ∧ k < n
  | 0 => by simp [desc]
  | n + 1 => by
    rw [desc_succ, List.mem_cons, desc_mem (n := n)]
    omega
theorem desc_down : ∀ n : Nat, (desc n).Pairwise (· > ·)
  | 0 => by simp [desc]
  | n + 1 => by
    rw [desc_succ, List.pairwise_cons]
    exact ⟨fun k hk => (desc_mem.mp hk).2, desc_down n⟩
theorem scs_mem {l : List (Int × Bool)} {k : Int} : k ∈ scs l ↔ k ∈ l.map (·.1) := by unfold scs; rw [List.mem_reverse, sortU_mem]
theorem scs_down (l : List (Int × Bool)) : (scs l).Pairwise (· > ·) := by
  unfold scs
  rw [List.pairwise_reverse]
  exact sortU_lt
theorem down_eq {l m : List Int} (h1 : l.Pairwise (· > ·)) (h2 : m.Pairwise (· > ·)) (h : ∀ k, k ∈ l ↔ k ∈ m) : l = m := by
  have q := rising_eq (l := l.reverse) (m := m.reverse) (by rw [List.pairwise_reverse]; exact h1) (by rw [List.pairwise_reverse]; exact h2) fun k => by rw [List.mem_reverse, List.mem_reverse]; exact h k
  exact List.reverse_inj.mp q
theorem scs_desc {l : List (Int × Bool)} (h : Val l) : scs l = (desc 100).filter fun k => decide (k ∈ l.map (·.1)) := by
  refine down_eq (scs_down l) ((desc_down 100).filter _) fun k => ?_
  rw [scs_mem, List.mem_filter, desc_mem]
  constructor
  · intro q
    obtain ⟨x, hx, rfl⟩ := List.mem_map.mp q
    have := h.sc x hx
    exact ⟨⟨this.1, by omega⟩, decide_eq_true q⟩
  · intro q
    exact of_decide_eq_true q.2
/-! sizes of cuts -/
theorem filter_len_le {α : Type} {p q : α → Bool} : ∀ {l : List α}, (∀ x ∈ l, p x = true → q x = true) → (l.filter p).length ≤ (l.filter q).length
  | [], _ => by simp
  | x :: l, h => by
    have ih := filter_len_le (l := l) fun y hy => h y (by simp [hy])
    rw [List.filter_cons, List.filter_cons]
    by_cases hp : p x = true
    · rw [if_pos hp, if_pos (h x (by simp) hp)]
      simp only [List.length_cons]; omega
    · rw [if_neg hp]
      split
      · simp only [List.length_cons]; omega
      · exact ih
theorem filter_len_lt {α : Type} {p q : α → Bool} : ∀ {l : List α}, (∀ x ∈ l, p x = true → q x = true) → (∃ x ∈ l, p x = false ∧ q x = true) → (l.filter p).length < (l.filter q).length
  | [], _, h => by obtain ⟨x, hx, _⟩ := h; simp at hx
  | x :: l, h, h' => by
    have hl := filter_len_le (l := l) fun y hy => h y (by simp [hy])
    rw [List.filter_cons, List.filter_cons]
    by_cases hp : p x = true
    · rw [if_pos hp, if_pos (h x (by simp) hp)]
      have : ∃ x ∈ l, p x = false ∧ q x = true := by
        obtain ⟨y, hy, k1, k2⟩ := h'
        rcases List.mem_cons.mp hy with e | e
        · rw [e, hp] at k1; cases k1
        · exact ⟨y, e, k1, k2⟩
      have ih := filter_len_lt (l := l) (fun y hy => h y (by simp [hy])) this
      simp only [List.length_cons]; omega
    · rw [if_neg hp]
      by_cases hq : q x = true
      · rw [if_pos hq]; simp only [List.length_cons]; omega
      · rw [if_neg hq]
        refine filter_len_lt (l := l) (fun y hy => h y (by simp [hy])) ?_
        obtain ⟨y, hy, k1, k2⟩ := h'
        rcases List.mem_cons.mp hy with e | e
        · rw [e] at k2; exact absurd k2 hq
        · exact ⟨y, e, k1, k2⟩
theorem cnt_le (l : List (Int × Bool)) {t u : Int} (h : u ≤ t) : (cnt l t).1 ≤ (cnt l u).1 ∧ (cnt l t).2 ≤ (cnt l u).2 := by
  unfold cnt
  constructor
  · exact Int.ofNat_le.mpr (filter_len_le fun x _ q => by simp only [Bool.and_eq_true, decide_eq_true_eq] at q ⊢; exact ⟨Int.le_trans h q.1, q.2⟩)
  · exact Int.ofNat_le.mpr (filter_len_le fun x _ q => by simp only [Bool.and_eq_true, decide_eq_true_eq] at q ⊢; exact ⟨Int.le_trans h q.1, q.2⟩)
/-- at a score the count is more than above it -/
theorem cnt_lt {l : List (Int × Bool)} {t u : Int} (h : u < t) (hu : u ∈ l.map (·.1)) : (cnt l t).1 + (cnt l t).2 < (cnt l u).1 + (cnt l u).2 := by
  obtain ⟨x, hx, rfl⟩ := List.mem_map.mp hu
  have a := cnt_le l (Int.le_of_lt h)
  cases hf : x.2 with
  | true =>
    have b : (cnt l t).2 < (cnt l x.1).2 := Int.ofNat_lt.mpr (filter_len_lt (fun y _ q => by simp only [Bool.and_eq_true, decide_eq_true_eq] at q ⊢; exact ⟨by omega, q.2⟩) ⟨x, hx, by simp only [Bool.and_eq_false_iff, decide_eq_false_iff_not]; left; omega, by simp [hf]⟩)
    omega
  | false =>
    have b : (cnt l t).1 < (cnt l x.1).1 := Int.ofNat_lt.mpr (filter_len_lt (fun y _ q => by simp only [Bool.and_eq_true, decide_eq_true_eq] at q ⊢; exact ⟨by omega, q.2⟩) ⟨x, hx, by simp only [Bool.and_eq_false_iff, decide_eq_false_iff_not]; left; omega, by simp [hf]⟩)
    omega
theorem cnt_same {l : List (Int × Bool)} {t : Int} (h : t ∉ l.map (·.1)) : cnt l t = cnt l (t + 1) := by
  have q : ∀ x ∈ l, decide (t ≤ x.1) = decide (t + 1 ≤ x.1) := fun x hx => by
    have : x.1 ≠ t := fun e => h (by rw [← e]; exact List.mem_map.mpr ⟨x, hx, rfl⟩)
    by_cases k : t ≤ x.1
    · have : t + 1 ≤ x.1 := by omega
      simp [k, this]
    · have : ¬ t + 1 ≤ x.1 := by omega
      simp [k, this]
  unfold cnt
  rw [List.filter_congr (p := fun x : Int × Bool => decide (t ≤ x.1) && !x.2) (q := fun x : Int × Bool => decide (t + 1 ≤ x.1) && !x.2) fun x hx => by rw [q x hx],
    List.filter_congr (p := fun x : Int × Bool => decide (t ≤ x.1) && x.2) (q := fun x : Int × Bool => decide (t + 1 ≤ x.1) && x.2) fun x hx => by rw [q x hx]]
theorem cnt_top {l : List (Int × Bool)} (h : Val l) {t : Int} (ht : 100 ≤ t) : cnt l t = (0, 0) := by
  have q : ∀ x ∈ l, ¬ t ≤ x.1 := fun x hx => by have := h.sc x hx; omega
  unfold cnt
  rw [List.filter_eq_nil_iff.mpr fun x hx => by simp [q x hx], List.filter_eq_nil_iff.mpr fun x hx => by simp [q x hx]]
  rfl
/-- the points down to the threshold n -/
def ptsTo (l : List (Int × Bool)) (ks : List Int) : List (Int × Int) := (0, 0) :: (ks.filter fun k => decide (k ∈ l.map (·.1))).map (cnt l)
/-- each threshold's point is on the curve -/
theorem cnt_on {l : List (Int × Bool)} (h : Val l) (t : Int) (ht : 0 ≤ t) : cnt l t ∈ pts l := by
  by_cases h1 : 100 ≤ t
  · rw [cnt_top h h1]; exact List.mem_cons_self
  · have go : ∀ n : Nat, ∀ t : Int, t + n = 100 → 0 ≤ t → cnt l t ∈ pts l := by
      intro n
      induction n with
      | zero => intro t e _; rw [cnt_top h (by omega)]; exact List.mem_cons_self
      | succ n ih =>
        intro t e h0
        by_cases k : t ∈ l.map (·.1)
        · exact List.mem_cons_of_mem _ (List.mem_map.mpr ⟨t, scs_mem.mpr k, rfl⟩)
        · rw [cnt_same k]; exact ih (t + 1) (by omega) (by omega)
    exact go (100 - t).toNat t (by omega) ht
/-- one after the other, those not yet there -/
def addNew {α : Type} [DecidableEq α] (f : List α) (p : α) : List α := if p ∈ f then f else f ++ [p]
theorem curve_fold {l : List (Int × Bool)} (h : Val l) : ∀ n : Nat, n ≤ 100 → ∀ ks : List Int, 100 - n = ks.length → ks ++ desc n = desc 100 → (desc n).foldl (fun f t => addNew f (cnt l t)) (ptsTo l ks) = ptsTo l (ks ++ desc n) := by
  intro n
  induction n with
  | zero => intro _ ks _ _; simp [desc]
  | succ n ih =>
    intro hn ks hk e
    rw [desc_succ] at e ⊢
    rw [List.foldl_cons]
    have e2 : (ks ++ [(n : Int)]) ++ desc n = desc 100 := by rw [← e]; simp
    have big : ∀ k ∈ ks, (n : Int) < k := fun k hk => by
      have d := desc_down 100
      rw [← e, List.pairwise_append] at d
      exact d.2.2 k hk n (by simp)
    have all : ∀ k : Int, (n : Int) < k → k < 100 → k ∈ ks := fun k h1 h2 => by
      have m : k ∈ desc 100 := desc_mem.mpr ⟨by omega, by omega⟩
      rw [← e, List.mem_append, List.mem_cons, desc_mem] at m
      rcases m with m | m | m
      · exact m
      · omega
      · omega
    have step : addNew (ptsTo l ks) (cnt l n) = ptsTo l (ks ++ [(n : Int)]) := by
      unfold addNew ptsTo
      rw [List.filter_append]
      by_cases k : (n : Int) ∈ l.map (·.1)
      · have nin : cnt l n ∉ (0, 0) :: (ks.filter fun k => decide (k ∈ l.map (·.1))).map (cnt l) := by
          intro q
          rcases List.mem_cons.mp q with q | q
          · have a := cnt_lt (l := l) (t := 100) (u := n) (by omega) k
            rw [cnt_top h (Int.le_refl _), q] at a
            simp at a
          · obtain ⟨j, hj, ej⟩ := List.mem_map.mp q
            have a := cnt_lt (l := l) (t := j) (u := n) (big j (List.mem_filter.mp hj).1) k
            rw [ej] at a
            omega
        rw [if_neg nin, List.filter_cons, if_pos (decide_eq_true k)]
        simp
      · have ek : decide ((n : Int) ∈ l.map (·.1)) = false := decide_eq_false k
        have inn : cnt l n ∈ (0, 0) :: (ks.filter fun k => decide (k ∈ l.map (·.1))).map (cnt l) := by
          have go : ∀ m : Nat, ∀ t : Int, t + m = 100 → (n : Int) ≤ t → cnt l t ∈ (0, 0) :: (ks.filter fun k => decide (k ∈ l.map (·.1))).map (cnt l) := by
            intro m
            induction m with
            | zero => intro t e _; rw [cnt_top h (by omega)]; exact List.mem_cons_self
            | succ m ihm =>
              intro t e2 ht
              by_cases q : t ∈ l.map (·.1)
              · have ne : (n : Int) ≠ t := fun z => k (by rw [z]; exact q)
                exact List.mem_cons_of_mem _ (List.mem_map.mpr ⟨t, List.mem_filter.mpr ⟨all t (by omega) (by omega), decide_eq_true q⟩, rfl⟩)
              · rw [cnt_same q]; exact ihm (t + 1) (by omega) (by omega)
          exact go (100 - n) n (by omega) (Int.le_refl _)
        rw [if_pos inn, List.filter_cons, ek]
        simp
    rw [step, ih (by omega) _ (by rw [List.length_append]; simp; omega) e2]
    simp
/-- the curve found by going down all thresholds -/
theorem curve_down {l : List (Int × Bool)} (h : Val l) : ((100 : Int) :: desc 100).foldl (fun f t => addNew f (cnt l t)) [] = pts l := by
  rw [List.foldl_cons, cnt_top h (Int.le_refl _)]
  have e := curve_fold h 100 (Nat.le_refl _) [] (by simp) (by simp)
  have e0 : addNew ([] : List (Int × Int)) (0, 0) = ptsTo l [] := by simp [addNew, ptsTo]
  rw [e0, e]
  unfold ptsTo pts
  rw [scs_desc h]
  simp
theorem pts_len {l : List (Int × Bool)} : (pts l).length = (scs l).length + 1 := by simp [pts]
theorem scs_len {l : List (Int × Bool)} : (scs l).length ≤ l.length := by
  unfold scs
  have := sortU_len (l := l.map (·.1))
  simpa using this
theorem scs_pos {l : List (Int × Bool)} (h : Val l) : 1 ≤ (scs l).length := by
  have h1 := h.lo
  cases l with
  | nil => simp at h1
  | cons x r =>
    have m : x.1 ∈ scs (x :: r) := scs_mem.mpr (by simp)
    exact List.length_pos_of_mem m
/-- points of a curve -/
structure PVal (p : List (Int × Int)) : Prop where
  lo : 2 ≤ p.length
  hi : p.length ≤ 13
  hd : p.head? = some (0, 0)
  rg : ∀ x ∈ p, (0 ≤ x.1 ∧ x.1 ≤ 12) ∧ 0 ≤ x.2 ∧ x.2 ≤ 12
  up : ∀ q ∈ p.zip p.tail, q.1.1 ≤ q.2.1 ∧ q.1.2 ≤ q.2.2 ∧ q.1 ≠ q.2
  sm : ∀ x, p.getLast? = some x → x.1 + x.2 ≤ 12
theorem cnt_range {l : List (Int × Bool)} (h : Val l) (t : Int) : 0 ≤ (cnt l t).1 ∧ 0 ≤ (cnt l t).2 ∧ (cnt l t).1 + (cnt l t).2 ≤ 12 := by
  have hh := h.hi
  have e : ∀ (l : List (Int × Bool)), (l.filter fun x => decide (t ≤ x.1) && !x.2).length + (l.filter fun x => decide (t ≤ x.1) && x.2).length ≤ l.length := by
    intro l
    induction l with
    | nil => simp
    | cons x l ih =>
      rw [List.filter_cons, List.filter_cons]
      cases x.2 <;> cases decide (t ≤ x.1) <;> simp <;> omega
  have := e l
  unfold cnt
  refine ⟨by simp, by simp, ?_⟩
  dsimp only
  omega
theorem zip_tail_rel {α : Type} {R : α → α → Prop} : ∀ {l : List α}, l.Pairwise R → ∀ q ∈ l.zip l.tail, R q.1 q.2
  | [], _, q, h => by simp at h
  | [x], _, q, h => by simp at h
  | x :: y :: r, p, q, h => by
    rw [List.pairwise_cons] at p
    simp only [List.tail_cons, List.zip_cons_cons, List.mem_cons] at h
    rcases h with h | h
    · rw [h]; exact p.1 y (by simp)
    · exact zip_tail_rel (l := y :: r) p.2 q (by simpa using h)
theorem pts_pair {l : List (Int × Bool)} (h : Val l) : (pts l).Pairwise fun p q => p.1 ≤ q.1 ∧ p.2 ≤ q.2 ∧ p.1 + p.2 < q.1 + q.2 := by
  unfold pts
  rw [List.pairwise_cons]
  constructor
  · intro q hq
    obtain ⟨k, hk, rfl⟩ := List.mem_map.mp hq
    have m := scs_mem.mp hk
    obtain ⟨x, hx, ex⟩ := List.mem_map.mp m
    have b := h.sc x hx
    have a := cnt_lt (l := l) (t := 100) (u := k) (by rw [← ex]; omega) m
    rw [cnt_top h (Int.le_refl _)] at a
    have r := cnt_range h k
    simp only at a ⊢
    exact ⟨r.1, r.2.1, a⟩
  · rw [List.pairwise_map]
    refine (scs_down l).imp_of_mem fun {a b} ha hb hab => ?_
    have c := cnt_le l (t := a) (u := b) (Int.le_of_lt hab)
    exact ⟨c.1, c.2, cnt_lt hab (scs_mem.mp hb)⟩
theorem pts_val {l : List (Int × Bool)} (h : Val l) : PVal (pts l) where
  lo := by rw [pts_len]; have := scs_pos h; omega
  hi := by rw [pts_len]; have := scs_len (l := l); have := h.hi; omega
  hd := rfl
  rg := fun x hx => by
    rcases List.mem_cons.mp hx with e | e
    · rw [e]; simp
    · obtain ⟨k, _, rfl⟩ := List.mem_map.mp e
      have := cnt_range h k
      omega
  up := fun q hq => by
    have r := zip_tail_rel (pts_pair h) q hq
    refine ⟨r.1, r.2.1, fun e => ?_⟩
    rw [e] at r
    omega
  sm := fun x hx => by
    have m := List.mem_of_getLast? hx
    rcases List.mem_cons.mp m with e | e
    · rw [e]; simp
    · obtain ⟨k, _, rfl⟩ := List.mem_map.mp e
      exact (cnt_range h k).2.2
/-- the last point is that of all -/
theorem pts_last {l : List (Int × Bool)} (h : Val l) : (pts l).getLast? = some (cnt l 0) := by
  have hp := scs_pos h
  have e : (pts l).getLast? = ((scs l).getLast?).map (cnt l) := by
    unfold pts
    rw [List.getLast?_cons, List.getLast?_map]
    cases q : (scs l).getLast? with
    | none => rw [List.getLast?_eq_none_iff] at q; rw [q] at hp; simp at hp
    | some k => rfl
  cases q : (scs l).getLast? with
  | none => rw [List.getLast?_eq_none_iff] at q; rw [q] at hp; simp at hp
  | some k =>
    rw [e, q]
    show some (cnt l k) = _
    have least : ∀ j ∈ l.map (·.1), k ≤ j := fun j hj => by
      have m := scs_mem.mpr hj
      obtain ⟨i, hi, ei⟩ := List.mem_iff_getElem.mp m
      have dn := List.pairwise_iff_getElem.mp (scs_down l)
      have lk : (scs l)[(scs l).length - 1]'(by omega) = k := by
        rw [List.getLast?_eq_getElem?] at q
        obtain ⟨_, z⟩ := List.getElem?_eq_some_iff.mp q
        exact z
      by_cases c : i = (scs l).length - 1
      · subst c; omega
      · have := dn i ((scs l).length - 1) hi (by omega) (by omega)
        omega
    have : cnt l k = cnt l 0 := by
      unfold cnt
      have q2 : ∀ x ∈ l, decide (k ≤ x.1) = decide ((0 : Int) ≤ x.1) := fun x hx => by
        have a := least x.1 (List.mem_map.mpr ⟨x, hx, rfl⟩)
        have b := (h.sc x hx).1
        simp [a, b]
      rw [List.filter_congr (p := fun x : Int × Bool => decide (k ≤ x.1) && !x.2) (q := fun x : Int × Bool => decide ((0 : Int) ≤ x.1) && !x.2) fun x hx => by rw [q2 x hx],
        List.filter_congr (p := fun x : Int × Bool => decide (k ≤ x.1) && x.2) (q := fun x : Int × Bool => decide ((0 : Int) ≤ x.1) && x.2) fun x hx => by rw [q2 x hx]]
    rw [this]
end DL
namespace DL
open PySem L2
/-! ### the first and the last, the least -/
def ends (ns : List Int) : D := match ns.head?, ns.getLast? with
  | some a, some b => .tuple [.int a, .int b]
  | _, _ => .none
def goodT (l : List (Int × Bool)) (p : Int × Int) : List Int := ((List.range 101).filter fun i : Nat => decide (cnt l i = p)).map fun i : Nat => (i : Int)
def optD : Option Int → D
  | some i => .int i
  | none => .none
section
variable {S : Type} {ρ : Env} {s : S} {i : Nat} {ds : List D} {ns : List Int}
theorem ne_nil (ds : List D) : neD (.list ds) (.list []) = some (.bool (!ds.isEmpty)) := by
  unfold neD
  rw [if_pos (.inr (by simp [PyData.depth, PyData.depthAll]))]
  cases ds <;> simp [PyData.eqv, PyData.eqvAll]
theorem atI_first {α : Type} {x : α} {r : List α} : atI (x :: r) 0 = some x := by
  unfold atI ixN
  rw [if_pos (Int.le_refl 0), if_pos (by simp)]
  rfl
theorem atI_last {α : Type} {xs : List α} (h : xs ≠ []) : atI xs (-1) = xs.getLast? := by
  have hl : 0 < xs.length := List.length_pos_iff.mpr h
  unfold atI ixN
  rw [if_neg (by decide), if_pos (by omega)]
  have e : (-1 + (xs.length : Int)).toNat = xs.length - 1 := by omega
  show xs[(-1 + (xs.length : Int)).toNat]? = _
  rw [e, List.getLast?_eq_getElem?]
/-- (good[0], good[-1]) if good != [] else None -/
theorem ends_ev {i : Nat} (h : ρ[i]? = some (.d (.list (ns.map .int)))) : eIf (fun ρ s => tstOf ((eOp neD (eVar i) (eLst aNil)) ρ s)) (eTup (aCons (eOp ixD (eVar i) (eC (.int 0))) (aCons (eOp ixD (eVar i) (eNeg (eC (.int 1)))) aNil))) (eC .none) ρ s = .ok (.d (ends ns)) s := by
  have v : ∀ s : S, eVar i ρ s = .ok (.d (.list (ns.map .int))) s := fun s => by unfold eVar; rw [h]
  refine ev_eIf (ev_tst (ev_op (v s) rfl (ne_nil _))) ?_
  cases ns with
  | nil => rfl
  | cons a r =>
    refine ev_tup (ds := [.int a, .int ((a :: r).getLast (by simp))]) (ev_cons (ev_op (v s) rfl atI_first) (ev_cons (ev_op (v s) rfl ?_) rfl)) rfl (by show 2 ≤ lim; decide) |>.trans ?_
    · show atI ((a :: r).map PyData.int) (-1) = _
      rw [atI_last (by simp), List.getLast?_map, List.getLast?_eq_some_getLast (by simp)]
      rfl
    · unfold ends
      rw [List.getLast?_eq_some_getLast (l := a :: r) (by simp)]
      rfl
theorem min_ev {i : Nat} (h : ρ[i]? = some (.d (.list (ns.map .int)))) : eIf (fun ρ s => tstOf ((eOp neD (eVar i) (eLst aNil)) ρ s)) (eCall minD (aCons (eVar i) aNil)) (eC .none) ρ s = .ok (.d (optD ns.min?)) s := by
  have v : ∀ s : S, eVar i ρ s = .ok (.d (.list (ns.map .int))) s := fun s => by unfold eVar; rw [h]
  refine ev_eIf (ev_tst (ev_op (v s) rfl (ne_nil _))) ?_
  cases ns with
  | nil => rfl
  | cons a r =>
    refine ev_call (ev_cons (v s) rfl) rfl ?_
    show (intsOf ((a :: r).map .int)).bind (fun ns => ns.min?.map PyData.int) = _
    rw [intsOf_map]
    rfl
end
end DL
namespace DL
open PySem L2
section
variable {S : Type} {ρ : Env} {s : S} {g : FL S}
/-- sorted(set([..]))[::-1] of the scores -/
theorem scs_ev {l : List (Int × Bool)} (h : Val l) (a : g ρ s = .ok (l.map fun x => .int x.1) s) : eRev (eCall sortSetD (aCons (eNew g) aNil)) ρ s = .ok (.d (eIs (scs l))) s := by
  have hl : (l.map (·.1)).length < 64 := by rw [List.length_map]; have := h.hi; omega
  refine (ev_rev (ev_call (ds := [.list (l.map fun x => .int x.1)]) (z := .list ((sortU (l.map (·.1))).map .int)) (ev_cons (ev_new a) rfl) rfl ?_)).trans ?_
  · show (intsOf (l.map fun x => PyData.int x.1)).bind (fun ns => if ns.length < 64 then some (PyData.list ((sortU ns).map .int)) else none) = _
    rw [intsOf_mapf]
    show (if (l.map (·.1)).length < 64 then _ else _) = _
    rw [if_pos hl]
  · rw [← List.map_reverse]
    rfl
theorem ne_ends (ns : List Int) : neD (ends ns) (ends ns) = some (.bool false) := by
  unfold ends
  cases ns.head? <;> cases ns.getLast? <;> first
    | (simp [neD, PyData.eqv, PyData.depth]; done)
    | (simp [neD, PyData.eqv, PyData.eqvAll, PyData.depth, PyData.depthAll]; done)
theorem eq_opt (o : Option Int) : eqD (optD o) (optD o) = some (.bool true) := by
  cases o <;> simp [optD, eqD, PyData.eqv, PyData.depth]
end
end DL

namespace DL
open PySem PySem.Spec PyProof.Rows L2
/-! ### texts: sign by sign, int(text), one sign in a text, in a written tuple of texts, split, f'{a}:{b}' -/
def signsD (x : Str) : List D := x.cps.toList.map fun c => .str ⟨#[c]⟩
def lStr {S : Type} (f : FE S) : FL S := fun ρ s => (f ρ s).bnd fun x s => match x with
  | .d (.str x) => .ok (signsD x) s
  | _ => .bad
theorem yld_str {F0 : Hp} {x : Str} (hl : x.length ≤ lim) (ok : PyData.strOk x = true) : Yld F0 (Its x) (signsD x) := by
  have el : (signsD x).length = x.cps.size := by simp [signsD]
  refine ⟨by rw [el]; exact hl, _, _, by rw [el]; exact walk_str, fun _ _ => trivial, fun i H v H' hi y P hP q => ?_⟩
  obtain ⟨rfl, c, hc, rfl⟩ := y
  refine ⟨Same.refl _, .str ⟨#[c]⟩, ?_, .str _ (by show 1 ≤ lim; decide) ?_⟩
  · unfold signsD
    rw [List.getElem?_map, Array.getElem?_toList, hc]
    rfl
  · have h := ok
    unfold PyData.strOk at h ⊢
    rw [Array.all_eq_true] at h
    have hi' : i < x.cps.size := by rw [el] at hi; exact hi
    have := h i hi'
    rw [Array.getElem?_eq_getElem hi'] at hc
    have e : x.cps[i] = c := Option.some.inj hc
    rw [e] at this
    simpa using this
def intD : List D → Option D
  | [.str a] => if a.length ≤ 640 then (PySem.intText? a).map .int else none
  | _ => none
theorem sa_int : SA (fun xs H Q => ∃ a n, xs = [.str a] ∧ PySem.intText? a = some n ∧ a.length ≤ 640 ∧ Q (.int n) H) intD := by
  intro P H xs ds z Q hP hx ho k
  match ds, ho with
  | [.str a], ho =>
    have ho : (if a.length ≤ 640 then (PySem.intText? a).map PyData.int else none) = some z := ho
    obtain ⟨v, rfl, r⟩ := rp1 hx
    cases r
    split at ho
    · rename_i hl
      obtain ⟨n, hn, rfl⟩ := Option.map_eq_some_iff.mp ho
      exact ⟨a, n, rfl, hn, hl, k _ _ (Same.refl _) (.int _)⟩
    · cases ho
def inSg (d e : D) : Option D := match d, e with
  | .str a, .str z => (match a.cps.toList with
    | [c] => some (.bool (decide (c ∈ z.cps.toList)))
    | _ => none)
  | _, _ => none
theorem s2_inSg : S2 (fun x y H Q => ∃ (c : Nat) (z : Str), x = .str ⟨#[c]⟩ ∧ y = .str z ∧ Q (.bl (decide (c ∈ z.cps.toList))) H) inSg := by
  intro P H x y d e z Q hP hx hy ho k
  cases hx with
  | str a h1 h2 =>
    cases hy with
    | str b h3 h4 =>
      have ho : (match a.cps.toList with
        | [c] => some (PyData.bool (decide (c ∈ b.cps.toList)))
        | _ => none) = some z := ho
      split at ho
      · rename_i c hc
        cases ho
        have ea : a = ⟨#[c]⟩ := by
          obtain ⟨cs⟩ := a
          have : cs = #[c] := Array.toList_inj.mp hc
          rw [this]
        exact ⟨c, b, by rw [ea], rfl, k _ _ (Same.refl _) (.bl _)⟩
      · cases ho
    | _ => cases ho
  | _ => cases ho
theorem cm_inSg {X : Cx} : Cm X .In (fun x y H Q => ∃ (c : Nat) (z : Str), x = .str ⟨#[c]⟩ ∧ y = .str z ∧ Q (.bl (decide (c ∈ z.cps.toList))) H) inSg := ⟨op_in_sign, s2_inSg⟩
/-- x not in (texts) -/
def notInTx (d e : D) : Option D := match d, e with
  | .str a, .tuple ds => (strsOf ds).map fun ys => .bool (!ys.any fun y => decide (y = a))
  | _, _ => none
theorem inV_strs (a : Str) : ∀ ys : List Str, inV (.str a) (ys.map V.str) = ys.any fun y => decide (y = a)
  | [] => rfl
  | y :: r => by
    have ih := inV_strs a r
    unfold inV at ih ⊢
    rw [List.map_cons, List.any_cons, List.any_cons, ih]
    rfl
theorem s2_notInTx {K : PySem.W.Frag} : S2 (rIn K true) notInTx := by
  intro P H x y d e z Q hP hx hy ho k
  cases hx with
  | str a h1 h2 =>
    cases hy with
    | tup hb lb rb =>
      rename_i t xs ds
      obtain ⟨ys, hs, rfl⟩ := Option.map_eq_some_iff.mp (show (strsOf ds).map (fun ys => PyData.bool (!ys.any fun y => decide (y = a))) = some z from ho)
      have ex := strs_rp rb hs
      subst ex
      refine ⟨_, _, rfl, .inr (SqT.of (Fz_sub _ _ hb)), rfl, by simp [flatV], ?_⟩
      rw [if_pos rfl, inV_strs]
      exact k _ _ (Same.refl _) (.bl _)
    | _ => cases ho
  | _ => cases ho
theorem cm_notInTx {X : Cx} : Cm X .NotIn (rIn X.K true) notInTx := ⟨op_notIn_seq, s2_notInTx⟩
section
variable {S : Type} {X : Cx} {𝒲 : Fam S} {Wx : Wsh} {a b o : Expr} {ta tb to : TE} {fa fb fo : FE S} {tg : Expr} {pos : Pos}
theorem di_str (ha : DX X 𝒲 Wx a ta fa) : DXI X 𝒲 Wx tg a (iStr ta) (lStr fa) := by
  refine ⟨pi_str ha.pe, fun W hW ρ σ s H R E h => ?_⟩
  refine ha.de W hW ρ σ s H _ E (h.bnd.imp fun x s1 H1 a1 e1 q v hv => ?_)
  split at q
  · rename_i y
    have hv : Rp _ v (.str y) := hv
    cases hv with
    | str _ h1 h2 => exact ⟨_, rfl, q.ok a1 _ (yld_str h1 h2)⟩
  · exact q.elim
/-- a.split(b), b a text not empty -/
def splitD (a b : Str) : Option D := if (b.length == 0) = false ∧ a.length + 2 ≤ lim ∧ (Txt.split a b).length ≤ lim ∧ (Txt.split a b).all (fun w => decide (w.length ≤ lim) && PyData.strOk w) = true then some (.list ((Txt.split a b).map .str)) else none
def eSplit (fo fa : FE S) : FE S := fun ρ s => (fo ρ s).bnd fun x s => match x with
  | .d (.str a) => (fa ρ s).bnd fun y s => (match y with
    | .d (.str b) => lift (splitD a b) s
    | _ => .bad)
  | _ => .bad
theorem strs_all {F : Hp} : ∀ ys : List Str, ys.all (fun w => decide (w.length ≤ lim) && PyData.strOk w) = true → RpAll F (ys.map V.str) (ys.map PyData.str)
  | [], _ => .nil
  | y :: r, h => by
    rw [List.all_cons, Bool.and_eq_true, Bool.and_eq_true] at h
    exact .cons (.str _ (of_decide_eq_true h.1.1) h.1.2) (strs_all r h.2)
theorem dx_split {apos cpos : Pos} (ho : DX X 𝒲 Wx o to fo) (ha : DX X 𝒲 Wx a ta fa) (hs : starEach [a] X.env = [(false, eval a X.env)] := by rfl) (hbase : attributeBase o "split" X.env (eval o X.env) = eval o X.env := by rfl)
    (hline : (apos.endLine == cpos.line) = true := by rfl) :
    DX X 𝒲 Wx (.Call (.Attribute o "split" apos) [a] [] cpos) (tM1 (fun x xs H Q => ∃ a b, x = .str a ∧ xs = [.str b] ∧ (b.length == 0) = false ∧ a.length + 2 ≤ sizeLine ∧ rNewStrs (Txt.split a b) H Q) to ta) (eSplit fo fa) := by
  refine ⟨pe_split ho.pe ha.pe hs hbase hline, fun W hW ρ σ s H Q E h => ?_⟩
  refine ho.de W hW ρ σ s H _ E (h.bnd.imp fun x s1 H1 a1 e1 q v hv => ?_)
  have E1 := E.step a1 e1
  split at q
  · rename_i x
    have hv : Rp _ v (.str x) := hv
    cases hv with
    | str _ h1 h2 =>
      refine ⟨⟨x, rfl⟩, ?_⟩
      refine ha.de W hW ρ σ s1 H1 _ E1 (q.bnd.imp fun y s2 H2 a2 e2 q2 u hu => ?_)
      have E2 := E1.step a2 e2
      split at q2
      · rename_i y
        have hu : Rp _ u (.str y) := hu
        cases hu with
        | str _ h3 h4 =>
          cases hz : splitD x y with
          | none => rw [hz] at q2; exact q2.elim
          | some w =>
            rw [hz] at q2
            obtain ⟨⟨b1, b2, b3, b4⟩, rfl⟩ := ite_some hz
            refine ⟨x, y, rfl, rfl, b1, lim_line b2, fun p hp => ?_⟩
            exact q2 _ (W.ext _ _ _ a2 (Same.new hp)) (Stp.of (Same.new hp)) _ (rp_lst E2.inH hp (by rw [List.length_map]; exact b3) (strs_all _ b4))
      · exact q2.elim
  · exact q.elim
/-- f'{a}:{b}' of two ints -/
def fmt3 (c : Str) (i j : Int) : Str := ((Str.empty ++ (toString i : Str)) ++ c) ++ (toString j : Str)
def eFmt3 (c : Str) (fa fb : FE S) : FE S := fun ρ s => (fa ρ s).bnd fun x s => match x with
  | .d (.int i) => if i.natAbs.log2 < 1920 ∧ ((Str.empty ++ (toString i : Str)) ++ c).length ≤ lim then (fb ρ s).bnd fun y s => (match y with
    | .d (.int j) => if j.natAbs.log2 < 1920 ∧ (fmt3 c i j).length ≤ lim ∧ PyData.strOk (fmt3 c i j) = true then .ok (.d (.str (fmt3 c i j))) s else .bad
    | _ => .bad) else .bad
  | _ => .bad
theorem fmt_len {a b : Str} {n : Nat} (h : (a ++ b).length ≤ n) : a.length ≤ n := by
  rw [Str.length_append] at h
  omega
theorem dx_fmt3 {c : Str} {j : Nat} {p1 p2 p3 p4 : Pos} (ha : DX X 𝒲 Wx a ta fa) (hb : DX X 𝒲 Wx b tb fb) :
    DX X 𝒲 Wx (.JoinedStr [.FormattedValue a (-1) none p1, .Constant (.str c) j p2, .FormattedValue b (-1) none p3] p4) (fun σ H Q => tJs [tFmt ta, tC (.str c), tFmt tb] Str.empty σ H fun out H1 => Q (.str out) H1) (eFmt3 c fa fb) := by
  refine ⟨pe_joined (.cons (pe_fmt ha.pe) (.cons pe_str (.cons (pe_fmt hb.pe) .nil))), fun W hW ρ σ s H Q E h => ?_⟩
  refine ha.de W hW ρ σ s H _ E (h.bnd.imp fun x s1 H1 a1 e1 q v hv => ?_)
  have E1 := E.step a1 e1
  split at q
  · rename_i i
    cases (show Rp _ v (.int i) from hv)
    split at q
    · rename_i hl
      refine .inr ⟨i, rfl, hl.1, _, rfl, lim_line (fmt_len hl.2), _, rfl, lim_line hl.2, ?_⟩
      refine hb.de W hW ρ σ s1 H1 _ E1 (q.bnd.imp fun y s2 H2 a2 e2 q2 u hu => ?_)
      split at q2
      · rename_i j'
        cases (show Rp _ u (.int j') from hu)
        split at q2
        · rename_i hk
          exact .inr ⟨j', rfl, hk.1, _, rfl, lim_line hk.2.1, q2.ok a2 _ (Rp.str _ hk.2.1 hk.2.2)⟩
        · exact q2.elim
      · exact q2.elim
    · exact q.elim
  · exact q.elim
end
/-! ### a def without arguments -/
section
variable {X : Cx} {k : Nat} {f : Addr} {fd : FuncData} {ps : List Str} {sp : Sp} {E : L2.St → XK} {x : Str} {p pos : Pos}
theorem pe_callS0 (F : FnOk X.prog X.w X.K X.mg X.base (L2.CX X.prog X.w) k f fd ps sp) (hr : Room k X.A) (hg : Gl X x) (hm : X.mg x = some (.ref f)) (hk : PySem.W.keepIn X.K (.ref f) = true) (hb : Binds X.K fd ps []) (hx : ∀ σ, PassesAt (L2.CX X.prog X.w) X σ (E σ))
    (hdb : (x == ("__debug__" : Str)) = false := by decide) : PE X (.Call (.Name x p) [] [] pos) (tCallS sp E tNil) := by
  refine ⟨fun pins s σ H Q I h => ?_⟩
  refine wpAny_Call_Name_kw (ld_glob I hg hm ?_ hdb)
  exact PySem.W.callWith_K0 I.kIn hk (run_fnS (us := []) (E := E) F hr hb (hx σ) I .nil h)
variable {S : Type} {𝒲 : Fam S} {Wx : Wsh} {cl : Nat → Addr}
def eFn0 {S : Type} (sem : List D → Res Unit D) : FE S := fun ρ s => match sem [] with
  | .ok d _ => .ok (.d d) s
  | .er c _ => .er c s
  | .bad => .bad
theorem dx_fn0 {sem : List D → Res Unit D} (Fo : FnOk X.prog X.w X.K X.mg X.base (L2.CX X.prog X.w) k f fd ps (spD cl 0 sem)) (hr : Room k X.A) (hm : X.mg x = some (.ref f)) (hk : PySem.W.keepIn X.K (.ref f) = true) (hb : Binds X.K fd ps [])
    (tk : Takes X (WR cl Wx)) (hg : Gl X x := by rfl) (hdb : (x == ("__debug__" : Str)) = false := by decide) :
    DX X 𝒲 Wx (.Call (.Name x p) [] [] pos) (tCallS (spD cl 0 sem) (WE (WR cl Wx)) tNil) (eFn0 sem) := by
  refine ⟨pe_callS0 Fo hr hg hm hk hb (fun σ => passAt tk σ) hdb, fun W hW ρ σ s H Q E h => ?_⟩
  refine ⟨rfl, _, [], E.inH, .nil, ?_⟩
  unfold eFn0 at h
  cases hs : sem [] with
  | ok d _ =>
    rw [hs] at h
    exact fun v' H' sm rv => h H' (W.ext _ _ _ E.at_ sm) (Stp.of sm) v' rv
  | er c _ =>
    rw [hs] at h
    exact fun H' sm => ⟨c, rfl, rfl, h H' (W.ext _ _ _ E.at_ sm) (Stp.of sm)⟩
  | bad => rw [hs] at h; exact h.elim
end
end DL

namespace DL
open PySem PySem.Spec PyProof.Rows L2
/-! ### len(x) of an own instance with its own __len__ -/
section
variable {X : Cx} {C f : Addr} {fd : FuncData} {ps : List Str} {sp : Sp} {k : Nat}
theorem call_len_own (hl : PySem.W.findIn X.K (.ref C) "__len__" = some (some (.ref f))) (hf : PySem.W.isFn X.K (.ref f) = true) (F : FnOk X.prog X.w X.K X.mg X.base (L2.CX X.prog X.w) k f fd ps sp) (hr : Room (k + 1) X.A) (hb : Binds X.K fd ps []) :
    CallR X (.builtin "len") (fun xs H Q => ∃ a dx fs, xs = [.ref a] ∧ H a = some (.ins C dx fs) ∧ sp [.ref a] H (fun v H' => ∃ n : Nat, v = .int n ∧ (n : Int) < 2 ^ 63 ∧ Q (.int n) H') (fun _ _ _ => False)) := by
  intro pins s σ H xs us Q I r h
  obtain ⟨a, dx, fs, rfl, ha, hsp⟩ := h
  rw [Vals.ref1 r]
  obtain ⟨mA, O, _, _, _, _⟩ := ins_get I.hok ha
  have ho := O.obj
  have hl1 : [Value.ref a].length = ps.length := F.len _ _ _ _ hsp
  have hbd := hb s [Value.ref a] I.kIn (by simpa using hl1)
  have run := F.run X.A.in1 X.stack s H ⟨[.ref a], []⟩ [Value.ref a] [V.ref a] _ _ hr.in1 I.env0.in1 hbd (.cons rfl .nil) hsp
  have sp1 : PySem.W.Looks (model X.prog X.w) s.heap (specialOf (.ref a) "__len__") (some (.ref f)) := ((PySem.W.Looks.ld ho).andThen .now : PySem.W.Looks (model X.prog X.w) s.heap (typeOf (.ref a)) (.ref C)).andThen (PySem.W.looks_findIn I.kIn hl)
  refine Calls.call_function_entry kind_len plain_len entry_len (args_len1 _) ?_
  unfold Builtin.«len»
  refine wpAny_bind (m := oneArg "len" _) (wpAny_pure ?_)
  refine wpAny_bind (m := callSpecial? (.ref a) (PySem.Str.ofString "__len__")) ?_
  unfold callSpecial?
  refine wpAny_bind (sp1.here ?_)
  refine wpAny_holding ?_
  refine wpAny_bind ((PySem.W.bind_fn I.kIn _ (beq_iff_eq.mp hf)).here ?_)
  refine wpAny_bind (wpAny_mono (wpAny_call (codeAny_mono run fun rr s' hq => ?_) : wpAny (model X.prog X.w) X.A.in1 (call (.ref f) [.ref a]) (fun u s' => EP X pins σ (fun v H' => ∃ n : Nat, v = .int n ∧ (n : Int) < 2 ^ 63 ∧ Q (.int n) H') u s') X.xe s) (fun u s1 hq => wpAny_pure ?_) fun _ _ z => z)
  · cases rr with
    | error e =>
      obtain ⟨_, _, _, _, _, _, _, _, _, _, _, _, z⟩ := (show L2.CX X.prog X.w X.stack H s (fun _ _ _ => False) e s' from hq)
      exact z.elim
    | ok fl =>
      cases fl with
      | ret u => exact I.after hq
      | next => exact False.elim hq
      | brk => exact False.elim hq
      | cont => exact False.elim hq
  · obtain ⟨v, H', I', rv, n, rfl, hn, q⟩ := hq
    obtain ⟨t, rfl⟩ := rv
    refine wpAny_bind (wpAny_holding (wpAny_pure ?_))
    refine wpAny_bind (wpAny_letGo ?_)
    show wpAny _ _ (if ((n : Nat) : Int) < 0 then _ else _) _ _ _
    rw [if_neg (by omega)]
    show wpAny _ _ (if ((n : Nat) : Int) ≥ 2 ^ 63 then _ else _) _ _ _
    rw [if_neg (by omega)]
    exact wpAny_bind (wpAny_mkInt (wpAny_pure ⟨_, rfl, ⟨.int n, H', I'.tok _, ⟨_, rfl⟩, q⟩⟩))
end
end DL
namespace DL
open PySem PySem.Spec PyProof.Rows L2
/-! ### data without lists -/
mutual
def flatD : D → Bool
  | .none | .bool _ | .int _ | .str _ => true
  | .tuple ds => flatDs ds
  | _ => false
def flatDs : List D → Bool
  | [] => true
  | d :: r => flatD d && flatDs r
end
mutual
theorem Rp.flat {F F' : Hp} (k : ∀ a xs, F a = some (.tup xs) → F' a = some (.tup xs)) : ∀ (d : D) (v : V), flatD d = true → Rp F v d → Rp F' v d
  | .none, _, _, h => by cases h; exact .non
  | .bool b, _, _, h => by cases h; exact .bl b
  | .int i, _, _, h => by cases h; exact .int i
  | .str x, _, _, h => by cases h with | str _ a b => exact .str x a b
  | .list ds, _, f, _ => by simp [flatD] at f
  | .tuple ds, _, f, h => by cases h with | tup a b c => exact .tup (k _ _ a) b (RpAll.flat k ds _ (by simpa [flatD] using f) c)
  | .dict _, _, f, _ => by simp [flatD] at f
theorem RpAll.flat {F F' : Hp} (k : ∀ a xs, F a = some (.tup xs) → F' a = some (.tup xs)) : ∀ (ds : List D) (vs : List V), flatDs ds = true → RpAll F vs ds → RpAll F' vs ds
  | [], _, _, h => by cases h; exact .nil
  | d :: ds, _, f, h => by
    have f : flatD d = true ∧ flatDs ds = true := by simpa [flatDs] using f
    cases h with | cons a b => exact .cons (Rp.flat k d _ f.1 a) (RpAll.flat k ds _ f.2 b)
end
/-! ### a Watch: a threshold, the things that came -/
structure WSt where
  p : Addr
  dx : Addr
  l : Addr
  th : Int
  line : List (Int × Bool)
def thD (x : Int × Bool) : D := .tuple [.int x.1, .bool x.2]
theorem flat_ths : ∀ l : List (Int × Bool), flatDs (l.map thD) = true
  | [] => by simp [flatDs]
  | x :: r => by simp [flatDs, flatD, thD]; exact flat_ths r
theorem kw : ¬ (("threshold" : Str) = "line") := by decide +kernel
def wfs (l : Addr) (t : Int) : List (Str × V) := putF "line" (.ref l) (putF "threshold" (.int t) [])
theorem wfs_eq (l : Addr) (t : Int) : wfs l t = ([("threshold", V.int t), ("line", V.ref l)] : List (Str × V)) := by
  show (if ("threshold" : Str) = "line" then [(("threshold" : Str), V.ref l)] else (("threshold" : Str), V.int t) :: putF "line" (V.ref l) []) = _
  rw [if_neg kw]
  rfl
theorem wfs_th (l : Addr) (t : Int) : (wfs l t).lookup ("threshold" : Str) = some (.int t) := by
  unfold wfs
  rw [lookup_putF, if_neg kw, lookup_putF, if_pos rfl]
theorem wfs_ln (l : Addr) (t : Int) : (wfs l t).lookup ("line" : Str) = some (.ref l) := by
  unfold wfs
  rw [lookup_putF, if_pos rfl]
theorem wfs_no (l : Addr) (t : Int) {m : Str} (h1 : ¬ m = "line") (h2 : ¬ m = "threshold") : (wfs l t).lookup m = none := by
  unfold wfs
  rw [lookup_putF, if_neg h1, lookup_putF, if_neg h2]
  rfl
theorem wfs_put (l : Addr) (t u : Int) : putF "threshold" (.int u) (wfs l t) = wfs l u := by
  rw [wfs_eq, wfs_eq]
  show (if ("threshold" : Str) = "threshold" then _ else _) = _
  rw [if_pos rfl]
theorem wfs_len (l : Addr) (t : Int) : (wfs l t).length < 1000 := by rw [wfs_eq]; show 2 < 1000; decide
structure Wt (C : Addr) (M : Addr → Prop) (w : WSt) (H : Hp) : Prop where
  ob : H w.p = some (.ins C w.dx (wfs w.l w.th))
  dc : H w.dx = some (.own w.p)
  ln : ∃ vs, H w.l = some (.lst vs) ∧ RpAll (Fz M H) vs (w.line.map thD)
  sm : w.line.length ≤ lim
  mp : M w.p
  ml : M w.l
theorem Wt.ne {C : Addr} {M : Addr → Prop} {w : WSt} {H : Hp} (h : Wt C M w H) : w.p ≠ w.l := by
  obtain ⟨vs, e, _⟩ := h.ln
  exact ne_of h.ob e (by intro z; cases z)
def isTh : D → Option (Int × Bool)
  | .tuple [.int s, .bool b] => if 0 ≤ s ∧ s ≤ 99 then some (s, b) else none
  | _ => none
def isT : D → Option Int
  | .int t => if 0 ≤ t ∧ t ≤ 100 then some t else none
  | _ => none
theorem isTh_is {d : D} {x : Int × Bool} (h : isTh d = some x) : d = thD x ∧ 0 ≤ x.1 ∧ x.1 ≤ 99 := by
  unfold isTh at h
  split at h
  · split at h
    · cases h; exact ⟨rfl, by assumption⟩
    · cases h
  · cases h
theorem isT_is {d : D} {t : Int} (h : isT d = some t) : d = .int t ∧ 0 ≤ t ∧ t ≤ 100 := by
  unfold isT at h
  split at h
  · split at h
    · cases h; exact ⟨rfl, by assumption⟩
    · cases h
  · cases h
/-- the promise of a def whose first argument is a Watch -/
def spM (C : Addr) (cl : Nat → Addr) (n : Nat) (sem : List D → WSt → Res WSt D) : Sp := fun vs H Q E => vs.length = n ∧ ∃ (M0 : Addr → Prop) (w : WSt) (ws : List V) (ds : List D), vs = .ref w.p :: ws ∧ InH M0 H ∧ Wt C M0 w H ∧ RpAll (Fz M0 H) ws ds ∧
  (match sem ds w with
  | .ok d w' => w'.p = w.p ∧ w'.dx = w.dx ∧ w'.l = w.l ∧ ∀ v H', Wt C M0 w' H' → Kept2 w.p w.l H H' → Rp (Fz M0 H') v d → Q v H'
  | .er c w' => w'.p = w.p ∧ w'.dx = w.dx ∧ w'.l = w.l ∧ ∀ H', Wt C M0 w' H' → Kept2 w.p w.l H H' → E (.ref (cl c)) none H'
  | .bad => False)
theorem Kept2.of {a b : Addr} {H H' : Hp} (e : Same H H') : Kept2 a b H H' := fun c o _ _ h => e c o h
theorem Wt.up {C : Addr} {M : Addr → Prop} {w : WSt} {H H' : Hp} (h : Wt C M w H) (e : Same H H') : Wt C M w H' := by
  obtain ⟨vs, h1, h2⟩ := h.ln
  exact ⟨e _ _ h.ob, e _ _ h.dc, ⟨vs, e _ _ h1, h2.up (Fz_same e)⟩, h.sm, h.mp, h.ml⟩
/-! #### push -/
def pushSem : List D → WSt → Res WSt D
  | [d], w => match isTh d with
    | some x => if w.line.length < lim then .ok (.bool (decide (w.th ≤ x.1))) { w with line := w.line ++ [x] } else .bad
    | none => .er 0 w
  | _, _ => .bad
def tPush (K : PySem.W.Frag) (cl : Nat → Addr) (semTh : List D → Res Unit D) (W : WX) : TS :=
  (tSeq (tIfS (tNot (tB (tCallS (spD cl 1 semTh) (WE W) (tCons (tVar 1) tNil)))) (fun _ σ H => W (.ref (cl 0)) none σ H) tNext)
  (tSeq (tDrop (tBM K "list" rAppend (tFld K (tVar 0) "line") (tCons (tVar 1) tNil)))
  (tRet (tOp (rI0 fun i j => .bl (decide (j ≤ i))) (tOp (rIxT K) (tVar 1) (tC (.int 0))) (tFld K (tVar 0) "threshold")))))
theorem push_t {K : PySem.W.Frag} {C : Addr} {cl : Nat → Addr} {semTh : List D → Res Unit D} {v : V} {w : WSt} {H : Hp} {M0 : Addr → Prop} {ds : List D} {Q : VK} {E : XK} (c : Cls K C) (nT : NoAttr K C "threshold") (nL : NoAttr K C "line")
    (hTh : ∀ d, semTh [d] = .ok (.bool (isTh d).isSome) ()) (hM : InH M0 H) (hW : Wt C M0 w H) (r : RpAll (Fz M0 H) [v] ds)
    (hs : match pushSem ds w with
      | .ok d w' => w'.p = w.p ∧ w'.dx = w.dx ∧ w'.l = w.l ∧ ∀ v H', Wt C M0 w' H' → Kept2 w.p w.l H H' → Rp (Fz M0 H') v d → Q v H'
      | .er c w' => w'.p = w.p ∧ w'.dx = w.dx ∧ w'.l = w.l ∧ ∀ H', Wt C M0 w' H' → Kept2 w.p w.l H H' → E (.ref (cl c)) none H'
      | .bad => False) : tPush K cl semTh (fun cls d _ H => E cls d H) { nx := fun _ H' => Q .non H', rt := Q } [some (.ref w.p), some v] H := by
  obtain ⟨d, rfl⟩ : ∃ d, ds = [d] := by
    cases r with | cons a b => cases b; exact ⟨_, rfl⟩
  obtain ⟨v', e, r0⟩ := rp1 r
  cases e
  unfold pushSem at hs
  dsimp only at hs
  refine ⟨v, rfl, rfl, M0, [d], hM, r, ?_⟩
  rw [hTh]
  intro u H1 sm hu
  cases hu
  refine ⟨_, rfl, ?_⟩
  cases hd : isTh d with
  | none =>
    rw [hd] at hs
    refine (if_pos rfl).mpr ?_
    exact hs.2.2.2 H1 (hW.up sm) (Kept2.of sm)
  | some x =>
    rw [hd] at hs
    refine (if_neg Bool.false_ne_true).mpr ?_
    dsimp only at hs
    by_cases hl : w.line.length < lim
    · rw [if_pos hl] at hs
      dsimp only at hs
      obtain ⟨rfl, x0, x1⟩ := isTh_is hd
      have W1 := hW.up sm
      obtain ⟨vs, h1, h2⟩ := W1.ln
      have ne := W1.ne
      have lv : vs.length = w.line.length := by rw [h2.len]; simp
      refine ⟨_, rfl, w.p, C, w.dx, _, _, rfl, W1.ob, c, nL, wfs_ln _ _, .inl ⟨rfl, vs, SqL.of h1⟩, v, rfl, w.l, vs, v, rfl, rfl, h1, by rw [lv, sizeLine_eq]; unfold lim at hl; omega, ?_⟩
      have r1 : Rp (Fz M0 H1) v (thD x) := r0.up (Fz_same sm)
      have fl : ∀ a xs, Fz M0 H1 a = some (.tup xs) → Fz M0 (upd H1 w.l (.lst (vs ++ [v]))) a = some (.tup xs) := fun a xs q => by
        obtain ⟨q1, q2⟩ := Fz_some.mp q
        refine Fz_some.mpr ⟨q1, ?_⟩
        rw [upd_ne fun e => q1 (by rw [e]; exact W1.ml)]
        exact q2
      cases r1 with
      | @tup a xs _ ha la ra =>
        have ha := Fz_some.mp ha
        have exs : xs = [.int x.1, .bl x.2] := by
          cases ra with
          | cons z1 z2 => cases z1; cases z2 with
            | cons z3 z4 => cases z3; cases z4; rfl
        subst exs
        have nea : a ≠ w.l := fun e => ha.1 (by rw [e]; exact W1.ml)
        refine ⟨_, rfl, ⟨a, _, 0, .int x.1, rfl, rfl, SqT.of (by rw [upd_ne nea]; exact ha.2), rfl, ?_⟩⟩
        refine ⟨_, rfl, w.p, C, w.dx, _, _, rfl, by rw [upd_ne ne]; exact W1.ob, c, nT, wfs_th _ _, ⟨_, _, rfl, rfl, ?_⟩⟩
        refine hs.2.2.2 _ _ ⟨by rw [upd_ne ne]; exact W1.ob, ?_, ⟨vs ++ [.ref a], upd_same, ?_⟩, ?_, W1.mp, W1.ml⟩ ?_ (.bl _)
        · have : w.dx ≠ w.l := ne_of W1.dc h1 (by intro z; cases z)
          rw [upd_ne this]; exact W1.dc
        · show RpAll _ _ ((w.line ++ [x]).map thD)
          rw [List.map_append]
          exact (RpAll.flat fl _ _ (flat_ths _) h2).append (.cons (.tup (fl _ _ (Fz_some.mpr ha)) la (ra.flat (fun _ _ q => fl _ _ q) _ _ (by simp [flatDs, flatD]))) .nil)
        · show (w.line ++ [x]).length ≤ lim
          rw [List.length_append]; exact hl
        · intro b o n1 n2 q
          rw [upd_ne n2]; exact sm b o q
    · rw [if_neg hl] at hs; exact hs.elim
end DL
namespace DL
open PySem PySem.Spec PyProof.Rows L2
/-! #### undo, things, len, __init__ -/
def undoSem : List D → WSt → Res WSt D
  | [], w => match w.line.getLast? with
    | some x => .ok (thD x) { w with line := w.line.dropLast }
    | none => .er 4 w
  | _, _ => .bad
def tUndo (K : PySem.W.Frag) (cl : Nat → Addr) (W : WX) : TS :=
  (tSeq (tIfS (tTest (tOp (rEqE K) (tFld K (tVar 0) "line") (tLst tNil))) (fun _ σ H => W (.ref (cl 4)) none σ H) tNext)
  (tRet (tBM0 K "list" rPop (tFld K (tVar 0) "line"))))
theorem undo_t {K : PySem.W.Frag} {C : Addr} {cl : Nat → Addr} {w : WSt} {H : Hp} {M0 : Addr → Prop} {ds : List D} {Q : VK} {E : XK} (c : Cls K C) (nL : NoAttr K C "line")
    (hM : InH M0 H) (hW : Wt C M0 w H) (r : RpAll (Fz M0 H) [] ds)
    (hs : match undoSem ds w with
      | .ok d w' => w'.p = w.p ∧ w'.dx = w.dx ∧ w'.l = w.l ∧ ∀ v H', Wt C M0 w' H' → Kept2 w.p w.l H H' → Rp (Fz M0 H') v d → Q v H'
      | .er c w' => w'.p = w.p ∧ w'.dx = w.dx ∧ w'.l = w.l ∧ ∀ H', Wt C M0 w' H' → Kept2 w.p w.l H H' → E (.ref (cl c)) none H'
      | .bad => False) : tUndo K cl (fun cls d _ H => E cls d H) { nx := fun _ H' => Q .non H', rt := Q } [some (.ref w.p)] H := by
  cases r
  unfold undoSem at hs
  dsimp only at hs
  obtain ⟨vs, h1, h2⟩ := hW.ln
  refine ⟨_, rfl, w.p, C, w.dx, _, _, rfl, hW.ob, c, nL, wfs_ln _ _, Nat.zero_le _, fun q hq => ?_⟩
  have sm : Same H (upd H q (.lst [])) := Same.new hq
  have W1 := hW.up sm
  have d1 : Dp K (upd H q (.lst [])) (.ref w.l) (.list (w.line.map thD)) := .lst (SqL.of (sm _ _ h1)) ((h2.up Fz_sub).up sm).dp
  refine ⟨.list (w.line.map thD), .list [], d1, .lst (SqL.of upd_same) .nil, by simpa [PyData.canLay0] using h2.lay, by simp [PyData.canLay0, PyData.canLayAll0], by simp [PyData.depth, PyData.depthAll], ?_⟩
  refine ⟨_, rfl, ?_⟩
  rcases List.eq_nil_or_concat w.line with e | ⟨l0, x, e⟩
  · rw [e] at hs ⊢
    dsimp only [List.getLast?] at hs
    refine (if_pos (by simp [PyData.eqv, PyData.eqvAll])).mpr ?_
    exact hs.2.2.2 _ W1 (Kept2.of sm)
  · have e : w.line = l0 ++ [x] := by simpa using e
    have eg : w.line.getLast? = some x := by rw [e]; simp
    have ed : w.line.dropLast = l0 := by rw [e]; simp
    rw [eg] at hs
    dsimp only at hs
    rw [ed] at hs
    refine (if_neg (by rw [e]; cases l0 <;> simp [PyData.eqv, PyData.eqvAll])).mpr ?_
    have ne := W1.ne
    have h1' := sm _ _ h1
    have h2' := h2.up (Fz_same sm)
    generalize upd H q (.lst []) = H1 at *
    rw [e, List.map_append] at h2'
    obtain ⟨us, y, rfl, hu, hy⟩ : ∃ us y, vs = us ++ [y] ∧ RpAll (Fz M0 H1) us (l0.map thD) ∧ Rp (Fz M0 H1) y (thD x) := by
      have hl := h2'.len
      rcases List.eq_nil_or_concat vs with z | ⟨us, y, z⟩
      · rw [z] at hl; simp at hl
      · have z : vs = us ++ [y] := by simpa using z
        subst z
        have a := h2'.take us.length
        have b := h2'.drop us.length
        have lu : us.length = (l0.map thD).length := by
          rw [List.length_append, List.length_append] at hl
          simpa using hl
        rw [List.take_left, lu, List.take_left] at a
        rw [List.drop_left, lu, List.drop_left] at b
        obtain ⟨y', e1, e2⟩ := rp1 b
        cases e1
        exact ⟨us, _, rfl, a, e2⟩
    refine ⟨_, rfl, w.p, C, w.dx, _, _, rfl, W1.ob, c, nL, wfs_ln _ _, .inl ⟨rfl, _, SqL.of h1'⟩, w.l, us ++ [y], y, rfl, rfl, h1', by simp, ?_⟩
    have fl : ∀ a xs, Fz M0 H1 a = some (.tup xs) → Fz M0 (upd H1 w.l (.lst (us ++ [y]).dropLast)) a = some (.tup xs) := fun a xs q => by
      obtain ⟨q1, q2⟩ := Fz_some.mp q
      refine Fz_some.mpr ⟨q1, ?_⟩
      rw [upd_ne fun e => q1 (by rw [e]; exact W1.ml)]
      exact q2
    refine hs.2.2.2 _ _ ⟨by rw [upd_ne ne]; exact W1.ob, ?_, ⟨us, by rw [upd_same, List.dropLast_concat], RpAll.flat fl _ _ (flat_ths _) hu⟩, ?_, W1.mp, W1.ml⟩ ?_ (hy.flat fl _ _ (by simp [flatD, flatDs, thD]))
    · have : w.dx ≠ w.l := ne_of W1.dc h1' (by intro z; cases z)
      rw [upd_ne this]; exact W1.dc
    · show l0.length ≤ lim
      have := W1.sm
      rw [e, List.length_append] at this
      simp at this
      omega
    · intro b o n1 n2 q
      rw [upd_ne n2]; exact sm b o q
def rListOf (K : PySem.W.Frag) : List V → Hp → VK → Prop := fun xs H Q => ∃ p ys, xs = [.ref p] ∧ (SqL K H p ys ∨ SqT K H p ys) ∧ ∀ l, H l = none → Q (.ref l) (upd H l (.lst ys))
theorem cr_listOf {X : Cx} : CallR X (.type "list") (rListOf X.K) := call_list_of
def thingsSem : List D → WSt → Res WSt D
  | [], w => .ok (.list (w.line.map thD)) w
  | _, _ => .bad
def tThings (K : PySem.W.Frag) : TS := (tRet (tCB (rListOf K) (tCons (tFld K (tVar 0) "line") tNil)))
theorem things_t {K : PySem.W.Frag} {C : Addr} {cl : Nat → Addr} {w : WSt} {H : Hp} {M0 : Addr → Prop} {ds : List D} {Q : VK} {E : XK} (c : Cls K C) (nL : NoAttr K C "line")
    (hM : InH M0 H) (hW : Wt C M0 w H) (r : RpAll (Fz M0 H) [] ds)
    (hs : match thingsSem ds w with
      | .ok d w' => w'.p = w.p ∧ w'.dx = w.dx ∧ w'.l = w.l ∧ ∀ v H', Wt C M0 w' H' → Kept2 w.p w.l H H' → Rp (Fz M0 H') v d → Q v H'
      | .er c w' => w'.p = w.p ∧ w'.dx = w.dx ∧ w'.l = w.l ∧ ∀ H', Wt C M0 w' H' → Kept2 w.p w.l H H' → E (.ref (cl c)) none H'
      | .bad => False) : tThings K { nx := fun _ H' => Q .non H', rt := Q } [some (.ref w.p)] H := by
  cases r
  unfold thingsSem at hs
  dsimp only at hs
  obtain ⟨vs, h1, h2⟩ := hW.ln
  have lv : vs.length = w.line.length := by rw [h2.len]; simp
  refine ⟨_, rfl, w.p, C, w.dx, _, _, rfl, hW.ob, c, nL, wfs_ln _ _, w.l, vs, rfl, .inl (SqL.of h1), fun q hq => ?_⟩
  exact hs.2.2.2 _ _ (hW.up (Same.new hq)) (Kept2.of (Same.new hq)) (rp_lst hM hq (by rw [lv]; exact hW.sm) h2)
def lenSem : List D → WSt → Res WSt D
  | [], w => .ok (.int (w.line.length : Nat)) w
  | _, _ => .bad
def tLenW (K : PySem.W.Frag) : TS := tRet (tCB (rLenE K) (tCons (tFld K (tVar 0) "line") tNil))
theorem len_t {K : PySem.W.Frag} {C : Addr} {cl : Nat → Addr} {w : WSt} {H : Hp} {M0 : Addr → Prop} {ds : List D} {Q : VK} {E : XK} (c : Cls K C) (nL : NoAttr K C "line")
    (hM : InH M0 H) (hW : Wt C M0 w H) (r : RpAll (Fz M0 H) [] ds)
    (hs : match lenSem ds w with
      | .ok d w' => w'.p = w.p ∧ w'.dx = w.dx ∧ w'.l = w.l ∧ ∀ v H', Wt C M0 w' H' → Kept2 w.p w.l H H' → Rp (Fz M0 H') v d → Q v H'
      | .er c w' => w'.p = w.p ∧ w'.dx = w.dx ∧ w'.l = w.l ∧ ∀ H', Wt C M0 w' H' → Kept2 w.p w.l H H' → E (.ref (cl c)) none H'
      | .bad => False) : tLenW K { nx := fun _ H' => Q .non H', rt := Q } [some (.ref w.p)] H := by
  cases r
  unfold lenSem at hs
  dsimp only at hs
  obtain ⟨vs, h1, h2⟩ := hW.ln
  have lv : vs.length = w.line.length := by rw [h2.len]; simp
  refine ⟨_, rfl, w.p, C, w.dx, _, _, rfl, hW.ob, c, nL, wfs_ln _ _, _, w.line.length, rfl, .inl ⟨vs, SqL.of h1, lv.symm⟩, ?_⟩
  exact hs.2.2.2 _ _ hW (Kept2.of (Same.refl _)) (.int _)
def spInit (C : Addr) (cl : Nat → Addr) : Sp := fun vs H Q E => ∃ (p dx : Addr) (v : V) (M0 : Addr → Prop) (d : D), vs = [.ref p, v] ∧ H p = some (.ins C dx []) ∧ InH M0 H ∧ Rp (Fz M0 H) v d ∧
  (match isT d with
  | some t => ∀ l H', H l = none → H' p = some (.ins C dx (wfs l t)) → H' l = some (.lst []) → (∀ a o, a ≠ p → H a = some o → H' a = some o) → Q .non H'
  | none => ∀ H', Same H H' → E (.ref (cl 1)) none H')
def tInit (K : PySem.W.Frag) (cl : Nat → Addr) (semCT : List D → Res Unit D) (W : WX) : TS := tSeq (tDrop (tCallS (spD cl 1 semCT) (WE W) (tCons (tVar 1) tNil)))
  (tSeq (sFld K (tVar 0) (tVar 1) "threshold") (sFld K (tVar 0) (tLst tNil) "line"))
theorem init_t {K : PySem.W.Frag} {C : Addr} {cl : Nat → Addr} {semCT : List D → Res Unit D} {vs : List V} {H : Hp} {Q : VK} {E : XK} (c : Cls K C) (nT : NoAttr K C "threshold") (nL : NoAttr K C "line")
    (hCT : ∀ d, semCT [d] = if (isT d).isSome then .ok .none () else .er 1 ()) (h : spInit C cl vs H Q E) : tInit K cl semCT (fun cls d _ H => E cls d H) { nx := fun _ H' => Q .non H', rt := Q } (L2.start ["self", "threshold"] vs) H := by
  obtain ⟨p, dx, v, M0, d, rfl, hp, hM, r, hs⟩ := h
  refine ⟨v, rfl, rfl, M0, [d], hM, .cons r .nil, ?_⟩
  rw [hCT]
  cases hd : isT d with
  | none =>
    rw [hd] at hs
    exact hs
  | some t =>
    rw [hd] at hs
    dsimp only at hs
    rw [if_pos (show (some t).isSome = true from rfl)]
    intro u H1 sm _
    obtain ⟨rfl, t0, t1⟩ := isT_is hd
    have ev : v = .int t := by cases r; rfl
    subst ev
    refine ⟨_, rfl, _, rfl, p, C, dx, [], rfl, sm _ _ hp, c, nT, (by show 0 < 1000; decide), ?_⟩
    refine ⟨Nat.zero_le _, fun l hl => ?_⟩
    have npl : p ≠ l := fun e => by rw [← e, upd_same] at hl; cases hl
    refine ⟨_, rfl, p, C, dx, _, rfl, (by rw [upd_ne npl]; exact upd_same), c, nL, (by show 1 < 1000; decide), ?_⟩
    rw [upd_ne npl.symm] at hl
    have hl0 : H l = none := by
      cases z : H l with
      | none => rfl
      | some o => rw [sm _ _ z] at hl; cases hl
    refine hs l _ hl0 upd_same (by rw [upd_ne npl.symm]; exact upd_same) fun a o n q => ?_
    rw [upd_ne n, upd_ne (ne_of_none q hl0), upd_ne n]
    exact sm a o q
end DL
namespace DL
open PySem PySem.Spec PyProof.Rows L2
/-! #### counts, move -/
def kB (p : Int × Bool → Bool) (l : List (Int × Bool)) : Int := ((l.filter p).length : Nat)
theorem kB_snoc (p : Int × Bool → Bool) (l : List (Int × Bool)) (x : Int × Bool) : kB p (l ++ [x]) = kB p l + (if p x = true then 1 else 0) := by
  unfold kB
  rw [List.filter_append, List.length_append, List.filter_cons, List.filter_nil]
  split <;> simp
def c4 (t : Int) (l : List (Int × Bool)) : List Int := [kB (fun x => decide (t ≤ x.1) && !x.2) l, kB (fun x => decide (t ≤ x.1) && x.2) l, kB (fun x => !decide (t ≤ x.1) && x.2) l, kB (fun x => !decide (t ≤ x.1) && !x.2) l]
theorem line_item {F : Hp} {vs : List V} {l : List (Int × Bool)} {i : Nat} {x : V} (r : RpAll F vs (l.map thD)) (h : vs[i]? = some x) : ∃ y a, l[i]? = some y ∧ x = .ref a ∧ F a = some (.tup [.int y.1, .bl y.2]) := by
  obtain ⟨d, hd, rd⟩ := r.getV h
  rw [List.getElem?_map] at hd
  obtain ⟨y, hy, rfl⟩ := Option.map_eq_some_iff.mp hd
  cases rd with
  | @tup a xs _ ha la ra =>
    have ex : xs = [.int y.1, .bl y.2] := by
      cases ra with
      | cons z1 z2 => cases z1; cases z2 with
        | cons z3 z4 => cases z3; cases z4; rfl
    exact ⟨y, a, hy, rfl, by rw [ha, ex]⟩
def rGetL (K : PySem.W.Frag) : V → V → Hp → VK → Prop := fun o i H Q => ∃ (p : Addr) (xs : List V) (j : Nat) (v : V), o = .ref p ∧ i = .int (j : Nat) ∧ SqL K H p xs ∧ xs[j]? = some v ∧ Q v H
theorem get_list {X : Cx} : PGet X (rGetL X.K) := by
  intro pins s σ H o i ov iv Q I ro ri h
  obtain ⟨p, xs, j, v, rfl, rfl, hq, he, q⟩ := h
  cases ro
  obtain ⟨t, rfl⟩ := ri
  obtain ⟨its, r, pl, hz⟩ := I.list hq
  obtain ⟨u, eu, ru⟩ := r.get he
  have hl := r.length
  have hn := line63
  have hj : j < its.length := (List.getElem?_eq_some_iff.mp eu).1
  exact wpAny_getItem_list pl.isList (by omega) (by omega) (by rw [Int.toNat_natCast]; simpa using eu) ⟨v, H, I, ru, q⟩
def countsSem : List D → WSt → Res WSt D
  | [], w => .ok (.tuple ((c4 w.th w.line).map .int)) w
  | _, _ => .bad
def rTupOf (K : PySem.W.Frag) : List V → Hp → VK → Prop := fun xs H Q => ∃ p ys, xs = [.ref p] ∧ ((SqL K H p ys ∧ ∀ l, H l = none → Q (.ref l) (upd H l (.tup ys))) ∨ (SqT K H p ys ∧ Q (.ref p) H))
theorem cr_tupOf {X : Cx} : CallR X (.type "tuple") (rTupOf X.K) := call_tuple_of
def tAdd1 (K : PySem.W.Frag) (a b : Int) : TS := tAugS (tVar 1) (tIf (tB (tVar 3)) (tC (.int a)) (tC (.int b))) (tC (.int 1)) (rGetL K) (ipI fun i j => i + j) L2.rSetL
def tCounts (K : PySem.W.Frag) : TS :=
  (tSeq (tAsg (tLst (tCons (tC (.int 0)) (tCons (tC (.int 0)) (tCons (tC (.int 0)) (tCons (tC (.int 0)) tNil))))) (gName 1))
  (tSeq (tFor (iList K (tFld K (tVar 0) "line")) (gTup K 2 (gCons (gName 2) (gCons (gName 3) gNil))) (tIfS (tTest (tOp (rI0 fun i j => .bl (decide (j ≤ i))) (tVar 2) (tFld K (tVar 0) "threshold"))) (tAdd1 K 1 0) (tAdd1 K 2 3)))
  (tRet (tCB (rTupOf K) (tCons (tVar 1) tNil)))))
theorem counts_t {K : PySem.W.Frag} {C : Addr} {cl : Nat → Addr} {w : WSt} {H : Hp} {M0 : Addr → Prop} {ds : List D} {Q : VK} {E : XK} (c : Cls K C) (nT : NoAttr K C "threshold") (nL : NoAttr K C "line")
    (hM : InH M0 H) (hW : Wt C M0 w H) (r : RpAll (Fz M0 H) [] ds)
    (hs : match countsSem ds w with
      | .ok d w' => w'.p = w.p ∧ w'.dx = w.dx ∧ w'.l = w.l ∧ ∀ v H', Wt C M0 w' H' → Kept2 w.p w.l H H' → Rp (Fz M0 H') v d → Q v H'
      | .er c w' => w'.p = w.p ∧ w'.dx = w.dx ∧ w'.l = w.l ∧ ∀ H', Wt C M0 w' H' → Kept2 w.p w.l H H' → E (.ref (cl c)) none H'
      | .bad => False) : tCounts K { nx := fun _ H' => Q .non H', rt := Q } [some (.ref w.p), none, none, none] H := by
  cases r
  unfold countsSem at hs
  dsimp only at hs
  obtain ⟨vs, h1, h2⟩ := hW.ln
  have lv : vs.length = w.line.length := by rw [h2.len]; simp
  refine ⟨(by show 4 ≤ sizeLine; rw [sizeLine_eq]; decide), fun f hf => ?_⟩
  have npf : w.p ≠ f := ne_of_none hW.ob hf
  have nlf : w.l ≠ f := ne_of_none h1 hf
  have keep : ∀ (a : Addr) (o : HO) (ks : List V), H a = some o → upd H f (.lst ks) a = some o := fun a o ks q => by rw [upd_ne (ne_of_none q hf)]; exact q
  refine ⟨_, rfl, w.p, C, w.dx, _, _, rfl, keep _ _ _ hW.ob, c, nL, wfs_ln _ _, w.l, rfl, ⟨vs, SqL.of (keep _ _ _ h1)⟩, ?_⟩
  refine for_list (xs := vs) (fun i σ H' => ∃ a b, σ = [some (.ref w.p), some (.ref f), a, b] ∧ H' = upd H f (.lst ((c4 w.th (w.line.take i)).map V.int))) ⟨none, none, rfl, rfl⟩ ?_ ?_ ?_
  · rintro i σ H' _ ⟨a, b, rfl, rfl⟩
    exact SqL.of (keep _ _ _ h1)
  · rintro i x σ H' hx ⟨a, b, rfl, rfl⟩
    obtain ⟨y, t, hy, rfl, ht⟩ := line_item h2 hx
    have ht := (Fz_some.mp ht).2
    have nx : w.line.take (i + 1) = w.line.take i ++ [y] := by rw [List.take_succ, hy]; rfl
    refine ⟨t, _, rfl, SqT.of (keep _ _ _ ht), rfl, _, _, rfl, _, _, rfl, rfl, ?_⟩
    refine ⟨_, rfl, ⟨_, rfl, w.p, C, w.dx, _, _, rfl, keep _ _ _ hW.ob, c, nT, wfs_th _ _, ⟨_, _, rfl, rfl, ⟨_, rfl, ?_⟩⟩⟩⟩
    have fin : ∀ ks, ks = (c4 w.th (w.line.take (i + 1))).map V.int → ∃ a b : Option V, [some (V.ref w.p), some (V.ref f), some (V.int y.1), some (V.bl y.2)] = [some (.ref w.p), some (.ref f), a, b] ∧ upd (upd H f (.lst ((c4 w.th (w.line.take i)).map V.int))) f (.lst ks) = upd H f (.lst ((c4 w.th (w.line.take (i + 1))).map V.int)) := fun ks e => ⟨_, _, rfl, by rw [upd_upd, e]⟩
    have aug : ∀ (a b : Int) (j : Nat) (z : Int) (D : Ends), (if y.2 = true then a else b) = (j : Nat) → ((c4 w.th (w.line.take i)).map V.int)[j]? = some (.int z) → j < 4 → ((c4 w.th (w.line.take i)).map V.int).set j (.int (z + 1)) = (c4 w.th (w.line.take (i + 1))).map V.int →
        (∀ σ2 H2, (∃ a b : Option V, σ2 = [some (V.ref w.p), some (V.ref f), a, b] ∧ H2 = upd H f (.lst ((c4 w.th (w.line.take (i + 1))).map V.int))) → D.nx σ2 H2) →
        tAdd1 K a b D [some (V.ref w.p), some (V.ref f), some (V.int y.1), some (V.bl y.2)] (upd H f (.lst ((c4 w.th (w.line.take i)).map V.int))) := by
      intro a b j z D hj hz h4 hset k
      refine ⟨_, rfl, ?_⟩
      show tIf _ _ _ _ _ _
      refine ⟨_, rfl, y.2, rfl, ?_⟩
      have rest : rGetL K (.ref f) (.int (if y.2 = true then a else b)) (upd H f (.lst ((c4 w.th (w.line.take i)).map V.int))) fun x H3 => tC (.int 1) [some (V.ref w.p), some (V.ref f), some (V.int y.1), some (V.bl y.2)] H3 fun y' H4 => ipI (fun i j => i + j) x y' H4 fun z H5 => L2.rSetL (.ref f) (.int (if y.2 = true then a else b)) z H5 fun H6 => D.nx [some (V.ref w.p), some (V.ref f), some (V.int y.1), some (V.bl y.2)] H6 := by
        refine ⟨f, _, j, .int z, rfl, by rw [hj], SqL.of upd_same, hz, ?_⟩
        refine ⟨z, 1, rfl, rfl, f, _, _, j, rfl, rfl, upd_same, ?_, ?_⟩
        · rw [hj]
          unfold ixN
          rw [if_pos (by omega), if_pos (by rw [List.length_map]; show (j : Int) < ((4 : Nat) : Int); omega)]
          rfl
        · refine k _ _ ?_
          rw [hset]
          exact fin _ rfl
      cases hb : y.2 with
      | true => rw [hb] at rest; exact rest
      | false => rw [hb] at rest; exact rest
    have sn : c4 w.th (w.line.take (i + 1)) = [kB (fun x => decide (w.th ≤ x.1) && !x.2) (w.line.take i) + (if (decide (w.th ≤ y.1) && !y.2) = true then 1 else 0), kB (fun x => decide (w.th ≤ x.1) && x.2) (w.line.take i) + (if (decide (w.th ≤ y.1) && y.2) = true then 1 else 0), kB (fun x => !decide (w.th ≤ x.1) && x.2) (w.line.take i) + (if (!decide (w.th ≤ y.1) && y.2) = true then 1 else 0), kB (fun x => !decide (w.th ≤ x.1) && !x.2) (w.line.take i) + (if (!decide (w.th ≤ y.1) && !y.2) = true then 1 else 0)] := by
      rw [nx]
      unfold c4
      rw [kB_snoc, kB_snoc, kB_snoc, kB_snoc]
    by_cases ht2 : w.th ≤ y.1
    · refine (if_pos (decide_eq_true ht2)).mpr ?_
      rcases Bool.eq_false_or_eq_true y.2 with hb | hb
      · apply aug 1 0 1 _ _ (by rw [hb]; rfl) rfl (by decide) (by rw [sn, hb, decide_eq_true ht2]; simp [c4])
        exact fun _ _ q => q
      · apply aug 1 0 0 _ _ (by rw [hb]; rfl) rfl (by decide) (by rw [sn, hb, decide_eq_true ht2]; simp [c4])
        exact fun _ _ q => q
    · refine (if_neg (by simpa using ht2)).mpr ?_
      rcases Bool.eq_false_or_eq_true y.2 with hb | hb
      · apply aug 2 3 2 _ _ (by rw [hb]; rfl) rfl (by decide) (by rw [sn, hb, decide_eq_false ht2]; simp [c4])
        exact fun _ _ q => q
      · apply aug 2 3 3 _ _ (by rw [hb]; rfl) rfl (by decide) (by rw [sn, hb, decide_eq_false ht2]; simp [c4])
        exact fun _ _ q => q
  · rintro σ H' ⟨a, b, rfl, rfl⟩
    rw [lv, List.take_length]
    refine ⟨_, rfl, f, _, rfl, .inl ⟨SqL.of upd_same, fun q hq => ?_⟩⟩
    have sm : Same H (upd (upd H f (.lst ((c4 w.th w.line).map V.int))) q (.tup ((c4 w.th w.line).map V.int))) := fun a o z => by
      have z1 := keep a o ((c4 w.th w.line).map V.int) z
      rw [upd_ne (ne_of_none z1 hq)]
      exact z1
    refine hs.2.2.2 _ _ (hW.up sm) (Kept2.of sm) (.tup (Fz_some.mpr ⟨fun m => ?_, upd_same⟩) (by show 4 ≤ lim; decide) (ints_rp _))
    have := hM q m
    cases z : H q with
    | none => exact this z
    | some o => rw [keep q o _ z] at hq; cases hq
end DL
namespace DL
open PySem PySem.Spec PyProof.Rows L2
def rMin2 : List V → Hp → VK → Prop := fun xs H Q => ∃ i j, xs = [.int i, .int j] ∧ Q (.int (if j < i then j else i)) H
def rMax2 : List V → Hp → VK → Prop := fun xs H Q => ∃ i j, xs = [.int i, .int j] ∧ Q (.int (if j > i then j else i)) H
theorem cr_min2 {X : Cx} (hc : X.calm = true) : CallR X (.builtin "min") rMin2 := call_min2 hc
theorem cr_max2 {X : Cx} (hc : X.calm = true) : CallR X (.builtin "max") rMax2 := call_max2 hc
def lowT (t u : Int) : Int := if u < t then u else t
def highT (t u : Int) : Int := if u > t then u else t
def mvB (t u : Int) (x : Int × Bool) : Bool := decide (lowT t u ≤ x.1) && decide (x.1 < highT t u)
def moveSem : List D → WSt → Res WSt D
  | [d], w => match isT d with
    | some t => .ok (.int (kB (mvB t w.th) w.line)) { w with th := t }
    | none => .er 1 w
  | _, _ => .bad
def tMove (K : PySem.W.Frag) (cl : Nat → Addr) (semCT : List D → Res Unit D) (W : WX) : TS :=
  (tSeq (tDrop (tCallS (spD cl 1 semCT) (WE W) (tCons (tVar 1) tNil)))
  (tSeq (tAsg (tTup (tCons (tCB rMin2 (tCons (tVar 1) (tCons (tFld K (tVar 0) "threshold") tNil))) (tCons (tCB rMax2 (tCons (tVar 1) (tCons (tFld K (tVar 0) "threshold") tNil))) tNil))) (gTup K 2 (gCons (gName 2) (gCons (gName 3) gNil))))
  (tSeq (sFld K (tVar 0) (tVar 1) "threshold")
  (tRet (tCB (rLenE K) (tCons (tLc (iList K (tFld K (tVar 0) "line")) (gTup K 2 (gCons (gName 4) (gCons (gName 5) gNil))) (tTest (tChain (rI0 fun i j => .bl (decide (i ≤ j))) (rI0 fun i j => .bl (decide (i < j))) (tVar 2) (tVar 4) (tVar 3))) (tC (.int 1)) [4, 5]) tNil))))))
theorem kB_le (p : Int × Bool → Bool) (l : List (Int × Bool)) (i : Nat) : (l.take i).length ≤ i := by simp; omega
theorem move_t {K : PySem.W.Frag} {C : Addr} {cl : Nat → Addr} {semCT : List D → Res Unit D} {v : V} {w : WSt} {H : Hp} {M0 : Addr → Prop} {ds : List D} {Q : VK} {E : XK} (c : Cls K C) (nT : NoAttr K C "threshold") (nL : NoAttr K C "line")
    (hCT : ∀ d, semCT [d] = if (isT d).isSome then .ok .none () else .er 1 ()) (hM : InH M0 H) (hW : Wt C M0 w H) (r : RpAll (Fz M0 H) [v] ds)
    (hs : match moveSem ds w with
      | .ok d w' => w'.p = w.p ∧ w'.dx = w.dx ∧ w'.l = w.l ∧ ∀ v H', Wt C M0 w' H' → Kept2 w.p w.l H H' → Rp (Fz M0 H') v d → Q v H'
      | .er c w' => w'.p = w.p ∧ w'.dx = w.dx ∧ w'.l = w.l ∧ ∀ H', Wt C M0 w' H' → Kept2 w.p w.l H H' → E (.ref (cl c)) none H'
      | .bad => False) : tMove K cl semCT (fun cls d _ H => E cls d H) { nx := fun _ H' => Q .non H', rt := Q } [some (.ref w.p), some v, none, none, none, none] H := by
  obtain ⟨d, rfl⟩ : ∃ d, ds = [d] := by
    cases r with | cons a b => cases b; exact ⟨_, rfl⟩
  obtain ⟨v', e, r0⟩ := rp1 r
  cases e
  unfold moveSem at hs
  dsimp only at hs
  refine ⟨v, rfl, rfl, M0, [d], hM, r, ?_⟩
  rw [hCT]
  cases hd : isT d with
  | none =>
    rw [hd] at hs
    exact fun H' sm => hs.2.2.2 H' (hW.up sm) (Kept2.of sm)
  | some t =>
    rw [hd] at hs
    dsimp only at hs
    rw [if_pos (show (some t).isSome = true from rfl)]
    intro u H1 sm _
    obtain ⟨rfl, t0, t1⟩ := isT_is hd
    have ev : v = .int t := by cases r0; rfl
    subst ev
    have W1 := hW.up sm
    obtain ⟨vs, h1, h2⟩ := W1.ln
    have lv : vs.length = w.line.length := by rw [h2.len]; simp
    refine ⟨_, rfl, _, rfl, w.p, C, w.dx, _, _, rfl, W1.ob, c, nT, wfs_th _ _, ⟨t, w.th, rfl, ?_⟩⟩
    refine ⟨_, rfl, _, rfl, w.p, C, w.dx, _, _, rfl, W1.ob, c, nT, wfs_th _ _, ⟨t, w.th, rfl, ?_⟩⟩
    refine ⟨(by show 2 ≤ sizeLine; rw [sizeLine_eq]; decide), fun q hq => ?_⟩
    refine ⟨q, _, rfl, SqT.of upd_same, rfl, _, _, rfl, _, _, rfl, rfl, ?_⟩
    have smq : Same H1 (upd H1 q (.tup [.int (if w.th < t then w.th else t), .int (if w.th > t then w.th else t)])) := Same.new hq
    refine ⟨_, rfl, _, rfl, w.p, C, w.dx, _, rfl, smq _ _ W1.ob, c, nT, wfs_len _ _, ?_⟩
    have npl := W1.ne
    have g1 := smq _ _ h1
    have W2 := W1.up smq
    generalize upd H1 q (.tup [.int (if w.th < t then w.th else t), .int (if w.th > t then w.th else t)]) = H2 at smq g1 W2 ⊢
    have h2' := h2.up (Fz_same smq)
    have et : putF "threshold" (V.int t) (wfs w.l w.th) = wfs w.l t := wfs_put _ _ _
    have lfix : ∀ a xs, Fz M0 H2 a = some (.tup xs) → Fz M0 (upd H2 w.p (.ins C w.dx (putF "threshold" (V.int t) (wfs w.l w.th)))) a = some (.tup xs) := fun a xs q => by
      obtain ⟨q1, q2⟩ := Fz_some.mp q
      refine Fz_some.mpr ⟨q1, ?_⟩
      rw [upd_ne fun e => q1 (by rw [e]; exact W1.mp)]
      exact q2
    have W3 : Wt C M0 { w with th := t } (upd H2 w.p (.ins C w.dx (putF "threshold" (V.int t) (wfs w.l w.th)))) := by
      refine ⟨by rw [upd_same, et], ?_, ⟨vs, by show upd _ _ _ w.l = _; rw [upd_ne npl.symm]; exact g1, RpAll.flat lfix _ _ (flat_ths _) h2'⟩, W1.sm, W1.mp, W1.ml⟩
      have : w.dx ≠ w.p := ne_of W2.dc W2.ob (by intro z; cases z)
      show upd _ _ _ w.dx = _
      rw [upd_ne this]; exact W2.dc
    have K3 : Kept2 w.p w.l H (upd H2 w.p (.ins C w.dx (putF "threshold" (V.int t) (wfs w.l w.th)))) := fun b o n1 n2 z => by
      rw [upd_ne n1]; exact smq _ _ (sm _ _ z)
    generalize upd H2 w.p (.ins C w.dx (putF "threshold" (V.int t) (wfs w.l w.th))) = H3 at W3 K3
    obtain ⟨vs3, k1, k2⟩ := W3.ln
    have k1 : H3 w.l = some (.lst vs3) := k1
    have k2 : RpAll (Fz M0 H3) vs3 (w.line.map thD) := k2
    have lv3 : vs3.length = w.line.length := by rw [k2.len]; simp
    refine ⟨_, rfl, w.p, C, w.dx, _, _, rfl, W3.ob, c, nL, wfs_ln _ _, w.l, rfl, ⟨vs3, SqL.of k1⟩, fun D hD => ?_⟩
    have keep : ∀ (a : Addr) (o : HO) (ks : List V), H3 a = some o → upd H3 D (.lst ks) a = some o := fun a o ks q => by rw [upd_ne (ne_of_none q hD)]; exact q
    refine lc_list (xs := vs3) (fun i H' => H' = upd H3 D (.lst (List.replicate ((w.line.take i).filter (mvB t w.th)).length (.int 1)))) rfl ?_ ?_ ?_
    · rintro i H' _ rfl
      exact SqL.of (keep _ _ _ k1)
    · rintro i x H' hx rfl
      obtain ⟨y, a, hy, rfl, ha⟩ := line_item k2 hx
      have ha := (Fz_some.mp ha).2
      have nx : w.line.take (i + 1) = w.line.take i ++ [y] := by rw [List.take_succ, hy]; rfl
      refine ⟨a, _, rfl, SqT.of (keep _ _ _ ha), rfl, _, _, rfl, _, _, rfl, rfl, rfl, ?_⟩
      have le : (w.line.take i).length ≤ w.line.length := by simp; omega
      have lf : ((w.line.take i).filter (mvB t w.th)).length < sizeLine := by
        have a1 := List.length_filter_le (mvB t w.th) (w.line.take i)
        have a2 := W1.sm
        rw [sizeLine_eq]
        unfold lim at a2
        omega
      have mv : mvB t w.th y = (decide ((if w.th < t then w.th else t) ≤ y.1) && decide (y.1 < (if w.th > t then w.th else t))) := rfl
      refine ⟨_, rfl, _, rfl, ⟨_, _, rfl, rfl, ⟨_, rfl, ?_⟩⟩⟩
      by_cases c1 : (if w.th < t then w.th else t) ≤ y.1
      · refine (if_pos (decide_eq_true c1)).mpr ?_
        refine ⟨_, rfl, ⟨_, _, rfl, rfl, ⟨_, rfl, ?_⟩⟩⟩
        by_cases c2 : y.1 < (if w.th > t then w.th else t)
        · refine (if_pos (decide_eq_true c2)).mpr ?_
          refine ⟨_, upd_same, by rw [List.length_replicate]; exact lf, ?_⟩
          rw [upd_upd, nx, List.filter_append, List.filter_cons, List.filter_nil, mv, decide_eq_true c1, decide_eq_true c2]
          simp [List.replicate_succ']
        · refine (if_neg (by simpa using c2)).mpr ?_
          rw [nx, List.filter_append, List.filter_cons, List.filter_nil, mv, decide_eq_false c2]
          simp
      · refine (if_neg (by simpa using c1)).mpr ?_
        refine ⟨false, rfl, ?_⟩
        refine (if_neg Bool.false_ne_true).mpr ?_
        rw [nx, List.filter_append, List.filter_cons, List.filter_nil, mv, decide_eq_false c1]
        simp
    · rintro H' rfl
      rw [lv3, List.take_length]
      refine ⟨_, (w.line.filter (mvB t w.th)).length, rfl, .inl ⟨_, SqL.of upd_same, by simp⟩, ?_⟩
      have sm4 : Same H3 (upd H3 D (.lst (List.replicate (w.line.filter (mvB t w.th)).length (.int 1)))) := fun b o z => keep b o _ z
      exact hs.2.2.2 _ _ (W3.up sm4) (fun b o n1 n2 z => keep b o _ (K3 b o n1 n2 z)) (.int _)
end DL

namespace DL
open PySem PySem.Spec PyProof.Rows L2
/-! ### a world with a Watch -/
section
variable {S : Type}
def Wd.slice (W : Wd (S × WSt)) (w : WSt) : Wd S where
  hid := W.hid
  low := W.low
  at_ := fun s H => W.at_ (s, w) H
  ext := fun s H H' => W.ext (s, w) H H'
  mutn := fun s H p o o' => W.mutn (s, w) H p o o'
  hidIn := fun s H p => W.hidIn (s, w) H p
  lowIn := fun s H p => W.lowIn (s, w) H p
def sameW (w' w : WSt) : Prop := w'.p = w.p ∧ w'.dx = w.dx ∧ w'.l = w.l
instance (w' w : WSt) : Decidable (sameW w' w) := inferInstanceAs (Decidable (_ ∧ _ ∧ _))
theorem Wt.weak {C : Addr} {M M' : Addr → Prop} {w : WSt} {H : Hp} (h : Wt C M' w H) (k : ∀ a, M a → M' a) (hp : M w.p) (hl : M w.l) : Wt C M w H := by
  obtain ⟨vs, h1, h2⟩ := h.ln
  exact ⟨h.ob, h.dc, ⟨vs, h1, h2.up (Fz_mono (fun a _ q => k a q) fun _ _ _ q => q)⟩, h.sm, hp, hl⟩
theorem Wt.strong {C : Addr} {M M' : Addr → Prop} {w : WSt} {H : Hp} (h : Wt C M w H) (k : ∀ a, M a → M' a) (nt : ∀ a xs, M' a → ¬ M a → H a ≠ some (.tup xs)) : Wt C M' w H := by
  obtain ⟨vs, h1, h2⟩ := h.ln
  refine ⟨h.ob, h.dc, ⟨vs, h1, RpAll.flat (fun a xs q => ?_) _ _ (flat_ths _) h2⟩, h.sm, k _ h.mp, k _ h.ml⟩
  obtain ⟨q1, q2⟩ := Fz_some.mp q
  exact Fz_some.mpr ⟨fun m => nt a xs m q1 q2, q2⟩
def wLift (C : Addr) (𝒲 : Fam S) : Fam (S × WSt) where
  ok := fun W => (∀ w, 𝒲.ok (W.slice w)) ∧ (∀ s w H, W.at_ (s, w) H → Wt C W.hid w H) ∧ ∀ s w w' H H', W.at_ (s, w) H → sameW w' w → Wt C W.hid w' H' → Kept2 w.p w.l H H' → W.at_ (s, w') H'
  hide := fun W q xs h n nl => by
    refine ⟨fun w => 𝒲.hide (W.slice w) q xs (h.1 w) n nl, fun s w H a => ?_, fun s w w' H H' a e t k => ?_⟩
    · refine (h.2.1 s w H a.1).strong (fun _ z => .inl z) fun b ys m nm z => ?_
      rcases m with m | m
      · exact nm m
      · rw [m, a.2] at z; cases z
    · have t0 := h.2.1 s w H a.1
      have np : q ≠ w.p := fun z => n (by rw [z]; exact t0.mp)
      have nl' : q ≠ w.l := fun z => n (by rw [z]; exact t0.ml)
      exact ⟨h.2.2 s w w' H H' a.1 e (t.weak (fun _ z => .inl z) (by rw [e.1]; exact t0.mp) (by rw [e.2.2]; exact t0.ml)) k, k q _ np nl' a.2⟩
variable {W : Wd (S × WSt)} {ρ : Env} {σ : L2.St} {s : S} {w : WSt} {H : Hp}
theorem EnvOk.slice (E : EnvOk W ρ σ (s, w) H) : EnvOk (W.slice w) ρ σ s H := ⟨E.len, E.at_, E.dat, E.raw, E.mutl, E.sep⟩
theorem EnvOk.unslice (E : EnvOk (W.slice w) ρ σ s H) : EnvOk W ρ σ (s, w) H := ⟨E.len, E.at_, E.dat, E.raw, E.mutl, E.sep⟩
/-- an expression of the other state -/
def liftW (f : FE S) : FE (S × WSt) := fun ρ s => match f ρ s.1 with
  | .ok d s' => .ok d (s', s.2)
  | .er c s' => .er c (s', s.2)
  | .bad => .bad
theorem dx_liftW {X : Cx} {𝒲 : Fam S} {Wx : Wsh} {e : Expr} {t : TE} {f : FE S} {C : Addr} (h : DX X 𝒲 Wx e t f) : DX X (wLift C 𝒲) Wx e t (liftW f) := by
  refine ⟨h.pe, fun W hW ρ σ s H Q E hp => ?_⟩
  obtain ⟨s, w⟩ := s
  refine h.de (W.slice w) (hW.1 w) ρ σ s H Q E.slice ?_
  unfold liftW at hp
  dsimp only at hp
  cases hf : f ρ s with
  | ok d s' => rw [hf] at hp; exact hp
  | er c s' => rw [hf] at hp; exact hp
  | bad => rw [hf] at hp; exact hp
end
/-! ### calls -/
def resW {S : Type} (r : Res WSt D) (s : S × WSt) : Res (S × WSt) Dv := match r with
  | .ok d w' => if sameW w' s.2 then .ok (.d d) (s.1, w') else .bad
  | .er c w' => if sameW w' s.2 then .er c (s.1, w') else .bad
  | .bad => .bad
def eFnW {S : Type} (n : Nat) (sem : List D → WSt → Res WSt D) (g : FA (S × WSt)) : FE (S × WSt) := fun ρ s => (g ρ s).bnd fun xs s => match xs with
  | .v (.ref p) :: r => (match datas r with
    | some ds => if p = s.2.p ∧ ds.length + 1 = n then resW (sem ds s.2) s else .bad
    | none => .bad)
  | _ => .bad
def eMethW {S : Type} (n : Nat) (sem : List D → WSt → Res WSt D) (fo : FE (S × WSt)) (g : FA (S × WSt)) : FE (S × WSt) := fun ρ s => (fo ρ s).bnd fun o s => match o with
  | .v (.ref p) => if p = s.2.p then (g ρ s).bnd fun xs s => (match datas xs with
    | some ds => if p = s.2.p ∧ ds.length + 1 = n then resW (sem ds s.2) s else .bad
    | none => .bad) else .bad
  | _ => .bad
section
variable {S : Type} {X : Cx} {𝒲 : Fam S} {Wx : Wsh} {C : Addr} {cl : Nat → Addr} {W : Wd (S × WSt)} {ρ : Env} {σ : L2.St} {s : S} {w : WSt} {H : Hp} {Q : VK}
/-- at the call -/
theorem spM_at {n : Nat} {sem : List D → WSt → Res WSt D} {ws : List V} {ds : List D} (hW : (wLift C 𝒲).ok W) (E : EnvOk W ρ σ (s, w) H) (r : RpAll (Frz W ρ σ H) ws ds) (hn : ds.length + 1 = n)
    (q : Post W Wx σ H (resW (sem ds w) (s, w)) (fun d _ H' => ∀ v, Is (Frz W ρ σ H') v d → Q v H')) : spM C cl n sem (.ref w.p :: ws) H Q (WE (WR cl Wx) σ) := by
  have t0 := hW.2.1 s w H E.at_
  have tM : Wt C (fun a => W.hid a ∨ Own ρ σ a) w H := t0.strong (fun _ z => .inl z) fun a xs m nm z => by
    rcases m with m | m
    · exact nm m
    · obtain ⟨vs, e, _⟩ := E.ownIn m
      rw [e] at z; cases z
  refine ⟨by rw [List.length_cons, r.len]; exact hn, _, w, ws, ds, rfl, E.inH, tM, r, ?_⟩
  have st : ∀ H', Kept2 w.p w.l H H' → Stp W H H' := fun H' k c o nh q => k c o (fun z => nh (by rw [z]; exact t0.mp)) (fun z => nh (by rw [z]; exact t0.ml)) q
  have wk : ∀ w' H', sameW w' w → Wt C (fun a => W.hid a ∨ Own ρ σ a) w' H' → Wt C W.hid w' H' := fun w' H' e t => t.weak (fun _ z => .inl z) (by rw [e.1]; exact t0.mp) (by rw [e.2.2]; exact t0.ml)
  unfold resW at q
  cases hs : sem ds w with
  | ok d w' =>
    rw [hs] at q
    dsimp only at q ⊢
    by_cases e : sameW w' w
    · rw [if_pos e] at q
      exact ⟨e.1, e.2.1, e.2.2, fun v H' t k rv => q H' (hW.2.2 s w w' H H' E.at_ e (wk w' H' e t) k) (st H' k) v rv⟩
    · rw [if_neg e] at q; exact q.elim
  | er c w' =>
    rw [hs] at q
    dsimp only at q ⊢
    by_cases e : sameW w' w
    · rw [if_pos e] at q
      exact ⟨e.1, e.2.1, e.2.2, fun H' t k => ⟨c, rfl, rfl, q H' (hW.2.2 s w w' H H' E.at_ e (wk w' H' e t) k) (st H' k)⟩⟩
    · rw [if_neg e] at q; exact q.elim
  | bad => rw [hs] at q; exact q.elim
variable {k n : Nat} {f : Addr} {fd : FuncData} {ps : List Str} {sem : List D → WSt → Res WSt D} {x m : Str} {p pos apos : Pos} {o e : Expr} {es : List Expr} {to : TE} {t : TA} {fo : FE (S × WSt)} {g : FA (S × WSt)}
theorem dx_fnW (Fo : FnOk X.prog X.w X.K X.mg X.base (L2.CX X.prog X.w) k f fd ps (spM C cl n sem)) (hr : Room k X.A) (hm : X.mg x = some (.ref f)) (hk : PySem.W.keepIn X.K (.ref f) = true) (hb : Binds X.K fd ps [])
    (tk : Takes X (WR cl Wx)) (ha : DXA X (wLift C 𝒲) Wx (e :: es) t g) (hg : Gl X x := by rfl) (hdb : (x == ("__debug__" : Str)) = false := by decide) (he : starEach (e :: es) X.env = (false, eval e X.env) :: starEach es X.env := by rfl) (hpl : (backTo pos (starEach es X.env)).any (·.1) = false := by rfl) :
    DX X (wLift C 𝒲) Wx (.Call (.Name x p) (e :: es) [] pos) (tCallS (spM C cl n sem) (WE (WR cl Wx)) t) (eFnW n sem g) := by
  refine ⟨pe_callS Fo hr hg hm hk hb (fun σ => passAt tk σ) ha.pa hdb he hpl, fun W hW ρ σ s H Q E h => ?_⟩
  refine ha.da W hW ρ σ s H _ E (h.bnd.imp fun xs s1 H1 a1 e1 q v hv => ?_)
  have E1 := E.step a1 e1
  obtain ⟨s1, w1⟩ := s1
  split at q
  · rename_i p' r
    cases hv with
    | cons h0 hr' =>
      cases (show _ = V.ref p' from h0)
      cases hd : datas r with
      | none => rw [hd] at q; exact q.elim
      | some ds =>
        rw [hd] at q
        dsimp only at q
        split at q
        · rename_i hn
          obtain ⟨rfl, hn⟩ := hn
          exact spM_at hW E1 (datas_rp hr' hd) hn q
        · exact q.elim
  · exact q.elim
/-- o.m(e, ..), o.m() that may raise -/
def tMethX (C : Addr) (m : Str) (sp : Sp) (E : L2.St → XK) (ta : TE) (t : TA) : TE := fun σ H Q => ta σ H fun x H1 => ∃ a dx fs, x = .ref a ∧ H1 a = some (.ins C dx fs) ∧ fs.lookup m = none ∧ t σ H1 fun vs H2 => sp (x :: vs) H2 Q (E σ)
theorem pe_methX {pl : Sem Bool} {sp : Sp} {E : L2.St → XK} (he : PE X o to) (c : Cls X.K C) (hm : Meth X.K C m f) (F : FnOk X.prog X.w X.K X.mg X.base (L2.CX X.prog X.w) k f fd ps sp) (hr : Room k X.A) (hb : Binds X.K fd ps []) (hx : ∀ σ, PassesAt (L2.CX X.prog X.w) X σ (E σ)) (ha : PA X (e :: es) t)
    (hst : starEach (e :: es) X.env = (false, eval e X.env) :: starEach es X.env := by rfl) (hpl : (backTo pos (starEach es X.env)).any (·.1) = false := by rfl)
    (ht : eval (.Call (.Attribute o m apos) (e :: es) [] pos) X.env = (do
      let ov ← eval o X.env
      standAt apos.atName
      let (f, first) ← holding [ov] (getMethod ov m pl)
      callWith pos f first (backTo pos (starEach (e :: es) X.env)) (backToKw pos (keywordEach [] X.env))) := by rfl) :
    PE X (.Call (.Attribute o m apos) (e :: es) [] pos) (tMethX C m sp E to t) := by
  refine ⟨fun pins s σ H Q I h => ?_⟩
  refine PySem.W.methodCall_KW (pl := pl) (thn (he.run pins s σ H _ I h) fun u s1 ⟨x, H1, I1, rx, a, dx, fs, ex, ea, l, q⟩ => ?_) ht
  subst ex
  obtain rfl : u = Value.ref a := rx
  refine getmeth_ok I1 ea c hm l ?_
  refine PySem.W.callWith_K (first := [.ref a]) (h₀ := X.base) I.ok.mod.kin hm.kp (thn (ha.run pos pins s1 σ H1 _ I1 q) fun us s2 ⟨vs, H2, I2, r, q2⟩ => ⟨I2.kIn, ?_⟩) hst hpl
  exact run_fnS (us := .ref a :: us) (vs := .ref a :: vs) (E := E) F hr hb (hx σ) I2 (.cons rfl r) q2
theorem pe_methX0 {pl : Sem Bool} {sp : Sp} {E : L2.St → XK} (he : PE X o to) (c : Cls X.K C) (hm : Meth X.K C m f) (F : FnOk X.prog X.w X.K X.mg X.base (L2.CX X.prog X.w) k f fd ps sp) (hr : Room k X.A) (hb : Binds X.K fd ps []) (hx : ∀ σ, PassesAt (L2.CX X.prog X.w) X σ (E σ))
    (ht : eval (.Call (.Attribute o m apos) [] [] pos) X.env = (do
      let ov ← eval o X.env
      standAt apos.atName
      let (f, first) ← holding [ov] (getMethod ov m pl)
      callWith pos f first (backTo pos (starEach [] X.env)) (backToKw pos (keywordEach [] X.env))) := by rfl) :
    PE X (.Call (.Attribute o m apos) [] [] pos) (tMethX C m sp E to tNil) := by
  refine ⟨fun pins s σ H Q I h => ?_⟩
  refine PySem.W.methodCall_KW (pl := pl) (thn (he.run pins s σ H _ I h) fun u s1 ⟨x, H1, I1, rx, a, dx, fs, ex, ea, l, q⟩ => ?_) ht
  subst ex
  obtain rfl : u = Value.ref a := rx
  refine getmeth_ok I1 ea c hm l ?_
  exact PySem.W.callWith_K0 (first := [.ref a]) I1.kIn hm.kp (run_fnS (us := [.ref a]) (vs := [.ref a]) (E := E) F hr hb (hx σ) I1 (.cons rfl .nil) q)
theorem deMeth {ta : TE} {t : TA} {fo : FE (S × WSt)} {g : FA (S × WSt)} (ho : DE (wLift C 𝒲) Wx ta fo) (ha : DA (wLift C 𝒲) Wx t g) (n1 : ¬ m = "line") (n2 : ¬ m = "threshold") : DE (wLift C 𝒲) Wx (tMethX C m (spM C cl n sem) (WE (WR cl Wx)) ta t) (eMethW n sem fo g) := by
  intro W hW ρ σ s H Q E h
  refine ho W hW ρ σ s H _ E (h.bnd.imp fun x s1 H1 a1 e1 q v hv => ?_)
  have E1 := E.step a1 e1
  obtain ⟨s1, w1⟩ := s1
  split at q
  · rename_i p'
    cases (show _ = V.ref p' from hv)
    by_cases hp : p' = (s1, w1).2.p
    · rw [if_pos hp] at q
      have hp : p' = w1.p := hp
      subst hp
      have t1 := hW.2.1 s1 w1 H1 E1.at_
      refine ⟨w1.p, w1.dx, _, rfl, t1.ob, wfs_no _ _ n1 n2, ?_⟩
      refine ha W hW ρ σ (s1, w1) H1 _ E1 (q.bnd.imp fun xs s2 H2 a2 e2 q2 us hu => ?_)
      have E2 := E1.step a2 e2
      obtain ⟨s2, w2⟩ := s2
      cases hd : datas xs with
      | none => rw [hd] at q2; exact q2.elim
      | some ds =>
        rw [hd] at q2
        dsimp only at q2
        split at q2
        · rename_i hn
          obtain ⟨hpe, hn⟩ := hn
          rw [hpe]
          exact spM_at hW E2 (datas_rp hu hd) hn q2
        · exact q2.elim
    · rw [if_neg hp] at q; exact q.elim
  · exact q.elim
theorem dx_meth {pl : Sem Bool} (hm : Meth X.K C m f) (Fo : FnOk X.prog X.w X.K X.mg X.base (L2.CX X.prog X.w) k f fd ps (spM C cl n sem)) (c : Cls X.K C) (hr : Room k X.A) (hb : Binds X.K fd ps []) (tk : Takes X (WR cl Wx)) (n1 : ¬ m = "line") (n2 : ¬ m = "threshold")
    (ho : DX X (wLift C 𝒲) Wx o to fo) (ha : DXA X (wLift C 𝒲) Wx (e :: es) t g)
    (hst : starEach (e :: es) X.env = (false, eval e X.env) :: starEach es X.env := by rfl) (hpl : (backTo pos (starEach es X.env)).any (·.1) = false := by rfl)
    (ht : eval (.Call (.Attribute o m apos) (e :: es) [] pos) X.env = (do
      let ov ← eval o X.env
      standAt apos.atName
      let (f, first) ← holding [ov] (getMethod ov m pl)
      callWith pos f first (backTo pos (starEach (e :: es) X.env)) (backToKw pos (keywordEach [] X.env))) := by rfl) :
    DX X (wLift C 𝒲) Wx (.Call (.Attribute o m apos) (e :: es) [] pos) (tMethX C m (spM C cl n sem) (WE (WR cl Wx)) to t) (eMethW n sem fo g) :=
  ⟨pe_methX ho.pe c hm Fo hr hb (fun σ => passAt tk σ) ha.pa hst hpl ht, deMeth ho.de ha.da n1 n2⟩
theorem dx_meth0 {pl : Sem Bool} (hm : Meth X.K C m f) (Fo : FnOk X.prog X.w X.K X.mg X.base (L2.CX X.prog X.w) k f fd ps (spM C cl n sem)) (c : Cls X.K C) (hr : Room k X.A) (hb : Binds X.K fd ps []) (tk : Takes X (WR cl Wx)) (n1 : ¬ m = "line") (n2 : ¬ m = "threshold")
    (ho : DX X (wLift C 𝒲) Wx o to fo)
    (ht : eval (.Call (.Attribute o m apos) [] [] pos) X.env = (do
      let ov ← eval o X.env
      standAt apos.atName
      let (f, first) ← holding [ov] (getMethod ov m pl)
      callWith pos f first (backTo pos (starEach [] X.env)) (backToKw pos (keywordEach [] X.env))) := by rfl) :
    DX X (wLift C 𝒲) Wx (.Call (.Attribute o m apos) [] [] pos) (tMethX C m (spM C cl n sem) (WE (WR cl Wx)) to tNil) (eMethW n sem fo aNil) :=
  ⟨pe_methX0 ho.pe c hm Fo hr hb (fun σ => passAt tk σ) ht, deMeth ho.de (fun W hW ρ σ s H Q E h => h.ok E.at_ [] .nil) n1 n2⟩
/-- len(o) by its own __len__ -/
def eLenW {S : Type} (fo : FE (S × WSt)) : FE (S × WSt) := fun ρ s => (fo ρ s).bnd fun o s => match o with
  | .v (.ref p) => if p = s.2.p then .ok (.d (.int (s.2.line.length : Nat))) s else .bad
  | _ => .bad
def rLenW (C : Addr) (sp : Sp) : List V → Hp → VK → Prop := fun xs H Q => ∃ a dx fs, xs = [.ref a] ∧ H a = some (.ins C dx fs) ∧ sp [.ref a] H (fun v H' => ∃ n : Nat, v = .int n ∧ (n : Int) < 2 ^ 63 ∧ Q (.int n) H') (fun _ _ _ => False)
theorem dx_lenW {px : Pos} (hl : PySem.W.findIn X.K (.ref C) "__len__" = some (some (.ref f))) (hf : PySem.W.isFn X.K (.ref f) = true) (Fo : FnOk X.prog X.w X.K X.mg X.base (L2.CX X.prog X.w) k f fd ps (spM C cl 1 lenSem)) (hr : Room (k + 1) X.A) (hb : Binds X.K fd ps []) (hm : X.mg "len" = none)
    (ho : DX X (wLift C 𝒲) Wx o to fo) (hg : Gl X "len" := by rfl) (he : starEach [o] X.env = (false, eval o X.env) :: starEach [] X.env := by rfl) (hpl : (backTo pos (starEach [] X.env)).any (·.1) = false := by rfl) :
    DX X (wLift C 𝒲) Wx (.Call (.Name "len" px) [o] [] pos) (tCB (rLenW C (spM C cl 1 lenSem)) (tCons to tNil)) (eLenW fo) := by
  refine ⟨pe_callB (call_len_own hl hf Fo hr hb) hg hm PySem.boot_len (pa_cons ho.pe pa_nil he) (by decide) (by decide) he hpl, fun W hW ρ σ s H Q E h => ?_⟩
  refine ho.de W hW ρ σ s H _ E (h.bnd.imp fun x s1 H1 a1 e1 q v hv => ?_)
  have E1 := E.step a1 e1
  obtain ⟨s1, w1⟩ := s1
  split at q
  · rename_i p'
    cases (show _ = V.ref p' from hv)
    by_cases hp : p' = (s1, w1).2.p
    · rw [if_pos hp] at q
      have hp : p' = w1.p := hp
      subst hp
      have t1 := hW.2.1 s1 w1 H1 E1.at_
      refine ⟨w1.p, w1.dx, _, rfl, t1.ob, rfl, W.hid, w1, [], [], rfl, fun a m => W.hidIn _ _ _ E1.at_ m, t1, .nil, rfl, rfl, rfl, fun v H' t k rv => ?_⟩
      cases rv
      have st : Stp W H1 H' := fun c o nh q => k c o (fun z => nh (by rw [z]; exact t1.mp)) (fun z => nh (by rw [z]; exact t1.ml)) q
      refine ⟨w1.line.length, rfl, ?_, q H' (hW.2.2 s1 w1 w1 H1 H' E1.at_ ⟨rfl, rfl, rfl⟩ t k) st _ (Rp.int _)⟩
      have := t1.sm
      unfold lim at this
      omega
    · rw [if_neg hp] at q; exact q.elim
  · exact q.elim
end
end DL

namespace DL
open PySem PySem.Spec PyProof.Rows L2
/-! ### blocks that return True -/
abbrev FG (S : Type) := Env → S → Prop
structure DXQ {S : Type} (X : Cx) (𝒲 : Fam S) (st : List Stmt) (t : TS) (G : FG S) : Prop where
  ps : PSs X st t
  good : ∀ W, 𝒲.ok W → ∀ ρ σ s H (D : Ends), EnvOk W ρ σ s H → G ρ s → (∀ s' H', W.at_ s' H' → D.rt (.bl true) H') → t D σ H
def gEnd {S : Type} (F : FS S) : FG S := fun ρ s => ∃ s', F ρ s = .rt (.d (.bool true)) s'
def gSeq {S : Type} (F : FS S) (G : FG S) : FG S := fun ρ s => ∃ ρ1 s1, F ρ s = .nx ρ1 s1 ∧ G ρ1 s1
section
variable {S : Type} {X : Cx} {𝒲 : Fam S} {st : Stmt} {sts rest : List Stmt} {t u : TS} {F : FS S} {G : FG S}
theorem dqs_end (h : DXSs X 𝒲 NoW sts t F) : DXQ X 𝒲 sts t (gEnd F) := by
  refine ⟨h.ps, fun W hW ρ σ s H D E ⟨s', e⟩ hk => h.ds W hW ρ σ s H D E ?_⟩
  rw [e]
  intro v H' a hv
  cases (show Rp _ v (.bool true) from hv)
  exact hk _ H' a
theorem dqs_cons (a : DXS X 𝒲 NoW st t F) (b : DXQ X 𝒲 rest u G) : DXQ X 𝒲 (st :: rest) (tSeq t u) (gSeq F G) := by
  refine ⟨pss_cons a.ps b.ps, fun W hW ρ σ s H D E ⟨ρ1, s1, e, g⟩ hk => ?_⟩
  refine a.ds W hW ρ σ s H { D with nx := u D } E ?_
  rw [e]
  exact fun σ' H' E' _ => b.good W hW ρ1 σ' s1 H' D E' g hk
end
/-! ### a Watch is made -/
section
variable {S : Type}
def Wd.more (W : Wd S) (C : Addr) (w0 : WSt) : Wd (S × WSt) where
  hid := fun a => W.hid a ∨ a = w0.p ∨ a = w0.l ∨ a = w0.dx
  low := W.low
  at_ := fun s H => sameW s.2 w0 ∧ Wt C (fun a => W.hid a ∨ a = w0.p ∨ a = w0.l ∨ a = w0.dx) s.2 H ∧ W.at_ s.1 H
  ext := fun s H H' h e => ⟨h.1, h.2.1.up e, W.ext _ _ _ h.2.2 e⟩
  mutn := fun s H q o o' h hq nt nh nl => by
    obtain ⟨e, t, a⟩ := h
    have np : s.2.p ≠ q := fun z => nh (.inr (.inl (by rw [← z, e.1])))
    have nl' : s.2.l ≠ q := fun z => nh (.inr (.inr (.inl (by rw [← z, e.2.2]))))
    have nd : s.2.dx ≠ q := fun z => nh (.inr (.inr (.inr (by rw [← z, e.2.1]))))
    obtain ⟨vs, h1, h2⟩ := t.ln
    refine ⟨e, ⟨by rw [upd_ne np]; exact t.ob, by rw [upd_ne nd]; exact t.dc, ⟨vs, by rw [upd_ne nl']; exact h1, RpAll.flat (fun b xs z => ?_) _ _ (flat_ths _) h2⟩, t.sm, t.mp, t.ml⟩, W.mutn _ _ _ _ _ a hq nt (fun z => nh (.inl z)) nl⟩
    obtain ⟨z1, z2⟩ := Fz_some.mp z
    refine Fz_some.mpr ⟨z1, ?_⟩
    rw [upd_ne fun e => nt xs (by rw [e, hq] at z2; exact Option.some.inj z2)]
    exact z2
  hidIn := fun s H q h m => by
    obtain ⟨e, t, a⟩ := h
    rcases m with m | m | m | m
    · exact W.hidIn _ _ _ a m
    · rw [m, ← e.1, t.ob]; simp
    · obtain ⟨vs, h1, _⟩ := t.ln
      rw [m, ← e.2.2, h1]; simp
    · rw [m, ← e.2.1, t.dc]; simp
  lowIn := fun s H q h m => W.lowIn _ _ _ h.2.2 m
/-- the family allows a Watch beside -/
def Holds (C : Addr) (𝒲 : Fam S) : Prop := ∀ (W : Wd S) (w0 w : WSt), 𝒲.ok W → ¬ W.hid w0.p → ¬ W.hid w0.l → ¬ W.hid w0.dx → 𝒲.ok ((W.more C w0).slice w)
theorem holds_all (C : Addr) : Holds C allF := fun _ _ _ _ _ _ _ => trivial
theorem holds_draw (C : Addr) : Holds C drawFam := fun W w0 w h n1 n2 n3 => by
  refine ⟨fun s H a => ?_, fun s s' H H' a e1 e2 d k => ?_⟩
  · have q := h.1 s H a.2.2
    exact ⟨.inl q.1, .inl q.2.1, q.2.2⟩
  · obtain ⟨e, t, a⟩ := a
    have q := h.1 s H a
    have kp : ∀ b, ¬ W.hid b → b ≠ s.a ∧ b ≠ s.b := fun b nb => ⟨fun z => nb (by rw [z]; exact q.1), fun z => nb (by rw [z]; exact q.2.1)⟩
    obtain ⟨vs, h1, h2⟩ := t.ln
    have e : sameW w w0 := e
    have p1 := kp _ n1
    have p2 := kp _ n2
    have p3 := kp _ n3
    rw [← e.1] at p1
    rw [← e.2.2] at p2
    rw [← e.2.1] at p3
    refine ⟨e, ⟨k _ _ p1.1 p1.2 t.ob, k _ _ p3.1 p3.2 t.dc, ⟨vs, k _ _ p2.1 p2.2 h1, RpAll.flat (fun b xs z => ?_) _ _ (flat_ths _) h2⟩, t.sm, t.mp, t.ml⟩, h.2 s s' H H' a e1 e2 d k⟩
    obtain ⟨z1, z2⟩ := Fz_some.mp z
    have nb := kp b fun m => z1 (.inl m)
    exact Fz_some.mpr ⟨z1, k _ _ nb.1 nb.2 z2⟩
theorem more_ok {C : Addr} {𝒲 : Fam S} {W : Wd S} {w0 : WSt} (hh : Holds C 𝒲) (hW : 𝒲.ok W) (n1 : ¬ W.hid w0.p) (n2 : ¬ W.hid w0.l) (n3 : ¬ W.hid w0.dx) (l1 : ¬ W.low w0.p) (l2 : ¬ W.low w0.l) : (wLift C 𝒲).ok (W.more C w0) := by
  refine ⟨fun w => hh W w0 w hW n1 n2 n3, fun s w H a => a.2.1, fun s w w' H H' a e t k => ?_⟩
  obtain ⟨e0, t0, a⟩ := a
  have e0 : sameW w w0 := e0
  refine ⟨⟨e.1.trans e0.1, e.2.1.trans e0.2.1, e.2.2.trans e0.2.2⟩, t, ?_⟩
  obtain ⟨vs, h1, _⟩ := t0.ln
  obtain ⟨vs', h1', _⟩ := t.ln
  have ne := t0.ne
  have q1 : ¬ W.hid w.p := by rw [e0.1]; exact n1
  have q2 : ¬ W.hid w.l := by rw [e0.2.2]; exact n2
  have a1 := W.mutn s H w.p _ (.ins C w'.dx (wfs w'.l w'.th)) a t0.ob (fun _ z => nomatch z) q1 (by rw [e0.1]; exact l1)
  have a2 := W.mutn s _ w.l (.lst vs) (.lst vs') a1 (by rw [upd_ne ne.symm]; exact h1) (fun _ z => nomatch z) q2 (by rw [e0.2.2]; exact l2)
  refine W.ext _ _ _ a2 fun b o z => ?_
  by_cases b1 : b = w.l
  · rw [b1, upd_same] at z
    rw [b1, ← e.2.2, h1']; exact z
  · rw [upd_ne b1] at z
    by_cases b2 : b = w.p
    · rw [b2, upd_same] at z
      rw [b2, ← e.1, t.ob]; exact z
    · rw [upd_ne b2] at z
      exact k b o b2 b1 z
/-- what follows the making -/
def gWat (fe : FE S) (G : Addr → FG (S × WSt)) : FG S := fun ρ s => ∃ d s1 t, fe ρ s = .ok (.d d) s1 ∧ isT d = some t ∧ ∀ p dx l, G p ρ (s1, ⟨p, dx, l, t, []⟩)
variable {X : Cx} {𝒲 : Fam S} {C : Addr} {cl : Nat → Addr} {W : Wd S} {ρ : Env} {σ : L2.St} {s : S} {H : Hp}
theorem make_t {te : TE} {fe : FE S} (h : DE 𝒲 NoW te fe) (hh : Holds C 𝒲) (hW : 𝒲.ok W) (E : EnvOk W ρ σ s H) {G : Addr → FG (S × WSt)} (g : gWat fe G ρ s) {Q : VK}
    (k : ∀ (W' : Wd (S × WSt)) (w : WSt) (s1 : S) (H2 : Hp), (wLift C 𝒲).ok W' → (∀ s' H', W'.at_ s' H' → W.at_ s'.1 H') → EnvOk W' ρ σ (s1, w) H2 → G w.p ρ (s1, w) → Q (.ref w.p) H2) : tMake C (spInit C cl) [] (fun _ _ _ => False) (tCons te tNil) σ H Q := by
  obtain ⟨d, s1, t, e, ht, hG⟩ := g
  refine h W hW ρ σ s H _ E ?_
  rw [e]
  intro H1 a1 st v hv
  have E1 := E.step a1 st
  intro x dx hx hdx ne
  have hv : Rp (Frz W ρ σ H1) v d := hv
  have sm0 : Same H1 (upd (upd H1 dx (.own x)) x (.ins C dx [])) := fun b o z => by
    rw [upd_ne (ne_of_none z hx), upd_ne (ne_of_none z hdx)]; exact z
  refine ⟨x, dx, v, fun a => W.hid a ∨ Own ρ σ a, d, rfl, upd_same, fun a m => ?_, hv.up (Fz_same sm0), ?_⟩
  · have := E1.inH a m
    cases z : H1 a with
    | none => exact absurd z this
    | some o => rw [sm0 _ _ z]; simp
  rw [ht]
  dsimp only
  intro l H2 hl hx2 hl2 kp
  refine ⟨rfl, ?_⟩
  have nlx : l ≠ x := fun z => by rw [z, upd_same] at hl; cases hl
  rw [upd_ne nlx] at hl
  have nld : l ≠ dx := fun z => by rw [z, upd_same] at hl; cases hl
  rw [upd_ne nld] at hl
  have sm : Same H1 H2 := fun b o z => kp b o (ne_of_none z hx) (sm0 b o z)
  have n1 := E1.new hx
  have n2 := E1.new hl
  have n3 := E1.new hdx
  have hW' : (wLift C 𝒲).ok (W.more C ⟨x, dx, l, t, []⟩) := more_ok hh hW n1.1 n2.1 n3.1 n1.2.1 n2.2.1
  have hd2 : H2 dx = some (.own x) := kp _ _ ne (by rw [upd_ne ne, upd_same])
  refine k (W.more C ⟨x, dx, l, t, []⟩) ⟨x, dx, l, t, []⟩ s1 H2 hW' (fun _ _ a => a.2.2) ?_ (hG x dx l)
  have at2 : (W.more C ⟨x, dx, l, t, []⟩).at_ (s1, ⟨x, dx, l, t, []⟩) H2 := ⟨⟨rfl, rfl, rfl⟩, ⟨hx2, hd2, ⟨[], hl2, .nil⟩, Nat.zero_le _, .inr (.inl rfl), .inr (.inr (.inl rfl))⟩, W.ext _ _ _ E1.at_ sm⟩
  have fz : Same (Frz W ρ σ H1) (Frz (W.more C ⟨x, dx, l, t, []⟩) ρ σ H2) := Fz_mono (fun b hb q => by
    rcases q with (q | q | q | q) | q
    · exact .inl q
    · rw [show b = x from q] at hb; exact absurd hx hb
    · rw [show b = l from q] at hb; exact absurd hl hb
    · rw [show b = dx from q] at hb; exact absurd hdx hb
    · exact .inr q) fun b o _ z => sm b o z
  refine ⟨E1.len, at2, fun i z q => ?_, E1.raw, fun i xs q => ?_, E1.sep⟩
  · obtain ⟨u, e1, r⟩ := E1.dat i z q
    exact ⟨u, e1, r.up fz⟩
  · obtain ⟨b, us, e1, e2, e3, e4, e5, e6⟩ := E1.mutl i xs q
    refine ⟨b, us, e1, sm _ _ e2, e3, e4.up fz, fun z => ?_, e6⟩
    rcases z with z | z | z | z
    · exact e5 z
    · rw [show b = x from z, hx] at e2; cases e2
    · rw [show b = l from z, hl] at e2; cases e2
    · rw [show b = dx from z, hdx] at e2; cases e2
theorem pass_no : Passes (L2.CX X.prog X.w) X (fun _ _ _ => False) := fun _ _ _ _ _ _ _ c => by
  obtain ⟨_, _, _, _, _, _, _, _, _, _, _, _, z⟩ := c
  exact z.elim
variable {k : Nat} {f : Addr} {fd : FuncData} {x y cn : Str} {p1 p2 p3 p4 p5 pos : Pos} {e e2 : Expr} {te te2 : TE} {fe : FE S} {fe2 : FE (S × WSt)} {rest : List Stmt} {u : TS} {G : FG (S × WSt)}
/-- x = Watch(e) -/
theorem dqs_watch (i : Nat) (M : Mk X.K C f) (F : FnOk X.prog X.w X.K X.mg X.base (L2.CX X.prog X.w) k f fd ["self", "threshold"] (spInit C cl)) (hh : Holds C 𝒲) (hr : Room (k + 1) X.A) (hm : X.mg cn = some (.ref C)) (hb : Binds X.K fd ["self", "threshold"] []) (nd : X.N.Nodup)
    (he : DX X 𝒲 NoW e te fe) (hr2 : DXQ X (wLift C 𝒲) rest u G) (hi : X.N[i]? = some x := by rfl) (hloc : Loc X.env.scope x := by first | exact .inl rfl | exact .inr rfl) (hf : X.fn x = true ∨ X.env.scope.names.lookup x = some .local := by first | exact .inl rfl | exact .inr rfl | assumption) (hg : Gl X cn := by rfl) (hdb : (cn == ("__debug__" : Str)) = false := by decide)
    (hse : starEach [e] X.env = (false, eval e X.env) :: starEach [] X.env := by rfl) (hpl : (backTo p3 (starEach [] X.env)).any (·.1) = false := by rfl) :
    DXQ X 𝒲 (.Assign [.Name x p1] (.Call (.Name cn p2) [e] [] p3) pos :: rest) (tSeq (tAsg (tMake C (spInit C cl) [] (fun _ _ _ => False) (tCons te tNil)) (gName i)) u) (gWat fe fun p ρ s => G (ρ.set i (.v (.ref p))) s) := by
  refine ⟨pss_cons (ps_set (i := i) nd hi hloc (pe_make M F hr hg hm hb .nil pass_no (pa_cons he.pe pa_nil hse) hdb hse hpl) (hf := hf)) hr2.ps, fun W hW ρ σ s H D E g hk => ?_⟩
  show tMake C (spInit C cl) [] (fun _ _ _ => False) (tCons te tNil) σ H fun v H1 => gName i v σ H1 (u D)
  refine make_t he.de hh hW E g fun W' w s1 H2 hW' back E' g' => ?_
  exact hr2.good W' hW' _ _ _ _ D (E'.setAny i (x := .v (.ref w.p)) (v := some (.ref w.p)) (fun _ z => nomatch z) (fun _ z => nomatch z) fun z q => by cases q; rfl) g' fun s' H' a => hk s'.1 H' (back s' H' a)
/-- x, y = Watch(e), e2 -/
def gPar (i j : Nat) (fe2 : FE (S × WSt)) (G : FG (S × WSt)) : Addr → FG (S × WSt) := fun p ρ s => ∃ d s', fe2 ρ s = .ok (.d d) s' ∧ G ((ρ.set i (.v (.ref p))).set j (.d d)) s'
theorem dqs_watchPar (i j : Nat) {kt k2 pt2} (hc : X.calm = true) (M : Mk X.K C f) (F : FnOk X.prog X.w X.K X.mg X.base (L2.CX X.prog X.w) k f fd ["self", "threshold"] (spInit C cl)) (hh : Holds C 𝒲) (hr : Room (k + 1) X.A) (hm : X.mg cn = some (.ref C)) (hb : Binds X.K fd ["self", "threshold"] []) (nd : X.N.Nodup)
    (he : DX X 𝒲 NoW e te fe) (he2 : DX X (wLift C 𝒲) NoW e2 te2 fe2) (hr2 : DXQ X (wLift C 𝒲) rest u G) (hi : X.N[i]? = some x := by rfl) (hj : X.N[j]? = some y := by rfl) (hij : i ≠ j := by decide) (hx : X.env.scope.names.lookup x = some .local := by rfl) (hy : X.env.scope.names.lookup y = some .local := by rfl)
    (hg : Gl X cn := by rfl) (hdb : (cn == ("__debug__" : Str)) = false := by decide)
    (hse : starEach [e] X.env = (false, eval e X.env) :: starEach [] X.env := by rfl) (hpl : (backTo p3 (starEach [] X.env)).any (·.1) = false := by rfl)
    (hse2 : starEach [.Call (.Name cn p2) [e] [] p3, e2] X.env = (false, eval (.Call (.Name cn p2) [e] [] p3) X.env) :: starEach [e2] X.env := by rfl) (hse3 : starEach [e2] X.env = (false, eval e2 X.env) :: starEach [] X.env := by rfl)
    (hw : swappedStores [.Tuple [.Name x p1, .Name y p4] kt p5] (.Tuple [.Call (.Name cn p2) [e] [] p3, e2] k2 pt2) X.env = pure (some [x, y]) := by rfl) (hs : swapsWithSole [.Tuple [.Name x p1, .Name y p4] kt p5] (.Tuple [.Call (.Name cn p2) [e] [] p3, e2] k2 pt2) pos.line X.env = pure false := by rfl) :
    DXQ X 𝒲 (.Assign [.Tuple [.Name x p1, .Name y p4] kt p5] (.Tuple [.Call (.Name cn p2) [e] [] p3, e2] k2 pt2) pos :: rest) (tSeq (tPar i j (tCons (tMake C (spInit C cl) [] (fun _ _ _ => False) (tCons te tNil)) (tCons te2 tNil))) u) (gWat fe (gPar i j fe2 G)) := by
  refine ⟨pss_cons (ps_par hc nd hi hj hij hx hy (pa_cons (pe_make M F hr hg hm hb .nil pass_no (pa_cons he.pe pa_nil hse) hdb hse hpl) (pa_cons he2.pe pa_nil hse3) hse2) hw hs) hr2.ps, fun W hW ρ σ s H D E g hk => ?_⟩
  show tMake C (spInit C cl) [] (fun _ _ _ => False) (tCons te tNil) σ H fun v H1 => tCons te2 tNil σ H1 fun vs H2 => ∃ a b, (v :: vs) = [a, b] ∧ (u D) ((σ.set i (some a)).set j (some b)) H2
  refine make_t he.de hh hW E g fun W' w s1 H2 hW' back E' g' => ?_
  obtain ⟨d, s', e', g'⟩ := g'
  refine he2.de W' hW' ρ σ (s1, w) H2 _ E' ?_
  rw [e']
  intro H3 a3 st3 v hv
  have hv : Rp (Frz W' ρ σ H3) v d := hv
  have E3 := E'.step a3 st3
  refine ⟨_, _, rfl, ?_⟩
  have Ea := E3.setAny i (x := .v (.ref w.p)) (v := some (.ref w.p)) (fun _ z => nomatch z) (fun _ z => nomatch z) fun z q => by cases q; rfl
  have Eb := Ea.setAny j (x := .d d) (v := some v) (fun _ z => nomatch z) (fun z q => by cases q; exact ⟨v, rfl, hv.up (frz_setD fun _ z => nomatch z)⟩) (fun _ z => nomatch z)
  exact hr2.good W' hW' _ _ _ _ D Eb g' fun s' H' a => hk s'.1 H' (back s' H' a)
end
end DL
namespace DL
open PySem PySem.Spec PyProof.Rows L2
/-! ### defs whose first argument is a Watch -/
def watchW (C : Addr) (M0 : Addr → Prop) (w0 : WSt) (H0 : Hp) (hM : InH M0 H0) (h0 : Wt C M0 w0 H0) : Wd (Unit × WSt) where
  hid := M0
  low := fun p => H0 p ≠ none
  at_ := fun s H => sameW s.2 w0 ∧ Wt C M0 s.2 H ∧ Kept2 w0.p w0.l H0 H
  ext := fun s H H' h e => ⟨h.1, h.2.1.up e, fun c o n1 n2 q => e _ _ (h.2.2 c o n1 n2 q)⟩
  mutn := fun s H q o o' h hq nt nh nl => by
    obtain ⟨e, t, k⟩ := h
    have np : s.2.p ≠ q := fun z => nh (by rw [← z]; exact t.mp)
    have nl' : s.2.l ≠ q := fun z => nh (by rw [← z]; exact t.ml)
    have nd : s.2.dx ≠ q := fun z => nl (by rw [← z, e.2.1, h0.dc]; simp)
    obtain ⟨vs, h1, h2⟩ := t.ln
    refine ⟨e, ⟨by rw [upd_ne np]; exact t.ob, by rw [upd_ne nd]; exact t.dc, ⟨vs, by rw [upd_ne nl']; exact h1, RpAll.flat (fun b xs z => ?_) _ _ (flat_ths _) h2⟩, t.sm, t.mp, t.ml⟩, fun c u m1 m2 z => ?_⟩
    · obtain ⟨z1, z2⟩ := Fz_some.mp z
      refine Fz_some.mpr ⟨z1, ?_⟩
      rw [upd_ne fun e => nt xs (by rw [e, hq] at z2; exact Option.some.inj z2)]
      exact z2
    · rw [upd_ne fun e => nl (by rw [← e, z]; simp)]
      exact k c u m1 m2 z
  hidIn := fun s H q h m => by
    obtain ⟨e, t, k⟩ := h
    obtain ⟨vs, h1, _⟩ := t.ln
    exact k.in (by rw [← e.1, t.ob]; simp) (by rw [← e.2.2, h1]; simp) (hM q m)
  lowIn := fun s H q h m => by
    obtain ⟨e, t, k⟩ := h
    obtain ⟨vs, h1, _⟩ := t.ln
    exact k.in (by rw [← e.1, t.ob]; simp) (by rw [← e.2.2, h1]; simp) m
theorem watchW_ok {C : Addr} {M0 : Addr → Prop} {w0 : WSt} {H0 : Hp} {hM : InH M0 H0} {h0 : Wt C M0 w0 H0} : (wLift C allF).ok (watchW C M0 w0 H0 hM h0) :=
  ⟨fun _ => trivial, fun s w H a => a.2.1, fun s w w' H H' a e t k => ⟨⟨e.1.trans a.1.1, e.2.1.trans a.1.2.1, e.2.2.trans a.1.2.2⟩, t, fun c o n1 n2 q => k c o (by rw [show w.p = w0.p from a.1.1]; exact n1) (by rw [show w.l = w0.l from a.1.2.2]; exact n2) (a.2.2 c o n1 n2 q)⟩⟩
def semW (m : Nat) (F : FS (Unit × WSt)) (ds : List D) (w : WSt) : Res WSt D := match F (.v (.ref w.p) :: (ds.map .d ++ List.replicate m .no)) ((), w) with
  | .rt (.d d) s => .ok d s.2
  | .nx _ s => .ok .none s.2
  | .er c _ s => .er c s.2
  | _ => .bad
theorem start_envW {S : Type} {W : Wd S} {N : List Str} {vs : List V} {ds : List D} {H : Hp} {s : S} {a : Addr} (hW : W.at_ s H) (r : RpAll (Fz W.hid H) vs ds) (hn : vs.length + 1 ≤ N.length) : EnvOk W (.v (.ref a) :: (ds.map .d ++ List.replicate (N.length - (vs.length + 1)) .no)) (L2.start N (.ref a :: vs)) s H := by
  have hl := r.len
  have e0 : L2.start N (.ref a :: vs) = some (.ref a) :: (vs.map some ++ List.replicate (N.length - (vs.length + 1)) none) := by
    unfold L2.start
    simp
  rw [e0]
  refine env_of (by simp [hl]) hW ?_ ?_ ?_
  · intro i xs h
    cases i with
    | zero => cases h
    | succ i =>
      rw [List.getElem?_cons_succ] at h
      by_cases hi : i < (ds.map Sl.d).length
      · rw [List.getElem?_append_left hi, List.getElem?_map] at h
        cases z : ds[i]? with
        | none => rw [z] at h; cases h
        | some y => rw [z] at h; cases h
      · rw [List.getElem?_append_right (by omega), List.getElem?_replicate] at h
        split at h <;> cases h
  · intro i x h
    cases i with
    | zero => cases h
    | succ i =>
      rw [List.getElem?_cons_succ] at h ⊢
      by_cases hi : i < (ds.map Sl.d).length
      · rw [List.getElem?_append_left hi, List.getElem?_map] at h
        cases z : ds[i]? with
        | none => rw [z] at h; cases h
        | some y =>
          rw [z] at h
          have e : y = x := by simpa using h
          subst e
          obtain ⟨v, h1, h2⟩ := r.get z
          refine ⟨v, ?_, h2⟩
          rw [List.getElem?_append_left (by rw [List.length_map]; simpa [hl] using hi), List.getElem?_map, h1]
          rfl
      · rw [List.getElem?_append_right (by omega), List.getElem?_replicate] at h
        split at h <;> cases h
  · intro i x h
    cases i with
    | zero => cases h; rfl
    | succ i =>
      rw [List.getElem?_cons_succ] at h
      by_cases hi : i < (ds.map Sl.d).length
      · rw [List.getElem?_append_left hi, List.getElem?_map] at h
        cases z : ds[i]? with
        | none => rw [z] at h; cases h
        | some y => rw [z] at h; cases h
      · rw [List.getElem?_append_right (by omega), List.getElem?_replicate] at h
        split at h <;> cases h
section
variable {P : Program} {w : World} {K : PySem.W.Frag} {mg : Str → Option Value} {base : Heap} {cl : Nat → Addr} {C : Addr}
theorem fn_watch {x qual : Str} {st : Stmt} {f : Addr} {fd : FuncData} {N ps : List Str} {k m : Nat} {F : FS (Unit × WSt)} (Fn : Fun K x qual st f fd) (Sc : FnScope N ps (defScope st)) (hm : N.length = ps.length + m)
    (body : ∀ (cdv : Value) (A : Around) (outer : List PySem.Env) (s : Shared) (H : Hp) (E : XK), Room k (A.deeper (envOfC qual (defScope st) s.heap.objs.size f cdv)) →
      ∃ t, DXSs (cxOf (L2.CX P w) P w K mg base N qual (defScope st) f cdv A outer s H E) (wLift C allF) (WE1 cl E) (defBody st) t F) :
    FnOk P w K mg base (L2.CX P w) (k + 1) f fd ps (spM C cl ps.length (semW m F)) := by
  refine Fn.okX Sc (fun vs H Q E h => h.1) fun cdv A outer s H vs Q E hr h => ?_
  obtain ⟨t, hb⟩ := body cdv A outer s H E hr
  obtain ⟨hl, M0, w0, ws, ds, rfl, hM, hT, r, hs⟩ := h
  refine ⟨t, hb.ps, ?_⟩
  have hlen : ws.length + 1 = ps.length := by simpa using hl
  have hm' : m = N.length - (ws.length + 1) := by omega
  refine hb.ds (watchW C M0 w0 H hM hT) watchW_ok _ _ ((), w0) H _ (start_envW (W := watchW C M0 w0 H hM hT) (N := N) ⟨⟨rfl, rfl, rfl⟩, hT, fun _ _ _ _ q => q⟩ r (by omega)) ?_
  unfold semW at hs
  rw [hm'] at hs
  cases hF : F (.v (.ref w0.p) :: (ds.map .d ++ List.replicate (N.length - (ws.length + 1)) .no)) ((), w0) with
  | nx ρ' s' => rw [hF] at hs; exact fun σ' H' e g => hs.2.2.2 _ _ e.at_.2.1 e.at_.2.2 .non
  | rt d s' =>
    rw [hF] at hs
    cases d with
    | d d => exact fun v H' a i => hs.2.2.2 v H' a.2.1 a.2.2 i
    | v d => exact hs.elim
  | er c ρ' s' => rw [hF] at hs; exact fun σ' H' e g => hs.2.2.2 H' e.at_.2.1 e.at_.2.2
  | bk ρ' s' => rw [hF] at hs; exact hs.elim
  | ct ρ' s' => rw [hF] at hs; exact hs.elim
  | bad => rw [hF] at hs; exact hs.elim
/-- a def without arguments whose block returns True -/
theorem fn_good0 {x qual : Str} {st : Stmt} {f : Addr} {fd : FuncData} {N : List Str} {k m : Nat} {G : FG Unit} (Fn : Fun K x qual st f fd) (Sc : FnScope N [] (defScope st)) (hm : N.length = m)
    (body : ∀ (cdv : Value) (A : Around) (outer : List PySem.Env) (s : Shared) (H : Hp) (E : XK), Room k (A.deeper (envOfC qual (defScope st) s.heap.objs.size f cdv)) →
      ∃ t, DXQ (cxOf (L2.CX P w) P w K mg base N qual (defScope st) f cdv A outer s H E) allF (defBody st) t G) (hG : G (List.replicate m .no) ()) :
    FnOk P w K mg base (L2.CX P w) (k + 1) f fd [] (spD cl 0 fun _ => .ok (.bool true) ()) := by
  refine Fn.okX Sc (fun vs H Q E h => h.1) fun cdv A outer s H vs Q E hr h => ?_
  obtain ⟨t, hb⟩ := body cdv A outer s H E hr
  obtain ⟨hl, M0, ds, hM, r, hs⟩ := h
  obtain rfl : vs = [] := List.length_eq_zero_iff.mp hl
  cases r
  refine ⟨t, hb.ps, ?_⟩
  refine hb.good (pureW M0 H hM) trivial _ _ () H _ (start_env (W := pureW M0 H hM) (N := N) (Same.refl H) .nil) ?_ fun _ H' a => hs _ H' a (.bl true)
  · rw [show ([] : List D).map Sl.d ++ List.replicate (N.length - ([] : List V).length) Sl.no = List.replicate m Sl.no by simp [hm]]
    exact hG
/-- the law -/
theorem law_good {x qual : Str} {st : Stmt} {f : Addr} {fd : FuncData} {N : List Str} {k m : Nat} {G : FG DSt} {s0 : Stmt} {rest : List Stmt} (Fn : Fun K x qual st f fd) (Sc : FnScope N ["_law_script"] (defScope st)) (hm : N.length = 2 + m) (hbd : defBody st = s0 :: rest)
    (body : ∀ (cdv : Value) (A : Around) (outer : List PySem.Env) (s : Shared) (H : Hp) (E : XK), Room k (A.deeper (envOfC qual (defScope st) s.heap.objs.size f cdv)) →
      PS (cxOf (L2.CX P w) P w K mg base N qual (defScope st) f cdv A outer s H E) s0 (tAsg (tCallS (spStart K) (WE (WR cl NoW)) (tCons (tVar 0) tNil)) (gName 1)) ∧
      ∃ t, DXQ (cxOf (L2.CX P w) P w K mg base N qual (defScope st) f cdv A outer s H E) drawFam rest t G)
    (hF : ∀ (a b : Addr) (nums : List Int), nums ≠ [] → nums.length ≤ 63 → G (.no :: .v (.ref a) :: List.replicate m .no) ⟨a, b, nums, 0⟩) :
    FnOk P w K mg base (L2.CX P w) (k + 1) f fd ["_law_script"] (spLaw K) := by
  refine Fn.okX Sc (fun vs H Q E h => ?_) fun cdv A outer s H vs Q E hr h => ?_
  · obtain ⟨a, ns, rfl, _⟩ := h
    rfl
  · obtain ⟨h0, t, hb⟩ := body cdv A outer s H E hr
    obtain ⟨p, ns, rfl, hs, hl, kq⟩ := h
    rw [hbd]
    refine ⟨_, pss_cons h0 hb.ps, ?_⟩
    have eσ : L2.start N [.ref p] = some (.ref p) :: none :: List.replicate m none := by
      unfold L2.start
      have e : N.length - [V.ref p].length = m + 1 := by simp; omega
      rw [e, List.replicate_succ]
      rfl
    rw [eσ]
    refine ⟨_, rfl, p, ns, rfl, hs, hl, fun a b nums H' ne hn hl2 hA hB => ?_⟩
    have hF := hF a b nums hn hl2
    have hM : InH (fun c => c = a ∨ c = b) H' := fun c hc => by
      rcases hc with e | e
      · rw [e, hA]; simp
      · rw [e, hB]; simp
    have hD : Dr ⟨a, b, nums, 0⟩ H' := ⟨hA, hB, ne⟩
    refine hb.good (drawW (fun c => c = a ∨ c = b) ⟨a, b, nums, 0⟩ H' hM (.inl rfl) (.inr rfl)) drawW_ok (.no :: .v (.ref a) :: List.replicate m .no) _ ⟨a, b, nums, 0⟩ H' _ (env_of (by simp) ⟨rfl, rfl, hD, fun _ _ _ _ q => q⟩ ?_ ?_ ?_) hF fun _ H2 _ => kq H2
    · intro i xs h
      match i with
      | 0 => cases h
      | 1 => cases h
      | i + 2 =>
        rw [List.getElem?_cons_succ, List.getElem?_cons_succ, List.getElem?_replicate] at h
        split at h <;> cases h
    · intro i xs h
      match i with
      | 0 => cases h
      | 1 => cases h
      | i + 2 =>
        rw [List.getElem?_cons_succ, List.getElem?_cons_succ, List.getElem?_replicate] at h
        split at h <;> cases h
    · intro i xs h
      match i with
      | 0 => cases h
      | 1 => cases h; rfl
      | i + 2 =>
        rw [List.getElem?_cons_succ, List.getElem?_cons_succ, List.getElem?_replicate] at h
        split at h <;> cases h
end
end DL

namespace DL
open PySem L2
/-! ### pairs -/
/-- how many -/
def cn {α : Type} (p : α → Bool) (l : List α) : Int := (l.filter p).length
theorem cn_nil {α : Type} {p : α → Bool} : cn p [] = 0 := rfl
theorem cn_cons {α : Type} {p : α → Bool} {x : α} {l : List α} : cn p (x :: l) = (if p x = true then 1 else 0) + cn p l := by
  unfold cn
  rw [List.filter_cons]
  split
  · rw [List.length_cons]; omega
  · omega
theorem cn_append {α : Type} {p : α → Bool} : ∀ {l m : List α}, cn p (l ++ m) = cn p l + cn p m
  | [], m => by simp [cn]
  | x :: l, m => by rw [List.cons_append, cn_cons, cn_cons, cn_append (l := l)]; omega
theorem cn_nonneg {α : Type} {p : α → Bool} {l : List α} : 0 ≤ cn p l := by unfold cn; omega
theorem cn_le {α : Type} {p q : α → Bool} {l : List α} (h : ∀ x ∈ l, p x = true → q x = true) : cn p l ≤ cn q l := Int.ofNat_le.mpr (filter_len_le h)
theorem cn_congr {α : Type} {p q : α → Bool} {l : List α} (h : ∀ x ∈ l, p x = q x) : cn p l = cn q l := by unfold cn; rw [List.filter_congr h]
theorem cn_map {α β : Type} {p : β → Bool} {f : α → β} {l : List α} : cn p (l.map f) = cn (fun x => p (f x)) l := by unfold cn; rw [List.filter_map, List.length_map]; rfl
theorem cn_none {α : Type} {p : α → Bool} {l : List α} (h : ∀ x ∈ l, p x = false) : cn p l = 0 := by unfold cn; rw [List.filter_eq_nil_iff.mpr fun x hx => by rw [h x hx]; decide]; rfl
theorem cnt_cn (l : List (Int × Bool)) (t : Int) : cnt l t = (cn (fun x => decide (t ≤ x.1) && !x.2) l, cn (fun x => decide (t ≤ x.1) && x.2) l) := rfl
/-- one thing against all of m -/
def pr1 (r : Int → Int → Bool) (x : Int × Bool) (m : List (Int × Bool)) : Int := cn (fun y => x.2 && !y.2 && r x.1 y.1) m
def pr (r : Int → Int → Bool) : List (Int × Bool) → List (Int × Bool) → Int
  | [], _ => 0
  | x :: l, m => pr1 r x m + pr r l m
def rW (a b : Int) : Bool := decide (b < a)
def rT (a b : Int) : Bool := decide (a = b)
def rL (a b : Int) : Bool := decide (a < b)
def pairs (l : List (Int × Bool)) : Int × Int × Int := (pr rW l l, pr rT l l, pr rL l l)
theorem pr_append {r : Int → Int → Bool} : ∀ {l k m : List (Int × Bool)}, pr r (l ++ k) m = pr r l m + pr r k m
  | [], k, m => by simp [pr]
  | x :: l, k, m => by rw [List.cons_append, pr, pr, pr_append (l := l)]; omega
theorem pr1_append {r : Int → Int → Bool} {x : Int × Bool} {m k : List (Int × Bool)} : pr1 r x (m ++ k) = pr1 r x m + pr1 r x k := cn_append
theorem pr_append2 {r : Int → Int → Bool} : ∀ {l m k : List (Int × Bool)}, pr r l (m ++ k) = pr r l m + pr r l k
  | [], m, k => by simp [pr]
  | x :: l, m, k => by rw [pr, pr, pr, pr1_append, pr_append2 (l := l)]; omega
/-- all of l against one -/
theorem pr_one {r : Int → Int → Bool} {y : Int × Bool} : ∀ {l : List (Int × Bool)}, pr r l [y] = cn (fun x => x.2 && !y.2 && r x.1 y.1) l
  | [] => rfl
  | x :: l => by rw [pr, cn_cons, pr_one (l := l)]; unfold pr1; rw [cn_cons, cn_nil]; omega
theorem pr_snoc {r : Int → Int → Bool} {l : List (Int × Bool)} {t : Int × Bool} : pr r (l ++ [t]) (l ++ [t]) = pr r l l + cn (fun x => x.2 && !t.2 && r x.1 t.1) l + cn (fun y => t.2 && !y.2 && r t.1 y.1) l := by
  rw [pr_append, pr_append2, pr_append2, pr_one, pr_one]
  have e1 : pr r [t] l = cn (fun y => t.2 && !y.2 && r t.1 y.1) l := by rw [pr, pr]; unfold pr1; omega
  have e2 : cn (fun x => x.2 && !t.2 && r x.1 t.1) [t] = 0 := by rw [cn_cons, cn_nil]; cases t.2 <;> simp
  rw [e1, e2]
  omega
/-- the turns -/
def stepP (x : Int × Bool) (z : Int × Int × Int) (y : Int × Bool) : Int × Int × Int := if (x.2 && !y.2) = true then (z.1 + (if y.1 < x.1 then 1 else 0), z.2.1 + (if x.1 = y.1 then 1 else 0), z.2.2 + (if x.1 < y.1 then 1 else 0)) else z
theorem stepP_all (x : Int × Bool) : ∀ (m : List (Int × Bool)) (z : Int × Int × Int), m.foldl (stepP x) z = (z.1 + pr1 rW x m, z.2.1 + pr1 rT x m, z.2.2 + pr1 rL x m)
  | [], z => by simp [pr1, cn_nil]
  | y :: m, z => by
    rw [List.foldl_cons, stepP_all x m]
    unfold pr1
    rw [cn_cons, cn_cons, cn_cons]
    unfold stepP
    by_cases h : (x.2 && !y.2) = true
    · rw [if_pos h]
      simp only [h, Bool.true_and, rW, rT, rL, decide_eq_true_eq]
      refine Prod.ext ?_ (Prod.ext ?_ ?_) <;> dsimp only <;> omega
    · rw [if_neg h]
      have h' : (x.2 && !y.2) = false := by simpa using h
      simp only [h', Bool.false_and, Bool.false_eq_true, if_false]
      refine Prod.ext ?_ (Prod.ext ?_ ?_) <;> dsimp only <;> omega
theorem pairs_fold (m : List (Int × Bool)) : ∀ (l : List (Int × Bool)) (z : Int × Int × Int), l.foldl (fun z x => m.foldl (stepP x) z) z = (z.1 + pr rW l m, z.2.1 + pr rT l m, z.2.2 + pr rL l m)
  | [], z => by simp [pr]
  | x :: l, z => by
    rw [List.foldl_cons, pairs_fold m l, stepP_all, pr, pr, pr]
    refine Prod.ext ?_ (Prod.ext ?_ ?_) <;> dsimp only <;> omega
def eTr (z : Int × Int × Int) : D := .tuple [.int z.1, .int z.2.1, .int z.2.2]
theorem eqE_tr : EqE eTr := fun a b => by
  obtain ⟨a1, a2, a3⟩ := a
  obtain ⟨b1, b2, b3⟩ := b
  by_cases h : a1 = b1 <;> by_cases k : a2 = b2 <;> by_cases j : a3 = b3 <;> simp [eTr, PyData.eqv, PyData.eqvAll, h, k, j]
theorem dep_tr (a : Int × Int × Int) : (eTr a).depth ≤ 1 := by simp [eTr, PyData.depth, PyData.depthAll]
theorem ne_tr (a b : Int × Int × Int) : neD (eTr a) (eTr b) = some (.bool (!decide (a = b))) := neD_of eqE_tr dep_tr (by decide) a b
theorem eq_tr (a b : Int × Int × Int) : eqD (eTr a) (eTr b) = some (.bool (decide (a = b))) := eqD_of eqE_tr dep_tr (by decide) a b
/-! ### one thing more -/
theorem Val.app {l m : List (Int × Bool)} (h : Val l) (k : Val m) (hl : l.length + m.length ≤ 12) : Val (l ++ m) :=
  ⟨by rw [List.length_append]; have := h.lo; omega, by rw [List.length_append]; exact hl, fun x hx => (List.mem_append.mp hx).elim (h.sc x) (k.sc x)⟩
theorem val_one {x : Int × Bool} (h : 0 ≤ x.1 ∧ x.1 ≤ 99) : Val [x] := ⟨by simp, by simp, fun y hy => by rw [List.mem_singleton.mp hy]; exact h⟩
theorem cnt_app (l m : List (Int × Bool)) (t : Int) : cnt (l ++ m) t = ((cnt l t).1 + (cnt m t).1, (cnt l t).2 + (cnt m t).2) := by
  rw [cnt_cn, cnt_cn, cnt_cn, cn_append, cn_append]
theorem cnt_one (x : Int × Bool) (t : Int) : cnt [x] t = if t ≤ x.1 then (if x.2 = true then (0, 1) else (1, 0)) else (0, 0) := by
  rw [cnt_cn, cn_cons, cn_cons, cn_nil, cn_nil]
  by_cases h : t ≤ x.1 <;> cases x.2 <;> simp [h]
theorem insU_len_eq {k : Int} : ∀ {l : List Int}, l.Pairwise (· < ·) → (insU k l).length = l.length + (if k ∈ l then 0 else 1)
  | [], _ => by simp [insU]
  | y :: r, h => by
    rw [List.pairwise_cons] at h
    unfold insU
    split
    · rename_i q
      have n : k ∉ y :: r := fun m => by
        rcases List.mem_cons.mp m with e | e
        · omega
        · have := h.1 k e; omega
      rw [if_neg n]
      simp
    · split
      · rename_i q; rw [if_pos (by simp [q])]; rfl
      · rename_i q1 q2
        rw [List.length_cons, insU_len_eq h.2, List.length_cons]
        have e : (k ∈ y :: r) ↔ k ∈ r := by simp [q2]
        by_cases c : k ∈ r
        · rw [if_pos c, if_pos (e.mpr c)]
        · rw [if_neg c, if_neg fun z => c (e.mp z)]
theorem scs_snoc {l : List (Int × Bool)} {t : Int × Bool} : (scs (l ++ [t])).length = (scs l).length + (if t.1 ∈ l.map (·.1) then 0 else 1) := by
  unfold scs
  rw [List.length_reverse, List.length_reverse]
  have e : sortU ((l ++ [t]).map (·.1)) = insU t.1 (sortU (l.map (·.1))) := rising_eq sortU_lt (insU_lt sortU_lt) fun k => by
    rw [sortU_mem, insU_mem, sortU_mem]
    simp only [List.map_append, List.map_cons, List.map_nil, List.mem_append, List.mem_singleton]
    exact ⟨fun h => h.symm, fun h => h.symm⟩
  rw [e, insU_len_eq sortU_lt]
  by_cases c : t.1 ∈ l.map (·.1)
  · rw [if_pos c, if_pos (sortU_mem.mpr c)]
  · rw [if_neg c, if_neg fun z => c (sortU_mem.mp z)]
/-! ### costs -/
def cost (l : List (Int × Bool)) (a b t : Int) : Int := a * (cnt l t).1 + b * ((cnt l 0).2 - (cnt l t).2)
def minCost (l : List (Int × Bool)) (a b : Int) : Option Int := ((100 :: scs l).map (cost l a b)).min?
theorem cost_on {l : List (Int × Bool)} (h : Val l) (a b t : Int) (ht : 0 ≤ t) : ∃ u ∈ (100 : Int) :: scs l, cost l a b t = cost l a b u := by
  rcases List.mem_cons.mp (cnt_on h t ht) with e | e
  · refine ⟨100, by simp, ?_⟩
    unfold cost
    rw [cnt_top h (Int.le_refl 100), e]
  · obtain ⟨u, hu, eu⟩ := List.mem_map.mp e
    refine ⟨u, List.mem_cons_of_mem _ hu, ?_⟩
    unfold cost
    rw [eu]
theorem scs_range {l : List (Int × Bool)} (h : Val l) {u : Int} (hu : u ∈ (100 : Int) :: scs l) : 0 ≤ u ∧ u ≤ 100 := by
  rcases List.mem_cons.mp hu with e | e
  · omega
  · obtain ⟨x, hx, ex⟩ := List.mem_map.mp (scs_mem.mp e)
    have := h.sc x hx
    omega
/-- the least cost: of all thresholds -/
theorem minCost_is {l : List (Int × Bool)} (h : Val l) (a b : Int) : ∃ m, minCost l a b = some m ∧ (∃ t, 0 ≤ t ∧ t ≤ 100 ∧ cost l a b t = m) ∧ ∀ t, 0 ≤ t → m ≤ cost l a b t := by
  cases q : minCost l a b with
  | none => unfold minCost at q; rw [List.min?_eq_none_iff] at q; simp at q
  | some m =>
    obtain ⟨h1, h2⟩ := List.min?_eq_some_iff.mp (show ((100 :: scs l).map (cost l a b)).min? = some m from q)
    refine ⟨m, rfl, ?_, fun t ht => ?_⟩
    · obtain ⟨u, hu, eu⟩ := List.mem_map.mp h1
      exact ⟨u, (scs_range h hu).1, (scs_range h hu).2, eu⟩
    · obtain ⟨u, hu, eu⟩ := cost_on h a b t ht
      rw [eu]
      exact h2 _ (List.mem_map.mpr ⟨u, hu, rfl⟩)
theorem add_ths {l m : List (Int × Bool)} (h : l.length + m.length ≤ 1000) : addD (eThs l) (eThs m) = some (eThs (l ++ m)) := by
  show (if (l.map eTh).length + (m.map eTh).length ≤ lim then some (PyData.list (l.map eTh ++ m.map eTh)) else none) = _
  rw [if_pos (by rw [List.length_map, List.length_map]; unfold lim; omega), ← List.map_append]
  rfl
theorem mul_small {a i : Int} (h0 : 0 ≤ a) (h1 : a ≤ 1000) : mulD (.int a) (.int i) = some (.int (a * i)) := by
  have q : big64 a = true := big64_iff.mpr ⟨by omega, by omega⟩
  show (if (big64 a || big64 i) = true then some (PyData.int (a * i)) else none) = _
  rw [q, if_pos (by simp)]
end DL

namespace DL
open PySem L2
/-! ### double counts -/
def ds2 {α β : Type} (f : α → β → Bool) : List α → List β → Int
  | [], _ => 0
  | x :: l, m => cn (f x) m + ds2 f l m
theorem pr_ds2 (r : Int → Int → Bool) : ∀ l m : List (Int × Bool), pr r l m = ds2 (fun x y => x.2 && !y.2 && r x.1 y.1) l m
  | [], _ => rfl
  | x :: l, m => by rw [pr, ds2, pr_ds2 r l m]; rfl
theorem ds2_nil {α β : Type} {f : α → β → Bool} : ∀ l : List α, ds2 f l [] = 0
  | [] => rfl
  | x :: l => by rw [ds2, ds2_nil l, cn_nil]; rfl
theorem ds2_cons {α β : Type} {f : α → β → Bool} {y : β} : ∀ {l : List α} {m : List β}, ds2 f l (y :: m) = cn (fun x => f x y) l + ds2 f l m
  | [], _ => rfl
  | x :: l, m => by rw [ds2, ds2, ds2_cons, cn_cons, cn_cons]; omega
theorem ds2_swap {α β : Type} {f : α → β → Bool} : ∀ (l : List α) (m : List β), ds2 f l m = ds2 (fun y x => f x y) m l
  | l, [] => by rw [ds2_nil]; rfl
  | l, y :: m => by rw [ds2_cons, ds2, ds2_swap l m]
theorem ds2_map {α β γ δ : Type} {f : α → β → Bool} {g : γ → α} {h : δ → β} : ∀ (l : List γ) (m : List δ), ds2 f (l.map g) (m.map h) = ds2 (fun x y => f (g x) (h y)) l m
  | [], _ => rfl
  | x :: l, m => by rw [List.map_cons, ds2, ds2, ds2_map l m, cn_map]
theorem ds2_congr {α β : Type} {f g : α → β → Bool} : ∀ {l : List α} {m : List β}, (∀ x ∈ l, ∀ y ∈ m, f x y = g x y) → ds2 f l m = ds2 g l m
  | [], _, _ => rfl
  | x :: l, m, h => by rw [ds2, ds2, cn_congr (h x (by simp)), ds2_congr fun a ha => h a (by simp [ha])]
theorem ds2_le {α β : Type} {f g : α → β → Bool} : ∀ {l : List α} {m : List β}, (∀ x ∈ l, ∀ y ∈ m, f x y = true → g x y = true) → ds2 f l m ≤ ds2 g l m
  | [], _, _ => Int.le_refl _
  | x :: l, m, h => by
    rw [ds2, ds2]
    exact Int.add_le_add (cn_le (h x (by simp))) (ds2_le fun a ha => h a (by simp [ha]))
/-! ### lists in strict order are told by their members -/
theorem order_eq {α : Type} {R : α → α → Prop} (hR : ∀ a b, R a b → R b a → False) : ∀ {l m : List α}, l.Pairwise R → m.Pairwise R → (∀ k, k ∈ l ↔ k ∈ m) → l = m
  | [], [], _, _, _ => rfl
  | [], y :: m, _, _, h => by have := (h y).mpr (by simp); simp at this
  | x :: l, [], _, _, h => by have := (h x).mp (by simp); simp at this
  | x :: l, y :: m, h1, h2, h => by
    rw [List.pairwise_cons] at h1 h2
    have e : x = y := by
      rcases List.mem_cons.mp ((h x).mp (by simp)) with e | e
      · exact e
      · rcases List.mem_cons.mp ((h y).mpr (by simp)) with e' | e'
        · exact e'.symm
        · exact (hR _ _ (h1.1 y e') (h2.1 x e)).elim
    subst e
    have nl : x ∉ l := fun q => hR _ _ (h1.1 x q) (h1.1 x q)
    have nm : x ∉ m := fun q => hR _ _ (h2.1 x q) (h2.1 x q)
    refine congrArg _ (order_eq hR h1.2 h2.2 fun k => ⟨fun q => ?_, fun q => ?_⟩)
    · rcases List.mem_cons.mp ((h k).mp (by simp [q])) with e | e
      · rw [e] at q; exact absurd q nl
      · exact e
    · rcases List.mem_cons.mp ((h k).mpr (by simp [q])) with e | e
      · rw [e] at q; exact absurd q nm
      · exact e
theorem pts_mem {l : List (Int × Bool)} (h : Val l) {p : Int × Int} : p ∈ pts l ↔ ∃ t, 0 ≤ t ∧ t ≤ 100 ∧ p = cnt l t := by
  constructor
  · intro q
    rcases List.mem_cons.mp q with e | e
    · exact ⟨100, by decide, by decide, by rw [e, cnt_top h (Int.le_refl _)]⟩
    · obtain ⟨k, hk, rfl⟩ := List.mem_map.mp e
      have := scs_range h (List.mem_cons_of_mem _ hk)
      exact ⟨k, this.1, this.2, rfl⟩
  · rintro ⟨t, t0, t1, rfl⟩
    exact cnt_on h t t0
theorem pts_eq {l : List (Int × Bool)} (h : Val l) {m : List (Int × Int)} (hm : m.Pairwise fun p q => p.1 + p.2 < q.1 + q.2) (hk : ∀ p, p ∈ m ↔ ∃ t, 0 ≤ t ∧ t ≤ 100 ∧ p = cnt l t) : pts l = m :=
  order_eq (R := fun p q : Int × Int => p.1 + p.2 < q.1 + q.2) (fun a b h1 h2 => by omega) ((pts_pair h).imp fun r => r.2.2) hm fun p => by rw [pts_mem h, hk]
/-! ### turned over, exchanged, led -/
def overL (l : List (Int × Bool)) : List (Int × Bool) := l.map fun x => (99 - x.1, x.2)
def exchL (l : List (Int × Bool)) : List (Int × Bool) := l.map fun x => (x.1, !x.2)
def ledL (tb : List Int) (l : List (Int × Bool)) : List (Int × Bool) := l.map fun x => (tb.getD x.1.toNat 0, x.2)
theorem over_val {l : List (Int × Bool)} (h : Val l) : Val (overL l) := ⟨by unfold overL; rw [List.length_map]; exact h.lo, by unfold overL; rw [List.length_map]; exact h.hi, fun y hy => by
  obtain ⟨x, hx, rfl⟩ := List.mem_map.mp hy
  have := h.sc x hx
  dsimp only; omega⟩
theorem exch_val {l : List (Int × Bool)} (h : Val l) : Val (exchL l) := ⟨by unfold exchL; rw [List.length_map]; exact h.lo, by unfold exchL; rw [List.length_map]; exact h.hi, fun y hy => by
  obtain ⟨x, hx, rfl⟩ := List.mem_map.mp hy
  exact h.sc x hx⟩
theorem pairs_over (l : List (Int × Bool)) : pairs (overL l) = ((pairs l).2.2, (pairs l).2.1, (pairs l).1) := by
  unfold pairs overL
  rw [pr_ds2, pr_ds2, pr_ds2, pr_ds2, pr_ds2, pr_ds2, ds2_map, ds2_map, ds2_map]
  refine Prod.ext ?_ (Prod.ext ?_ ?_)
  · exact ds2_congr fun x _ y _ => by
      have e : rW (99 - x.1) (99 - y.1) = rL x.1 y.1 := by unfold rW rL; rw [decide_eq_decide]; omega
      simp only [e]
  · exact ds2_congr fun x _ y _ => by
      have e : rT (99 - x.1) (99 - y.1) = rT x.1 y.1 := by unfold rT; rw [decide_eq_decide]; omega
      simp only [e]
  · exact ds2_congr fun x _ y _ => by
      have e : rL (99 - x.1) (99 - y.1) = rW x.1 y.1 := by unfold rW rL; rw [decide_eq_decide]; omega
      simp only [e]
theorem pairs_exch (l : List (Int × Bool)) : pairs (exchL l) = ((pairs l).2.2, (pairs l).2.1, (pairs l).1) := by
  unfold pairs exchL
  rw [pr_ds2, pr_ds2, pr_ds2, pr_ds2, pr_ds2, pr_ds2, ds2_map, ds2_map, ds2_map]
  refine Prod.ext ?_ (Prod.ext ?_ ?_)
  · dsimp only
    rw [ds2_swap]
    exact ds2_congr fun x _ y _ => by
      have e : rW y.1 x.1 = rL x.1 y.1 := rfl
      simp only [e, Bool.not_not]
      cases x.2 <;> cases y.2 <;> simp
  · dsimp only
    rw [ds2_swap]
    exact ds2_congr fun x _ y _ => by
      have e : rT y.1 x.1 = rT x.1 y.1 := by unfold rT; rw [decide_eq_decide]; omega
      simp only [e, Bool.not_not]
      cases x.2 <;> cases y.2 <;> simp
  · dsimp only
    rw [ds2_swap]
    exact ds2_congr fun x _ y _ => by
      have e : rL y.1 x.1 = rW x.1 y.1 := rfl
      simp only [e, Bool.not_not]
      cases x.2 <;> cases y.2 <;> simp
theorem cn_split {α : Type} {p q r : α → Bool} {l : List α} (h : ∀ x ∈ l, (p x = true ↔ q x = true ∨ r x = true) ∧ ¬ (q x = true ∧ r x = true)) : cn p l = cn q l + cn r l := by
  induction l with
  | nil => rfl
  | cons x l ih =>
    have a := h x (by simp)
    rw [cn_cons, cn_cons, cn_cons, ih fun y hy => h y (by simp [hy])]
    by_cases hq : q x = true
    · have hr : ¬ r x = true := fun z => a.2 ⟨hq, z⟩
      have hp : p x = true := a.1.mpr (.inl hq)
      rw [if_pos hq, if_neg hr, if_pos hp]; omega
    · by_cases hr : r x = true
      · have hp : p x = true := a.1.mpr (.inr hr)
        rw [if_neg hq, if_pos hr, if_pos hp]; omega
      · have hp : ¬ p x = true := fun z => (a.1.mp z).elim hq hr
        rw [if_neg hq, if_neg hr, if_neg hp]; omega
theorem cnt_over {l : List (Int × Bool)} (h : Val l) (t : Int) : cnt (overL l) t = ((cnt l 0).1 - (cnt l (100 - t)).1, (cnt l 0).2 - (cnt l (100 - t)).2) := by
  unfold overL
  rw [cnt_cn, cnt_cn, cnt_cn, cn_map, cn_map]
  have e1 : cn (fun x : Int × Bool => decide ((0 : Int) ≤ x.1) && !x.2) l = cn (fun x => decide (t ≤ 99 - x.1) && !x.2) l + cn (fun x => decide (100 - t ≤ x.1) && !x.2) l := cn_split fun x hx => by
    have := h.sc x hx
    cases x.2 <;> simp <;> omega
  have e2 : cn (fun x : Int × Bool => decide ((0 : Int) ≤ x.1) && x.2) l = cn (fun x => decide (t ≤ 99 - x.1) && x.2) l + cn (fun x => decide (100 - t ≤ x.1) && x.2) l := cn_split fun x hx => by
    have := h.sc x hx
    cases x.2 <;> simp <;> omega
  refine Prod.ext ?_ ?_ <;> dsimp only <;> omega
theorem pts_over {l : List (Int × Bool)} (h : Val l) : pts (overL l) = ((pts l).map fun p => ((cnt l 0).1 - p.1, (cnt l 0).2 - p.2)).reverse := by
  refine pts_eq (over_val h) ?_ fun p => ?_
  · rw [List.pairwise_reverse, List.pairwise_map]
    exact (pts_pair h).imp fun r => by dsimp only; omega
  · rw [List.mem_reverse, List.mem_map]
    constructor
    · rintro ⟨q, hq, rfl⟩
      obtain ⟨t, t0, t1, rfl⟩ := (pts_mem h).mp hq
      exact ⟨100 - t, by omega, by omega, by rw [cnt_over h, show 100 - (100 - t) = t by omega]⟩
    · rintro ⟨t, t0, t1, rfl⟩
      exact ⟨cnt l (100 - t), cnt_on h _ (by omega), (cnt_over h t).symm⟩
theorem cnt_exch (l : List (Int × Bool)) (t : Int) : cnt (exchL l) t = ((cnt l t).2, (cnt l t).1) := by
  unfold exchL
  rw [cnt_cn, cnt_cn, cn_map, cn_map]
  simp
theorem pts_exch {l : List (Int × Bool)} (h : Val l) : pts (exchL l) = (pts l).map fun p => (p.2, p.1) := by
  refine pts_eq (exch_val h) ?_ fun p => ?_
  · rw [List.pairwise_map]
    exact (pts_pair h).imp fun r => by dsimp only; omega
  · rw [List.mem_map]
    constructor
    · rintro ⟨q, hq, rfl⟩
      obtain ⟨t, t0, t1, rfl⟩ := (pts_mem h).mp hq
      exact ⟨t, t0, t1, (cnt_exch l t).symm⟩
    · rintro ⟨t, t0, t1, rfl⟩
      exact ⟨cnt l t, cnt_on h t t0, (cnt_exch l t).symm⟩
/-- a rising table of a hundred scores -/
structure Tab (tb : List Int) : Prop where
  len : tb.length = 100
  rg : ∀ x ∈ tb, 0 ≤ x ∧ x ≤ 99
  up : ∀ i j : Nat, i ≤ j → j < 100 → tb.getD i 0 ≤ tb.getD j 0
theorem Tab.at {tb : List Int} (h : Tab tb) {i : Nat} (hi : i < 100) : 0 ≤ tb.getD i 0 ∧ tb.getD i 0 ≤ 99 := by
  have q : i < tb.length := by rw [h.len]; exact hi
  rw [List.getD_eq_getElem?_getD, List.getElem?_eq_getElem q]
  exact h.rg _ (List.getElem_mem q)
theorem led_val {tb : List Int} (T : Tab tb) {l : List (Int × Bool)} (h : Val l) : Val (ledL tb l) := ⟨by unfold ledL; rw [List.length_map]; exact h.lo, by unfold ledL; rw [List.length_map]; exact h.hi, fun y hy => by
  obtain ⟨x, hx, rfl⟩ := List.mem_map.mp hy
  have := h.sc x hx
  exact T.at (by omega)⟩
theorem led_pairs {tb : List Int} (T : Tab tb) {l : List (Int × Bool)} (h : Val l) : (pairs (ledL tb l)).1 ≤ (pairs l).1 ∧ (pairs l).2.1 ≤ (pairs (ledL tb l)).2.1 ∧ (pairs (ledL tb l)).2.2 ≤ (pairs l).2.2 := by
  have up : ∀ x ∈ l, ∀ y ∈ l, x.1 ≤ y.1 → tb.getD x.1.toNat 0 ≤ tb.getD y.1.toNat 0 := fun x hx y hy q => by
    have a := h.sc x hx
    have b := h.sc y hy
    exact T.up _ _ (by omega) (by omega)
  unfold pairs ledL
  rw [pr_ds2, pr_ds2, pr_ds2, pr_ds2, pr_ds2, pr_ds2, ds2_map, ds2_map, ds2_map]
  refine ⟨ds2_le fun x hx y hy q => ?_, ds2_le fun x hx y hy q => ?_, ds2_le fun x hx y hy q => ?_⟩
  · simp only [Bool.and_eq_true, rW, decide_eq_true_eq] at q ⊢
    refine ⟨q.1, ?_⟩
    by_cases c : y.1 < x.1
    · exact c
    · have := up x hx y hy (by omega); omega
  · simp only [Bool.and_eq_true, rT, decide_eq_true_eq] at q ⊢
    exact ⟨q.1, by rw [q.2]⟩
  · simp only [Bool.and_eq_true, rL, decide_eq_true_eq] at q ⊢
    refine ⟨q.1, ?_⟩
    by_cases c : x.1 < y.1
    · exact c
    · have := up y hy x hx (by omega); omega
/-- a threshold of the led things is one of the things -/
theorem led_cut {tb : List Int} (T : Tab tb) (t : Int) : ∃ u : Nat, u ≤ 100 ∧ ∀ s : Nat, s < 100 → (t ≤ tb.getD s 0 ↔ u ≤ s) := by
  have go : ∀ n : Nat, n ≤ 100 → (∀ s : Nat, n ≤ s → s < 100 → t ≤ tb.getD s 0) → ∃ u : Nat, u ≤ 100 ∧ ∀ s : Nat, s < 100 → (t ≤ tb.getD s 0 ↔ u ≤ s) := by
    intro n
    induction n with
    | zero => intro _ h; exact ⟨0, by omega, fun s hs => ⟨fun _ => by omega, fun _ => h s (by omega) hs⟩⟩
    | succ n ih =>
      intro hn h
      by_cases c : t ≤ tb.getD n 0
      · exact ih (by omega) fun s h1 h2 => by
          by_cases e : s = n
          · rw [e]; exact c
          · exact h s (by omega) h2
      · refine ⟨n + 1, hn, fun s hs => ⟨fun q => ?_, fun q => h s q hs⟩⟩
        by_cases e : n + 1 ≤ s
        · exact e
        · have := T.up s n (by omega) (by omega); omega
  exact go 100 (Nat.le_refl _) fun s h1 h2 => by omega
theorem led_cnt {tb : List Int} (T : Tab tb) {l : List (Int × Bool)} (h : Val l) (t : Int) : ∃ u : Int, 0 ≤ u ∧ u ≤ 100 ∧ cnt (ledL tb l) t = cnt l u := by
  obtain ⟨u, hu, q⟩ := led_cut T t
  refine ⟨(u : Int), by omega, by omega, ?_⟩
  unfold ledL
  rw [cnt_cn, cnt_cn, cn_map, cn_map]
  have e : ∀ x ∈ l, decide (t ≤ tb.getD x.1.toNat 0) = decide ((u : Int) ≤ x.1) := fun x hx => by
    have a := h.sc x hx
    rw [decide_eq_decide, q x.1.toNat (by omega)]
    omega
  refine Prod.ext (cn_congr fun x hx => ?_) (cn_congr fun x hx => ?_)
  · dsimp only; rw [e x hx]
  · dsimp only; rw [e x hx]
theorem led_on {tb : List Int} (T : Tab tb) {l : List (Int × Bool)} (h : Val l) : ∀ p ∈ pts (ledL tb l), p ∈ pts l := fun p hp => by
  obtain ⟨t, t0, t1, rfl⟩ := (pts_mem (led_val T h)).mp hp
  obtain ⟨u, u0, u1, e⟩ := led_cnt T h t
  rw [e]
  exact cnt_on h u u0
/-- the table 0, 1, .., 99 -/
def idTab : List Int := (List.range 100).map fun i : Nat => (i : Int)
theorem idTab_get {i : Nat} (h : i < 100) : idTab.getD i 0 = i := by
  unfold idTab
  rw [List.getD_eq_getElem?_getD, List.getElem?_map, List.getElem?_range h]
  rfl
theorem idTab_ok : Tab idTab := ⟨by simp [idTab], fun x hx => by
  unfold idTab at hx
  obtain ⟨i, hi, rfl⟩ := List.mem_map.mp hx
  rw [List.mem_range] at hi
  omega, fun i j h1 h2 => by rw [idTab_get (by omega), idTab_get h2]; omega⟩
theorem led_id {l : List (Int × Bool)} (h : Val l) : ledL idTab l = l := by
  unfold ledL
  have e : ∀ x ∈ l, (idTab.getD x.1.toNat 0, x.2) = x := fun x hx => by
    have := h.sc x hx
    rw [idTab_get (by omega)]
    refine Prod.ext ?_ rfl
    dsimp only; omega
  rw [List.map_congr_left e]
  simp
/-- sorted draws -/
theorem sorted_tab {ns : List Int} (hl : ns.length = 100) (hr : ∀ x ∈ ns, 0 ≤ x ∧ x ≤ 99) : Tab (ns.mergeSort fun a b => decide (a ≤ b)) := by
  have pw := List.pairwise_mergeSort (le := fun a b : Int => decide (a ≤ b)) (fun a b c h1 h2 => by simp at *; omega) (fun a b => by simp; omega) ns
  refine ⟨by rw [List.length_mergeSort]; exact hl, fun x hx => hr x (List.mem_mergeSort.mp hx), fun i j h1 h2 => ?_⟩
  have li : i < (ns.mergeSort fun a b => decide (a ≤ b)).length := by rw [List.length_mergeSort]; omega
  have lj : j < (ns.mergeSort fun a b => decide (a ≤ b)).length := by rw [List.length_mergeSort]; omega
  rw [List.getD_eq_getElem?_getD, List.getD_eq_getElem?_getD, List.getElem?_eq_getElem li, List.getElem?_eq_getElem lj]
  show (ns.mergeSort fun a b => decide (a ≤ b))[i] ≤ (ns.mergeSort fun a b => decide (a ≤ b))[j]
  by_cases e : i = j
  · subst e; exact Int.le_refl _
  · have := List.pairwise_iff_getElem.mp pw i j li lj (by omega)
    simpa using this
theorem sorted_ints (ns : List Int) : sortedD [.list (ns.map .int)] = some (.list ((ns.mergeSort fun a b => decide (a ≤ b)).map .int)) := by
  have h1 : allAlikeB (ns.map PyData.int) = true := by
    unfold allAlikeB
    rw [List.all_eq_true]
    intro d hd
    rw [List.all_eq_true]
    intro e he
    obtain ⟨i, _, rfl⟩ := List.mem_map.mp hd
    obtain ⟨j, _, rfl⟩ := List.mem_map.mp he
    rfl
  have h2 : sortableB (ns.map PyData.int) = true := by
    unfold sortableB
    rw [Bool.or_eq_true]
    right
    rw [List.all_eq_true]
    intro d hd
    obtain ⟨i, _, rfl⟩ := List.mem_map.mp hd
    rfl
  have h3 : ∀ d ∈ ns.map PyData.int, d.depth ≤ 60 := fun d hd => by
    obtain ⟨i, _, rfl⟩ := List.mem_map.mp hd
    simp [PyData.depth]
  show (if allAlikeB (ns.map PyData.int) = true ∧ sortableB (ns.map PyData.int) = true ∧ (∀ d ∈ ns.map PyData.int, d.depth ≤ 60) then some (PyData.list ((ns.map PyData.int).mergeSort leD')) else none) = _
  rw [if_pos ⟨h1, h2, h3⟩, List.map_mergeSort (s := leD') fun a _ b _ => ?_]
  show decide (a ≤ b) = leD' (.int a) (.int b)
  unfold leD'
  rw [PySem.W.dataLt_int]
  by_cases q : a ≤ b
  · have q2 : ¬ b < a := by omega
    simp [q, q2]
  · have q2 : b < a := by omega
    simp [q, q2]
end DL

namespace DL
open PySem L2
/-! ### directions in the first quadrant -/
abbrev Pt := Int × Int
def crs (u v : Pt) : Int := u.1 * v.2 - u.2 * v.1
def qd (u : Pt) : Prop := 0 ≤ u.1 ∧ 0 ≤ u.2
def dif (a b : Pt) : Pt := (b.1 - a.1, b.2 - a.2)
/-- the turn from a by m to c: above 0, to the left -/
def trn (a m c : Pt) : Int := (m.1 - a.1) * (c.2 - a.2) - (m.2 - a.2) * (c.1 - a.1)
def lt2 (p q : Pt) : Prop := p.1 ≤ q.1 ∧ p.2 ≤ q.2 ∧ p.1 + p.2 < q.1 + q.2
def le2 (p q : Pt) : Prop := p.1 ≤ q.1 ∧ p.2 ≤ q.2
theorem lt2.le {p q : Pt} (h : lt2 p q) : le2 p q := ⟨h.1, h.2.1⟩
theorem lt2.trans {p q r : Pt} (h : lt2 p q) (k : lt2 q r) : lt2 p r := by unfold lt2 at *; omega
theorem le2.trans {p q r : Pt} (h : le2 p q) (k : le2 q r) : le2 p r := by unfold le2 at *; omega
theorem le2.rfl' {p : Pt} : le2 p p := by unfold le2; omega
theorem qd_dif {a b : Pt} (h : le2 a b) : qd (dif a b) := by unfold le2 at h; unfold qd dif; dsimp only; omega
theorem crs_self (u : Pt) : crs u u = 0 := by unfold crs; rw [Int.mul_comm u.1 u.2]; omega
theorem crs_neg (u v : Pt) : crs v u = - crs u v := by unfold crs; rw [Int.mul_comm v.1 u.2, Int.mul_comm v.2 u.1]; omega
theorem mul_nonneg' {a b : Int} (h : 0 ≤ a) (k : 0 ≤ b) : 0 ≤ a * b := Int.mul_nonneg h k
/-- steeper is passed on: v is no zero -/
theorem crs_trans {u v w : Pt} (hu : qd u) (hw : qd w) (hv : qd v) (nv : 0 < v.1 + v.2) (h1 : crs u v ≤ 0) (h2 : crs v w ≤ 0) : crs u w ≤ 0 := by
  have i1 : v.1 * crs u w = u.1 * crs v w + w.1 * crs u v := by unfold crs; grind
  have i2 : v.2 * crs u w = u.2 * crs v w + w.2 * crs u v := by unfold crs; grind
  have a1 := mul_nonneg' hu.1 (show 0 ≤ - crs v w by omega)
  have a2 := mul_nonneg' hw.1 (show 0 ≤ - crs u v by omega)
  have a3 := mul_nonneg' hu.2 (show 0 ≤ - crs v w by omega)
  have a4 := mul_nonneg' hw.2 (show 0 ≤ - crs u v by omega)
  rw [Int.mul_neg] at a1 a2 a3 a4
  by_cases c : crs u w ≤ 0
  · exact c
  · exfalso
    have hv1 := hv.1
    have hv2 := hv.2
    by_cases z : 0 < v.1
    · have := Int.mul_pos z (show 0 < crs u w by omega); omega
    · have := Int.mul_pos (show 0 < v.2 by omega) (show 0 < crs u w by omega); omega
/-- strictly, one of both -/
theorem crs_trans_lt {u v w : Pt} (hu : qd u) (hw : qd w) (hv : qd v) (nu : 0 < u.1 + u.2) (nv : 0 < v.1 + v.2) (nw : 0 < w.1 + w.2) (h1 : crs u v ≤ 0) (h2 : crs v w ≤ 0) (h : crs u v < 0 ∨ crs v w < 0) : crs u w < 0 := by
  have le := crs_trans hu hw hv nv h1 h2
  by_cases c : crs u w < 0
  · exact c
  · exfalso
    have e : crs u w = 0 := by omega
    have i1 : v.1 * crs u w = u.1 * crs v w + w.1 * crs u v := by unfold crs; grind
    have i2 : v.2 * crs u w = u.2 * crs v w + w.2 * crs u v := by unfold crs; grind
    rw [e, Int.mul_zero] at i1 i2
    have a1 := mul_nonneg' hu.1 (show 0 ≤ - crs v w by omega)
    have a2 := mul_nonneg' hw.1 (show 0 ≤ - crs u v by omega)
    have a3 := mul_nonneg' hu.2 (show 0 ≤ - crs v w by omega)
    have a4 := mul_nonneg' hw.2 (show 0 ≤ - crs u v by omega)
    rw [Int.mul_neg] at a1 a2 a3 a4
    rcases h with h | h
    · have z1 : w.1 * crs u v = 0 := by omega
      have z2 : w.2 * crs u v = 0 := by omega
      rcases Int.mul_eq_zero.mp z1 with q | q
      · rcases Int.mul_eq_zero.mp z2 with q' | q'
        · omega
        · omega
      · omega
    · have z1 : u.1 * crs v w = 0 := by omega
      have z2 : u.2 * crs v w = 0 := by omega
      rcases Int.mul_eq_zero.mp z1 with q | q
      · rcases Int.mul_eq_zero.mp z2 with q' | q'
        · omega
        · omega
      · omega
theorem trn_crs (a m c : Pt) : trn a m c = crs (dif a m) (dif a c) := rfl
theorem trn_crs2 (a m c : Pt) : trn a m c = crs (dif a m) (dif m c) := by unfold trn crs dif; grind
/-! ### the stack, its top first -/
def popM : List Pt → Pt → List Pt
  | t :: s :: r, c => if 0 ≤ trn s t c then popM (s :: r) c else t :: s :: r
  | st, _ => st
def stackM (P : List Pt) : List Pt := P.foldl (fun st c => c :: popM st c) []
def cornM (P : List Pt) : List Pt := (stackM P).reverse
/-- strictly falling steps -/
def Ch : List Pt → Prop
  | [] => True
  | [_] => True
  | [t, s] => lt2 s t
  | t :: s :: r :: st => lt2 s t ∧ trn r s t < 0 ∧ Ch (s :: r :: st)
theorem Ch.tail {t : Pt} : ∀ {st : List Pt}, Ch (t :: st) → Ch st
  | [], _ => trivial
  | [_], _ => trivial
  | _ :: _ :: _, h => h.2.2
theorem Ch.step {t s : Pt} : ∀ {st : List Pt}, Ch (t :: s :: st) → lt2 s t
  | [], h => h
  | _ :: _, h => h.1
/-- all points between two neighbours lie under the line -/
def Und (Q : List Pt) : List Pt → Prop
  | t :: s :: r => (∀ p ∈ Q, le2 s p → le2 p t → trn s t p ≤ 0) ∧ Und Q (s :: r)
  | _ => True
theorem Und.tail {Q : List Pt} {t : Pt} : ∀ {st : List Pt}, Und Q (t :: st) → Und Q st
  | [], _ => trivial
  | _ :: _, h => h.2
/-- a point beyond the top lies between no two of the stack -/
theorem Und.add {Q : List Pt} {c : Pt} : ∀ {st : List Pt}, Und Q st → (∀ s ∈ st, lt2 s c) → Und (Q ++ [c]) st
  | [], _, _ => trivial
  | [_], _, _ => trivial
  | t :: s :: r, h, hl => by
    refine ⟨fun p hp h1 h2 => ?_, Und.add (st := s :: r) h.2 fun x hx => hl x (by simp [hx])⟩
    rcases List.mem_append.mp hp with q | q
    · exact h.1 p q h1 h2
    · rw [List.mem_singleton.mp q] at h2
      have := hl t (by simp)
      unfold lt2 at this
      unfold le2 at h2
      omega
/-- the middle one goes: the others stay under the longer line -/
theorem under_pop {s t c p : Pt} (hst : lt2 s t) (htc : lt2 t c) (hl : 0 ≤ trn s t c) (hp : (le2 s p ∧ le2 p t ∧ trn s t p ≤ 0) ∨ (le2 t p ∧ le2 p c ∧ trn t c p ≤ 0)) : trn s c p ≤ 0 := by
  have q1 := qd_dif hst.le
  have q2 := qd_dif htc.le
  have n1 : 0 < (dif s t).1 + (dif s t).2 := by unfold lt2 at hst; unfold dif; dsimp only; omega
  have n2 : 0 < (dif t c).1 + (dif t c).2 := by unfold lt2 at htc; unfold dif; dsimp only; omega
  rw [trn_crs2] at hl
  rcases hp with ⟨h1, h2, h3⟩ | ⟨h1, h2, h3⟩
  · rw [trn_crs] at h3 ⊢
    have e : crs (dif s c) (dif s t) ≤ 0 := by
      have : crs (dif s c) (dif s t) = - crs (dif s t) (dif t c) := by unfold crs dif; grind
      omega
    exact crs_trans (qd_dif (hst.trans htc).le) (qd_dif h1) q1 n1 e h3
  · have e1 : trn s c p = crs (dif t c) (dif t p) + (crs (dif s t) (dif t p) - crs (dif s t) (dif t c)) := by unfold trn crs dif; grind
    have e2 : crs (dif s t) (dif t c) - crs (dif s t) (dif t p) = crs (dif s t) (dif p c) := by unfold crs dif; grind
    rw [trn_crs] at h3
    have q3 : 0 ≤ crs (dif s t) (dif p c) := by
      have a : crs (dif p c) (dif t c) ≤ 0 := by
        have : crs (dif p c) (dif t c) = crs (dif t c) (dif t p) := by unfold crs dif; grind
        omega
      have b : crs (dif t c) (dif s t) ≤ 0 := by
        rw [crs_neg (dif s t) (dif t c)]; omega
      have := crs_trans (qd_dif h2) q1 q2 n2 a b
      rw [crs_neg (dif s t) (dif p c)] at this
      omega
    omega
theorem pop_sub {c : Pt} : ∀ {st : List Pt}, ∀ x ∈ popM st c, x ∈ st
  | [], _, h => h
  | [_], _, h => h
  | t :: s :: r, x, h => by
    unfold popM at h
    split at h
    · exact List.mem_cons_of_mem _ (pop_sub (st := s :: r) x h)
    · exact h
theorem pop_len {c : Pt} : ∀ {st : List Pt}, (popM st c).length ≤ st.length
  | [] => Nat.le_refl _
  | [_] => Nat.le_refl _
  | t :: s :: r => by
    unfold popM
    split
    · have := pop_len (c := c) (st := s :: r)
      simp only [List.length_cons] at this ⊢
      omega
    · exact Nat.le_refl _
theorem pop_last {c : Pt} : ∀ {st : List Pt}, (popM st c).getLast? = st.getLast?
  | [] => rfl
  | [_] => rfl
  | t :: s :: r => by
    unfold popM
    split
    · rw [pop_last (st := s :: r)]; simp
    · rfl
/-- what the turns for a new point keep: Q the points so far -/
theorem pop_ok {Q : List Pt} {c : Pt} : ∀ {st : List Pt}, Ch st → Und Q st → (∀ s ∈ st, lt2 s c) → (∀ t r, st = t :: r → ∀ p ∈ Q, le2 t p → le2 p c → trn t c p ≤ 0) →
    (∀ p ∈ Q, ∀ t ∈ st, le2 p t ∨ le2 t p) → Ch (c :: popM st c) ∧ Und Q (c :: popM st c)
  | [], _, _, _, _, _ => ⟨trivial, trivial⟩
  | [t], _, _, hl, hp, _ => ⟨hl t (by simp), ⟨fun p q => hp t [] rfl p q, trivial⟩⟩
  | t :: s :: r, hc, hu, hl, hp, ho => by
    unfold popM
    have hst := hc.step
    have htc := hl t (by simp)
    split
    · rename_i h
      refine pop_ok (st := s :: r) hc.tail hu.2 (fun x hx => hl x (by simp [hx])) (fun t' r' e p q h1 h2 => ?_) fun p q x hx => ho p q x (by simp [hx])
      cases e
      rcases ho p q t (by simp) with k | k
      · exact under_pop hst htc h (.inl ⟨h1, k, hu.1 p q h1 k⟩)
      · exact under_pop hst htc h (.inr ⟨k, h2, hp t _ rfl p q k h2⟩)
    · rename_i h
      exact ⟨⟨htc, by omega, hc⟩, ⟨fun p q => hp t _ rfl p q, hu⟩⟩
structure StOk (Q st : List Pt) : Prop where
  ch : Ch st
  un : Und Q st
  sub : ∀ x ∈ st, x ∈ Q
  top : st.head? = Q.getLast?
  bot : st.getLast? = Q.head?
theorem stack_ok : ∀ (P Q st : List Pt), (Q ++ P).Pairwise lt2 → StOk Q st → StOk (Q ++ P) (P.foldl (fun st c => c :: popM st c) st)
  | [], Q, st, _, h => by rw [List.append_nil]; exact h
  | c :: P, Q, st, hp, h => by
    rw [List.foldl_cons]
    have e : Q ++ c :: P = (Q ++ [c]) ++ P := by simp
    rw [e] at hp ⊢
    have hQ := (List.pairwise_append.mp hp).1
    have hQc : ∀ x ∈ Q, lt2 x c := fun x hx => (List.pairwise_append.mp hQ).2.2 x hx c (by simp)
    have hQQ := (List.pairwise_append.mp hQ).1
    have lin : ∀ p ∈ Q, ∀ t ∈ Q, le2 p t ∨ le2 t p := fun p hp t ht => by
      obtain ⟨i, hi, rfl⟩ := List.mem_iff_getElem.mp hp
      obtain ⟨j, hj, rfl⟩ := List.mem_iff_getElem.mp ht
      have w := List.pairwise_iff_getElem.mp hQQ
      rcases Nat.lt_trichotomy i j with q | q | q
      · exact .inl (w i j hi hj q).le
      · subst q; exact .inl le2.rfl'
      · exact .inr (w j i hj hi q).le
    refine stack_ok P (Q ++ [c]) (c :: popM st c) hp ?_
    have k := pop_ok (Q := Q) (c := c) h.ch h.un (fun s hs => hQc s (h.sub s hs)) (fun t r e p hp h1 h2 => ?_) fun p hp t ht => lin p hp t (h.sub t ht)
    · refine ⟨k.1, ?_, fun x hx => ?_, ?_, ?_⟩
      · -- c itself
        cases hq : popM st c with
        | nil => exact trivial
        | cons t r =>
          rw [hq] at k
          refine ⟨fun p hp h1 h2 => ?_, ?_⟩
          · rcases List.mem_append.mp hp with q | q
            · exact k.2.1 p q h1 h2
            · rw [List.mem_singleton.mp q]
              have : trn t c c = 0 := by unfold trn; rw [Int.mul_comm (c.2 - t.2)]; omega
              omega
          · exact Und.add k.2.2 fun x hx => hQc x (h.sub x (pop_sub x (by rw [hq]; exact hx)))
      · rcases List.mem_cons.mp hx with q | q
        · rw [q]; simp
        · exact List.mem_append_left _ (h.sub x (pop_sub x q))
      · simp
      · cases hs : st with
        | nil =>
          have : Q = [] := by
            have := h.bot
            rw [hs] at this
            cases Q with
            | nil => rfl
            | cons a b => simp at this
          subst this
          simp [popM]
        | cons t r =>
          have hb := h.bot
          rw [← hs, List.getLast?_cons, pop_last, hb]
          cases Q with
          | nil => rw [hs] at hb; simp at hb
          | cons a b => simp
    · -- between the top and c stands the top alone
      have ht := h.top
      rw [e] at ht
      have ht : some t = Q.getLast? := by simpa using ht
      have pt : le2 p t := by
        obtain ⟨i, hi, rfl⟩ := List.mem_iff_getElem.mp hp
        have w := List.pairwise_iff_getElem.mp hQQ
        rw [List.getLast?_eq_getElem?] at ht
        obtain ⟨hl, et⟩ := List.getElem?_eq_some_iff.mp ht.symm
        by_cases q : i = Q.length - 1
        · subst q; rw [et]; exact le2.rfl'
        · have := (w i (Q.length - 1) hi hl (by omega)).le
          rw [et] at this
          exact this
      have e1 : p = t := by unfold le2 at pt h1; exact Prod.ext (by omega) (by omega)
      rw [e1]
      have : trn t c t = 0 := by unfold trn; simp
      omega
theorem stackM_ok {P : List Pt} (h : P.Pairwise lt2) : StOk P (stackM P) := by
  have := stack_ok P [] [] (by simpa using h) ⟨trivial, trivial, by simp, rfl, rfl⟩
  rw [List.nil_append] at this
  exact this
/-! ### by places -/
def gt (C : List Pt) (i : Nat) : Pt := C.getD i (0, 0)
theorem gt_of {C : List Pt} {i : Nat} (h : i < C.length) : C[i]? = some (gt C i) := by
  unfold gt
  rw [List.getD_eq_getElem?_getD, List.getElem?_eq_getElem h]
  rfl
theorem gt_mem {C : List Pt} {i : Nat} (h : i < C.length) : gt C i ∈ C := List.mem_of_getElem? (gt_of h)
theorem gt_succ {x : Pt} {C : List Pt} {i : Nat} : gt (x :: C) (i + 1) = gt C i := by unfold gt; simp
theorem gt_zero {x : Pt} {C : List Pt} : gt (x :: C) 0 = x := rfl
theorem ch_lt : ∀ {st : List Pt}, Ch st → ∀ j, j + 1 < st.length → lt2 (gt st (j + 1)) (gt st j)
  | [], _, j, h => by simp at h
  | [_], _, j, h => by simp at h
  | t :: s :: r, c, 0, _ => c.step
  | t :: s :: r, c, j + 1, h => by
    rw [gt_succ, gt_succ]
    exact ch_lt (st := s :: r) c.tail j (by simpa using h)
theorem ch_turn : ∀ {st : List Pt}, Ch st → ∀ j, j + 2 < st.length → trn (gt st (j + 2)) (gt st (j + 1)) (gt st j) < 0
  | [], _, j, h => by simp at h
  | [_], _, j, h => by simp at h
  | [_, _], _, j, h => by simp at h; omega
  | t :: s :: r :: st, c, 0, _ => c.2.1
  | t :: s :: r :: st, c, j + 1, h => by
    rw [gt_succ, gt_succ, gt_succ]
    exact ch_turn (st := s :: r :: st) c.tail j (by simpa using h)
theorem und_at {Q : List Pt} : ∀ {st : List Pt}, Und Q st → ∀ j, j + 1 < st.length → ∀ p ∈ Q, le2 (gt st (j + 1)) p → le2 p (gt st j) → trn (gt st (j + 1)) (gt st j) p ≤ 0
  | [], _, j, h => by simp at h
  | [_], _, j, h => by simp at h
  | t :: s :: r, c, 0, _ => c.1
  | t :: s :: r, c, j + 1, h => by
    rw [gt_succ, gt_succ]
    exact und_at (st := s :: r) c.tail j (by simpa using h)
structure Hull (P C : List Pt) : Prop where
  pos : 0 < C.length
  sub : ∀ x ∈ C, x ∈ P
  up : ∀ i, i + 1 < C.length → lt2 (gt C i) (gt C (i + 1))
  tn : ∀ i, i + 2 < C.length → trn (gt C i) (gt C (i + 1)) (gt C (i + 2)) < 0
  un : ∀ i, i + 1 < C.length → ∀ p ∈ P, le2 (gt C i) p → le2 p (gt C (i + 1)) → trn (gt C i) (gt C (i + 1)) p ≤ 0
  fst : C.head? = P.head?
  lst : C.getLast? = P.getLast?
  lin : ∀ p ∈ P, ∀ q ∈ P, le2 p q ∨ le2 q p
theorem lin_of {Q : List Pt} (hQQ : Q.Pairwise lt2) : ∀ p ∈ Q, ∀ t ∈ Q, le2 p t ∨ le2 t p := fun p hp t ht => by
  obtain ⟨i, hi, rfl⟩ := List.mem_iff_getElem.mp hp
  obtain ⟨j, hj, rfl⟩ := List.mem_iff_getElem.mp ht
  have w := List.pairwise_iff_getElem.mp hQQ
  rcases Nat.lt_trichotomy i j with q | q | q
  · exact .inl (w i j hi hj q).le
  · subst q; exact .inl le2.rfl'
  · exact .inr (w j i hj hi q).le
theorem gt_rev {st : List Pt} {i : Nat} (h : i < st.length) : gt st.reverse i = gt st (st.length - 1 - i) := by
  have e := gt_of (C := st.reverse) (i := i) (by rw [List.length_reverse]; exact h)
  rw [List.getElem?_reverse h, gt_of (by omega)] at e
  exact (Option.some.inj e).symm
theorem cornM_hull {P : List Pt} (h : P.Pairwise lt2) (hn : P ≠ []) : Hull P (cornM P) := by
  have k := stackM_ok h
  have hl : 0 < (stackM P).length := by
    cases hs : stackM P with
    | nil =>
      have b := k.bot
      rw [hs] at b
      cases P with
      | nil => exact absurd rfl hn
      | cons a r => simp at b
    | cons a r => simp
  have hr : (cornM P).length = (stackM P).length := List.length_reverse
  have at_ : ∀ i, i < (stackM P).length → gt (cornM P) i = gt (stackM P) ((stackM P).length - 1 - i) := fun i hi => gt_rev hi
  refine ⟨by rw [hr]; exact hl, fun x hx => k.sub x (List.mem_reverse.mp hx), fun i hi => ?_, fun i hi => ?_, fun i hi p hp h1 h2 => ?_, ?_, ?_, lin_of h⟩
  · rw [hr] at hi
    rw [at_ i (by omega), at_ (i + 1) hi]
    have := ch_lt k.ch ((stackM P).length - 1 - (i + 1)) (by omega)
    rw [show (stackM P).length - 1 - (i + 1) + 1 = (stackM P).length - 1 - i by omega] at this
    exact this
  · rw [hr] at hi
    rw [at_ i (by omega), at_ (i + 1) (by omega), at_ (i + 2) hi]
    have := ch_turn k.ch ((stackM P).length - 1 - (i + 2)) (by omega)
    rw [show (stackM P).length - 1 - (i + 2) + 2 = (stackM P).length - 1 - i by omega, show (stackM P).length - 1 - (i + 2) + 1 = (stackM P).length - 1 - (i + 1) by omega] at this
    exact this
  · rw [hr] at hi
    rw [at_ i (by omega)] at h1 ⊢
    rw [at_ (i + 1) hi] at h2 ⊢
    have := und_at k.un ((stackM P).length - 1 - (i + 1)) (by omega) p hp
    rw [show (stackM P).length - 1 - (i + 1) + 1 = (stackM P).length - 1 - i by omega] at this
    exact this h1 h2
  · unfold cornM
    rw [List.head?_reverse]
    exact k.bot
  · unfold cornM
    rw [List.getLast?_reverse]
    exact k.top
/-! ### the greatest value m.1 * y - m.2 * x -/
theorem crs_dif (m a b : Pt) : crs m (dif a b) = crs m b - crs m a := by unfold crs dif; grind
theorem edge_max {m s t p : Pt} (hm : qd m) (hst : lt2 s t) (h1 : le2 s p) (h2 : le2 p t) (h : trn s t p ≤ 0) : crs m p ≤ crs m s ∨ crs m p ≤ crs m t := by
  have q1 := qd_dif hst.le
  have n1 : 0 < (dif s t).1 + (dif s t).2 := by unfold lt2 at hst; unfold dif; dsimp only; omega
  by_cases c : crs m (dif s t) ≤ 0
  · left
    have := crs_trans hm (qd_dif h1) q1 n1 c (by rw [← trn_crs]; exact h)
    rw [crs_dif] at this
    omega
  · right
    have e : crs (dif p t) (dif s t) ≤ 0 := by
      have : crs (dif p t) (dif s t) = trn s t p := by unfold trn crs dif; grind
      omega
    have e2 : crs (dif s t) m ≤ 0 := by rw [crs_neg m]; omega
    have := crs_trans (qd_dif h2) hm q1 n1 e e2
    rw [crs_neg m, crs_dif] at this
    omega
section
variable {P C : List Pt} (H : Hull P C)
/-- every point lies between two neighbours (or is the only corner) -/
theorem Hull.between {p : Pt} (H : Hull P C) (hP : P.Pairwise lt2) (hp : p ∈ P) : (p = gt C 0 ∧ C.length = 1) ∨ ∃ i, i + 1 < C.length ∧ le2 (gt C i) p ∧ le2 p (gt C (i + 1)) := by
  have c0 : le2 (gt C 0) p := by
    have hf := H.fst
    have e : C.head? = some (gt C 0) := by rw [List.head?_eq_getElem?]; exact gt_of H.pos
    rw [e] at hf
    cases P with
    | nil => simp at hp
    | cons a r =>
      have ea : gt C 0 = a := by simpa using hf
      rw [ea]
      rcases List.mem_cons.mp hp with q | q
      · rw [q]; exact le2.rfl'
      · exact ((List.pairwise_cons.mp hP).1 p q).le
  have cl : le2 p (gt C (C.length - 1)) := by
    have hf := H.lst
    rw [List.getLast?_eq_getElem?, gt_of (by have := H.pos; omega)] at hf
    obtain ⟨i, hi, rfl⟩ := List.mem_iff_getElem.mp hp
    rw [List.getLast?_eq_getElem?] at hf
    obtain ⟨hl, et⟩ := List.getElem?_eq_some_iff.mp hf.symm
    rw [← et]
    by_cases q : i = P.length - 1
    · subst q; exact le2.rfl'
    · exact (List.pairwise_iff_getElem.mp hP i (P.length - 1) hi hl (by omega)).le
  have go : ∀ n, n < C.length → le2 p (gt C n) → (p = gt C 0) ∨ ∃ i, i + 1 ≤ n ∧ le2 (gt C i) p ∧ le2 p (gt C (i + 1)) := by
    intro n
    induction n with
    | zero => intro _ h; left; unfold le2 at c0 h; exact Prod.ext (by omega) (by omega)
    | succ n ih =>
      intro hn h
      rcases H.lin p hp (gt C n) (H.sub _ (gt_mem (by omega))) with q | q
      · rcases ih (by omega) q with z | ⟨i, h1, h2⟩
        · exact .inl z
        · exact .inr ⟨i, by omega, h2⟩
      · exact .inr ⟨n, by omega, q, h⟩
  have hp0 := H.pos
  rcases go (C.length - 1) (by omega) cl with z | ⟨i, h1, h2⟩
  · by_cases q : C.length = 1
    · exact .inl ⟨z, q⟩
    · refine .inr ⟨0, by omega, c0, ?_⟩
      rw [z]
      exact (H.up 0 (by omega)).le
  · exact .inr ⟨i, by omega, h2⟩
/-- the greatest value stands at a corner -/
theorem Hull.max_at {m p : Pt} (H : Hull P C) (hP : P.Pairwise lt2) (hm : qd m) (hp : p ∈ P) : ∃ c ∈ C, crs m p ≤ crs m c := by
  rcases H.between hP hp with ⟨e, _⟩ | ⟨i, hi, h1, h2⟩
  · exact ⟨_, gt_mem H.pos, by rw [e]; exact Int.le_refl _⟩
  · rcases edge_max hm (H.up i hi) h1 h2 (H.un i hi p hp h1 h2) with q | q
    · exact ⟨_, gt_mem (by omega), q⟩
    · exact ⟨_, gt_mem hi, q⟩
theorem Hull.nz (H : Hull P C) {i : Nat} (hi : i + 1 < C.length) : qd (dif (gt C i) (gt C (i + 1))) ∧ 0 < (dif (gt C i) (gt C (i + 1))).1 + (dif (gt C i) (gt C (i + 1))).2 := by
  have u := H.up i hi
  refine ⟨qd_dif u.le, ?_⟩
  unfold lt2 at u
  unfold dif
  dsimp only
  omega
/-- the steps of the value fall -/
theorem Hull.fall {m : Pt} (H : Hull P C) (hm : qd m) {i : Nat} (hi : i + 2 < C.length) (h : crs m (gt C (i + 1)) ≤ crs m (gt C i)) : crs m (gt C (i + 2)) ≤ crs m (gt C (i + 1)) := by
  have a := H.nz (i := i) (by omega)
  have b : qd (dif (gt C (i + 1)) (gt C (i + 2))) ∧ 0 < (dif (gt C (i + 1)) (gt C (i + 2))).1 + (dif (gt C (i + 1)) (gt C (i + 2))).2 := H.nz (i := i + 1) (by omega)
  have t := H.tn i hi
  rw [trn_crs2] at t
  have := crs_trans hm b.1 a.1 a.2 (by rw [crs_dif]; omega) (by omega)
  rw [crs_dif] at this
  omega
theorem Hull.fall_lt {m : Pt} (H : Hull P C) (hm : qd m) (nm : 0 < m.1 + m.2) {i : Nat} (hi : i + 2 < C.length) (h : crs m (gt C (i + 1)) ≤ crs m (gt C i)) : crs m (gt C (i + 2)) < crs m (gt C (i + 1)) := by
  have a := H.nz (i := i) (by omega)
  have b : qd (dif (gt C (i + 1)) (gt C (i + 2))) ∧ 0 < (dif (gt C (i + 1)) (gt C (i + 2))).1 + (dif (gt C (i + 1)) (gt C (i + 2))).2 := H.nz (i := i + 1) (by omega)
  have t := H.tn i hi
  rw [trn_crs2] at t
  have := crs_trans_lt hm b.1 a.1 nm a.2 b.2 (by rw [crs_dif]; omega) (by omega) (.inr t)
  rw [crs_dif] at this
  omega
theorem Hull.rise {m : Pt} (H : Hull P C) (hm : qd m) {i : Nat} (hi : i + 2 < C.length) (h : crs m (gt C (i + 1)) ≤ crs m (gt C (i + 2))) : crs m (gt C i) ≤ crs m (gt C (i + 1)) := by
  have a := H.nz (i := i) (by omega)
  have b : qd (dif (gt C (i + 1)) (gt C (i + 2))) ∧ 0 < (dif (gt C (i + 1)) (gt C (i + 2))).1 + (dif (gt C (i + 1)) (gt C (i + 2))).2 := H.nz (i := i + 1) (by omega)
  have t := H.tn i hi
  rw [trn_crs2] at t
  have := crs_trans a.1 hm b.1 b.2 (by omega) (by rw [crs_neg m, crs_dif]; omega)
  rw [crs_neg m, crs_dif] at this
  omega
theorem Hull.rise_lt {m : Pt} (H : Hull P C) (hm : qd m) (nm : 0 < m.1 + m.2) {i : Nat} (hi : i + 2 < C.length) (h : crs m (gt C (i + 1)) ≤ crs m (gt C (i + 2))) : crs m (gt C i) < crs m (gt C (i + 1)) := by
  have a := H.nz (i := i) (by omega)
  have b : qd (dif (gt C (i + 1)) (gt C (i + 2))) ∧ 0 < (dif (gt C (i + 1)) (gt C (i + 2))).1 + (dif (gt C (i + 1)) (gt C (i + 2))).2 := H.nz (i := i + 1) (by omega)
  have t := H.tn i hi
  rw [trn_crs2] at t
  have := crs_trans_lt a.1 hm b.1 a.2 b.2 nm (by omega) (by rw [crs_neg m, crs_dif]; omega) (.inl t)
  rw [crs_neg m, crs_dif] at this
  omega
/-- no less behind, no less ahead: nowhere more -/
theorem Hull.behind {m : Pt} (H : Hull P C) (hm : qd m) {k : Nat} (h : k + 1 < C.length → crs m (gt C (k + 1)) ≤ crs m (gt C k)) : ∀ n, k + n < C.length → crs m (gt C (k + n)) ≤ crs m (gt C k) ∧ (k + n + 1 < C.length → crs m (gt C (k + n + 1)) ≤ crs m (gt C (k + n)))
  | 0, _ => ⟨Int.le_refl _, h⟩
  | n + 1, hn => by
    have ih := Hull.behind H hm h n (by omega)
    have s := ih.2 (by omega)
    refine ⟨by rw [show k + (n + 1) = k + n + 1 by omega]; omega, fun q => ?_⟩
    exact H.fall hm (i := k + n) q s
theorem Hull.ahead {m : Pt} (H : Hull P C) (hm : qd m) {k : Nat} (hk : k < C.length) (h : ∀ j, j + 1 = k → crs m (gt C j) ≤ crs m (gt C k)) : ∀ n j, j + n = k → crs m (gt C j) ≤ crs m (gt C k) ∧ (∀ i, i + 1 = j → crs m (gt C i) ≤ crs m (gt C j))
  | 0, j, e => by
    have e : j = k := by omega
    subst e
    exact ⟨Int.le_refl _, h⟩
  | n + 1, j, e => by
    have ih := Hull.ahead H hm hk h n (j + 1) (by omega)
    have s := ih.2 j rfl
    refine ⟨by omega, fun i ei => ?_⟩
    subst ei
    exact H.rise hm (i := i) (by omega) s
theorem Hull.local_max {m : Pt} (H : Hull P C) (hm : qd m) {k : Nat} (hk : k < C.length) (h1 : k + 1 < C.length → crs m (gt C (k + 1)) ≤ crs m (gt C k)) (h2 : ∀ j, j + 1 = k → crs m (gt C j) ≤ crs m (gt C k)) : ∀ c ∈ C, crs m c ≤ crs m (gt C k) := fun c hc => by
  obtain ⟨i, hi, e⟩ := List.mem_iff_getElem.mp hc
  have e : gt C i = c := by
    have := gt_of hi
    rw [List.getElem?_eq_getElem hi, e] at this
    exact (Option.some.inj this).symm
  rw [← e]
  by_cases q : k ≤ i
  · have := (H.behind hm h1 (i - k) (by omega)).1
    rw [show k + (i - k) = i by omega] at this
    exact this
  · exact (H.ahead hm hk h2 (k - i) i (by omega)).1
end
/-! ### places from the end, cuts -/
def Bd (p : Pt) : Prop := (0 ≤ p.1 ∧ p.1 ≤ 1000) ∧ 0 ≤ p.2 ∧ p.2 ≤ 1000
theorem mul_b {a i : Int} (h0 : -1000000000 ≤ a) (h1 : a ≤ 1000000000) : mulD (.int a) (.int i) = some (.int (a * i)) := by
  have q : big64 a = true := big64_iff.mpr ⟨by omega, by omega⟩
  show (if (big64 a || big64 i) = true then some (PyData.int (a * i)) else none) = _
  rw [q, if_pos (by simp)]
theorem atI_m1 {α : Type} {x : α} {r : List α} : atI (r ++ [x]) (-1) = some x := by
  rw [atI_last (by simp)]
  simp
theorem atI_m2 {α : Type} {x y : α} {r : List α} : atI (r ++ [x, y]) (-2) = some x := by
  unfold atI ixN
  rw [List.length_append, if_neg (by decide), if_pos (by simp; omega)]
  have e : (-2 + ((r.length + [x, y].length : Nat) : Int)).toNat = r.length := by simp; omega
  show (r ++ [x, y])[(-2 + ((r.length + [x, y].length : Nat) : Int)).toNat]? = _
  rw [e]
  simp
theorem atI_nat {α : Type} {xs : List α} {i : Nat} (h : i < xs.length) : atI xs (i : Int) = xs[i]? := by
  unfold atI ixN
  rw [if_pos (by omega), if_pos (by omega)]
  rfl
theorem cutL_m1 {α : Type} {x : α} {r : List α} : cutL (r ++ [x]) none (some (-1)) = r := by
  unfold cutL HT.sIx
  simp
  rw [show (-1 + ((r.length : Int) + 1)).toNat = r.length by omega]
  simp
theorem lenD_map {α : Type} (f : α → D) (l : List α) : lenD [.list (l.map f)] = some (.int (l.length : Nat)) := by
  show some (PyData.int ((l.map f).length : Nat)) = _
  rw [List.length_map]
theorem pts_bd {l : List (Int × Bool)} (h : Val l) : ∀ p ∈ pts l, Bd p := fun p hp => by
  have := (pts_val h).rg p hp
  unfold Bd
  omega
theorem pts_lt2 {l : List (Int × Bool)} (h : Val l) : (pts l).Pairwise lt2 := pts_pair h
theorem pts_hull {l : List (Int × Bool)} (h : Val l) : Hull (pts l) (cornM (pts l)) := cornM_hull (pts_lt2 h) (by simp [pts])
theorem loopW_T {S : Type} {f : FT S} {F : FS S} {ρ ρ2 : Env} {s s1 s2 : S} {n : Nat} (a : f ρ s = .ok true s1) (b : F ρ s1 = .nx ρ2 s2) : loopW f F (n + 1) ρ s = loopW f F n ρ2 s2 := by
  rw [loopW, a]; dsimp only [Res.out]; rw [if_pos rfl, b]
theorem loopW_F {S : Type} {f : FT S} {F : FS S} {ρ : Env} {s s1 : S} {n : Nat} (a : f ρ s = .ok false s1) : loopW f F (n + 1) ρ s = .nx ρ s1 := by
  rw [loopW, a]; dsimp only [Res.out]; rw [if_neg Bool.false_ne_true]
end DL

namespace DL
open PySem L2
/-! ### costs of points -/
def pc (a b F : Int) (p : Pt) : Int := a * p.1 + b * (F - p.2)
theorem zipL_self {α : Type} {f g : α → D} : ∀ xs : List α, zipL (xs.map f) (xs.map g) = xs.map fun x => PyData.tuple [f x, g x]
  | [] => rfl
  | x :: xs => by
    have ih := zipL_self (f := f) (g := g) xs
    unfold zipL at ih ⊢
    rw [List.map_cons, List.map_cons, List.zip_cons_cons, List.map_cons, ih]
    rfl
theorem minCost_pts {l : List (Int × Bool)} (h : Val l) (a b : Int) : minCost l a b = ((pts l).map (pc a b (cnt l 0).2)).min? := by
  unfold minCost pts
  rw [List.map_cons, List.map_cons, List.map_map]
  have e : cost l a b 100 = pc a b (cnt l 0).2 (0, 0) := by
    unfold cost pc
    rw [cnt_top h (Int.le_refl 100)]
  rw [e]
  rfl
theorem cost_pc (l : List (Int × Bool)) (a b t : Int) : cost l a b t = pc a b (cnt l 0).2 (cnt l t) := rfl
/-- the least of all thresholds -/
theorem minT {l : List (Int × Bool)} (h : Val l) {a b m : Int} (hm : minCost l a b = some m) : ((List.range 101).map fun i : Nat => cost l a b (0 + (i : Int))).min? = some m := by
  obtain ⟨m', e, ⟨t, t0, t1, et⟩, le⟩ := minCost_is h a b
  rw [e] at hm
  cases hm
  refine List.min?_eq_some_iff.mpr ⟨?_, ?_⟩
  · refine List.mem_map.mpr ⟨t.toNat, List.mem_range.mpr (by omega), ?_⟩
    rw [show (0 + (t.toNat : Int)) = t by omega]
    exact et
  · intro x hx
    obtain ⟨i, hi, rfl⟩ := List.mem_map.mp hx
    exact le _ (by omega)
theorem pc_crs (a b F : Int) (p : Pt) : pc a b F p = b * F - crs (b, a) p := by unfold pc crs; grind
theorem minP {l : List (Int × Bool)} (h : Val l) {a b m : Int} (hm : minCost l a b = some m) : (∃ p ∈ pts l, pc a b (cnt l 0).2 p = m) ∧ ∀ p ∈ pts l, m ≤ pc a b (cnt l 0).2 p := by
  rw [minCost_pts h] at hm
  obtain ⟨h1, h2⟩ := List.min?_eq_some_iff.mp hm
  obtain ⟨p, hp, e⟩ := List.mem_map.mp h1
  exact ⟨⟨p, hp, e⟩, fun q hq => h2 _ (List.mem_map.mpr ⟨q, hq, rfl⟩)⟩
/-- a corner costs least -/
theorem corner_best {l : List (Int × Bool)} (h : Val l) {a b m : Int} (ha : 0 ≤ a) (hb : 0 ≤ b) (hm : minCost l a b = some m) : ∃ c ∈ cornM (pts l), c ∈ pts l ∧ pc a b (cnt l 0).2 c = m := by
  obtain ⟨⟨p, hp, ep⟩, le⟩ := minP h hm
  have H := pts_hull h
  obtain ⟨c, hc, q⟩ := H.max_at (pts_lt2 h) (m := (b, a)) ⟨hb, ha⟩ hp
  refine ⟨c, hc, H.sub c hc, ?_⟩
  have := le c (H.sub c hc)
  rw [pc_crs] at ep this ⊢
  omega
/-- a corner is best where both its neighbours are no better -/
theorem corner_iff {l : List (Int × Bool)} (h : Val l) {a b m : Int} (ha : 0 ≤ a) (hb : 0 ≤ b) (hm : minCost l a b = some m) {k : Nat} (hk : k < (cornM (pts l)).length) :
    pc a b (cnt l 0).2 (gt (cornM (pts l)) k) = m ↔ (∀ j, j + 1 = k → a * (dif (gt (cornM (pts l)) j) (gt (cornM (pts l)) k)).1 ≤ b * (dif (gt (cornM (pts l)) j) (gt (cornM (pts l)) k)).2) ∧
      (k + 1 < (cornM (pts l)).length → b * (dif (gt (cornM (pts l)) k) (gt (cornM (pts l)) (k + 1))).2 ≤ a * (dif (gt (cornM (pts l)) k) (gt (cornM (pts l)) (k + 1))).1) := by
  have H := pts_hull h
  obtain ⟨⟨p, hp, ep⟩, le⟩ := minP h hm
  have qm : qd ((b, a) : Pt) := ⟨hb, ha⟩
  have val : ∀ x y : Pt, crs (b, a) y - crs (b, a) x = b * (dif x y).2 - a * (dif x y).1 := fun x y => by rw [← crs_dif]; rfl
  constructor
  · intro e
    rw [pc_crs] at e
    refine ⟨fun j ej => ?_, fun hn => ?_⟩
    · have := le (gt (cornM (pts l)) j) (H.sub _ (gt_mem (by omega)))
      rw [pc_crs] at this
      have v := val (gt (cornM (pts l)) j) (gt (cornM (pts l)) k)
      omega
    · have := le (gt (cornM (pts l)) (k + 1)) (H.sub _ (gt_mem hn))
      rw [pc_crs] at this
      have v := val (gt (cornM (pts l)) k) (gt (cornM (pts l)) (k + 1))
      omega
  · rintro ⟨h1, h2⟩
    have mx := H.local_max qm hk (fun hn => by have := h2 hn; have v := val (gt (cornM (pts l)) k) (gt (cornM (pts l)) (k + 1)); omega) fun j ej => by have := h1 j ej; have v := val (gt (cornM (pts l)) j) (gt (cornM (pts l)) k); omega
    obtain ⟨c, hc, q⟩ := H.max_at (pts_lt2 h) qm hp
    have := mx c hc
    have l2 := le (gt (cornM (pts l)) k) (H.sub _ (gt_mem hk))
    rw [pc_crs] at ep l2 ⊢
    omega
/-! ### ranges of costs -/
def optP : Option Pt → D
  | some p => ePt p
  | none => .none
theorem eqE_optP : EqE optP := fun x y => by
  cases x with
  | none => cases y <;> simp [optP, ePt, PyData.eqv]
  | some p =>
    cases y with
    | none => simp [optP, ePt, PyData.eqv]
    | some q => show PyData.eqv (ePt p) (ePt q) = _; rw [eqE_pt p q]; by_cases h : p = q <;> simp [h]
theorem dep_optP (x : Option Pt) : (optP x).depth ≤ 1 := by cases x <;> simp [optP, ePt, PyData.depth, PyData.depthAll]
theorem ne_optP (a b : Option Pt) : neD (optP a) (optP b) = some (.bool (!decide (a = b))) := neD_of eqE_optP dep_optP (by decide) a b
def bef (C : List Pt) (k : Nat) : Option Pt := if 0 < k then some (dif (gt C (k - 1)) (gt C k)) else none
def aft (C : List Pt) (k : Nat) : Option Pt := if k + 1 < C.length then some (dif (gt C k) (gt C (k + 1))) else none
def eRg (C : List Pt) (k : Nat) : D := .tuple [ePt (gt C k), optP (bef C k), optP (aft C k)]
def slopes (C : List Pt) : List Pt := (C.zip C.tail).map fun q => dif q.1 q.2
theorem slopes_len (C : List Pt) : (slopes C).length = C.length - 1 := by unfold slopes; simp
theorem slopes_at {C : List Pt} {k : Nat} (h : k + 1 < C.length) : (slopes C)[k]? = some (dif (gt C k) (gt C (k + 1))) := by
  unfold slopes
  have e1 := gt_of (C := C) (i := k) (by omega)
  have e2 := gt_of (C := C) (i := k + 1) h
  have e3 : C.tail[k]? = some (gt C (k + 1)) := by rw [List.getElem?_tail]; exact e2
  have e4 : (C.zip C.tail)[k]? = some (gt C k, gt C (k + 1)) := List.getElem?_zip_eq_some.mpr ⟨e1, e3⟩
  rw [List.getElem?_map, e4]
  rfl
theorem enum_gt (C : List Pt) : enumL (C.map ePt) = (List.range C.length).map fun k : Nat => PyData.tuple [.int (k : Nat), ePt (gt C k)] := by
  unfold enumL
  refine List.ext_getElem? fun i => ?_
  rw [List.getElem?_map, List.getElem?_map, List.getElem?_zipIdx, List.getElem?_map]
  by_cases h : i < C.length
  · rw [gt_of h, List.getElem?_range h]
    simp
  · rw [List.getElem?_eq_none (by omega), List.getElem?_eq_none (by simp; omega)]
    rfl
theorem hull_len {l : List (Int × Bool)} (h : Val l) : (cornM (pts l)).length ≤ 25 := by
  have H := pts_hull h
  have go : ∀ i : Nat, i < (cornM (pts l)).length → (i : Int) ≤ (gt (cornM (pts l)) i).1 + (gt (cornM (pts l)) i).2 := by
    intro i
    induction i with
    | zero =>
      intro hi
      have := (pts_val h).rg _ (H.sub _ (gt_mem hi))
      omega
    | succ i ih =>
      intro hi
      have a := ih (by omega)
      have b := H.up i hi
      unfold lt2 at b
      omega
  have hp := H.pos
  have a := go ((cornM (pts l)).length - 1) (by omega)
  have b := (pts_val h).rg _ (H.sub _ (gt_mem (i := (cornM (pts l)).length - 1) (by omega)))
  omega
end DL
namespace DL
open PySem L2
section
variable {a : D} {C : List Pt} {k : Nat} {u : Sl}
/-- the two parts of a row of cost_ranges -/
theorem v2_bef (hk : k < C.length) (sl : (slopes C).length = C.length - 1) : eIf (fun ρ s => tstOf ((eOp gtD (eVar 4) (eC (.int 0))) ρ s)) (eOp ixD (eVar 2) (eOp subD (eVar 4) (eC (.int 1)))) (eC .none) [.d a, .d (ePts C), .d (ePts (slopes C)), u, .d (.int (k : Nat)), .d (ePt (gt C k)), .no, .no] () = .ok (.d (optP (bef C k))) () := by
  refine ev_eIf (b := decide ((0 : Int) < (k : Nat))) (s1 := ()) rfl ?_
  unfold bef
  by_cases h : 0 < k
  · rw [decide_eq_true (by omega), if_pos rfl, if_pos h]
    refine ev_op (s1 := ()) (x := ePts (slopes C)) (y := .int (((k - 1 : Nat) : Int))) rfl ?_ ?_
    · show Res.ok (Dv.d (.int ((k : Int) - 1))) () = _
      rw [show ((k : Int) - 1) = ((k - 1 : Nat) : Int) by omega]
    · show atI ((slopes C).map ePt) ((k - 1 : Nat) : Int) = _
      rw [DL.atI_nat (by rw [List.length_map]; omega), List.getElem?_map, slopes_at (by omega), show k - 1 + 1 = k by omega]
      rfl
  · rw [decide_eq_false (by omega), if_neg Bool.false_ne_true, if_neg h]
    rfl
theorem v2_aft (hk : k < C.length) (sl : (slopes C).length = C.length - 1) : eIf (fun ρ s => tstOf ((eOp ltD (eVar 4) (eCall lenD (aCons (eVar 2) aNil))) ρ s)) (eOp ixD (eVar 2) (eVar 4)) (eC .none) [.d a, .d (ePts C), .d (ePts (slopes C)), u, .d (.int (k : Nat)), .d (ePt (gt C k)), .no, .no] () = .ok (.d (optP (aft C k))) () := by
  refine ev_eIf (b := decide (((k : Nat) : Int) < (((slopes C).map ePt).length : Nat))) (s1 := ()) rfl ?_
  rw [List.length_map]
  unfold aft
  by_cases h : k + 1 < C.length
  · rw [decide_eq_true (by omega), if_pos rfl, if_pos h]
    refine ev_op (s1 := ()) (x := ePts (slopes C)) (y := .int ((k : Nat) : Int)) rfl rfl ?_
    show atI ((slopes C).map ePt) ((k : Nat) : Int) = _
    rw [DL.atI_nat (by rw [List.length_map]; omega), List.getElem?_map, slopes_at h]
    rfl
  · rw [decide_eq_false (by omega), if_neg Bool.false_ne_true, if_neg h]
    rfl
end
end DL
namespace DL
open PySem L2
theorem list_gt (C : List Pt) : C = (List.range C.length).map (gt C) := by
  refine List.ext_getElem? fun i => ?_
  rw [List.getElem?_map]
  by_cases h : i < C.length
  · rw [gt_of h, List.getElem?_range h]
    rfl
  · rw [List.getElem?_eq_none (by omega), List.getElem?_eq_none (by simp; omega)]
    rfl
theorem filter_gt (C : List Pt) (q : Pt → Bool) : ((List.range C.length).filter fun k => q (gt C k)).map (gt C) = C.filter q := by
  have e : (C.filter q) = ((List.range C.length).map (gt C)).filter q := by rw [← list_gt]
  rw [e, List.filter_map]
  rfl
theorem gt_atI {C : List Pt} {k : Nat} (h : k < C.length) : ixD (ePts C) (.int (k : Nat)) = some (ePt (gt C k)) := by
  show atI (C.map ePt) (k : Int) = _
  rw [DL.atI_nat (by rw [List.length_map]; exact h), List.getElem?_map, gt_of h]
  rfl
theorem eq_nil (ds : List D) : eqD (.list ds) (.list []) = some (.bool ds.isEmpty) := by
  unfold eqD
  rw [if_pos (.inr (by simp [PyData.depth, PyData.depthAll]))]
  cases ds <;> simp [PyData.eqv, PyData.eqvAll]
theorem rngL0 (n : Nat) : rngL 0 n = (List.range n).map fun i : Nat => PyData.int (i : Nat) := by
  unfold rngL
  exact List.map_congr_left fun i _ => by rw [Int.zero_add]
theorem ev_rng0 {S : Type} {g : FA S} {ρ : Env} {s s1 : S} {n : Nat} (a : g ρ s = .ok [.d (.int (n : Nat))] s1) (h : n ≤ 100000) : lRng1 g ρ s = .ok ((List.range n).map fun i : Nat => PyData.int (i : Nat)) s1 := by
  rw [ev_rng1 a (by show (n : Int) ≤ 100000; omega) (by omega), Int.toNat_natCast, rngL0]
theorem ne_bool (a b : Bool) : neD (.bool a) (.bool b) = some (.bool (!decide (a = b))) := neD_of eqE_bool (k := 0) (fun a => by simp [PyData.depth]) (by decide) a b
end DL

namespace DL
open PySem L2
/-! ### fractions in lowest terms -/
def lowM (t b : Int) : Pt := (t / (Int.gcd t b : Int), b / (Int.gcd t b : Int))
theorem low_facts {t b : Int} (hb : 0 < b) : (lowM t b).1 * b = t * (lowM t b).2 ∧ 0 < (lowM t b).2 ∧ (lowM t b).2 ≤ b ∧ 0 < (Int.gcd t b : Int) ∧ (Int.gcd t b : Int) ≤ b := by
  have d1 : ((Int.gcd t b : Nat) : Int) ∣ t := Int.gcd_dvd_left ..
  have d2 : ((Int.gcd t b : Nat) : Int) ∣ b := Int.gcd_dvd_right ..
  have g0 : 0 < ((Int.gcd t b : Nat) : Int) := by
    have : Int.gcd t b ≠ 0 := fun e => by
      have := (Int.gcd_eq_zero_iff.mp e).2
      omega
    omega
  have gl : ((Int.gcd t b : Nat) : Int) ≤ b := Int.le_of_dvd hb d2
  unfold lowM
  dsimp only
  generalize ((Int.gcd t b : Nat) : Int) = g at d1 d2 g0 gl
  obtain ⟨p, rfl⟩ := d1
  obtain ⟨q, rfl⟩ := d2
  rw [Int.mul_ediv_cancel_left _ (by omega), Int.mul_ediv_cancel_left _ (by omega)]
  have q0 : 0 < q := by
    by_cases c : 0 < q
    · exact c
    · have := Int.mul_nonneg (show 0 ≤ g by omega) (show 0 ≤ -q by omega)
      rw [Int.mul_neg] at this
      omega
  refine ⟨by grind, q0, ?_, g0, gl⟩
  have := Int.mul_le_mul_of_nonneg_right (show 1 ≤ g by omega) (show 0 ≤ q by omega)
  omega
theorem low_rat {t b : Int} (hb : 0 < b) : lowM t b = ((mkRat t b.toNat).num, ((mkRat t b.toNat).den : Int)) := by
  have e : ((b.toNat : Nat) : Int) = b := by omega
  have nz : b.toNat ≠ 0 := by omega
  rw [← Rat.normalize_eq_mkRat nz, Rat.normalize_eq]
  unfold lowM
  have g : Int.gcd t b = t.natAbs.gcd b.toNat := by unfold Int.gcd; rw [show b.natAbs = b.toNat by omega]
  rw [g]
  refine Prod.ext rfl ?_
  show b / ((t.natAbs.gcd b.toNat : Nat) : Int) = ((b.toNat / t.natAbs.gcd b.toNat : Nat) : Int)
  rw [Int.natCast_ediv, e]
theorem low_eq_iff {t b t' b' : Int} (hb : 0 < b) (hb' : 0 < b') : lowM t b = lowM t' b' ↔ t * b' = t' * b := by
  rw [low_rat hb, low_rat hb']
  have e : ((b.toNat : Nat) : Int) = b := by omega
  have e' : ((b'.toNat : Nat) : Int) = b' := by omega
  have k := Rat.mkRat_eq_iff (n₁ := t) (n₂ := t') (d₁ := b.toNat) (d₂ := b'.toNat) (by omega) (by omega)
  rw [e, e'] at k
  rw [← k]
  constructor
  · intro h
    have h1 := congrArg Prod.fst h
    have h2 := congrArg Prod.snd h
    exact Rat.ext h1 (by dsimp only at h2; omega)
  · intro h
    rw [h]
/-- lowest terms stay -/
theorem low_low {t b : Int} (hb : 0 < b) : lowM (lowM t b).1 (lowM t b).2 = lowM t b := by
  have f := low_facts (t := t) hb
  exact (low_eq_iff f.2.1 hb).mpr f.1
/-- p / q is less than p' / q' -/
def lessM (x y : Pt) : Bool := decide (x.1 * y.2 < y.1 * x.2)
end DL
namespace DL
open PySem L2
theorem mul_br {a i : Int} (h0 : -1000000000 ≤ a) (h1 : a ≤ 1000000000) : mulD (.int i) (.int a) = some (.int (i * a)) := by
  have q : big64 a = true := big64_iff.mpr ⟨by omega, by omega⟩
  show (if (big64 i || big64 a) = true then some (PyData.int (i * a)) else none) = _
  rw [q, if_pos (by simp)]
end DL

namespace DL
open PySem L2
/-! ### fractions as rational numbers -/
def eQ (r : Rat) : D := ePt (r.num, (r.den : Int))
def qf (t b : Int) : Rat := (t : Rat) / (b : Rat)
theorem low_qf {t b : Int} (hb : 0 < b) : ePt (lowM t b) = eQ (qf t b) := by
  rw [low_rat hb]
  unfold eQ qf
  have e : ((b.toNat : Nat) : Rat) = (b : Rat) := by
    have e2 : ((b.toNat : Nat) : Int) = b := by omega
    conv => rhs; rw [← e2]
    rfl
  rw [Rat.mkRat_eq_div, e]
theorem eQ_int (c : Int) : PyData.tuple [.int c, .int 1] = eQ (c : Rat) := rfl
theorem lessM_lt (r s : Rat) : lessM (r.num, (r.den : Int)) (s.num, (s.den : Int)) = decide (r < s) := by
  unfold lessM
  dsimp only
  rw [decide_eq_decide]
  exact (Rat.lt_iff r s).symm
theorem eqE_Q : EqE eQ := fun a b => by
  unfold eQ
  rw [eqE_pt]
  rw [decide_eq_decide]
  constructor
  · intro h
    exact Rat.ext (congrArg Prod.fst h) (by have := congrArg Prod.snd h; dsimp only at this; omega)
  · intro h; rw [h]
theorem dep_Q (r : Rat) : (eQ r).depth ≤ 1 := dep_pt _
theorem eq_Q (a b : Rat) : eqD (eQ a) (eQ b) = some (.bool (decide (a = b))) := eqD_of eqE_Q dep_Q (by decide) a b
theorem ne_Q (a b : Rat) : neD (eQ a) (eQ b) = some (.bool (!decide (a = b))) := neD_of eqE_Q dep_Q (by decide) a b
/-- the better of both -/
def mxQ (a b : Rat) : Rat := if a < b then b else a
theorem mxQ_ge (a b : Rat) : a ≤ mxQ a b ∧ b ≤ mxQ a b ∧ (mxQ a b = a ∨ mxQ a b = b) := by
  unfold mxQ
  split
  · rename_i h; exact ⟨Rat.le_of_lt h, Rat.le_refl, .inr rfl⟩
  · rename_i h; exact ⟨Rat.le_refl, by grind, .inl rfl⟩
/-- the greatest of some, at least b -/
def topQ (b : Rat) (l : List Rat) : Rat := l.foldl mxQ b
theorem topQ_ge : ∀ (l : List Rat) (b : Rat), b ≤ topQ b l ∧ ∀ x ∈ l, x ≤ topQ b l
  | [], b => ⟨Rat.le_refl, by simp⟩
  | y :: l, b => by
    have m := mxQ_ge b y
    have ih := topQ_ge l (mxQ b y)
    unfold topQ at ih ⊢
    rw [List.foldl_cons]
    refine ⟨Rat.le_trans m.1 ih.1, fun x hx => ?_⟩
    rcases List.mem_cons.mp hx with e | e
    · rw [e]; exact Rat.le_trans m.2.1 ih.1
    · exact ih.2 x e
theorem topQ_in : ∀ (l : List Rat) (b : Rat), topQ b l = b ∨ topQ b l ∈ l
  | [], b => .inl rfl
  | y :: l, b => by
    have m := mxQ_ge b y
    have ih := topQ_in l (mxQ b y)
    unfold topQ at ih ⊢
    rw [List.foldl_cons]
    rcases ih with e | e
    · rw [e]
      rcases m.2.2 with q | q
      · exact .inl q
      · rw [q]; exact .inr (by simp)
    · exact .inr (List.mem_cons_of_mem _ e)
/-- two greatest ones are the same, where each one's are under the other's -/
theorem topQ_eq {b : Rat} {l m : List Rat} (h1 : ∀ x ∈ l, ∃ y ∈ b :: m, x ≤ y) (h2 : ∀ y ∈ m, ∃ x ∈ b :: l, y ≤ x) : topQ b l = topQ b m := by
  have g1 := topQ_ge l b
  have g2 := topQ_ge m b
  have le1 : topQ b l ≤ topQ b m := by
    rcases topQ_in l b with e | e
    · rw [e]; exact g2.1
    · obtain ⟨y, hy, q⟩ := h1 _ e
      rcases List.mem_cons.mp hy with z | z
      · rw [z] at q; exact Rat.le_trans q g2.1
      · exact Rat.le_trans q (g2.2 y z)
  have le2 : topQ b m ≤ topQ b l := by
    rcases topQ_in m b with e | e
    · rw [e]; exact g1.1
    · obtain ⟨y, hy, q⟩ := h2 _ e
      rcases List.mem_cons.mp hy with z | z
      · rw [z] at q; exact Rat.le_trans q g1.1
      · exact Rat.le_trans q (g1.2 y z)
  exact Rat.le_antisymm le1 le2
/-- the line through s and t, at x -/
def lnQ (s t : Pt) (x : Rat) : Rat := (s.2 : Rat) + (x - (s.1 : Rat)) * ((t.2 : Rat) - (s.2 : Rat)) / ((t.1 : Rat) - (s.1 : Rat))
end DL
namespace DL
open PySem L2
def sgQ (s t : Pt) (x : Rat) : Rat := if t.1 - s.1 = 0 then (t.2 : Rat) else lnQ s t x
def cvQ (x : Rat) (q : Pt × Pt) : Bool := decide ((q.1.1 : Rat) ≤ x) && decide (x ≤ (q.2.1 : Rat))
def heightM (C : List Pt) (x : Rat) : Rat := topQ 0 (((C.zip C.tail).filter (cvQ x)).map fun q => sgQ q.1 q.2 x)
theorem den_pos (x : Rat) : (0 : Int) < (x.den : Int) := by have := x.den_pos; omega
theorem den_ne (x : Rat) : ((x.den : Int) : Rat) ≠ 0 := by
  intro h
  have := den_pos x
  have h2 : ((x.den : Int) : Rat) = ((0 : Int) : Rat) := h
  have := Rat.intCast_inj.mp h2
  omega
theorem num_den (x : Rat) : x * ((x.den : Int) : Rat) = ((x.num : Int) : Rat) := by
  have h := Rat.mkRat_self x
  rw [Rat.mkRat_eq_div] at h
  have n := den_ne x
  have e : ((x.den : Nat) : Rat) = ((x.den : Int) : Rat) := rfl
  rw [e] at h
  generalize ((x.den : Int) : Rat) = q at *
  generalize ((x.num : Int) : Rat) = p at *
  grind
theorem cast_ne {w : Int} (h : w ≠ 0) : (w : Rat) ≠ 0 := by
  intro q
  have q2 : ((w : Int) : Rat) = ((0 : Int) : Rat) := q
  exact h (Rat.intCast_inj.mp q2)
/-- a * q ≤ p: a ≤ p / q -/
theorem le_num {a : Int} {x : Rat} : a * (x.den : Int) ≤ x.num ↔ (a : Rat) ≤ x := by
  rw [Rat.le_iff]
  show _ ↔ a * (x.den : Int) ≤ x.num * ((1 : Nat) : Int)
  rw [show x.num * ((1 : Nat) : Int) = x.num by omega]
theorem num_le {a : Int} {x : Rat} : x.num ≤ a * (x.den : Int) ↔ x ≤ (a : Rat) := by
  rw [Rat.le_iff]
  show _ ↔ x.num * ((1 : Nat) : Int) ≤ a * (x.den : Int)
  rw [show x.num * ((1 : Nat) : Int) = x.num by omega]
theorem seg_qf {s t : Pt} {x : Rat} (h : t.1 - s.1 ≠ 0) : qf (s.2 * (t.1 - s.1) * (x.den : Int) + (x.num - s.1 * (x.den : Int)) * (t.2 - s.2)) ((t.1 - s.1) * (x.den : Int)) = lnQ s t x := by
  unfold qf lnQ
  have e := num_den x
  have n1 := den_ne x
  have n2 := cast_ne h
  simp only [Rat.intCast_add, Rat.intCast_mul, Rat.intCast_sub] at *
  rw [← e]
  generalize ((x.den : Int) : Rat) = q at *
  grind
end DL
namespace DL
open PySem L2
theorem cv_wide {x : Rat} {s t : Pt} (h : cvQ x (s, t) = true) : 0 ≤ t.1 - s.1 := by
  unfold cvQ at h
  rw [Bool.and_eq_true, decide_eq_true_iff, decide_eq_true_iff] at h
  have := Rat.intCast_le_intCast.mp (Rat.le_trans h.1 h.2)
  dsimp only at this
  omega
theorem sg_den {x : Rat} {s t : Pt} (hs : Bd s) (ht : Bd t) (hx : x.den ≤ 1000) (h : cvQ x (s, t) = true) : (sgQ s t x).den ≤ 1000000 := by
  have w := cv_wide h
  unfold sgQ
  by_cases c : t.1 - s.1 = 0
  · rw [if_pos c]
    show 1 ≤ 1000000
    decide
  · rw [if_neg c, ← seg_qf c]
    unfold Bd at hs ht
    have dp := den_pos x
    have p : 0 < (t.1 - s.1) * (x.den : Int) := Int.mul_pos (by omega) dp
    have f := low_facts (t := s.2 * (t.1 - s.1) * (x.den : Int) + (x.num - s.1 * (x.den : Int)) * (t.2 - s.2)) p
    have l := low_qf (t := s.2 * (t.1 - s.1) * (x.den : Int) + (x.num - s.1 * (x.den : Int)) * (t.2 - s.2)) p
    have e : (((qf (s.2 * (t.1 - s.1) * (x.den : Int) + (x.num - s.1 * (x.den : Int)) * (t.2 - s.2)) ((t.1 - s.1) * (x.den : Int))).den : Nat) : Int) = (lowM (s.2 * (t.1 - s.1) * (x.den : Int) + (x.num - s.1 * (x.den : Int)) * (t.2 - s.2)) ((t.1 - s.1) * (x.den : Int))).2 := by
      unfold eQ ePt at l
      have l2 := PyData.tuple.inj l
      simp only [List.cons.injEq, PyData.int.injEq, and_true] at l2
      exact l2.2.symm
    have q : (t.1 - s.1) * (x.den : Int) ≤ 1000 * 1000 := Int.mul_le_mul (by omega) (by omega) (by omega) (by decide)
    omega
theorem top_den {l : List Rat} (h : ∀ x ∈ l, x.den ≤ 1000000) : (topQ 0 l).den ≤ 1000000 := by
  rcases topQ_in l 0 with e | e
  · rw [e]; show 1 ≤ 1000000; decide
  · exact h _ e
theorem topQ_snoc (b : Rat) (l : List Rat) (y : Rat) : topQ b (l ++ [y]) = mxQ (topQ b l) y := by unfold topQ; rw [List.foldl_append]; rfl
end DL
namespace DL
open PySem L2
/-- points of a curve of at most twelve -/
def B12 (p : Pt) : Prop := (0 ≤ p.1 ∧ p.1 ≤ 12) ∧ 0 ≤ p.2 ∧ p.2 ≤ 12
theorem sg_den12 {x : Rat} {s t : Pt} (hs : B12 s) (ht : B12 t) (hx : x.den ≤ 1000) (h : cvQ x (s, t) = true) : ((sgQ s t x).den : Int) ≤ 12000 := by
  have w := cv_wide h
  unfold sgQ
  by_cases c : t.1 - s.1 = 0
  · rw [if_pos c]
    show ((1 : Nat) : Int) ≤ 12000
    decide
  · rw [if_neg c, ← seg_qf c]
    unfold B12 at hs ht
    have dp := den_pos x
    have p : 0 < (t.1 - s.1) * (x.den : Int) := Int.mul_pos (by omega) dp
    have f := low_facts (t := s.2 * (t.1 - s.1) * (x.den : Int) + (x.num - s.1 * (x.den : Int)) * (t.2 - s.2)) p
    have l := low_qf (t := s.2 * (t.1 - s.1) * (x.den : Int) + (x.num - s.1 * (x.den : Int)) * (t.2 - s.2)) p
    have e : (((qf (s.2 * (t.1 - s.1) * (x.den : Int) + (x.num - s.1 * (x.den : Int)) * (t.2 - s.2)) ((t.1 - s.1) * (x.den : Int))).den : Nat) : Int) = (lowM (s.2 * (t.1 - s.1) * (x.den : Int) + (x.num - s.1 * (x.den : Int)) * (t.2 - s.2)) ((t.1 - s.1) * (x.den : Int))).2 := by
      unfold eQ ePt at l
      have l2 := PyData.tuple.inj l
      simp only [List.cons.injEq, PyData.int.injEq, and_true] at l2
      exact l2.2.symm
    have q : (t.1 - s.1) * (x.den : Int) ≤ 12 * 1000 := Int.mul_le_mul (by omega) (by omega) (by omega) (by decide)
    omega
theorem height_den {C : List Pt} {x : Rat} (hC : ∀ p ∈ C, B12 p) (hx : x.den ≤ 1000) : ((heightM C x).den : Int) ≤ 12000 := by
  unfold heightM
  rcases topQ_in ((((C.zip C.tail).filter (cvQ x)).map fun q => sgQ q.1 q.2 x)) 0 with e | e
  · rw [e]; show ((1 : Nat) : Int) ≤ 12000; decide
  · obtain ⟨⟨u, v⟩, huv, eq⟩ := List.mem_map.mp e
    obtain ⟨h1, h2⟩ := List.mem_filter.mp huv
    rw [← eq]
    exact sg_den12 (hC u (List.of_mem_zip h1).1) (hC v (List.mem_of_mem_tail (List.of_mem_zip h1).2)) hx h2
theorem pts_b12 {l : List (Int × Bool)} (h : Val l) : ∀ p ∈ pts l, B12 p := fun p hp => (pts_val h).rg p hp
end DL

namespace DL
open PySem L2
/-! ### every point lies under every line of the hull -/
theorem Hull.under {P C : List Pt} (H : Hull P C) (hP : P.Pairwise lt2) {i : Nat} (hi : i + 1 < C.length) : ∀ q ∈ P, trn (gt C i) (gt C (i + 1)) q ≤ 0 := fun q hq => by
  have u := H.up i hi
  have nz := H.nz hi
  have e : crs (dif (gt C i) (gt C (i + 1))) (gt C (i + 1)) = crs (dif (gt C i) (gt C (i + 1))) (gt C i) := by
    have a := crs_dif (dif (gt C i) (gt C (i + 1))) (gt C i) (gt C (i + 1))
    rw [crs_self] at a
    omega
  have mx := H.local_max (m := dif (gt C i) (gt C (i + 1))) nz.1 (k := i) (by omega) (fun _ => by omega) fun j ej => by
    subst ej
    exact H.rise nz.1 (i := j) hi (Int.le_of_eq e.symm)
  obtain ⟨c, hc, k⟩ := H.max_at hP (m := dif (gt C i) (gt C (i + 1))) nz.1 hq
  have k2 := mx c hc
  have a := crs_dif (dif (gt C i) (gt C (i + 1))) (gt C i) q
  rw [trn_crs]
  omega
end DL
namespace DL
open PySem L2
theorem line_le {s t q : Pt} (w : s.1 < t.1) (h : trn s t q ≤ 0) : (q.2 : Rat) ≤ lnQ s t (q.1 : Rat) := by
  have h2 : ((trn s t q : Int) : Rat) ≤ ((0 : Int) : Rat) := Rat.intCast_le_intCast.mpr h
  unfold trn at h2
  simp only [Rat.intCast_sub, Rat.intCast_mul] at h2
  have wp : (0 : Rat) < (t.1 : Rat) - (s.1 : Rat) := by
    have : ((s.1 : Int) : Rat) < ((t.1 : Int) : Rat) := Rat.intCast_lt_intCast.mpr w
    grind
  unfold lnQ
  generalize (t.1 : Rat) - (s.1 : Rat) = W at *
  generalize (t.2 : Rat) - (s.2 : Rat) = V at *
  have k : ((q.2 : Rat) - (s.2 : Rat)) ≤ (((q.1 : Rat) - (s.1 : Rat)) * V) / W := by
    rw [Rat.le_iff_sub_nonneg] at *
    have e : ((((q.1 : Rat) - (s.1 : Rat)) * V) / W - ((q.2 : Rat) - (s.2 : Rat))) * W = (((q.1 : Rat) - (s.1 : Rat)) * V) - ((q.2 : Rat) - (s.2 : Rat)) * W := by grind
    have nn : 0 ≤ ((((q.1 : Rat) - (s.1 : Rat)) * V) / W - ((q.2 : Rat) - (s.2 : Rat))) * W := by rw [e]; grind
    by_cases c : 0 ≤ ((((q.1 : Rat) - (s.1 : Rat)) * V) / W - ((q.2 : Rat) - (s.2 : Rat)))
    · exact c
    · have := Rat.mul_pos (show 0 < -((((q.1 : Rat) - (s.1 : Rat)) * V) / W - ((q.2 : Rat) - (s.2 : Rat))) by grind) wp
      grind
  grind
end DL
namespace DL
open PySem L2
/-- a chord lies under a line that both its ends lie under -/
theorem chord_le {s t p n : Pt} {x : Rat} (w : s.1 < t.1) (hp : trn s t p ≤ 0) (hn : trn s t n ≤ 0) (h1 : (p.1 : Rat) ≤ x) (h2 : x ≤ (n.1 : Rat)) (h : p.1 < n.1) : lnQ p n x ≤ lnQ s t x := by
  have a1 := line_le w hp
  have a2 := line_le w hn
  have wp : (0 : Rat) < (t.1 : Rat) - (s.1 : Rat) := by
    have : ((s.1 : Int) : Rat) < ((t.1 : Int) : Rat) := Rat.intCast_lt_intCast.mpr w
    grind
  have dp : (0 : Rat) < (n.1 : Rat) - (p.1 : Rat) := by
    have : ((p.1 : Int) : Rat) < ((n.1 : Int) : Rat) := Rat.intCast_lt_intCast.mpr h
    grind
  unfold lnQ at *
  generalize (t.1 : Rat) - (s.1 : Rat) = W at *
  generalize (t.2 : Rat) - (s.2 : Rat) = V at *
  generalize (p.1 : Rat) = px at *
  generalize (p.2 : Rat) = py at *
  generalize (n.1 : Rat) = nx at *
  generalize (n.2 : Rat) = ny at *
  generalize (s.1 : Rat) = sx at *
  generalize (s.2 : Rat) = sy at *
  have m1 := Rat.mul_nonneg (show 0 ≤ nx - x by grind) (show 0 ≤ sy + (px - sx) * V / W - py by grind)
  have m2 := Rat.mul_nonneg (show 0 ≤ x - px by grind) (show 0 ≤ sy + (nx - sx) * V / W - ny by grind)
  have e : (nx - px) * ((sy + (x - sx) * V / W) - (py + (x - px) * (ny - py) / (nx - px))) = (nx - x) * (sy + (px - sx) * V / W - py) + (x - px) * (sy + (nx - sx) * V / W - ny) := by grind
  by_cases c : py + (x - px) * (ny - py) / (nx - px) ≤ sy + (x - sx) * V / W
  · exact c
  · have := Rat.mul_pos dp (show 0 < -((sy + (x - sx) * V / W) - (py + (x - px) * (ny - py) / (nx - px))) by grind)
    grind
end DL
namespace DL
open PySem L2
/-- a hull line over x, its left end before x or the first -/
theorem Hull.cover {P C : List Pt} (H : Hull P C) {x : Rat} (h2 : 2 ≤ C.length) (h0 : ((gt C 0).1 : Rat) ≤ x) (h1 : x ≤ ((gt C (C.length - 1)).1 : Rat)) : ∃ i, i + 1 < C.length ∧ ((gt C i).1 : Rat) ≤ x ∧ x ≤ ((gt C (i + 1)).1 : Rat) := by
  have go : ∀ n : Nat, n + 1 < C.length → x ≤ ((gt C (n + 1)).1 : Rat) → ∃ i, i + 1 < C.length ∧ ((gt C i).1 : Rat) ≤ x ∧ x ≤ ((gt C (i + 1)).1 : Rat) := by
    intro n
    induction n with
    | zero => intro hn h; exact ⟨0, hn, h0, h⟩
    | succ n ih =>
      intro hn h
      by_cases c : x ≤ ((gt C (n + 1)).1 : Rat)
      · exact ih (by omega) c
      · exact ⟨n + 1, hn, by grind, h⟩
  have q := go (C.length - 2) (by omega)
  rw [show C.length - 2 + 1 = C.length - 1 by omega] at q
  exact q h1
end DL
namespace DL
open PySem L2
/-- the value of a covering hull line is at most the height -/
theorem height_ge {C : List Pt} {x : Rat} {i : Nat} (hi : i + 1 < C.length) (h1 : ((gt C i).1 : Rat) ≤ x) (h2 : x ≤ ((gt C (i + 1)).1 : Rat)) : sgQ (gt C i) (gt C (i + 1)) x ≤ heightM C x := by
  have e1 := gt_of (C := C) (i := i) (by omega)
  have e2 : C.tail[i]? = some (gt C (i + 1)) := by rw [List.getElem?_tail]; exact gt_of hi
  have e3 : (C.zip C.tail)[i]? = some (gt C i, gt C (i + 1)) := List.getElem?_zip_eq_some.mpr ⟨e1, e2⟩
  have m : (gt C i, gt C (i + 1)) ∈ (C.zip C.tail).filter (cvQ x) := List.mem_filter.mpr ⟨List.mem_of_getElem? e3, by unfold cvQ; rw [Bool.and_eq_true, decide_eq_true_iff, decide_eq_true_iff]; exact ⟨h1, h2⟩⟩
  unfold heightM
  exact (topQ_ge _ 0).2 _ (List.mem_map.mpr ⟨_, m, rfl⟩)
end DL
namespace DL
open PySem L2
/-- each point is at most the height at its place -/
theorem Hull.point_le {P C : List Pt} (H : Hull P C) (hP : P.Pairwise lt2) (h2 : 2 ≤ C.length) {p : Pt} (hp : p ∈ P) : (p.2 : Rat) ≤ heightM C (p.1 : Rat) := by
  rcases H.between hP hp with ⟨_, e⟩ | ⟨i, hi, a, b⟩
  · omega
  · have g := height_ge (x := (p.1 : Rat)) hi (Rat.intCast_le_intCast.mpr a.1) (Rat.intCast_le_intCast.mpr b.1)
    refine Rat.le_trans ?_ g
    unfold sgQ
    by_cases c : (gt C (i + 1)).1 - (gt C i).1 = 0
    · rw [if_pos c]
      exact Rat.intCast_le_intCast.mpr b.2
    · rw [if_neg c]
      have u := H.up i hi
      unfold lt2 at u
      exact line_le (by omega) (H.un i hi p hp a b)
end DL
namespace DL
open PySem L2
/-- each chord is at most the height -/
theorem Hull.chord_ht {P C : List Pt} (H : Hull P C) (hP : P.Pairwise lt2) {p n : Pt} {x : Rat} (hp : p ∈ P) (hn : n ∈ P) (h1 : (p.1 : Rat) < x) (h2 : x < (n.1 : Rat)) {i : Nat} (hi : i + 1 < C.length) (w : (gt C i).1 < (gt C (i + 1)).1) (a : ((gt C i).1 : Rat) ≤ x) (b : x ≤ ((gt C (i + 1)).1 : Rat)) : lnQ p n x ≤ heightM C x := by
  have g := height_ge hi a b
  refine Rat.le_trans ?_ g
  unfold sgQ
  rw [if_neg (by omega)]
  have pn : p.1 < n.1 := Rat.intCast_lt_intCast.mp (by grind)
  exact chord_le w (H.under hP hi p hp) (H.under hP hi n hn) (Rat.le_of_lt h1) (Rat.le_of_lt h2) pn
end DL

namespace DL
open PySem L2
/-! ### rules for running step by step: each by the head of what is run -/
section
variable {S : Type} {f fa fb fc : FE S} {g : FA S} {F G : FS S} {h k : FT S} {ρ ρ1 ρ2 : Env} {s s1 s2 : S} {x y z d : D} {xs : List Dv} {ds : List D} {o : Out S} {b c : Bool} {i n : Nat} {v : Dv}
theorem r_var (e : ρ[i]? = some (.d x)) : eVar i ρ s = .ok (.d x) s := by unfold eVar; rw [e]
theorem r_varV {u : V} (e : ρ[i]? = some (.v u)) : eVar i ρ s = .ok (.v u) s := by unfold eVar; rw [e]
theorem r_c : eC x ρ s = .ok (.d x) s := rfl
theorem r_nil : aNil ρ s = .ok [] s := rfl
theorem r_neg {i : Int} (a : f ρ s = .ok (.d (.int i)) s1) : eNeg f ρ s = .ok (.d (.int (-i))) s1 := by unfold eNeg; rw [a]; rfl
theorem r_snil : sNil ρ s = .nx ρ s := rfl
theorem r_set (a : f ρ s = .ok (.d x) s1) (e : ρ.set i (.d x) = ρ1) : sSet i f ρ s = .nx ρ1 s1 := by rw [← e]; exact ev_set a
theorem r_setM {l : FL S} (a : l ρ s = .ok ds s1) (e : ρ.set i (.m ds) = ρ1) : sSetM i l ρ s = .nx ρ1 s1 := by rw [← e]; exact ev_setM a
theorem r_asg {p : D → Env → Option Env} (a : f ρ s = .ok (.d d) s1) (e : p d ρ = some ρ1) (e2 : ρ1 = ρ2) : sAsg p f ρ s = .nx ρ2 s1 := by rw [← e2]; exact ev_asg a e
theorem r_par {i j : Nat} (a : fa ρ s = .ok (.d x) s1) (a2 : fb ρ s1 = .ok (.d y) s2) (e : (ρ.set i (.d x)).set j (.d y) = ρ1) : sPar i j (aCons fa (aCons fb aNil)) ρ s = .nx ρ1 s2 := by rw [← e]; exact ev_par (ev_cons a (ev_cons a2 rfl))
theorem r_par3 {i j l : Nat} {s3 : S} (a : fa ρ s = .ok (.d x) s1) (a2 : fb ρ s1 = .ok (.d y) s2) (a3 : fc ρ s2 = .ok (.d z) s3) (e : ((ρ.set i (.d x)).set j (.d y)).set l (.d z) = ρ1) : sPar3 i j l (aCons fa (aCons fb (aCons fc aNil))) ρ s = .nx ρ1 s3 := by rw [← e]; exact ev_par3 (ev_cons a (ev_cons a2 (ev_cons a3 rfl)))
theorem r_aug {op : D → D → Option D} (e : ρ[i]? = some (.d x)) (a : f ρ s = .ok (.d y) s1) (q : op x y = some z) (e2 : ρ.set i (.d z) = ρ1) : sAug i op f ρ s = .nx ρ1 s1 := by rw [← e2]; exact ev_aug e a q
theorem r_app (e : ρ[i]? = some (.m ds)) (a : f ρ s = .ok (.d y) s1) (q : ds.length < lim) (e2 : ρ.set i (.m (ds ++ [y])) = ρ1) : sApp i f ρ s = .nx ρ1 s1 := by rw [← e2]; exact ev_app e a q
/-- a check that holds: if ..: return False -/
theorem r_chk (a : h ρ s = .ok b s1) (q : b = false) : sIf h (sRet (eC (.bool false))) sNil ρ s = .nx ρ s1 := by subst q; exact ev_ifF a rfl
theorem r_raise {c : Nat} (a : h ρ s = .ok b s1) (q : b = false) : sIf h (sRaise c) sNil ρ s = .nx ρ s1 := by subst q; exact ev_ifF a rfl
theorem r_ifF (a : h ρ s = .ok b s1) (q : b = false) (e : G ρ s1 = o) : sIf h F G ρ s = o := by subst q; exact ev_ifF a e
theorem r_ifT (a : h ρ s = .ok b s1) (q : b = true) (e : F ρ s1 = o) : sIf h F G ρ s = o := by subst q; exact ev_ifT a e
theorem r_eIfT (a : h ρ s = .ok b s1) (q : b = true) (e : fa ρ s1 = .ok v s2) : eIf h fa fb ρ s = .ok v s2 := by subst q; exact ev_eIf a e
theorem r_eIfF (a : h ρ s = .ok b s1) (q : b = false) (e : fb ρ s1 = .ok v s2) : eIf h fa fb ρ s = .ok v s2 := by subst q; exact ev_eIf a e
/-- both branches give data -/
theorem r_eIf (a : h ρ s = .ok b s1) (e1 : fa ρ s1 = .ok (.d x) s1) (e2 : fb ρ s1 = .ok (.d y) s1) : eIf h fa fb ρ s = .ok (.d (if b = true then x else y)) s1 := by
  refine ev_eIf a ?_
  cases b with
  | true => rw [if_pos rfl, if_pos rfl]; exact e1
  | false => rw [if_neg Bool.false_ne_true, if_neg Bool.false_ne_true]; exact e2
theorem r_eq {r : Res S Dv} (a : r = .ok (.d x) s) (e : x = y) : r = .ok (.d y) s := by subst e; exact a
theorem r_call {op : List D → Option D} (a : g ρ s = .ok xs s1) (e : datas xs = some ds) (q : op ds = some z) : eCall op g ρ s = .ok (.d z) s1 := ev_call a e q
theorem r_fn1 {sem : List D → Res Unit D} (a : f ρ s = .ok (.d x) s1) (q : sem [x] = .ok d ()) : eFn 1 sem (aCons f aNil) ρ s = .ok (.d d) s1 := ev_fn (ev_cons a rfl) rfl rfl q
theorem r_fn2 {sem : List D → Res Unit D} (a : fa ρ s = .ok (.d x) s1) (a2 : fb ρ s1 = .ok (.d y) s2) (q : sem [x, y] = .ok d ()) : eFn 2 sem (aCons fa (aCons fb aNil)) ρ s = .ok (.d d) s2 := ev_fn (ev_cons a (ev_cons a2 rfl)) rfl rfl q
theorem r_fn3 {sem : List D → Res Unit D} {s3 : S} (a : fa ρ s = .ok (.d x) s1) (a2 : fb ρ s1 = .ok (.d y) s2) (a3 : fc ρ s2 = .ok (.d z) s3) (q : sem [x, y, z] = .ok d ()) : eFn 3 sem (aCons fa (aCons fb (aCons fc aNil))) ρ s = .ok (.d d) s3 := ev_fn (ev_cons a (ev_cons a2 (ev_cons a3 rfl))) rfl rfl q
theorem r_fn4 {sem : List D → Res Unit D} {fd : FE S} {w : D} {s3 s4 : S} (a : fa ρ s = .ok (.d x) s1) (a2 : fb ρ s1 = .ok (.d y) s2) (a3 : fc ρ s2 = .ok (.d z) s3) (a4 : fd ρ s3 = .ok (.d w) s4) (q : sem [x, y, z, w] = .ok d ()) : eFn 4 sem (aCons fa (aCons fb (aCons fc (aCons fd aNil)))) ρ s = .ok (.d d) s4 := ev_fn (ev_cons a (ev_cons a2 (ev_cons a3 (ev_cons a4 rfl)))) rfl rfl q
theorem r_call1 {op : List D → Option D} (a : f ρ s = .ok (.d x) s1) (q : op [x] = some z) : eCall op (aCons f aNil) ρ s = .ok (.d z) s1 := ev_call (ev_cons a rfl) rfl q
theorem r_call2 {op : List D → Option D} (a : fa ρ s = .ok (.d x) s1) (a2 : fb ρ s1 = .ok (.d y) s2) (q : op [x, y] = some z) : eCall op (aCons fa (aCons fb aNil)) ρ s = .ok (.d z) s2 := ev_call (ev_cons a (ev_cons a2 rfl)) rfl q
theorem r_tup1 (a : f ρ s = .ok (.d x) s1) : eTup (aCons f aNil) ρ s = .ok (.d (.tuple [x])) s1 := ev_tup (ev_cons a rfl) rfl (by show 1 ≤ lim; decide)
theorem r_tup2 (a : fa ρ s = .ok (.d x) s1) (a2 : fb ρ s1 = .ok (.d y) s2) : eTup (aCons fa (aCons fb aNil)) ρ s = .ok (.d (.tuple [x, y])) s2 := ev_tup (ev_cons a (ev_cons a2 rfl)) rfl (by show 2 ≤ lim; decide)
theorem r_tup3 {s3 : S} (a : fa ρ s = .ok (.d x) s1) (a2 : fb ρ s1 = .ok (.d y) s2) (a3 : fc ρ s2 = .ok (.d z) s3) : eTup (aCons fa (aCons fb (aCons fc aNil))) ρ s = .ok (.d (.tuple [x, y, z])) s3 := ev_tup (ev_cons a (ev_cons a2 (ev_cons a3 rfl))) rfl (by show 3 ≤ lim; decide)
theorem r_tup4 {fd : FE S} {w : D} {s3 s4 : S} (a : fa ρ s = .ok (.d x) s1) (a2 : fb ρ s1 = .ok (.d y) s2) (a3 : fc ρ s2 = .ok (.d z) s3) (a4 : fd ρ s3 = .ok (.d w) s4) : eTup (aCons fa (aCons fb (aCons fc (aCons fd aNil)))) ρ s = .ok (.d (.tuple [x, y, z, w])) s4 := ev_tup (ev_cons a (ev_cons a2 (ev_cons a3 (ev_cons a4 rfl)))) rfl (by show 4 ≤ lim; decide)
theorem r_lst0 : eLst aNil ρ s = .ok (.d (.list [])) s := ev_lst r_nil rfl (by show 0 ≤ lim; decide)
theorem r_lst1 (a : f ρ s = .ok (.d x) s1) : eLst (aCons f aNil) ρ s = .ok (.d (.list [x])) s1 := ev_lst (ev_cons a rfl) rfl (by show 1 ≤ lim; decide)
theorem r_lst2 (a : fa ρ s = .ok (.d x) s1) (a2 : fb ρ s1 = .ok (.d y) s2) : eLst (aCons fa (aCons fb aNil)) ρ s = .ok (.d (.list [x, y])) s2 := ev_lst (ev_cons a (ev_cons a2 rfl)) rfl (by show 2 ≤ lim; decide)
theorem r_lLst0 : lLst aNil ρ s = .ok [] s := ev_lLst r_nil rfl (by show 0 ≤ lim; decide)
theorem r_chain3 {o1 o2 o3 : D → D → Option D} {fd : FE S} {w : D} {c3 : Bool} (a : fa ρ s = .ok (.d x) s) (e : fb ρ s = .ok (.d y) s) (q : o1 x y = some (.bool b)) (a2 : fc ρ s = .ok (.d z) s) (q2 : o2 y z = some (.bool c)) (a3 : fd ρ s = .ok (.d w) s) (q3 : o3 z w = some (.bool c3)) :
    fChain3 o1 o2 o3 fa fb fc fd ρ s = .ok (b && (c && c3)) s := by
  unfold fChain3; rw [a]; dsimp only [Res.bnd]; rw [e]; dsimp only [Res.bnd]; rw [q]
  cases b with
  | false => rfl
  | true =>
    dsimp only; rw [a2]; dsimp only [Res.bnd]; rw [q2]
    cases c with
    | false => rfl
    | true => dsimp only; rw [a3]; dsimp only [Res.bnd]; rw [q3]; rfl
theorem r_rev (a : fa ρ s = .ok (.d (.list ds)) s1) : eRev fa ρ s = .ok (.d (.list ds.reverse)) s1 := ev_rev a
theorem r_sl {fl fh : Env → S → Res S (Option Int)} {lo hi : Option Int} {s3 : S} (a : fa ρ s = .ok (.d x) s1) (l : fl ρ s1 = .ok lo s2) (h : fh ρ s2 = .ok hi s3) (q : sliceD x lo hi = some z) : eSl fa fl fh ρ s = .ok (.d z) s3 := ev_sl a l h q
theorem r_oN : (oNone : Env → S → Res S (Option Int)) ρ s = .ok none s := rfl
theorem r_oS {i : Int} (a : f ρ s = .ok (.d (.int i)) s1) : oSome f ρ s = .ok (some i) s1 := by unfold oSome; rw [a]; rfl
theorem r_isi {t : D → Bool} (a : f ρ s = .ok (.d x) s1) : eIsi t f ρ s = .ok (.d (.bool (t x))) s1 := by unfold eIsi; rw [a]; rfl
/-- for over a typed list -/
theorem r_rng {j : Int} {n : Nat} (a : f ρ s = .ok (.d (.int j)) s1) (e : j.toNat = n) (h : n ≤ 100000) (h0 : 0 ≤ j) : lRng1 (aCons f aNil) ρ s = .ok ((List.range n).map fun i : Nat => PyData.int (i : Nat)) s1 := by
  have q := ev_rng1 (g := aCons f aNil) (ev_cons a r_nil) (by unfold lim; omega) h0
  rw [e, rngL0] at q
  exact q
end
/-! operations -/
section
variable {i j : Int} {p q : Pt} {x : Rat}
theorem o_add : addD (.int i) (.int j) = some (.int (i + j)) := rfl
theorem o_iadd : iaddD (.int i) (.int j) = some (.int (i + j)) := rfl
theorem o_sub : subD (.int i) (.int j) = some (.int (i - j)) := rfl
theorem o_lt : ltD (.int i) (.int j) = some (.bool (decide (i < j))) := rfl
theorem o_le : leD (.int i) (.int j) = some (.bool (decide (i ≤ j))) := rfl
theorem o_gt : gtD (.int i) (.int j) = some (.bool (decide (j < i))) := rfl
theorem o_ge : geD (.int i) (.int j) = some (.bool (decide (j ≤ i))) := rfl
theorem o_pt0 : ixD (ePt p) (.int 0) = some (.int p.1) := rfl
theorem o_pt1 : ixD (ePt p) (.int 1) = some (.int p.2) := rfl
theorem o_q0 : ixD (eQ x) (.int 0) = some (.int x.num) := rfl
theorem o_q1 : ixD (eQ x) (.int 1) = some (.int (x.den : Int)) := rfl
theorem o_th0 {t : Int × Bool} : ixD (eTh t) (.int 0) = some (.int t.1) := rfl
theorem o_th1 {t : Int × Bool} : ixD (eTh t) (.int 1) = some (.bool t.2) := rfl
theorem o_t0 {a : D} {r : List D} : ixD (.tuple (a :: r)) (.int 0) = some a := atI_first
theorem o_t1 {a b : D} {r : List D} : ixD (.tuple (a :: b :: r)) (.int 1) = some b := by
  show atI (a :: b :: r) ((1 : Nat) : Int) = _
  rw [DL.atI_nat (by simp)]; rfl
theorem o_lenP (P : List Pt) : lenD [ePts P] = some (.int (P.length : Nat)) := lenD_map ePt P
theorem o_lenT (l : List (Int × Bool)) : lenD [eThs l] = some (.int (l.length : Nat)) := lenD_map eTh l
theorem o_lenI (l : List Int) : lenD [eIs l] = some (.int (l.length : Nat)) := lenD_map _ l
theorem o_ixP {C : List Pt} {k : Nat} (h : k < C.length) : ixD (ePts C) (.int (k : Nat)) = some (ePt (gt C k)) := gt_atI h
theorem o_ixP' {C : List Pt} {j : Int} (h0 : 0 ≤ j) (h : j < C.length) : ixD (ePts C) (.int j) = some (ePt (gt C j.toNat)) := by
  have e : j = ((j.toNat : Nat) : Int) := by omega
  rw [show PyData.int j = PyData.int ((j.toNat : Nat) : Int) by rw [← e]]
  exact gt_atI (by omega)
theorem gt_last {C : List Pt} {p : Pt} (h : C.getLast? = some p) : gt C (C.length - 1) = p := by
  rw [List.getLast?_eq_getElem?] at h
  unfold gt
  rw [List.getD_eq_getElem?_getD, h]
  rfl
theorem o_last {C : List Pt} {p : Pt} (h : C.getLast? = some p) : ixD (ePts C) (.int (-1)) = some (ePt p) := by
  have hn : C ≠ [] := fun e => by rw [e] at h; cases h
  show atI (C.map ePt) (-1) = _
  rw [atI_last (by simpa using hn), List.getLast?_map, h]
  rfl
theorem o_first {p : Pt} {C : List Pt} (h : C.head? = some p) : ixD (ePts C) (.int 0) = some (ePt p) := by
  cases C with
  | nil => cases h
  | cons a r => cases h; exact atI_first
theorem eq_bool (a b : Bool) : eqD (.bool a) (.bool b) = some (.bool (decide (a = b))) := eqD_of eqE_bool (k := 0) (fun a => by simp [PyData.depth]) (by decide) a b
theorem isB (a b : Bool) : isBD (.bool a) (.bool b) = some (.bool (decide (a = b))) := rfl
theorem notB (a b : Bool) : notBD (.bool a) (.bool b) = some (.bool (!decide (a = b))) := rfl
theorem isN_opt (o : Option Int) : isND (optD o) .none = some (.bool (decide (o = none))) := by cases o <;> rfl
theorem notN_opt (o : Option Int) : notND (optD o) .none = some (.bool (!decide (o = none))) := by cases o <;> rfl
theorem ePt_mk (a b : Int) : PyData.tuple [.int a, .int b] = ePt (a, b) := rfl
theorem eq_pt' (p : Pt) (a b : Int) : eqD (ePt p) (.tuple [.int a, .int b]) = some (.bool (decide (p = (a, b)))) := eq_pt p (a, b)
theorem ne_pt' (p : Pt) (a b : Int) : neD (ePt p) (.tuple [.int a, .int b]) = some (.bool (!decide (p = (a, b)))) := ne_pt p (a, b)
theorem eq_Q' (x : Rat) (a : Int) : eqD (eQ x) (.tuple [.int a, .int 1]) = some (.bool (decide (x = (a : Rat)))) := eq_Q x (a : Rat)
theorem ne_Q' (x : Rat) (a : Int) : neD (eQ x) (.tuple [.int a, .int 1]) = some (.bool (!decide (x = (a : Rat)))) := ne_Q x (a : Rat)
theorem mulI {i j : Int} (h : (-1000000000 ≤ i ∧ i ≤ 1000000000) ∨ (-1000000000 ≤ j ∧ j ≤ 1000000000)) : mulD (.int i) (.int j) = some (.int (i * j)) := by
  rcases h with h | h
  · exact mul_b h.1 h.2
  · exact mul_br h.1 h.2
end
end DL
namespace DL
open PySem L2
section
variable {g : FA DSt} {ρ : Env} {s s1 s2 : DSt} {p : Addr} {f fa fb : FE DSt} {x y d : D}
theorem r_fnS1 {sem : List D → DSt → Res DSt D} (hv : f ρ s = .ok (.v (.ref p)) s) (hp : p = s.a) (q : sem [] s = .ok d s2) (nx : Nx s s2) : eFnS 1 sem (aCons f aNil) ρ s = .ok (.d d) s2 := ev_fnS (ev_cons hv rfl) hp rfl rfl q nx
theorem r_fnS2 {sem : List D → DSt → Res DSt D} (hv : f ρ s = .ok (.v (.ref p)) s) (a : fa ρ s = .ok (.d x) s1) (hp : p = s1.a) (q : sem [x] s1 = .ok d s2) (nx : Nx s1 s2) : eFnS 2 sem (aCons f (aCons fa aNil)) ρ s = .ok (.d d) s2 := ev_fnS (ev_cons hv (ev_cons a rfl)) hp rfl rfl q nx
end
end DL

namespace DL
open PySem L2
section
variable {S : Type}
theorem g_out {a b : Out S} (h : a = b) : a = b := h
theorem g_dv {a b : Res S Dv} (h : a = b) : a = b := h
theorem g_bool {a b : Res S Bool} (h : a = b) : a = b := h
theorem g_args {a b : Res S (List Dv)} (h : a = b) : a = b := h
theorem g_sem {a b : Res S D} (h : a = b) : a = b := h
theorem g_fl {a b : Res S (List D)} (h : a = b) : a = b := h
theorem g_oi {a b : Res S (Option Int)} (h : a = b) : a = b := h
theorem g_op {a b : Option D} (h : a = b) : a = b := h
theorem g_get {a b : Option Sl} (h : a = b) : a = b := h
theorem g_env {a b : DL.Env} (h : a = b) : a = b := h
theorem g_oenv {a b : Option DL.Env} (h : a = b) : a = b := h
theorem g_tf {a b : Bool} (h : a = b) : a = b := h
theorem g_addr {a b : Addr} (h : a = b) : a = b := h
end
end DL

namespace DL
open PySem L2
section
variable {S : Type} {fa fb : FE S} {F G : FS S} {h k : FT S} {ρ : Env} {s s1 s2 : S} {o : Out S} {v : Dv}
theorem r_andF (a : h ρ s = .ok false s1) : fAnd h k ρ s = .ok false s1 := by unfold fAnd; rw [a]; rfl
theorem r_orT (a : h ρ s = .ok true s1) : fOr h k ρ s = .ok true s1 := by unfold fOr; rw [a]; rfl
theorem r_andT {c : Bool} (a : h ρ s = .ok true s1) (e : k ρ s1 = .ok c s1) : fAnd h k ρ s = .ok c s1 := by unfold fAnd; rw [a]; exact e
theorem r_orF {c : Bool} (a : h ρ s = .ok false s1) (e : k ρ s1 = .ok c s1) : fOr h k ρ s = .ok c s1 := by unfold fOr; rw [a]; exact e
theorem r_andVF (a : fa ρ s = .ok (.d (.bool false)) s1) : eAnd fa fb ρ s = .ok (.d (.bool false)) s1 := by unfold eAnd; rw [a]; rfl
theorem r_andVT (a : fa ρ s = .ok (.d (.bool true)) s1) (e : fb ρ s1 = .ok v s2) : eAnd fa fb ρ s = .ok v s2 := by unfold eAnd; rw [a]; exact e
theorem r_orVT (a : fa ρ s = .ok (.d (.bool true)) s1) : eOr fa fb ρ s = .ok (.d (.bool true)) s1 := by unfold eOr; rw [a]; rfl
theorem r_orVF (a : fa ρ s = .ok (.d (.bool false)) s1) (e : fb ρ s1 = .ok v s2) : eOr fa fb ρ s = .ok v s2 := by unfold eOr; rw [a]; exact e
theorem r_if1 (a : h ρ s = .ok true s1) (e : F ρ s1 = o) : sIf h F G ρ s = o := ev_ifT a e
theorem r_if0 (a : h ρ s = .ok false s1) (e : G ρ s1 = o) : sIf h F G ρ s = o := ev_ifF a e
theorem r_eIf1 (a : h ρ s = .ok true s1) (e : fa ρ s1 = .ok v s2) : eIf h fa fb ρ s = .ok v s2 := ev_eIf a e
theorem r_eIf0 (a : h ρ s = .ok false s1) (e : fb ρ s1 = .ok v s2) : eIf h fa fb ρ s = .ok v s2 := ev_eIf a e
theorem r_notT (a : h ρ s = .ok true s1) : fNot h ρ s = .ok false s1 := ev_not a
theorem r_notF (a : h ρ s = .ok false s1) : fNot h ρ s = .ok true s1 := ev_not a
variable {i j : Int}
theorem o_ltT (q : i < j) : ltD (.int i) (.int j) = some (.bool true) := by rw [o_lt, decide_eq_true q]
theorem o_ltF (q : ¬ i < j) : ltD (.int i) (.int j) = some (.bool false) := by rw [o_lt, decide_eq_false q]
theorem o_leT (q : i ≤ j) : leD (.int i) (.int j) = some (.bool true) := by rw [o_le, decide_eq_true q]
theorem o_leF (q : ¬ i ≤ j) : leD (.int i) (.int j) = some (.bool false) := by rw [o_le, decide_eq_false q]
theorem o_gtT (q : j < i) : gtD (.int i) (.int j) = some (.bool true) := by rw [o_gt, decide_eq_true q]
theorem o_gtF (q : ¬ j < i) : gtD (.int i) (.int j) = some (.bool false) := by rw [o_gt, decide_eq_false q]
theorem o_geT (q : j ≤ i) : geD (.int i) (.int j) = some (.bool true) := by rw [o_ge, decide_eq_true q]
theorem o_geF (q : ¬ j ≤ i) : geD (.int i) (.int j) = some (.bool false) := by rw [o_ge, decide_eq_false q]
theorem o_eqT (q : i = j) : eqD (.int i) (.int j) = some (.bool true) := by rw [eq_int, decide_eq_true q]
theorem o_eqF (q : ¬ i = j) : eqD (.int i) (.int j) = some (.bool false) := by rw [eq_int, decide_eq_false q]
theorem o_neT (q : ¬ i = j) : neD (.int i) (.int j) = some (.bool true) := by rw [ne_int, decide_eq_false q]; rfl
theorem o_neF (q : i = j) : neD (.int i) (.int j) = some (.bool false) := by rw [ne_int, decide_eq_true q]; rfl
theorem ne_self_pt (p : Pt) : neD (ePt p) (ePt p) = some (.bool false) := by rw [ne_pt, decide_eq_true rfl]; rfl
theorem ne_self_pts (p : List Pt) : neD (ePts p) (ePts p) = some (.bool false) := by rw [ne_pts, decide_eq_true rfl]; rfl
theorem ne_self_ths (p : List (Int × Bool)) : neD (eThs p) (eThs p) = some (.bool false) := by rw [ne_ths, decide_eq_true rfl]; rfl
theorem ne_self_is (p : List Int) : neD (eIs p) (eIs p) = some (.bool false) := by rw [ne_is, decide_eq_true rfl]; rfl
theorem ne_self_Q (p : Rat) : neD (eQ p) (eQ p) = some (.bool false) := by rw [ne_Q, decide_eq_true rfl]; rfl
theorem ne_self_tr (p : Int × Int × Int) : neD (eTr p) (eTr p) = some (.bool false) := by rw [ne_tr, decide_eq_true rfl]; rfl
theorem eq_self_pt (p : Pt) : eqD (ePt p) (ePt p) = some (.bool true) := by rw [eq_pt, decide_eq_true rfl]
theorem eq_self_pts (p : List Pt) : eqD (ePts p) (ePts p) = some (.bool true) := by rw [eq_pts, decide_eq_true rfl]
theorem eq_self_Q (p : Rat) : eqD (eQ p) (eQ p) = some (.bool true) := by rw [eq_Q, decide_eq_true rfl]
end
end DL

namespace DL
open PySem L2
/-! ### curves, their hulls, heights by points and chords -/
structure Crv (P : List Pt) : Prop where
  pw : P.Pairwise lt2
  hd : P.head? = some (0, 0)
  lo : 2 ≤ P.length
theorem pts_crv {l : List (Int × Bool)} (h : Val l) : Crv (pts l) := ⟨pts_lt2 h, rfl, (pts_val h).lo⟩
theorem gt_zero' {C : List Pt} {p : Pt} (h : C.head? = some p) : gt C 0 = p := by
  cases C with
  | nil => cases h
  | cons a r => cases h; rfl
theorem pw_gt {P : List Pt} (h : P.Pairwise lt2) {i j : Nat} (hij : i < j) (hj : j < P.length) : lt2 (gt P i) (gt P j) := by
  have e1 := gt_of (C := P) (i := i) (by omega)
  have e2 := gt_of hj
  rw [List.getElem?_eq_getElem (by omega)] at e1 e2
  have e1 := Option.some.inj e1
  have e2 := Option.some.inj e2
  rw [← e1, ← e2]
  exact List.pairwise_iff_getElem.mp h i j _ _ hij
theorem mem_gt {P : List Pt} {p : Pt} (h : p ∈ P) : ∃ i, i < P.length ∧ gt P i = p := by
  obtain ⟨i, hi, e⟩ := List.mem_iff_getElem.mp h
  refine ⟨i, hi, ?_⟩
  have e1 := gt_of hi
  rw [List.getElem?_eq_getElem hi] at e1
  exact (Option.some.inj e1).symm.trans e
theorem zip_gt {P : List Pt} {a b : Pt} (h : (a, b) ∈ P.zip P.tail) : ∃ i, i + 1 < P.length ∧ a = gt P i ∧ b = gt P (i + 1) := by
  obtain ⟨i, hi, e⟩ := List.mem_iff_getElem.mp h
  have hl := hi
  rw [List.length_zip, List.length_tail] at hl
  have e3 := List.getElem?_eq_getElem hi
  rw [e] at e3
  obtain ⟨e1, e2⟩ := List.getElem?_zip_eq_some.mp e3
  rw [List.getElem?_tail] at e2
  rw [gt_of (by omega)] at e1 e2
  exact ⟨i, by omega, (Option.some.inj e1).symm, (Option.some.inj e2).symm⟩
theorem zip_gt' {P : List Pt} {i : Nat} (h : i + 1 < P.length) : (gt P i, gt P (i + 1)) ∈ P.zip P.tail := by
  refine List.mem_of_getElem? (i := i) (List.getElem?_zip_eq_some.mpr ⟨gt_of (by omega), ?_⟩)
  rw [List.getElem?_tail]
  exact gt_of h
section
variable {P C : List Pt}
theorem Crv.gt0 (h : Crv P) : gt P 0 = (0, 0) := gt_zero' h.hd
theorem Hull.gt0 (H : Hull P C) (h : Crv P) : gt C 0 = (0, 0) := gt_zero' (by rw [H.fst, h.hd])
theorem Hull.gtl (H : Hull P C) (h : Crv P) : gt C (C.length - 1) = gt P (P.length - 1) := by
  have e : P.getLast? = some (gt P (P.length - 1)) := by rw [List.getLast?_eq_getElem?]; exact gt_of (by have := h.lo; omega)
  exact gt_last (by rw [H.lst, e])
theorem Hull.two (H : Hull P C) (h : Crv P) : 2 ≤ C.length := by
  have p := H.pos
  by_cases c : C.length = 1
  · have a := H.gt0 h
    have b := H.gtl h
    rw [c] at b
    have d := pw_gt h.pw (i := 0) (j := P.length - 1) (by have := h.lo; omega) (by have := h.lo; omega)
    rw [← b, h.gt0] at d
    simp only [Nat.sub_self] at d
    rw [a] at d
    unfold lt2 at d
    simp at d
  · omega
theorem Hull.pw (H : Hull P C) : C.Pairwise lt2 := by
  rw [List.pairwise_iff_getElem]
  intro i j hi hj hij
  have e1 : C[i] = gt C i := by have := gt_of hi; rw [List.getElem?_eq_getElem hi] at this; exact Option.some.inj this
  have e2 : C[j] = gt C j := by have := gt_of hj; rw [List.getElem?_eq_getElem hj] at this; exact Option.some.inj this
  rw [e1, e2]
  have go : ∀ n, i + 1 + n < C.length → lt2 (gt C i) (gt C (i + 1 + n)) := by
    intro n
    induction n with
    | zero => intro h; exact H.up i h
    | succ n ih => intro h; exact (ih (by omega)).trans (H.up (i + 1 + n) h)
  have := go (j - (i + 1)) (by omega)
  rw [show i + 1 + (j - (i + 1)) = j by omega] at this
  exact this
theorem Hull.crv (H : Hull P C) (h : Crv P) : Crv C := ⟨H.pw, by rw [H.fst, h.hd], H.two h⟩
/-- only the first step may go straight up -/
theorem Hull.wide (H : Hull P C) {i : Nat} (h0 : 1 ≤ i) (hi : i + 1 < C.length) : (gt C i).1 < (gt C (i + 1)).1 := by
  have a := H.up (i - 1) (by omega)
  have b := H.up i hi
  have t := H.tn (i - 1) (by omega)
  rw [show i - 1 + 1 = i by omega] at a t
  rw [show i - 1 + 2 = i + 1 by omega] at t
  unfold lt2 at a b
  unfold trn at t
  by_cases c : (gt C i).1 < (gt C (i + 1)).1
  · exact c
  · have e : (gt C (i + 1)).1 = (gt C i).1 := by omega
    rw [e] at t
    have m := Int.mul_nonneg (show 0 ≤ (gt C i).1 - (gt C (i - 1)).1 by omega) (show 0 ≤ (gt C (i + 1)).2 - (gt C i).2 by omega)
    exfalso
    have : ((gt C i).1 - (gt C (i - 1)).1) * ((gt C (i + 1)).2 - (gt C (i - 1)).2) - ((gt C i).2 - (gt C (i - 1)).2) * ((gt C i).1 - (gt C (i - 1)).1) = ((gt C i).1 - (gt C (i - 1)).1) * ((gt C (i + 1)).2 - (gt C i).2) := by grind
    omega
theorem Crv.last_le (h : Crv P) {p : Pt} (hp : p ∈ P) : le2 p (gt P (P.length - 1)) := by
  obtain ⟨i, hi, rfl⟩ := mem_gt hp
  by_cases c : i = P.length - 1
  · rw [c]; exact le2.rfl'
  · exact (pw_gt h.pw (by omega) (by omega)).le
theorem Crv.nonneg (h : Crv P) {p : Pt} (hp : p ∈ P) : 0 ≤ p.1 ∧ 0 ≤ p.2 := by
  obtain ⟨i, hi, rfl⟩ := mem_gt hp
  by_cases c : i = 0
  · rw [c, h.gt0]; simp
  · have := pw_gt h.pw (i := 0) (j := i) (by omega) hi
    rw [h.gt0] at this
    unfold lt2 at this
    simp at this
    omega
/-- a chord over x is at most the height of the hull -/
theorem Hull.chord (H : Hull P C) (h : Crv P) {p n : Pt} {x : Rat} (hp : p ∈ P) (hn : n ∈ P) (h1 : (p.1 : Rat) < x) (h2 : x < (n.1 : Rat)) : lnQ p n x ≤ heightM C x := by
  have p0 := (h.nonneg hp).1
  have nl := h.last_le hn
  have c0 := H.gt0 h
  have cl := H.gtl h
  have x0 : (0 : Rat) < x := by have : ((0 : Int) : Rat) ≤ (p.1 : Rat) := Rat.intCast_le_intCast.mpr p0; grind
  have xl : x ≤ ((gt C (C.length - 1)).1 : Rat) := by
    rw [cl]
    unfold le2 at nl
    have : (n.1 : Rat) ≤ ((gt P (P.length - 1)).1 : Rat) := Rat.intCast_le_intCast.mpr nl.1
    grind
  obtain ⟨i, hi, a, b⟩ := H.cover (x := x) (H.two h) (by rw [c0]; show ((0 : Int) : Rat) ≤ x; grind) xl
  have u := H.up i hi
  unfold lt2 at u
  by_cases c : (gt C i).1 < (gt C (i + 1)).1
  · exact H.chord_ht h.pw hp hn h1 h2 hi c a b
  · by_cases z : i = 0
    · subst z
      rw [c0] at c
      have : ((gt C (0 + 1)).1 : Rat) ≤ ((0 : Int) : Rat) := Rat.intCast_le_intCast.mpr (by simp at c; exact c)
      exfalso
      have z : ((0 : Int) : Rat) = 0 := rfl
      grind
    · exact absurd (H.wide (by omega) hi) c
end
/-! heights of curves as the laws find them -/
def stQ (x : Rat) (q : Pt × Pt) : Bool := decide ((q.1.1 : Rat) < x) && decide (x < (q.2.1 : Rat))
def ptV (P : List Pt) (x : Rat) : List Rat := (P.filter fun p => decide ((p.1 : Rat) = x)).map fun p => (p.2 : Rat)
def lhM (P : List Pt) (x : Rat) : Rat := topQ (topQ 0 (ptV P x)) (((P.zip P.tail).filter (stQ x)).map fun q => lnQ q.1 q.2 x)
def ltM (P : List Pt) (x : Rat) : Rat := P.foldl (fun b p => topQ b ((P.filter fun q => stQ x (p, q)).map fun q => lnQ p q x)) (lhM P x)
theorem topQ_app (b : Rat) (l m : List Rat) : topQ (topQ b l) m = topQ b (l ++ m) := by unfold topQ; rw [List.foldl_append]
theorem stQ_iff {x : Rat} {p q : Pt} : stQ x (p, q) = true ↔ (p.1 : Rat) < x ∧ x < (q.1 : Rat) := by unfold stQ; rw [Bool.and_eq_true, decide_eq_true_iff, decide_eq_true_iff]
theorem cvQ_iff {x : Rat} {p q : Pt} : cvQ x (p, q) = true ↔ (p.1 : Rat) ≤ x ∧ x ≤ (q.1 : Rat) := by unfold cvQ; rw [Bool.and_eq_true, decide_eq_true_iff, decide_eq_true_iff]
theorem ptV_mem {P : List Pt} {x r : Rat} : r ∈ ptV P x ↔ ∃ p ∈ P, (p.1 : Rat) = x ∧ r = (p.2 : Rat) := by
  unfold ptV
  rw [List.mem_map]
  constructor
  · rintro ⟨p, hp, e⟩
    obtain ⟨h1, h2⟩ := List.mem_filter.mp hp
    exact ⟨p, h1, of_decide_eq_true h2, e.symm⟩
  · rintro ⟨p, hp, e, k⟩
    exact ⟨p, List.mem_filter.mpr ⟨hp, decide_eq_true e⟩, k.symm⟩
/-- all that ltM takes the greatest of -/
theorem ltM_eq (P : List Pt) (x : Rat) : ltM P x = topQ 0 (ptV P x ++ ((P.zip P.tail).filter (stQ x)).map (fun q => lnQ q.1 q.2 x) ++ (P.map fun p => (P.filter fun q => stQ x (p, q)).map fun q => lnQ p q x).flatten) := by
  have go : ∀ (R : List Pt) (b : Rat), R.foldl (fun b p => topQ b ((P.filter fun q => stQ x (p, q)).map fun q => lnQ p q x)) b = topQ b (R.map fun p => (P.filter fun q => stQ x (p, q)).map fun q => lnQ p q x).flatten := by
    intro R
    induction R with
    | nil => intro b; rfl
    | cons p R ih => intro b; rw [List.foldl_cons, ih, topQ_app]; rfl
  unfold ltM lhM
  rw [go, topQ_app, topQ_app, List.append_assoc]
theorem lhM_eq (P : List Pt) (x : Rat) : lhM P x = topQ 0 (ptV P x ++ ((P.zip P.tail).filter (stQ x)).map (fun q => lnQ q.1 q.2 x)) := by
  unfold lhM
  rw [topQ_app]
theorem topQ_le {b m : Rat} {l : List Rat} (h0 : b ≤ m) (h : ∀ y ∈ l, y ≤ m) : topQ b l ≤ m := by
  rcases topQ_in l b with e | e
  · rw [e]; exact h0
  · exact h _ e
theorem ln_left {s t : Pt} {x : Rat} (e : (s.1 : Rat) = x) (w : t.1 - s.1 ≠ 0) : lnQ s t x = (s.2 : Rat) := by
  have n := cast_ne w
  rw [Rat.intCast_sub] at n
  unfold lnQ
  rw [← e]
  grind
theorem ln_right {s t : Pt} {x : Rat} (e : (t.1 : Rat) = x) (w : t.1 - s.1 ≠ 0) : lnQ s t x = (t.2 : Rat) := by
  have n := cast_ne w
  rw [Rat.intCast_sub] at n
  unfold lnQ
  rw [← e]
  grind
/-- what a covering step gives: a point's height, or that of a step over x -/
theorem sg_split {P : List Pt} {s t : Pt} {x : Rat} (m : (s, t) ∈ P.zip P.tail) (h : cvQ x (s, t) = true) : sgQ s t x ∈ ptV P x ∨ ((s, t) ∈ (P.zip P.tail).filter (stQ x) ∧ sgQ s t x = lnQ s t x) := by
  have hs := (List.of_mem_zip m).1
  have ht := List.mem_of_mem_tail (List.of_mem_zip m).2
  have hc := cvQ_iff.mp h
  unfold sgQ
  by_cases c : t.1 - s.1 = 0
  · rw [if_pos c]
    refine .inl (ptV_mem.mpr ⟨t, ht, ?_, rfl⟩)
    have : t.1 = s.1 := by omega
    rw [this] at hc ⊢
    exact Rat.le_antisymm hc.1 hc.2
  · rw [if_neg c]
    by_cases a : (s.1 : Rat) = x
    · exact .inl (ptV_mem.mpr ⟨s, hs, a, ln_left a c⟩)
    · by_cases b : (t.1 : Rat) = x
      · exact .inl (ptV_mem.mpr ⟨t, ht, b, ln_right b c⟩)
      · refine .inr ⟨List.mem_filter.mpr ⟨m, stQ_iff.mpr ⟨?_, ?_⟩⟩, rfl⟩
        · have := hc.1; grind
        · have := hc.2; grind
section
variable {P C : List Pt}
/-- a curve's height, as the program and as the laws find it -/
theorem ht_lh (h : Crv P) (x : Rat) : heightM P x = lhM P x := by
  rw [lhM_eq]
  unfold heightM
  refine topQ_eq (fun r hr => ?_) fun r hr => ?_
  · obtain ⟨⟨s, t⟩, m, rfl⟩ := List.mem_map.mp hr
    obtain ⟨m1, m2⟩ := List.mem_filter.mp m
    rcases sg_split m1 m2 with q | ⟨q, e⟩
    · exact ⟨_, List.mem_cons_of_mem _ (List.mem_append_left _ q), Rat.le_refl⟩
    · exact ⟨lnQ s t x, List.mem_cons_of_mem _ (List.mem_append_right _ (List.mem_map.mpr ⟨_, q, rfl⟩)), by dsimp only; rw [e]; exact Rat.le_refl⟩
  · rcases List.mem_append.mp hr with q | q
    · obtain ⟨p, hp, e, rfl⟩ := ptV_mem.mp q
      obtain ⟨i, hi, rfl⟩ := mem_gt hp
      by_cases z : i = 0
      · subst z
        rw [h.gt0]
        exact ⟨0, by simp, Rat.le_refl⟩
      · have u := pw_gt h.pw (i := i - 1) (j := i) (by omega) hi
        unfold lt2 at u
        have m := zip_gt' (P := P) (i := i - 1) (by omega)
        rw [show i - 1 + 1 = i by omega] at m
        have cv : cvQ x (gt P (i - 1), gt P i) = true := cvQ_iff.mpr ⟨by rw [← e]; exact Rat.intCast_le_intCast.mpr u.1, by rw [e]; exact Rat.le_refl⟩
        refine ⟨sgQ (gt P (i - 1)) (gt P i) x, List.mem_cons_of_mem _ (List.mem_map.mpr ⟨_, List.mem_filter.mpr ⟨m, cv⟩, rfl⟩), ?_⟩
        unfold sgQ
        by_cases c : (gt P i).1 - (gt P (i - 1)).1 = 0
        · rw [if_pos c]; exact Rat.le_refl
        · rw [if_neg c, ln_right e c]; exact Rat.le_refl
    · obtain ⟨⟨s, t⟩, m, rfl⟩ := List.mem_map.mp q
      obtain ⟨m1, m2⟩ := List.mem_filter.mp m
      have st := stQ_iff.mp m2
      have cv : cvQ x (s, t) = true := cvQ_iff.mpr ⟨Rat.le_of_lt st.1, Rat.le_of_lt st.2⟩
      refine ⟨sgQ s t x, List.mem_cons_of_mem _ (List.mem_map.mpr ⟨_, List.mem_filter.mpr ⟨m1, cv⟩, rfl⟩), ?_⟩
      have w : s.1 < t.1 := Rat.intCast_lt_intCast.mp (by have := st.1; have := st.2; grind)
      unfold sgQ
      rw [if_neg (by omega)]
      exact Rat.le_refl
/-- the height of the hull is the greatest of all points and chords -/
theorem Hull.ht_top (H : Hull P C) (h : Crv P) (x : Rat) : heightM C x = ltM P x := by
  have n0 : 0 ≤ heightM C x := (topQ_ge _ 0).1
  refine Rat.le_antisymm ?_ ?_
  · rw [ltM_eq]
    rcases topQ_in (((C.zip C.tail).filter (cvQ x)).map fun q => sgQ q.1 q.2 x) 0 with e | e
    · unfold heightM
      rw [e]
      exact (topQ_ge _ 0).1
    · have e : heightM C x ∈ ((C.zip C.tail).filter (cvQ x)).map fun q => sgQ q.1 q.2 x := e
      obtain ⟨⟨s, t⟩, m, es⟩ := List.mem_map.mp e
      obtain ⟨m1, m2⟩ := List.mem_filter.mp m
      rw [← es]
      rcases sg_split m1 m2 with q | ⟨q, e⟩
      · obtain ⟨p, hp, e1, e2⟩ := ptV_mem.mp q
        exact (topQ_ge _ 0).2 _ (List.mem_append_left _ (List.mem_append_left _ (ptV_mem.mpr ⟨p, H.sub p hp, e1, e2⟩)))
      · dsimp only
        rw [e]
        have hs := H.sub s (List.of_mem_zip m1).1
        have ht := H.sub t (List.mem_of_mem_tail (List.of_mem_zip m1).2)
        exact (topQ_ge _ 0).2 _ (List.mem_append_right _ (List.mem_flatten.mpr ⟨_, List.mem_map.mpr ⟨s, hs, rfl⟩, List.mem_map.mpr ⟨t, List.mem_filter.mpr ⟨ht, (List.mem_filter.mp q).2⟩, rfl⟩⟩))
  · rw [ltM_eq]
    refine topQ_le n0 fun r hr => ?_
    rcases List.mem_append.mp hr with q | q
    · rcases List.mem_append.mp q with q | q
      · obtain ⟨p, hp, e, rfl⟩ := ptV_mem.mp q
        rw [← e]
        exact H.point_le h.pw (H.two h) hp
      · obtain ⟨⟨s, t⟩, m, rfl⟩ := List.mem_map.mp q
        obtain ⟨m1, m2⟩ := List.mem_filter.mp m
        have st := stQ_iff.mp m2
        exact H.chord h (List.of_mem_zip m1).1 (List.mem_of_mem_tail (List.of_mem_zip m1).2) st.1 st.2
    · obtain ⟨L, hL, hr⟩ := List.mem_flatten.mp q
      obtain ⟨s, hs, rfl⟩ := List.mem_map.mp hL
      obtain ⟨t, ht, rfl⟩ := List.mem_map.mp hr
      obtain ⟨m1, m2⟩ := List.mem_filter.mp ht
      have st := stQ_iff.mp m2
      exact H.chord h hs m1 st.1 st.2
theorem ln_ge {p n : Pt} {x : Rat} (h1 : (p.1 : Rat) ≤ x) (w : p.1 < n.1) (h : p.2 ≤ n.2) : (p.2 : Rat) ≤ lnQ p n x := by
  have wp : (0 : Rat) < (n.1 : Rat) - (p.1 : Rat) := by
    have : ((p.1 : Int) : Rat) < ((n.1 : Int) : Rat) := Rat.intCast_lt_intCast.mpr w
    grind
  have vp : (0 : Rat) ≤ (n.2 : Rat) - (p.2 : Rat) := by
    have : ((p.2 : Int) : Rat) ≤ ((n.2 : Int) : Rat) := Rat.intCast_le_intCast.mpr h
    grind
  unfold lnQ
  have := Rat.mul_nonneg (Rat.mul_nonneg (show 0 ≤ x - (p.1 : Rat) by grind) vp) (Rat.le_of_lt (Rat.inv_pos.mpr wp))
  rw [← Rat.div_def] at this
  grind
/-- the hull is at least as high as each point before -/
theorem Hull.ht_ge (H : Hull P C) (h : Crv P) {p : Pt} (hp : p ∈ P) {x : Rat} (h1 : (p.1 : Rat) ≤ x) (h2 : x ≤ ((gt P (P.length - 1)).1 : Rat)) : (p.2 : Rat) ≤ heightM C x := by
  have ll := h.last_le hp
  unfold le2 at ll
  have hl : gt P (P.length - 1) ∈ P := gt_mem (by have := h.lo; omega)
  by_cases a : (p.1 : Rat) = x
  · rw [← a]; exact H.point_le h.pw (H.two h) hp
  · by_cases b : x = ((gt P (P.length - 1)).1 : Rat)
    · rw [b]
      exact Rat.le_trans (Rat.intCast_le_intCast.mpr ll.2) (H.point_le h.pw (H.two h) hl)
    · have a1 : (p.1 : Rat) < x := by grind
      have b1 : x < ((gt P (P.length - 1)).1 : Rat) := by grind
      refine Rat.le_trans (ln_ge (n := gt P (P.length - 1)) h1 ?_ ll.2) (H.chord h hp hl a1 b1)
      exact Rat.intCast_lt_intCast.mp (by grind)
end
end DL
namespace DL
open PySem L2
section
variable {S : Type} {α : Type}
/-- a for that goes on, whatever comes behind it -/
theorem seq_for {Q : Out S → Prop} {l : FL S} {p : D → Env → Option Env} {F G : FS S} {ρ : Env} {s s1 : S} {enc : α → D} {xs : List α} (I : List α → Env → S → Prop) (a : l ρ s = .ok (xs.map enc) s1) (i0 : I [] ρ s1)
    (h : ∀ (pre : List α) (x : α) (post : List α) (ρ : Env) (s : S), pre ++ x :: post = xs → I pre ρ s → ∃ ρ1, p (enc x) ρ = some ρ1 ∧ ∃ ρ2 s2, F ρ1 s = .nx ρ2 s2 ∧ I (pre ++ [x]) ρ2 s2)
    (k : ∀ (ρ' : Env) (s' : S), I xs ρ' s' → Q (G ρ' s')) : Q (sSeq (sFor l p F) G ρ s) := by
  obtain ⟨ρ', s', e, i⟩ := loop_inv I xs [] xs ρ s1 rfl i0 h
  have e2 : sFor l p F ρ s = .nx ρ' s' := ev_for a e
  have e3 : sSeq (sFor l p F) G ρ s = G ρ' s' := ev_seq e2 rfl
  rw [e3]
  exact k ρ' s' i
theorem seq_forE {o : Out S} {l : FL S} {p : D → Env → Option Env} {F G : FS S} {ρ : Env} {s s1 : S} {enc : α → D} {xs : List α} (I : List α → Env → S → Prop) (a : l ρ s = .ok (xs.map enc) s1) (i0 : I [] ρ s1)
    (h : ∀ (pre : List α) (x : α) (post : List α) (ρ : Env) (s : S), pre ++ x :: post = xs → I pre ρ s → ∃ ρ1, p (enc x) ρ = some ρ1 ∧ ∃ ρ2 s2, F ρ1 s = .nx ρ2 s2 ∧ I (pre ++ [x]) ρ2 s2)
    (k : ∀ (ρ' : Env) (s' : S), I xs ρ' s' → G ρ' s' = o) : sSeq (sFor l p F) G ρ s = o := seq_for (Q := fun r => r = o) I a i0 h k
/-- one statement ahead -/
theorem seq_nx {Q : Out S → Prop} {F G : FS S} {ρ ρ1 : Env} {s s1 : S} (a : F ρ s = .nx ρ1 s1) (k : Q (G ρ1 s1)) : Q (sSeq F G ρ s) := by
  rw [ev_seq a rfl]; exact k
end
theorem range_at {pre post : List Nat} {x n : Nat} (e : pre ++ x :: post = List.range n) : x = pre.length ∧ x < n := by
  have h : (pre ++ x :: post)[pre.length]? = some x := by simp
  rw [e] at h
  have hl := congrArg List.length e
  simp at hl
  rw [List.getElem?_range (by omega)] at h
  exact ⟨(Option.some.inj h).symm, by have := Option.some.inj h; omega⟩
end DL
namespace DL
theorem nx_of {S : Type} {F : FS S} {ρ ρ2 : Env} {s s2 : S} {I : Env → S → Prop} (a : F ρ s = .nx ρ2 s2) (i : I ρ2 s2) : ∃ ρ2 s2, F ρ s = .nx ρ2 s2 ∧ I ρ2 s2 := ⟨_, _, a, i⟩
end DL

namespace DL
open PySem L2
/-! ### valid curves; the hull is the only one; things made of a curve; areas -/
theorem pval_crv {P : List Pt} (h : PVal P) : Crv P := by
  refine ⟨?_, h.hd, h.lo⟩
  have st : ∀ i, i + 1 < P.length → lt2 (gt P i) (gt P (i + 1)) := fun i hi => by
    have u := h.up _ (zip_gt' hi)
    dsimp only at u
    obtain ⟨u1, u2, u3⟩ := u
    unfold lt2
    refine ⟨u1, u2, ?_⟩
    by_cases c : (gt P i).1 + (gt P i).2 < (gt P (i + 1)).1 + (gt P (i + 1)).2
    · exact c
    · exact absurd (Prod.ext (by omega) (by omega)) u3
  rw [List.pairwise_iff_getElem]
  intro i j hi hj hij
  have e1 : P[i] = gt P i := by have := gt_of hi; rw [List.getElem?_eq_getElem hi] at this; exact Option.some.inj this
  have e2 : P[j] = gt P j := by have := gt_of hj; rw [List.getElem?_eq_getElem hj] at this; exact Option.some.inj this
  rw [e1, e2]
  have go : ∀ n, i + 1 + n < P.length → lt2 (gt P i) (gt P (i + 1 + n)) := by
    intro n
    induction n with
    | zero => intro h; exact st i h
    | succ n ih => intro h; exact (ih (by omega)).trans (st (i + 1 + n) h)
  have := go (j - (i + 1)) (by omega)
  rw [show i + 1 + (j - (i + 1)) = j by omega] at this
  exact this
theorem pval_bd {P : List Pt} (h : PVal P) : ∀ p ∈ P, Bd p := fun p hp => by have := h.rg p hp; unfold Bd; omega
theorem pval_b12 {P : List Pt} (h : PVal P) : ∀ p ∈ P, B12 p := h.rg
theorem crv_pval {C : List Pt} (h : Crv C) (hs : (gt C (C.length - 1)).1 + (gt C (C.length - 1)).2 ≤ 12) : PVal C := by
  have lo := h.lo
  have gr : ∀ i : Nat, i < C.length → (i : Int) ≤ (gt C i).1 + (gt C i).2 := by
    intro i
    induction i with
    | zero => intro _; rw [h.gt0]; simp
    | succ i ih =>
      intro hi
      have := ih (by omega)
      have u := pw_gt h.pw (i := i) (j := i + 1) (by omega) hi
      unfold lt2 at u
      omega
  have g := gr (C.length - 1) (by omega)
  refine ⟨lo, by omega, h.hd, fun x hx => ?_, fun q hq => ?_, fun x hx => ?_⟩
  · have a := h.nonneg hx
    have b := h.last_le hx
    have c := h.nonneg (gt_mem (C := C) (i := C.length - 1) (by omega))
    unfold le2 at b
    omega
  · obtain ⟨a, b⟩ := q
    obtain ⟨i, hi, rfl, rfl⟩ := zip_gt hq
    have u := pw_gt h.pw (i := i) (j := i + 1) (by omega) hi
    unfold lt2 at u
    dsimp only
    refine ⟨u.1, u.2.1, fun e => ?_⟩
    rw [e] at u
    omega
  · rw [← gt_last hx]
    exact hs
theorem hull_pval {P C : List Pt} (H : Hull P C) (h : PVal P) : PVal C := by
  have K := pval_crv h
  refine crv_pval (H.crv K) ?_
  rw [H.gtl K]
  have e : P.getLast? = some (gt P (P.length - 1)) := by rw [List.getLast?_eq_getElem?]; exact gt_of (by have := K.lo; omega)
  exact h.sm _ e
theorem lt2_of_le {p q : Pt} (h : le2 p q) (n : p ≠ q) : lt2 p q := by
  unfold le2 at h
  unfold lt2
  refine ⟨h.1, h.2, ?_⟩
  by_cases c : p.1 + p.2 < q.1 + q.2
  · exact c
  · exact absurd (Prod.ext (by omega) (by omega)) n
theorem crs_neg_r (m a b : Pt) : crs m (dif b a) = - crs m (dif a b) := by rw [crs_dif, crs_dif]; omega
theorem trn_line (s t q : Pt) : trn s t q = crs (dif s t) (dif t q) := by rw [trn_crs2]
/-- the corners of a hull are the points at which each way over them turns to the right -/
theorem Hull.corner {P C : List Pt} (H : Hull P C) (K : Crv P) {p : Pt} (hp : p ∈ P) : p ∈ C ↔ ∀ a ∈ P, ∀ b ∈ P, lt2 a p → lt2 p b → trn a p b < 0 := by
  constructor
  · intro hc a ha b hb la lb
    obtain ⟨k, hk, rfl⟩ := mem_gt hc
    have k0 : k ≠ 0 := fun e => by
      rw [e, H.gt0 K] at la
      have := K.nonneg ha
      unfold lt2 at la
      simp at la
      omega
    have kl : k ≠ C.length - 1 := fun e => by
      rw [e, H.gtl K] at lb
      have := K.last_le hb
      unfold lt2 at lb
      unfold le2 at this
      omega
    obtain ⟨j, rfl⟩ : ∃ j, k = j + 1 := ⟨k - 1, by omega⟩
    have ua := H.under K.pw (i := j) (by omega) a ha
    have ub := H.under K.pw (i := j + 1) (by omega) b hb
    have tn := H.tn j (by omega)
    rw [trn_line] at ua
    rw [trn_crs2] at tn
    rw [trn_crs] at ub
    rw [trn_crs2]
    have n1 := H.nz (i := j) (by omega)
    have n2 := H.nz (i := j + 1) (by omega)
    rw [crs_neg_r] at ua
    rw [crs_neg] at ua
    have qa := qd_dif la.le
    have qb := qd_dif lb.le
    have pa : 0 < (dif a (gt C (j + 1))).1 + (dif a (gt C (j + 1))).2 := by unfold lt2 at la; unfold dif; dsimp only; omega
    have pb : 0 < (dif (gt C (j + 1)) b).1 + (dif (gt C (j + 1)) b).2 := by unfold lt2 at lb; unfold dif; dsimp only; omega
    have s1 := crs_trans_lt qa n2.1 n1.1 pa n1.2 n2.2 (by omega) (Int.le_of_lt tn) (.inr tn)
    exact crs_trans_lt qa qb n2.1 pa n2.2 pb (Int.le_of_lt s1) ub (.inl s1)
  · intro h
    rcases H.between K.pw hp with ⟨e, hl⟩ | ⟨i, hi, a, b⟩
    · rw [e]; exact gt_mem (by omega)
    · by_cases c1 : p = gt C i
      · rw [c1]; exact gt_mem (by omega)
      · by_cases c2 : p = gt C (i + 1)
        · rw [c2]; exact gt_mem hi
        · have t := h _ (H.sub _ (gt_mem (by omega))) _ (H.sub _ (gt_mem hi)) (lt2_of_le a fun e => c1 e.symm) (lt2_of_le b c2)
          have u := H.un i hi p hp a b
          rw [trn_crs] at t u
          rw [crs_neg] at u
          omega
theorem hull_only {P C C' : List Pt} (K : Crv P) (H : Hull P C) (H' : Hull P C') : C = C' := by
  refine order_eq (R := lt2) (fun a b h k => by unfold lt2 at h k; omega) H.pw H'.pw fun p => ?_
  constructor
  · intro hp
    exact (H'.corner K (H.sub p hp)).mpr ((H.corner K (H.sub p hp)).mp hp)
  · intro hp
    exact (H.corner K (H'.sub p hp)).mpr ((H'.corner K (H'.sub p hp)).mp hp)
/-- a hull is its own hull -/
theorem Hull.self {P C : List Pt} (H : Hull P C) (K : Crv P) : Hull C C := by
  refine ⟨H.pos, fun x hx => hx, H.up, H.tn, fun i hi p hp a b => ?_, rfl, rfl, lin_of H.pw⟩
  obtain ⟨j, hj, rfl⟩ := mem_gt hp
  have e : j = i ∨ j = i + 1 := by
    by_cases c1 : j < i
    · have := pw_gt H.pw c1 (by omega)
      unfold lt2 at this
      unfold le2 at a
      omega
    · by_cases c2 : i + 1 < j
      · have := pw_gt H.pw c2 hj
        unfold lt2 at this
        unfold le2 at b
        omega
      · omega
  rcases e with e | e
  · rw [e]; unfold trn; simp
  · rw [e]; rw [trn_crs, crs_self]; omega
theorem Hull.idem {P C : List Pt} (H : Hull P C) (K : Crv P) : cornM C = C :=
  hull_only (H.crv K) (cornM_hull H.pw (fun e => by have := H.pos; rw [e] at this; simp at this)) (H.self K)
/-! things of a curve -/
def twStep (n : Nat) (p q : Pt) : List (Int × Bool) := List.replicate (q.1 - p.1).toNat ((n : Int), false) ++ List.replicate (q.2 - p.2).toNat ((n : Int), true)
def tw : List Pt → List (Int × Bool)
  | [] => []
  | [_] => []
  | p :: q :: r => twStep (r.length + 1) p q ++ tw (q :: r)
theorem tw_mem : ∀ (P : List Pt), ∀ x ∈ tw P, 1 ≤ x.1 ∧ x.1 < P.length
  | [], x, h => by cases h
  | [_], x, h => by cases h
  | p :: q :: r, x, h => by
    rcases List.mem_append.mp h with h | h
    · unfold twStep at h
      rcases List.mem_append.mp h with h | h
      · rw [List.mem_replicate] at h
        rw [h.2]
        simp; omega
      · rw [List.mem_replicate] at h
        rw [h.2]
        simp; omega
    · have := tw_mem (q :: r) x h
      simp at this ⊢
      omega
theorem cn_rep {α : Type} (p : α → Bool) (n : Nat) (x : α) : cn p (List.replicate n x) = if p x = true then (n : Int) else 0 := by
  unfold cn
  rw [List.filter_replicate]
  split <;> simp
theorem cnt_step {n : Nat} {p q : Pt} (h : le2 p q) (t : Int) : cnt (twStep n p q) t = if t ≤ n then (q.1 - p.1, q.2 - p.2) else (0, 0) := by
  unfold le2 at h
  unfold twStep
  rw [cnt_cn, cn_append, cn_append, cn_rep, cn_rep, cn_rep, cn_rep]
  by_cases c : t ≤ n
  · simp [c]; omega
  · simp [c]
/-- the counts of the things of a curve -/
theorem tw_cnt : ∀ (P : List Pt), P.Pairwise lt2 → P ≠ [] → ∀ t : Int, ∃ i, i < P.length ∧ cnt (tw P) t = ((gt P i).1 - (gt P 0).1, (gt P i).2 - (gt P 0).2) ∧ (i : Int) = (if t < 1 then ((P.length : Nat) : Int) - 1 else if t ≤ P.length then (P.length : Int) - t else 0)
  | [], _, h, _ => absurd rfl h
  | [p], _, _, t => ⟨0, by simp, by simp [tw, cnt], by simp; omega⟩
  | p :: q :: r, h, _, t => by
    rw [List.pairwise_cons] at h
    have pq := h.1 q (by simp)
    obtain ⟨i, hi, e, k⟩ := tw_cnt (q :: r) h.2 (by simp) t
    rw [tw, cnt_app, cnt_step pq.le, e]
    by_cases c : t ≤ ((r.length + 1 : Nat) : Int)
    · rw [if_pos c]
      refine ⟨i + 1, by simp at hi ⊢; omega, ?_, ?_⟩
      · rw [gt_succ, gt_zero, gt_zero]
        refine Prod.ext ?_ ?_ <;> dsimp only <;> omega
      · simp only [List.length_cons] at k ⊢
        by_cases c1 : t < 1
        · rw [if_pos c1] at k ⊢; omega
        · rw [if_neg c1] at k ⊢
          rw [if_pos (by omega)] at k
          rw [if_pos (by omega)]
          omega
    · rw [if_neg c]
      refine ⟨0, by simp, ?_, ?_⟩
      · have i0 : i = 0 := by
          simp only [List.length_cons] at k
          rw [if_neg (by omega)] at k
          rw [if_neg (by omega)] at k
          omega
        rw [i0]
        simp
      · simp only [List.length_cons]
        rw [if_neg (by omega)]
        by_cases c2 : t ≤ ((r.length + 1 + 1 : Nat) : Int)
        · rw [if_pos c2]; omega
        · rw [if_neg c2]; rfl
theorem tw_len : ∀ (P : List Pt), P.Pairwise lt2 → P ≠ [] → ((tw P).length : Int) = (gt P (P.length - 1)).1 - (gt P 0).1 + ((gt P (P.length - 1)).2 - (gt P 0).2)
  | [], _, h => absurd rfl h
  | [p], _, _ => by simp [tw]
  | p :: q :: r, h, _ => by
    rw [List.pairwise_cons] at h
    have pq := h.1 q (by simp)
    unfold lt2 at pq
    have ih := tw_len (q :: r) h.2 (by simp)
    rw [tw, List.length_append]
    unfold twStep
    rw [List.length_append, List.length_replicate, List.length_replicate]
    have e : gt (p :: q :: r) ((p :: q :: r).length - 1) = gt (q :: r) ((q :: r).length - 1) := by
      show gt (p :: q :: r) (r.length + 1) = gt (q :: r) r.length
      rw [gt_succ]
    rw [e, gt_zero]
    rw [gt_zero] at ih
    omega
theorem tw_val {P : List Pt} (h : PVal P) : Val (tw P) := by
  have K := pval_crv h
  have lo := h.lo
  have e := tw_len P K.pw (fun e => by rw [e] at lo; simp at lo)
  have el : P.getLast? = some (gt P (P.length - 1)) := by rw [List.getLast?_eq_getElem?]; exact gt_of (by omega)
  have s := h.sm _ el
  have u := pw_gt K.pw (i := 0) (j := P.length - 1) (by omega) (by omega)
  rw [K.gt0] at e u
  unfold lt2 at u
  simp only at e u
  refine ⟨by omega, by omega, fun x hx => ?_⟩
  have := tw_mem P x hx
  have := h.hi
  omega
/-- the things made of a curve have it -/
theorem tw_pts {P : List Pt} (h : PVal P) : pts (tw P) = P := by
  have K := pval_crv h
  have lo := h.lo
  have hi := h.hi
  have ne : P ≠ [] := fun e => by rw [e] at lo; simp at lo
  refine pts_eq (tw_val h) (K.pw.imp fun h => by unfold lt2 at h; omega) fun p => ?_
  have co : ∀ t : Int, ∃ i, i < P.length ∧ cnt (tw P) t = gt P i ∧ (i : Int) = (if t < 1 then ((P.length : Nat) : Int) - 1 else if t ≤ P.length then (P.length : Int) - t else 0) := fun t => by
    obtain ⟨i, h1, h2, h3⟩ := tw_cnt P K.pw ne t
    refine ⟨i, h1, ?_, h3⟩
    rw [h2, K.gt0]
    refine Prod.ext ?_ ?_ <;> dsimp only <;> omega
  constructor
  · intro hp
    obtain ⟨i, hi', rfl⟩ := mem_gt hp
    refine ⟨((P.length : Nat) : Int) - i, by omega, by omega, ?_⟩
    obtain ⟨j, h1, h2, h3⟩ := co (((P.length : Nat) : Int) - i)
    rw [if_neg (by omega), if_pos (by omega)] at h3
    rw [h2, show j = i by omega]
  · rintro ⟨t, _, _, rfl⟩
    obtain ⟨i, h1, h2, _⟩ := co t
    rw [h2]
    exact gt_mem h1
/-! areas -/
def dblM (P : List Pt) : Int := ((P.zip P.tail).map fun q => (q.2.1 - q.1.1) * (q.1.2 + q.2.2)).sum
theorem dbl_gt (P : List Pt) : dblM P = ((List.range (P.length - 1)).map fun k => ((gt P (k + 1)).1 - (gt P k).1) * ((gt P k).2 + (gt P (k + 1)).2)).sum := by
  unfold dblM
  congr 1
  apply List.ext_getElem?
  intro i
  rw [List.getElem?_map, List.getElem?_map]
  by_cases c : i + 1 < P.length
  · rw [List.getElem?_range (by omega)]
    have e : (P.zip P.tail)[i]? = some (gt P i, gt P (i + 1)) := List.getElem?_zip_eq_some.mpr ⟨gt_of (by omega), by rw [List.getElem?_tail]; exact gt_of c⟩
    rw [e]
    rfl
  · rw [List.getElem?_eq_none (by rw [List.length_zip, List.length_tail]; omega), List.getElem?_eq_none (by simp; omega)]
    rfl
end DL
namespace DL
open PySem L2
theorem for_nx {S : Type} {α : Type} {J : Env → S → Prop} {l : FL S} {p : D → Env → Option Env} {F : FS S} {ρ : Env} {s s1 : S} {enc : α → D} {xs : List α} (I : List α → Env → S → Prop) (a : l ρ s = .ok (xs.map enc) s1) (i0 : I [] ρ s1)
    (h : ∀ (pre : List α) (x : α) (post : List α) (ρ : Env) (s : S), pre ++ x :: post = xs → I pre ρ s → ∃ ρ1, p (enc x) ρ = some ρ1 ∧ ∃ ρ2 s2, F ρ1 s = .nx ρ2 s2 ∧ I (pre ++ [x]) ρ2 s2)
    (k : ∀ (ρ' : Env) (s' : S), I xs ρ' s' → J ρ' s') : ∃ ρ2 s2, sFor l p F ρ s = .nx ρ2 s2 ∧ J ρ2 s2 := by
  obtain ⟨ρ', s', e, i⟩ := loop_inv I xs [] xs ρ s1 rfl i0 h
  exact ⟨ρ', s', ev_for a e, k ρ' s' i⟩
theorem o_ixS {C : List Pt} {k : Nat} (h : k + 1 < C.length) : ixD (ePts C) (.int ((k : Nat) + 1)) = some (ePt (gt C (k + 1))) := gt_atI h
theorem lt_num {a : Int} {x : Rat} : a * (x.den : Int) < x.num ↔ (a : Rat) < x := by
  have := num_le (a := a) (x := x)
  constructor
  · intro h
    have : ¬ x ≤ (a : Rat) := fun z => by have := num_le.mpr z; omega
    grind
  · intro h
    have : ¬ x.num ≤ a * (x.den : Int) := fun z => by have := num_le.mp z; grind
    omega
theorem num_lt {a : Int} {x : Rat} : x.num < a * (x.den : Int) ↔ x < (a : Rat) := by
  constructor
  · intro h
    have : ¬ (a : Rat) ≤ x := fun z => by have := le_num.mpr z; omega
    grind
  · intro h
    have : ¬ a * (x.den : Int) ≤ x.num := fun z => by have := le_num.mp z; grind
    omega
theorem num_eq {a : Int} {x : Rat} : a * (x.den : Int) = x.num ↔ (a : Rat) = x := by
  constructor
  · intro h
    have h1 := le_num.mp (Int.le_of_eq h)
    have h2 := num_le.mp (Int.le_of_eq h.symm)
    exact Rat.le_antisymm h1 h2
  · intro h
    have h1 := le_num.mpr (show (a : Rat) ≤ x by rw [h]; exact Rat.le_refl)
    have h2 := num_le.mpr (show x ≤ (a : Rat) by rw [h]; exact Rat.le_refl)
    omega
theorem ln_den {x : Rat} {s t : Pt} (hs : B12 s) (ht : B12 t) (hx : x.den ≤ 1000) (h : stQ x (s, t) = true) : ((lnQ s t x).den : Int) ≤ 12000 := by
  have st := stQ_iff.mp h
  have w : s.1 < t.1 := Rat.intCast_lt_intCast.mp (by have := st.1; have := st.2; grind)
  have q := sg_den12 hs ht hx (cvQ_iff.mpr ⟨Rat.le_of_lt st.1, Rat.le_of_lt st.2⟩)
  unfold sgQ at q
  rw [if_neg (by omega)] at q
  exact q
theorem topQ_den {b : Rat} {l : List Rat} (hb : (b.den : Int) ≤ 12000) (h : ∀ x ∈ l, (x.den : Int) ≤ 12000) : ((topQ b l).den : Int) ≤ 12000 := by
  rcases topQ_in l b with e | e
  · rw [e]; exact hb
  · exact h _ e
theorem ptV_den {P : List Pt} {x : Rat} : ∀ r ∈ ptV P x, (r.den : Int) ≤ 12000 := fun r hr => by
  obtain ⟨p, _, _, rfl⟩ := ptV_mem.mp hr
  show ((1 : Nat) : Int) ≤ 12000
  decide
theorem ptV_snoc {P : List Pt} {p : Pt} {x : Rat} : ptV (P ++ [p]) x = ptV P x ++ (if (p.1 : Rat) = x then [(p.2 : Rat)] else []) := by
  unfold ptV
  rw [List.filter_append, List.map_append, List.filter_cons]
  by_cases c : (p.1 : Rat) = x
  · rw [if_pos (decide_eq_true c), if_pos c]; rfl
  · rw [if_neg (by simpa using c), if_neg c]; rfl
/-- what is made within a step over x -/
theorem seg_low {p q : Pt} {x : Rat} (hp : B12 p) (hq : B12 q) (hx : x.den ≤ 1000) (h1 : (p.1 : Rat) < x) (h2 : x < (q.1 : Rat)) :
    0 < (q.1 - p.1) * (x.den : Int) ∧ (q.1 - p.1) * (x.den : Int) ≤ 12000 ∧ ePt (lowM (p.2 * (q.1 - p.1) * (x.den : Int) + (x.num - p.1 * (x.den : Int)) * (q.2 - p.2)) ((q.1 - p.1) * (x.den : Int))) = eQ (lnQ p q x) := by
  unfold B12 at hp hq
  have dp := den_pos x
  have w : p.1 < q.1 := Rat.intCast_lt_intCast.mp (by grind)
  have pos : 0 < (q.1 - p.1) * (x.den : Int) := Int.mul_pos (by omega) dp
  have up : (q.1 - p.1) * (x.den : Int) ≤ 12 * 1000 := Int.mul_le_mul (by omega) (by omega) (by omega) (by decide)
  exact ⟨pos, up, by rw [low_qf pos, seg_qf (by omega)]⟩
theorem pw_zip_take {P : List Pt} {k : Nat} (h : k + 1 < P.length) : (P.zip P.tail).take (k + 1) = (P.zip P.tail).take k ++ [(gt P k, gt P (k + 1))] := by
  have e : (P.zip P.tail)[k]? = some (gt P k, gt P (k + 1)) := List.getElem?_zip_eq_some.mpr ⟨gt_of (by omega), by rw [List.getElem?_tail]; exact gt_of h⟩
  rw [List.take_add_one, e]
  rfl
end DL
namespace DL
open PySem L2
theorem r_augM {S : Type} {f : FE S} {ρ ρ1 : Env} {s s1 : S} {i : Nat} {xs ys : List D} (e : ρ[i]? = some (.m xs)) (a : f ρ s = .ok (.d (.list ys)) s1) (q : xs.length + ys.length ≤ lim) (e2 : ρ.set i (.m (xs ++ ys)) = ρ1) : sAugM i f ρ s = .nx ρ1 s1 := by
  unfold sAugM
  rw [e]
  dsimp only
  rw [a]
  dsimp only [Res.out]
  rw [if_pos q, e2]
theorem sum_snoc {α : Type} (f : α → Int) (l : List α) (x : α) : ((l ++ [x]).map f).sum = (l.map f).sum + f x := by rw [List.map_append, List.sum_append]; simp
end DL
namespace DL
open PySem L2
section
variable {S : Type} {fa fb fc : FE S} {ρ : Env} {s : S} {x y z : D} {c : Bool}
theorem r_chF {o1 o2 : D → D → Option D} (a : fa ρ s = .ok (.d x) s) (e : fb ρ s = .ok (.d y) s) (q : o1 x y = some (.bool false)) : eChain o1 o2 fa fb fc ρ s = .ok (.d (.bool false)) s := by
  unfold eChain; rw [a]; dsimp only [Res.bnd]; rw [e]; dsimp only [Res.bnd]; rw [q]
theorem r_chT {o1 o2 : D → D → Option D} (a : fa ρ s = .ok (.d x) s) (e : fb ρ s = .ok (.d y) s) (q : o1 x y = some (.bool true)) (a2 : fc ρ s = .ok (.d z) s) (q2 : o2 y z = some (.bool c)) : eChain o1 o2 fa fb fc ρ s = .ok (.d (.bool c)) s := by
  have := ev_chainT a e q a2 q2
  rw [this, Bool.true_and]
end
end DL
namespace DL
open PySem L2
/-- a drawn place -/
theorem place_ok {r u W : Int} (u0 : 0 < u) (u1 : u ≤ 1000) (r0 : 0 ≤ r) (r1 : r ≤ W * u) : ∃ x : Rat, ePt (lowM r u) = eQ x ∧ x.den ≤ 1000 ∧ 0 ≤ x.num ∧ x.num ≤ W * (x.den : Int) ∧ x * (u : Rat) = (r : Rat) := by
  have f := low_facts (t := r) u0
  have l := low_qf (t := r) u0
  have e1 : (qf r u).num = (lowM r u).1 ∧ ((qf r u).den : Int) = (lowM r u).2 := by
    unfold eQ ePt at l
    have l2 := PyData.tuple.inj l
    simp only [List.cons.injEq, PyData.int.injEq, and_true] at l2
    exact ⟨l2.1.symm, l2.2.symm⟩
  refine ⟨qf r u, l, by omega, ?_, ?_, ?_⟩
  · by_cases c : 0 ≤ (qf r u).num
    · exact c
    · have a := Int.mul_pos (show 0 < -(lowM r u).1 by omega) u0
      have b := Int.mul_nonneg r0 (show 0 ≤ (lowM r u).2 by omega)
      rw [Int.neg_mul] at a
      omega
  · rw [e1.1, e1.2]
    by_cases c : (lowM r u).1 ≤ W * (lowM r u).2
    · exact c
    · have a := Int.mul_pos (show 0 < (lowM r u).1 - W * (lowM r u).2 by omega) u0
      have b := Int.mul_nonneg (show 0 ≤ W * u - r by omega) (show 0 ≤ (lowM r u).2 by omega)
      rw [Int.sub_mul] at a b
      have : W * (lowM r u).2 * u = W * u * (lowM r u).2 := by grind
      omega
  · unfold qf
    have n := cast_ne (w := u) (by omega)
    grind
theorem slice3 {C : List Pt} {k : Nat} (h : k + 3 ≤ C.length) : sliceD (ePts C) (some ((k : Nat) : Int)) (some ((k : Nat) + 3)) = some (.list [ePt (gt C k), ePt (gt C (k + 1)), ePt (gt C (k + 2))]) := by
  show some (PyData.list (cutL (C.map ePt) (some ((k : Nat) : Int)) (some ((k : Nat) + 3)))) = _
  rw [cutL_map]
  have e : cutL C (some ((k : Nat) : Int)) (some (((k : Nat) : Int) + 3)) = [gt C k, gt C (k + 1), gt C (k + 2)] := by
    have i1 : HT.sIx C.length 0 (some ((k : Nat) : Int)) = k := by rw [HT.sIx_nat]; omega
    have i2 : HT.sIx C.length C.length (some (((k : Nat) : Int) + 3)) = k + 3 := by
      have : (((k : Nat) : Int) + 3) = ((k + 3 : Nat) : Int) := by omega
      rw [this, HT.sIx_nat]; omega
    unfold cutL
    rw [i1, i2]
    apply List.ext_getElem?
    intro i
    rw [List.getElem?_take, List.getElem?_drop]
    by_cases c : i < k + 3 - k
    · rw [if_pos c, gt_of (by omega)]
      match i, c with
      | 0, _ => rfl
      | 1, _ => rfl
      | 2, _ => rfl
      | i + 3, c => omega
    · rw [if_neg c, List.getElem?_eq_none (by simp; omega)]
  rw [e]
  rfl
end DL
namespace DL
open PySem L2
/-- a law's run ends with True -/
def Good (o : Out DSt) : Prop := ∃ s', o = .rt (.d (.bool true)) s'
section
variable {α : Type} {l : FL DSt} {p : D → Env → Option Env} {F G : FS DSt} {ρ ρ1 : Env} {s s1 : DSt}
theorem good_seq (a : F ρ s = .nx ρ1 s1) (k : Good (G ρ1 s1)) : Good (sSeq F G ρ s) := seq_nx a k
theorem good_for {enc : α → D} {xs : List α} (I : List α → Env → DSt → Prop) (a : l ρ s = .ok (xs.map enc) s1) (i0 : I [] ρ s1)
    (h : ∀ (pre : List α) (x : α) (post : List α) (ρ : Env) (s : DSt), pre ++ x :: post = xs → I pre ρ s → ∃ ρ1, p (enc x) ρ = some ρ1 ∧ ∃ ρ2 s2, F ρ1 s = .nx ρ2 s2 ∧ I (pre ++ [x]) ρ2 s2)
    (k : ∀ (ρ' : Env) (s' : DSt), I xs ρ' s' → Good (G ρ' s')) : Good (sSeq (sFor l p F) G ρ s) := seq_for (Q := Good) I a i0 h k
theorem good_rt {f : FE DSt} (a : f ρ s = .ok (.d (.bool true)) s1) : Good (sRet f ρ s) := ⟨s1, ev_ret a⟩
theorem good_if {h : FT DSt} {b : Bool} (a : h ρ s = .ok b s1) (k : Good (if b = true then F ρ s1 else G ρ s1)) : Good (sIf h F G ρ s) := by
  obtain ⟨s', e⟩ := k
  exact ⟨s', ev_if a e⟩
end
end DL
namespace DL
open PySem L2
theorem isB_TT : isBD (.bool true) (.bool true) = some (.bool true) := rfl
theorem isB_FF : isBD (.bool false) (.bool false) = some (.bool true) := rfl
theorem isB_TF : isBD (.bool true) (.bool false) = some (.bool false) := rfl
theorem isB_FT : isBD (.bool false) (.bool true) = some (.bool false) := rfl
theorem notB_TT : notBD (.bool true) (.bool true) = some (.bool false) := rfl
theorem notB_FT : notBD (.bool false) (.bool true) = some (.bool true) := rfl
theorem notB_FF : notBD (.bool false) (.bool false) = some (.bool false) := rfl
theorem notN_int (i : Int) : notND (.int i) .none = some (.bool true) := rfl
theorem notN_non : notND .none .none = some (.bool false) := rfl
theorem isN_int (i : Int) : isND (.int i) .none = some (.bool false) := rfl
theorem isN_non : isND .none .none = some (.bool true) := rfl
theorem notN_pt (p : Pt) : notND (ePt p) .none = some (.bool true) := rfl
theorem isN_pt (p : Pt) : isND (ePt p) .none = some (.bool false) := rfl
end DL

namespace DL
open PySem L2
/-! ### a for that ends with a return -/
theorem seq_find {S : Type} {α : Type} {l : FL S} {p : D → Env → Option Env} {F G : FS S} {ρ : Env} {s s1 : S} {enc : α → D} {xs : List α} {R : Dv → Prop} (I : Env → Prop) (c : α → Prop) (a : l ρ s = .ok (xs.map enc) s1) (i0 : I ρ) (hex : ∃ x ∈ xs, c x)
    (hn : ∀ x ∈ xs, ¬ c x → ∀ ρ, I ρ → ∃ ρ1, p (enc x) ρ = some ρ1 ∧ ∃ ρ2, F ρ1 s1 = .nx ρ2 s1 ∧ I ρ2) (hr : ∀ x ∈ xs, c x → ∀ ρ, I ρ → ∃ ρ1, p (enc x) ρ = some ρ1 ∧ ∃ v, F ρ1 s1 = .rt v s1 ∧ R v) :
    ∃ v, sSeq (sFor l p F) G ρ s = .rt v s1 ∧ R v := by
  have go : ∀ (xs : List α) (ρ : Env), I ρ → (∃ x ∈ xs, c x) → (∀ x ∈ xs, ¬ c x → ∀ ρ, I ρ → ∃ ρ1, p (enc x) ρ = some ρ1 ∧ ∃ ρ2, F ρ1 s1 = .nx ρ2 s1 ∧ I ρ2) → (∀ x ∈ xs, c x → ∀ ρ, I ρ → ∃ ρ1, p (enc x) ρ = some ρ1 ∧ ∃ v, F ρ1 s1 = .rt v s1 ∧ R v) → ∃ v, loopS p F (xs.map enc) ρ s1 = .rt v s1 ∧ R v := by
    intro xs
    induction xs with
    | nil => intro ρ _ h; obtain ⟨x, hx, _⟩ := h; cases hx
    | cons x xs ih =>
      intro ρ i h hn hr
      by_cases q : c x
      · obtain ⟨ρ1, e1, v, e2, r⟩ := hr x (by simp) q ρ i
        refine ⟨v, ?_, r⟩
        rw [List.map_cons, loopS, e1]
        dsimp only
        rw [e2]
      · obtain ⟨ρ1, e1, ρ2, e2, i2⟩ := hn x (by simp) q ρ i
        obtain ⟨v, e3, r⟩ := ih ρ2 i2 (by
          obtain ⟨y, hy, k⟩ := h
          rcases List.mem_cons.mp hy with z | z
          · rw [z] at k; exact absurd k q
          · exact ⟨y, z, k⟩) (fun y hy => hn y (by simp [hy])) (fun y hy => hr y (by simp [hy]))
        refine ⟨v, ?_, r⟩
        rw [List.map_cons, loopS, e1]
        dsimp only
        rw [e2]
        exact e3
  obtain ⟨v, e, r⟩ := go xs ρ i0 hex hn hr
  exact ⟨v, by rw [ev_seqR (ev_for a e)], r⟩
/-! fractions -/
theorem qf_eq {t b : Int} {x : Rat} (hb : 0 < b) (h : (t : Rat) = x * (b : Rat)) : qf t b = x := by
  have n := cast_ne (w := b) (by omega)
  unfold qf
  rw [h]
  grind
theorem low_eQ {t b : Int} {x : Rat} (hb : 0 < b) (h : (t : Rat) = x * (b : Rat)) : ePt (lowM t b) = eQ x := by rw [low_qf hb, qf_eq hb h]
theorem eQ_inj_den {t b : Int} {x : Rat} (hb : 0 < b) (h : ePt (lowM t b) = eQ x) : (x.den : Int) ≤ b := by
  have f := low_facts (t := t) hb
  unfold eQ ePt at h
  have l2 := PyData.tuple.inj h
  simp only [List.cons.injEq, PyData.int.injEq, and_true] at l2
  omega
theorem ic_den (x : Rat) : (((x.den : Nat) : Int) : Rat) = ((x.den : Int) : Rat) := rfl
/-- c * (n / d) -/
theorem mul_low {c n d : Int} {x : Rat} (hd : 0 < d) (h : (n : Rat) = x * (d : Rat)) : ePt (lowM (c * n) (1 * d)) = eQ ((c : Rat) * x) := low_eQ (by omega) (by rw [Rat.intCast_mul, Rat.intCast_mul, h]; have : ((1 : Int) : Rat) = 1 := rfl; rw [this]; grind)
theorem mul_low_den {c n d : Int} {x : Rat} (hd : 0 < d) (h : (n : Rat) = x * (d : Rat)) : ((((c : Rat) * x).den : Nat) : Int) ≤ d := by
  have := eQ_inj_den (by omega) (mul_low (c := c) hd h)
  omega
theorem add_low (x y : Rat) : ePt (lowM (x.num * (y.den : Int) + y.num * (x.den : Int)) ((x.den : Int) * (y.den : Int))) = eQ (x + y) := by
  have p := den_pos x
  have q := den_pos y
  have e1 := num_den x
  have e2 := num_den y
  refine low_eQ (Int.mul_pos p q) ?_
  rw [Rat.intCast_add, Rat.intCast_mul, Rat.intCast_mul, Rat.intCast_mul, ← e1, ← e2]
  generalize ((x.den : Int) : Rat) = a
  generalize ((y.den : Int) : Rat) = b
  grind
theorem one_minus (x : Rat) : (((x.den : Int) - x.num : Int) : Rat) = (1 - x) * ((x.den : Int) : Rat) := by
  have e := num_den x
  rw [Rat.intCast_sub, ← e]
  generalize ((x.den : Int) : Rat) = a
  grind
def eQQ (p : Rat × Rat) : D := .tuple [eQ p.1, eQ p.2]
theorem eqE_QQ : EqE eQQ := fun a b => by
  obtain ⟨a1, a2⟩ := a
  obtain ⟨b1, b2⟩ := b
  show PyData.eqv (.tuple [eQ a1, eQ a2]) (.tuple [eQ b1, eQ b2]) = _
  rw [PyData.eqv, PyData.eqvAll, PyData.eqvAll, PyData.eqvAll, eqE_Q, eqE_Q]
  by_cases h : a1 = b1 <;> by_cases k : a2 = b2 <;> simp [h, k]
theorem dep_QQ (p : Rat × Rat) : (eQQ p).depth ≤ 2 := by
  have a := dep_Q p.1
  have b := dep_Q p.2
  show (PyData.tuple [eQ p.1, eQ p.2]).depth ≤ 2
  rw [PyData.depth, PyData.depthAll, PyData.depthAll, PyData.depthAll]
  omega
theorem ne_QQ (a b : Rat × Rat) : neD (eQQ a) (eQQ b) = some (.bool (!decide (a = b))) := neD_of eqE_QQ dep_QQ (by decide) a b
/-- the place of a mixture -/
def mixQ (a b : Int) (t : Rat) : Rat := (a : Rat) * t + (b : Rat) * (1 - t)
/-- the share of a hull line's left end at x -/
def shQ (a b : Pt) (x : Rat) : Rat := if b.1 - a.1 = 0 then 0 else ((b.1 : Rat) - x) / ((b.1 : Rat) - (a.1 : Rat))
theorem sh_mix {a b : Pt} {x : Rat} (h : cvQ x (a, b) = true) : mixQ a.1 b.1 (shQ a b x) = x ∧ mixQ a.2 b.2 (shQ a b x) = sgQ a b x ∧ 0 ≤ shQ a b x ∧ shQ a b x ≤ 1 := by
  have c := cvQ_iff.mp h
  have w := cv_wide h
  unfold mixQ shQ sgQ lnQ
  by_cases z : b.1 - a.1 = 0
  · rw [if_pos z, if_pos z]
    have e : a.1 = b.1 := by omega
    rw [e] at c
    have : (b.1 : Rat) = x := Rat.le_antisymm c.1 c.2
    refine ⟨by rw [this]; grind, by grind, by grind, by grind⟩
  · rw [if_neg z, if_neg z]
    have n := cast_ne z
    rw [Rat.intCast_sub] at n
    have wp : (0 : Rat) < (b.1 : Rat) - (a.1 : Rat) := by
      have : ((a.1 : Int) : Rat) < ((b.1 : Int) : Rat) := Rat.intCast_lt_intCast.mpr (by omega)
      grind
    have iv := Rat.inv_pos.mpr wp
    have m1 := Rat.mul_nonneg (show 0 ≤ (b.1 : Rat) - x by grind) (Rat.le_of_lt iv)
    have m2 := Rat.mul_nonneg (show 0 ≤ x - (a.1 : Rat) by grind) (Rat.le_of_lt iv)
    rw [← Rat.div_def] at m1 m2
    have s : ((b.1 : Rat) - x) / ((b.1 : Rat) - (a.1 : Rat)) + (x - (a.1 : Rat)) / ((b.1 : Rat) - (a.1 : Rat)) = 1 := by grind
    refine ⟨by grind, by grind, m1, by grind⟩
theorem sh_low {a b : Pt} {x : Rat} (ha : B12 a) (hb : B12 b) (hx : x.den ≤ 1000) (h : cvQ x (a, b) = true) (z : b.1 - a.1 ≠ 0) :
    0 < (b.1 - a.1) * (x.den : Int) ∧ (b.1 - a.1) * (x.den : Int) ≤ 12000 ∧ ePt (lowM (b.1 * (x.den : Int) - x.num) ((b.1 - a.1) * (x.den : Int))) = eQ (shQ a b x) ∧ ((shQ a b x).den : Int) ≤ 12000 := by
  have w := cv_wide h
  unfold B12 at ha hb
  have dp := den_pos x
  have pos : 0 < (b.1 - a.1) * (x.den : Int) := Int.mul_pos (by omega) dp
  have up : (b.1 - a.1) * (x.den : Int) ≤ 12 * 1000 := Int.mul_le_mul (by omega) (by omega) (by omega) (by decide)
  have e : ePt (lowM (b.1 * (x.den : Int) - x.num) ((b.1 - a.1) * (x.den : Int))) = eQ (shQ a b x) := by
    refine low_eQ pos ?_
    unfold shQ
    rw [if_neg z]
    have n := cast_ne z
    rw [Rat.intCast_sub] at n
    have e := num_den x
    rw [Rat.intCast_sub, Rat.intCast_mul, Rat.intCast_mul, Rat.intCast_sub, ← e]
    generalize ((x.den : Int) : Rat) = q
    grind
  have := eQ_inj_den pos e
  exact ⟨pos, up, e, by omega⟩
/-- a number that is at least 0 and at most 1, by its parts -/
theorem unit_num {x : Rat} (h0 : 0 ≤ x) (h1 : x ≤ 1) : 0 ≤ x.num ∧ x.num ≤ (x.den : Int) := by
  have a : (0 : Int) * (x.den : Int) ≤ x.num := le_num.mpr h0
  have b : x.num ≤ (1 : Int) * (x.den : Int) := num_le.mpr h1
  omega
section
variable {P C : List Pt}
theorem Hull.has (H : Hull P C) (K : Crv P) {x : Rat} (h0 : 0 ≤ x) (h1 : x ≤ ((gt P (P.length - 1)).1 : Rat)) : ∃ q ∈ C.zip C.tail, cvQ x q = true ∧ sgQ q.1 q.2 x = heightM C x := by
  rcases topQ_in (((C.zip C.tail).filter (cvQ x)).map fun q => sgQ q.1 q.2 x) 0 with e | e
  · obtain ⟨i, hi, a, b⟩ := H.cover (x := x) (H.two K) (by rw [H.gt0 K]; exact h0) (by rw [H.gtl K]; exact h1)
    have g := height_ge hi a b
    have cv : cvQ x (gt C i, gt C (i + 1)) = true := cvQ_iff.mpr ⟨a, b⟩
    refine ⟨_, zip_gt' hi, cv, ?_⟩
    have e : heightM C x = 0 := e
    rw [e] at g ⊢
    have k := sg_split (zip_gt' hi) cv
    have nn : 0 ≤ sgQ (gt C i) (gt C (i + 1)) x := by
      have c1 := (H.crv K).nonneg (gt_mem (C := C) (i := i) (by omega))
      have c2 := (H.crv K).nonneg (gt_mem (C := C) (i := i + 1) hi)
      have u := H.up i hi
      unfold lt2 at u
      unfold sgQ
      by_cases z : (gt C (i + 1)).1 - (gt C i).1 = 0
      · rw [if_pos z]; exact Rat.intCast_le_intCast.mpr c2.2
      · rw [if_neg z]
        exact Rat.le_trans (Rat.intCast_le_intCast.mpr c1.2) (ln_ge a (by omega) (by omega))
    exact Rat.le_antisymm g nn
  · have e : heightM C x ∈ ((C.zip C.tail).filter (cvQ x)).map fun q => sgQ q.1 q.2 x := e
    obtain ⟨q, m, eq⟩ := List.mem_map.mp e
    obtain ⟨m1, m2⟩ := List.mem_filter.mp m
    exact ⟨q, m1, m2, eq⟩
/-- at the end the hull is as high as the last point -/
theorem Hull.ht_end (H : Hull P C) (K : Crv P) : heightM C ((gt P (P.length - 1)).1 : Rat) = ((gt P (P.length - 1)).2 : Rat) := by
  have hm := gt_mem (C := P) (i := P.length - 1) (by have := K.lo; omega)
  refine Rat.le_antisymm ?_ (H.ht_ge K hm Rat.le_refl Rat.le_refl)
  rw [H.ht_top K, ltM_eq]
  refine topQ_le (Rat.intCast_le_intCast.mpr (K.nonneg hm).2) fun r hr => ?_
  have no : ∀ q ∈ P, ¬ ((gt P (P.length - 1)).1 : Rat) < (q.1 : Rat) := fun q hq z => by
    have := Rat.intCast_lt_intCast.mp z
    have := (K.last_le hq).1
    omega
  rcases List.mem_append.mp hr with m | m
  · rcases List.mem_append.mp m with m | m
    · obtain ⟨p, hp, _, rfl⟩ := ptV_mem.mp m
      exact Rat.intCast_le_intCast.mpr (K.last_le hp).2
    · obtain ⟨⟨a, b⟩, m', rfl⟩ := List.mem_map.mp m
      obtain ⟨m1, m2⟩ := List.mem_filter.mp m'
      exact absurd (stQ_iff.mp m2).2 (no b (List.mem_of_mem_tail (List.of_mem_zip m1).2))
  · obtain ⟨L, hL, hr⟩ := List.mem_flatten.mp m
    obtain ⟨a, ha, rfl⟩ := List.mem_map.mp hL
    obtain ⟨b, hb, rfl⟩ := List.mem_map.mp hr
    obtain ⟨m1, m2⟩ := List.mem_filter.mp hb
    exact absurd (stQ_iff.mp m2).2 (no b m1)
end
end DL
namespace DL
theorem ex_nx {S : Type} {F : FS S} {ρ ρ2 : Env} {s : S} {I : Env → Prop} (h : F ρ s = .nx ρ2 s) (k : I ρ2) : ∃ ρ2, F ρ s = .nx ρ2 s ∧ I ρ2 := ⟨_, h, k⟩
theorem ex_rt {S : Type} {F : FS S} {ρ : Env} {s : S} {v : Dv} {R : Dv → Prop} (h : F ρ s = .rt v s) (k : R v) : ∃ v, F ρ s = .rt v s ∧ R v := ⟨_, h, k⟩
end DL

namespace DL
open PySem L2
/-! ### between integer places a curve is one line -/
/-- the height that a curve comes to at a place, before it goes up there -/
def ahead (P : List Pt) (m : Int) : Rat := match (P.filter fun p => decide (p.1 = m)).head? with
  | some p => (p.2 : Rat)
  | none => heightM P (m : Rat)
theorem pw_le {P : List Pt} (h : P.Pairwise lt2) {i j : Nat} (hij : i ≤ j) (hj : j < P.length) : le2 (gt P i) (gt P j) := by
  by_cases c : i = j
  · rw [c]; exact le2.rfl'
  · exact (pw_gt h (by omega) hj).le
section
variable {P : List Pt} (K : Crv P) {i : Nat} {n : Int}
include K
theorem Crv.seg (hi : i + 1 < P.length) (h1 : (gt P i).1 ≤ n) (h2 : n + 1 ≤ (gt P (i + 1)).1) {x : Rat} (x1 : (n : Rat) ≤ x) (x2 : x < (n : Rat) + 1) : heightM P x = lnQ (gt P i) (gt P (i + 1)) x := by
  have hP := K.pw
  have a1 : ((gt P i).1 : Rat) ≤ (n : Rat) := Rat.intCast_le_intCast.mpr h1
  have a2 : (n : Rat) + 1 ≤ ((gt P (i + 1)).1 : Rat) := by
    have : ((n + 1 : Int) : Rat) ≤ ((gt P (i + 1)).1 : Rat) := Rat.intCast_le_intCast.mpr h2
    rw [Rat.intCast_add] at this
    exact this
  have u := pw_gt hP (i := i) (j := i + 1) (by omega) hi
  unfold lt2 at u
  have ge := ln_ge (p := gt P i) (n := gt P (i + 1)) (x := x) (Rat.le_trans a1 x1) (by omega) (by omega)
  have nn : (0 : Rat) ≤ ((gt P i).2 : Rat) := Rat.intCast_le_intCast.mpr (K.nonneg (gt_mem (C := P) (i := i) (by omega))).2
  rw [ht_lh K, lhM_eq]
  refine Rat.le_antisymm (topQ_le (Rat.le_trans nn ge) fun r hr => ?_) ?_
  · rcases List.mem_append.mp hr with m | m
    · obtain ⟨p, hp, e, rfl⟩ := ptV_mem.mp m
      obtain ⟨j, hj, rfl⟩ := mem_gt hp
      have ji : j ≤ i := by
        by_cases c : j ≤ i
        · exact c
        · have l := (pw_le hP (i := i + 1) (j := j) (by omega) hj).1
          have : ((gt P (i + 1)).1 : Rat) ≤ ((gt P j).1 : Rat) := Rat.intCast_le_intCast.mpr l
          exfalso
          grind
      have l := pw_le hP ji (by omega)
      have : ((gt P j).2 : Rat) ≤ ((gt P i).2 : Rat) := Rat.intCast_le_intCast.mpr l.2
      exact Rat.le_trans this ge
    · obtain ⟨⟨s, t⟩, m', rfl⟩ := List.mem_map.mp m
      obtain ⟨m1, m2⟩ := List.mem_filter.mp m'
      obtain ⟨j, hj, rfl, rfl⟩ := zip_gt m1
      have st := stQ_iff.mp m2
      have ji : j = i := by
        by_cases c : j < i
        · have l := (pw_le hP (i := j + 1) (j := i) (by omega) (by omega)).1
          have : ((gt P (j + 1)).1 : Rat) ≤ ((gt P i).1 : Rat) := Rat.intCast_le_intCast.mpr l
          exfalso
          have := st.2
          grind
        · by_cases c2 : i < j
          · have l := (pw_le hP (i := i + 1) (j := j) (by omega) (by omega)).1
            have : ((gt P (i + 1)).1 : Rat) ≤ ((gt P j).1 : Rat) := Rat.intCast_le_intCast.mpr l
            exfalso
            have := st.1
            grind
          · omega
      rw [ji]
      exact Rat.le_refl
  · by_cases e : ((gt P i).1 : Rat) = x
    · rw [ln_left e (by omega)]
      exact (topQ_ge _ 0).2 _ (List.mem_append_left _ (ptV_mem.mpr ⟨_, gt_mem (by omega), e, rfl⟩))
    · refine (topQ_ge _ 0).2 _ (List.mem_append_right _ (List.mem_map.mpr ⟨_, List.mem_filter.mpr ⟨zip_gt' hi, stQ_iff.mpr ⟨?_, ?_⟩⟩, rfl⟩))
      · grind
      · grind
theorem Crv.seg_ahead (hi : i + 1 < P.length) (h1 : (gt P i).1 ≤ n) (h2 : n + 1 ≤ (gt P (i + 1)).1) : ahead P (n + 1) = lnQ (gt P i) (gt P (i + 1)) ((n + 1 : Int) : Rat) := by
  have hP := K.pw
  have u := pw_gt hP (i := i) (j := i + 1) (by omega) hi
  unfold lt2 at u
  have low : ∀ j, j ≤ i → ¬ (gt P j).1 = n + 1 := fun j hj z => by
    have l := (pw_le hP hj (by omega)).1
    omega
  have split : P = P.take (i + 1) ++ gt P (i + 1) :: P.drop (i + 2) := by
    have e : P.drop (i + 1) = gt P (i + 1) :: P.drop (i + 2) := by
      rw [List.drop_eq_getElem_cons hi]
      have := gt_of hi
      rw [List.getElem?_eq_getElem hi] at this
      rw [Option.some.inj this]
    rw [← e, List.take_append_drop]
  have f0 : (P.take (i + 1)).filter (fun p => decide (p.1 = n + 1)) = [] := List.filter_eq_nil_iff.mpr fun p hp => by
    obtain ⟨j, hj, e⟩ := List.mem_take_iff_getElem.mp hp
    have ej : gt P j = p := by
      have := gt_of (C := P) (i := j) (by omega)
      rw [List.getElem?_eq_getElem (by omega)] at this
      rw [← Option.some.inj this]; exact e
    rw [← ej]
    simpa using low j (by omega)
  unfold ahead
  by_cases c : (gt P (i + 1)).1 = n + 1
  · have e : (P.filter fun p => decide (p.1 = n + 1)).head? = some (gt P (i + 1)) := by
      rw [split, List.filter_append, List.filter_cons, if_pos (by simpa using c)]
      rw [← split, f0]
      rfl
    rw [e]
    dsimp only
    rw [ln_right (by rw [c]) (by omega)]
  · have e : (P.filter fun p => decide (p.1 = n + 1)).head? = none := by
      rw [List.head?_eq_none_iff, List.filter_eq_nil_iff]
      intro p hp
      obtain ⟨j, hj, rfl⟩ := mem_gt hp
      by_cases q : j ≤ i
      · simpa using low j q
      · have l := (pw_le hP (i := i + 1) (j := j) (by omega) hj).1
        have : ¬ (gt P j).1 = n + 1 := by omega
        simpa using this
    rw [e]
    dsimp only
    -- one step alone lies over it
    have b1 : ((gt P i).1 : Rat) < ((n + 1 : Int) : Rat) := Rat.intCast_lt_intCast.mpr (by omega)
    have b2 : ((n + 1 : Int) : Rat) < ((gt P (i + 1)).1 : Rat) := Rat.intCast_lt_intCast.mpr (by omega)
    have ge := ln_ge (p := gt P i) (n := gt P (i + 1)) (x := ((n + 1 : Int) : Rat)) (Rat.le_of_lt b1) (by omega) (by omega)
    have nn : (0 : Rat) ≤ ((gt P i).2 : Rat) := Rat.intCast_le_intCast.mpr (K.nonneg (gt_mem (C := P) (i := i) (by omega))).2
    rw [ht_lh K, lhM_eq]
    refine Rat.le_antisymm (topQ_le (Rat.le_trans nn ge) fun r hr => ?_) ?_
    · rcases List.mem_append.mp hr with m | m
      · obtain ⟨p, hp, e2, rfl⟩ := ptV_mem.mp m
        have e3 := Rat.intCast_inj.mp e2
        have : p ∈ P.filter fun p => decide (p.1 = n + 1) := List.mem_filter.mpr ⟨hp, decide_eq_true e3⟩
        rw [List.head?_eq_none_iff] at e
        rw [e] at this
        cases this
      · obtain ⟨⟨s, t⟩, m', rfl⟩ := List.mem_map.mp m
        obtain ⟨m1, m2⟩ := List.mem_filter.mp m'
        obtain ⟨j, hj, rfl, rfl⟩ := zip_gt m1
        have st := stQ_iff.mp m2
        have s1 := Rat.intCast_lt_intCast.mp st.1
        have s2 := Rat.intCast_lt_intCast.mp st.2
        have ji : j = i := by
          by_cases c : j < i
          · have l := (pw_le hP (i := j + 1) (j := i) (by omega) (by omega)).1
            omega
          · by_cases c2 : i < j
            · have l := (pw_le hP (i := i + 1) (j := j) (by omega) (by omega)).1
              omega
            · omega
        rw [ji]
        exact Rat.le_refl
    · exact (topQ_ge _ 0).2 _ (List.mem_append_right _ (List.mem_map.mpr ⟨_, List.mem_filter.mpr ⟨zip_gt' hi, stQ_iff.mpr ⟨b1, b2⟩⟩, rfl⟩))
/-- the step over a unit -/
theorem Crv.unit (n0 : 0 ≤ n) (h : n < (gt P (P.length - 1)).1) : ∃ i, i + 1 < P.length ∧ (gt P i).1 ≤ n ∧ n + 1 ≤ (gt P (i + 1)).1 := by
  have go : ∀ k : Nat, k < P.length → n < (gt P k).1 → ∃ i, i + 1 < P.length ∧ (gt P i).1 ≤ n ∧ n + 1 ≤ (gt P (i + 1)).1 := by
    intro k
    induction k with
    | zero => intro _ h; rw [K.gt0] at h; simp at h; omega
    | succ k ih =>
      intro hk h
      by_cases c : n < (gt P k).1
      · exact ih (by omega) c
      · exact ⟨k, hk, by omega, by omega⟩
  exact go (P.length - 1) (by have := K.lo; omega) h
end
theorem ln_mid (s t : Pt) (a b x : Rat) : lnQ s t (a + x * (b - a)) = lnQ s t a + x * (lnQ s t b - lnQ s t a) := by
  unfold lnQ
  rw [Rat.div_def, Rat.div_def, Rat.div_def]
  grind
/-- along a unit the heights lie on the line from the height to the one come to -/
theorem Crv.mid {P : List Pt} (K : Crv P) {n : Int} (n0 : 0 ≤ n) (h : n < (gt P (P.length - 1)).1) {t : Rat} (t0 : 0 ≤ t) (t1 : t < 1) : heightM P ((n : Rat) + t) = heightM P (n : Rat) + t * (ahead P (n + 1) - heightM P (n : Rat)) := by
  obtain ⟨i, hi, a, b⟩ := K.unit n0 h
  rw [K.seg hi a b (x := (n : Rat) + t) (by grind) (by grind), K.seg hi a b (x := (n : Rat)) Rat.le_refl (by grind), K.seg_ahead hi a b]
  have := ln_mid (gt P i) (gt P (i + 1)) (n : Rat) ((n + 1 : Int) : Rat) t
  rw [← this]
  congr 1
  rw [Rat.intCast_add]
  have o : ((1 : Int) : Rat) = 1 := rfl
  rw [o]
  grind
/-- twice the half less the start is what is come to -/
theorem Crv.half {P : List Pt} (K : Crv P) {n : Int} (n0 : 0 ≤ n) (h : n < (gt P (P.length - 1)).1) : 2 * heightM P ((n : Rat) + 1 / 2) - heightM P (n : Rat) = ahead P (n + 1) := by
  rw [K.mid n0 h (t := 1 / 2) (by grind) (by grind)]
  grind
/-! which curve is nowhere lower -/
def AboveM (P R : List Pt) (W : Int) : Prop := (∀ n : Int, 0 ≤ n → n ≤ W → heightM R (n : Rat) ≤ heightM P (n : Rat)) ∧ ∀ n : Int, 0 ≤ n → n < W → ahead R (n + 1) ≤ ahead P (n + 1)
theorem Crv.above_at {P R : List Pt} (K : Crv P) (J : Crv R) {W : Int} (hP : (gt P (P.length - 1)).1 = W) (hR : (gt R (R.length - 1)).1 = W) (A : AboveM P R W) {x : Rat} (x0 : 0 ≤ x) (x1 : x ≤ (W : Rat)) : heightM R x ≤ heightM P x := by
  have fl : (x.floor : Rat) ≤ x := Rat.floor_le x
  have fu : x < (x.floor : Rat) + 1 := by
    have := Rat.lt_floor_add_one x
    rw [Rat.intCast_add] at this
    exact this
  have f0 : 0 ≤ x.floor := by
    exact (Rat.le_floor_iff (x := 0) (a := x)).mpr x0
  by_cases c : x.floor < W
  · have a := A.1 x.floor f0 (by omega)
    have b := A.2 x.floor f0 c
    have t0 : 0 ≤ x - (x.floor : Rat) := by grind
    have t1 : x - (x.floor : Rat) < 1 := by grind
    have e1 := K.mid f0 (by rw [hP]; exact c) t0 t1
    have e2 := J.mid f0 (by rw [hR]; exact c) t0 t1
    have ex : (x.floor : Rat) + (x - (x.floor : Rat)) = x := by grind
    rw [ex] at e1 e2
    rw [e1, e2]
    have m1 := Rat.mul_nonneg (show 0 ≤ 1 - (x - (x.floor : Rat)) by grind) (show 0 ≤ heightM P (x.floor : Rat) - heightM R (x.floor : Rat) by grind)
    have m2 := Rat.mul_nonneg t0 (show 0 ≤ ahead P (x.floor + 1) - ahead R (x.floor + 1) by grind)
    grind
  · have : (W : Rat) ≤ (x.floor : Rat) := Rat.intCast_le_intCast.mpr (by omega)
    have e : x = (W : Rat) := by grind
    rw [e]
    have w0 : 0 ≤ W := by rw [← hP]; exact (K.nonneg (gt_mem (by have := K.lo; omega))).1
    exact A.1 W w0 (Int.le_refl _)
/-- the hull is nowhere below -/
theorem Hull.above {P C : List Pt} (H : Hull P C) (K : Crv P) : AboveM C P (gt P (P.length - 1)).1 := by
  constructor
  · intro n _ _
    rw [H.ht_top K, ht_lh K]
    rw [lhM_eq, ltM_eq]
    exact topQ_le (topQ_ge _ 0).1 fun r hr => (topQ_ge _ 0).2 _ (List.mem_append_left _ hr)
  · intro n n0 h
    have KC := H.crv K
    obtain ⟨i, hi, a, b⟩ := K.unit n0 h
    obtain ⟨j, hj, c, d⟩ := KC.unit n0 (by rw [H.gtl K]; exact h)
    rw [K.seg_ahead hi a b, KC.seg_ahead hj c d]
    have u := pw_gt K.pw (i := i) (j := i + 1) (by omega) hi
    unfold lt2 at u
    exact chord_le (by omega) (H.under K.pw hj _ (gt_mem (by omega))) (H.under K.pw hj _ (gt_mem hi)) (Rat.intCast_le_intCast.mpr (by omega)) (Rat.intCast_le_intCast.mpr b) (by omega)
end DL

namespace DL
open PySem L2
/-! ### the area by units -/
def unitSum (P : List Pt) : Nat → Rat
  | 0 => 0
  | n + 1 => unitSum P n + (heightM P ((n : Int) : Rat) + ahead P ((n : Int) + 1))
def dblTo (P : List Pt) (j : Nat) : Int := ((List.range j).map fun k => ((gt P (k + 1)).1 - (gt P k).1) * ((gt P k).2 + (gt P (k + 1)).2)).sum
theorem dblTo_succ (P : List Pt) (j : Nat) : dblTo P (j + 1) = dblTo P j + ((gt P (j + 1)).1 - (gt P j).1) * ((gt P j).2 + (gt P (j + 1)).2) := by
  unfold dblTo
  rw [List.range_succ, sum_snoc]
theorem unit_dbl {P : List Pt} (K : Crv P) : ∀ j : Nat, j < P.length → unitSum P (gt P j).1.toNat = ((dblTo P j : Int) : Rat)
  | 0, _ => by rw [K.gt0]; rfl
  | j + 1, hj => by
    have ih := unit_dbl K j (by omega)
    have u := pw_gt K.pw (i := j) (j := j + 1) (by omega) hj
    unfold lt2 at u
    have n0 := (K.nonneg (gt_mem (C := P) (i := j) (by omega))).1
    by_cases z : (gt P (j + 1)).1 = (gt P j).1
    · rw [dblTo_succ, z, ih]
      simp
    · have w : (gt P j).1 < (gt P (j + 1)).1 := by omega
      have go : ∀ m : Nat, (gt P j).1 + m ≤ (gt P (j + 1)).1 → unitSum P ((gt P j).1.toNat + m) = unitSum P (gt P j).1.toNat + ((m : Int) : Rat) * (lnQ (gt P j) (gt P (j + 1)) ((gt P j).1 : Rat) + lnQ (gt P j) (gt P (j + 1)) (((gt P j).1 + m : Int) : Rat)) := by
        intro m
        induction m with
        | zero => intro _; show unitSum P ((gt P j).1.toNat) = _ + ((0 : Int) : Rat) * _; have z : ((0 : Int) : Rat) = 0 := rfl; rw [z]; grind
        | succ m ih =>
          intro hm
          have hm : (gt P j).1 + m + 1 ≤ (gt P (j + 1)).1 := by omega
          have e : ((((gt P j).1.toNat + m : Nat) : Int)) = (gt P j).1 + m := by omega
          show unitSum P ((gt P j).1.toNat + m) + (heightM P ((((gt P j).1.toNat + m : Nat) : Int) : Rat) + ahead P ((((gt P j).1.toNat + m : Nat) : Int) + 1)) = _
          rw [ih (by omega), e, K.seg (n := (gt P j).1 + m) hj (by omega) (by omega) Rat.le_refl (by grind), K.seg_ahead (n := (gt P j).1 + m) hj (by omega) (by omega)]
          have e3 : (((gt P j).1 + (m + 1 : Nat) : Int) : Rat) = (((gt P j).1 + m + 1 : Int) : Rat) := by congr 1; omega
          rw [e3]
          have d : ((gt P (j + 1)).1 : Rat) - ((gt P j).1 : Rat) ≠ 0 := by
            have := cast_ne (w := (gt P (j + 1)).1 - (gt P j).1) (by omega)
            rwa [Rat.intCast_sub] at this
          have c1 : (((m + 1 : Nat) : Int) : Rat) = ((m : Int) : Rat) + 1 := by
            rw [show (((m + 1 : Nat) : Int)) = (m : Int) + 1 by omega, Rat.intCast_add]; rfl
          have o : ((1 : Int) : Rat) = 1 := rfl
          rw [c1]
          unfold lnQ
          simp only [Rat.intCast_add]
          rw [o]
          generalize ((m : Int) : Rat) = q
          generalize ((gt P (j + 1)).1 : Rat) = t1 at *
          generalize ((gt P j).1 : Rat) = s1 at *
          grind
      have g := go ((gt P (j + 1)).1 - (gt P j).1).toNat (by omega)
      rw [show (gt P j).1.toNat + ((gt P (j + 1)).1 - (gt P j).1).toNat = (gt P (j + 1)).1.toNat by omega] at g
      rw [g, ih, dblTo_succ]
      have e1 : ((gt P j).1 + (((gt P (j + 1)).1 - (gt P j).1).toNat : Nat) : Int) = (gt P (j + 1)).1 := by omega
      have e2 : ((((gt P (j + 1)).1 - (gt P j).1).toNat : Nat) : Int) = (gt P (j + 1)).1 - (gt P j).1 := by omega
      rw [e1, e2, ln_left rfl (by omega), ln_right rfl (by omega), Rat.intCast_add, Rat.intCast_mul, Rat.intCast_add]
theorem dbl_unit {P : List Pt} (K : Crv P) : ((dblM P : Int) : Rat) = unitSum P (gt P (P.length - 1)).1.toNat := by
  rw [unit_dbl K (P.length - 1) (by have := K.lo; omega), dbl_gt]
  rfl
theorem unit_le {P R : List Pt} {W : Int} (A : AboveM P R W) : ∀ n : Nat, (n : Int) ≤ W → unitSum R n ≤ unitSum P n
  | 0, _ => Rat.le_refl
  | n + 1, h => by
    have ih := unit_le A n (by omega)
    have a := A.1 n (by omega) (by omega)
    have b := A.2 n (by omega) (by omega)
    show unitSum R n + _ ≤ unitSum P n + _
    grind
/-- nowhere lower, no less area -/
theorem above_dbl {P R : List Pt} (K : Crv P) (J : Crv R) {W : Int} (hP : (gt P (P.length - 1)).1 = W) (hR : (gt R (R.length - 1)).1 = W) (A : AboveM P R W) : dblM R ≤ dblM P := by
  have w0 : 0 ≤ W := by rw [← hP]; exact (K.nonneg (gt_mem (by have := K.lo; omega))).1
  have := unit_le A W.toNat (by omega)
  have a := dbl_unit K
  have b := dbl_unit J
  rw [hP] at a
  rw [hR] at b
  rw [← a, ← b] at this
  exact Rat.intCast_le_intCast.mp this
theorem above_self (P : List Pt) (W : Int) : AboveM P P W := ⟨fun _ _ _ => Rat.le_refl, fun _ _ _ => Rat.le_refl⟩
/-! ### twice the area is twice the won pairs and the tied ones -/
def gA (l : List (Int × Bool)) (y : Int × Bool) : Int := if y.2 = true then 0 else (cnt l (y.1 + 1)).2 + (cnt l y.1).2
def sumL {α : Type} (f : α → Int) (l : List α) : Int := (l.map f).sum
theorem sumL_cons {α : Type} (f : α → Int) (x : α) (l : List α) : sumL f (x :: l) = f x + sumL f l := by unfold sumL; simp
theorem sumL_filter_split {α : Type} (f : α → Int) (p q : α → Bool) : ∀ l : List α, (∀ x ∈ l, ¬ (p x = true ∧ q x = true)) → sumL f (l.filter fun x => p x || q x) = sumL f (l.filter p) + sumL f (l.filter q)
  | [], _ => rfl
  | x :: l, h => by
    have ih := sumL_filter_split f p q l fun y hy => h y (by simp [hy])
    have hx := h x (by simp)
    rw [List.filter_cons, List.filter_cons, List.filter_cons]
    cases hp : p x <;> cases hq : q x
    · simpa using ih
    · simp [sumL_cons, ih]; omega
    · simp [sumL_cons, ih]; omega
    · exact absurd ⟨hp, hq⟩ hx
theorem sumL_at (l : List (Int × Bool)) (k : Int) : ∀ m : List (Int × Bool), sumL (gA l) (m.filter fun y => decide (y.1 = k)) = cn (fun y => decide (y.1 = k) && !y.2) m * ((cnt l (k + 1)).2 + (cnt l k).2)
  | [] => by simp [sumL, cn_nil]
  | y :: m => by
    rw [List.filter_cons, cn_cons]
    have ih := sumL_at l k m
    by_cases c : y.1 = k
    · rw [if_pos (decide_eq_true c), sumL_cons, ih]
      unfold gA
      cases hy : y.2
      · rw [c]
        simp
        rw [Int.add_mul]
        omega
      · simp
    · rw [if_neg (by simpa using c), ih]
      simp [c]
theorem cnt_at (l : List (Int × Bool)) (k : Int) : (cnt l k).1 - (cnt l (k + 1)).1 = cn (fun y => decide (y.1 = k) && !y.2) l := by
  rw [cnt_cn, cnt_cn]
  dsimp only
  have := cn_split (p := fun x : Int × Bool => decide (k ≤ x.1) && !x.2) (q := fun x => decide (k + 1 ≤ x.1) && !x.2) (r := fun x => decide (x.1 = k) && !x.2) (l := l) fun x _ => by
    cases x.2 <;> simp <;> omega
  omega
theorem cnt_gap {l : List (Int × Bool)} {a b : Int} (h : ∀ x ∈ l, (a ≤ x.1 ↔ b ≤ x.1)) : cnt l a = cnt l b := by
  rw [cnt_cn, cnt_cn]
  refine Prod.ext (cn_congr fun x hx => ?_) (cn_congr fun x hx => ?_)
  · rw [decide_eq_decide.mpr (h x hx)]
  · rw [decide_eq_decide.mpr (h x hx)]
theorem dbl_cons (p q : Pt) (r : List Pt) : dblM (p :: q :: r) = (q.1 - p.1) * (p.2 + q.2) + dblM (q :: r) := by
  unfold dblM
  simp
theorem dbl_levels (l : List (Int × Bool)) : ∀ (ks : List Int) (t : Int), ks.Pairwise (· > ·) → (∀ k ∈ ks, k < t) → (∀ x ∈ l, x.1 < t → x.1 ∈ ks) → dblM (cnt l t :: ks.map (cnt l)) = sumL (gA l) (l.filter fun y => decide (y.1 < t))
  | [], t, _, _, h => by
    rw [List.filter_eq_nil_iff.mpr fun x hx q => by have := h x hx (of_decide_eq_true q); cases this]
    rfl
  | k :: ks, t, hp, hk, h => by
    rw [List.pairwise_cons] at hp
    have kt := hk k (by simp)
    have ih := dbl_levels l ks k hp.2 hp.1 fun x hx q => by
      rcases List.mem_cons.mp (h x hx (by omega)) with e | e
      · omega
      · exact e
    have ct : cnt l t = cnt l (k + 1) := cnt_gap fun x hx => by
      constructor
      · intro q; omega
      · intro q
        by_cases c : t ≤ x.1
        · exact c
        · rcases List.mem_cons.mp (h x hx (by omega)) with e | e
          · omega
          · have := hp.1 _ e; omega
    rw [List.map_cons, dbl_cons, ih, ct, cnt_at]
    have e : (l.filter fun y => decide (y.1 < t)) = l.filter fun y => decide (y.1 = k) || decide (y.1 < k) := List.filter_congr fun x hx => by
      rw [Bool.eq_iff_iff, Bool.or_eq_true, decide_eq_true_iff, decide_eq_true_iff, decide_eq_true_iff]
      constructor
      · intro q
        rcases List.mem_cons.mp (h x hx q) with e | e
        · exact .inl e
        · exact .inr (hp.1 _ e)
      · intro q; omega
    rw [e, sumL_filter_split _ _ _ l fun x _ => by simp; omega, sumL_at]
theorem ds2_sumL {α β : Type} (f : α → β → Bool) (m : List β) : ∀ l : List α, ds2 f l m = sumL (fun x => cn (f x) m) l
  | [] => rfl
  | x :: l => by rw [ds2, sumL_cons, ds2_sumL f m l]
theorem sumL_add {α : Type} (f g : α → Int) : ∀ l : List α, sumL (fun x => f x + g x) l = sumL f l + sumL g l
  | [] => rfl
  | x :: l => by rw [sumL_cons, sumL_cons, sumL_cons, sumL_add f g l]; omega
theorem sumL_congr {α : Type} {f g : α → Int} {l : List α} (h : ∀ x ∈ l, f x = g x) : sumL f l = sumL g l := by unfold sumL; rw [List.map_congr_left h]
/-- the area theorem -/
theorem area_pairs {l : List (Int × Bool)} (h : Val l) : dblM (pts l) = 2 * (pairs l).1 + (pairs l).2.1 := by
  have a := dbl_levels l (scs l) 100 (scs_down l) (fun k hk => by
    obtain ⟨x, hx, e⟩ := List.mem_map.mp (scs_mem.mp hk)
    have := h.sc x hx
    omega) fun x hx _ => scs_mem.mpr (List.mem_map.mpr ⟨x, hx, rfl⟩)
  rw [cnt_top h (Int.le_refl _)] at a
  have e : (l.filter fun y => decide (y.1 < 100)) = l := List.filter_eq_self.mpr fun x hx => by have := h.sc x hx; simp; omega
  rw [e] at a
  show dblM ((0, 0) :: (scs l).map (cnt l)) = _
  rw [a]
  show _ = 2 * pr rW l l + pr rT l l
  rw [pr_ds2, pr_ds2, ds2_swap l l, ds2_swap (f := fun x y => x.2 && !y.2 && rT x.1 y.1) l l, ds2_sumL, ds2_sumL]
  have two : 2 * sumL (fun y => cn (fun x => x.2 && !y.2 && rW x.1 y.1) l) l = sumL (fun y => cn (fun x => x.2 && !y.2 && rW x.1 y.1) l) l + sumL (fun y => cn (fun x => x.2 && !y.2 && rW x.1 y.1) l) l := by omega
  rw [two, ← sumL_add, ← sumL_add]
  refine sumL_congr fun y _ => ?_
  unfold gA
  cases hy : y.2
  · rw [if_neg Bool.false_ne_true, cnt_cn, cnt_cn]
    dsimp only
    have w : cn (fun x : Int × Bool => x.2 && !false && rW x.1 y.1) l = cn (fun x => decide (y.1 + 1 ≤ x.1) && x.2) l := cn_congr fun x _ => by
      unfold rW
      cases x.2 <;> simp; omega
    have t := cn_split (p := fun x : Int × Bool => decide (y.1 ≤ x.1) && x.2) (q := fun x => decide (y.1 + 1 ≤ x.1) && x.2) (r := fun x => x.2 && !false && rT x.1 y.1) (l := l) fun x _ => by
      unfold rT
      cases x.2 <;> simp <;> omega
    rw [w, t]
    omega
  · rw [if_pos rfl]
    simp [cn_none]
end DL
namespace DL
open PySem L2
/-- a for that ends with a return, at the first that asks for it -/
theorem seq_first {S : Type} {α : Type} {l : FL S} {p : D → Env → Option Env} {F G : FS S} {ρ : Env} {s s1 : S} {enc : α → D} {xs : List α} {v : Dv} (I : Env → Prop) (b : α → Bool) {x : α} {r : List α} (a : l ρ s = .ok (xs.map enc) s1) (i0 : I ρ) (hf : xs.filter b = x :: r)
    (hn : ∀ y ∈ xs, b y = false → ∀ ρ, I ρ → ∃ ρ1, p (enc y) ρ = some ρ1 ∧ ∃ ρ2, F ρ1 s1 = .nx ρ2 s1 ∧ I ρ2) (hr : ∀ ρ, I ρ → ∃ ρ1, p (enc x) ρ = some ρ1 ∧ F ρ1 s1 = .rt v s1) : sSeq (sFor l p F) G ρ s = .rt v s1 := by
  have go : ∀ (xs : List α) (ρ : Env), I ρ → xs.filter b = x :: r → (∀ y ∈ xs, b y = false → ∀ ρ, I ρ → ∃ ρ1, p (enc y) ρ = some ρ1 ∧ ∃ ρ2, F ρ1 s1 = .nx ρ2 s1 ∧ I ρ2) → loopS p F (xs.map enc) ρ s1 = .rt v s1 := by
    intro xs
    induction xs with
    | nil => intro ρ _ h; cases h
    | cons y xs ih =>
      intro ρ i h hn
      rw [List.filter_cons] at h
      cases q : b y with
      | true =>
        rw [if_pos q] at h
        cases h
        obtain ⟨ρ1, e1, e2⟩ := hr ρ i
        rw [List.map_cons, loopS, e1]
        dsimp only
        rw [e2]
      | false =>
        rw [if_neg (by simp [q])] at h
        obtain ⟨ρ1, e1, ρ2, e2, i2⟩ := hn y (by simp) q ρ i
        rw [List.map_cons, loopS, e1]
        dsimp only
        rw [e2]
        exact ih ρ2 i2 h fun z hz => hn z (by simp [hz])
  rw [ev_seqR (ev_for a (go xs ρ i0 hf hn))]
/-- a comprehension that draws, what it keeps told by a key -/
theorem compS_drawK {α β γ : Type} {p : D → Env → Option Env} {fe : FE DSt} {ρ : Env} {enc : α → D} {e : β → D} {ka : α → γ} {kb : β → γ} {Q : β → Prop} : ∀ (xs : List α) (s : DSt), s.nums ≠ [] → (∀ x ∈ xs, ∀ s', Nx s s' → ∃ ρ' y s2, p (enc x) ρ = some ρ' ∧ fe ρ' s' = .ok (.d (e y)) s2 ∧ (Q y ∧ kb y = ka x) ∧ Nx s' s2) →
    ∃ (ys : List β) (s' : DSt), compS p fYes fe ρ (xs.map enc) s = .ok (ys.map e) s' ∧ ys.map kb = xs.map ka ∧ (∀ y ∈ ys, Q y) ∧ Nx s s'
  | [], s, hn, _ => ⟨[], s, rfl, rfl, by simp, Nx.refl hn⟩
  | x :: xs, s, hn, h => by
    obtain ⟨ρ', y, s2, h1, h2, hq, n2⟩ := h x (by simp) s (Nx.refl hn)
    obtain ⟨ys, s3, h3, h4, h5, n3⟩ := compS_drawK (p := p) (fe := fe) (ρ := ρ) (enc := enc) (e := e) (ka := ka) (kb := kb) (Q := Q) xs s2 n2.ne fun x hx s' n' => h x (by simp [hx]) s' (n2.trans n')
    refine ⟨y :: ys, s3, ?_, by rw [List.map_cons, List.map_cons, h4, hq.2], fun z hz => ?_, n2.trans n3⟩
    · rw [List.map_cons, compS, h1]
      dsimp only [fYes]
      rw [if_pos rfl, h2]
      dsimp only
      rw [h3]
      rfl
    · rcases List.mem_cons.mp hz with q | q
      · rw [q]; exact hq.1
      · exact h5 z q
theorem lComp_drawK {α β γ : Type} {f : FL DSt} {vs : List Nat} {p : D → Env → Option Env} {fe : FE DSt} {ρ ρ1 : Env} {s s1 : DSt} {enc : α → D} {e : β → D} (ka : α → γ) (kb : β → γ) {Q : β → Prop} {xs : List α} (hw : wipeE vs ρ = some ρ1) (hi : f ρ s = .ok (xs.map enc) s1) (hn : s1.nums ≠ [])
    (h : ∀ x ∈ xs, ∀ s', Nx s1 s' → ∃ ρ' y s2, p (enc x) ρ1 = some ρ' ∧ fe ρ' s' = .ok (.d (e y)) s2 ∧ (Q y ∧ kb y = ka x) ∧ Nx s' s2) : ∃ (ys : List β) (s' : DSt), lComp f vs p fYes fe ρ s = .ok (ys.map e) s' ∧ ys.map kb = xs.map ka ∧ (∀ y ∈ ys, Q y) ∧ Nx s1 s' := by
  obtain ⟨ys, s', h1, h2⟩ := compS_drawK (e := e) (ka := ka) (kb := kb) (Q := Q) xs s1 hn h
  refine ⟨ys, s', ?_, h2⟩
  unfold lComp
  rw [hw]
  dsimp only
  rw [hi]
  exact h1
/-- the numbers of all depend on the marks alone -/
theorem cnt_marks {l m : List (Int × Bool)} (hl : ∀ x ∈ l, 0 ≤ x.1) (hm : ∀ x ∈ m, 0 ≤ x.1) (h : l.map (·.2) = m.map (·.2)) : cnt l 0 = cnt m 0 := by
  have e : ∀ l : List (Int × Bool), (∀ x ∈ l, 0 ≤ x.1) → cnt l 0 = (cn (fun b => !b) (l.map (·.2)), cn (fun b => b) (l.map (·.2))) := fun l hl => by
    rw [cnt_cn, cn_map, cn_map]
    refine Prod.ext (cn_congr fun x hx => ?_) (cn_congr fun x hx => ?_)
    · simp [hl x hx]
    · simp [hl x hx]
  rw [e l hl, e m hm, h]
/-! denominators -/
theorem sg_denX {x : Rat} {s t : Pt} (hs : B12 s) (ht : B12 t) (h : cvQ x (s, t) = true) : ((sgQ s t x).den : Int) ≤ 12 * (x.den : Int) := by
  have w := cv_wide h
  have dp := den_pos x
  unfold sgQ
  by_cases c : t.1 - s.1 = 0
  · rw [if_pos c]
    show ((1 : Nat) : Int) ≤ _
    omega
  · rw [if_neg c]
    unfold B12 at hs ht
    have p : 0 < (t.1 - s.1) * (x.den : Int) := Int.mul_pos (by omega) dp
    have e : ePt (lowM (s.2 * (t.1 - s.1) * (x.den : Int) + (x.num - s.1 * (x.den : Int)) * (t.2 - s.2)) ((t.1 - s.1) * (x.den : Int))) = eQ (lnQ s t x) := by rw [low_qf p, seg_qf c]
    have := eQ_inj_den p e
    have : (t.1 - s.1) * (x.den : Int) ≤ 12 * (x.den : Int) := Int.mul_le_mul_of_nonneg_right (by omega) (by omega)
    omega
theorem height_denX {C : List Pt} {x : Rat} (hC : ∀ p ∈ C, B12 p) : ((heightM C x).den : Int) ≤ 12 * (x.den : Int) := by
  have dp := den_pos x
  unfold heightM
  rcases topQ_in ((((C.zip C.tail).filter (cvQ x)).map fun q => sgQ q.1 q.2 x)) 0 with e | e
  · rw [e]; show ((1 : Nat) : Int) ≤ _; omega
  · obtain ⟨⟨u, v⟩, huv, eq⟩ := List.mem_map.mp e
    obtain ⟨h1, h2⟩ := List.mem_filter.mp huv
    rw [← eq]
    exact sg_denX (hC u (List.of_mem_zip h1).1) (hC v (List.mem_of_mem_tail (List.of_mem_zip h1).2)) h2
theorem add_den (x y : Rat) : ((x + y).den : Int) ≤ (x.den : Int) * (y.den : Int) := eQ_inj_den (Int.mul_pos (den_pos x) (den_pos y)) (add_low x y)
theorem half_rat (n : Int) : eQ ((n : Rat) + 1 / 2) = .tuple [.int (2 * n + 1), .int 2] ∧ ((n : Rat) + 1 / 2).den = 2 := by
  have e : ePt (lowM (2 * n + 1) 2) = eQ ((n : Rat) + 1 / 2) := low_eQ (by decide) (by
    rw [Rat.intCast_add, Rat.intCast_mul]
    have o : ((1 : Int) : Rat) = 1 := rfl
    have t : ((2 : Int) : Rat) = 2 := rfl
    rw [o, t]
    grind)
  have g : Int.gcd (2 * n + 1) 2 = 1 := by
    have : Int.gcd (2 * n + 1) 2 = Nat.gcd (2 * n + 1).natAbs 2 := rfl
    rw [this]
    have o : (2 * n + 1).natAbs % 2 = 1 := by omega
    rw [Nat.gcd_comm, Nat.gcd_rec, o]
    rfl
  have l : lowM (2 * n + 1) 2 = (2 * n + 1, 2) := by
    unfold lowM
    rw [g]
    simp
  rw [l] at e
  refine ⟨e.symm, ?_⟩
  unfold eQ ePt at e
  have l2 := PyData.tuple.inj e
  simp only [List.cons.injEq, PyData.int.injEq, and_true] at l2
  omega
end DL
namespace DL
theorem seq_findE {S : Type} {α : Type} {l : FL S} {p : D → Env → Option Env} {F G : FS S} {ρ : Env} {s s1 : S} {enc : α → D} {xs : List α} {v : Dv} (I : Env → Prop) (c : α → Prop) (a : l ρ s = .ok (xs.map enc) s1) (i0 : I ρ) (hex : ∃ x ∈ xs, c x)
    (hn : ∀ x ∈ xs, ¬ c x → ∀ ρ, I ρ → ∃ ρ1, p (enc x) ρ = some ρ1 ∧ ∃ ρ2, F ρ1 s1 = .nx ρ2 s1 ∧ I ρ2) (hr : ∀ x ∈ xs, c x → ∀ ρ, I ρ → ∃ ρ1, p (enc x) ρ = some ρ1 ∧ F ρ1 s1 = .rt v s1) : sSeq (sFor l p F) G ρ s = .rt v s1 := by
  obtain ⟨w, e, h⟩ := seq_find (R := fun w => w = v) I c a i0 hex hn fun x hx q ρ i => let ⟨ρ1, h1, h2⟩ := hr x hx q ρ i; ⟨ρ1, h1, v, h2, rfl⟩
  rw [e, h]
end DL

namespace DL
open PySem L2
/-! ### pools: the steps between points of the curve -/
def rk (p : Pt) : Int := p.1 + p.2
def loOf (l : List (Int × Bool)) (b : Pt) : Int := ((scs l).find? fun k => decide (cnt l k = b)).getD 0
def hiOf (l : List (Int × Bool)) (a : Pt) : Int := ((scs l).find? fun k => decide (rk a < rk (cnt l k))).getD 0
def plOf (l : List (Int × Bool)) (q : Pt × Pt) : Int × Int × Int × Int := (loOf l q.2, hiOf l q.1, q.2.1 - q.1.1, q.2.2 - q.1.2)
def plM (l : List (Int × Bool)) (Q : List Pt) : List (Int × Int × Int × Int) := (Q.zip Q.tail).map (plOf l)
def ePL (x : Int × Int × Int × Int) : D := .list [.int x.1, .int x.2.1, .int x.2.2.1, .int x.2.2.2]
def ePTu (x : Int × Int × Int × Int) : D := .tuple [.int x.1, .int x.2.1, .int x.2.2.1, .int x.2.2.2]
theorem find_first {α : Type} {p : α → Bool} : ∀ {l : List α} {i : Nat} {x : α}, l[i]? = some x → p x = true → (∀ j < i, ∀ y, l[j]? = some y → p y = false) → l.find? p = some x
  | [], i, x, h, _, _ => by simp at h
  | y :: l, 0, x, h, hp, _ => by simp at h; subst h; simp [List.find?, hp]
  | y :: l, i + 1, x, h, hp, hn => by
    have := hn 0 (by omega) y rfl
    rw [List.find?, this]
    exact find_first (i := i) (by simpa using h) hp fun j hj z hz => hn (j + 1) (by omega) z (by simpa using hz)
section
variable {l : List (Int × Bool)}
theorem rk_lt (h : Val l) {i j : Nat} (hij : i < j) (hj : j < (pts l).length) : rk (gt (pts l) i) < rk (gt (pts l) j) := by
  have := pw_gt (pts_lt2 h) hij hj
  unfold lt2 at this
  unfold rk
  omega
theorem pts_sc {i : Nat} (hi : i < (scs l).length) : gt (pts l) (i + 1) = cnt l ((scs l).getD i 0) := by
  unfold pts
  rw [gt_succ]
  unfold gt
  rw [List.getD_eq_getElem?_getD, List.getD_eq_getElem?_getD, List.getElem?_map, List.getElem?_eq_getElem hi]
  rfl
theorem sc_get {i : Nat} (hi : i < (scs l).length) : (scs l)[i]? = some ((scs l).getD i 0) := by
  rw [List.getD_eq_getElem?_getD, List.getElem?_eq_getElem hi]
  rfl
theorem lo_at (h : Val l) {i : Nat} (hi : i < (scs l).length) : loOf l (gt (pts l) (i + 1)) = (scs l).getD i 0 := by
  have hl := pts_len (l := l)
  unfold loOf
  rw [find_first (i := i) (sc_get hi) (decide_eq_true (pts_sc hi).symm) fun j hj y hy => ?_]
  · rfl
  · have hj2 : j < (scs l).length := by omega
    rw [sc_get hj2] at hy
    cases hy
    refine decide_eq_false fun e => ?_
    rw [← pts_sc hj2] at e
    have := rk_lt h (i := j + 1) (j := i + 1) (by omega) (by omega)
    rw [e] at this
    omega
theorem hi_at (h : Val l) {i : Nat} (hi : i < (scs l).length) : hiOf l (gt (pts l) i) = (scs l).getD i 0 := by
  have hl := pts_len (l := l)
  unfold hiOf
  rw [find_first (i := i) (sc_get hi) ?_ fun j hj y hy => ?_]
  · rfl
  · refine decide_eq_true ?_
    rw [← pts_sc hi]
    exact rk_lt h (by omega) (by omega)
  · have hj2 : j < (scs l).length := by omega
    rw [sc_get hj2] at hy
    cases hy
    refine decide_eq_false fun e => ?_
    rw [← pts_sc hj2] at e
    by_cases c : j + 1 = i
    · rw [c] at e; omega
    · have := rk_lt h (i := j + 1) (j := i) (by omega) (by omega)
      omega
/-- a thing's score lies in the pool of a step just if its point does -/
theorem in_pool (h : Val l) {x : Int} (hx : x ∈ scs l) {a b : Pt} (ha : a ∈ pts l) (hb : b ∈ pts l) (hab : lt2 a b) : (loOf l b ≤ x ∧ x ≤ hiOf l a) ↔ (rk a < rk (cnt l x) ∧ rk (cnt l x) ≤ rk b) := by
  have hl := pts_len (l := l)
  obtain ⟨i, hi, rfl⟩ := mem_gt ha
  obtain ⟨j, hj, rfl⟩ := mem_gt hb
  have ij : i < j := by
    by_cases c : i < j
    · exact c
    · have := pw_le (pts_lt2 h) (i := j) (j := i) (by omega) hi
      unfold lt2 at hab
      unfold le2 at this
      omega
  obtain ⟨j', rfl⟩ : ∃ j', j = j' + 1 := ⟨j - 1, by omega⟩
  obtain ⟨m, hm, e⟩ := List.mem_iff_getElem.mp hx
  have em : (scs l).getD m 0 = x := by rw [List.getD_eq_getElem?_getD, List.getElem?_eq_getElem hm]; exact e
  rw [lo_at h (by omega), hi_at h (by omega), ← em, ← pts_sc hm]
  have dn : ∀ p q : Nat, p < (scs l).length → q < (scs l).length → ((scs l).getD p 0 ≤ (scs l).getD q 0 ↔ q ≤ p) := fun p q hp hq => by
    have d := List.pairwise_iff_getElem.mp (scs_down l)
    have ep : (scs l).getD p 0 = (scs l)[p] := by rw [List.getD_eq_getElem?_getD, List.getElem?_eq_getElem hp]; rfl
    have eq : (scs l).getD q 0 = (scs l)[q] := by rw [List.getD_eq_getElem?_getD, List.getElem?_eq_getElem hq]; rfl
    rw [ep, eq]
    rcases Nat.lt_trichotomy p q with c | c | c
    · have := d p q hp hq c; omega
    · subst c; omega
    · have := d q p hq hp c; omega
  rw [dn j' m (by omega) hm, dn m i hm (by omega)]
  have rr : ∀ p q : Nat, p < (pts l).length → q < (pts l).length → (rk (gt (pts l) p) ≤ rk (gt (pts l) q) ↔ p ≤ q) := fun p q hp hq => by
    rcases Nat.lt_trichotomy p q with c | c | c
    · have := rk_lt h c hq; omega
    · subst c; omega
    · have := rk_lt h c hp; omega
  have r1 := rr (m + 1) i (by omega) (by omega)
  have r2 := rr (m + 1) (j' + 1) (by omega) (by omega)
  constructor
  · rintro ⟨q1, q2⟩
    refine ⟨?_, r2.mpr (by omega)⟩
    have : ¬ rk (gt (pts l) (m + 1)) ≤ rk (gt (pts l) i) := fun z => by have := r1.mp z; omega
    omega
  · rintro ⟨q1, q2⟩
    have := r2.mp q2
    have : ¬ m + 1 ≤ i := fun z => by have := r1.mpr z; omega
    omega
end
/-! the stack of pools is the stack of the hull -/
def fallsM (x y : Int × Int × Int × Int) : Bool := decide (y.2.2.2 * (x.2.2.1 + x.2.2.2) < x.2.2.2 * (y.2.2.1 + y.2.2.2))
def putM (x y : Int × Int × Int × Int) : Int × Int × Int × Int := (y.1, x.2.1, x.2.2.1 + y.2.2.1, x.2.2.2 + y.2.2.2)
theorem falls_trn (l : List (Int × Bool)) (s t c : Pt) : fallsM (plOf l (s, t)) (plOf l (t, c)) = decide (trn s t c < 0) := by
  unfold fallsM plOf
  dsimp only
  rw [decide_eq_decide, trn_crs2]
  unfold crs dif
  dsimp only
  rw [Int.mul_add, Int.mul_add, Int.mul_comm (c.2 - t.2) (t.1 - s.1), Int.mul_comm (c.2 - t.2) (t.2 - s.2)]
  omega
theorem put_pl (l : List (Int × Bool)) (s t c : Pt) : putM (plOf l (s, t)) (plOf l (t, c)) = plOf l (s, c) := by
  unfold putM plOf
  dsimp only
  refine Prod.ext rfl (Prod.ext rfl (Prod.ext ?_ ?_)) <;> dsimp only <;> omega
theorem zip_snoc {α : Type} : ∀ (Q : List α) (s t : α), ((Q ++ [s, t]).zip (Q ++ [s, t]).tail) = ((Q ++ [s]).zip (Q ++ [s]).tail) ++ [(s, t)]
  | [], s, t => rfl
  | [x], s, t => rfl
  | x :: y :: Q, s, t => by
    have := zip_snoc (y :: Q) s t
    simp only [List.cons_append, List.tail_cons, List.zip_cons_cons] at this ⊢
    rw [this]
theorem pl_snoc (l : List (Int × Bool)) (Q : List Pt) (s t : Pt) : plM l (Q ++ [s, t]) = plM l (Q ++ [s]) ++ [plOf l (s, t)] := by
  unfold plM
  rw [zip_snoc, List.map_append]
  rfl
theorem pl_snoc2 (l : List (Int × Bool)) (Q : List Pt) (s t c : Pt) : plM l (Q ++ [s, t, c]) = plM l (Q ++ [s]) ++ [plOf l (s, t), plOf l (t, c)] := by
  have e : Q ++ [s, t, c] = (Q ++ [s]) ++ [t, c] := by simp
  rw [e, pl_snoc]
  have e2 : Q ++ [s] ++ [t] = Q ++ [s, t] := by simp
  rw [e2, pl_snoc]
  simp
theorem pl_len (l : List (Int × Bool)) (Q : List Pt) : (plM l Q).length = Q.length - 1 := by
  unfold plM
  rw [List.length_map, List.length_zip, List.length_tail]
  omega
/-! polygons over the curve, under which it lies -/
structure Poly (P Q : List Pt) : Prop where
  two : 2 ≤ Q.length
  sub : ∀ x ∈ Q, x ∈ P
  up : ∀ i, i + 1 < Q.length → lt2 (gt Q i) (gt Q (i + 1))
  un : ∀ i, i + 1 < Q.length → ∀ p ∈ P, le2 (gt Q i) p → le2 p (gt Q (i + 1)) → trn (gt Q i) (gt Q (i + 1)) p ≤ 0
  fst : Q.head? = P.head?
  lst : Q.getLast? = P.getLast?
theorem Poly.start {P : List Pt} (K : Crv P) : Poly P P := by
  have h := cornM_hull K.pw (fun e => by have := K.lo; rw [e] at this; simp at this)
  refine ⟨K.lo, fun x hx => hx, fun i hi => pw_gt K.pw (by omega) hi, fun i hi p hp a b => ?_, rfl, rfl⟩
  obtain ⟨j, hj, rfl⟩ := mem_gt hp
  have e : j = i ∨ j = i + 1 := by
    by_cases c1 : j < i
    · have := pw_gt K.pw c1 (by omega)
      unfold lt2 at this
      unfold le2 at a
      omega
    · by_cases c2 : i + 1 < j
      · have := pw_gt K.pw c2 hj
        unfold lt2 at this
        unfold le2 at b
        omega
      · omega
  rcases e with e | e
  · rw [e]; unfold trn; simp
  · rw [e]; rw [trn_crs, crs_self]; omega
/-- where each way over three turns to the right it is the hull -/
theorem Poly.hull {P Q : List Pt} (K : Crv P) (h : Poly P Q) (t : ∀ i, i + 2 < Q.length → trn (gt Q i) (gt Q (i + 1)) (gt Q (i + 2)) < 0) : Q = cornM P := by
  have H : Hull P Q := ⟨by have := h.two; omega, h.sub, h.up, t, h.un, h.fst, h.lst, lin_of K.pw⟩
  exact hull_only K H (cornM_hull K.pw (fun e => by have := K.lo; rw [e] at this; simp at this))
theorem gt_erase {Q : List Pt} {k i : Nat} : gt (Q.eraseIdx k) i = if i < k then gt Q i else gt Q (i + 1) := by
  unfold gt
  rw [List.getD_eq_getElem?_getD, List.getElem?_eraseIdx]
  split <;> rw [List.getD_eq_getElem?_getD]
/-- a point out where the way turns not to the right -/
theorem Poly.out {P Q : List Pt} (K : Crv P) (h : Poly P Q) {k : Nat} (hk : k + 2 < Q.length) (t : 0 ≤ trn (gt Q k) (gt Q (k + 1)) (gt Q (k + 2))) : Poly P (Q.eraseIdx (k + 1)) := by
  have hl : (Q.eraseIdx (k + 1)).length = Q.length - 1 := List.length_eraseIdx_of_lt (by omega)
  have u1 := h.up k (by omega)
  have u2 := h.up (k + 1) (by omega)
  refine ⟨by rw [hl]; omega, fun x hx => h.sub x (List.mem_of_mem_eraseIdx hx), fun i hi => ?_, fun i hi p hp a b => ?_, ?_, ?_⟩
  · rw [hl] at hi
    rw [gt_erase, gt_erase]
    by_cases c1 : i + 1 < k + 1
    · rw [if_pos (by omega), if_pos c1]; exact h.up i (by omega)
    · by_cases c2 : i = k
      · subst c2
        rw [if_pos (by omega), if_neg (by omega)]
        exact u1.trans u2
      · rw [if_neg (by omega), if_neg (by omega)]; exact h.up (i + 1) (by omega)
  · rw [hl] at hi
    rw [gt_erase] at a b
    rw [gt_erase, gt_erase]
    by_cases c1 : i + 1 < k + 1
    · rw [if_pos (by omega)] at a ⊢
      rw [if_pos c1] at b ⊢
      exact h.un i (by omega) p hp a b
    · by_cases c2 : i = k
      · subst c2
        rw [if_pos (by omega)] at a ⊢
        rw [if_neg (by omega)] at b ⊢
        refine under_pop u1 u2 t ?_
        rcases lin_of K.pw p hp _ (h.sub _ (gt_mem (C := Q) (i := i + 1) (by omega))) with q | q
        · exact .inl ⟨a, q, h.un i (by omega) p hp a q⟩
        · exact .inr ⟨q, b, h.un (i + 1) (by omega) p hp q b⟩
      · rw [if_neg (by omega)] at a ⊢
        rw [if_neg (by omega)] at b ⊢
        exact h.un (i + 1) (by omega) p hp a b
  · rw [← h.fst, List.head?_eq_getElem?, List.head?_eq_getElem?, List.getElem?_eraseIdx, if_pos (by omega)]
  · rw [← h.lst, List.getLast?_eq_getElem?, List.getLast?_eq_getElem?, hl, List.getElem?_eraseIdx, if_neg (by omega)]
    congr 1
    omega
theorem pl_get (l : List (Int × Bool)) {Q : List Pt} {i : Nat} (h : i + 1 < Q.length) : (plM l Q)[i]? = some (plOf l (gt Q i, gt Q (i + 1))) := by
  unfold plM
  have e : (Q.zip Q.tail)[i]? = some (gt Q i, gt Q (i + 1)) := List.getElem?_zip_eq_some.mpr ⟨gt_of (by omega), by rw [List.getElem?_tail]; exact gt_of h⟩
  rw [List.getElem?_map, e]
  rfl
/-- two pools put together -/
theorem pl_out (l : List (Int × Bool)) {Q : List Pt} {k : Nat} (h : k + 2 < Q.length) : plM l (Q.eraseIdx (k + 1)) = (plM l Q).take k ++ [putM (plOf l (gt Q k, gt Q (k + 1))) (plOf l (gt Q (k + 1), gt Q (k + 2)))] ++ (plM l Q).drop (k + 2) := by
  have hl : (Q.eraseIdx (k + 1)).length = Q.length - 1 := List.length_eraseIdx_of_lt (by omega)
  rw [put_pl]
  have pl := pl_len l Q
  have tl : ((plM l Q).take k).length = k := by rw [List.length_take]; omega
  apply List.ext_getElem?
  intro i
  by_cases c0 : i < Q.length - 2
  · rw [pl_get l (by omega), gt_erase, gt_erase]
    by_cases c1 : i < k
    · rw [if_pos (by omega), if_pos (by omega), List.append_assoc, List.getElem?_append_left (by omega), List.getElem?_take, if_pos c1, pl_get l (by omega)]
    · by_cases c2 : i = k
      · subst c2
        rw [if_pos (by omega), if_neg (by omega), List.append_assoc, List.getElem?_append_right (by omega), tl]
        simp
      · rw [if_neg (by omega), if_neg (by omega), List.getElem?_append_right (by rw [List.length_append, tl]; simp; omega), List.length_append, tl, List.getElem?_drop, pl_get l (by simp; omega)]
        have : k + 2 + (i - (k + [plOf l (gt Q k, gt Q (k + 2))].length)) = i + 1 := by simp; omega
        rw [this]
  · rw [List.getElem?_eq_none (by rw [pl_len, hl]; omega), List.getElem?_eq_none (by rw [List.length_append, List.length_append, tl, List.length_drop]; simp; omega)]
end DL

namespace DL
open PySem L2
/-! ### the pool of a score, its share, sums over things and over pools -/
def inPl (l : List (Int × Bool)) (x : Int) (q : Pt × Pt) : Bool := decide (rk q.1 < rk (cnt l x)) && decide (rk (cnt l x) ≤ rk q.2)
def poolAt (l : List (Int × Bool)) (Q : List Pt) (x : Int) : Option (Pt × Pt) := (Q.zip Q.tail).find? (inPl l x)
def shQ' (q : Pt × Pt) : Rat := qf (q.2.2 - q.1.2) (q.2.1 - q.1.1 + (q.2.2 - q.1.2))
def shareM (l : List (Int × Bool)) (Q : List Pt) (x : Int) : Rat := match poolAt l Q x with
  | some q => shQ' q
  | none => 0
def gapM (l : List (Int × Bool)) (Q : List Pt) (y : Int × Bool) : Rat := (shareM l Q y.1 + (((if y.2 = true then -1 else 0) : Int) : Rat)) * (shareM l Q y.1 + (((if y.2 = true then -1 else 0) : Int) : Rat))
def sumR {α : Type} (f : α → Rat) : List α → Rat
  | [] => 0
  | x :: l => f x + sumR f l
theorem sumR_snoc {α : Type} (f : α → Rat) : ∀ (l : List α) (x : α), sumR f (l ++ [x]) = sumR f l + f x
  | [], x => by show f x + 0 = 0 + f x; grind
  | y :: l, x => by show f y + sumR f (l ++ [x]) = f y + sumR f l + f x; rw [sumR_snoc f l x]; grind
theorem sumR_const {α : Type} (f : α → Rat) (p m : α → Bool) (A B : Rat) : ∀ l : List α, (∀ y ∈ l, p y = true → f y = if m y = true then A else B) → sumR f (l.filter p) = ((cn (fun y => p y && !m y) l : Int) : Rat) * B + ((cn (fun y => p y && m y) l : Int) : Rat) * A
  | [], _ => by show (0 : Rat) = ((0 : Int) : Rat) * B + ((0 : Int) : Rat) * A; have z : ((0 : Int) : Rat) = 0 := rfl; rw [z]; grind
  | y :: l, h => by
    have ih := sumR_const f p m A B l fun z hz => h z (by simp [hz])
    have hy := h y (by simp)
    have o : ((1 : Int) : Rat) = 1 := rfl
    have z : ((0 : Int) : Rat) = 0 := rfl
    rw [List.filter_cons, cn_cons, cn_cons]
    cases hp : p y
    · rw [if_neg Bool.false_ne_true, ih]
      simp
    · rw [if_pos rfl]
      show f y + sumR f (l.filter p) = _
      rw [ih, hy hp]
      cases hm : m y
      · rw [if_neg Bool.false_ne_true]
        simp only [Bool.not_false, Bool.and_true, Bool.and_false, if_true, Bool.false_eq_true, if_false, Rat.intCast_add, o, z]
        grind
      · rw [if_pos rfl]
        simp only [Bool.not_true, Bool.and_true, Bool.and_false, if_true, Bool.false_eq_true, if_false, Rat.intCast_add, o, z]
        grind
theorem sumR_split {α : Type} (f : α → Rat) (p q : α → Bool) : ∀ l : List α, (∀ x ∈ l, ¬ (p x = true ∧ q x = true)) → sumR f (l.filter fun x => p x || q x) = sumR f (l.filter p) + sumR f (l.filter q)
  | [], _ => by show (0 : Rat) = 0 + 0; grind
  | x :: l, h => by
    have ih := sumR_split f p q l fun y hy => h y (by simp [hy])
    have hx := h x (by simp)
    rw [List.filter_cons, List.filter_cons, List.filter_cons]
    cases hp : p x <;> cases hq : q x
    · simpa using ih
    · simp only [Bool.false_or, if_true, Bool.false_eq_true, if_false]
      show f x + sumR f _ = _ + (f x + sumR f _)
      rw [ih]; grind
    · simp only [Bool.true_or, if_true, Bool.false_eq_true, if_false]
      show f x + sumR f _ = (f x + sumR f _) + _
      rw [ih]; grind
    · exact absurd ⟨hp, hq⟩ hx
section
variable {l : List (Int × Bool)}
theorem rk_iff (h : Val l) {p : Pt} (hp : p ∈ pts l) : ∃ k : Int, p = cnt l k ∧ ∀ y ∈ l, (rk (cnt l y.1) ≤ rk p ↔ k ≤ y.1) := by
  obtain ⟨k, _, _, e⟩ := (pts_mem h).mp hp
  refine ⟨k, e, fun y hy => ?_⟩
  rw [e]
  constructor
  · intro q
    by_cases c : k ≤ y.1
    · exact c
    · have := cnt_lt (l := l) (t := k) (u := y.1) (by omega) (List.mem_map.mpr ⟨y, hy, rfl⟩)
      unfold rk at q
      omega
  · intro q
    have := cnt_le l q
    unfold rk
    omega
theorem rk_pos (h : Val l) {y : Int × Bool} (hy : y ∈ l) : 0 < rk (cnt l y.1) := by
  have a := cnt_lt (l := l) (t := 100) (u := y.1) (by have := h.sc y hy; omega) (List.mem_map.mpr ⟨y, hy, rfl⟩)
  rw [cnt_top h (Int.le_refl _)] at a
  unfold rk
  simp at a
  omega
/-- how many sound and faulty things a step has -/
theorem step_count (h : Val l) {a b : Pt} (ha : a ∈ pts l) (hb : b ∈ pts l) (hab : lt2 a b) : cn (fun y => inPl l y.1 (a, b) && !y.2) l = b.1 - a.1 ∧ cn (fun y => inPl l y.1 (a, b) && y.2) l = b.2 - a.2 := by
  obtain ⟨k, ek, hk⟩ := rk_iff h ha
  obtain ⟨j, ej, hj⟩ := rk_iff h hb
  have jk : ∀ y ∈ l, k ≤ y.1 → j ≤ y.1 := fun y hy q => by
    have := (hk y hy).mpr q
    refine (hj y hy).mp ?_
    unfold lt2 at hab
    unfold rk at this ⊢
    omega
  have e1 : ∀ y ∈ l, inPl l y.1 (a, b) = (!decide (k ≤ y.1) && decide (j ≤ y.1)) := fun y hy => by
    unfold inPl
    dsimp only
    rw [decide_eq_decide.mpr (hj y hy)]
    congr 1
    by_cases c : k ≤ y.1
    · rw [decide_eq_true c, decide_eq_false (by have := (hk y hy).mpr c; omega)]; rfl
    · rw [decide_eq_false c, decide_eq_true (by
        have : ¬ rk (cnt l y.1) ≤ rk a := fun z => c ((hk y hy).mp z)
        omega)]; rfl
  constructor
  · have c1 : cn (fun y => inPl l y.1 (a, b) && !y.2) l = cn (fun y : Int × Bool => (!decide (k ≤ y.1) && decide (j ≤ y.1)) && !y.2) l := cn_congr fun y hy => by rw [e1 y hy]
    have c2 := cn_split (p := fun y : Int × Bool => decide (j ≤ y.1) && !y.2) (q := fun y => decide (k ≤ y.1) && !y.2) (r := fun y => (!decide (k ≤ y.1) && decide (j ≤ y.1)) && !y.2) (l := l) fun y hy => by
      have := jk y hy
      cases y.2 <;> by_cases q1 : k ≤ y.1 <;> by_cases q2 : j ≤ y.1 <;> simp [q1, q2] <;> omega
    rw [c1, ek, ej, cnt_cn, cnt_cn]
    dsimp only
    omega
  · have c1 : cn (fun y => inPl l y.1 (a, b) && y.2) l = cn (fun y : Int × Bool => (!decide (k ≤ y.1) && decide (j ≤ y.1)) && y.2) l := cn_congr fun y hy => by rw [e1 y hy]
    have c2 := cn_split (p := fun y : Int × Bool => decide (j ≤ y.1) && y.2) (q := fun y => decide (k ≤ y.1) && y.2) (r := fun y => (!decide (k ≤ y.1) && decide (j ≤ y.1)) && y.2) (l := l) fun y hy => by
      have := jk y hy
      cases y.2 <;> by_cases q1 : k ≤ y.1 <;> by_cases q2 : j ≤ y.1 <;> simp [q1, q2] <;> omega
    rw [c1, ek, ej, cnt_cn, cnt_cn]
    dsimp only
    omega
theorem poolAt_at {Q : List Pt} (hQ : Q.Pairwise lt2) {i : Nat} (hi : i + 1 < Q.length) {x : Int} (q : inPl l x (gt Q i, gt Q (i + 1)) = true) : poolAt l Q x = some (gt Q i, gt Q (i + 1)) := by
  unfold poolAt
  refine find_first (i := i) (List.getElem?_zip_eq_some.mpr ⟨gt_of (by omega), by rw [List.getElem?_tail]; exact gt_of hi⟩) q fun j hj y hy => ?_
  have e : (Q.zip Q.tail)[j]? = some (gt Q j, gt Q (j + 1)) := List.getElem?_zip_eq_some.mpr ⟨gt_of (by omega), by rw [List.getElem?_tail]; exact gt_of (by omega)⟩
  rw [e] at hy
  cases hy
  unfold inPl at q ⊢
  rw [Bool.and_eq_true, decide_eq_true_iff, decide_eq_true_iff] at q
  dsimp only at q
  have l1 := pw_le hQ (i := j + 1) (j := i) (by omega) (by omega)
  have : ¬ rk (cnt l x) ≤ rk (gt Q (j + 1)) := fun z => by unfold le2 at l1; unfold rk at *; omega
  rw [decide_eq_false this, Bool.and_false]
theorem pool_some (h : Val l) {Q : List Pt} (K : Crv Q) (hl : gt Q (Q.length - 1) = cnt l 0) {y : Int × Bool} (hy : y ∈ l) : ∃ i, i + 1 < Q.length ∧ inPl l y.1 (gt Q i, gt Q (i + 1)) = true := by
  have p := rk_pos h hy
  have u : rk (cnt l y.1) ≤ rk (gt Q (Q.length - 1)) := by
    rw [hl]
    have := cnt_le l (t := y.1) (u := 0) (h.sc y hy).1
    unfold rk
    omega
  have go : ∀ k : Nat, k < Q.length → rk (cnt l y.1) ≤ rk (gt Q k) → ∃ i, i + 1 < Q.length ∧ inPl l y.1 (gt Q i, gt Q (i + 1)) = true := by
    intro k
    induction k with
    | zero => intro _ q; rw [K.gt0] at q; unfold rk at q p; simp at q; omega
    | succ k ih =>
      intro hk q
      by_cases c : rk (cnt l y.1) ≤ rk (gt Q k)
      · exact ih (by omega) c
      · refine ⟨k, hk, ?_⟩
        unfold inPl
        rw [Bool.and_eq_true, decide_eq_true_iff, decide_eq_true_iff]
        exact ⟨by dsimp only; omega, q⟩
  exact go (Q.length - 1) (by have := K.lo; omega) u
def errQ (q : Pt × Pt) : Rat := qf ((q.2.2 - q.1.2) * (q.2.1 - q.1.1)) (q.2.1 - q.1.1 + (q.2.2 - q.1.2))
theorem lt2_size {a b : Pt} (h : lt2 a b) : 0 < b.1 - a.1 + (b.2 - a.2) ∧ 0 ≤ b.1 - a.1 ∧ 0 ≤ b.2 - a.2 := by unfold lt2 at h; omega
theorem sq_fact {s f : Int} (n : 0 < s + f) : ((s : Int) : Rat) * ((qf f (s + f)) * (qf f (s + f))) + ((f : Int) : Rat) * ((qf f (s + f) + ((-1 : Int) : Rat)) * (qf f (s + f) + ((-1 : Int) : Rat))) = qf (f * s) (s + f) := by
  have z := cast_ne (w := s + f) (by omega)
  unfold qf
  rw [Rat.intCast_add] at z ⊢
  have m : ((-1 : Int) : Rat) = -1 := rfl
  rw [m, Rat.intCast_mul]
  generalize (s : Rat) = a at *
  generalize (f : Rat) = b at *
  grind
/-- the sum over things is the sum over pools -/
theorem sum_pools (h : Val l) {Q : List Pt} (K : Crv Q) (hs : ∀ p ∈ Q, p ∈ pts l) (hl : gt Q (Q.length - 1) = cnt l 0) : sumR (gapM l Q) l = sumR errQ (Q.zip Q.tail) := by
  have go : ∀ j : Nat, j < Q.length → sumR (gapM l Q) (l.filter fun y => decide (rk (cnt l y.1) ≤ rk (gt Q j))) = sumR errQ ((Q.zip Q.tail).take j) := by
    intro j
    induction j with
    | zero =>
      intro _
      rw [List.filter_eq_nil_iff.mpr fun y hy q => by
        have := rk_pos h hy
        have := of_decide_eq_true q
        rw [K.gt0] at this
        unfold rk at *
        simp at this
        omega]
      rfl
    | succ j ih =>
      intro hj
      have u := pw_gt K.pw (i := j) (j := j + 1) (by omega) hj
      have n := lt2_size u
      have sc := step_count h (hs _ (gt_mem (C := Q) (i := j) (by omega))) (hs _ (gt_mem (C := Q) (i := j + 1) hj)) u
      rw [pw_zip_take hj, sumR_snoc, ← ih (by omega)]
      have e : (l.filter fun y => decide (rk (cnt l y.1) ≤ rk (gt Q (j + 1)))) = l.filter fun y => decide (rk (cnt l y.1) ≤ rk (gt Q j)) || inPl l y.1 (gt Q j, gt Q (j + 1)) := List.filter_congr fun y _ => by
        unfold inPl
        dsimp only
        have : rk (gt Q j) < rk (gt Q (j + 1)) := by unfold lt2 at u; unfold rk; omega
        rw [Bool.eq_iff_iff, Bool.or_eq_true, Bool.and_eq_true]
        simp only [decide_eq_true_iff]
        omega
      rw [e, sumR_split _ _ _ l fun y _ => by
        unfold inPl
        rw [Bool.and_eq_true, decide_eq_true_iff, decide_eq_true_iff]
        dsimp only
        omega]
      congr 1
      rw [sumR_const (gapM l Q) (fun y => inPl l y.1 (gt Q j, gt Q (j + 1))) (·.2) ((shQ' (gt Q j, gt Q (j + 1)) + ((-1 : Int) : Rat)) * (shQ' (gt Q j, gt Q (j + 1)) + ((-1 : Int) : Rat))) (shQ' (gt Q j, gt Q (j + 1)) * shQ' (gt Q j, gt Q (j + 1))) l fun y hy q => ?_]
      · rw [sc.1, sc.2]
        unfold shQ' errQ
        dsimp only
        exact sq_fact n.1
      · unfold gapM shareM
        rw [poolAt_at K.pw hj q]
        cases y.2
        · rw [if_neg Bool.false_ne_true, if_neg Bool.false_ne_true]
          have z : ((0 : Int) : Rat) = 0 := rfl
          rw [z]
          dsimp only
          grind
        · rw [if_pos rfl, if_pos rfl]
  have lo := K.lo
  have g := go (Q.length - 1) (by omega)
  rw [List.take_of_length_le (by rw [List.length_zip, List.length_tail]; omega)] at g
  rw [← g, List.filter_eq_self.mpr fun y hy => ?_]
  rw [hl]
  have := cnt_le l (t := y.1) (u := 0) (h.sc y hy).1
  unfold rk
  exact decide_eq_true (by omega)
end
/-! denominators of the sums -/
def isZ (r : Rat) : Prop := ∃ z : Int, r = (z : Rat)
theorem isZ.add {a b : Rat} (h : isZ a) (k : isZ b) : isZ (a + b) := by
  obtain ⟨x, rfl⟩ := h
  obtain ⟨y, rfl⟩ := k
  exact ⟨x + y, by rw [Rat.intCast_add]⟩
theorem isZ.mul {a b : Rat} (h : isZ a) (k : isZ b) : isZ (a * b) := by
  obtain ⟨x, rfl⟩ := h
  obtain ⟨y, rfl⟩ := k
  exact ⟨x * y, by rw [Rat.intCast_mul]⟩
theorem isZ.int (z : Int) : isZ (z : Rat) := ⟨z, rfl⟩
theorem isZ_den {x : Rat} {m : Int} (hm : 0 < m) (h : isZ (x * (m : Rat))) : (x.den : Int) ≤ m := by
  obtain ⟨z, e⟩ := h
  exact eQ_inj_den hm (low_eQ (t := z) hm e.symm)
def prodI : List Int → Int
  | [] => 1
  | x :: l => x * prodI l
theorem prodI_mem : ∀ {l : List Int} {x : Int}, x ∈ l → ∃ c, prodI l = x * c
  | y :: l, x, h => by
    rcases List.mem_cons.mp h with e | e
    · exact ⟨prodI l, by rw [prodI, e]⟩
    · obtain ⟨c, hc⟩ := prodI_mem e
      exact ⟨y * c, by rw [prodI, hc]; grind⟩
theorem prodI_bd : ∀ {l : List Int}, (∀ x ∈ l, 1 ≤ x) → 1 ≤ prodI l ∧ prodI l ≤ 2 ^ (l.sum - l.length).toNat ∧ (l.length : Int) ≤ l.sum
  | [], _ => by simp [prodI]
  | x :: l, h => by
    have ih := prodI_bd (l := l) fun y hy => h y (by simp [hy])
    have hx := h x (by simp)
    have two : ∀ n : Nat, ((n : Int) + 1) ≤ 2 ^ n := by
      intro n
      induction n with
      | zero => decide
      | succ n ih => rw [Int.pow_succ]; omega
    have t := two (x - 1).toNat
    have e : (((x - 1).toNat : Nat) : Int) + 1 = x := by omega
    rw [e] at t
    rw [prodI, List.sum_cons, List.length_cons]
    have e2 : (x + l.sum - ((l.length + 1 : Nat) : Int)).toNat = (x - 1).toNat + (l.sum - l.length).toNat := by omega
    refine ⟨?_, ?_, by omega⟩
    · have := Int.mul_le_mul hx ih.1 (by decide) (by omega)
      simpa using this
    · rw [e2, Int.pow_add]
      exact Int.mul_le_mul t ih.2.1 (by omega) (by omega)
def sizes (Q : List Pt) : List Int := (Q.zip Q.tail).map fun q => q.2.1 - q.1.1 + (q.2.2 - q.1.2)
theorem sizes_sum {Q : List Pt} (K : Crv Q) : (sizes Q).sum = rk (gt Q (Q.length - 1)) := by
  have lo := K.lo
  have go : ∀ j : Nat, j < Q.length → (((Q.zip Q.tail).take j).map fun q => q.2.1 - q.1.1 + (q.2.2 - q.1.2)).sum = rk (gt Q j) := by
    intro j
    induction j with
    | zero => intro _; rw [K.gt0]; rfl
    | succ j ih =>
      intro hj
      rw [pw_zip_take hj, sum_snoc, ih (by omega)]
      unfold rk
      dsimp only
      omega
  have g := go (Q.length - 1) (by omega)
  rw [List.take_of_length_le (by rw [List.length_zip, List.length_tail]; omega)] at g
  exact g
theorem sizes_pos {Q : List Pt} (K : Crv Q) : ∀ x ∈ sizes Q, 1 ≤ x := fun x hx => by
  obtain ⟨⟨a, b⟩, m, rfl⟩ := List.mem_map.mp hx
  obtain ⟨i, hi, rfl, rfl⟩ := zip_gt m
  have := lt2_size (pw_gt K.pw (i := i) (j := i + 1) (by omega) hi)
  dsimp only
  omega
theorem prod_le {Q : List Pt} (K : Crv Q) (h : rk (gt Q (Q.length - 1)) ≤ 12) : 1 ≤ prodI (sizes Q) ∧ prodI (sizes Q) ≤ 2048 := by
  have b := prodI_bd (sizes_pos K)
  refine ⟨b.1, Int.le_trans b.2.1 ?_⟩
  rw [sizes_sum K]
  have lo := K.lo
  have ln : (sizes Q).length = Q.length - 1 := by unfold sizes; rw [List.length_map, List.length_zip, List.length_tail]; omega
  have : (rk (gt Q (Q.length - 1)) - ((sizes Q).length : Int)).toNat ≤ 11 := by omega
  have p : (2 : Int) ^ (rk (gt Q (Q.length - 1)) - ((sizes Q).length : Int)).toNat ≤ 2 ^ 11 := by
    have := Nat.pow_le_pow_right (n := 2) (by decide) this
    exact_mod_cast this
  omega
theorem qf_isZ {t b m : Int} (hb : 0 < b) (h : ∃ c, m = b * c) : isZ (qf t b * (m : Rat)) := by
  obtain ⟨c, rfl⟩ := h
  refine ⟨t * c, ?_⟩
  have n := cast_ne (w := b) (by omega)
  unfold qf
  rw [Rat.intCast_mul, Rat.intCast_mul]
  generalize (b : Rat) = x at *
  grind
theorem share_isZ {l : List (Int × Bool)} {Q : List Pt} (K : Crv Q) (x : Int) : isZ (shareM l Q x * ((prodI (sizes Q) : Int) : Rat)) := by
  unfold shareM
  split
  · rename_i q e
    have m := List.mem_of_find?_eq_some e
    obtain ⟨a, b⟩ := q
    obtain ⟨i, hi, rfl, rfl⟩ := zip_gt m
    have n := lt2_size (pw_gt K.pw (i := i) (j := i + 1) (by omega) hi)
    unfold shQ'
    exact qf_isZ n.1 (prodI_mem (List.mem_map.mpr ⟨_, m, rfl⟩))
  · exact ⟨0, by have z : ((0 : Int) : Rat) = 0 := rfl; rw [z]; grind⟩
theorem gap_isZ {l : List (Int × Bool)} {Q : List Pt} (K : Crv Q) (y : Int × Bool) : isZ (gapM l Q y * ((prodI (sizes Q) * prodI (sizes Q) : Int) : Rat)) := by
  unfold gapM
  have a := (share_isZ (l := l) K y.1).add ((isZ.int (if y.2 = true then -1 else 0)).mul (isZ.int (prodI (sizes Q))))
  have b := a.mul a
  rw [Rat.intCast_mul]
  generalize ((prodI (sizes Q) : Int) : Rat) = m at *
  generalize shareM l Q y.1 = s at *
  generalize (((if y.2 = true then -1 else 0) : Int) : Rat) = k at *
  have e : (s + k) * (s + k) * (m * m) = (s * m + k * m) * (s * m + k * m) := by grind
  rw [e]
  exact b
theorem sum_isZ {α : Type} {f : α → Rat} {m : Rat} : ∀ {l : List α}, (∀ y ∈ l, isZ (f y * m)) → isZ (sumR f l * m)
  | [], _ => ⟨0, by show (0 : Rat) * m = ((0 : Int) : Rat); have z : ((0 : Int) : Rat) = 0 := rfl; rw [z]; grind⟩
  | y :: l, h => by
    have a := h y (by simp)
    have b := sum_isZ (l := l) fun z hz => h z (by simp [hz])
    have e : sumR f (y :: l) * m = f y * m + sumR f l * m := by show (f y + sumR f l) * m = _; grind
    rw [e]
    exact a.add b
end DL
namespace DL
open PySem L2
section
variable {S : Type} {fa fb fc fd : FE S} {ρ : Env} {s s1 s2 s3 s4 : S} {x y z w : D}
theorem r_lst3 (a : fa ρ s = .ok (.d x) s1) (a2 : fb ρ s1 = .ok (.d y) s2) (a3 : fc ρ s2 = .ok (.d z) s3) : eLst (aCons fa (aCons fb (aCons fc aNil))) ρ s = .ok (.d (.list [x, y, z])) s3 := ev_lst (ev_cons a (ev_cons a2 (ev_cons a3 rfl))) rfl (by show 3 ≤ lim; decide)
theorem r_lst4 (a : fa ρ s = .ok (.d x) s1) (a2 : fb ρ s1 = .ok (.d y) s2) (a3 : fc ρ s2 = .ok (.d z) s3) (a4 : fd ρ s3 = .ok (.d w) s4) : eLst (aCons fa (aCons fb (aCons fc (aCons fd aNil)))) ρ s = .ok (.d (.list [x, y, z, w])) s4 := ev_lst (ev_cons a (ev_cons a2 (ev_cons a3 (ev_cons a4 rfl)))) rfl (by show 4 ≤ lim; decide)
end
theorem o_pl0 (p : Int × Int × Int × Int) : ixD (ePL p) (.int 0) = some (.int p.1) := rfl
theorem o_pl1 (p : Int × Int × Int × Int) : ixD (ePL p) (.int 1) = some (.int p.2.1) := rfl
theorem o_pl2 (p : Int × Int × Int × Int) : ixD (ePL p) (.int 2) = some (.int p.2.2.1) := rfl
theorem o_pl3 (p : Int × Int × Int × Int) : ixD (ePL p) (.int 3) = some (.int p.2.2.2) := rfl
theorem o_pt4_0 (p : Int × Int × Int × Int) : ixD (ePTu p) (.int 0) = some (.int p.1) := rfl
theorem o_pt4_1 (p : Int × Int × Int × Int) : ixD (ePTu p) (.int 1) = some (.int p.2.1) := rfl
theorem o_pt4_2 (p : Int × Int × Int × Int) : ixD (ePTu p) (.int 2) = some (.int p.2.2.1) := rfl
theorem o_pt4_3 (p : Int × Int × Int × Int) : ixD (ePTu p) (.int 3) = some (.int p.2.2.2) := rfl
/-- a pool of at most a dozen things -/
def Bp (p : Int × Int × Int × Int) : Prop := (0 ≤ p.2.2.1 ∧ p.2.2.1 ≤ 12) ∧ 0 ≤ p.2.2.2 ∧ p.2.2.2 ≤ 12
theorem pl_bp {l : List (Int × Bool)} {a b : Pt} (ha : B12 a) (hb : B12 b) (h : le2 a b) : Bp (plOf l (a, b)) := by
  unfold B12 at ha hb
  unfold le2 at h
  unfold Bp plOf
  dsimp only
  omega
theorem eqE_PTu : EqE ePTu := fun a b => by
  obtain ⟨a1, a2, a3, a4⟩ := a
  obtain ⟨b1, b2, b3, b4⟩ := b
  by_cases h1 : a1 = b1 <;> by_cases h2 : a2 = b2 <;> by_cases h3 : a3 = b3 <;> by_cases h4 : a4 = b4 <;> simp [ePTu, PyData.eqv, PyData.eqvAll, h1, h2, h3, h4]
theorem dep_PTu (p : Int × Int × Int × Int) : (ePTu p).depth ≤ 1 := by simp [ePTu, PyData.depth, PyData.depthAll]
def ePTus (L : List (Int × Int × Int × Int)) : D := .list (L.map ePTu)
theorem ne_PTus (a b : List (Int × Int × Int × Int)) : neD (ePTus a) (ePTus b) = some (.bool (!decide (a = b))) := neD_of (enc := ePTus) (eqE_list eqE_PTu) (dep_list dep_PTu) (by decide) a b
theorem ne_self_PTus (a : List (Int × Int × Int × Int)) : neD (ePTus a) (ePTus a) = some (.bool false) := by rw [ne_PTus, decide_eq_true rfl]; rfl
def eQs (L : List Rat) : D := .list (L.map eQ)
theorem eq_self_Qs (a : List Rat) : eqD (eQs a) (eQs a) = some (.bool true) := by
  have := eqD_of (enc := eQs) (eqE_list eqE_Q) (dep_list dep_Q) (by decide) a a
  rw [this, decide_eq_true rfl]
theorem ne_self_Qs (a : List Rat) : neD (eQs a) (eQs a) = some (.bool false) := by
  have := neD_of (enc := eQs) (eqE_list eqE_Q) (dep_list dep_Q) (by decide) a a
  rw [this, decide_eq_true rfl]; rfl
theorem cutL_m2 {α : Type} {x y : α} {r : List α} : cutL (r ++ [x, y]) none (some (-2)) = r := by
  unfold cutL
  rw [HT.sIx_none]
  have : HT.sIx (r ++ [x, y]).length (r ++ [x, y]).length (some (-2)) = r.length := by
    show (if (-2 : Int) < 0 then (-2 + ((r ++ [x, y]).length : Int)).toNat else min (-2 : Int).toNat (r ++ [x, y]).length) = _
    rw [if_pos (by decide), List.length_append]
    simp
    omega
  rw [this]
  simp
theorem pw_stack {P : List Pt} (K : Crv P) {i : Nat} (hi : i < P.length) : (P.take (i + 1)).Pairwise lt2 := List.Pairwise.sublist (List.take_sublist _ _) K.pw
theorem take_snoc {P : List Pt} {i : Nat} (hi : i < P.length) : P.take (i + 1) = P.take i ++ [gt P i] := by
  rw [List.take_add_one, gt_of hi]
  rfl
theorem stack_snoc (P : List Pt) (c : Pt) : stackM (P ++ [c]) = c :: popM (stackM P) c := by unfold stackM; rw [List.foldl_append]; rfl
end DL

namespace DL
open PySem L2
/-! ### things led to their pools -/
def losM (l : List (Int × Bool)) (C : List Pt) : List Int := (plM l C).map (·.1)
def tbAt (L : List Int) (s : Nat) : Int := ((L.filter fun k => decide (k ≤ (s : Int))).max?).getD 0
def tbM (L : List Int) : List Int := (List.range 100).map (tbAt L)
theorem tbM_get {L : List Int} {s : Nat} (h : s < 100) : (tbM L).getD s 0 = tbAt L s := by
  unfold tbM
  rw [List.getD_eq_getElem?_getD, List.getElem?_map, List.getElem?_range h]
  rfl
theorem tbAt_spec (L : List Int) (s : Nat) : (tbAt L s = 0 ∧ ∀ k ∈ L, ¬ k ≤ s) ∨ (tbAt L s ∈ L ∧ tbAt L s ≤ s ∧ ∀ k ∈ L, k ≤ s → k ≤ tbAt L s) := by
  unfold tbAt
  cases e : (L.filter fun k => decide (k ≤ (s : Int))).max? with
  | none =>
    rw [List.max?_eq_none_iff, List.filter_eq_nil_iff] at e
    exact .inl ⟨rfl, fun k hk => by simpa using e k hk⟩
  | some m =>
    obtain ⟨h1, h2⟩ := List.max?_eq_some_iff.mp e
    obtain ⟨m1, m2⟩ := List.mem_filter.mp h1
    exact .inr ⟨m1, of_decide_eq_true m2, fun k hk q => h2 k (List.mem_filter.mpr ⟨hk, decide_eq_true q⟩)⟩
section
variable {l : List (Int × Bool)}
theorem lo_facts (h : Val l) {b : Pt} (hb : b ∈ pts l) (hn : b ≠ (0, 0)) : loOf l b ∈ scs l ∧ cnt l (loOf l b) = b := by
  have pl := pts_len (l := l)
  obtain ⟨i, hi, rfl⟩ := mem_gt hb
  have i0 : i ≠ 0 := fun e => hn (by rw [e]; exact (pts_crv h).gt0)
  obtain ⟨j, rfl⟩ : ∃ j, i = j + 1 := ⟨i - 1, by omega⟩
  rw [lo_at h (by omega)]
  exact ⟨List.mem_of_getElem? (sc_get (by omega)), (pts_sc (by omega)).symm⟩
theorem sc_range (h : Val l) {k : Int} (hk : k ∈ scs l) : 0 ≤ k ∧ k ≤ 99 := by
  obtain ⟨x, hx, e⟩ := List.mem_map.mp (scs_mem.mp hk)
  have := h.sc x hx
  omega
theorem lo_corner (h : Val l) {i : Nat} (hi : i + 1 < (cornM (pts l)).length) : loOf l (gt (cornM (pts l)) (i + 1)) ∈ scs l ∧ cnt l (loOf l (gt (cornM (pts l)) (i + 1))) = gt (cornM (pts l)) (i + 1) := by
  have H := pts_hull h
  refine lo_facts h (H.sub _ (gt_mem hi)) fun e => ?_
  have := pw_gt H.pw (i := 0) (j := i + 1) (by omega) hi
  rw [H.gt0 (pts_crv h), e] at this
  unfold lt2 at this
  simp at this
theorem los_mem {k : Int} : k ∈ losM l (cornM (pts l)) ↔ ∃ i, i + 1 < (cornM (pts l)).length ∧ k = loOf l (gt (cornM (pts l)) (i + 1)) := by
  unfold losM plM
  rw [List.map_map, List.mem_map]
  constructor
  · rintro ⟨⟨a, b⟩, m, rfl⟩
    obtain ⟨i, hi, rfl, rfl⟩ := zip_gt m
    exact ⟨i, hi, rfl⟩
  · rintro ⟨i, hi, rfl⟩
    exact ⟨_, zip_gt' hi, rfl⟩
theorem los_range (h : Val l) {k : Int} (hk : k ∈ losM l (cornM (pts l))) : 0 ≤ k ∧ k ≤ 99 := by
  obtain ⟨i, hi, rfl⟩ := los_mem.mp hk
  exact sc_range h (lo_corner h hi).1
theorem tb_ok (h : Val l) : Tab (tbM (losM l (cornM (pts l)))) := by
  refine ⟨by unfold tbM; simp, fun x hx => ?_, fun i j hij hj => ?_⟩
  · obtain ⟨s, hs, rfl⟩ := List.mem_map.mp hx
    rcases tbAt_spec (losM l (cornM (pts l))) s with ⟨e, _⟩ | ⟨m, _⟩
    · rw [e]; decide
    · exact los_range h m
  · rw [tbM_get (by omega), tbM_get hj]
    rcases tbAt_spec (losM l (cornM (pts l))) i with ⟨e, _⟩ | ⟨m, m2, _⟩
    · rw [e]
      rcases tbAt_spec (losM l (cornM (pts l))) j with ⟨e, _⟩ | ⟨m, _⟩
      · rw [e]; decide
      · exact (los_range h m).1
    · rcases tbAt_spec (losM l (cornM (pts l))) j with ⟨_, e⟩ | ⟨_, _, q⟩
      · exact absurd (show tbAt (losM l (cornM (pts l))) i ≤ j by omega) (e _ m)
      · exact q _ m (by omega)
/-- where a threshold is the least score of a pool the numbers are those at its corner -/
theorem led_lo (h : Val l) {k : Int} (hk : k ∈ losM l (cornM (pts l))) : cnt (ledL (tbM (losM l (cornM (pts l)))) l) k = cnt l k := by
  have e : ∀ y ∈ l, decide (k ≤ (tbM (losM l (cornM (pts l)))).getD y.1.toNat 0) = decide (k ≤ y.1) := fun y hy => by
    have b := h.sc y hy
    rw [tbM_get (by omega), decide_eq_decide]
    rcases tbAt_spec (losM l (cornM (pts l))) y.1.toNat with ⟨z, q⟩ | ⟨m, m2, q⟩
    · have := q k hk
      have := los_range h hk
      omega
    · constructor
      · intro z; omega
      · intro z; exact q k hk (by omega)
  unfold ledL
  rw [cnt_cn, cnt_cn, cn_map, cn_map]
  refine Prod.ext (cn_congr fun y hy => ?_) (cn_congr fun y hy => ?_)
  · dsimp only; rw [e y hy]
  · dsimp only; rw [e y hy]
theorem led_curve (h : Val l) : pts (ledL (tbM (losM l (cornM (pts l)))) l) = cornM (pts l) := by
  have H := pts_hull h
  have K := pts_crv h
  have KC := H.crv K
  have T := tb_ok h
  have VL := led_val T h
  have gl : gt (cornM (pts l)) ((cornM (pts l)).length - 1) = cnt l 0 := by rw [H.gtl K]; exact gt_last (pts_last h)
  have lo := KC.lo
  have c0 : gt (cornM (pts l)) 0 = (0, 0) := KC.gt0
  refine pts_eq VL (KC.pw.imp fun h => by unfold lt2 at h; omega) fun p => ?_
  constructor
  · intro hp
    obtain ⟨i, hi, rfl⟩ := mem_gt hp
    by_cases i0 : i = 0
    · subst i0
      exact ⟨100, by decide, by decide, by rw [cnt_top VL (Int.le_refl _), c0]⟩
    · obtain ⟨j, rfl⟩ : ∃ j, i = j + 1 := ⟨i - 1, by omega⟩
      have f := lo_corner h hi
      have m : loOf l (gt (cornM (pts l)) (j + 1)) ∈ losM l (cornM (pts l)) := los_mem.mpr ⟨j, hi, rfl⟩
      have r := los_range h m
      exact ⟨_, r.1, by omega, by rw [led_lo h m, f.2]⟩
  · rintro ⟨t, t0, t1, rfl⟩
    by_cases tz : t ≤ 0
    · have : t = 0 := by omega
      subst this
      have e : cnt (ledL (tbM (losM l (cornM (pts l)))) l) 0 = cnt l 0 := by
        refine cnt_marks (fun x hx => (VL.sc x hx).1) (fun x hx => (h.sc x hx).1) ?_
        unfold ledL
        rw [List.map_map]
        rfl
      rw [e, ← gl]
      exact gt_mem (by omega)
    · cases q : ((losM l (cornM (pts l))).filter fun k => decide (t ≤ k)).min? with
      | none =>
        rw [List.min?_eq_none_iff, List.filter_eq_nil_iff] at q
        have e : cnt (ledL (tbM (losM l (cornM (pts l)))) l) t = cnt (ledL (tbM (losM l (cornM (pts l)))) l) 100 := cnt_gap fun x hx => by
          obtain ⟨y, hy, rfl⟩ := List.mem_map.mp hx
          have b := h.sc y hy
          dsimp only
          rw [tbM_get (by omega)]
          have lt : tbAt (losM l (cornM (pts l))) y.1.toNat < t := by
            rcases tbAt_spec (losM l (cornM (pts l))) y.1.toNat with ⟨z, _⟩ | ⟨m, _, _⟩
            · omega
            · have := q _ m
              simpa using this
          omega
        rw [e, cnt_top VL (Int.le_refl _), ← c0]
        exact gt_mem (by omega)
      | some u =>
        obtain ⟨u1, u2⟩ := List.min?_eq_some_iff.mp q
        obtain ⟨u3, u4⟩ := List.mem_filter.mp u1
        have u4 := of_decide_eq_true u4
        have e : cnt (ledL (tbM (losM l (cornM (pts l)))) l) t = cnt (ledL (tbM (losM l (cornM (pts l)))) l) u := cnt_gap fun x hx => by
          obtain ⟨y, hy, rfl⟩ := List.mem_map.mp hx
          have b := h.sc y hy
          dsimp only
          rw [tbM_get (by omega)]
          rcases tbAt_spec (losM l (cornM (pts l))) y.1.toNat with ⟨z, _⟩ | ⟨m, _, _⟩
          · omega
          · constructor
            · intro z; exact u2 _ (List.mem_filter.mpr ⟨m, decide_eq_true z⟩)
            · intro z; omega
        obtain ⟨i, hi, rfl⟩ := los_mem.mp u3
        rw [e, led_lo h u3, (lo_corner h hi).2]
        exact gt_mem hi
/-- the share of a thing stays -/
theorem led_share (h : Val l) {y : Int × Bool} (hy : y ∈ l) : shareM (ledL (tbM (losM l (cornM (pts l)))) l) (cornM (pts l)) ((tbM (losM l (cornM (pts l)))).getD y.1.toNat 0) = shareM l (cornM (pts l)) y.1 := by
  have H := pts_hull h
  have K := pts_crv h
  have KC := H.crv K
  have gl : gt (cornM (pts l)) ((cornM (pts l)).length - 1) = cnt l 0 := by rw [H.gtl K]; exact gt_last (pts_last h)
  obtain ⟨i, hi, q⟩ := pool_some h KC gl hy
  have b := h.sc y hy
  have ha := H.sub _ (gt_mem (C := cornM (pts l)) (i := i) (by omega))
  have hb := H.sub _ (gt_mem (C := cornM (pts l)) (i := i + 1) hi)
  have q' := q
  unfold inPl at q'
  rw [Bool.and_eq_true, decide_eq_true_iff, decide_eq_true_iff] at q'
  have ip := (in_pool h (x := y.1) (scs_mem.mpr (List.mem_map.mpr ⟨y, hy, rfl⟩)) ha hb (H.up i hi)).mpr q'
  have m : loOf l (gt (cornM (pts l)) (i + 1)) ∈ losM l (cornM (pts l)) := los_mem.mpr ⟨i, hi, rfl⟩
  have tb : (tbM (losM l (cornM (pts l)))).getD y.1.toNat 0 = loOf l (gt (cornM (pts l)) (i + 1)) := by
    rw [tbM_get (by omega)]
    rcases tbAt_spec (losM l (cornM (pts l))) y.1.toNat with ⟨_, z⟩ | ⟨m1, m2, m3⟩
    · exact absurd (show loOf l (gt (cornM (pts l)) (i + 1)) ≤ (y.1.toNat : Nat) by omega) (z _ m)
    · have g := m3 _ m (by omega)
      obtain ⟨j, hj, e⟩ := los_mem.mp m1
      have cj := lo_corner h hj
      have ci := lo_corner h hi
      by_cases c : tbAt (losM l (cornM (pts l))) y.1.toNat = loOf l (gt (cornM (pts l)) (i + 1))
      · exact c
      · exfalso
        -- a greater least score lies on an earlier corner, above the score
        rw [e] at c g m2
        have r1 := cnt_le l (t := loOf l (gt (cornM (pts l)) (j + 1))) (u := loOf l (gt (cornM (pts l)) (i + 1))) g
        rw [cj.2, ci.2] at r1
        have ji : j < i := by
          by_cases z : j < i
          · exact z
          · by_cases z2 : j = i
            · rw [z2] at c; exact absurd rfl c
            · have := pw_gt H.pw (i := i + 1) (j := j + 1) (by omega) hj
              unfold lt2 at this
              omega
        have le := pw_le H.pw (i := j + 1) (j := i) (by omega) (by omega)
        have r2 := cnt_le l (t := y.1) (u := loOf l (gt (cornM (pts l)) (j + 1))) (by omega)
        rw [cj.2] at r2
        unfold le2 at le
        have q1 := q'.1
        dsimp only at q1
        unfold rk at q1
        omega
  have f := lo_corner h hi
  unfold shareM
  rw [poolAt_at H.pw hi q, tb]
  have q2 : inPl (ledL (tbM (losM l (cornM (pts l)))) l) (loOf l (gt (cornM (pts l)) (i + 1))) (gt (cornM (pts l)) i, gt (cornM (pts l)) (i + 1)) = true := by
    unfold inPl
    rw [led_lo h m, f.2, Bool.and_eq_true, decide_eq_true_iff, decide_eq_true_iff]
    have u := H.up i hi
    unfold lt2 at u
    unfold rk
    dsimp only
    omega
  rw [poolAt_at H.pw hi q2]
/-- the least cost of the hull's corners is that of all points -/
theorem led_cost (h : Val l) {a b : Int} (ha : 0 ≤ a) (hb : 0 ≤ b) {m : Int} (hm : minCost l a b = some m) : minCost (ledL (tbM (losM l (cornM (pts l)))) l) a b = some m := by
  have T := tb_ok h
  have VL := led_val T h
  have H := pts_hull h
  have e : cnt (ledL (tbM (losM l (cornM (pts l)))) l) 0 = cnt l 0 := by
    refine cnt_marks (fun x hx => (VL.sc x hx).1) (fun x hx => (h.sc x hx).1) ?_
    unfold ledL
    rw [List.map_map]
    rfl
  rw [minCost_pts VL, led_curve h, e]
  obtain ⟨c, c1, c2, c3⟩ := corner_best h ha hb hm
  have mp := (minP h hm).2
  refine List.min?_eq_some_iff.mpr ⟨List.mem_map.mpr ⟨c, c1, c3⟩, fun z hz => ?_⟩
  obtain ⟨p, hp, rfl⟩ := List.mem_map.mp hz
  exact mp p (H.sub p hp)
/-- where as many corners as points are there, all are -/
theorem hull_all (h : Val l) (e : (cornM (pts l)).length = (pts l).length) : cornM (pts l) = pts l := by
  have H := pts_hull h
  have f : (pts l).filter (fun p => decide (p ∈ cornM (pts l))) = cornM (pts l) := by
    refine order_eq (R := lt2) (fun a b h k => by unfold lt2 at h k; omega) ((pts_lt2 h).filter _) H.pw fun p => ?_
    rw [List.mem_filter, decide_eq_true_iff]
    exact ⟨fun z => z.2, fun z => ⟨H.sub p z, z⟩⟩
  have all : ∀ p ∈ pts l, decide (p ∈ cornM (pts l)) = true := by
    rw [← f] at e
    exact List.length_filter_eq_length_iff.mp e
  rw [List.filter_eq_self.mpr all] at f
  exact f.symm
end
end DL

namespace DL
open PySem L2
/-! ### things with their places; wrong pairs -/
def gT (l : List (Int × Bool)) (k : Nat) : Int × Bool := l.getD k (0, false)
def en (l : List (Int × Bool)) : List (Nat × (Int × Bool)) := (List.range l.length).map fun k => (k, gT l k)
theorem gT_of {l : List (Int × Bool)} {k : Nat} (h : k < l.length) : l[k]? = some (gT l k) := by
  unfold gT
  rw [List.getD_eq_getElem?_getD, List.getElem?_eq_getElem h]
  rfl
theorem en_snd (l : List (Int × Bool)) : (en l).map (·.2) = l := by
  unfold en
  rw [List.map_map]
  apply List.ext_getElem?
  intro k
  rw [List.getElem?_map]
  by_cases h : k < l.length
  · rw [List.getElem?_range h, gT_of h]; rfl
  · rw [List.getElem?_eq_none (by simpa using h), List.getElem?_eq_none (by simpa using h)]; rfl
theorem en_fst (l : List (Int × Bool)) : (en l).map (fun e => PyData.int (e.1 : Nat)) = (List.range l.length).map fun k : Nat => PyData.int (k : Nat) := by
  unfold en
  rw [List.map_map]
  rfl
theorem en_mem {l : List (Int × Bool)} {e : Nat × (Int × Bool)} (h : e ∈ en l) : e.1 < l.length ∧ e.2 = gT l e.1 := by
  obtain ⟨k, hk, rfl⟩ := List.mem_map.mp h
  exact ⟨List.mem_range.mp hk, rfl⟩
theorem en_len (l : List (Int × Bool)) : (en l).length = l.length := by simp [en]
theorem o_ixT {l : List (Int × Bool)} {e : Nat × (Int × Bool)} (h : e ∈ en l) : ixD (eThs l) (.int (e.1 : Nat)) = some (eTh e.2) := by
  obtain ⟨h1, h2⟩ := en_mem h
  show atI (l.map eTh) ((e.1 : Nat) : Int) = _
  rw [atI_nat (by simpa using h1), List.getElem?_map, gT_of h1, h2]
  rfl
theorem en_enum (l : List (Int × Bool)) : enumL (l.map eTh) = (en l).map fun e => PyData.tuple [.int (e.1 : Nat), eTh e.2] := by
  unfold enumL en
  rw [List.map_map]
  apply List.ext_getElem?
  intro k
  rw [List.getElem?_map, List.getElem?_map, List.getElem?_zipIdx, List.getElem?_map]
  by_cases h : k < l.length
  · rw [List.getElem?_range h, gT_of h]
    simp
  · rw [List.getElem?_eq_none (by simpa using h), List.getElem?_eq_none (by simpa using h)]; rfl
def wc (x y : Int × Bool) : Bool := x.2 && !y.2 && decide (x.1 ≤ y.1)
abbrev WS := (Int × Int × Int) × List Pt
def stepW (e : Nat × (Int × Bool)) (z : WS) (d : Nat × (Int × Bool)) : WS := (stepP e.2 z.1 d.2, if wc e.2 d.2 = true then z.2 ++ [(((e.1 : Nat) : Int), ((d.1 : Nat) : Int))] else z.2)
def outW (l : List (Int × Bool)) (z : WS) (e : Nat × (Int × Bool)) : WS := (en l).foldl (stepW e) z
def w0 : WS := ((0, 0, 0), [])
def allW (l : List (Int × Bool)) : WS := (en l).foldl (outW l) w0
def wl (l : List (Int × Bool)) : List Pt := (allW l).2
theorem stepW_1 (e : Nat × (Int × Bool)) : ∀ (xs : List (Nat × (Int × Bool))) (z : WS), (xs.foldl (stepW e) z).1 = (xs.map (·.2)).foldl (stepP e.2) z.1
  | [], z => rfl
  | d :: r, z => by rw [List.foldl_cons, stepW_1 e r, List.map_cons, List.foldl_cons]; rfl
theorem stepW_2 (e : Nat × (Int × Bool)) : ∀ (xs : List (Nat × (Int × Bool))) (z : WS), (xs.foldl (stepW e) z).2 = z.2 ++ (xs.filter fun d => wc e.2 d.2).map fun d => (((e.1 : Nat) : Int), ((d.1 : Nat) : Int))
  | [], z => by simp
  | d :: r, z => by
    rw [List.foldl_cons, stepW_2 e r, List.filter_cons]
    unfold stepW
    by_cases h : wc e.2 d.2 = true
    · rw [if_pos h, if_pos h]; simp
    · rw [if_neg h, if_neg h]
theorem outW_1 (l : List (Int × Bool)) : ∀ (xs : List (Nat × (Int × Bool))) (z : WS), (xs.foldl (outW l) z).1 = (xs.map (·.2)).foldl (fun z x => l.foldl (stepP x) z) z.1
  | [], z => rfl
  | d :: r, z => by
    rw [List.foldl_cons, outW_1 l r, List.map_cons, List.foldl_cons]
    unfold outW
    rw [stepW_1, en_snd]
theorem outW_2 (l : List (Int × Bool)) : ∀ (xs : List (Nat × (Int × Bool))) (z : WS), (xs.foldl (outW l) z).2 = z.2 ++ xs.flatMap fun e => ((en l).filter fun d => wc e.2 d.2).map fun d => (((e.1 : Nat) : Int), ((d.1 : Nat) : Int))
  | [], z => by simp
  | d :: r, z => by
    rw [List.foldl_cons, outW_2 l r, List.flatMap_cons]
    unfold outW
    rw [stepW_2, List.append_assoc]
theorem allW_1 (l : List (Int × Bool)) : (allW l).1 = pairs l := by
  unfold allW
  rw [outW_1, en_snd, pairs_fold]
  show (0 + pr rW l l, 0 + pr rT l l, 0 + pr rL l l) = pairs l
  rw [Int.zero_add, Int.zero_add, Int.zero_add]
  rfl
theorem wl_eq (l : List (Int × Bool)) : wl l = (en l).flatMap fun e => ((en l).filter fun d => wc e.2 d.2).map fun d => (((e.1 : Nat) : Int), ((d.1 : Nat) : Int)) := by
  unfold wl allW
  rw [outW_2]
  exact List.nil_append _
theorem en_up (l : List (Int × Bool)) : (en l).Pairwise fun a b => a.1 < b.1 := by
  unfold en
  rw [List.pairwise_map]
  exact List.pairwise_lt_range
theorem wl_up (l : List (Int × Bool)) : (wl l).Pairwise fun a b => a.1 < b.1 ∨ (a.1 = b.1 ∧ a.2 < b.2) := by
  rw [wl_eq, List.pairwise_flatMap]
  refine ⟨fun e _ => ?_, ?_⟩
  · rw [List.pairwise_map]
    exact ((en_up l).filter _).imp fun h => .inr ⟨rfl, by simpa using h⟩
  · refine (en_up l).imp fun {a b} h x hx y hy => .inl ?_
    obtain ⟨_, _, rfl⟩ := List.mem_map.mp hx
    obtain ⟨_, _, rfl⟩ := List.mem_map.mp hy
    simpa using h
/-- as many as tied and lost together -/
theorem stepP_wc (x : Int × Bool) (z : Int × Int × Int) (y : Int × Bool) : (stepP x z y).2.1 + (stepP x z y).2.2 = z.2.1 + z.2.2 + (if wc x y = true then 1 else 0) := by
  unfold stepP wc
  by_cases h : (x.2 && !y.2) = true
  · rw [if_pos h, h, Bool.true_and]
    dsimp only
    by_cases a : x.1 = y.1
    · rw [if_pos a, if_neg (by omega), decide_eq_true (by omega), if_pos rfl]; omega
    · by_cases b : x.1 < y.1
      · rw [if_neg a, if_pos b, decide_eq_true (by omega), if_pos rfl]; omega
      · rw [if_neg a, if_neg b, decide_eq_false (by omega), if_neg Bool.false_ne_true]; omega
  · have h' : (x.2 && !y.2) = false := by simpa using h
    rw [if_neg h, h', Bool.false_and, if_neg Bool.false_ne_true, Int.add_zero]
theorem stepW_len (e : Nat × (Int × Bool)) : ∀ (xs : List (Nat × (Int × Bool))) (z : WS), ((z.2.length : Nat) : Int) = z.1.2.1 + z.1.2.2 → (((xs.foldl (stepW e) z).2.length : Nat) : Int) = (xs.foldl (stepW e) z).1.2.1 + (xs.foldl (stepW e) z).1.2.2
  | [], z, h => h
  | d :: r, z, h => by
    rw [List.foldl_cons]
    refine stepW_len e r _ ?_
    have a := stepP_wc e.2 z.1 d.2
    unfold stepW
    dsimp only
    rw [a]
    by_cases c : wc e.2 d.2 = true
    · rw [if_pos c, if_pos c, List.length_append, List.length_singleton]; omega
    · rw [if_neg c, if_neg c]; omega
theorem outW_len (l : List (Int × Bool)) : ∀ (xs : List (Nat × (Int × Bool))) (z : WS), ((z.2.length : Nat) : Int) = z.1.2.1 + z.1.2.2 → (((xs.foldl (outW l) z).2.length : Nat) : Int) = (xs.foldl (outW l) z).1.2.1 + (xs.foldl (outW l) z).1.2.2
  | [], z, h => h
  | d :: r, z, h => by
    rw [List.foldl_cons]
    exact outW_len l r _ (stepW_len d (en l) z h)
theorem wl_len (l : List (Int × Bool)) : (((wl l).length : Nat) : Int) = (pairs l).2.1 + (pairs l).2.2 := by
  have h := outW_len l (en l) w0 rfl
  have e := allW_1 l
  unfold allW at e
  rw [e] at h
  exact h
theorem pairs_nn (l : List (Int × Bool)) : 0 ≤ (pairs l).1 ∧ 0 ≤ (pairs l).2.1 ∧ 0 ≤ (pairs l).2.2 := by
  have nn : ∀ (r : Int → Int → Bool) (m k : List (Int × Bool)), 0 ≤ pr r m k := by
    intro r m
    induction m with
    | nil => intro k; exact Int.le_refl _
    | cons x m ih => intro k; rw [pr]; have := ih k; have : 0 ≤ pr1 r x k := cn_nonneg; omega
  exact ⟨nn _ _ _, nn _ _ _, nn _ _ _⟩
theorem wl_nil (l : List (Int × Bool)) : wl l = [] ↔ (pairs l).2.1 = 0 ∧ (pairs l).2.2 = 0 := by
  have h := wl_len l
  have p := pairs_nn l
  rw [← List.length_eq_zero_iff]
  omega
/-- all pairs -/
theorem pr_three : ∀ (l m : List (Int × Bool)), pr rW l m + pr rT l m + pr rL l m = cn (fun x => x.2) l * cn (fun y => !y.2) m
  | [], m => by simp [pr, cn_nil]
  | x :: l, m => by
    have ih := pr_three l m
    rw [pr, pr, pr, cn_cons]
    have one : ∀ k : List (Int × Bool), pr1 rW x k + pr1 rT x k + pr1 rL x k = (if x.2 = true then 1 else 0) * cn (fun y => !y.2) k := by
      intro k
      induction k with
      | nil => simp [pr1, cn_nil]
      | cons y k ih =>
        unfold pr1 at ih ⊢
        rw [cn_cons, cn_cons, cn_cons, cn_cons]
        unfold rW rT rL at ih ⊢
        cases hx : x.2 <;> cases hy : y.2 <;> simp [hx] at ih ⊢
        · omega
        · omega
        · rcases Int.lt_trichotomy x.1 y.1 with a | a | a
          · rw [if_neg (by omega), if_neg (by omega), if_pos a]; omega
          · rw [if_neg (by omega), if_pos a, if_neg (by omega)]; omega
          · rw [if_pos a, if_neg (by omega), if_neg (by omega)]; omega
        · exact ih
    have := one m
    rw [Int.add_mul]
    omega
theorem pairs_all {l : List (Int × Bool)} (h : Val l) : (pairs l).1 + (pairs l).2.1 + (pairs l).2.2 = (cnt l 0).1 * (cnt l 0).2 := by
  have e := pr_three l l
  rw [cnt_cn]
  have a : cn (fun x : Int × Bool => decide (0 ≤ x.1) && !x.2) l = cn (fun y => !y.2) l := cn_congr fun x hx => by rw [decide_eq_true (h.sc x hx).1, Bool.true_and]
  have b : cn (fun x : Int × Bool => decide (0 ≤ x.1) && x.2) l = cn (fun y => y.2) l := cn_congr fun x hx => by rw [decide_eq_true (h.sc x hx).1, Bool.true_and]
  rw [a, b, Int.mul_comm]
  exact e
theorem sorted_wl (l : List (Int × Bool)) : sortedD [.list ((wl l).map ePt)] = some (.list ((wl l).map ePt)) := by
  have h1 : allAlikeB ((wl l).map ePt) = true := by
    unfold allAlikeB
    simp only [List.all_eq_true, List.mem_map]
    rintro _ ⟨a, _, rfl⟩ _ ⟨b, _, rfl⟩
    simp [ePt, PySem.W.alike, PySem.W.alikeAll]
  have h2 : sortableB ((wl l).map ePt) = true := by
    unfold sortableB
    rw [Bool.or_eq_true]
    left
    simp only [List.all_eq_true, List.mem_map]
    rintro _ ⟨a, _, rfl⟩
    rfl
  have h3 : ∀ d ∈ (wl l).map ePt, d.depth ≤ 60 := fun d hd => by
    obtain ⟨a, _, rfl⟩ := List.mem_map.mp hd
    simp [ePt, PyData.depth, PyData.depthAll]
  show (if allAlikeB ((wl l).map ePt) = true ∧ sortableB ((wl l).map ePt) = true ∧ (∀ d ∈ (wl l).map ePt, d.depth ≤ 60) then some (PyData.list (((wl l).map ePt).mergeSort leD')) else none) = _
  rw [if_pos ⟨h1, h2, h3⟩, List.mergeSort_of_pairwise]
  rw [List.pairwise_map]
  refine (wl_up l).imp fun {a b} h => ?_
  unfold leD'
  show (!PySem.W.dataLt (.tuple [.int b.1, .int b.2]) (.tuple [.int a.1, .int a.2])) = true
  rw [PySem.W.dataLt_ii, decide_eq_false (by omega)]
  rfl
/-- the share of all pairs is 1 -/
theorem low_one {t b : Int} (hb : 0 < b) : lowM t b = (1, 1) ↔ t = b := by
  have e : lowM 1 1 = (1, 1) := by decide
  rw [← e, low_eq_iff hb (by decide)]
  omega
theorem two_val {l : List (Int × Bool)} (h : Val l) : PVal [(0, 0), cnt l 0] ∧ cnt l 0 ≠ (0, 0) := by
  have r := cnt_range h 0
  have ne : cnt l 0 ≠ (0, 0) := fun e => by
    have a : (cnt l 0).1 + (cnt l 0).2 = l.length := by
      rw [cnt_cn]
      show cn _ l + cn _ l = _
      have := cn_split (p := fun _ : Int × Bool => true) (q := fun x => decide (0 ≤ x.1) && !x.2) (r := fun x => decide (0 ≤ x.1) && x.2) (l := l) fun x hx => by
        rw [decide_eq_true (h.sc x hx).1]
        cases x.2 <;> simp
      rw [← this]
      unfold cn
      rw [List.filter_eq_self.mpr fun _ _ => rfl]
    rw [e] at a
    have := h.lo
    simp at a
    omega
  refine ⟨⟨by simp, by simp, rfl, fun x hx => ?_, fun q hq => ?_, fun x hx => ?_⟩, ne⟩
  · simp only [List.mem_cons, List.not_mem_nil, or_false] at hx
    rcases hx with e | e
    · rw [e]; decide
    · rw [e]; omega
  · simp only [List.tail_cons, List.zip_cons_cons, List.zip_nil_right, List.mem_cons, List.not_mem_nil, or_false] at hq
    rw [hq]
    exact ⟨r.1, r.2.1, fun e => ne e.symm⟩
  · have e : cnt l 0 = x := by simpa using hx
    rw [← e]
    exact r.2.2
theorem dbl_two (p : Pt) : dblM [(0, 0), p] = p.1 * p.2 := by
  unfold dblM
  simp
end DL

namespace DL
open PySem L2
/-! ### points that are ever best -/
def btM (p q : Pt) : Bool := !decide (q = p) && (decide (q.1 ≤ p.1) && decide (p.2 ≤ q.2))
def abM (p q r : Pt) : Bool := (decide (q.1 < p.1) && decide (p.1 < r.1)) && decide (0 < trn q p r)
def everM (P : List Pt) (p : Pt) : Bool := P.all fun q => !btM p q && P.all fun r => !abM p q r
theorem everM_iff {P : List Pt} {p : Pt} : everM P p = true ↔ (∀ q ∈ P, btM p q = false) ∧ ∀ q ∈ P, ∀ r ∈ P, abM p q r = false := by
  unfold everM
  simp only [List.all_eq_true, Bool.and_eq_true, Bool.not_eq_true']
  exact ⟨fun h => ⟨fun q hq => (h q hq).1, fun q hq => (h q hq).2⟩, fun h q hq => ⟨h.1 q hq, h.2 q hq⟩⟩
theorem ln_le_iff {q r p : Pt} (w : q.1 < r.1) : lnQ q r (p.1 : Rat) ≤ (p.2 : Rat) ↔ trn q p r ≤ 0 := by
  have wp : (0 : Rat) < (r.1 : Rat) - (q.1 : Rat) := by
    have : ((q.1 : Int) : Rat) < ((r.1 : Int) : Rat) := Rat.intCast_lt_intCast.mpr w
    grind
  have e : (lnQ q r (p.1 : Rat) - (p.2 : Rat)) * ((r.1 : Rat) - (q.1 : Rat)) = ((trn q p r : Int) : Rat) := by
    unfold lnQ trn
    simp only [Rat.intCast_sub, Rat.intCast_mul]
    rw [Rat.div_def]
    have ne : ((r.1 : Rat) - (q.1 : Rat)) ≠ 0 := by grind
    have := Rat.mul_inv_cancel _ ne
    grind
  constructor
  · intro h
    have a : (lnQ q r (p.1 : Rat) - (p.2 : Rat)) * ((r.1 : Rat) - (q.1 : Rat)) ≤ 0 * ((r.1 : Rat) - (q.1 : Rat)) := Rat.mul_le_mul_of_nonneg_right (by grind) (by grind)
    rw [e, Rat.zero_mul] at a
    exact Rat.intCast_le_intCast.mp a
  · intro h
    by_cases k : lnQ q r (p.1 : Rat) ≤ (p.2 : Rat)
    · exact k
    · have k : (p.2 : Rat) ≤ lnQ q r (p.1 : Rat) := by grind
      have a : ((trn q p r : Int) : Rat) ≤ ((0 : Int) : Rat) := Rat.intCast_le_intCast.mpr h
      rw [← e] at a
      have b : 0 * ((r.1 : Rat) - (q.1 : Rat)) ≤ (lnQ q r (p.1 : Rat) - (p.2 : Rat)) * ((r.1 : Rat) - (q.1 : Rat)) := Rat.mul_le_mul_of_nonneg_right (by grind) (by grind)
      rw [Rat.zero_mul] at b
      have c : (lnQ q r (p.1 : Rat) - (p.2 : Rat)) * ((r.1 : Rat) - (q.1 : Rat)) = 0 := by grind
      rcases Rat.mul_eq_zero.mp c with d | d <;> grind
theorem ever_due {P : List Pt} {p : Pt} (hp : p ∈ P) (h0 : 0 ≤ p.2) : everM P p = true ↔ (∀ q ∈ P, btM p q = false) ∧ ltM P (p.1 : Rat) = (p.2 : Rat) := by
  rw [everM_iff]
  have pin : (p.2 : Rat) ≤ ltM P (p.1 : Rat) := by
    rw [ltM_eq]
    exact (topQ_ge _ 0).2 _ (List.mem_append_left _ (List.mem_append_left _ (ptV_mem.mpr ⟨p, hp, rfl, rfl⟩)))
  constructor
  · rintro ⟨h1, h2⟩
    refine ⟨h1, Rat.le_antisymm ?_ pin⟩
    have ch : ∀ q ∈ P, ∀ r ∈ P, stQ (p.1 : Rat) (q, r) = true → lnQ q r (p.1 : Rat) ≤ (p.2 : Rat) := fun q hq r hr hs => by
      have st := stQ_iff.mp hs
      have w1 : q.1 < p.1 := Rat.intCast_lt_intCast.mp st.1
      have w2 : p.1 < r.1 := Rat.intCast_lt_intCast.mp st.2
      refine (ln_le_iff (by omega)).mpr ?_
      have := h2 q hq r hr
      unfold abM at this
      rw [decide_eq_true w1, decide_eq_true w2, Bool.true_and, Bool.true_and, decide_eq_false_iff_not] at this
      omega
    rw [ltM_eq]
    refine topQ_le (Rat.intCast_le_intCast.mpr h0) fun y hy => ?_
    rcases List.mem_append.mp hy with hy | hy
    · rcases List.mem_append.mp hy with hy | hy
      · obtain ⟨q, hq, e1, rfl⟩ := ptV_mem.mp hy
        have e1 : q.1 = p.1 := Rat.intCast_inj.mp e1
        have b := h1 q hq
        refine Rat.intCast_le_intCast.mpr ?_
        unfold btM at b
        by_cases eq : q = p
        · rw [eq]; omega
        · rw [decide_eq_false eq, decide_eq_true (by omega : q.1 ≤ p.1)] at b
          have b : ¬ p.2 ≤ q.2 := by simpa using b
          omega
      · obtain ⟨⟨q, r⟩, hm, rfl⟩ := List.mem_map.mp hy
        obtain ⟨hz, hs⟩ := List.mem_filter.mp hm
        exact ch q (List.of_mem_zip hz).1 r (List.mem_of_mem_tail (List.of_mem_zip hz).2) hs
    · obtain ⟨L, hL, hy⟩ := List.mem_flatten.mp hy
      obtain ⟨q, hq, rfl⟩ := List.mem_map.mp hL
      obtain ⟨r, hm, rfl⟩ := List.mem_map.mp hy
      obtain ⟨hr, hs⟩ := List.mem_filter.mp hm
      exact ch q hq r hr hs
  · rintro ⟨h1, h2⟩
    refine ⟨h1, fun q hq r hr => ?_⟩
    unfold abM
    by_cases w1 : q.1 < p.1
    · by_cases w2 : p.1 < r.1
      · have hs : stQ (p.1 : Rat) (q, r) = true := stQ_iff.mpr ⟨Rat.intCast_lt_intCast.mpr w1, Rat.intCast_lt_intCast.mpr w2⟩
        have le : lnQ q r (p.1 : Rat) ≤ ltM P (p.1 : Rat) := by
          rw [ltM_eq]
          exact (topQ_ge _ 0).2 _ (List.mem_append_right _ (List.mem_flatten.mpr ⟨_, List.mem_map.mpr ⟨q, hq, rfl⟩, List.mem_map.mpr ⟨r, List.mem_filter.mpr ⟨hr, hs⟩, rfl⟩⟩))
        rw [h2] at le
        have t := (ln_le_iff (by omega)).mp le
        rw [decide_eq_false (by omega : ¬ 0 < trn q p r), Bool.and_false]
      · rw [decide_eq_false w2, Bool.and_false, Bool.false_and]
    · rw [decide_eq_false w1, Bool.false_and, Bool.false_and]
/-- a point of least cost, both costs above 0 -/
theorem least_ever {P : List Pt} {p : Pt} {a b : Int} (ha : 0 < a) (hb : 0 < b) (h : ∀ q ∈ P, a * p.1 - b * p.2 ≤ a * q.1 - b * q.2) : everM P p = true := by
  rw [everM_iff]
  refine ⟨fun q hq => ?_, fun q hq r hr => ?_⟩
  · unfold btM
    by_cases e : q = p
    · rw [decide_eq_true e]; rfl
    · by_cases c1 : q.1 ≤ p.1
      · by_cases c2 : p.2 ≤ q.2
        · exfalso
          have k := h q hq
          have m1 : a * q.1 ≤ a * p.1 := Int.mul_le_mul_of_nonneg_left c1 (by omega)
          have m2 : b * p.2 ≤ b * q.2 := Int.mul_le_mul_of_nonneg_left c2 (by omega)
          have e1 : a * q.1 = a * p.1 := by omega
          have e2 : b * p.2 = b * q.2 := by omega
          exact e (Prod.ext (Int.eq_of_mul_eq_mul_left (by omega) e1) (Int.eq_of_mul_eq_mul_left (by omega) e2.symm))
        · rw [decide_eq_false c2, Bool.and_false, Bool.and_false]
      · rw [decide_eq_false c1, Bool.false_and, Bool.and_false]
  · unfold abM
    by_cases w1 : q.1 < p.1
    · by_cases w2 : p.1 < r.1
      · by_cases t : 0 < trn q p r
        · exfalso
          have k1 := h q hq
          have k2 := h r hr
          have n1 : 0 ≤ (r.1 - p.1) * ((a * q.1 - b * q.2) - (a * p.1 - b * p.2)) := Int.mul_nonneg (by omega) (by omega)
          have n2 : 0 ≤ (p.1 - q.1) * ((a * r.1 - b * r.2) - (a * p.1 - b * p.2)) := Int.mul_nonneg (by omega) (by omega)
          have n3 : 0 < b * trn q p r := Int.mul_pos hb t
          have id : (r.1 - p.1) * ((a * q.1 - b * q.2) - (a * p.1 - b * p.2)) + (p.1 - q.1) * ((a * r.1 - b * r.2) - (a * p.1 - b * p.2)) + b * trn q p r = 0 := by
            unfold trn
            grind
          omega
        · rw [decide_eq_false t, Bool.and_false]
      · rw [decide_eq_false w2, Bool.and_false, Bool.false_and]
    · rw [decide_eq_false w1, Bool.false_and, Bool.false_and]
/-! ### loops that may return -/
theorem loop_ret {S : Type} {α : Type} {p : D → Env → Option Env} {F : FS S} {s : S} {enc : α → D} {c : α → Bool} {v : α → Dv} (I : Env → Prop) : ∀ (xs : List α) (ρ : Env), I ρ →
    (∀ x ∈ xs, c x = false → ∀ ρ, I ρ → ∃ ρ1, p (enc x) ρ = some ρ1 ∧ ∃ ρ2, F ρ1 s = .nx ρ2 s ∧ I ρ2) → (∀ x ∈ xs, c x = true → ∀ ρ, I ρ → ∃ ρ1, p (enc x) ρ = some ρ1 ∧ F ρ1 s = .rt (v x) s) →
    (xs.find? c = none → ∃ ρ', loopS p F (xs.map enc) ρ s = .nx ρ' s ∧ I ρ') ∧ (∀ x, xs.find? c = some x → loopS p F (xs.map enc) ρ s = .rt (v x) s)
  | [], ρ, i, _, _ => ⟨fun _ => ⟨ρ, rfl, i⟩, fun x e => (nomatch e)⟩
  | y :: xs, ρ, i, hn, hr => by
    cases q : c y with
    | true =>
      obtain ⟨ρ1, e1, e2⟩ := hr y (by simp) q ρ i
      rw [List.find?_cons_of_pos q]
      refine ⟨fun e => (nomatch e), fun x e => ?_⟩
      cases e
      rw [List.map_cons, loopS, e1]
      dsimp only
      rw [e2]
    | false =>
      obtain ⟨ρ1, e1, ρ2, e2, i2⟩ := hn y (by simp) q ρ i
      have ih := loop_ret I xs ρ2 i2 (fun x hx => hn x (by simp [hx])) (fun x hx => hr x (by simp [hx]))
      rw [List.find?_cons_of_neg (by rw [q]; exact Bool.false_ne_true)]
      rw [List.map_cons, loopS, e1]
      dsimp only
      rw [e2]
      exact ih
theorem find_none {α : Type} {c : α → Bool} {xs : List α} (h : (xs.all fun x => !c x) = true) : xs.find? c = none := by
  rw [List.find?_eq_none]
  intro x hx
  have := List.all_eq_true.mp h x hx
  simpa using this
theorem find_some {α : Type} {c : α → Bool} {xs : List α} (h : (xs.all fun x => !c x) = false) : ∃ x, xs.find? c = some x := by
  cases e : xs.find? c with
  | some x => exact ⟨x, rfl⟩
  | none =>
    exfalso
    rw [List.find?_eq_none] at e
    have : (xs.all fun x => !c x) = true := List.all_eq_true.mpr fun x hx => by simpa using e x hx
    rw [this] at h
    cases h
/-! ### the least cost, the most found at it -/
def mcM (l : List (Int × Bool)) (a b : Int) : Int := (minCost l a b).getD 0
def bpM (l : List (Int × Bool)) (a b : Int) : List Pt := (pts l).filter fun p => decide (pc a b (cnt l 0).2 p = mcM l a b)
def byM (l : List (Int × Bool)) (a b : Int) : Int := (((bpM l a b).map (·.2)).max?).getD 0
def gB (l : List (Int × Bool)) (a b : Int) : Bool := decide (byM l a b = (cnt l 0).2)
theorem mc_some (l : List (Int × Bool)) (a b : Int) : minCost l a b = some (mcM l a b) := by
  unfold mcM
  cases e : minCost l a b with
  | some m => rfl
  | none =>
    unfold minCost at e
    rw [List.min?_eq_none_iff] at e
    simp at e
theorem mc_pts {l : List (Int × Bool)} (h : Val l) (a b : Int) : (∃ p ∈ pts l, pc a b (cnt l 0).2 p = mcM l a b) ∧ ∀ p ∈ pts l, mcM l a b ≤ pc a b (cnt l 0).2 p := by
  have e := mc_some l a b
  rw [minCost_pts h, List.min?_eq_some_iff] at e
  refine ⟨?_, fun p hp => e.2 _ (List.mem_map.mpr ⟨p, hp, rfl⟩)⟩
  obtain ⟨p, hp, q⟩ := List.mem_map.mp e.1
  exact ⟨p, hp, q⟩
theorem by_some {l : List (Int × Bool)} (h : Val l) (a b : Int) : ((bpM l a b).map (·.2)).max? = some (byM l a b) := by
  unfold byM
  cases e : ((bpM l a b).map (·.2)).max? with
  | some m => rfl
  | none =>
    exfalso
    rw [List.max?_eq_none_iff, List.map_eq_nil_iff] at e
    obtain ⟨p, hp, q⟩ := (mc_pts h a b).1
    have : p ∈ bpM l a b := List.mem_filter.mpr ⟨hp, decide_eq_true q⟩
    rw [e] at this
    cases this
theorem max_mapV {α : Type} (f : α → Int) (l : List α) {m : Int} (h : (l.map f).max? = some m) : maxD [.list (l.map fun x => .int (f x))] = some (.int m) := by
  show (intsOf (l.map fun x => PyData.int (f x))).bind (fun ns => ns.max?.map PyData.int) = _
  rw [intsOf_mapf]
  show ((l.map f).max?).map PyData.int = _
  rw [h]
  rfl
theorem best_ever {l : List (Int × Bool)} (h : Val l) {a b : Int} (ha : 0 < a) (hb : 0 < b) {p : Pt} (hp : p ∈ bpM l a b) : everM (pts l) p = true := by
  obtain ⟨h1, h2⟩ := List.mem_filter.mp hp
  have h2 := of_decide_eq_true h2
  refine least_ever ha hb fun q hq => ?_
  have := (mc_pts h a b).2 q hq
  rw [← h2] at this
  unfold pc at this
  rw [Int.mul_sub, Int.mul_sub] at this
  omega
end DL

namespace DL
open PySem L2
/-! ### texts as lists of codes -/
def cl (x : Str) : List Nat := x.cps.toList
theorem cl_app (x y : Str) : cl (x ++ y) = cl x ++ cl y := by
  unfold cl
  show (x.cps ++ y.cps).toList = _
  simp
theorem cl_ext {x y : Str} (h : cl x = cl y) : x = y := by
  obtain ⟨a⟩ := x
  obtain ⟨b⟩ := y
  have : a = b := Array.toList_inj.mp h
  rw [this]
theorem cl_len (x : Str) : x.length = (cl x).length := by
  show x.cps.size = x.cps.toList.length
  simp
theorem okS_iff {x : Str} : PyData.strOk x = true ↔ ∀ c ∈ cl x, c < 0x110000 := by
  unfold PyData.strOk cl
  rw [Array.all_eq_true_iff_forall_mem]
  simp
theorem okS_app {x y : Str} (hx : PyData.strOk x = true) (hy : PyData.strOk y = true) : PyData.strOk (x ++ y) = true := by
  rw [okS_iff] at hx hy ⊢
  rw [cl_app]
  intro c hc
  rcases List.mem_append.mp hc with h | h
  · exact hx c h
  · exact hy c h
theorem cl_cut (z : Str) (lo hi : Option Int) : cl (cutS z lo hi) = ((cl z).drop (HT.sIx z.length 0 lo)).take (HT.sIx z.length z.length hi - HT.sIx z.length 0 lo) := by
  unfold cutS cl
  simp
theorem okS_cut {z : Str} (h : PyData.strOk z = true) (lo hi : Option Int) : PyData.strOk (cutS z lo hi) = true := by
  rw [okS_iff] at h ⊢
  intro c hc
  rw [cl_cut] at hc
  exact h c (List.mem_of_mem_drop (List.mem_of_mem_take hc))
/-! ### numbers of one or two signs -/
def numT (n : Nat) : Str := (toString (n : Int) : Str)
def digs : List Nat := [48, 49, 50, 51, 52, 53, 54, 55, 56, 57]
theorem digs_eq : cl ("0123456789" : Str) = digs := by decide +kernel
def tabN (n : Nat) : Bool := (decide ((cl (numT n)).length = 1) || decide ((cl (numT n)).length = 2)) && (cl (numT n)).all (fun c => decide (c ∈ digs)) && decide (PySem.intText? (numT n) = some (n : Int))
theorem tab_all : (List.range 100).all tabN = true := by decide +kernel
theorem tab_1 : digs.all (fun c => decide (PySem.intText? ⟨#[c]⟩ = some (((c - 48 : Nat) : Int)))) = true := by decide +kernel
theorem tab_2 : digs.all (fun c => digs.all fun d => decide (PySem.intText? ⟨#[c, d]⟩ = some ((10 * (c - 48) + (d - 48) : Nat) : Int))) = true := by decide +kernel
theorem num_tab {n : Nat} (h : n < 100) : (1 ≤ (cl (numT n)).length ∧ (cl (numT n)).length ≤ 2) ∧ (∀ c ∈ cl (numT n), c ∈ digs) ∧ PySem.intText? (numT n) = some (n : Int) := by
  have := List.all_eq_true.mp tab_all n (List.mem_range.mpr h)
  unfold tabN at this
  rw [Bool.and_eq_true, Bool.and_eq_true, Bool.or_eq_true, decide_eq_true_iff, decide_eq_true_iff, decide_eq_true_iff, List.all_eq_true] at this
  refine ⟨by omega, fun c hc => of_decide_eq_true (this.1.2 c hc), this.2⟩
theorem dig_lt {c : Nat} (h : c ∈ digs) : 48 ≤ c ∧ c ≤ 57 := by
  simp only [digs, List.mem_cons, List.not_mem_nil, or_false] at h
  omega
/-- a text of one or two digits is a number below 100 -/
theorem text_num {w : Str} (h1 : 1 ≤ (cl w).length) (h2 : (cl w).length ≤ 2) (hd : ∀ c ∈ cl w, c ∈ digs) : ∃ n : Nat, n < 100 ∧ PySem.intText? w = some (n : Int) := by
  cases e : cl w with
  | nil => rw [e] at h1; simp at h1
  | cons c r =>
    cases r with
    | nil =>
      have ew : w = ⟨#[c]⟩ := cl_ext (by rw [e]; rfl)
      have hc := hd c (by rw [e]; simp)
      have := of_decide_eq_true (List.all_eq_true.mp tab_1 c hc)
      have := dig_lt hc
      exact ⟨c - 48, by omega, by rw [ew]; assumption⟩
    | cons d r =>
      cases r with
      | nil =>
        have ew : w = ⟨#[c, d]⟩ := cl_ext (by rw [e]; rfl)
        have hc := hd c (by rw [e]; simp)
        have hd' := hd d (by rw [e]; simp)
        have t := of_decide_eq_true (List.all_eq_true.mp (List.all_eq_true.mp tab_2 c hc) d hd')
        have := dig_lt hc
        have := dig_lt hd'
        exact ⟨10 * (c - 48) + (d - 48), by omega, by rw [ew]; exact t⟩
      | cons _ _ => rw [e] at h2; simp at h2
theorem num_inj {m n : Nat} (hm : m < 100) (hn : n < 100) (h : numT m = numT n) : m = n := by
  have a := (num_tab hm).2.2
  have b := (num_tab hn).2.2
  rw [h, b] at a
  have := Option.some.inj a
  omega
theorem okS_dig {w : Str} (hd : ∀ c ∈ cl w, c ∈ digs) : PyData.strOk w = true := okS_iff.mpr fun c hc => by have := dig_lt (hd c hc); omega
/-! ### a sign joined, a sign split -/
theorem cut_free {c : Nat} : ∀ {a b x y : List Nat}, c ∉ a → c ∉ b → a ++ c :: x = b ++ c :: y → a = b ∧ x = y
  | [], [], x, y, _, _, h => ⟨rfl, by simpa using h⟩
  | [], d :: b, x, y, _, hb, h => by
    simp at h
    exact absurd (by rw [h.1]; simp) hb
  | d :: a, [], x, y, ha, _, h => by
    simp at h
    exact absurd (by rw [← h.1]; simp) ha
  | d :: a, e :: b, x, y, ha, hb, h => by
    simp only [List.cons_append, List.cons.injEq] at h
    obtain ⟨rfl, h⟩ := h
    have := cut_free (fun z => ha (by simp [z])) (fun z => hb (by simp [z])) h
    exact ⟨by rw [this.1], this.2⟩
theorem cl_join2 (c : Nat) (x y : Str) (r : List Str) : cl (Str.join ⟨#[c]⟩ (x :: y :: r)) = cl x ++ c :: cl (Str.join ⟨#[c]⟩ (y :: r)) := by
  show cl (x ++ ⟨#[c]⟩ ++ Str.join ⟨#[c]⟩ (y :: r)) = _
  rw [cl_app, cl_app]
  show cl x ++ [c] ++ _ = _
  simp
theorem join_inj {c : Nat} : ∀ {A B : List Str}, A ≠ [] → B ≠ [] → (∀ w ∈ A, c ∉ cl w) → (∀ w ∈ B, c ∉ cl w) → Str.join ⟨#[c]⟩ A = Str.join ⟨#[c]⟩ B → A = B
  | [], _, h, _, _, _, _ => absurd rfl h
  | _, [], _, h, _, _, _ => absurd rfl h
  | [x], [y], _, _, _, _, h => by
    have h : x = y := h
    rw [h]
  | [x], y :: y2 :: r, _, _, ha, _, h => by
    have e : cl (Str.join ⟨#[c]⟩ [x]) = cl (Str.join ⟨#[c]⟩ (y :: y2 :: r)) := by rw [h]
    rw [cl_join2] at e
    have e : cl x = _ := e
    exact absurd (by rw [e]; simp) (ha x (by simp))
  | x :: x2 :: r, [y], _, _, _, hb, h => by
    have e : cl (Str.join ⟨#[c]⟩ (x :: x2 :: r)) = cl (Str.join ⟨#[c]⟩ [y]) := by rw [h]
    rw [cl_join2] at e
    have e : _ = cl y := e
    exact absurd (by rw [← e]; simp) (hb y (by simp))
  | x :: x2 :: r, y :: y2 :: q, _, _, ha, hb, h => by
    have e : cl (Str.join ⟨#[c]⟩ (x :: x2 :: r)) = cl (Str.join ⟨#[c]⟩ (y :: y2 :: q)) := by rw [h]
    rw [cl_join2, cl_join2] at e
    obtain ⟨e1, e2⟩ := cut_free (ha x (by simp)) (hb y (by simp)) e
    have := join_inj (A := x2 :: r) (B := y2 :: q) (by simp) (by simp) (fun w hw => ha w (by simp [hw])) (fun w hw => hb w (by simp [hw])) (cl_ext e2)
    rw [cl_ext e1, this]
theorem split_pos' (x : Str) (c : Nat) : Txt.split x ⟨#[c]⟩ ≠ [] := by
  intro h
  have := PyProof.Rows.split_pos x ⟨#[c]⟩
  rw [h] at this
  simp at this
theorem split_join {c : Nat} {A : List Str} (hn : A ≠ []) (hf : ∀ w ∈ A, c ∉ cl w) : Txt.split (Str.join ⟨#[c]⟩ A) ⟨#[c]⟩ = A :=
  join_inj (split_pos' _ _) hn (StrLaws.split_free _ c) hf (StrLaws.join_split _ _)
theorem split_ok {x : Str} (c : Nat) (h : PyData.strOk x = true) : ∀ w ∈ Txt.split x ⟨#[c]⟩, PyData.strOk w = true := by
  have go : ∀ (A : List Str) (x : Str), Str.join ⟨#[c]⟩ A = x → PyData.strOk x = true → ∀ w ∈ A, PyData.strOk w = true := by
    intro A
    induction A with
    | nil => intro x _ _ w hw; simp at hw
    | cons y r ih =>
      intro x e hx w hw
      cases r with
      | nil =>
        have e : y = x := e
        rw [List.mem_singleton.mp hw, e]; exact hx
      | cons z r =>
        have e2 := congrArg cl e
        rw [cl_join2] at e2
        rw [okS_iff] at hx
        rcases List.mem_cons.mp hw with q | q
        · rw [q, okS_iff]
          intro d hd
          exact hx d (by rw [← e2]; simp [hd])
        · refine ih (Str.join ⟨#[c]⟩ (z :: r)) rfl (okS_iff.mpr fun d hd => hx d (by rw [← e2]; simp [hd])) w q
  exact go _ x (StrLaws.join_split _ _) h
theorem split_short {x : Str} (c : Nat) {n : Nat} (h : x.length ≤ n) : ∀ w ∈ Txt.split x ⟨#[c]⟩, w.length ≤ n := fun w hw => Nat.le_trans (PyProof.Rows.part_short hw) h
/-! ### what is written -/
def sgn (b : Bool) : Str := if b = true then "+" else "-"
def wTh (x : Int × Bool) : Str := (toString x.1 : Str) ++ sgn x.2
def wPt (p : Int × Int) : Str := ((toString p.1 : Str) ++ (":" : Str)) ++ (toString p.2 : Str)
def fmtT (l : List (Int × Bool)) : Str := Txt.join (" " : Str) (l.map wTh)
def fmtP (P : List (Int × Int)) : Str := Txt.join (" " : Str) (P.map wPt)
def In99 (n : Int) : Prop := 0 ≤ n ∧ n ≤ 99
theorem in99_num {n : Int} (h : In99 n) : (toString n : Str) = numT n.toNat ∧ n.toNat < 100 := by
  unfold In99 at h
  refine ⟨?_, by omega⟩
  unfold numT
  rw [show ((n.toNat : Nat) : Int) = n by omega]
theorem sp_eq : (" " : Str) = ⟨#[32]⟩ := by decide +kernel
theorem co_eq : (":" : Str) = ⟨#[58]⟩ := by decide +kernel
theorem pl_eq : ("+" : Str) = ⟨#[43]⟩ := by decide +kernel
theorem mi_eq : ("-" : Str) = ⟨#[45]⟩ := by decide +kernel
theorem cl_sgn (b : Bool) : cl (sgn b) = [if b = true then 43 else 45] := by
  unfold sgn
  cases b
  · rw [if_neg Bool.false_ne_true, if_neg Bool.false_ne_true, mi_eq]; rfl
  · rw [if_pos rfl, if_pos rfl, pl_eq]; rfl
theorem cl_wTh (x : Int × Bool) : cl (wTh x) = cl (toString x.1 : Str) ++ [if x.2 = true then 43 else 45] := by unfold wTh; rw [cl_app, cl_sgn]
theorem cl_wPt (p : Int × Int) : cl (wPt p) = cl (toString p.1 : Str) ++ 58 :: cl (toString p.2 : Str) := by
  unfold wPt
  rw [cl_app, cl_app, co_eq]
  show cl _ ++ [58] ++ _ = _
  simp
theorem wTh_props {x : Int × Bool} (h : In99 x.1) : 32 ∉ cl (wTh x) ∧ (wTh x).length ≤ 3 ∧ PyData.strOk (wTh x) = true := by
  obtain ⟨e, hn⟩ := in99_num h
  have t := num_tab hn
  have el : cl (wTh x) = cl (numT x.1.toNat) ++ [if x.2 = true then 43 else 45] := by rw [cl_wTh, e]
  refine ⟨fun m => ?_, ?_, okS_iff.mpr fun c hc => ?_⟩
  · rw [el] at m
    rcases List.mem_append.mp m with m | m
    · have := dig_lt (t.2.1 _ m); omega
    · have := List.mem_singleton.mp m
      split at this <;> omega
  · rw [cl_len, el, List.length_append]
    have := t.1.2
    simp
    omega
  · rw [el] at hc
    rcases List.mem_append.mp hc with m | m
    · have := dig_lt (t.2.1 _ m); omega
    · have := List.mem_singleton.mp m
      split at this <;> omega
theorem wPt_props {p : Int × Int} (h1 : In99 p.1) (h2 : In99 p.2) : 32 ∉ cl (wPt p) ∧ (wPt p).length ≤ 5 ∧ PyData.strOk (wPt p) = true := by
  obtain ⟨e, hn⟩ := in99_num h1
  obtain ⟨e2, hn2⟩ := in99_num h2
  have t := num_tab hn
  have t2 := num_tab hn2
  have el : cl (wPt p) = cl (numT p.1.toNat) ++ 58 :: cl (numT p.2.toNat) := by rw [cl_wPt, e, e2]
  refine ⟨fun m => ?_, ?_, okS_iff.mpr fun c hc => ?_⟩
  · rw [el] at m
    rcases List.mem_append.mp m with m | m
    · have := dig_lt (t.2.1 _ m); omega
    · rcases List.mem_cons.mp m with m | m
      · omega
      · have := dig_lt (t2.2.1 _ m); omega
  · rw [cl_len, el, List.length_append, List.length_cons]
    have := t.1.2
    have := t2.1.2
    omega
  · rw [el] at hc
    rcases List.mem_append.mp hc with m | m
    · have := dig_lt (t.2.1 _ m); omega
    · rcases List.mem_cons.mp m with m | m
      · omega
      · have := dig_lt (t2.2.1 _ m); omega
theorem join_short {c : Nat} {k : Nat} : ∀ {A : List Str}, (∀ w ∈ A, w.length ≤ k) → (Str.join ⟨#[c]⟩ A).length ≤ A.length * (k + 1)
  | [], _ => Nat.zero_le _
  | [x], h => by
    have := h x (by simp)
    show x.length ≤ _
    simp
    omega
  | x :: y :: r, h => by
    have ih := join_short (c := c) (A := y :: r) fun w hw => h w (by simp [hw])
    have := h x (by simp)
    rw [cl_len, cl_join2, List.length_append, List.length_cons, ← cl_len, ← cl_len]
    rw [List.length_cons, Nat.succ_mul]
    omega
theorem join_ok {c : Nat} (hc : c < 0x110000) : ∀ {A : List Str}, (∀ w ∈ A, PyData.strOk w = true) → PyData.strOk (Str.join ⟨#[c]⟩ A) = true
  | [], _ => okS_iff.mpr fun d hd => by
    have hd : d ∈ ([] : List Nat) := hd
    simp at hd
  | [x], h => h x (by simp)
  | x :: y :: r, h => by
    have ih := join_ok hc (A := y :: r) fun w hw => h w (by simp [hw])
    have hx := h x (by simp)
    rw [okS_iff] at ih hx ⊢
    intro d hd
    rw [cl_join2] at hd
    rcases List.mem_append.mp hd with m | m
    · exact hx d m
    · rcases List.mem_cons.mp m with m | m
      · omega
      · exact ih d m
theorem fmtT_eq (l : List (Int × Bool)) : fmtT l = Str.join ⟨#[32]⟩ (l.map wTh) := by
  unfold fmtT
  rw [sp_eq]
  exact StrLaws.glued_eq_join _ _
theorem fmtP_eq (P : List (Int × Int)) : fmtP P = Str.join ⟨#[32]⟩ (P.map wPt) := by
  unfold fmtP
  rw [sp_eq]
  exact StrLaws.glued_eq_join _ _
/-- a text that may be handled -/
def Tx (x : Str) : Prop := x.length ≤ 10000 ∧ PyData.strOk x = true
theorem fmtT_tx {l : List (Int × Bool)} (h : ∀ x ∈ l, In99 x.1) (hl : l.length ≤ 100) : Tx (fmtT l) := by
  rw [fmtT_eq]
  refine ⟨?_, join_ok (by decide) fun w hw => ?_⟩
  · have := join_short (c := 32) (k := 3) (A := l.map wTh) fun w hw => by
      obtain ⟨x, hx, rfl⟩ := List.mem_map.mp hw
      exact (wTh_props (h x hx)).2.1
    rw [List.length_map] at this
    omega
  · obtain ⟨x, hx, rfl⟩ := List.mem_map.mp hw
    exact (wTh_props (h x hx)).2.2
theorem fmtP_tx {P : List (Int × Int)} (h : ∀ p ∈ P, In99 p.1 ∧ In99 p.2) (hl : P.length ≤ 100) : Tx (fmtP P) := by
  rw [fmtP_eq]
  refine ⟨?_, join_ok (by decide) fun w hw => ?_⟩
  · have := join_short (c := 32) (k := 5) (A := P.map wPt) fun w hw => by
      obtain ⟨x, hx, rfl⟩ := List.mem_map.mp hw
      exact (wPt_props (h x hx).1 (h x hx).2).2.1
    rw [List.length_map] at this
    omega
  · obtain ⟨x, hx, rfl⟩ := List.mem_map.mp hw
    exact (wPt_props (h x hx).1 (h x hx).2).2.2
theorem strsOf_map (ys : List Str) : strsOf (ys.map PyData.str) = some ys := by
  induction ys with
  | nil => rfl
  | cons y r ih =>
    show (strsOf (r.map PyData.str)).map (y :: ·) = _
    rw [ih]; rfl
theorem join_D {A : List Str} {k : Nat} (hs : ∀ w ∈ A, w.length ≤ k) (hk : k ≤ 10) (hl : A.length ≤ 100) (ho : ∀ w ∈ A, PyData.strOk w = true) : joinD (" " : Str) (A.map PyData.str) = some (.str (Txt.join (" " : Str) A)) := by
  unfold joinD
  rw [strsOf_map]
  have e : Txt.join (" " : Str) A = Str.join ⟨#[32]⟩ A := by rw [sp_eq]; exact StrLaws.glued_eq_join _ _
  have a := join_short (c := 32) hs
  have sm : (A.map (·.length)).sum ≤ A.length * k := by
    clear a e hl ho
    induction A with
    | nil => simp
    | cons x r ih =>
      have := hs x (by simp)
      have := ih fun w hw => hs w (by simp [hw])
      rw [List.map_cons, List.sum_cons, List.length_cons, Nat.succ_mul]
      omega
  have b : A.length * k ≤ 100 * 10 := Nat.mul_le_mul hl hk
  have c : A.length * (k + 1) ≤ 100 * 11 := Nat.mul_le_mul hl (by omega)
  show (if (A.map (·.length)).sum + A.length * (" " : Str).length ≤ 16777216 ∧ (Txt.join (" " : Str) A).length ≤ lim ∧ PyData.strOk (Txt.join (" " : Str) A) = true then some (PyData.str (Txt.join (" " : Str) A)) else none) = _
  refine if_pos ⟨?_, ?_, ?_⟩
  · rw [sp_eq]
    show _ + A.length * 1 ≤ _
    omega
  · rw [e]; unfold lim; omega
  · rw [e]; exact join_ok (by decide) ho
theorem str_D {n : Int} (h : In99 n) : strD [.int n] = some (.str (toString n : Str)) := by
  obtain ⟨e, hn⟩ := in99_num h
  have t := num_tab hn
  unfold In99 at h
  show (if n.natAbs.log2 < 1920 ∧ (toString n : Str).length ≤ lim ∧ PyData.strOk (toString n) = true then some (PyData.str (toString n)) else none) = _
  refine if_pos ⟨?_, ?_, ?_⟩
  · have : n.natAbs < 2 ^ 7 := by omega
    by_cases z : n.natAbs = 0
    · rw [z]; decide
    · have := (Nat.log2_lt z).mpr this
      omega
  · rw [e, cl_len]; unfold lim; omega
  · rw [e]; exact okS_dig t.2.1
theorem tx_app {x y : Str} (hx : Tx x) (hy : Tx y) : addD (.str x) (.str y) = some (.str (x ++ y)) ∧ PyData.strOk (x ++ y) = true := by
  have o := okS_app hx.2 hy.2
  refine ⟨?_, o⟩
  show (if x.length + y.length ≤ lim ∧ (x ++ y).length ≤ lim ∧ PyData.strOk (x ++ y) = true then some (PyData.str (x ++ y)) else none) = _
  have a := hx.1
  have b := hy.1
  refine if_pos ⟨?_, ?_, o⟩
  · unfold lim; omega
  · rw [Str.length_append]; unfold lim; omega
end DL
namespace DL
open PySem L2
theorem eqE_str : EqE PyData.str := fun a b => by simp only [PyData.eqv]; rfl
theorem dep_str (a : Str) : (PyData.str a).depth ≤ 1 := by simp [PyData.depth]
theorem eq_str (a b : Str) : eqD (.str a) (.str b) = some (.bool (decide (a = b))) := eqD_of eqE_str dep_str (by decide) a b
theorem ne_str (a b : Str) : neD (.str a) (.str b) = some (.bool (!decide (a = b))) := neD_of eqE_str dep_str (by decide) a b
theorem wTh_inj {x y : Int × Bool} (hx : In99 x.1) (hy : In99 y.1) (h : wTh x = wTh y) : x = y := by
  have e := congrArg cl h
  rw [cl_wTh, cl_wTh] at e
  have := List.append_inj' e rfl
  obtain ⟨e1, n1⟩ := in99_num hx
  obtain ⟨e2, n2⟩ := in99_num hy
  have a := this.1
  rw [e1, e2] at a
  have b := num_inj n1 n2 (cl_ext a)
  have c : x.2 = y.2 := by
    have := this.2
    cases q : x.2 <;> cases r : y.2 <;> simp [q, r] at this ⊢
  unfold In99 at hx hy
  exact Prod.ext (by omega) c
theorem wPt_inj {x y : Int × Int} (hx : In99 x.1 ∧ In99 x.2) (hy : In99 y.1 ∧ In99 y.2) (h : wPt x = wPt y) : x = y := by
  have e := congrArg cl h
  rw [cl_wPt, cl_wPt] at e
  obtain ⟨e1, n1⟩ := in99_num hx.1
  obtain ⟨e2, n2⟩ := in99_num hy.1
  obtain ⟨e3, n3⟩ := in99_num hx.2
  obtain ⟨e4, n4⟩ := in99_num hy.2
  rw [e1, e2, e3, e4] at e
  obtain ⟨a, b⟩ := cut_free (fun m => by have := dig_lt ((num_tab n1).2.1 _ m); omega) (fun m => by have := dig_lt ((num_tab n2).2.1 _ m); omega) e
  have a := num_inj n1 n2 (cl_ext a)
  have b := num_inj n3 n4 (cl_ext b)
  unfold In99 at hx hy
  exact Prod.ext (by omega) (by omega)
theorem map_inj_on {α β : Type} {f : α → β} {q : α → Prop} (h : ∀ x y, q x → q y → f x = f y → x = y) : ∀ {a b : List α}, (∀ x ∈ a, q x) → (∀ x ∈ b, q x) → a.map f = b.map f → a = b
  | [], [], _, _, _ => rfl
  | [], _ :: _, _, _, e => by simp at e
  | _ :: _, [], _, _, e => by simp at e
  | x :: a, y :: b, ha, hb, e => by
    simp only [List.map_cons, List.cons.injEq] at e
    rw [h x y (ha x (by simp)) (hb y (by simp)) e.1, map_inj_on h (fun z hz => ha z (by simp [hz])) (fun z hz => hb z (by simp [hz])) e.2]
theorem words_T {l : List (Int × Bool)} (hn : l ≠ []) (h : ∀ x ∈ l, In99 x.1) : Txt.split (fmtT l) ⟨#[32]⟩ = l.map wTh := by
  rw [fmtT_eq]
  exact split_join (by simpa using hn) fun w hw => by
    obtain ⟨x, hx, rfl⟩ := List.mem_map.mp hw
    exact (wTh_props (h x hx)).1
theorem words_P {l : List (Int × Int)} (hn : l ≠ []) (h : ∀ x ∈ l, In99 x.1 ∧ In99 x.2) : Txt.split (fmtP l) ⟨#[32]⟩ = l.map wPt := by
  rw [fmtP_eq]
  exact split_join (by simpa using hn) fun w hw => by
    obtain ⟨x, hx, rfl⟩ := List.mem_map.mp hw
    exact (wPt_props (h x hx).1 (h x hx).2).1
theorem val_99 {l : List (Int × Bool)} (h : Val l) : l ≠ [] ∧ ∀ x ∈ l, In99 x.1 := ⟨fun e => by have := h.lo; rw [e] at this; simp at this, fun x hx => h.sc x hx⟩
theorem pval_99 {P : List Pt} (h : PVal P) : P ≠ [] ∧ ∀ x ∈ P, In99 x.1 ∧ In99 x.2 := ⟨fun e => by have := h.lo; rw [e] at this; simp at this, fun x hx => by have := h.rg x hx; unfold In99; omega⟩
theorem fmtT_inj {l m : List (Int × Bool)} (h : Val l) (k : Val m) (e : fmtT l = fmtT m) : l = m := by
  have a := words_T (val_99 h).1 (val_99 h).2
  have b := words_T (val_99 k).1 (val_99 k).2
  rw [e, b] at a
  exact (map_inj_on (q := fun x : Int × Bool => In99 x.1) (fun x y hx hy => wTh_inj hx hy) (val_99 k).2 (val_99 h).2 a).symm
theorem fmtP_inj {l m : List Pt} (h : l ≠ [] ∧ ∀ x ∈ l, In99 x.1 ∧ In99 x.2) (k : m ≠ [] ∧ ∀ x ∈ m, In99 x.1 ∧ In99 x.2) (e : fmtP l = fmtP m) : l = m := by
  have a := words_P h.1 h.2
  have b := words_P k.1 k.2
  rw [e, b] at a
  exact (map_inj_on (q := fun x : Int × Int => In99 x.1 ∧ In99 x.2) (fun x y hx hy => wPt_inj hx hy) k.2 h.2 a).symm
/-! ### the last sign of a word -/
theorem cut_last {w : Str} {u : List Nat} {c : Nat} (h : cl w = u ++ [c]) : cutS w (some (-1)) none = (⟨#[c]⟩ : Str) ∧ cl (cutS w none (some (-1))) = u ∧ atI w.cps.toList (-1) = some c := by
  have hl : w.length = u.length + 1 := by rw [cl_len, h]; simp
  have e1 : HT.sIx w.length 0 (some (-1)) = u.length := by
    unfold HT.sIx
    dsimp only
    rw [if_pos (by decide)]
    omega
  have e2 : HT.sIx w.length w.length (some (-1)) = u.length := by
    unfold HT.sIx
    dsimp only
    rw [if_pos (by decide)]
    omega
  refine ⟨cl_ext ?_, ?_, ?_⟩
  · rw [cl_cut, e1, h, HT.sIx_none, hl]
    rw [List.drop_left, show u.length + 1 - u.length = 1 by omega]; rfl
  · rw [cl_cut, e2, h, HT.sIx_none]
    simp
  · show atI (cl w) (-1) = _
    rw [h, atI_last (by simp)]
    simp
theorem cut_none {w : Str} (h : cl w = []) : cutS w (some (-1)) none = (⟨#[]⟩ : Str) := cl_ext (by rw [cl_cut, h]; simp; rfl)
theorem okS_sign {w : Str} {u : List Nat} {c : Nat} (h : cl w = u ++ [c]) (ho : PyData.strOk w = true) : PyData.strOk ⟨#[c]⟩ = true := okS_iff.mpr fun d hd => by
  have hd : d ∈ [c] := hd
  exact okS_iff.mp ho d (by rw [h, List.mem_singleton.mp hd]; simp)
/-! ### a for over words that may raise -/
theorem seq_words {S β : Type} {Q : Out S → Prop} {l : FL S} {p : D → Env → Option Env} {F G : FS S} {ρ : Env} {s : S} {ws : List Str} {f : β → Str} {q : β → Prop} {c : Nat} (R : List β → Env → Prop) (a : l ρ s = .ok (ws.map .str) s) (r0 : R [] ρ)
    (h : ∀ w ∈ ws, ∀ (acc : List β) (ρ : Env), acc.length < ws.length → R acc ρ → ∃ ρ1, p (.str w) ρ = some ρ1 ∧ ((∃ y, w = f y ∧ q y ∧ ∃ ρ2, F ρ1 s = .nx ρ2 s ∧ R (acc ++ [y]) ρ2) ∨ ((∀ y, q y → f y ≠ w) ∧ ∃ ρ2, F ρ1 s = .er c ρ2 s)))
    (k1 : ∀ ys ρ', ws = ys.map f → (∀ y ∈ ys, q y) → R ys ρ' → Q (G ρ' s)) (k2 : ∀ ρ', (∃ w ∈ ws, ∀ y, q y → f y ≠ w) → Q (.er c ρ' s)) : Q (sSeq (sFor l p F) G ρ s) := by
  have go : ∀ (post pre : List Str) (acc : List β) (ρ : Env), pre ++ post = ws → pre = acc.map f → (∀ y ∈ acc, q y) → R acc ρ →
      (∃ ys ρ', ws = ys.map f ∧ (∀ y ∈ ys, q y) ∧ R ys ρ' ∧ loopS p F (post.map .str) ρ s = .nx ρ' s) ∨ ((∃ w ∈ ws, ∀ y, q y → f y ≠ w) ∧ ∃ ρ', loopS p F (post.map .str) ρ s = .er c ρ' s) := by
    intro post
    induction post with
    | nil => intro pre acc ρ e e2 hq r; exact .inl ⟨acc, ρ, by rw [← e2, ← e, List.append_nil], hq, r, rfl⟩
    | cons w post ih =>
      intro pre acc ρ e e2 hq r
      have hw : w ∈ ws := by rw [← e]; simp
      have hlen : acc.length < ws.length := by
        rw [← e, e2]; simp
      obtain ⟨ρ1, p1, h1 | h1⟩ := h w hw acc ρ hlen r
      · obtain ⟨y, ey, qy, ρ2, f2, r2⟩ := h1
        rcases ih (pre ++ [w]) (acc ++ [y]) ρ2 (by rw [← e]; simp) (by rw [List.map_append, ← e2, ey]; rfl) (fun z hz => by
          rcases List.mem_append.mp hz with hz | hz
          · exact hq z hz
          · rw [List.mem_singleton.mp hz]; exact qy) r2 with ⟨ys, ρ', z1, z2, z3, z4⟩ | ⟨z1, ρ', z2⟩
        · refine .inl ⟨ys, ρ', z1, z2, z3, ?_⟩
          rw [List.map_cons, loopS, p1]; dsimp only; rw [f2]; exact z4
        · refine .inr ⟨z1, ρ', ?_⟩
          rw [List.map_cons, loopS, p1]; dsimp only; rw [f2]; exact z2
      · obtain ⟨n1, ρ2, f2⟩ := h1
        refine .inr ⟨⟨w, hw, n1⟩, ρ2, ?_⟩
        rw [List.map_cons, loopS, p1]; dsimp only; rw [f2]
  rcases go ws [] [] ρ rfl rfl (fun _ z => by simp at z) r0 with ⟨ys, ρ', z1, z2, z3, z4⟩ | ⟨z1, ρ', z2⟩
  · rw [ev_seq (ev_for a z4) rfl]
    exact k1 ys ρ' z1 z2 z3
  · rw [ev_seqE (ev_for a z2)]
    exact k2 ρ' z1
theorem split_D {x : Str} {c : Nat} (h : Tx x) : splitD x ⟨#[c]⟩ = some (.list ((Txt.split x ⟨#[c]⟩).map .str)) := by
  unfold splitD
  have a := h.1
  refine if_pos ⟨rfl, by unfold lim; omega, ?_, ?_⟩
  · have := PyProof.Rows.split_le x ⟨#[c]⟩
    unfold lim; omega
  · rw [List.all_eq_true]
    intro w hw
    have b := split_short c h.1 w hw
    rw [split_ok c h.2 w hw, decide_eq_true (by unfold lim; omega)]
    rfl
theorem ev_split {S : Type} {fo fa : FE S} {ρ : Env} {s s1 s2 : S} {x b : Str} {z : D} (a : fo ρ s = .ok (.d (.str x)) s1) (e : fa ρ s1 = .ok (.d (.str b)) s2) (q : splitD x b = some z) : eSplit fo fa ρ s = .ok (.d z) s2 := by
  unfold eSplit; rw [a]; dsimp only [Res.bnd]; rw [e]; dsimp only [Res.bnd]; rw [q]; rfl
theorem ev_join {S : Type} {fo fa : FE S} {ρ : Env} {s s1 s2 : S} {x : Str} {ds : List D} {z : D} (a : fo ρ s = .ok (.d (.str x)) s1) (e : fa ρ s1 = .ok (.d (.list ds)) s2) (q : joinD x ds = some z) : eJoin fo fa ρ s = .ok (.d z) s2 := by
  unfold eJoin; rw [a]; dsimp only [Res.bnd]; rw [e]; dsimp only [Res.bnd]; rw [q]; rfl
theorem ev_lStr {S : Type} {fa : FE S} {ρ : Env} {s s1 : S} {x : Str} (a : fa ρ s = .ok (.d (.str x)) s1) : lStr fa ρ s = .ok ((cl x).map fun c => PyData.str ⟨#[c]⟩) s1 := by unfold lStr; rw [a]; rfl
theorem ev_chainF {S : Type} {fa fb fc : FE S} {ρ : Env} {s : S} {x y : D} {o1 o2 : D → D → Option D} (a : fa ρ s = .ok (.d x) s) (e : fb ρ s = .ok (.d y) s) (q : o1 x y = some (.bool false)) : eChain o1 o2 fa fb fc ρ s = .ok (.d (.bool false)) s := by
  unfold eChain; rw [a]; dsimp only [Res.bnd]; rw [e]; dsimp only [Res.bnd]; rw [q]
theorem ev_dropE' {S : Type} {f : FE S} {ρ : Env} {s s1 : S} {n : Nat} (a : f ρ s = .er n s1) : sDrop f ρ s = .er n ρ s1 := by unfold sDrop; rw [a]; rfl
theorem ev_appE {S : Type} {f : FE S} {ρ : Env} {s s1 : S} {i n : Nat} {ds : List D} (e : ρ[i]? = some (.m ds)) (a : f ρ s = .er n s1) : sApp i f ρ s = .er n ρ s1 := by unfold sApp; rw [e]; dsimp only; rw [a]; rfl
theorem ev_consE {S : Type} {f : FE S} {g : FA S} {ρ : Env} {s s1 : S} {n : Nat} (a : f ρ s = .er n s1) : aCons f g ρ s = .er n s1 := by unfold aCons; rw [a]; rfl
theorem ev_consE2 {S : Type} {f : FE S} {g : FA S} {ρ : Env} {s s1 s2 : S} {n : Nat} {v : Dv} (a : f ρ s = .ok v s1) (b : g ρ s1 = .er n s2) : aCons f g ρ s = .er n s2 := by unfold aCons; rw [a]; dsimp only [Res.bnd]; rw [b]
theorem ev_tupE {S : Type} {g : FA S} {ρ : Env} {s s1 : S} {n : Nat} (a : g ρ s = .er n s1) : eTup g ρ s = .er n s1 := by unfold eTup; rw [a]; rfl
end DL
namespace DL
open PySem L2
theorem seq_rets {S α : Type} {Q : Out S → Prop} {l : FL S} {p : D → Env → Option Env} {F G : FS S} {ρ : Env} {s : S} {xs : List α} {enc : α → D} {v : Dv} (I : Env → Prop) (a : l ρ s = .ok (xs.map enc) s) (i0 : I ρ)
    (h : ∀ x ∈ xs, ∀ ρ, I ρ → ∃ ρ1, p (enc x) ρ = some ρ1 ∧ ((∃ ρ2, F ρ1 s = .nx ρ2 s ∧ I ρ2) ∨ F ρ1 s = .rt v s)) (k1 : ∀ ρ', I ρ' → Q (G ρ' s)) (k2 : Q (.rt v s)) : Q (sSeq (sFor l p F) G ρ s) := by
  have go : ∀ (xs : List α) (ρ : Env), I ρ → (∀ x ∈ xs, ∀ ρ, I ρ → ∃ ρ1, p (enc x) ρ = some ρ1 ∧ ((∃ ρ2, F ρ1 s = .nx ρ2 s ∧ I ρ2) ∨ F ρ1 s = .rt v s)) → (∃ ρ', loopS p F (xs.map enc) ρ s = .nx ρ' s ∧ I ρ') ∨ loopS p F (xs.map enc) ρ s = .rt v s := by
    intro xs
    induction xs with
    | nil => intro ρ i _; exact .inl ⟨ρ, rfl, i⟩
    | cons x xs ih =>
      intro ρ i h
      obtain ⟨ρ1, p1, ⟨ρ2, f2, i2⟩ | f2⟩ := h x (by simp) ρ i
      · rcases ih ρ2 i2 (fun y hy => h y (by simp [hy])) with ⟨ρ', z1, z2⟩ | z
        · refine .inl ⟨ρ', ?_, z2⟩
          rw [List.map_cons, loopS, p1]; dsimp only; rw [f2]; exact z1
        · refine .inr ?_
          rw [List.map_cons, loopS, p1]; dsimp only; rw [f2]; exact z
      · refine .inr ?_
        rw [List.map_cons, loopS, p1]; dsimp only; rw [f2]
  rcases go xs ρ i0 h with ⟨ρ', z1, z2⟩ | z
  · rw [ev_seq (ev_for a z1) rfl]
    exact k1 ρ' z2
  · rw [ev_seqR (ev_for a z)]
    exact k2
theorem num_tx {n : Int} (h : In99 n) : Tx (toString n : Str) := by
  obtain ⟨e, hn⟩ := in99_num h
  have t := num_tab hn
  rw [e]
  exact ⟨by rw [cl_len]; omega, okS_dig t.2.1⟩
theorem sgn_tx (b : Bool) : Tx (sgn b) := ⟨by rw [cl_len, cl_sgn]; simp, okS_iff.mpr fun c hc => by
  rw [cl_sgn] at hc
  have := List.mem_singleton.mp hc
  split at this <;> omega⟩
theorem co_tx : Tx (":" : Str) := ⟨by rw [co_eq]; decide, by rw [co_eq]; decide +kernel⟩
theorem fmt3_eq (i j : Int) : fmt3 (":" : Str) i j = wPt (i, j) := by
  unfold fmt3 wPt
  refine cl_ext ?_
  rw [cl_app, cl_app, cl_app, cl_app, cl_app]
  rfl
theorem ev_fmt3 {S : Type} {fa fb : FE S} {ρ : Env} {s s1 s2 : S} {i j : Int} (hi : In99 i) (hj : In99 j) (a : fa ρ s = .ok (.d (.int i)) s1) (e : fb ρ s1 = .ok (.d (.int j)) s2) : eFmt3 (":" : Str) fa fb ρ s = .ok (.d (.str (wPt (i, j)))) s2 := by
  have lg : ∀ {n : Int}, In99 n → n.natAbs.log2 < 1920 := fun {n} h => by
    unfold In99 at h
    by_cases z : n.natAbs = 0
    · rw [z]; decide
    · have := (Nat.log2_lt z).mpr (show n.natAbs < 2 ^ 7 by omega)
      omega
  have p := wPt_props (p := (i, j)) hi hj
  have q : ((Str.empty ++ (toString i : Str)) ++ (":" : Str)).length ≤ lim := by
    have a := (num_tx hi).1
    have b := co_tx.1
    rw [Str.length_append, Str.length_append]
    show 0 + _ + _ ≤ _
    unfold lim
    omega
  unfold eFmt3
  rw [a]
  dsimp only [Res.bnd]
  rw [if_pos ⟨lg hi, q⟩, e]
  dsimp only [Res.bnd]
  rw [fmt3_eq]
  exact if_pos ⟨lg hj, by have := p.2.1; unfold lim; omega, p.2.2⟩
end DL
namespace DL
open PySem L2
theorem ev_eIfE {S : Type} {h : FT S} {fa fb : FE S} {ρ : Env} {s s1 s2 : S} {b : Bool} {n : Nat} (a : h ρ s = .ok b s1) (e : (if b = true then fa ρ s1 else fb ρ s1) = .er n s2) : eIf h fa fb ρ s = .er n s2 := by unfold eIf; rw [a]; exact e
theorem for_inv {S α : Type} {l : FL S} {p : D → Env → Option Env} {F : FS S} {ρ : Env} {s s1 : S} {enc : α → D} {xs : List α} (I : List α → Env → S → Prop) (a : l ρ s = .ok (xs.map enc) s1) (i0 : I [] ρ s1)
    (h : ∀ (pre : List α) (x : α) (post : List α) (ρ : Env) (s : S), pre ++ x :: post = xs → I pre ρ s → ∃ ρ1, p (enc x) ρ = some ρ1 ∧ ∃ ρ2 s2, F ρ1 s = .nx ρ2 s2 ∧ I (pre ++ [x]) ρ2 s2) : ∃ ρ' s', sFor l p F ρ s = .nx ρ' s' ∧ I xs ρ' s' := by
  obtain ⟨ρ', s', e, i⟩ := loop_inv I xs [] xs ρ s1 rfl i0 h
  exact ⟨ρ', s', ev_for a e, i⟩
theorem fmtT_len {l : List (Int × Bool)} (h : ∀ x ∈ l, In99 x.1) : (fmtT l).length ≤ l.length * 4 := by
  rw [fmtT_eq]
  have := join_short (c := 32) (k := 3) (A := l.map wTh) fun w hw => by
    obtain ⟨x, hx, rfl⟩ := List.mem_map.mp hw
    exact (wTh_props (h x hx)).2.1
  rwa [List.length_map] at this
theorem fmtP_len {P : List (Int × Int)} (h : ∀ p ∈ P, In99 p.1 ∧ In99 p.2) : (fmtP P).length ≤ P.length * 6 := by
  rw [fmtP_eq]
  have := join_short (c := 32) (k := 5) (A := P.map wPt) fun w hw => by
    obtain ⟨x, hx, rfl⟩ := List.mem_map.mp hw
    exact (wPt_props (h x hx).1 (h x hx).2).2.1
  rwa [List.length_map] at this
theorem slice_str {x : Str} (h : PyData.strOk x = true) (lo hi : Option Int) : sliceD (.str x) lo hi = some (.str (cutS x lo hi)) := by
  show (if PyData.strOk (cutS x lo hi) = true then some (PyData.str (cutS x lo hi)) else none) = _
  rw [if_pos (okS_cut h lo hi)]
end DL

namespace DL
open PySem L2
/-! ### a Watch in the law: how it runs -/
section
variable {S : Type} {ρ : Env}
theorem ev_lift {f : FE S} {s : S × WSt} {s1 : S} {v : Dv} (a : f ρ s.1 = .ok v s1) : liftW f ρ s = .ok v (s1, s.2) := by unfold liftW; rw [a]
theorem ev_resW {r : Res WSt D} {s : S × WSt} {d : D} {w : WSt} (a : r = .ok d w) (h : sameW w s.2) : resW r s = .ok (.d d) (s.1, w) := by unfold resW; rw [a]; exact if_pos h
theorem ev_resWE {r : Res WSt D} {s : S × WSt} {c : Nat} {w : WSt} (a : r = .er c w) (h : sameW w s.2) : resW r s = .er c (s.1, w) := by unfold resW; rw [a]; exact if_pos h
theorem ev_fnW {g : FA (S × WSt)} {sem : List D → WSt → Res WSt D} {n : Nat} {s s1 : S × WSt} {p : Addr} {us : List Dv} {ds : List D} {d : D} {w : WSt} (a : g ρ s = .ok (.v (.ref p) :: us) s1) (hp : p = s1.2.p) (e : datas us = some ds) (l : ds.length + 1 = n) (q : sem ds s1.2 = .ok d w) (hs : sameW w s1.2) : eFnW n sem g ρ s = .ok (.d d) (s1.1, w) := by
  unfold eFnW; rw [a]; dsimp only [Res.bnd]; rw [e]; dsimp only; rw [if_pos ⟨hp, l⟩]; exact ev_resW q hs
theorem ev_methW {fo : FE (S × WSt)} {g : FA (S × WSt)} {sem : List D → WSt → Res WSt D} {n : Nat} {s s1 s2 : S × WSt} {p : Addr} {us : List Dv} {ds : List D} {d : D} {w : WSt} (o : fo ρ s = .ok (.v (.ref p)) s1) (hp : p = s1.2.p) (a : g ρ s1 = .ok us s2) (hp2 : p = s2.2.p) (e : datas us = some ds) (l : ds.length + 1 = n) (q : sem ds s2.2 = .ok d w) (hs : sameW w s2.2) : eMethW n sem fo g ρ s = .ok (.d d) (s2.1, w) := by
  unfold eMethW; rw [o]; dsimp only [Res.bnd]; rw [if_pos hp, a]; dsimp only [Res.bnd]; rw [e]; dsimp only; rw [if_pos ⟨hp2, l⟩]; exact ev_resW q hs
theorem ev_methWE {fo : FE (S × WSt)} {g : FA (S × WSt)} {sem : List D → WSt → Res WSt D} {n : Nat} {s s1 s2 : S × WSt} {p : Addr} {us : List Dv} {ds : List D} {c : Nat} {w : WSt} (o : fo ρ s = .ok (.v (.ref p)) s1) (hp : p = s1.2.p) (a : g ρ s1 = .ok us s2) (hp2 : p = s2.2.p) (e : datas us = some ds) (l : ds.length + 1 = n) (q : sem ds s2.2 = .er c w) (hs : sameW w s2.2) : eMethW n sem fo g ρ s = .er c (s2.1, w) := by
  unfold eMethW; rw [o]; dsimp only [Res.bnd]; rw [if_pos hp, a]; dsimp only [Res.bnd]; rw [e]; dsimp only; rw [if_pos ⟨hp2, l⟩]; exact ev_resWE q hs
theorem ev_lenW {fo : FE (S × WSt)} {s s1 : S × WSt} {p : Addr} (o : fo ρ s = .ok (.v (.ref p)) s1) (hp : p = s1.2.p) : eLenW fo ρ s = .ok (.d (.int (s1.2.line.length : Nat))) s1 := by
  unfold eLenW; rw [o]; dsimp only [Res.bnd]; exact if_pos hp
end
theorem ev_setE {S : Type} {f : FE S} {ρ : Env} {s s1 : S} {i n : Nat} (a : f ρ s = .er n s1) : sSet i f ρ s = .er n ρ s1 := by unfold sSet; rw [a]; rfl
theorem ev_try {S : Type} {F R : FS S} {ρ ρ1 : Env} {s s1 : S} {o : Out S} (a : F ρ s = .nx ρ1 s1) (e : R ρ1 s1 = o) : sTry F R ρ s = o := by unfold sTry; rw [a]; exact e
theorem ev_tryE {S : Type} {F R : FS S} {ρ ρ1 : Env} {s s1 : S} {c : Nat} (a : F ρ s = .er c ρ1 s1) (h : c < 5) : sTry F R ρ s = .rt (.d (.str (nmE c))) s1 := by unfold sTry; rw [a]; exact if_pos h
theorem semW_rt {F : FS (Unit × WSt)} {m : Nat} {w w1 : WSt} {ds : List D} {d : D} (a : F (.v (.ref w.p) :: (ds.map .d ++ List.replicate m .no)) ((), w) = .rt (.d d) ((), w1)) : semW m F ds w = .ok d w1 := by unfold semW; rw [a]
theorem push_ok {w : WSt} {d : D} {x : Int × Bool} (h : isTh d = some x) (hl : w.line.length < lim) : pushSem [d] w = .ok (.bool (decide (w.th ≤ x.1))) { w with line := w.line ++ [x] } := by
  unfold pushSem; dsimp only; rw [h]; dsimp only; rw [if_pos hl]
theorem push_er {w : WSt} {d : D} (h : isTh d = none) : pushSem [d] w = .er 0 w := by unfold pushSem; dsimp only; rw [h]
theorem move_ok {w : WSt} {d : D} {t : Int} (h : isT d = some t) : moveSem [d] w = .ok (.int (kB (mvB t w.th) w.line)) { w with th := t } := by unfold moveSem; dsimp only; rw [h]
theorem move_er {w : WSt} {d : D} (h : isT d = none) : moveSem [d] w = .er 1 w := by unfold moveSem; dsimp only; rw [h]
theorem undo_ok {w : WSt} {x : Int × Bool} (h : w.line.getLast? = some x) : undoSem [] w = .ok (thD x) { w with line := w.line.dropLast } := by unfold undoSem; dsimp only; rw [h]
theorem undo_er {w : WSt} (h : w.line.getLast? = none) : undoSem [] w = .er 4 w := by unfold undoSem; dsimp only; rw [h]
theorem isTh_th {x : Int × Bool} (h : In99 x.1) : isTh (thD x) = some x := by
  show (if 0 ≤ x.1 ∧ x.1 ≤ 99 then some (x.1, x.2) else none) = _
  exact if_pos h
theorem isT_int {t : Int} (h : 0 ≤ t ∧ t ≤ 100) : isT (.int t) = some t := by
  show (if 0 ≤ t ∧ t ≤ 100 then some t else none) = _
  exact if_pos h
/-- c4 by the point -/
theorem c4_cnt (t : Int) (l : List (Int × Bool)) : c4 t l = [(DL.cnt l t).1, (DL.cnt l t).2, ((l.map (·.2)).countP fun z => decide (z = true) : Nat) - (DL.cnt l t).2, ((l.map (·.2)).countP fun z => decide (z = false) : Nat) - (DL.cnt l t).1] := by
  have key : ∀ l : List (Int × Bool), kB (fun x => decide (t ≤ x.1) && !x.2) l = (DL.cnt l t).1 ∧ kB (fun x => decide (t ≤ x.1) && x.2) l = (DL.cnt l t).2 := fun l => by
    unfold DL.cnt kB
    refine ⟨?_, ?_⟩ <;> first | rfl | (simp only [List.countP_eq_length_filter]; done) | skip
  have hk : ∀ (p q : Int × Bool → Bool) (l : List (Int × Bool)), kB (fun x => p x && q x) l + kB (fun x => !p x && q x) l = kB q l := fun p q l => by
    induction l with
    | nil => rfl
    | cons x l ih =>
      unfold kB at ih ⊢
      simp only [List.filter_cons]
      cases p x <;> cases q x <;> simp at ih ⊢ <;> omega
  have ct : ∀ b : Bool, (((l.map (·.2)).countP fun z => decide (z = b) : Nat) : Int) = kB (fun x => decide (x.2 = b)) l := fun b => by
    unfold kB
    rw [List.countP_map, List.countP_eq_length_filter]; rfl
  have h1 := hk (fun x => decide (t ≤ x.1)) (fun x => x.2) l
  have h2 := hk (fun x => decide (t ≤ x.1)) (fun x => !x.2) l
  obtain ⟨k1, k2⟩ := key l
  have e1 : (fun x : Int × Bool => decide (x.2 = true)) = fun x => x.2 := funext fun x => by cases x.2 <;> rfl
  have e2 : (fun x : Int × Bool => decide (x.2 = false)) = fun x => !x.2 := funext fun x => by cases x.2 <;> rfl
  unfold c4
  rw [ct true, ct false, e1, e2, ← k1, ← k2]
  have a : kB (fun x => !decide (t ≤ x.1) && x.2) l = kB (fun x => x.2) l - kB (fun x => decide (t ≤ x.1) && x.2) l := by omega
  have b : kB (fun x => !decide (t ≤ x.1) && !x.2) l = kB (fun x => !x.2) l - kB (fun x => decide (t ≤ x.1) && !x.2) l := by omega
  rw [a, b]
theorem mv_ne (t u : Int) : mvB t u = fun x => !decide (decide (u ≤ x.1) = decide (t ≤ x.1)) := funext fun x => by
  unfold mvB lowT highT
  by_cases h1 : u ≤ x.1 <;> by_cases h2 : t ≤ x.1 <;> by_cases h3 : u < t <;> by_cases h4 : u > t <;> simp [h1, h2, h3, h4] <;> omega
end DL
namespace DL
open PySem L2
theorem seq_mid {S : Type} {Q : Out S → Prop} {F G : FS S} {ρ : Env} {s : S} (I : Env → S → Prop) (a : ∃ ρ1 s1, F ρ s = .nx ρ1 s1 ∧ I ρ1 s1) (k : ∀ ρ1 s1, I ρ1 s1 → Q (G ρ1 s1)) : Q (sSeq F G ρ s) := by
  obtain ⟨ρ1, s1, e, i⟩ := a
  exact seq_nx e (k _ _ i)
theorem eqE_tups {α : Type} [DecidableEq α] {enc : α → D} (h : EqE enc) : EqE fun l : List α => PyData.tuple (l.map enc) := fun a b => by show PyData.eqv (.tuple _) (.tuple _) = _; rw [PyData.eqv]; exact eqv_all h a b
theorem dep_tups {α : Type} {enc : α → D} {k : Nat} (h : ∀ a, (enc a).depth ≤ k) (xs : List α) : (PyData.tuple (xs.map enc)).depth ≤ k + 1 := by
  rw [PyData.depth]
  exact Nat.succ_le_succ (dep_all h xs)
theorem ne_itup (a b : List Int) : neD (.tuple (a.map .int)) (.tuple (b.map .int)) = some (.bool (!decide (a = b))) := neD_of (enc := fun l : List Int => PyData.tuple (l.map .int)) (eqE_tups eqE_int) (dep_tups dep_int) (by decide) a b
theorem ne_th (a b : Int × Bool) : neD (eTh a) (eTh b) = some (.bool (!decide (a = b))) := neD_of eqE_th dep_th (by decide) a b
theorem ne_self {x : Str} : neD (.str x) (.str x) = some (.bool false) := by rw [ne_str, decide_eq_true rfl]; rfl
theorem cutL_init {α : Type} : ∀ xs : List α, cutL xs none (some (-1)) = xs.dropLast := fun xs => by
  rcases List.eq_nil_or_concat xs with e | ⟨r, x, e⟩
  · rw [e]; rfl
  · have e : xs = r ++ [x] := by simpa using e
    rw [e, cutL_m1]; simp
end DL

namespace Lw
open PySem PySem.Spec PyProof.Rows L2 DL
/-! ### the text -/
def top (i : Nat) : Stmt := PySem.Challenge.pw_alarmcurves_k11_whole_watches.main.body.getD i (.Pass ⟨0, 0, 0, 0⟩)
abbrev s_is_int : Stmt := top 8
abbrev s_is_thing : Stmt := top 9
abbrev s_check_threshold : Stmt := top 10
abbrev s_law_start : Stmt := top 14
abbrev s_law_draw : Stmt := top 15
abbrev s_law_pick : Stmt := top 16
abbrev s_law_error : Stmt := top 17
abbrev s_law_true : Stmt := top 18
abbrev s_law_point : Stmt := top 19
abbrev s_w_move : Stmt := inClass (top 12) 2
abbrev s_w_push : Stmt := inClass (top 12) 1
abbrev s_w_undo : Stmt := inClass (top 12) 5
abbrev s_law_call : Stmt := top 20
abbrev s_w_things : Stmt := inClass (top 12) 4
abbrev s_w_counts : Stmt := inClass (top 12) 3
abbrev s_w_init : Stmt := inClass (top 12) 0
abbrev s_w_len : Stmt := inClass (top 12) 6
abbrev s_law : Stmt := top 21
abbrev N_is_int : List Str := ["value", "low", "high"]
abbrev N_is_thing : List Str := ["value"]
abbrev N_check_threshold : List Str := ["value"]
abbrev N_law_start : List Str := ["_law_script"]
abbrev N_law_draw : List Str := ["_law_draws", "_law_limit", "_law_numbers", "_law_at", "_law_cell", "_law_mixed"]
abbrev N_law_pick : List Str := ["_law_draws", "_law_choices"]
abbrev N_law_error : List Str := ["_law_caught", "_law_kinds"]
abbrev N_law_true : List Str := ["_law_value", "_law_expected"]
abbrev N_law_point : List Str := ["_law_things", "_law_threshold", "_law_marks", "_law_score", "_law_faulty"]
abbrev N_w_move : List Str := ["self", "threshold", "low", "high", "score", "faulty"]
abbrev N_w_push : List Str := ["self", "thing"]
abbrev N_w_undo : List Str := ["self"]
abbrev N_law_call : List Str := ["_law_shown", "_law_kind", "_law_thing", "_law_found", "_law_caught", "e"]
abbrev N_w_things : List Str := ["self"]
abbrev N_w_counts : List Str := ["self", "found", "score", "faulty"]
abbrev N_w_init : List Str := ["self", "threshold"]
abbrev N_w_len : List Str := ["self"]
abbrev N_law : List Str := ["_law_script", "_law_draws", "_law_limit", "_law_shown", "_law_row", "_law_wide", "_law_turn", "_law_kind", "_law_thing", "_law_before", "_law_changed", "_law_x", "_law_y", "_law_marks", "_law_score", "_law_mark"]
structure Txt (K : PySem.W.Frag) (mg : Str → Option Value) where
  cl : Nat → Addr
  n_ValueError : mg "ValueError" = none
  n_bool : mg "bool" = none
  n_int : mg "int" = none
  n_isinstance : mg "isinstance" = none
  n_len : mg "len" = none
  n_list : mg "list" = none
  n_max : mg "max" = none
  n_min : mg "min" = none
  n_range : mg "range" = none
  n_tuple : mg "tuple" = none
  c_MOST_SCORE : GC mg "MOST_SCORE" (.int 99)
  x_BadThings : PySem.W.excIn K (cl 0) [.type "ValueError", .type "Exception", .type "BaseException", .type "object"] "ValueError.__new__" = true
  g_BadThings : mg "BadThings" = some (.ref (cl 0))
  k_BadThings : PySem.W.keepIn K (.ref (cl 0)) = true
  e_BadThings : PySem.W.subIn K (.ref (cl 0)) (.type "BaseException") = some true
  t_BadThings : PySem.W.typeIn K (.ref (cl 0)) = some (.type "type")
  x_BadNumber : PySem.W.excIn K (cl 1) [.type "ValueError", .type "Exception", .type "BaseException", .type "object"] "ValueError.__new__" = true
  g_BadNumber : mg "BadNumber" = some (.ref (cl 1))
  k_BadNumber : PySem.W.keepIn K (.ref (cl 1)) = true
  e_BadNumber : PySem.W.subIn K (.ref (cl 1)) (.type "BaseException") = some true
  t_BadNumber : PySem.W.typeIn K (.ref (cl 1)) = some (.type "type")
  x_BadPoints : PySem.W.excIn K (cl 2) [.type "ValueError", .type "Exception", .type "BaseException", .type "object"] "ValueError.__new__" = true
  g_BadPoints : mg "BadPoints" = some (.ref (cl 2))
  k_BadPoints : PySem.W.keepIn K (.ref (cl 2)) = true
  e_BadPoints : PySem.W.subIn K (.ref (cl 2)) (.type "BaseException") = some true
  t_BadPoints : PySem.W.typeIn K (.ref (cl 2)) = some (.type "type")
  x_BadText : PySem.W.excIn K (cl 3) [.type "ValueError", .type "Exception", .type "BaseException", .type "object"] "ValueError.__new__" = true
  g_BadText : mg "BadText" = some (.ref (cl 3))
  k_BadText : PySem.W.keepIn K (.ref (cl 3)) = true
  e_BadText : PySem.W.subIn K (.ref (cl 3)) (.type "BaseException") = some true
  t_BadText : PySem.W.typeIn K (.ref (cl 3)) = some (.type "type")
  x_NotFound : PySem.W.excIn K (cl 4) [.type "ValueError", .type "Exception", .type "BaseException", .type "object"] "ValueError.__new__" = true
  g_NotFound : mg "NotFound" = some (.ref (cl 4))
  k_NotFound : PySem.W.keepIn K (.ref (cl 4)) = true
  e_NotFound : PySem.W.subIn K (.ref (cl 4)) (.type "BaseException") = some true
  t_NotFound : PySem.W.typeIn K (.ref (cl 4)) = some (.type "type")
  CA : Addr
  ER : ErrT K cl CA
  g_AlarmError : mg "AlarmError" = some (.ref CA)
  CW : Addr
  wc : Cls K CW
  nT : NoAttr K CW "threshold"
  nL : NoAttr K CW "line"
  mgW : mg "Watch" = some (.ref CW)
  f_is_int : Addr
  fd_is_int : FuncData
  F_is_int : Fun K "is_int" "is_int" s_is_int f_is_int fd_is_int
  b_is_int : Binds K fd_is_int ["value", "low", "high"] []
  m_is_int : mg "is_int" = some (.ref f_is_int)
  f_is_thing : Addr
  fd_is_thing : FuncData
  F_is_thing : Fun K "is_thing" "is_thing" s_is_thing f_is_thing fd_is_thing
  b_is_thing : Binds K fd_is_thing ["value"] []
  m_is_thing : mg "is_thing" = some (.ref f_is_thing)
  f_check_threshold : Addr
  fd_check_threshold : FuncData
  F_check_threshold : Fun K "check_threshold" "check_threshold" s_check_threshold f_check_threshold fd_check_threshold
  b_check_threshold : Binds K fd_check_threshold ["value"] []
  m_check_threshold : mg "check_threshold" = some (.ref f_check_threshold)
  f_law_start : Addr
  fd_law_start : FuncData
  F_law_start : Fun K "_law_start" "_law_start" s_law_start f_law_start fd_law_start
  b_law_start : Binds K fd_law_start ["_law_script"] []
  m_law_start : mg "_law_start" = some (.ref f_law_start)
  f_law_draw : Addr
  fd_law_draw : FuncData
  F_law_draw : Fun K "_law_draw" "_law_draw" s_law_draw f_law_draw fd_law_draw
  b_law_draw : Binds K fd_law_draw ["_law_draws", "_law_limit"] []
  m_law_draw : mg "_law_draw" = some (.ref f_law_draw)
  f_law_pick : Addr
  fd_law_pick : FuncData
  F_law_pick : Fun K "_law_pick" "_law_pick" s_law_pick f_law_pick fd_law_pick
  b_law_pick : Binds K fd_law_pick ["_law_draws", "_law_choices"] []
  m_law_pick : mg "_law_pick" = some (.ref f_law_pick)
  f_law_error : Addr
  fd_law_error : FuncData
  F_law_error : Fun K "_law_error" "_law_error" s_law_error f_law_error fd_law_error
  b_law_error : Binds K fd_law_error ["_law_caught"] []
  m_law_error : mg "_law_error" = some (.ref f_law_error)
  f_law_true : Addr
  fd_law_true : FuncData
  F_law_true : Fun K "_law_true" "_law_true" s_law_true f_law_true fd_law_true
  b_law_true : Binds K fd_law_true ["_law_value", "_law_expected"] []
  m_law_true : mg "_law_true" = some (.ref f_law_true)
  f_law_point : Addr
  fd_law_point : FuncData
  F_law_point : Fun K "_law_point" "_law_point" s_law_point f_law_point fd_law_point
  b_law_point : Binds K fd_law_point ["_law_things", "_law_threshold"] []
  m_law_point : mg "_law_point" = some (.ref f_law_point)
  f_w_move : Addr
  fd_w_move : FuncData
  F_w_move : Fun K "move" "Watch.move" s_w_move f_w_move fd_w_move
  b_w_move : Binds K fd_w_move ["self", "threshold"] []
  me_w_move : Meth K CW "move" f_w_move
  f_w_push : Addr
  fd_w_push : FuncData
  F_w_push : Fun K "push" "Watch.push" s_w_push f_w_push fd_w_push
  b_w_push : Binds K fd_w_push ["self", "thing"] []
  me_w_push : Meth K CW "push" f_w_push
  f_w_undo : Addr
  fd_w_undo : FuncData
  F_w_undo : Fun K "undo" "Watch.undo" s_w_undo f_w_undo fd_w_undo
  b_w_undo : Binds K fd_w_undo ["self"] []
  me_w_undo : Meth K CW "undo" f_w_undo
  f_law_call : Addr
  fd_law_call : FuncData
  F_law_call : Fun K "_law_call" "_law_call" s_law_call f_law_call fd_law_call
  b_law_call : Binds K fd_law_call ["_law_shown", "_law_kind", "_law_thing"] []
  m_law_call : mg "_law_call" = some (.ref f_law_call)
  f_w_things : Addr
  fd_w_things : FuncData
  F_w_things : Fun K "things" "Watch.things" s_w_things f_w_things fd_w_things
  b_w_things : Binds K fd_w_things ["self"] []
  me_w_things : Meth K CW "things" f_w_things
  f_w_counts : Addr
  fd_w_counts : FuncData
  F_w_counts : Fun K "counts" "Watch.counts" s_w_counts f_w_counts fd_w_counts
  b_w_counts : Binds K fd_w_counts ["self"] []
  me_w_counts : Meth K CW "counts" f_w_counts
  f_w_init : Addr
  fd_w_init : FuncData
  F_w_init : Fun K "__init__" "Watch.__init__" s_w_init f_w_init fd_w_init
  b_w_init : Binds K fd_w_init ["self", "threshold"] []
  me_w_init : Meth K CW "__init__" f_w_init
  f_w_len : Addr
  fd_w_len : FuncData
  F_w_len : Fun K "__len__" "Watch.__len__" s_w_len f_w_len fd_w_len
  b_w_len : Binds K fd_w_len ["self"] []
  me_w_len : Meth K CW "__len__" f_w_len
  f_law : Addr
  fd_law : FuncData
  F_law : Fun K "law" "law" s_law f_law fd_law
  b_law : Binds K fd_law ["_law_script"] []
  m_law : mg "law" = some (.ref f_law)
  mkW : Mk K CW f_w_init
  le_W : PySem.W.findIn K (.ref CW) "__len__" = some (some (.ref f_w_len))
  li_W : PySem.W.isFn K (.ref f_w_len) = true
/-! ### what each def makes -/
def MU_law : DL.Env → Nat := fun ρ => match ((ρ : List Sl)[3]? : Option Sl) with | some (.d (.list ds)) => ds.length + 1 | _ => 0
def F_is_int : FS Unit := (sRet (eAnd (eIsi isInt (eVar 0)) (eAnd (eNot (eIsi isBool (eVar 0))) (eChain leD leD (eVar 1) (eVar 0) (eVar 2)))))
def sem_is_int : List D → Res Unit D := fnSem 0 F_is_int
def F_is_thing : FS Unit := (sSeq (sIf (fOr (fNot (fun ρ s => tstOf ((eIsi isTuple (eVar 0)) ρ s))) (fun ρ s => tstOf ((eOp neD (eCall lenD (aCons (eVar 0) aNil)) (eC (.int 2))) ρ s))) (sRet (eC (.bool false))) sNil)
  (sRet (eAnd (eFn 3 sem_is_int (aCons (eOp ixD (eVar 0) (eC (.int 0))) (aCons (eC (.int 0)) (aCons (eC (.int 99)) aNil)))) (eIsi isBool (eOp ixD (eVar 0) (eC (.int 1)))))))
def sem_is_thing : List D → Res Unit D := fnSem 0 F_is_thing
def F_check_threshold : FS Unit := (sIf (fNot (fun ρ s => tstOf ((eFn 3 sem_is_int (aCons (eVar 0) (aCons (eC (.int 0)) (aCons (eOp addD (eC (.int 99)) (eC (.int 1))) aNil)))) ρ s))) (sRaise 1) sNil)
def sem_check_threshold : List D → Res Unit D := fnSem 0 F_check_threshold
def F_law_pick : FS DSt := (sRet (eOp ixD (eVar 1) (eFnS 2 drawSem (aCons (eVar 0) (aCons (eCall lenD (aCons (eVar 1) aNil)) aNil)))))
def sem_law_pick : List D → DSt → Res DSt D := semS 0 F_law_pick
def F_law_error : FS (Addr × Nat) := (sSeq (sSet 1 (eLst (aCons (eIsX 0 (fun c => decide (c = 0))) (aCons (eIsX 0 (fun c => decide (c = 1))) (aCons (eIsX 0 (fun c => decide (c = 2))) aNil)))))
  (sSeq (sSet 1 (eOp addD (eVar 1) (eLst (aCons (eIsX 0 (fun c => decide (c = 3))) (aCons (eIsX 0 (fun c => decide (c = 4))) aNil)))))
  (sSeq (sIf (fOr (fun ρ s => tstOf ((eOp neD (eBmL countD (eVar 1) (eC (.bool true))) (eC (.int 1))) ρ s)) (fOr (fNot (fun ρ s => tstOf ((eIsX 0 (fun _ => true)) ρ s))) (fNot (fun ρ s => tstOf ((eIsX 0 (fun _ => true)) ρ s))))) (sRet (eC (.str "odd"))) sNil)
  (sRet (eOp ixD (eLst (aCons (eC (.str "things")) (aCons (eC (.str "number")) (aCons (eC (.str "points")) (aCons (eC (.str "text")) (aCons (eC (.str "none")) aNil)))))) (eBmL indexD (eVar 1) (eC (.bool true))))))))
def F_law_true : FS Unit := (sRet (eAnd (eIsi isBool (eVar 0)) (eOp eqD (eVar 0) (eVar 1))))
def sem_law_true : List D → Res Unit D := fnSem 0 F_law_true
def F_law_point : FS Unit := (sSeq (sSet 2 (eNew (lComp (lList (eVar 0)) [3, 4] (pTp 2 (psCons (pNm 3) (psCons (pNm 4) psNil))) (fun ρ s => tstOf ((eOp geD (eVar 3) (eVar 1)) ρ s)) (eVar 4))))
  (sRet (eTup (aCons (eBmL countD (eVar 2) (eC (.bool false))) (aCons (eBmL countD (eVar 2) (eC (.bool true))) aNil)))))
def sem_law_point : List D → Res Unit D := fnSem 3 F_law_point
def F_law_call : FS (Unit × WSt) := (sSeq (sSet 3 (eC .none))
  (sSeq (sSet 4 (eC .none))
  (sTry (sIf (fun ρ s => tstOf ((eOp eqD (eVar 1) (eC (.int 0))) ρ s)) (sSet 3 (eMethW 2 pushSem (eVar 0) (aCons (eVar 2) aNil))) (sIf (fun ρ s => tstOf ((eOp eqD (eVar 1) (eC (.int 1))) ρ s)) (sSet 3 (eMethW 2 moveSem (eVar 0) (aCons (eVar 2) aNil))) (sSet 3 (eMethW 1 undoSem (eVar 0) aNil)))) (sRet (eIf (fun ρ s => tstOf (eOp isND (eVar 4) (eC .none) ρ s)) (eVar 3) fun _ _ => .bad)))))
def sem_law_call : List D → WSt → Res WSt D := semW 3 F_law_call
def G_law : FG DSt := (gSeq (sSet 2 (eFnS 2 drawSem (aCons (eVar 1) (aCons (eC (.int 101)) aNil))))
  (gWat (eVar 2) (gPar 3 4 (eLst aNil) (gEnd (sSeq (sSet 5 (liftW (eFnS 2 sem_law_pick (aCons (eVar 1) (aCons (eLst (aCons (eC (.int 5)) (aCons (eC (.int 100)) aNil))) aNil)))))
  (sSeq (sFor (lRng1 (aCons (eC (.int 20)) aNil)) (pNm 6) (sSeq (sSet 7 (liftW (eFnS 2 sem_law_pick (aCons (eVar 1) (aCons (eLst (aCons (eC (.int 0)) (aCons (eC (.int 0)) (aCons (eC (.int 0)) (aCons (eC (.int 1)) (aCons (eC (.int 2)) aNil)))))) aNil)))))
  (sSeq (sIf (fun ρ s => tstOf ((eOp eqD (eVar 7) (eC (.int 0))) ρ s)) (sSeq (sSet 8 (eTup (aCons (liftW (eFnS 2 drawSem (aCons (eVar 1) (aCons (eVar 5) aNil)))) (aCons (eOp eqD (liftW (eFnS 2 drawSem (aCons (eVar 1) (aCons (eC (.int 2)) aNil)))) (eC (.int 0))) aNil))))
  (sSeq (sSet 4 (eOp addD (eVar 4) (eLst (aCons (eVar 8) aNil))))
  (sIf (fNot (fun ρ s => tstOf ((eFn 2 sem_law_true (aCons (eFnW 3 sem_law_call (aCons (eVar 3) (aCons (eC (.int 0)) (aCons (eVar 8) aNil)))) (aCons (eOp geD (eOp ixD (eVar 8) (eC (.int 0))) (eVar 2)) aNil))) ρ s))) (sRet (eC (.bool false))) sNil))) (sIf (fun ρ s => tstOf ((eOp eqD (eVar 7) (eC (.int 1))) ρ s)) (sSeq (sSet 9 (eVar 2))
  (sSeq (sSet 2 (liftW (eFnS 2 drawSem (aCons (eVar 1) (aCons (eOp addD (eVar 5) (eC (.int 1))) aNil)))))
  (sSeq (sSet 10 (eNew (lComp (lList (eVar 4)) [14, 15] (pTp 2 (psCons (pNm 14) (psCons (pNm 15) psNil))) (fun ρ s => tstOf ((eOp neD (eOp geD (eVar 14) (eVar 9)) (eOp geD (eVar 14) (eVar 2))) ρ s)) (eVar 14))))
  (sIf (fun ρ s => tstOf ((eOp neD (eFnW 3 sem_law_call (aCons (eVar 3) (aCons (eC (.int 1)) (aCons (eVar 2) aNil)))) (eCall lenD (aCons (eVar 10) aNil))) ρ s)) (sRet (eC (.bool false))) sNil)))) (sSeq (sIf (fun ρ s => tstOf ((eOp neD (eFnW 3 sem_law_call (aCons (eVar 3) (aCons (eC (.int 2)) (aCons (eC (.int 0)) aNil)))) (eIf (fun ρ s => tstOf ((eOp neD (eVar 4) (eLst aNil)) ρ s)) (eOp ixD (eVar 4) (eNeg (eC (.int 1)))) (eC (.str "none")))) ρ s)) (sRet (eC (.bool false))) sNil)
  (sSet 4 (eSl (eVar 4) oNone (oSome (eNeg (eC (.int 1)))))))))
  (sSeq (sIf (fOr (fun ρ s => tstOf ((eOp neD (eFnW 3 sem_law_call (aCons (eVar 3) (aCons (eC (.int 0)) (aCons (eTup (aCons (eC (.int 100)) (aCons (eC (.bool true)) aNil))) aNil)))) (eC (.str "things"))) ρ s)) (fun ρ s => tstOf ((eOp neD (eFnW 3 sem_law_call (aCons (eVar 3) (aCons (eC (.int 1)) (aCons (eC (.int 101)) aNil)))) (eC (.str "number"))) ρ s))) (sRet (eC (.bool false))) sNil)
  (sSeq (sAsg (pTp 2 (psCons (pNm 11) (psCons (pNm 12) psNil))) (eFn 2 sem_law_point (aCons (eVar 4) (aCons (eVar 2) aNil))))
  (sSeq (sSet 13 (eNew (lComp (lList (eVar 4)) [14, 15] (pTp 2 (psCons (pNm 14) (psCons (pNm 15) psNil))) fYes (eVar 15))))
  (sSeq (sIf (fun ρ s => tstOf ((eOp neD (eMethW 1 countsSem (eVar 3) aNil) (eTup (aCons (eVar 11) (aCons (eVar 12) (aCons (eOp subD (eBmL countD (eVar 13) (eC (.bool true))) (eVar 12)) (aCons (eOp subD (eBmL countD (eVar 13) (eC (.bool false))) (eVar 11)) aNil)))))) ρ s)) (sRet (eC (.bool false))) sNil)
  (sIf (fOr (fun ρ s => tstOf ((eOp neD (eMethW 1 thingsSem (eVar 3) aNil) (eVar 4)) ρ s)) (fun ρ s => tstOf ((eOp neD (eLenW (eVar 3)) (eCall lenD (aCons (eVar 4) aNil))) ρ s))) (sRet (eC (.bool false))) sNil))))))))
  (sRet (eC (.bool true)))))))))
def intW (v : D) (lo hi : Int) : Bool := match v with
  | .int i => decide (lo ≤ i) && decide (i ≤ hi)
  | _ => false
theorem wt_is_int (v : D) (lo hi : Int) : sem_is_int [v, .int lo, .int hi] = .ok (.bool (intW v lo hi)) () := by
  cases v with
  | int i => exact sem_rt (ev_ret (ev_andV (b := true) (c := decide (lo ≤ i) && decide (i ≤ hi)) rfl fun _ => ev_andV (b := true) (c := decide (lo ≤ i) && decide (i ≤ hi)) rfl fun _ => ev_chainT rfl rfl rfl rfl rfl))
  | _ => rfl
theorem wt_is_thing (d : D) : sem_is_thing [d] = .ok (.bool (isTh d).isSome) () := by
  cases d with
  | tuple ds =>
    match ds with
    | [] => rfl
    | [a] =>
      have e : (isTh (.tuple [a])).isSome = false := by cases a <;> rfl
      rw [e]
      rfl
    | [a, b] =>
      have e : (isTh (.tuple [a, b])).isSome = (intW a 0 99 && isBool b) := by
        cases a <;> cases b <;> simp [isTh, intW, isBool]
        rename_i i _
        by_cases h : 0 ≤ i ∧ i ≤ 99
        · rw [if_pos h]; simp [h]
        · rw [if_neg h]
          symm
          simp
          intro h0
          exact Int.not_le.mp fun h1 => h ⟨h0, h1⟩
      rw [e]
      refine sem_rt (m := 0) (F := F_is_thing) (ev_seq (ev_ifF rfl rfl) (ev_ret (ev_andV (b := intW a 0 99) (c := isBool b) (ev_fn rfl rfl rfl (wt_is_int a 0 99)) fun _ => rfl)))
    | a :: b :: c :: r =>
      have e : (isTh (.tuple (a :: b :: c :: r))).isSome = false := by cases a <;> first | rfl | (cases b <;> rfl)
      rw [e]
      have l : lenD [.tuple (a :: b :: c :: r)] = some (.int (((a :: b :: c :: r).length : Nat) : Int)) := rfl
      have n : neD (.int (((a :: b :: c :: r).length : Nat) : Int)) (.int 2) = some (.bool true) := by
        have h : ¬ (((a :: b :: c :: r).length : Nat) : Int) = 2 := by simp; omega
        unfold neD
        rw [if_pos (.inr (by simp [PyData.depth]))]
        simp [PyData.eqv]
        exact h
      exact sem_rt (m := 0) (F := F_is_thing) (ev_seqR (ev_ifT (ev_or (b := false) (c := true) rfl fun _ => ev_tst (ev_op (ev_call (ev_cons rfl rfl) rfl l) rfl n)) rfl))
  | _ => rfl
theorem wt_check_threshold (d : D) : sem_check_threshold [d] = if (isT d).isSome then .ok .none () else .er 1 () := by
  have e : (isT d).isSome = intW d 0 100 := by
    cases d <;> simp [isT, intW]
    rename_i i
    by_cases h : 0 ≤ i ∧ i ≤ 100
    · rw [if_pos h]; simp [h]
    · rw [if_neg h]
      symm
      simp
      intro h0
      exact Int.not_le.mp fun h1 => h ⟨h0, h1⟩
  rw [e]
  cases q : intW d 0 100 with
  | true => exact sem_nx (m := 0) (F := F_check_threshold) (ev_ifF (ev_not (b := true) (ev_tst (ev_fn rfl rfl rfl ((wt_is_int d 0 100).trans (by rw [q]))))) rfl)
  | false => exact sem_er (m := 0) (F := F_check_threshold) (ev_ifT (ev_not (b := false) (ev_tst (ev_fn rfl rfl rfl ((wt_is_int d 0 100).trans (by rw [q]))))) rfl)

section
variable {P : Program} {w : World} {K : PySem.W.Frag} {mg : Str → Option Value} {base : Heap}
theorem sc_is_int : FnScope N_is_int ["value", "low", "high"] (defScope s_is_int) := ⟨rfl, rfl, rfl, by decide +kernel, rfl, by decide +kernel, by decide +kernel⟩
theorem ok_is_int (T : Txt K mg) : FnOk P w K mg base (L2.CX P w) 1 T.f_is_int T.fd_is_int ["value", "low", "high"] (spD T.cl 3 sem_is_int) := by
  refine fn_pure (cl := T.cl) (k := 0) (m := 0) T.F_is_int sc_is_int rfl fun cdv A outer s H E hr => ?_
  have sc := sc_is_int
  have hu : _ + 65 < cLine := hu65 hr
  have tk := takesE (cl := T.cl) (takes_of (X := cxOf (L2.CX P w) P w K mg base N_is_int "is_int" (defScope s_is_int) T.f_is_int cdv A outer s H E) rfl rfl rfl rfl)
  have po := passes_of (X := cxOf (L2.CX P w) P w K mg base N_is_int "is_int" (defScope s_is_int) T.f_is_int cdv A outer s H E) rfl
  exact ⟨_, (dss_one (ds_ret (dx_and (dx_isi isi_int T.n_isinstance T.n_int (dx_var 0 (pv 0))) (dx_and (dx_not (dx_isi isi_bool T.n_isinstance T.n_bool (dx_var 0 (pv 0)))) (dx_one (dx_chain cm_le cm_le (dx_var 1 (pv 1)) (dx_var 0 (pv 0)) (dx_var 2 (pv 2))))))))⟩
theorem sc_is_thing : FnScope N_is_thing ["value"] (defScope s_is_thing) := ⟨rfl, rfl, rfl, by decide +kernel, rfl, by decide +kernel, by decide +kernel⟩
theorem ok_is_thing (T : Txt K mg) : FnOk P w K mg base (L2.CX P w) 2 T.f_is_thing T.fd_is_thing ["value"] (spD T.cl 1 sem_is_thing) := by
  refine fn_pure (cl := T.cl) (k := 1) (m := 0) T.F_is_thing sc_is_thing rfl fun cdv A outer s H E hr => ?_
  have sc := sc_is_thing
  have hu : _ + 65 < cLine := hu65 hr
  have tk := takesE (cl := T.cl) (takes_of (X := cxOf (L2.CX P w) P w K mg base N_is_thing "is_thing" (defScope s_is_thing) T.f_is_thing cdv A outer s H E) rfl rfl rfl rfl)
  have po := passes_of (X := cxOf (L2.CX P w) P w K mg base N_is_thing "is_thing" (defScope s_is_thing) T.f_is_thing cdv A outer s H E) rfl
  exact ⟨_, (dss_cons (ds_if (DXW.t (dxw_or (dxt_not (dxt_val (dx_isi isi_tuple T.n_isinstance T.n_tuple (dx_var 0 (pv 0))))) (dxw_or1 (dxt_cmp (cm_ne (Nat.lt_of_succ_lt hu)) (dx_callB cr_len sa_len rfl T.n_len PySem.boot_len (dxa_cons (dx_var 0 (pv 0)) dxa_nil)) dx_int)))) (dss_one (ds_ret dx_bl)) dss_nil)
  (dss_one (ds_ret (dx_and (dx_fn (ok_is_int T) (hr.mono (by decide)) T.m_is_int T.F_is_int.kp T.b_is_int tk (dxa_cons (dx_ix (dx_var 0 (pv 0)) dx_int) (dxa_cons dx_int (dxa_cons (dx_globI T.c_MOST_SCORE) dxa_nil)))) (dx_one (dx_isi isi_bool T.n_isinstance T.n_bool (dx_ix (dx_var 0 (pv 0)) dx_int)))))))⟩
theorem sc_check_threshold : FnScope N_check_threshold ["value"] (defScope s_check_threshold) := ⟨rfl, rfl, rfl, by decide +kernel, rfl, by decide +kernel, by decide +kernel⟩
theorem ok_check_threshold (T : Txt K mg) : FnOk P w K mg base (L2.CX P w) 2 T.f_check_threshold T.fd_check_threshold ["value"] (spD T.cl 1 sem_check_threshold) := by
  refine fn_pure (cl := T.cl) (k := 1) (m := 0) T.F_check_threshold sc_check_threshold rfl fun cdv A outer s H E hr => ?_
  have sc := sc_check_threshold
  have hu : _ + 65 < cLine := hu65 hr
  have tk := takesE (cl := T.cl) (takes_of (X := cxOf (L2.CX P w) P w K mg base N_check_threshold "check_threshold" (defScope s_check_threshold) T.f_check_threshold cdv A outer s H E) rfl rfl rfl rfl)
  have po := passes_of (X := cxOf (L2.CX P w) P w K mg base N_check_threshold "check_threshold" (defScope s_check_threshold) T.f_check_threshold cdv A outer s H E) rfl
  exact ⟨_, (dss_one (ds_if (dxt_not (dxt_val (dx_fn (ok_is_int T) (hr.mono (by decide)) T.m_is_int T.F_is_int.kp T.b_is_int tk (dxa_cons (dx_var 0 (pv 0)) (dxa_cons dx_int (dxa_cons (dx_add (dx_globI T.c_MOST_SCORE) dx_int) dxa_nil)))))) (dss_one (ds_raise 1 rfl tk PySem.F.excBase_ValueError T.x_BadNumber T.g_BadNumber T.k_BadNumber (raises_own T.e_BadNumber T.t_BadNumber))) dss_nil))⟩
theorem sc_law_start : FnScope N_law_start ["_law_script"] (defScope s_law_start) := ⟨rfl, rfl, rfl, by decide +kernel, rfl, by decide +kernel, by decide +kernel⟩
theorem ok_law_start (T : Txt K mg) : FnOk P w K mg base (L2.CX P w) 1 T.f_law_start T.fd_law_start ["_law_script"] (spStart K) := by
  refine T.F_law_start.okX sc_law_start (fun vs H Q E h => ?_) fun cdv A outer s H vs Q E hr h => ?_
  · obtain ⟨p, ns, rfl, _⟩ := h
    rfl
  · obtain ⟨p, ns, rfl, hs, hl, k⟩ := h
    have hu : _ + 65 < cLine := hu65 hr
    exact ⟨tStart K, pss_one (ps_ret (pe_lst (pa_cons (pe_ifExp (pt_cmpR (op_neE (Nat.lt_of_succ_lt hu)) (pv 0) (pe_lst pa_nil) (nomark _)) (pe_callTy cr_listE rfl T.n_list PyProof.Rows.boot_list (pa_cons (pv 0) pa_nil)) (pe_lst (pa_cons pe_int pa_nil))) (pa_cons pe_int pa_nil)))), start_t hs hl k⟩
theorem sc_law_draw : FnScope N_law_draw ["_law_draws", "_law_limit"] (defScope s_law_draw) := ⟨rfl, rfl, rfl, by decide +kernel, rfl, by decide +kernel, by decide +kernel⟩
theorem ok_law_draw (T : Txt K mg) : FnOk P w K mg base (L2.CX P w) 1 T.f_law_draw T.fd_law_draw ["_law_draws", "_law_limit"] (spS T.cl 2 drawSem) := by
  refine T.F_law_draw.okX sc_law_draw (fun vs H Q E h => h.1) fun cdv A outer s H vs Q E hr h => ?_
  have sc := sc_law_draw
  obtain ⟨hl, M0, s0, ws, ds, rfl, hM, ha, hb, hD, r, hs⟩ := h
  match ws, hl with
  | [v], _ =>
    refine ⟨tDraw K, pss_cons (ps_set (i := 2) sc.nd rfl (Or.inl rfl) (pe_ix ix_list (pv 0) pe_int fun _ _ => rfl)) (pss_cons (ps_asg (pe_op op_add (pe_ix ix_list (pv 0) pe_int fun _ _ => rfl) pe_int) (pg_sub (pv 0) pe_int set_list))
      (pss_cons (ps_set (i := 3) sc.nd rfl (Or.inl rfl) (pe_op op_mod (pe_ix ix_list (pv 0) pe_int fun _ _ => rfl) (pe_callB cr_len rfl T.n_len PySem.boot_len (pa_cons (pv 2) pa_nil)))) (pss_cons (ps_set (i := 4) sc.nd rfl (Or.inl rfl) (pe_ix ix_list (pv 2) (pv 3) fun _ _ => rfl))
      (pss_cons (ps_if (pt_cmpR op_ge (pv 4) pe_int (nomark _)) (pss_cons (ps_asg (pe_op op_fdiv (pv 4) (pv 1)) (pg_sub (pv 2) (pv 3) set_list)) (pss_one (ps_ret (pe_op op_mod (pv 4) (pv 1))))) pss_nil)
      (pss_cons (ps_set (i := 5) sc.nd rfl (Or.inl rfl) (pe_op op_mod (pe_op op_add (pv 4) (pe_op op_mul pe_int (pe_ix ix_list (pv 0) pe_int fun _ _ => rfl))) pe_int)) (pss_cons (ps_set (i := 5) sc.nd rfl (Or.inl rfl) (pe_op op_mod (pe_op op_pow (pv 5) pe_int) pe_int))
      (pss_one (ps_ret (pe_op op_mod (pe_op op_fdiv (pe_op op_mod (pe_op op_add (pe_op op_mul (pe_op op_fdiv (pv 5) pe_int) pe_int) (pv 5)) pe_int) pe_int) (pv 1)))))))))), ?_⟩
    refine draw_t hD ha hb r ?_
    cases e : drawSem ds s0 with
    | ok d s1 => rw [e] at hs; exact hs
    | er c s1 => trivial
    | bad => rw [e] at hs; exact hs
theorem sc_law_pick : FnScope N_law_pick ["_law_draws", "_law_choices"] (defScope s_law_pick) := ⟨rfl, rfl, rfl, by decide +kernel, rfl, by decide +kernel, by decide +kernel⟩
theorem ok_law_pick (T : Txt K mg) : FnOk P w K mg base (L2.CX P w) 2 T.f_law_pick T.fd_law_pick ["_law_draws", "_law_choices"] (spS T.cl 2 sem_law_pick) := by
  refine fn_draw (cl := T.cl) (k := 1) (m := 0) T.F_law_pick sc_law_pick rfl fun cdv A outer s H E hr => ?_
  have sc := sc_law_pick
  have hu : _ + 65 < cLine := hu65 hr
  have tk := takesE (cl := T.cl) (takes_of (X := cxOf (L2.CX P w) P w K mg base N_law_pick "_law_pick" (defScope s_law_pick) T.f_law_pick cdv A outer s H E) rfl rfl rfl rfl)
  have po := passes_of (X := cxOf (L2.CX P w) P w K mg base N_law_pick "_law_pick" (defScope s_law_pick) T.f_law_pick cdv A outer s H E) rfl
  exact ⟨_, (dss_one (ds_ret (dx_ix (dx_var 1 (pv 1)) (dx_fnS (ok_law_draw T) (hr.mono (by decide)) T.m_law_draw T.F_law_draw.kp T.b_law_draw tk (dxa_cons (dx_var 0 (pv 0)) (dxa_cons (dx_callB cr_len sa_len rfl T.n_len PySem.boot_len (dxa_cons (dx_var 1 (pv 1)) dxa_nil)) dxa_nil))))))⟩
theorem sc_law_error : FnScope N_law_error ["_law_caught"] (defScope s_law_error) := ⟨rfl, rfl, rfl, by decide +kernel, rfl, by decide +kernel, by decide +kernel⟩
theorem ok_law_error (T : Txt K mg) : FnOk P w K mg base (L2.CX P w) 1 T.f_law_error T.fd_law_error ["_law_caught"] (spErr T.cl) := by
  refine fn_err (cl := T.cl) (k := 0) (m := 1) (F := F_law_error) T.F_law_error sc_law_error rfl (fun cdv A outer s H E hr => ?_) DL.err_run
  have sc := sc_law_error
  have hu : _ + 65 < cLine := hu65 hr
  have tk := takesE (cl := T.cl) (takes_of (X := cxOf (L2.CX P w) P w K mg base N_law_error "_law_error" (defScope s_law_error) T.f_law_error cdv A outer s H E) rfl rfl rfl rfl)
  exact ⟨_, (dss_cons (ds_set 1 sc.nd (dx_lst (dxa_cons (dx_isX 0 (fun c => decide (c = 0)) T.n_isinstance T.ER.E (pv 0) (pe_glob (v := .ref (T.cl 0)) rfl T.g_BadThings rfl) rel_ref (T.ER.q 0 (by decide))) (dxa_cons (dx_isX 0 (fun c => decide (c = 1)) T.n_isinstance T.ER.E (pv 0) (pe_glob (v := .ref (T.cl 1)) rfl T.g_BadNumber rfl) rel_ref (T.ER.q 1 (by decide))) (dxa_cons (dx_isX 0 (fun c => decide (c = 2)) T.n_isinstance T.ER.E (pv 0) (pe_glob (v := .ref (T.cl 2)) rfl T.g_BadPoints rfl) rel_ref (T.ER.q 2 (by decide))) dxa_nil)))))
  (dss_cons (ds_set 1 sc.nd (dx_add (dx_var 1 (pv 1)) (dx_lst (dxa_cons (dx_isX 0 (fun c => decide (c = 3)) T.n_isinstance T.ER.E (pv 0) (pe_glob (v := .ref (T.cl 3)) rfl T.g_BadText rfl) rel_ref (T.ER.q 3 (by decide))) (dxa_cons (dx_isX 0 (fun c => decide (c = 4)) T.n_isinstance T.ER.E (pv 0) (pe_glob (v := .ref (T.cl 4)) rfl T.g_NotFound rfl) rel_ref (T.ER.q 4 (by decide))) dxa_nil)))))
  (dss_cons (ds_if (DXW.t (dxw_or (dxt_cmp (cm_ne (Nat.lt_of_succ_lt hu)) (dx_count hu (dx_var 1 (pv 1)) dx_bl) dx_int) (dxw_or (dxt_not (dxt_val (dx_isX 0 (fun _ => true) T.n_isinstance T.ER.E (pv 0) (pe_glob (v := .ref T.CA) rfl T.g_AlarmError rfl) rel_ref T.ER.qA))) (dxw_or1 (dxt_not (dxt_val (dx_isX 0 (fun _ => true) T.n_isinstance T.ER.E (pv 0) (pe_bltn (v := .ty "ValueError") (u := .type "ValueError") rfl T.n_ValueError (by decide +kernel) rfl) rel_ty T.ER.qV))))))) (dss_one (ds_ret (dx_str))) dss_nil)
  (dss_one (ds_ret (dx_ix (dx_lst (dxa_cons (dx_str) (dxa_cons (dx_str) (dxa_cons (dx_str) (dxa_cons (dx_str) (dxa_cons (dx_str) dxa_nil)))))) (dx_index hu (dx_var 1 (pv 1)) dx_bl)))))))⟩
theorem sc_law_true : FnScope N_law_true ["_law_value", "_law_expected"] (defScope s_law_true) := ⟨rfl, rfl, rfl, by decide +kernel, rfl, by decide +kernel, by decide +kernel⟩
theorem ok_law_true (T : Txt K mg) : FnOk P w K mg base (L2.CX P w) 1 T.f_law_true T.fd_law_true ["_law_value", "_law_expected"] (spD T.cl 2 sem_law_true) := by
  refine fn_pure (cl := T.cl) (k := 0) (m := 0) T.F_law_true sc_law_true rfl fun cdv A outer s H E hr => ?_
  have sc := sc_law_true
  have hu : _ + 65 < cLine := hu65 hr
  have tk := takesE (cl := T.cl) (takes_of (X := cxOf (L2.CX P w) P w K mg base N_law_true "_law_true" (defScope s_law_true) T.f_law_true cdv A outer s H E) rfl rfl rfl rfl)
  have po := passes_of (X := cxOf (L2.CX P w) P w K mg base N_law_true "_law_true" (defScope s_law_true) T.f_law_true cdv A outer s H E) rfl
  exact ⟨_, (dss_one (ds_ret (dx_and (dx_isi isi_bool T.n_isinstance T.n_bool (dx_var 0 (pv 0))) (dx_one (dx_cmp (cm_eq (Nat.lt_of_succ_lt hu)) (dx_var 0 (pv 0)) (dx_var 1 (pv 1)))))))⟩
theorem sc_law_point : FnScope N_law_point ["_law_things", "_law_threshold"] (defScope s_law_point) := ⟨rfl, rfl, rfl, by decide +kernel, rfl, by decide +kernel, by decide +kernel⟩
theorem ok_law_point (T : Txt K mg) : FnOk P w K mg base (L2.CX P w) 1 T.f_law_point T.fd_law_point ["_law_things", "_law_threshold"] (spD T.cl 2 sem_law_point) := by
  refine fn_pure (cl := T.cl) (k := 0) (m := 3) T.F_law_point sc_law_point rfl fun cdv A outer s H E hr => ?_
  have sc := sc_law_point
  have hu : _ + 65 < cLine := hu65 hr
  have tk := takesE (cl := T.cl) (takes_of (X := cxOf (L2.CX P w) P w K mg base N_law_point "_law_point" (defScope s_law_point) T.f_law_point cdv A outer s H E) rfl rfl rfl rfl)
  have po := passes_of (X := cxOf (L2.CX P w) P w K mg base N_law_point "_law_point" (defScope s_law_point) T.f_law_point cdv A outer s H E) rfl
  exact ⟨_, (dss_cons (ds_setLc1 (own := [("_law_score", 3), ("_law_faulty", 4)]) 2 rfl sc.nd (di_list (dx_var 0 (pv 0))) (blkOk_by (N := N_law_point) (sc := defScope s_law_point) (by decide +kernel)) (fun _ _ _ _ _ => (dg_tup rfl (dgs_cons (dg_name 3 sc.nd) (dgs_cons (dg_name 4 sc.nd) dgs_nil)))) (fun _ _ _ _ _ => (dxt_cmp cm_ge (dx_var 3 (pv 3)) (dx_var 1 (pv 1)))) (fun _ _ _ _ _ => (dx_var 4 (pv 4))))
  (dss_one (ds_ret (dx_tup (dxa_cons (dx_count hu (dx_var 2 (pv 2)) dx_bl) (dxa_cons (dx_count hu (dx_var 2 (pv 2)) dx_bl) dxa_nil))))))⟩
theorem sc_w_move : FnScope N_w_move ["self", "threshold"] (defScope s_w_move) := ⟨rfl, rfl, rfl, by decide +kernel, rfl, by decide +kernel, by decide +kernel⟩
theorem ok_w_move (T : Txt K mg) : FnOk P w K mg base (L2.CX P w) 3 T.f_w_move T.fd_w_move ["self", "threshold"] (spM T.CW T.cl 2 moveSem) := by
  refine T.F_w_move.okX sc_w_move (fun vs H Q E h => h.1) fun cdv A outer s H vs Q E hr h => ?_
  have sc := sc_w_move
  have hu : _ + 65 < cLine := hu65 hr
  have tk := takes_of (X := cxOf (L2.CX P w) P w K mg base N_w_move "Watch.move" (defScope s_w_move) T.f_w_move cdv A outer s H E) rfl rfl rfl rfl
  have po := passes_of (X := cxOf (L2.CX P w) P w K mg base N_w_move "Watch.move" (defScope s_w_move) T.f_w_move cdv A outer s H E) rfl
  obtain ⟨hl, M0, w0, ws, ds, rfl, hM, hT, r, hs⟩ := h
  match ws, hl with
  | [v], _ =>
    exact ⟨tMove K T.cl sem_check_threshold (fun cls d _ H => E cls d H), pss_cons (ps_expr (pe_callS (ok_check_threshold T) (hr.mono (by decide)) rfl T.m_check_threshold T.F_check_threshold.kp T.b_check_threshold (fun σ => passAt tk σ) (pa_cons (pv 1) pa_nil))) (pss_cons (ps_asg (pe_tup (pa_cons (pe_callB (cr_min2 rfl) (by rfl) T.n_min (by decide +kernel) (pa_cons (pv 1) (pa_cons (pe_fld (pv 0) rfl) pa_nil))) (pa_cons (pe_callB (cr_max2 rfl) (by rfl) T.n_max (by decide +kernel) (pa_cons (pv 1) (pa_cons (pe_fld (pv 0) rfl) pa_nil))) pa_nil))) (pg_tup rfl (pgs_cons (pg_name (i := 2) sc.nd rfl (by first | exact .inl rfl | exact .inr rfl)) (pgs_cons (pg_name (i := 3) sc.nd rfl (by first | exact .inl rfl | exact .inr rfl)) pgs_nil)))) (pss_cons (ps_fld (pv 0) (pv 1) rfl) (pss_one (ps_ret (pe_callB cr_len (by rfl) T.n_len PySem.boot_len (pa_cons (pe_lc (own := [("score", 4), ("faulty", 5)]) rfl sc.nd (pi_list (pe_fld (pv 0) rfl)) (blkOk_by (N := N_w_move) (sc := defScope s_w_move) (by decide +kernel)) (fun _ _ _ _ _ => (pg_tup rfl (pgs_cons (pg_name (i := 4) sc.nd rfl (by first | exact .inl rfl | exact .inr rfl)) (pgs_cons (pg_name (i := 5) sc.nd rfl (by first | exact .inl rfl | exact .inr rfl)) pgs_nil)))) (fun _ _ _ _ _ => pts_one (pt_chain op_le op_lt (pv 2) (pv 4) (pv 3))) (fun _ _ _ _ _ => pe_int)) pa_nil)))))), move_t T.wc T.nT T.nL wt_check_threshold hM hT r hs⟩
theorem sc_w_push : FnScope N_w_push ["self", "thing"] (defScope s_w_push) := ⟨rfl, rfl, rfl, by decide +kernel, rfl, by decide +kernel, by decide +kernel⟩
theorem ok_w_push (T : Txt K mg) : FnOk P w K mg base (L2.CX P w) 3 T.f_w_push T.fd_w_push ["self", "thing"] (spM T.CW T.cl 2 pushSem) := by
  refine T.F_w_push.okX sc_w_push (fun vs H Q E h => h.1) fun cdv A outer s H vs Q E hr h => ?_
  have sc := sc_w_push
  have hu : _ + 65 < cLine := hu65 hr
  have tk := takes_of (X := cxOf (L2.CX P w) P w K mg base N_w_push "Watch.push" (defScope s_w_push) T.f_w_push cdv A outer s H E) rfl rfl rfl rfl
  have po := passes_of (X := cxOf (L2.CX P w) P w K mg base N_w_push "Watch.push" (defScope s_w_push) T.f_w_push cdv A outer s H E) rfl
  obtain ⟨hl, M0, w0, ws, ds, rfl, hM, hT, r, hs⟩ := h
  match ws, hl with
  | [v], _ =>
    exact ⟨tPush K T.cl sem_is_thing (fun cls d _ H => E cls d H), pss_cons (ps_if (pt_not (pt_val (pe_callS (ok_is_thing T) (hr.mono (by decide)) rfl T.m_is_thing T.F_is_thing.kp T.b_is_thing (fun σ => passAt tk σ) (pa_cons (pv 1) pa_nil)))) (pss_one (ps_raise rfl tk (pmk_own PySem.F.excBase_ValueError T.x_BadThings T.g_BadThings T.k_BadThings (raises_own T.e_BadThings T.t_BadThings) rfl))) pss_nil) (pss_cons (ps_expr (pe_bm PySem.F.plainAttrs_list PySem.F.slot_list_append PySem.F.type_list_append mt_append (pe_fld (pv 0) rfl) (pa_cons (pv 1) pa_nil))) (pss_one (ps_ret (pe_cmpR op_ge (pe_ix ix_tup (pv 1) pe_int fun _ _ => rfl) (pe_fld (pv 0) rfl) (nomark _))))), push_t T.wc T.nT T.nL wt_is_thing hM hT r hs⟩
theorem sc_w_undo : FnScope N_w_undo ["self"] (defScope s_w_undo) := ⟨rfl, rfl, rfl, by decide +kernel, rfl, by decide +kernel, by decide +kernel⟩
theorem ok_w_undo (T : Txt K mg) : FnOk P w K mg base (L2.CX P w) 1 T.f_w_undo T.fd_w_undo ["self"] (spM T.CW T.cl 1 undoSem) := by
  refine T.F_w_undo.okX sc_w_undo (fun vs H Q E h => h.1) fun cdv A outer s H vs Q E hr h => ?_
  have sc := sc_w_undo
  have hu : _ + 65 < cLine := hu65 hr
  have tk := takes_of (X := cxOf (L2.CX P w) P w K mg base N_w_undo "Watch.undo" (defScope s_w_undo) T.f_w_undo cdv A outer s H E) rfl rfl rfl rfl
  have po := passes_of (X := cxOf (L2.CX P w) P w K mg base N_w_undo "Watch.undo" (defScope s_w_undo) T.f_w_undo cdv A outer s H E) rfl
  obtain ⟨hl, M0, w0, ws, ds, rfl, hM, hT, r, hs⟩ := h
  match ws, hl with
  | [], _ =>
    exact ⟨tUndo K T.cl (fun cls d _ H => E cls d H), pss_cons (ps_if (pt_cmpR (op_eqE (Nat.lt_of_succ_lt hu)) (pe_fld (pv 0) rfl) (pe_lst pa_nil) (nomark _)) (pss_one (ps_raise rfl tk (pmk_own PySem.F.excBase_ValueError T.x_NotFound T.g_NotFound T.k_NotFound (raises_own T.e_NotFound T.t_NotFound) rfl))) pss_nil) (pss_one (ps_ret (pe_bm0 PySem.F.plainAttrs_list PySem.F.slot_list_pop PySem.F.type_list_pop mt_pop (pe_fld (pv 0) rfl)))), undo_t T.wc T.nL hM hT r hs⟩
theorem sc_law_call : FnScope N_law_call ["_law_shown", "_law_kind", "_law_thing"] (defScope s_law_call) := ⟨rfl, rfl, rfl, by decide +kernel, rfl, by decide +kernel, by decide +kernel⟩
theorem ok_law_call (T : Txt K mg) : FnOk P w K mg base (L2.CX P w) 4 T.f_law_call T.fd_law_call ["_law_shown", "_law_kind", "_law_thing"] (spM T.CW T.cl 3 sem_law_call) := by
  refine fn_watch (cl := T.cl) (C := T.CW) (k := 3) (m := 3) T.F_law_call sc_law_call rfl fun cdv A outer s H E hr => ?_
  have sc := sc_law_call
  have hu : _ + 65 < cLine := hu65 hr
  have tk := takesE (cl := T.cl) (takes_of (X := cxOf (L2.CX P w) P w K mg base N_law_call "_law_call" (defScope s_law_call) T.f_law_call cdv A outer s H E) rfl rfl rfl rfl)
  have po := passes_of (X := cxOf (L2.CX P w) P w K mg base N_law_call "_law_call" (defScope s_law_call) T.f_law_call cdv A outer s H E) rfl
  exact ⟨_, (dss_cons (ds_set 3 sc.nd dx_non)
  (dss_cons (ds_set 4 sc.nd dx_non)
  (dss_try 5 4 rfl rfl rfl sc.nd (by decide) ⟨rfl, by decide, .inl T.g_AlarmError⟩ T.ER.A (fun _ _ _ => pv 5) (pv 4) (pv 4) (fun Wx2 pn2 xe2 tk => (dss_one (ds_if (dxt_cmp (cm_eq (Nat.lt_of_succ_lt hu)) (dx_var 1 (pv 1)) dx_int) (dss_one (ds_set 3 sc.nd (dx_meth (T.me_w_push) (ok_w_push T) T.wc (hr.mono (by decide)) T.b_w_push tk (by decide +kernel) (by decide +kernel) (dx_var 0 (pv 0)) (dxa_cons (dx_var 2 (pv 2)) dxa_nil)))) (dss_one (ds_if (dxt_cmp (cm_eq (Nat.lt_of_succ_lt hu)) (dx_var 1 (pv 1)) dx_int) (dss_one (ds_set 3 sc.nd (dx_meth (T.me_w_move) (ok_w_move T) T.wc (hr.mono (by decide)) T.b_w_move tk (by decide +kernel) (by decide +kernel) (dx_var 0 (pv 0)) (dxa_cons (dx_var 2 (pv 2)) dxa_nil)))) (dss_one (ds_set 3 sc.nd (dx_meth0 (T.me_w_undo) (ok_w_undo T) T.wc (hr.mono (by decide)) T.b_w_undo tk (by decide +kernel) (by decide +kernel) (dx_var 0 (pv 0))))))))))
  (dx_var 3 (pv 3)) (ok_law_error T) (hr.mono (by decide)) T.m_law_error T.F_law_error.kp T.b_law_error tk)))⟩
theorem sc_w_things : FnScope N_w_things ["self"] (defScope s_w_things) := ⟨rfl, rfl, rfl, by decide +kernel, rfl, by decide +kernel, by decide +kernel⟩
theorem ok_w_things (T : Txt K mg) : FnOk P w K mg base (L2.CX P w) 1 T.f_w_things T.fd_w_things ["self"] (spM T.CW T.cl 1 thingsSem) := by
  refine T.F_w_things.okX sc_w_things (fun vs H Q E h => h.1) fun cdv A outer s H vs Q E hr h => ?_
  have sc := sc_w_things
  have hu : _ + 65 < cLine := hu65 hr
  have tk := takes_of (X := cxOf (L2.CX P w) P w K mg base N_w_things "Watch.things" (defScope s_w_things) T.f_w_things cdv A outer s H E) rfl rfl rfl rfl
  have po := passes_of (X := cxOf (L2.CX P w) P w K mg base N_w_things "Watch.things" (defScope s_w_things) T.f_w_things cdv A outer s H E) rfl
  obtain ⟨hl, M0, w0, ws, ds, rfl, hM, hT, r, hs⟩ := h
  match ws, hl with
  | [], _ =>
    exact ⟨tThings K, pss_one (ps_ret (pe_callTy cr_listOf (by rfl) T.n_list PyProof.Rows.boot_list (pa_cons (pe_fld (pv 0) rfl) pa_nil))), things_t (cl := T.cl) (E := E) T.wc T.nL hM hT r hs⟩
theorem sc_w_counts : FnScope N_w_counts ["self"] (defScope s_w_counts) := ⟨rfl, rfl, rfl, by decide +kernel, rfl, by decide +kernel, by decide +kernel⟩
theorem ok_w_counts (T : Txt K mg) : FnOk P w K mg base (L2.CX P w) 1 T.f_w_counts T.fd_w_counts ["self"] (spM T.CW T.cl 1 countsSem) := by
  refine T.F_w_counts.okX sc_w_counts (fun vs H Q E h => h.1) fun cdv A outer s H vs Q E hr h => ?_
  have sc := sc_w_counts
  have hu : _ + 65 < cLine := hu65 hr
  have tk := takes_of (X := cxOf (L2.CX P w) P w K mg base N_w_counts "Watch.counts" (defScope s_w_counts) T.f_w_counts cdv A outer s H E) rfl rfl rfl rfl
  have po := passes_of (X := cxOf (L2.CX P w) P w K mg base N_w_counts "Watch.counts" (defScope s_w_counts) T.f_w_counts cdv A outer s H E) rfl
  obtain ⟨hl, M0, w0, ws, ds, rfl, hM, hT, r, hs⟩ := h
  match ws, hl with
  | [], _ =>
    exact ⟨tCounts K, pss_cons (ps_set (i := 1) sc.nd rfl (.inl rfl) (pe_lst (pa_cons pe_int (pa_cons pe_int (pa_cons pe_int (pa_cons pe_int pa_nil)))))) (pss_cons (ps_for po rfl (pi_list (pe_fld (pv 0) rfl)) (pg_tup rfl (pgs_cons (pg_name (i := 2) sc.nd rfl (by first | exact .inl rfl | exact .inr rfl)) (pgs_cons (pg_name (i := 3) sc.nd rfl (by first | exact .inl rfl | exact .inr rfl)) pgs_nil))) (pss_one (ps_if (pt_cmpR op_ge (pv 2) (pe_fld (pv 0) rfl) (nomark _)) (pss_one (ps_augS (pv 1) (pe_ifExp (pt_val (pv 3)) pe_int pe_int) get_list pe_int ip_add set_list)) (pss_one (ps_augS (pv 1) (pe_ifExp (pt_val (pv 3)) pe_int pe_int) get_list pe_int ip_add set_list))))) (pss_one (ps_ret (pe_callTy cr_tupOf (by rfl) T.n_tuple PyProof.Rows.boot_tuple (pa_cons (pv 1) pa_nil))))), counts_t (cl := T.cl) (E := E) T.wc T.nT T.nL hM hT r hs⟩
theorem sc_w_init : FnScope N_w_init ["self", "threshold"] (defScope s_w_init) := ⟨rfl, rfl, rfl, by decide +kernel, rfl, by decide +kernel, by decide +kernel⟩
theorem ok_w_init (T : Txt K mg) : FnOk P w K mg base (L2.CX P w) 3 T.f_w_init T.fd_w_init ["self", "threshold"] (spInit T.CW T.cl) := by
  refine T.F_w_init.okX sc_w_init (fun vs H Q E h => by obtain ⟨_, _, _, _, _, rfl, _⟩ := h; rfl) fun cdv A outer s H vs Q E hr h => ?_
  have sc := sc_w_init
  have hu : _ + 65 < cLine := hu65 hr
  have tk := takes_of (X := cxOf (L2.CX P w) P w K mg base N_w_init "Watch.__init__" (defScope s_w_init) T.f_w_init cdv A outer s H E) rfl rfl rfl rfl
  have po := passes_of (X := cxOf (L2.CX P w) P w K mg base N_w_init "Watch.__init__" (defScope s_w_init) T.f_w_init cdv A outer s H E) rfl
  exact ⟨tInit K T.cl sem_check_threshold (fun cls d _ H => E cls d H), pss_cons (ps_expr (pe_callS (ok_check_threshold T) (hr.mono (by decide)) rfl T.m_check_threshold T.F_check_threshold.kp T.b_check_threshold (fun σ => passAt tk σ) (pa_cons (pv 1) pa_nil))) (pss_cons (ps_fld (pv 0) (pv 1) rfl) (pss_one (ps_fld (pv 0) (pe_lst pa_nil) rfl))), init_t T.wc T.nT T.nL wt_check_threshold h⟩
theorem sc_w_len : FnScope N_w_len ["self"] (defScope s_w_len) := ⟨rfl, rfl, rfl, by decide +kernel, rfl, by decide +kernel, by decide +kernel⟩
theorem ok_w_len (T : Txt K mg) : FnOk P w K mg base (L2.CX P w) 1 T.f_w_len T.fd_w_len ["self"] (spM T.CW T.cl 1 lenSem) := by
  refine T.F_w_len.okX sc_w_len (fun vs H Q E h => h.1) fun cdv A outer s H vs Q E hr h => ?_
  have sc := sc_w_len
  have hu : _ + 65 < cLine := hu65 hr
  have tk := takes_of (X := cxOf (L2.CX P w) P w K mg base N_w_len "Watch.__len__" (defScope s_w_len) T.f_w_len cdv A outer s H E) rfl rfl rfl rfl
  have po := passes_of (X := cxOf (L2.CX P w) P w K mg base N_w_len "Watch.__len__" (defScope s_w_len) T.f_w_len cdv A outer s H E) rfl
  obtain ⟨hl, M0, w0, ws, ds, rfl, hM, hT, r, hs⟩ := h
  match ws, hl with
  | [], _ =>
    exact ⟨tLenW K, pss_one (ps_ret (pe_callB cr_len (by rfl) T.n_len PySem.boot_len (pa_cons (pe_fld (pv 0) rfl) pa_nil))), len_t (cl := T.cl) (E := E) T.wc T.nL hM hT r hs⟩
theorem sc_law : FnScope N_law ["_law_script"] (defScope s_law) := ⟨rfl, rfl, rfl, by decide +kernel, rfl, by decide +kernel, by decide +kernel⟩
theorem ok_law (T : Txt K mg) (hF : ∀ (a b : Addr) (nums : List Int), nums ≠ [] → nums.length ≤ 63 → G_law (.no :: .v (.ref a) :: List.replicate 14 .no) ⟨a, b, nums, 0⟩) : FnOk P w K mg base (L2.CX P w) 5 T.f_law T.fd_law ["_law_script"] (spLaw K) := by
  refine law_good (cl := T.cl) (k := 4) T.F_law sc_law rfl rfl (fun cdv A outer s H E hr => ⟨ps_set (i := 1) sc_law.nd rfl (by first | exact Or.inl rfl | exact Or.inr rfl) (pe_callS (ok_law_start T) (hr.mono (by decide)) rfl T.m_law_start T.F_law_start.kp T.b_law_start (fun σ => passAt takesN σ) (pa_cons (pv 0) pa_nil)), ?_⟩) hF
  have sc := sc_law
  have hu : _ + 65 < cLine := hu65 hr
  have tk := takesN (cl := T.cl) (X := cxOf (L2.CX P w) P w K mg base N_law "law" (defScope s_law) T.f_law cdv A outer s H E)
  have po := passes_of (X := cxOf (L2.CX P w) P w K mg base N_law "law" (defScope s_law) T.f_law cdv A outer s H E) rfl
  exact ⟨_, (dqs_cons (ds_set 2 sc.nd (dx_fnS (ok_law_draw T) (hr.mono (by decide)) T.m_law_draw T.F_law_draw.kp T.b_law_draw tk (dxa_cons (dx_var 1 (pv 1)) (dxa_cons dx_int dxa_nil))))
  (dqs_watchPar 3 4 rfl T.mkW (ok_w_init T) (holds_draw _) (hr.mono (by decide)) T.mgW T.b_w_init sc.nd (dx_var 2 (pv 2)) (dx_lst dxa_nil) (dqs_end (dss_cons (ds_set 5 sc.nd (dx_liftW (dx_fnS (ok_law_pick T) (hr.mono (by decide)) T.m_law_pick T.F_law_pick.kp T.b_law_pick tk (dxa_cons (dx_var 1 (pv 1)) (dxa_cons (dx_lst (dxa_cons dx_int (dxa_cons dx_int dxa_nil))) dxa_nil)))))
  (dss_cons (ds_for po rfl (di_range1 T.n_range (dxa_cons dx_int dxa_nil)) (dg_name 6 sc.nd) (dss_cons (ds_set 7 sc.nd (dx_liftW (dx_fnS (ok_law_pick T) (hr.mono (by decide)) T.m_law_pick T.F_law_pick.kp T.b_law_pick tk (dxa_cons (dx_var 1 (pv 1)) (dxa_cons (dx_lst (dxa_cons dx_int (dxa_cons dx_int (dxa_cons dx_int (dxa_cons dx_int (dxa_cons dx_int dxa_nil)))))) dxa_nil)))))
  (dss_cons (ds_if (dxt_cmp (cm_eq (Nat.lt_of_succ_lt hu)) (dx_var 7 (pv 7)) dx_int) (dss_cons (ds_set 8 sc.nd (dx_tup (dxa_cons (dx_liftW (dx_fnS (ok_law_draw T) (hr.mono (by decide)) T.m_law_draw T.F_law_draw.kp T.b_law_draw tk (dxa_cons (dx_var 1 (pv 1)) (dxa_cons (dx_var 5 (pv 5)) dxa_nil)))) (dxa_cons (dx_cmp (cm_eq (Nat.lt_of_succ_lt hu)) (dx_liftW (dx_fnS (ok_law_draw T) (hr.mono (by decide)) T.m_law_draw T.F_law_draw.kp T.b_law_draw tk (dxa_cons (dx_var 1 (pv 1)) (dxa_cons dx_int dxa_nil)))) dx_int) dxa_nil))))
  (dss_cons (ds_set 4 sc.nd (dx_add (dx_var 4 (pv 4)) (dx_lst (dxa_cons (dx_var 8 (pv 8)) dxa_nil))))
  (dss_one (ds_if (dxt_not (dxt_val (dx_fn (ok_law_true T) (hr.mono (by decide)) T.m_law_true T.F_law_true.kp T.b_law_true tk (dxa_cons (dx_fnW (ok_law_call T) (hr.mono (by decide)) T.m_law_call T.F_law_call.kp T.b_law_call tk (dxa_cons (dx_var 3 (pv 3)) (dxa_cons dx_int (dxa_cons (dx_var 8 (pv 8)) dxa_nil)))) (dxa_cons (dx_cmp cm_ge (dx_ix (dx_var 8 (pv 8)) dx_int) (dx_var 2 (pv 2))) dxa_nil))))) (dss_one (ds_ret dx_bl)) dss_nil)))) (dss_one (ds_if (dxt_cmp (cm_eq (Nat.lt_of_succ_lt hu)) (dx_var 7 (pv 7)) dx_int) (dss_cons (ds_set 9 sc.nd (dx_var 2 (pv 2)))
  (dss_cons (ds_set 2 sc.nd (dx_liftW (dx_fnS (ok_law_draw T) (hr.mono (by decide)) T.m_law_draw T.F_law_draw.kp T.b_law_draw tk (dxa_cons (dx_var 1 (pv 1)) (dxa_cons (dx_add (dx_var 5 (pv 5)) dx_int) dxa_nil)))))
  (dss_cons (ds_setLc1 (own := [("_law_score", 14), ("_law_mark", 15)]) 10 rfl sc.nd (di_list (dx_var 4 (pv 4))) (blkOk_by (N := N_law) (sc := defScope s_law) (by decide +kernel)) (fun _ _ _ _ _ => (dg_tup rfl (dgs_cons (dg_name 14 sc.nd) (dgs_cons (dg_name 15 sc.nd) dgs_nil)))) (fun _ _ _ _ _ => (dxt_cmp (cm_ne (Nat.lt_of_succ_lt hu)) (dx_cmp cm_ge (dx_var 14 (pv 14)) (dx_var 9 (pv 9))) (dx_cmp cm_ge (dx_var 14 (pv 14)) (dx_var 2 (pv 2))))) (fun _ _ _ _ _ => (dx_var 14 (pv 14))))
  (dss_one (ds_if (dxt_cmp (cm_ne (Nat.lt_of_succ_lt hu)) (dx_fnW (ok_law_call T) (hr.mono (by decide)) T.m_law_call T.F_law_call.kp T.b_law_call tk (dxa_cons (dx_var 3 (pv 3)) (dxa_cons dx_int (dxa_cons (dx_var 2 (pv 2)) dxa_nil)))) (dx_callB cr_len sa_len rfl T.n_len PySem.boot_len (dxa_cons (dx_var 10 (pv 10)) dxa_nil))) (dss_one (ds_ret dx_bl)) dss_nil))))) (dss_cons (ds_if (dxt_cmp (cm_ne (Nat.lt_of_succ_lt hu)) (dx_fnW (ok_law_call T) (hr.mono (by decide)) T.m_law_call T.F_law_call.kp T.b_law_call tk (dxa_cons (dx_var 3 (pv 3)) (dxa_cons dx_int (dxa_cons dx_int dxa_nil)))) (dx_if (dxt_cmp (cm_ne (Nat.lt_of_succ_lt hu)) (dx_var 4 (pv 4)) (dx_lst dxa_nil)) (dx_ix (dx_var 4 (pv 4)) (dx_neg dx_int)) (dx_str))) (dss_one (ds_ret dx_bl)) dss_nil)
  (dss_one (ds_set 4 sc.nd (dx_sl (dx_var 4 (pv 4)) dxo_none (dxo_some (dx_neg dx_int)))))))))
  (dss_cons (ds_if (DXW.t (dxw_or (dxt_cmp (cm_ne (Nat.lt_of_succ_lt hu)) (dx_fnW (ok_law_call T) (hr.mono (by decide)) T.m_law_call T.F_law_call.kp T.b_law_call tk (dxa_cons (dx_var 3 (pv 3)) (dxa_cons dx_int (dxa_cons (dx_tup (dxa_cons dx_int (dxa_cons dx_bl dxa_nil))) dxa_nil)))) (dx_str)) (dxw_or1 (dxt_cmp (cm_ne (Nat.lt_of_succ_lt hu)) (dx_fnW (ok_law_call T) (hr.mono (by decide)) T.m_law_call T.F_law_call.kp T.b_law_call tk (dxa_cons (dx_var 3 (pv 3)) (dxa_cons dx_int (dxa_cons dx_int dxa_nil)))) (dx_str))))) (dss_one (ds_ret dx_bl)) dss_nil)
  (dss_cons (ds_asg (dx_fn (ok_law_point T) (hr.mono (by decide)) T.m_law_point T.F_law_point.kp T.b_law_point tk (dxa_cons (dx_var 4 (pv 4)) (dxa_cons (dx_var 2 (pv 2)) dxa_nil))) (dg_tup rfl (dgs_cons (dg_name 11 sc.nd) (dgs_cons (dg_name 12 sc.nd) dgs_nil))))
  (dss_cons (ds_setLc0 (own := [("_law_score", 14), ("_law_mark", 15)]) 13 rfl sc.nd (di_list (dx_var 4 (pv 4))) (blkOk_by (N := N_law) (sc := defScope s_law) (by decide +kernel)) (fun _ _ _ _ _ => (dg_tup rfl (dgs_cons (dg_name 14 sc.nd) (dgs_cons (dg_name 15 sc.nd) dgs_nil)))) (fun _ _ _ _ _ => (dx_var 15 (pv 15))))
  (dss_cons (ds_if (dxt_cmp (cm_ne (Nat.lt_of_succ_lt hu)) (dx_meth0 (T.me_w_counts) (ok_w_counts T) T.wc (hr.mono (by decide)) T.b_w_counts tk (by decide +kernel) (by decide +kernel) (dx_var 3 (pv 3))) (dx_tup (dxa_cons (dx_var 11 (pv 11)) (dxa_cons (dx_var 12 (pv 12)) (dxa_cons (dx_sub (dx_count hu (dx_var 13 (pv 13)) dx_bl) (dx_var 12 (pv 12))) (dxa_cons (dx_sub (dx_count hu (dx_var 13 (pv 13)) dx_bl) (dx_var 11 (pv 11))) dxa_nil)))))) (dss_one (ds_ret dx_bl)) dss_nil)
  (dss_one (ds_if (DXW.t (dxw_or (dxt_cmp (cm_ne (Nat.lt_of_succ_lt hu)) (dx_meth0 (T.me_w_things) (ok_w_things T) T.wc (hr.mono (by decide)) T.b_w_things tk (by decide +kernel) (by decide +kernel) (dx_var 3 (pv 3))) (dx_var 4 (pv 4))) (dxw_or1 (dxt_cmp (cm_ne (Nat.lt_of_succ_lt hu)) (dx_lenW T.le_W T.li_W (ok_w_len T) (hr.mono (by decide)) T.b_w_len T.n_len (dx_var 3 (pv 3))) (dx_callB cr_len sa_len rfl T.n_len PySem.boot_len (dxa_cons (dx_var 4 (pv 4)) dxa_nil)))))) (dss_one (ds_ret dx_bl)) dss_nil)))))))))
  (dss_one (ds_ret dx_bl)))))))⟩
end

end Lw
namespace Lw
open PySem L2 DL
theorem gd_is_int {l : List D} {r : Res Unit D} (h : sem_is_int l = r) : sem_is_int l = r := h
theorem gd_is_thing {l : List D} {r : Res Unit D} (h : sem_is_thing l = r) : sem_is_thing l = r := h
theorem gd_check_threshold {l : List D} {r : Res Unit D} (h : sem_check_threshold l = r) : sem_check_threshold l = r := h
theorem gd_law_point {l : List D} {r : Res Unit D} (h : sem_law_point l = r) : sem_law_point l = r := h
theorem gd_law_true {l : List D} {r : Res Unit D} (h : sem_law_true l = r) : sem_law_true l = r := h
set_option hygiene false
local macro_rules | `(tactic| nofun) => `(tactic| repeat (first
  | ((with_reducible apply g_out); first
    | with_reducible apply ev_seq
    | with_reducible apply r_set
    | with_reducible apply r_chk
    | with_reducible apply r_raise
    | ((with_reducible apply r_if0); focus (nofun; done))
    | ((with_reducible apply r_if1); focus (nofun; done))
    | with_reducible apply ev_ret
    | with_reducible apply ev_drop
    | with_reducible apply r_asg
    | with_reducible apply r_par
    | with_reducible apply r_par3
    | with_reducible apply r_aug
    | with_reducible apply r_app
    | with_reducible apply r_setM
    | with_reducible exact r_snil)
  | ((with_reducible apply g_dv); first
    | with_reducible apply r_var
    | with_reducible apply ev_op
    | with_reducible exact r_c
    | with_reducible apply r_varV
    | with_reducible apply r_fn1
    | with_reducible apply r_fn2
    | with_reducible apply r_fn3
    | with_reducible apply r_fn4
    | with_reducible apply r_fnS2
    | with_reducible apply r_fnS1
    | with_reducible apply r_call1
    | with_reducible apply r_call2
    | with_reducible apply ev_notV
    | focus ((with_reducible apply r_chF); nofun; done)
    | focus ((with_reducible apply r_chT); nofun; done)
    | with_reducible apply ev_chainT
    | with_reducible apply r_tup2
    | with_reducible apply r_tup1
    | with_reducible apply r_tup3
    | with_reducible apply r_tup4
    | with_reducible exact r_lst0
    | ((with_reducible apply r_andVF); focus (nofun; done))
    | ((with_reducible apply r_andVT); focus (nofun; done))
    | ((with_reducible apply r_orVT); focus (nofun; done))
    | ((with_reducible apply r_orVF); focus (nofun; done))
    | ((with_reducible apply r_eIf0); focus (nofun; done))
    | ((with_reducible apply r_eIf1); focus (nofun; done))
    | with_reducible apply ev_orV
    | with_reducible apply ev_andV
    | with_reducible apply r_lst1
    | with_reducible apply r_lst2
    | with_reducible apply r_lst3
    | with_reducible apply r_lst4
    | with_reducible apply r_neg
    | with_reducible apply r_isi
    | with_reducible apply r_rev
    | with_reducible apply ev_ixM
    | with_reducible apply ev_callM
    | with_reducible apply r_sl)
  | ((with_reducible apply g_bool); first
    | ((with_reducible apply r_andF); focus (nofun; done))
    | ((with_reducible apply r_orT); focus (nofun; done))
    | ((with_reducible apply r_andT); focus (nofun; done))
    | ((with_reducible apply r_orF); focus (nofun; done))
    | ((with_reducible apply r_notT); focus (nofun; done))
    | ((with_reducible apply r_notF); focus (nofun; done))
    | with_reducible apply ev_tst
    | with_reducible apply ev_or
    | with_reducible apply ev_and
    | with_reducible apply ev_not
    | with_reducible apply r_chain3)
  | ((with_reducible apply g_get); exact rfl)
  | focus ((with_reducible apply g_env); dsimp only [List.set]; try exact rfl)
  | ((with_reducible apply g_op); first
    | with_reducible assumption
    | focus ((with_reducible apply o_ltT); omega)
    | focus ((with_reducible apply o_ltF); omega)
    | focus ((with_reducible apply o_leT); omega)
    | focus ((with_reducible apply o_leF); omega)
    | focus ((with_reducible apply o_gtT); omega)
    | focus ((with_reducible apply o_gtF); omega)
    | focus ((with_reducible apply o_geT); omega)
    | focus ((with_reducible apply o_geF); omega)
    | focus ((with_reducible apply o_eqT); omega)
    | focus ((with_reducible apply o_eqF); omega)
    | focus ((with_reducible apply o_neT); omega)
    | focus ((with_reducible apply o_neF); omega)
    | with_reducible exact ne_nil _
    | with_reducible exact eq_nil _
    | with_reducible exact isB_TT
    | with_reducible exact isB_FF
    | with_reducible exact isB_TF
    | with_reducible exact isB_FT
    | with_reducible exact notB_TT
    | with_reducible exact notB_FT
    | with_reducible exact notB_FF
    | with_reducible exact notN_int _
    | with_reducible exact notN_non
    | with_reducible exact isN_int _
    | with_reducible exact isN_non
    | with_reducible exact notN_pt _
    | with_reducible exact isN_pt _
    | with_reducible exact ne_self_pt _
    | with_reducible exact ne_self_pts _
    | with_reducible exact ne_self_ths _
    | with_reducible exact ne_self_is _
    | with_reducible exact ne_self_Q _
    | with_reducible exact ne_self_tr _
    | with_reducible exact eq_self_pt _
    | with_reducible exact eq_self_pts _
    | with_reducible exact eq_self_Q _
    | with_reducible exact o_add
    | with_reducible exact o_iadd
    | with_reducible exact o_sub
    | with_reducible exact o_lt
    | with_reducible exact o_le
    | with_reducible exact o_gt
    | with_reducible exact o_ge
    | with_reducible exact o_pt0
    | with_reducible exact o_pt1
    | with_reducible exact o_q0
    | with_reducible exact o_q1
    | with_reducible exact o_th0
    | with_reducible exact o_th1
    | with_reducible exact o_t0
    | with_reducible exact o_t1
    | with_reducible exact o_pl0 _
    | with_reducible exact o_pl1 _
    | with_reducible exact o_pl2 _
    | with_reducible exact o_pl3 _
    | with_reducible exact o_pt4_0 _
    | with_reducible exact o_pt4_1 _
    | with_reducible exact o_pt4_2 _
    | with_reducible exact o_pt4_3 _
    | with_reducible exact ne_self_PTus _
    | with_reducible exact eq_self_Qs _
    | with_reducible exact ne_self_Qs _
    | with_reducible exact eq_int _ _
    | with_reducible exact ne_int _ _
    | with_reducible exact eq_pt _ _
    | with_reducible exact ne_pt _ _
    | with_reducible exact eq_pt' _ _ _
    | with_reducible exact ne_pt' _ _ _
    | with_reducible exact eq_Q _ _
    | with_reducible exact ne_Q _ _
    | with_reducible exact eq_Q' _ _
    | with_reducible exact ne_Q' _ _
    | with_reducible exact eq_pts _ _
    | with_reducible exact ne_pts _ _
    | with_reducible exact eq_ths _ _
    | with_reducible exact ne_ths _ _
    | with_reducible exact eq_is _ _
    | with_reducible exact ne_is _ _
    | with_reducible exact eq_bool _ _
    | with_reducible exact ne_bool _ _
    | with_reducible exact isB _ _
    | with_reducible exact notB _ _
    | with_reducible exact isN_opt _
    | with_reducible exact notN_opt _
    | with_reducible exact o_lenP _
    | with_reducible exact o_lenT _
    | with_reducible exact o_lenI _
    | with_reducible exact eq_tr _ _
    | with_reducible exact ne_tr _ _
    | focus ((with_reducible apply mulI); first | (left; omega) | (right; omega) | (dsimp only; left; omega) | (dsimp only; right; omega))
    | focus ((with_reducible apply o_ixP); first | omega | assumption)
    | focus ((with_reducible apply o_ixS); first | omega | assumption)
    | with_reducible assumption)
  | ((with_reducible apply g_sem); first
    | with_reducible assumption
    | ((with_reducible apply gd_is_int); exact (m_is_int _ _ _).trans (by with_reducible rfl))
    | ((with_reducible apply gd_is_thing); exact (m_is_thing _ (by first | assumption | omega | (dsimp only; omega))).trans (by with_reducible rfl))
    | ((with_reducible apply gd_check_threshold); exact (m_check_threshold (by first | assumption | omega | (dsimp only; omega)) (by first | assumption | omega | (dsimp only; omega))).trans (by with_reducible rfl))
    | ((with_reducible apply gd_law_point); exact (m_law_point _ _).trans (by with_reducible rfl))
    | ((with_reducible apply gd_law_true); exact (m_law_true _ _).trans (by with_reducible rfl)))
  | ((with_reducible apply g_oenv); exact rfl)
  | focus ((with_reducible apply g_tf); first | rfl | assumption | (simp; done) | (simp; omega))
  | ((with_reducible apply g_args); first
    | with_reducible exact r_nil)
  | ((with_reducible apply g_fl); first
    | with_reducible exact r_lLst0
    | with_reducible apply ev_lList)
  | ((with_reducible apply g_oi); first
    | with_reducible exact r_oN
    | with_reducible apply r_oS)
  | ((with_reducible apply g_addr); first | with_reducible assumption | with_reducible rfl)
  | with_reducible intro _
  | with_reducible assumption))
local macro_rules | `(tactic| and_intros) => `(tactic| (nofun; nofun; nofun))
theorem m_is_int (v : D) (lo hi : Int) : sem_is_int [v, .int lo, .int hi] = .ok (.bool (isIntM v lo hi)) () := by
  cases v with
  | int i => exact sem_rt (ev_ret (ev_andV (b := true) (c := decide (lo ≤ i) && decide (i ≤ hi)) rfl fun _ => ev_andV (b := true) (c := decide (lo ≤ i) && decide (i ≤ hi)) rfl fun _ => ev_chainT rfl rfl rfl rfl rfl))
  | _ => rfl
theorem m_is_thing (x : Int × Bool) (h : 0 ≤ x.1 ∧ x.1 ≤ 99) : sem_is_thing [eTh x] = .ok (.bool true) () := by
  have q : isIntM (.int x.1) 0 99 = true := isIntM_t h.1 h.2
  refine sem_rt (ev_seq (ev_ifF rfl rfl) (ev_ret (ev_andV (b := true) (c := true) (ev_fn rfl rfl rfl ?_) fun _ => rfl)))
  rw [m_is_int, q]
theorem m_check_threshold {t : Int} (h0 : 0 ≤ t) (h1 : t ≤ 100) : sem_check_threshold [.int t] = .ok .none () :=
  sem_nx (ev_ifF (ev_not (b := true) (ev_tst (ev_fn rfl rfl rfl (by rw [m_is_int, isIntM_t h0 (show t ≤ 99 + 1 by omega)])))) rfl)
theorem m_law_pick {ds : List D} (hd : ds ≠ []) (hl : ds.length < 1073741824) {s : DSt} (hn : s.nums ≠ []) : ∃ d s', d ∈ ds ∧ sem_law_pick [.list ds] s = .ok d s' ∧ Nx s s' := by
  have h0 : 0 < ds.length := List.length_pos_iff.mpr hd
  obtain ⟨r, s', h1, h2, h3, nx⟩ := draw_ok (k := (ds.length : Nat)) (s := s) (by omega) (by omega) hn
  have hr : r.toNat < ds.length := by omega
  refine ⟨ds[r.toNat], s', List.getElem_mem hr, semS_rt (ev_ret (ev_op (x := .list ds) (y := .int r) rfl (ev_fnS rfl rfl rfl rfl h1 nx) ?_)), nx⟩
  show atI ds r = _
  unfold atI ixN
  rw [if_pos h2, if_pos h3]
  exact List.getElem?_eq_getElem hr
theorem m_law_point (l : List (Int × Bool)) (t : Int) : sem_law_point [eThs l, .int t] = .ok (ePt (cnt l t)) () := by
  refine (sem_rt (m := 3) (F := F_law_point) (ds := [eThs l, .int t]) (ev_seq (ev_set (ev_new (lComp_ok (b := fun x : Int × Bool => decide (t ≤ x.1)) (g := fun x => .bool x.2) rfl rfl fun x _ => ⟨_, rfl, rfl, fun _ => rfl⟩)))
    (ev_ret (ev_tup (ds := [.int (((l.filter fun x => decide (t ≤ x.1)).map (·.2)).countP fun z => decide (z = false) : Nat), .int (((l.filter fun x => decide (t ≤ x.1)).map (·.2)).countP fun z => decide (z = true) : Nat)]) (ev_cons (ev_bml rfl rfl ?_) (ev_cons (ev_bml rfl rfl ?_) rfl)) rfl (by show 2 ≤ lim; decide))))).trans ?_
  · have q := count_of eqE_bool (k := 0) (fun a => by simp [PyData.depth]) (by decide) false ((l.filter fun x => decide (t ≤ x.1)).map (·.2))
    rw [List.map_map] at q
    exact q
  · have q := count_of eqE_bool (k := 0) (fun a => by simp [PyData.depth]) (by decide) true ((l.filter fun x => decide (t ≤ x.1)).map (·.2))
    rw [List.map_map] at q
    exact q
  · unfold ePt DL.cnt
    rw [List.countP_map, List.countP_map, List.countP_filter, List.countP_filter, List.countP_eq_length_filter, List.countP_eq_length_filter]
    rw [List.filter_congr (q := fun x : Int × Bool => decide (t ≤ x.1) && !x.2) fun x _ => by cases hx : x.2 <;> simp [hx], List.filter_congr (p := fun x : Int × Bool => _ && decide (t ≤ x.1)) (q := fun x : Int × Bool => decide (t ≤ x.1) && x.2) fun x _ => by cases hx : x.2 <;> simp [hx]]
theorem m_law_true (a b : Bool) : sem_law_true [.bool a, .bool b] = .ok (.bool (decide (a = b))) () := sem_rt (F := F_law_true) (ev_ret (ev_andV (b := true) (c := decide (a = b)) rfl fun _ => ev_op rfl rfl (eq_bool a b)))
theorem c_push {w : WSt} {d : D} {x : Int × Bool} (h : isTh d = some x) (hl : w.line.length < lim) : sem_law_call [.int 0, d] w = .ok (.bool (decide (w.th ≤ x.1))) { w with line := w.line ++ [x] } := by
  refine semW_rt (F := F_law_call) (m := 3) (ds := [.int 0, d]) (ev_seq (ev_set rfl) (ev_seq (ev_set rfl) (ev_try (ev_ifT (ev_tst (ev_op rfl rfl rfl)) (ev_set (ev_methW (ds := [d]) rfl rfl rfl rfl rfl rfl (push_ok h hl) ⟨rfl, rfl, rfl⟩))) (ev_ret (ev_eIf (ev_tst (ev_op rfl rfl rfl)) rfl)))))
theorem c_push_er {w : WSt} {d : D} (h : isTh d = none) : sem_law_call [.int 0, d] w = .ok (.str "things") w := by
  refine semW_rt (F := F_law_call) (m := 3) (ds := [.int 0, d]) (ev_seq (ev_set rfl) (ev_seq (ev_set rfl) (ev_tryE (c := 0) (ev_ifT (ev_tst (ev_op rfl rfl rfl)) (ev_setE (ev_methWE (ds := [d]) rfl rfl rfl rfl rfl rfl (push_er h) ⟨rfl, rfl, rfl⟩))) (by decide))))
theorem c_move {w : WSt} {d : D} {t : Int} (h : isT d = some t) : sem_law_call [.int 1, d] w = .ok (.int (kB (mvB t w.th) w.line)) { w with th := t } := by
  refine semW_rt (F := F_law_call) (m := 3) (ds := [.int 1, d]) (ev_seq (ev_set rfl) (ev_seq (ev_set rfl) (ev_try (ev_ifF (ev_tst (ev_op rfl rfl rfl)) (ev_ifT (ev_tst (ev_op rfl rfl rfl)) (ev_set (ev_methW (ds := [d]) rfl rfl rfl rfl rfl rfl (move_ok h) ⟨rfl, rfl, rfl⟩)))) (ev_ret (ev_eIf (ev_tst (ev_op rfl rfl rfl)) rfl)))))
theorem c_move_er {w : WSt} {d : D} (h : isT d = none) : sem_law_call [.int 1, d] w = .ok (.str "number") w := by
  refine semW_rt (F := F_law_call) (m := 3) (ds := [.int 1, d]) (ev_seq (ev_set rfl) (ev_seq (ev_set rfl) (ev_tryE (c := 1) (ev_ifF (ev_tst (ev_op rfl rfl rfl)) (ev_ifT (ev_tst (ev_op rfl rfl rfl)) (ev_setE (ev_methWE (ds := [d]) rfl rfl rfl rfl rfl rfl (move_er h) ⟨rfl, rfl, rfl⟩)))) (by decide))))
theorem c_undo {w : WSt} {d : D} {x : Int × Bool} (h : w.line.getLast? = some x) : sem_law_call [.int 2, d] w = .ok (thD x) { w with line := w.line.dropLast } := by
  refine semW_rt (F := F_law_call) (m := 3) (ds := [.int 2, d]) (ev_seq (ev_set rfl) (ev_seq (ev_set rfl) (ev_try (ev_ifF (ev_tst (ev_op rfl rfl rfl)) (ev_ifF (ev_tst (ev_op rfl rfl rfl)) (ev_set (ev_methW (ds := []) rfl rfl rfl rfl rfl rfl (undo_ok h) ⟨rfl, rfl, rfl⟩)))) (ev_ret (ev_eIf (ev_tst (ev_op rfl rfl rfl)) rfl)))))
theorem c_undo_er {w : WSt} {d : D} (h : w.line.getLast? = none) : sem_law_call [.int 2, d] w = .ok (.str "none") w := by
  refine semW_rt (F := F_law_call) (m := 3) (ds := [.int 2, d]) (ev_seq (ev_set rfl) (ev_seq (ev_set rfl) (ev_tryE (c := 4) (ev_ifF (ev_tst (ev_op rfl rfl rfl)) (ev_ifF (ev_tst (ev_op rfl rfl rfl)) (ev_setE (ev_methWE (ds := []) rfl rfl rfl rfl rfl rfl (undo_er h) ⟨rfl, rfl, rfl⟩)))) (by decide))))


def GoodW (o : Out (DSt × WSt)) : Prop := ∃ s', o = .rt (.d (.bool true)) s'
structure Iw (ad p : Addr) (wide : Int) (n : Nat) (ρ : DL.Env) (s : DSt × WSt) : Prop where
  a : ad = s.1.a
  ne : s.1.nums ≠ []
  ep : p = s.2.p
  t : 0 ≤ s.2.th ∧ s.2.th ≤ 100
  sc : ∀ x ∈ s.2.line, In99 x.1
  len : s.2.line.length ≤ n
  env : ∃ v6 v7 v8 v9 v10 v11 v12 v13, ρ = [.no, .v (.ref ad), .d (.int s.2.th), .v (.ref p), .d (eThs s.2.line), .d (.int wide), v6, v7, v8, v9, v10, v11, v12, v13, .no, .no]
theorem law_math : ∀ (a b : Addr) (nums : List Int), nums ≠ [] → nums.length ≤ 63 → G_law (.no :: .v (.ref a) :: List.replicate 14 .no) ⟨a, b, nums, 0⟩ := by
  intro ad bd nums hn hl
  obtain ⟨t, s1, d1, t0, t1, n1⟩ := draw_ok (k := 101) (s := ⟨ad, bd, nums, 0⟩) (by decide) (by decide) hn
  have P1 : ad = s1.a := n1.a.symm
  refine ⟨[.no, .v (.ref ad), .d (.int t), .no, .no, .no, .no, .no, .no, .no, .no, .no, .no, .no, .no, .no], s1, ev_set (ev_fnS rfl rfl rfl rfl d1 n1), ?_⟩
  refine ⟨.int t, s1, t, rfl, isT_int (by omega), fun p dx l => ?_⟩
  refine ⟨.list [], _, ev_lst rfl rfl (Nat.zero_le _), ?_⟩
  show GoodW _
  dsimp only [List.set]
  obtain ⟨wd, s2, hw, e2, n2⟩ := m_law_pick (ds := [.int 5, .int 100]) (by simp) (by simp) (s := s1) n1.ne
  obtain ⟨wide, rfl, w0, w1⟩ : ∃ w : Int, wd = .int w ∧ 2 ≤ w ∧ w ≤ 100 := by
    simp only [List.mem_cons, List.not_mem_nil, or_false] at hw
    rcases hw with h | h <;> exact ⟨_, h, by decide, by decide⟩
  apply seq_nx (ρ1 := [.no, .v (.ref ad), .d (.int t), .v (.ref p), .d (.list []), .d (.int wide), .no, .no, .no, .no, .no, .no, .no, .no, .no, .no]) (s1 := (s2, ⟨p, dx, l, t, []⟩))
  · exact ev_set (ev_lift (s1 := s2) (ev_fnS (ds := [.list [.int 5, .int 100]]) (ev_cons rfl (ev_cons (ev_lst rfl rfl (by show 2 ≤ lim; decide)) rfl)) P1 rfl rfl e2 n2))
  refine seq_for (Q := GoodW) (xs := List.range 20) (enc := fun n : Nat => PyData.int (n : Nat)) (fun pre ρ s => Iw ad p wide pre.length ρ s) (ev_rng0 (n := 20) rfl (by decide)) ⟨P1.trans n2.a.symm, n2.ne, rfl, by simpa using ⟨t0, by omega⟩, by simp, by simp, _, _, _, _, _, _, _, _, rfl⟩ ?_ ?_
  · rintro pre turn post ρ ⟨s, w⟩ epre ⟨ia, ine, ip, it, isc, ilen, v6, v7, v8, v9, v10, v11, v12, v13, rfl⟩
    refine ⟨_, rfl, ?_⟩
    dsimp only [List.set] at *
    have hp20 : pre.length < 20 := by
      have := congrArg List.length epre
      simp at this
      omega
    obtain ⟨kd, s3, hk, e3, n3⟩ := m_law_pick (ds := [.int 0, .int 0, .int 0, .int 1, .int 2]) (by simp) (by simp) (s := s) ine
    obtain ⟨k, rfl, hk2⟩ : ∃ k : Int, kd = .int k ∧ (k = 0 ∨ k = 1 ∨ k = 2) := by
      simp only [List.mem_cons, List.not_mem_nil, or_false] at hk
      rcases hk with h | h | h | h | h <;> exact ⟨_, h, by decide⟩
    have ia3 : ad = s3.a := ia.trans n3.a.symm
    refine seq_nx (Q := fun o => ∃ ρ2 s2, o = Out.nx ρ2 s2 ∧ Iw ad p wide (pre ++ [turn]).length ρ2 s2) (ev_set (ev_lift (s1 := s3) (ev_fnS (ds := [.list [.int 0, .int 0, .int 0, .int 1, .int 2]]) (ev_cons rfl (ev_cons (ev_lst rfl rfl (by show 5 ≤ lim; decide)) rfl)) ia rfl rfl e3 n3))) ?_
    dsimp only [List.set, Sl.of]
    refine seq_mid (Q := fun o => ∃ ρ2 s2, o = Out.nx ρ2 s2 ∧ Iw ad p wide (pre ++ [turn]).length ρ2 s2) (fun ρ s => Iw ad p wide (pre ++ [turn]).length ρ s) ?_ ?_
    · rw [List.length_append, List.length_singleton]
      rcases hk2 with rfl | rfl | rfl
      · -- push
        obtain ⟨sc, s4, d4, b0, b1, n4⟩ := draw_ok (k := wide) (s := s3) (by omega) (by omega) n3.ne
        obtain ⟨co, s5, d5, _, _, n5⟩ := draw_ok (k := 2) (s := s4) (by decide) (by decide) n4.ne
        have hx : In99 sc := by unfold In99; omega
        have adds : addD (eThs w.line) (.list [thD (sc, decide (co = 0))]) = some (eThs (w.line ++ [(sc, decide (co = 0))])) := add_ths (m := [(sc, decide (co = 0))]) (by show w.line.length + 1 ≤ 1000; omega)
        refine ⟨[.no, .v (.ref ad), .d (.int w.th), .v (.ref p), .d (eThs (w.line ++ [(sc, decide (co = 0))])), .d (.int wide), .d (.int (turn : Nat)), .d (.int 0), .d (thD (sc, decide (co = 0))), v9, v10, v11, v12, v13, .no, .no], (s5, { w with line := w.line ++ [(sc, decide (co = 0))] }), ?_, ⟨(ia3.trans n4.a.symm).trans n5.a.symm, n5.ne, ip, it, ?_, ?_, _, _, _, _, _, _, _, _, rfl⟩⟩
        · refine ev_ifT (ev_tst (ev_op rfl rfl rfl)) ?_
          refine ev_seq (ev_set (v := .d (thD (sc, decide (co = 0)))) (s1 := (s5, w)) (ev_tup (ds := [.int sc, .bool (decide (co = 0))]) (ev_cons (ev_lift (s1 := s4) (ev_fnS (ds := [.int wide]) (ev_cons rfl (ev_cons rfl rfl)) ia3 rfl rfl d4 n4)) (ev_cons (ev_op (ev_lift (s1 := s5) (ev_fnS (ds := [.int 2]) (ev_cons rfl (ev_cons rfl rfl)) (ia3.trans n4.a.symm) rfl rfl d5 n5)) rfl (DL.eq_int _ _)) rfl)) rfl (by show 2 ≤ lim; decide))) ?_
          dsimp only [List.set, Sl.of]
          refine ev_seq (ev_set (v := .d (eThs (w.line ++ [(sc, decide (co = 0))]))) (s1 := (s5, w)) (ev_op rfl (ev_lst (ds := [thD (sc, decide (co = 0))]) rfl rfl (by show 1 ≤ lim; decide)) adds)) ?_
          dsimp only [List.set, Sl.of]
          refine ev_ifF (ev_not (b := true) (ev_tst (s1 := (s5, { w with line := w.line ++ [(sc, decide (co = 0))] })) (ev_fn (ds := [.bool (decide (w.th ≤ sc)), .bool (decide (w.th ≤ sc))]) (ev_cons (ev_fnW (ds := [.int 0, thD (sc, decide (co = 0))]) (ev_cons rfl (ev_cons rfl (ev_cons rfl rfl))) ip rfl rfl (c_push (w := w) (isTh_th hx) (by show w.line.length < 100000; omega)) ⟨rfl, rfl, rfl⟩) (ev_cons (ev_op (x := .int sc) (y := .int w.th) (ev_op rfl rfl rfl) rfl rfl) rfl)) rfl rfl ((m_law_true _ _).trans (by rw [decide_eq_true rfl]))))) rfl
        · intro x hx2
          rcases List.mem_append.mp hx2 with h | h
          · exact isc x h
          · rw [List.mem_singleton.mp h]; exact hx
        · show (w.line ++ [(sc, decide (co = 0))]).length ≤ _
          rw [List.length_append]; simp; omega
      · -- move
        obtain ⟨r, s4, d4, b0, b1, n4⟩ := draw_ok (k := wide + 1) (s := s3) (by omega) (by omega) n3.ne
        refine ⟨[.no, .v (.ref ad), .d (.int r), .v (.ref p), .d (eThs w.line), .d (.int wide), .d (.int (turn : Nat)), .d (.int 1), v8, .d (.int w.th), .d (.list ((w.line.filter (mvB r w.th)).map fun x => .int x.1)), v11, v12, v13, .no, .no], (s4, { w with th := r }), ?_, ⟨ia3.trans n4.a.symm, n4.ne, ip, ⟨b0, by show r ≤ 100; omega⟩, isc, by show w.line.length ≤ _; omega, _, _, _, _, _, _, _, _, rfl⟩⟩
        refine ev_ifF (ev_tst (ev_op rfl rfl rfl)) (ev_ifT (ev_tst (ev_op rfl rfl rfl)) ?_)
        refine ev_seq (ev_set (v := .d (.int w.th)) (s1 := (s3, w)) rfl) ?_
        dsimp only [List.set, Sl.of]
        refine ev_seq (ev_set (v := .d (.int r)) (s1 := (s4, w)) (ev_lift (s1 := s4) (ev_fnS (ds := [.int (wide + 1)]) (ev_cons rfl (ev_cons (ev_op rfl rfl rfl) rfl)) ia3 rfl rfl d4 n4))) ?_
        dsimp only [List.set, Sl.of]
        refine ev_seq (ev_set (v := .d (.list ((w.line.filter (mvB r w.th)).map fun x => .int x.1))) (s1 := (s4, w)) (ev_new ?_)) ?_
        · rw [mv_ne r w.th]
          have ee : (fun x : Int × Bool => !decide (decide (w.th ≤ x.1) = decide (r ≤ x.1))) = fun x => !decide (decide (w.th ≤ x.1) = decide (r ≤ x.1)) := rfl
          exact lComp_ok (enc := eTh) (b := fun x : Int × Bool => !decide (decide (w.th ≤ x.1) = decide (r ≤ x.1))) (g := fun x => .int x.1) rfl (ev_lList rfl) fun x _ => ⟨_, rfl, ev_tst (ev_op (x := .bool (decide (w.th ≤ x.1))) (y := .bool (decide (r ≤ x.1))) (ev_op rfl rfl rfl) (ev_op rfl rfl rfl) (ne_bool _ _)), fun _ => rfl⟩
        dsimp only [List.set, Sl.of]
        refine ev_ifF (ev_tst (s1 := (s4, { w with th := r })) (ev_op (ev_fnW (ds := [.int 1, .int r]) (ev_cons rfl (ev_cons rfl (ev_cons rfl rfl))) ip rfl rfl (c_move (isT_int (by omega))) ⟨rfl, rfl, rfl⟩) (ev_call (ev_cons rfl rfl) rfl rfl) ?_)) rfl
        rw [DL.ne_int, decide_eq_true (by unfold kB; simp)]
        rfl
      · -- undo
        rcases List.eq_nil_or_concat w.line with e | ⟨l0, x, e⟩
        · refine ⟨[.no, .v (.ref ad), .d (.int w.th), .v (.ref p), .d (.list []), .d (.int wide), .d (.int (turn : Nat)), .d (.int 2), v8, v9, v10, v11, v12, v13, .no, .no], (s3, w), ?_, ⟨ia3, n3.ne, ip, it, isc, by show w.line.length ≤ _; omega, _, _, _, _, _, _, _, _, by rw [e]; rfl⟩⟩
          rw [show eThs w.line = .list [] by rw [e]; rfl]
          refine ev_ifF (ev_tst (ev_op rfl rfl rfl)) (ev_ifF (ev_tst (ev_op rfl rfl rfl)) ?_)
          refine ev_seq (ev_ifF (ev_tst (s1 := (s3, w)) (ev_op (ev_fnW (ds := [.int 2, .int 0]) (ev_cons rfl (ev_cons rfl (ev_cons rfl rfl))) ip rfl rfl (c_undo_er (w := w) (by rw [e]; rfl)) ⟨rfl, rfl, rfl⟩) (ev_eIf (b := false) (ev_tst (ev_op rfl (ev_lst rfl rfl (Nat.zero_le _)) (ne_ths [] []))) rfl) ne_self)) rfl) ?_
          exact ev_set (v := .d (.list [])) (ev_sl (x := .list []) (z := .list []) (lo := none) (hi := some (-1)) rfl rfl rfl rfl)
        · have e : w.line = l0 ++ [x] := by simpa using e
          refine ⟨[.no, .v (.ref ad), .d (.int w.th), .v (.ref p), .d (eThs l0), .d (.int wide), .d (.int (turn : Nat)), .d (.int 2), v8, v9, v10, v11, v12, v13, .no, .no], (s3, { w with line := w.line.dropLast }), ?_, ⟨ia3, n3.ne, ip, it, fun y hy => isc y (List.dropLast_subset _ hy), by show w.line.dropLast.length ≤ _; rw [List.length_dropLast]; omega, _, _, _, _, _, _, _, _, by show _ = [Sl.no, .v (.ref ad), .d (.int w.th), .v (.ref p), .d (eThs w.line.dropLast), .d (.int wide), _, _, _, _, _, _, _, _, .no, .no]; rw [show w.line.dropLast = l0 by rw [e]; simp]⟩⟩
          refine ev_ifF (ev_tst (ev_op rfl rfl rfl)) (ev_ifF (ev_tst (ev_op rfl rfl rfl)) ?_)
          have hg : atI (w.line.map eTh) (-1) = some (eTh x) := by rw [e, List.map_append, atI_last (by simp)]; simp
          refine ev_seq (ev_ifF (ev_tst (s1 := (s3, { w with line := w.line.dropLast })) (ev_op (x := thD x) (y := eTh x) (ev_fnW (ds := [.int 2, .int 0]) (ev_cons rfl (ev_cons rfl (ev_cons rfl rfl))) ip rfl rfl (c_undo (w := w) (by rw [e]; simp)) ⟨rfl, rfl, rfl⟩) (ev_eIf (b := true) (ev_tst (ev_op rfl (ev_lst rfl rfl (Nat.zero_le _)) ((ne_ths w.line []).trans (by rw [decide_eq_false (by rw [e]; simp)]; rfl)))) (ev_op (x := eThs w.line) (y := .int (-1)) rfl rfl hg)) ((ne_th x x).trans (by rw [decide_eq_true rfl]; rfl)))) rfl) ?_
          refine ev_set (v := .d (eThs l0)) (ev_sl (lo := none) (hi := some (-1)) rfl rfl rfl ?_)
          show some (PyData.list (cutL (w.line.map eTh) none (some (-1)))) = _
          rw [cutL_map, cutL_init, e]
          simp [eThs]
    · clear hk hk2 e3 n3 it isc ilen ia ine ip ia3
      rintro ρ ⟨s, w⟩ ⟨ia, ine, ip, it, isc, ilen, v6, v7, v8, v9, v10, v11, v12, v13, rfl⟩
      dsimp only at *
      refine seq_nx (Q := fun o => ∃ ρ2 s2, o = Out.nx ρ2 s2 ∧ Iw ad p wide (pre ++ [turn]).length ρ2 s2) (s1 := (s, w)) (ev_ifF (ev_or (b := false) (c := false) (ev_tst (s1 := (s, w)) (ev_op (ev_fnW (ds := [.int 0, .tuple [.int 100, .bool true]]) (ev_cons rfl (ev_cons rfl (ev_cons (ev_tup rfl rfl (by show 2 ≤ lim; decide)) rfl))) ip rfl rfl (c_push_er (w := w) rfl) ⟨rfl, rfl, rfl⟩) rfl ne_self)) fun _ => ev_tst (s1 := (s, w)) (ev_op (ev_fnW (ds := [.int 1, .int 101]) (ev_cons rfl (ev_cons rfl (ev_cons rfl rfl))) ip rfl rfl (c_move_er (w := w) rfl) ⟨rfl, rfl, rfl⟩) rfl ne_self)) rfl) ?_
      refine seq_nx (Q := fun o => ∃ ρ2 s2, o = Out.nx ρ2 s2 ∧ Iw ad p wide (pre ++ [turn]).length ρ2 s2) (s1 := (s, w)) (ev_asg (ev_fn (ds := [eThs w.line, .int w.th]) rfl rfl rfl (m_law_point w.line w.th)) rfl) ?_
      dsimp only [List.set, Sl.of]
      refine seq_nx (Q := fun o => ∃ ρ2 s2, o = Out.nx ρ2 s2 ∧ Iw ad p wide (pre ++ [turn]).length ρ2 s2) (s1 := (s, w)) (ev_set (v := .d (.list ((w.line.map (·.2)).map .bool))) (ev_new (by rw [List.map_map]; exact lComp_map (enc := eTh) (g := fun x : Int × Bool => PyData.bool x.2) rfl (ev_lList rfl) fun x _ => ⟨_, rfl, rfl⟩))) ?_
      dsimp only [List.set, Sl.of]
      have ct : ∀ b : Bool, countD ((w.line.map (·.2)).map .bool) (.bool b) = some (.int (((w.line.map (·.2)).countP fun z => decide (z = b) : Nat) : Int)) := fun b => count_of eqE_bool (k := 0) (fun a => by simp [PyData.depth]) (by decide) b (w.line.map (·.2))
      refine seq_nx (Q := fun o => ∃ ρ2 s2, o = Out.nx ρ2 s2 ∧ Iw ad p wide (pre ++ [turn]).length ρ2 s2) (s1 := (s, w)) (ev_ifF (ev_tst (s1 := (s, w)) (ev_op (x := .tuple ((c4 w.th w.line).map .int)) (y := .tuple ([(DL.cnt w.line w.th).1, (DL.cnt w.line w.th).2, ((w.line.map (·.2)).countP fun z => decide (z = true) : Nat) - (DL.cnt w.line w.th).2, ((w.line.map (·.2)).countP fun z => decide (z = false) : Nat) - (DL.cnt w.line w.th).1].map .int)) (ev_methW (ds := []) rfl ip rfl ip rfl rfl (w := w) rfl ⟨rfl, rfl, rfl⟩) (ev_tup (ev_cons rfl (ev_cons rfl (ev_cons (ev_op (ev_bml rfl rfl (ct true)) rfl rfl) (ev_cons (ev_op (ev_bml rfl rfl (ct false)) rfl rfl) rfl)))) rfl (by show 4 ≤ lim; decide)) ((ne_itup _ _).trans (by rw [decide_eq_true (c4_cnt _ _)]; rfl)))) rfl) ?_
      refine ⟨_, (s, w), ev_ifF (ev_or (b := false) (c := false) (ev_tst (s1 := (s, w)) (ev_op (x := eThs w.line) (y := eThs w.line) (ev_methW (ds := []) rfl ip rfl ip rfl rfl (w := w) rfl ⟨rfl, rfl, rfl⟩) rfl ((ne_ths _ _).trans (by rw [decide_eq_true rfl]; rfl)))) fun _ => ev_tst (s1 := (s, w)) (ev_op (ev_lenW rfl ip) (ev_call (ev_cons rfl rfl) rfl rfl) ((DL.ne_int _ _).trans (by rw [decide_eq_true (by simp)]; rfl)))) rfl, ia, ine, ip, it, isc, ilen, _, _, _, _, _, _, _, _, rfl⟩
  · rintro ρ ⟨s, w⟩ i
    exact ⟨_, ev_ret rfl⟩

end Lw
namespace Lw
open PySem PySem.Spec PyProof.Rows L2 DL
theorem all_mk {l : PySem.W.OpenLaw} {w : World} {K : PySem.W.Frag} {h : Heap} {mg : Str → Option Value} {fa : Addr} (X : K.In h) (G : h.Ns mainGlobals mg) (hfa : mg "law" = some (.ref fa)) (hm : ∀ (a b : Addr) (nums : List Int), nums ≠ [] → nums.length ≤ 63 → G_law (.no :: .v (.ref a) :: List.replicate 14 .no) ⟨a, b, nums, 0⟩)
    {f0 : Addr} {od0 an0 : Option Addr} {sl0 : Array (Option Value)} {oc0 kV0 dc0 pm0 cd0 ct0 : Value}
    {f1 : Addr} {od1 an1 : Option Addr} {sl1 : Array (Option Value)} {oc1 kV1 dc1 pm1 cd1 ct1 : Value}
    {f2 : Addr} {od2 an2 : Option Addr} {sl2 : Array (Option Value)} {oc2 kV2 dc2 pm2 cd2 ct2 : Value}
    {f3 : Addr} {od3 an3 : Option Addr} {sl3 : Array (Option Value)} {oc3 kV3 dc3 pm3 cd3 ct3 : Value}
    {f4 : Addr} {od4 an4 : Option Addr} {sl4 : Array (Option Value)} {oc4 kV4 dc4 pm4 cd4 ct4 : Value}
    {f5 : Addr} {od5 an5 : Option Addr} {sl5 : Array (Option Value)} {oc5 kV5 dc5 pm5 cd5 ct5 : Value}
    {f6 : Addr} {od6 an6 : Option Addr} {sl6 : Array (Option Value)} {oc6 kV6 dc6 pm6 cd6 ct6 : Value}
    {f7 : Addr} {od7 an7 : Option Addr} {sl7 : Array (Option Value)} {oc7 kV7 dc7 pm7 cd7 ct7 : Value}
    {f8 : Addr} {od8 an8 : Option Addr} {sl8 : Array (Option Value)} {oc8 kV8 dc8 pm8 cd8 ct8 : Value}
    {f9 : Addr} {od9 an9 : Option Addr} {sl9 : Array (Option Value)} {oc9 kV9 dc9 pm9 cd9 ct9 : Value}
    {f10 : Addr} {od10 an10 : Option Addr} {sl10 : Array (Option Value)} {oc10 kV10 dc10 pm10 cd10 ct10 : Value}
    {f11 : Addr} {od11 an11 : Option Addr} {sl11 : Array (Option Value)} {oc11 kV11 dc11 pm11 cd11 ct11 : Value}
    {f12 : Addr} {od12 an12 : Option Addr} {sl12 : Array (Option Value)} {oc12 kV12 dc12 pm12 cd12 ct12 : Value}
    {f13 : Addr} {od13 an13 : Option Addr} {sl13 : Array (Option Value)} {oc13 kV13 dc13 pm13 cd13 ct13 : Value}
    {f14 : Addr} {od14 an14 : Option Addr} {sl14 : Array (Option Value)} {oc14 kV14 dc14 pm14 cd14 ct14 : Value}
    {f15 : Addr} {od15 an15 : Option Addr} {sl15 : Array (Option Value)} {oc15 kV15 dc15 pm15 cd15 ct15 : Value}
    {f16 : Addr} {od16 an16 : Option Addr} {sl16 : Array (Option Value)} {oc16 kV16 dc16 pm16 cd16 ct16 : Value}
    {f17 : Addr} {od17 an17 : Option Addr} {sl17 : Array (Option Value)} {oc17 kV17 dc17 pm17 cd17 ct17 : Value}
    {CW : Addr} (aCW : PySem.W.nsIn K mainGlobals "Watch" = some (some (.ref CW))) (wpg : PySem.W.plainGet K CW Str.empty = true) (whd : PySem.W.hasDictIn K CW = true) (wpo : PySem.W.plainOver K CW = true) (wsa : PySem.W.findIn K (.ref CW) "__setattr__" = some (some (.builtin "object.__setattr__"))) (wmk : PySem.W.makesIn K CW = true) (wkc : PySem.W.keepIn K (.ref CW) = true) (wnT : PySem.W.findIn K (.ref CW) "threshold" = some none) (wnL : PySem.W.findIn K (.ref CW) "line" = some none)
    {C0 : Addr}
    {C1 : Addr}
    {C2 : Addr}
    {C3 : Addr}
    {C4 : Addr}
    {t_MOST_SCORE : Nat}
    (a0 : PySem.W.nsIn K mainGlobals "is_int" = some (some (.ref f0))) (l0 : K.lookup f0 = some ⟨oc0, od0, .func (PySem.W.fnOf "is_int" "is_int" (defArgs s_is_int) (defBody s_is_int) (defScope s_is_int) .none kV0 dc0 pm0 an0 cd0 ct0), sl0⟩) (c0 : PySem.W.codeIn K cd0 "is_int" = true) (k0 : PySem.W.keepIn K (.ref f0) = true)
    (a1 : PySem.W.nsIn K mainGlobals "is_thing" = some (some (.ref f1))) (l1 : K.lookup f1 = some ⟨oc1, od1, .func (PySem.W.fnOf "is_thing" "is_thing" (defArgs s_is_thing) (defBody s_is_thing) (defScope s_is_thing) .none kV1 dc1 pm1 an1 cd1 ct1), sl1⟩) (c1 : PySem.W.codeIn K cd1 "is_thing" = true) (k1 : PySem.W.keepIn K (.ref f1) = true)
    (a2 : PySem.W.nsIn K mainGlobals "check_threshold" = some (some (.ref f2))) (l2 : K.lookup f2 = some ⟨oc2, od2, .func (PySem.W.fnOf "check_threshold" "check_threshold" (defArgs s_check_threshold) (defBody s_check_threshold) (defScope s_check_threshold) .none kV2 dc2 pm2 an2 cd2 ct2), sl2⟩) (c2 : PySem.W.codeIn K cd2 "check_threshold" = true) (k2 : PySem.W.keepIn K (.ref f2) = true)
    (a3 : PySem.W.nsIn K mainGlobals "_law_start" = some (some (.ref f3))) (l3 : K.lookup f3 = some ⟨oc3, od3, .func (PySem.W.fnOf "_law_start" "_law_start" (defArgs s_law_start) (defBody s_law_start) (defScope s_law_start) .none kV3 dc3 pm3 an3 cd3 ct3), sl3⟩) (c3 : PySem.W.codeIn K cd3 "_law_start" = true) (k3 : PySem.W.keepIn K (.ref f3) = true)
    (a4 : PySem.W.nsIn K mainGlobals "_law_draw" = some (some (.ref f4))) (l4 : K.lookup f4 = some ⟨oc4, od4, .func (PySem.W.fnOf "_law_draw" "_law_draw" (defArgs s_law_draw) (defBody s_law_draw) (defScope s_law_draw) .none kV4 dc4 pm4 an4 cd4 ct4), sl4⟩) (c4 : PySem.W.codeIn K cd4 "_law_draw" = true) (k4 : PySem.W.keepIn K (.ref f4) = true)
    (a5 : PySem.W.nsIn K mainGlobals "_law_pick" = some (some (.ref f5))) (l5 : K.lookup f5 = some ⟨oc5, od5, .func (PySem.W.fnOf "_law_pick" "_law_pick" (defArgs s_law_pick) (defBody s_law_pick) (defScope s_law_pick) .none kV5 dc5 pm5 an5 cd5 ct5), sl5⟩) (c5 : PySem.W.codeIn K cd5 "_law_pick" = true) (k5 : PySem.W.keepIn K (.ref f5) = true)
    (a6 : PySem.W.nsIn K mainGlobals "_law_error" = some (some (.ref f6))) (l6 : K.lookup f6 = some ⟨oc6, od6, .func (PySem.W.fnOf "_law_error" "_law_error" (defArgs s_law_error) (defBody s_law_error) (defScope s_law_error) .none kV6 dc6 pm6 an6 cd6 ct6), sl6⟩) (c6 : PySem.W.codeIn K cd6 "_law_error" = true) (k6 : PySem.W.keepIn K (.ref f6) = true)
    (a7 : PySem.W.nsIn K mainGlobals "_law_true" = some (some (.ref f7))) (l7 : K.lookup f7 = some ⟨oc7, od7, .func (PySem.W.fnOf "_law_true" "_law_true" (defArgs s_law_true) (defBody s_law_true) (defScope s_law_true) .none kV7 dc7 pm7 an7 cd7 ct7), sl7⟩) (c7 : PySem.W.codeIn K cd7 "_law_true" = true) (k7 : PySem.W.keepIn K (.ref f7) = true)
    (a8 : PySem.W.nsIn K mainGlobals "_law_point" = some (some (.ref f8))) (l8 : K.lookup f8 = some ⟨oc8, od8, .func (PySem.W.fnOf "_law_point" "_law_point" (defArgs s_law_point) (defBody s_law_point) (defScope s_law_point) .none kV8 dc8 pm8 an8 cd8 ct8), sl8⟩) (c8 : PySem.W.codeIn K cd8 "_law_point" = true) (k8 : PySem.W.keepIn K (.ref f8) = true)
    (a9 : PySem.W.findIn K (.ref CW) "move" = some (some (.ref f9))) (i9 : PySem.W.isFn K (.ref f9) = true) (l9 : K.lookup f9 = some ⟨oc9, od9, .func (PySem.W.fnOf "move" "Watch.move" (defArgs s_w_move) (defBody s_w_move) (defScope s_w_move) .none kV9 dc9 pm9 an9 cd9 ct9), sl9⟩) (c9 : PySem.W.codeIn K cd9 "Watch.move" = true) (k9 : PySem.W.keepIn K (.ref f9) = true)
    (a10 : PySem.W.findIn K (.ref CW) "push" = some (some (.ref f10))) (i10 : PySem.W.isFn K (.ref f10) = true) (l10 : K.lookup f10 = some ⟨oc10, od10, .func (PySem.W.fnOf "push" "Watch.push" (defArgs s_w_push) (defBody s_w_push) (defScope s_w_push) .none kV10 dc10 pm10 an10 cd10 ct10), sl10⟩) (c10 : PySem.W.codeIn K cd10 "Watch.push" = true) (k10 : PySem.W.keepIn K (.ref f10) = true)
    (a11 : PySem.W.findIn K (.ref CW) "undo" = some (some (.ref f11))) (i11 : PySem.W.isFn K (.ref f11) = true) (l11 : K.lookup f11 = some ⟨oc11, od11, .func (PySem.W.fnOf "undo" "Watch.undo" (defArgs s_w_undo) (defBody s_w_undo) (defScope s_w_undo) .none kV11 dc11 pm11 an11 cd11 ct11), sl11⟩) (c11 : PySem.W.codeIn K cd11 "Watch.undo" = true) (k11 : PySem.W.keepIn K (.ref f11) = true)
    (a12 : PySem.W.nsIn K mainGlobals "_law_call" = some (some (.ref f12))) (l12 : K.lookup f12 = some ⟨oc12, od12, .func (PySem.W.fnOf "_law_call" "_law_call" (defArgs s_law_call) (defBody s_law_call) (defScope s_law_call) .none kV12 dc12 pm12 an12 cd12 ct12), sl12⟩) (c12 : PySem.W.codeIn K cd12 "_law_call" = true) (k12 : PySem.W.keepIn K (.ref f12) = true)
    (a13 : PySem.W.findIn K (.ref CW) "things" = some (some (.ref f13))) (i13 : PySem.W.isFn K (.ref f13) = true) (l13 : K.lookup f13 = some ⟨oc13, od13, .func (PySem.W.fnOf "things" "Watch.things" (defArgs s_w_things) (defBody s_w_things) (defScope s_w_things) .none kV13 dc13 pm13 an13 cd13 ct13), sl13⟩) (c13 : PySem.W.codeIn K cd13 "Watch.things" = true) (k13 : PySem.W.keepIn K (.ref f13) = true)
    (a14 : PySem.W.findIn K (.ref CW) "counts" = some (some (.ref f14))) (i14 : PySem.W.isFn K (.ref f14) = true) (l14 : K.lookup f14 = some ⟨oc14, od14, .func (PySem.W.fnOf "counts" "Watch.counts" (defArgs s_w_counts) (defBody s_w_counts) (defScope s_w_counts) .none kV14 dc14 pm14 an14 cd14 ct14), sl14⟩) (c14 : PySem.W.codeIn K cd14 "Watch.counts" = true) (k14 : PySem.W.keepIn K (.ref f14) = true)
    (a15 : PySem.W.findIn K (.ref CW) "__init__" = some (some (.ref f15))) (i15 : PySem.W.isFn K (.ref f15) = true) (l15 : K.lookup f15 = some ⟨oc15, od15, .func (PySem.W.fnOf "__init__" "Watch.__init__" (defArgs s_w_init) (defBody s_w_init) (defScope s_w_init) .none kV15 dc15 pm15 an15 cd15 ct15), sl15⟩) (c15 : PySem.W.codeIn K cd15 "Watch.__init__" = true) (k15 : PySem.W.keepIn K (.ref f15) = true)
    (a16 : PySem.W.findIn K (.ref CW) "__len__" = some (some (.ref f16))) (i16 : PySem.W.isFn K (.ref f16) = true) (l16 : K.lookup f16 = some ⟨oc16, od16, .func (PySem.W.fnOf "__len__" "Watch.__len__" (defArgs s_w_len) (defBody s_w_len) (defScope s_w_len) .none kV16 dc16 pm16 an16 cd16 ct16), sl16⟩) (c16 : PySem.W.codeIn K cd16 "Watch.__len__" = true) (k16 : PySem.W.keepIn K (.ref f16) = true)
    (a17 : PySem.W.nsIn K mainGlobals "law" = some (some (.ref f17))) (l17 : K.lookup f17 = some ⟨oc17, od17, .func (PySem.W.fnOf "law" "law" (defArgs s_law) (defBody s_law) (defScope s_law) .none kV17 dc17 pm17 an17 cd17 ct17), sl17⟩) (c17 : PySem.W.codeIn K cd17 "law" = true) (k17 : PySem.W.keepIn K (.ref f17) = true)
    (z_ValueError : PySem.W.nsIn K mainGlobals "ValueError" = some none)
    (z_bool : PySem.W.nsIn K mainGlobals "bool" = some none)
    (z_int : PySem.W.nsIn K mainGlobals "int" = some none)
    (z_isinstance : PySem.W.nsIn K mainGlobals "isinstance" = some none)
    (z_len : PySem.W.nsIn K mainGlobals "len" = some none)
    (z_list : PySem.W.nsIn K mainGlobals "list" = some none)
    (z_max : PySem.W.nsIn K mainGlobals "max" = some none)
    (z_min : PySem.W.nsIn K mainGlobals "min" = some none)
    (z_range : PySem.W.nsIn K mainGlobals "range" = some none)
    (z_tuple : PySem.W.nsIn K mainGlobals "tuple" = some none)
    (y_MOST_SCORE : PySem.W.nsIn K mainGlobals "MOST_SCORE" = some (some (.int 99 t_MOST_SCORE)))
    (g_BadThings : PySem.W.nsIn K mainGlobals "BadThings" = some (some (.ref C0))) (x_BadThings : PySem.W.excIn K C0 [.type "ValueError", .type "Exception", .type "BaseException", .type "object"] "ValueError.__new__" = true) (p_BadThings : PySem.W.keepIn K (.ref C0) = true) (e_BadThings : PySem.W.subIn K (.ref C0) (.type "BaseException") = some true) (t_BadThings : PySem.W.typeIn K (.ref C0) = some (.type "type"))
    (g_BadNumber : PySem.W.nsIn K mainGlobals "BadNumber" = some (some (.ref C1))) (x_BadNumber : PySem.W.excIn K C1 [.type "ValueError", .type "Exception", .type "BaseException", .type "object"] "ValueError.__new__" = true) (p_BadNumber : PySem.W.keepIn K (.ref C1) = true) (e_BadNumber : PySem.W.subIn K (.ref C1) (.type "BaseException") = some true) (t_BadNumber : PySem.W.typeIn K (.ref C1) = some (.type "type"))
    (g_BadPoints : PySem.W.nsIn K mainGlobals "BadPoints" = some (some (.ref C2))) (x_BadPoints : PySem.W.excIn K C2 [.type "ValueError", .type "Exception", .type "BaseException", .type "object"] "ValueError.__new__" = true) (p_BadPoints : PySem.W.keepIn K (.ref C2) = true) (e_BadPoints : PySem.W.subIn K (.ref C2) (.type "BaseException") = some true) (t_BadPoints : PySem.W.typeIn K (.ref C2) = some (.type "type"))
    (g_BadText : PySem.W.nsIn K mainGlobals "BadText" = some (some (.ref C3))) (x_BadText : PySem.W.excIn K C3 [.type "ValueError", .type "Exception", .type "BaseException", .type "object"] "ValueError.__new__" = true) (p_BadText : PySem.W.keepIn K (.ref C3) = true) (e_BadText : PySem.W.subIn K (.ref C3) (.type "BaseException") = some true) (t_BadText : PySem.W.typeIn K (.ref C3) = some (.type "type"))
    (g_NotFound : PySem.W.nsIn K mainGlobals "NotFound" = some (some (.ref C4))) (x_NotFound : PySem.W.excIn K C4 [.type "ValueError", .type "Exception", .type "BaseException", .type "object"] "ValueError.__new__" = true) (p_NotFound : PySem.W.keepIn K (.ref C4) = true) (e_NotFound : PySem.W.subIn K (.ref C4) (.type "BaseException") = some true) (t_NotFound : PySem.W.typeIn K (.ref C4) = some (.type "type"))
    {CA : Addr} (g_AlarmError : PySem.W.nsIn K mainGlobals "AlarmError" = some (some (.ref CA))) (ca_s : PySem.W.subIn K (.ref CA) (.type "BaseException") = some true) (ca_d : PySem.W.hasDictIn K CA = true) (ca_t : PySem.W.typeIn K (.ref CA) = some (.type "type"))
    (en : PySem.W.specialIn K (.builtin "object.__class__") "__get__" = some (some (.builtin "getset_descriptor.__get__"))) (et : PySem.W.takesIn K (.builtin "object.__class__") = some true)
    (eg0 : PySem.W.findIn K (.ref C0) "__getattribute__" = some (some (.builtin "BaseException.__getattribute__"))) (ek0 : PySem.W.findIn K (.ref C0) "__getattr__" = some none) (ed0 : PySem.W.hasDictIn K C0 = true) (ea0 : PySem.W.findIn K (.ref C0) "__class__" = some (some (.builtin "object.__class__"))) (em0 : PySem.W.mroIn K C0 (.type "object") = some true) (eu0 : PySem.W.subIn K (.ref C0) (.ref CA) = some true) (ev0 : PySem.W.subIn K (.ref C0) (.type "ValueError") = some true)
    (es00 : PySem.W.subIn K (.ref C0) (.ref C0) = some true)
    (es01 : PySem.W.subIn K (.ref C0) (.ref C1) = some false)
    (es02 : PySem.W.subIn K (.ref C0) (.ref C2) = some false)
    (es03 : PySem.W.subIn K (.ref C0) (.ref C3) = some false)
    (es04 : PySem.W.subIn K (.ref C0) (.ref C4) = some false)
    (eg1 : PySem.W.findIn K (.ref C1) "__getattribute__" = some (some (.builtin "BaseException.__getattribute__"))) (ek1 : PySem.W.findIn K (.ref C1) "__getattr__" = some none) (ed1 : PySem.W.hasDictIn K C1 = true) (ea1 : PySem.W.findIn K (.ref C1) "__class__" = some (some (.builtin "object.__class__"))) (em1 : PySem.W.mroIn K C1 (.type "object") = some true) (eu1 : PySem.W.subIn K (.ref C1) (.ref CA) = some true) (ev1 : PySem.W.subIn K (.ref C1) (.type "ValueError") = some true)
    (es10 : PySem.W.subIn K (.ref C1) (.ref C0) = some false)
    (es11 : PySem.W.subIn K (.ref C1) (.ref C1) = some true)
    (es12 : PySem.W.subIn K (.ref C1) (.ref C2) = some false)
    (es13 : PySem.W.subIn K (.ref C1) (.ref C3) = some false)
    (es14 : PySem.W.subIn K (.ref C1) (.ref C4) = some false)
    (eg2 : PySem.W.findIn K (.ref C2) "__getattribute__" = some (some (.builtin "BaseException.__getattribute__"))) (ek2 : PySem.W.findIn K (.ref C2) "__getattr__" = some none) (ed2 : PySem.W.hasDictIn K C2 = true) (ea2 : PySem.W.findIn K (.ref C2) "__class__" = some (some (.builtin "object.__class__"))) (em2 : PySem.W.mroIn K C2 (.type "object") = some true) (eu2 : PySem.W.subIn K (.ref C2) (.ref CA) = some true) (ev2 : PySem.W.subIn K (.ref C2) (.type "ValueError") = some true)
    (es20 : PySem.W.subIn K (.ref C2) (.ref C0) = some false)
    (es21 : PySem.W.subIn K (.ref C2) (.ref C1) = some false)
    (es22 : PySem.W.subIn K (.ref C2) (.ref C2) = some true)
    (es23 : PySem.W.subIn K (.ref C2) (.ref C3) = some false)
    (es24 : PySem.W.subIn K (.ref C2) (.ref C4) = some false)
    (eg3 : PySem.W.findIn K (.ref C3) "__getattribute__" = some (some (.builtin "BaseException.__getattribute__"))) (ek3 : PySem.W.findIn K (.ref C3) "__getattr__" = some none) (ed3 : PySem.W.hasDictIn K C3 = true) (ea3 : PySem.W.findIn K (.ref C3) "__class__" = some (some (.builtin "object.__class__"))) (em3 : PySem.W.mroIn K C3 (.type "object") = some true) (eu3 : PySem.W.subIn K (.ref C3) (.ref CA) = some true) (ev3 : PySem.W.subIn K (.ref C3) (.type "ValueError") = some true)
    (es30 : PySem.W.subIn K (.ref C3) (.ref C0) = some false)
    (es31 : PySem.W.subIn K (.ref C3) (.ref C1) = some false)
    (es32 : PySem.W.subIn K (.ref C3) (.ref C2) = some false)
    (es33 : PySem.W.subIn K (.ref C3) (.ref C3) = some true)
    (es34 : PySem.W.subIn K (.ref C3) (.ref C4) = some false)
    (eg4 : PySem.W.findIn K (.ref C4) "__getattribute__" = some (some (.builtin "BaseException.__getattribute__"))) (ek4 : PySem.W.findIn K (.ref C4) "__getattr__" = some none) (ed4 : PySem.W.hasDictIn K C4 = true) (ea4 : PySem.W.findIn K (.ref C4) "__class__" = some (some (.builtin "object.__class__"))) (em4 : PySem.W.mroIn K C4 (.type "object") = some true) (eu4 : PySem.W.subIn K (.ref C4) (.ref CA) = some true) (ev4 : PySem.W.subIn K (.ref C4) (.type "ValueError") = some true)
    (es40 : PySem.W.subIn K (.ref C4) (.ref C0) = some false)
    (es41 : PySem.W.subIn K (.ref C4) (.ref C1) = some false)
    (es42 : PySem.W.subIn K (.ref C4) (.ref C2) = some false)
    (es43 : PySem.W.subIn K (.ref C4) (.ref C3) = some false)
    (es44 : PySem.W.subIn K (.ref C4) (.ref C4) = some true)
    : ∃ fd : FuncData, (∀ (s : Shared) (v : Value), BindsTo s fd ⟨[v], []⟩ [("_law_script", v)]) ∧ ∀ base : Heap, K.In base → base.Ns mainGlobals mg → FnOk l.prog w K mg base (L2.CX l.prog w) 5 fa fd ["_law_script"] (spLaw K) := by
  have e := hfa.symm.trans (PySem.W.mg_of X G a17)
  cases e
  have F0 := fun_mk (st := s_is_int) l0 c0 k0
  have F1 := fun_mk (st := s_is_thing) l1 c1 k1
  have F2 := fun_mk (st := s_check_threshold) l2 c2 k2
  have F3 := fun_mk (st := s_law_start) l3 c3 k3
  have F4 := fun_mk (st := s_law_draw) l4 c4 k4
  have F5 := fun_mk (st := s_law_pick) l5 c5 k5
  have F6 := fun_mk (st := s_law_error) l6 c6 k6
  have F7 := fun_mk (st := s_law_true) l7 c7 k7
  have F8 := fun_mk (st := s_law_point) l8 c8 k8
  have F9 := fun_mk (st := s_w_move) l9 c9 k9
  have F10 := fun_mk (st := s_w_push) l10 c10 k10
  have F11 := fun_mk (st := s_w_undo) l11 c11 k11
  have F12 := fun_mk (st := s_law_call) l12 c12 k12
  have F13 := fun_mk (st := s_w_things) l13 c13 k13
  have F14 := fun_mk (st := s_w_counts) l14 c14 k14
  have F15 := fun_mk (st := s_w_init) l15 c15 k15
  have F16 := fun_mk (st := s_w_len) l16 c16 k16
  have F17 := fun_mk (st := s_law) l17 c17 k17
  let T : Txt K mg := {
    cl := fun i => if i = 0 then C0 else if i = 1 then C1 else if i = 2 then C2 else if i = 3 then C3 else if i = 4 then C4 else 0
    CW := CW
    wc := ⟨wpg, whd, wpo, wsa⟩
    nT := wnT
    nL := wnL
    mgW := PySem.W.mg_of X G aCW
    n_ValueError := PySem.W.mg_none_of X G z_ValueError
    n_bool := PySem.W.mg_none_of X G z_bool
    n_int := PySem.W.mg_none_of X G z_int
    n_isinstance := PySem.W.mg_none_of X G z_isinstance
    n_len := PySem.W.mg_none_of X G z_len
    n_list := PySem.W.mg_none_of X G z_list
    n_max := PySem.W.mg_none_of X G z_max
    n_min := PySem.W.mg_none_of X G z_min
    n_range := PySem.W.mg_none_of X G z_range
    n_tuple := PySem.W.mg_none_of X G z_tuple
    c_MOST_SCORE := ⟨_, PySem.W.mg_of X G y_MOST_SCORE, _, rfl⟩
    x_BadThings := x_BadThings
    g_BadThings := PySem.W.mg_of X G g_BadThings
    k_BadThings := p_BadThings
    e_BadThings := e_BadThings
    t_BadThings := t_BadThings
    x_BadNumber := x_BadNumber
    g_BadNumber := PySem.W.mg_of X G g_BadNumber
    k_BadNumber := p_BadNumber
    e_BadNumber := e_BadNumber
    t_BadNumber := t_BadNumber
    x_BadPoints := x_BadPoints
    g_BadPoints := PySem.W.mg_of X G g_BadPoints
    k_BadPoints := p_BadPoints
    e_BadPoints := e_BadPoints
    t_BadPoints := t_BadPoints
    x_BadText := x_BadText
    g_BadText := PySem.W.mg_of X G g_BadText
    k_BadText := p_BadText
    e_BadText := e_BadText
    t_BadText := t_BadText
    x_NotFound := x_NotFound
    g_NotFound := PySem.W.mg_of X G g_NotFound
    k_NotFound := p_NotFound
    e_NotFound := e_NotFound
    t_NotFound := t_NotFound
    CA := CA
    g_AlarmError := PySem.W.mg_of X G g_AlarmError
    ER := errT_mk (fun c hc => match c, hc with | 0, _ => ⟨⟨eg0, ek0, e_BadThings, ed0, ea0, en, et, em0⟩, t_BadThings, es00, eu0, ev0⟩ | 1, _ => ⟨⟨eg1, ek1, e_BadNumber, ed1, ea1, en, et, em1⟩, t_BadNumber, es11, eu1, ev1⟩ | 2, _ => ⟨⟨eg2, ek2, e_BadPoints, ed2, ea2, en, et, em2⟩, t_BadPoints, es22, eu2, ev2⟩ | 3, _ => ⟨⟨eg3, ek3, e_BadText, ed3, ea3, en, et, em3⟩, t_BadText, es33, eu3, ev3⟩ | 4, _ => ⟨⟨eg4, ek4, e_NotFound, ed4, ea4, en, et, em4⟩, t_NotFound, es44, eu4, ev4⟩ | c + 5, hc => absurd hc (by omega)) ca_s ca_d ca_t (fun c d hc hd hn => match c, d, hc, hd, hn with | 0, 0, _, _, n => absurd rfl n | 0, 1, _, _, n => es01 | 0, 2, _, _, n => es02 | 0, 3, _, _, n => es03 | 0, 4, _, _, n => es04 | 1, 0, _, _, n => es10 | 1, 1, _, _, n => absurd rfl n | 1, 2, _, _, n => es12 | 1, 3, _, _, n => es13 | 1, 4, _, _, n => es14 | 2, 0, _, _, n => es20 | 2, 1, _, _, n => es21 | 2, 2, _, _, n => absurd rfl n | 2, 3, _, _, n => es23 | 2, 4, _, _, n => es24 | 3, 0, _, _, n => es30 | 3, 1, _, _, n => es31 | 3, 2, _, _, n => es32 | 3, 3, _, _, n => absurd rfl n | 3, 4, _, _, n => es34 | 4, 0, _, _, n => es40 | 4, 1, _, _, n => es41 | 4, 2, _, _, n => es42 | 4, 3, _, _, n => es43 | 4, 4, _, _, n => absurd rfl n | c + 5, _, hc, _, _ => absurd hc (by omega) | _, d + 5, _, hd, _ => absurd hd (by omega))
    f_is_int := _
    fd_is_int := _
    F_is_int := F0
    b_is_int := F0.binds (ps := ["value", "low", "high"]) fun _ _ _ _ _ _ us hl => match us, hl with | [_, _, _], _ => rfl
    m_is_int := PySem.W.mg_of X G a0
    f_is_thing := _
    fd_is_thing := _
    F_is_thing := F1
    b_is_thing := F1.binds (ps := ["value"]) fun _ _ _ _ _ _ us hl => match us, hl with | [_], _ => rfl
    m_is_thing := PySem.W.mg_of X G a1
    f_check_threshold := _
    fd_check_threshold := _
    F_check_threshold := F2
    b_check_threshold := F2.binds (ps := ["value"]) fun _ _ _ _ _ _ us hl => match us, hl with | [_], _ => rfl
    m_check_threshold := PySem.W.mg_of X G a2
    f_law_start := _
    fd_law_start := _
    F_law_start := F3
    b_law_start := F3.binds (ps := ["_law_script"]) fun _ _ _ _ _ _ us hl => match us, hl with | [_], _ => rfl
    m_law_start := PySem.W.mg_of X G a3
    f_law_draw := _
    fd_law_draw := _
    F_law_draw := F4
    b_law_draw := F4.binds (ps := ["_law_draws", "_law_limit"]) fun _ _ _ _ _ _ us hl => match us, hl with | [_, _], _ => rfl
    m_law_draw := PySem.W.mg_of X G a4
    f_law_pick := _
    fd_law_pick := _
    F_law_pick := F5
    b_law_pick := F5.binds (ps := ["_law_draws", "_law_choices"]) fun _ _ _ _ _ _ us hl => match us, hl with | [_, _], _ => rfl
    m_law_pick := PySem.W.mg_of X G a5
    f_law_error := _
    fd_law_error := _
    F_law_error := F6
    b_law_error := F6.binds (ps := ["_law_caught"]) fun _ _ _ _ _ _ us hl => match us, hl with | [_], _ => rfl
    m_law_error := PySem.W.mg_of X G a6
    f_law_true := _
    fd_law_true := _
    F_law_true := F7
    b_law_true := F7.binds (ps := ["_law_value", "_law_expected"]) fun _ _ _ _ _ _ us hl => match us, hl with | [_, _], _ => rfl
    m_law_true := PySem.W.mg_of X G a7
    f_law_point := _
    fd_law_point := _
    F_law_point := F8
    b_law_point := F8.binds (ps := ["_law_things", "_law_threshold"]) fun _ _ _ _ _ _ us hl => match us, hl with | [_, _], _ => rfl
    m_law_point := PySem.W.mg_of X G a8
    f_w_move := _
    fd_w_move := _
    F_w_move := F9
    b_w_move := F9.binds (ps := ["self", "threshold"]) fun _ _ _ _ _ _ us hl => match us, hl with | [_, _], _ => rfl
    me_w_move := ⟨a9, i9, k9⟩
    f_w_push := _
    fd_w_push := _
    F_w_push := F10
    b_w_push := F10.binds (ps := ["self", "thing"]) fun _ _ _ _ _ _ us hl => match us, hl with | [_, _], _ => rfl
    me_w_push := ⟨a10, i10, k10⟩
    f_w_undo := _
    fd_w_undo := _
    F_w_undo := F11
    b_w_undo := F11.binds (ps := ["self"]) fun _ _ _ _ _ _ us hl => match us, hl with | [_], _ => rfl
    me_w_undo := ⟨a11, i11, k11⟩
    f_law_call := _
    fd_law_call := _
    F_law_call := F12
    b_law_call := F12.binds (ps := ["_law_shown", "_law_kind", "_law_thing"]) fun _ _ _ _ _ _ us hl => match us, hl with | [_, _, _], _ => rfl
    m_law_call := PySem.W.mg_of X G a12
    f_w_things := _
    fd_w_things := _
    F_w_things := F13
    b_w_things := F13.binds (ps := ["self"]) fun _ _ _ _ _ _ us hl => match us, hl with | [_], _ => rfl
    me_w_things := ⟨a13, i13, k13⟩
    f_w_counts := _
    fd_w_counts := _
    F_w_counts := F14
    b_w_counts := F14.binds (ps := ["self"]) fun _ _ _ _ _ _ us hl => match us, hl with | [_], _ => rfl
    me_w_counts := ⟨a14, i14, k14⟩
    f_w_init := _
    fd_w_init := _
    F_w_init := F15
    b_w_init := F15.binds (ps := ["self", "threshold"]) fun _ _ _ _ _ _ us hl => match us, hl with | [_, _], _ => rfl
    me_w_init := ⟨a15, i15, k15⟩
    mkW := ⟨wmk, a15, i15, wkc⟩
    f_w_len := _
    fd_w_len := _
    F_w_len := F16
    b_w_len := F16.binds (ps := ["self"]) fun _ _ _ _ _ _ us hl => match us, hl with | [_], _ => rfl
    me_w_len := ⟨a16, i16, k16⟩
    le_W := a16
    li_W := i16
    f_law := _
    fd_law := _
    F_law := F17
    b_law := F17.binds (ps := ["_law_script"]) fun _ _ _ _ _ _ us hl => match us, hl with | [_], _ => rfl
    m_law := PySem.W.mg_of X G a17
  }
  exact ⟨_, fun s v => .of_eq rfl, fun base _ _ => ok_law T hm⟩
theorem walk {l : PySem.W.OpenLaw} {q : Program} {loose : List Str} {XP : (Str → Option Value) → Heap → Prop} {YP : World → Heap → Prop} {d : DefRec} {K : Params → PySem.W.Frag} (hn : l.most = some 63) (hdf : d.params.defaults = [])
    (hY : ∀ (w : World) (h : Heap), YP w h → (K w.params).In h) (F : ∀ (w : World) (mg : Str → Option Value) (fa : Addr) (h : Heap), (K w.params).In h → h.Ns mainGlobals mg → mg d.name = some (.ref fa) →
      ∃ fd : FuncData, (∀ (s : Shared) (u : Value), BindsTo s fd ⟨[u], []⟩ [("_law_script", u)]) ∧ ∀ base : Heap, (K w.params).In base → base.Ns mainGlobals mg → FnOk l.prog w (K w.params) mg base (L2.CX l.prog w) 5 fa fd ["_law_script"] (spLaw (K w.params))) : PySem.W.WalkO q loose XP YP l.row.toRowW d [] (fun f vs => PySem.call f vs) :=
  L2.walk_of (n := 63) (k := 5) (x := "_law_script") (CX := fun w => L2.CX l.prog w) (sp := fun w => spLaw (K w.params)) hn (by decide) hdf ⟨rfl, by decide, by decide⟩ hY F (fun _ _ a ns hl _ hS => ⟨a, ns, rfl, hS, hl, fun _ => rfl⟩) fun _ _ _ _ _ z => cx_false z
end Lw
open PySem PySem.W PyProof.Rows in
set_option maxRecDepth 100000 in
set_option maxHeartbeats 0 in
theorem PySem.Challenge.cw_alarmcurves_k11_whole_watches_holds : PySem.Challenge.rw_alarmcurves_k11_whole_watches.Holds := by
  w_on; o_law; k_head; (case hw => w_witness2)
  k_fill
  refine Lw.walk (l := PySem.Challenge.rw_alarmcurves_k11_whole_watches) rfl rfl (fun w h Y => PySem.W.kIn_of Y) ?F
  case F =>
    intro w mg fa h KX G hmg
    refine' Lw.all_mk KX G hmg Lw.law_math ?aCW ?wpg ?whd ?wpo ?wsa ?wmk ?wkc ?wnT ?wnL ?a0 ?l0 ?c0 ?k0 ?a1 ?l1 ?c1 ?k1 ?a2 ?l2 ?c2 ?k2 ?a3 ?l3 ?c3 ?k3 ?a4 ?l4 ?c4 ?k4 ?a5 ?l5 ?c5 ?k5 ?a6 ?l6 ?c6 ?k6 ?a7 ?l7 ?c7 ?k7 ?a8 ?l8 ?c8 ?k8 ?a9 ?i9 ?l9 ?c9 ?k9 ?a10 ?i10 ?l10 ?c10 ?k10 ?a11 ?i11 ?l11 ?c11 ?k11 ?a12 ?l12 ?c12 ?k12 ?a13 ?i13 ?l13 ?c13 ?k13 ?a14 ?i14 ?l14 ?c14 ?k14 ?a15 ?i15 ?l15 ?c15 ?k15 ?a16 ?i16 ?l16 ?c16 ?k16 ?a17 ?l17 ?c17 ?k17 ?z_ValueError ?z_bool ?z_int ?z_isinstance ?z_len ?z_list ?z_max ?z_min ?z_range ?z_tuple ?y_MOST_SCORE ?g_BadThings ?x_BadThings ?p_BadThings ?e_BadThings ?t_BadThings ?g_BadNumber ?x_BadNumber ?p_BadNumber ?e_BadNumber ?t_BadNumber ?g_BadPoints ?x_BadPoints ?p_BadPoints ?e_BadPoints ?t_BadPoints ?g_BadText ?x_BadText ?p_BadText ?e_BadText ?t_BadText ?g_NotFound ?x_NotFound ?p_NotFound ?e_NotFound ?t_NotFound ?g_AlarmError ?ca_s ?ca_d ?ca_t ?en ?et ?eg0 ?ek0 ?ed0 ?ea0 ?em0 ?eu0 ?ev0 ?es00 ?es01 ?es02 ?es03 ?es04 ?eg1 ?ek1 ?ed1 ?ea1 ?em1 ?eu1 ?ev1 ?es10 ?es11 ?es12 ?es13 ?es14 ?eg2 ?ek2 ?ed2 ?ea2 ?em2 ?eu2 ?ev2 ?es20 ?es21 ?es22 ?es23 ?es24 ?eg3 ?ek3 ?ed3 ?ea3 ?em3 ?eu3 ?ev3 ?es30 ?es31 ?es32 ?es33 ?es34 ?eg4 ?ek4 ?ed4 ?ea4 ?em4 ?eu4 ?ev4 ?es40 ?es41 ?es42 ?es43 ?es44
    (case aCW => k_is)
    (case wpg => k_is)
    (case whd => k_is)
    (case wpo => k_is)
    (case wsa => k_is)
    (case wmk => k_is)
    (case wkc => k_is)
    (case wnT => k_is)
    (case wnL => k_is)
    (case a0 => k_is)
    (case l0 => k_is)
    (case c0 => k_is)
    (case k0 => k_is)
    (case a1 => k_is)
    (case l1 => k_is)
    (case c1 => k_is)
    (case k1 => k_is)
    (case a2 => k_is)
    (case l2 => k_is)
    (case c2 => k_is)
    (case k2 => k_is)
    (case a3 => k_is)
    (case l3 => k_is)
    (case c3 => k_is)
    (case k3 => k_is)
    (case a4 => k_is)
    (case l4 => k_is)
    (case c4 => k_is)
    (case k4 => k_is)
    (case a5 => k_is)
    (case l5 => k_is)
    (case c5 => k_is)
    (case k5 => k_is)
    (case a6 => k_is)
    (case l6 => k_is)
    (case c6 => k_is)
    (case k6 => k_is)
    (case a7 => k_is)
    (case l7 => k_is)
    (case c7 => k_is)
    (case k7 => k_is)
    (case a8 => k_is)
    (case l8 => k_is)
    (case c8 => k_is)
    (case k8 => k_is)
    (case a9 => k_is)
    (case i9 => k_is)
    (case l9 => k_is)
    (case c9 => k_is)
    (case k9 => k_is)
    (case a10 => k_is)
    (case i10 => k_is)
    (case l10 => k_is)
    (case c10 => k_is)
    (case k10 => k_is)
    (case a11 => k_is)
    (case i11 => k_is)
    (case l11 => k_is)
    (case c11 => k_is)
    (case k11 => k_is)
    (case a12 => k_is)
    (case l12 => k_is)
    (case c12 => k_is)
    (case k12 => k_is)
    (case a13 => k_is)
    (case i13 => k_is)
    (case l13 => k_is)
    (case c13 => k_is)
    (case k13 => k_is)
    (case a14 => k_is)
    (case i14 => k_is)
    (case l14 => k_is)
    (case c14 => k_is)
    (case k14 => k_is)
    (case a15 => k_is)
    (case i15 => k_is)
    (case l15 => k_is)
    (case c15 => k_is)
    (case k15 => k_is)
    (case a16 => k_is)
    (case i16 => k_is)
    (case l16 => k_is)
    (case c16 => k_is)
    (case k16 => k_is)
    (case a17 => k_is)
    (case l17 => k_is)
    (case c17 => k_is)
    (case k17 => k_is)
    (case z_ValueError => k_is)
    (case z_bool => k_is)
    (case z_int => k_is)
    (case z_isinstance => k_is)
    (case z_len => k_is)
    (case z_list => k_is)
    (case z_max => k_is)
    (case z_min => k_is)
    (case z_range => k_is)
    (case z_tuple => k_is)
    (case y_MOST_SCORE => k_is)
    (case g_BadThings => k_is)
    (case x_BadThings => k_exc)
    (case p_BadThings => k_is)
    (case e_BadThings => k_is)
    (case t_BadThings => k_is)
    (case g_BadNumber => k_is)
    (case x_BadNumber => k_exc)
    (case p_BadNumber => k_is)
    (case e_BadNumber => k_is)
    (case t_BadNumber => k_is)
    (case g_BadPoints => k_is)
    (case x_BadPoints => k_exc)
    (case p_BadPoints => k_is)
    (case e_BadPoints => k_is)
    (case t_BadPoints => k_is)
    (case g_BadText => k_is)
    (case x_BadText => k_exc)
    (case p_BadText => k_is)
    (case e_BadText => k_is)
    (case t_BadText => k_is)
    (case g_NotFound => k_is)
    (case x_NotFound => k_exc)
    (case p_NotFound => k_is)
    (case e_NotFound => k_is)
    (case t_NotFound => k_is)
    (case g_AlarmError => k_is)
    (case ca_s => k_is)
    (case ca_d => k_is)
    (case ca_t => k_is)
    (case en => k_is)
    (case et => k_is)
    (case eg0 => k_is)
    (case ek0 => k_is)
    (case ed0 => k_is)
    (case ea0 => k_is)
    (case em0 => k_is)
    (case eu0 => k_is)
    (case ev0 => k_is)
    (case es00 => k_is)
    (case es01 => k_is)
    (case es02 => k_is)
    (case es03 => k_is)
    (case es04 => k_is)
    (case eg1 => k_is)
    (case ek1 => k_is)
    (case ed1 => k_is)
    (case ea1 => k_is)
    (case em1 => k_is)
    (case eu1 => k_is)
    (case ev1 => k_is)
    (case es10 => k_is)
    (case es11 => k_is)
    (case es12 => k_is)
    (case es13 => k_is)
    (case es14 => k_is)
    (case eg2 => k_is)
    (case ek2 => k_is)
    (case ed2 => k_is)
    (case ea2 => k_is)
    (case em2 => k_is)
    (case eu2 => k_is)
    (case ev2 => k_is)
    (case es20 => k_is)
    (case es21 => k_is)
    (case es22 => k_is)
    (case es23 => k_is)
    (case es24 => k_is)
    (case eg3 => k_is)
    (case ek3 => k_is)
    (case ed3 => k_is)
    (case ea3 => k_is)
    (case em3 => k_is)
    (case eu3 => k_is)
    (case ev3 => k_is)
    (case es30 => k_is)
    (case es31 => k_is)
    (case es32 => k_is)
    (case es33 => k_is)
    (case es34 => k_is)
    (case eg4 => k_is)
    (case ek4 => k_is)
    (case ed4 => k_is)
    (case ea4 => k_is)
    (case em4 => k_is)
    (case eu4 => k_is)
    (case ev4 => k_is)
    (case es40 => k_is)
    (case es41 => k_is)
    (case es42 => k_is)
    (case es43 => k_is)
    (case es44 => k_is)
#print axioms PySem.Challenge.cw_alarmcurves_k11_whole_watches_holds
