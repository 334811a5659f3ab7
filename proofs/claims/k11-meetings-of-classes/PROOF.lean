import PyProof.Rows.All
import Wide.All
import OpenK.AllK
import Wide.FinOn
import HandS.ForMost
import HandS.Gcd
import HandS.Style
import HandS.WideBits
import HandS.Wide
import HandS.IsInst
import HandS.Flow
import HandS.EndBits
import HandS.TupAny
import HandS.Deep
import HandS.SortInts
import HandS.Zip
import HandS.Defaults
import HandS.More
import HandS.Iter
import PySem.Challenge.RW_classesshared_k11_whole_meetings_of_clas
set_option Elab.async false
set_option linter.all false
set_option maxRecDepth 100000
set_option maxHeartbeats 4000000
set_option autoImplicit false
namespace XL
open PySem PySem.Spec L2

/-! ### results -/
inductive Res (α : Type) where
  | ok (a : α)
  | ex (c : String) (ds : List PyData)
  | bad
def Res.bind {α β : Type} : Res α → (α → Res β) → Res β
  | .ok a, f => f a
  | .ex c ds, _ => .ex c ds
  | .bad, _ => .bad
instance : Monad Res where
  pure := .ok
  bind := Res.bind
@[simp] theorem bind_ok {α β : Type} (a : α) (f : α → Res β) : (Res.ok a >>= f) = f a := rfl
@[simp] theorem bind_ex {α β : Type} (c : String) (ds : List PyData) (f : α → Res β) : (Res.ex c ds >>= f) = .ex c ds := rfl
@[simp] theorem bind_bad {α β : Type} (f : α → Res β) : (Res.bad >>= f) = .bad := rfl
@[simp] theorem pure_ok {α : Type} (a : α) : (pure a : Res α) = .ok a := rfl
theorem bind_eq {α β : Type} {r : Res α} {f : α → Res β} {b : β} (h : (r >>= f) = .ok b) : ∃ a, r = .ok a ∧ f a = .ok b := by
  cases r with
  | ok a => exact ⟨a, rfl, h⟩
  | ex c ds => cases h
  | bad => cases h

/-! ### slots -/
inductive Sl where
  | em
  | va (d : PyData)
  | ow (xs : List PyData)
  | io (xs : List PyData)
abbrev En := List Sl
/-- a weak value: data, or what stands in a slot -/
inductive Wv where
  | d (d : PyData)
  | s (i : Nat)
def rdS : Sl → Res PyData
  | .em => .bad
  | .va d => .ok d
  | .ow xs => .ok (.list xs)
  | .io xs => .ok (.list xs)
def rd (env : En) : Wv → Res PyData
  | .d d => .ok d
  | .s i => match env[i]? with
    | some s => rdS s
    | none => .bad
@[simp] theorem rd_d (env : En) (d : PyData) : rd env (.d d) = .ok d := rfl
/-- as a value that may be kept: an owned list is given up -/
def strg (p : Wv × En) : Res (PyData × En) := match p.1 with
  | .d d => .ok (d, p.2)
  | .s i => match p.2[i]? with
    | some (.va d) => .ok (d, p.2)
    | some (.ow xs) => .ok (.list xs, p.2.set i (.va (.list xs)))
    | _ => .bad
abbrev Ev := En → Res (Wv × En)
abbrev EvT := En → Res (Bool × En)
abbrev EvS := En → Res (PyData × En)
/-- a def: its arguments, its answer and the lists that it changed -/
abbrev Fn := En → Res (PyData × List (List PyData))

/-! ### data in the heap -/
mutual
inductive Rp (K : PySem.W.Frag) (H : Hp) : V → PyData → Prop
  | non : Rp K H .non .none
  | bl (b : Bool) : Rp K H (.bl b) (.bool b)
  | int (i : Int) : Rp K H (.int i) (.int i)
  | str (x : Str) : Rp K H (.str x) (.str x)
  | lst {a : Addr} {vs : List V} {ds : List PyData} : H a = some (.lst vs) → RpA K H vs ds → Rp K H (.ref a) (.list ds)
  | tup {a : Addr} {vs : List V} {ds : List PyData} : SqT K H a vs → RpA K H vs ds → Rp K H (.ref a) (.tuple ds)
inductive RpA (K : PySem.W.Frag) (H : Hp) : List V → List PyData → Prop
  | nil : RpA K H [] []
  | cons {v : V} {vs : List V} {d : PyData} {ds : List PyData} : Rp K H v d → RpA K H vs ds → RpA K H (v :: vs) (d :: ds)
end

def Ext (H H' : Hp) : Prop := ∀ a o, H a = some o → H' a = some o
theorem Ext.refl (H : Hp) : Ext H H := fun _ _ h => h
theorem Ext.trans {H H1 H2 : Hp} (a : Ext H H1) (b : Ext H1 H2) : Ext H H2 := fun x o h => b x o (a x o h)
theorem Ext.t {K : PySem.W.Frag} {H H' : Hp} {a : Addr} {xs : List V} (e : Ext H H') (h : SqT K H a xs) : SqT K H' a xs := by
  rcases h with (h | ⟨o, h⟩) | h
  · exact .inl (.inl (e _ _ h))
  · exact .inl (.inr ⟨o, e _ _ h⟩)
  · exact .inr h
section
variable {K : PySem.W.Frag} {H H' : Hp}
mutual
theorem Rp.ext (e : Ext H H') : ∀ {v : V} (d : PyData), Rp K H v d → Rp K H' v d
  | _, .none, h => by cases h; exact .non
  | _, .bool _, h => by cases h; exact .bl _
  | _, .int _, h => by cases h; exact .int _
  | _, .str _, h => by cases h; exact .str _
  | _, .list ds, h => by cases h with | lst h1 h2 => exact .lst (e _ _ h1) (RpA.ext e ds h2)
  | _, .tuple ds, h => by cases h with | tup h1 h2 => exact .tup (e.t h1) (RpA.ext e ds h2)
  | _, .dict _, h => by cases h
theorem RpA.ext (e : Ext H H') : ∀ {vs : List V} (ds : List PyData), RpA K H vs ds → RpA K H' vs ds
  | _, [], h => by cases h; exact .nil
  | _, d :: ds, h => by cases h with | cons h1 h2 => exact .cons (Rp.ext e d h1) (RpA.ext e ds h2)
end
mutual
theorem Rp.dp : ∀ {v : V} (d : PyData), Rp K H v d → Dp K H v d
  | _, .none, h => by cases h; exact .non
  | _, .bool _, h => by cases h; exact .bl _
  | _, .int _, h => by cases h; exact .int _
  | _, .str _, h => by cases h; exact .str _
  | _, .list ds, h => by cases h with | lst h1 h2 => exact .lst (SqL.of h1) (RpA.dp ds h2)
  | _, .tuple ds, h => by cases h with | tup h1 h2 => exact .tup h1 (RpA.dp ds h2)
  | _, .dict _, h => by cases h
theorem RpA.dp : ∀ {vs : List V} (ds : List PyData), RpA K H vs ds → DpAll K H vs ds
  | _, [], h => by cases h; exact .nil
  | _, d :: ds, h => by cases h with | cons h1 h2 => exact .cons (Rp.dp d h1) (RpA.dp ds h2)
end
theorem RpA.len : ∀ {vs : List V} {ds : List PyData}, RpA K H vs ds → vs.length = ds.length
  | _, [], h => by cases h; rfl
  | _, d :: ds, h => by cases h with | cons h1 h2 => simp [RpA.len h2]
theorem RpA.get : ∀ {vs : List V} {ds : List PyData} {i : Nat} {d : PyData}, RpA K H vs ds → ds[i]? = some d → ∃ v, vs[i]? = some v ∧ Rp K H v d
  | _, [], _, _, h, e => by simp at e
  | _, d :: ds, 0, _, h, e => by
    cases h with
    | cons h1 h2 => simp at e; subst e; exact ⟨_, rfl, h1⟩
  | _, d :: ds, i + 1, _, h, e => by
    cases h with
    | cons h1 h2 =>
      obtain ⟨v, q1, q2⟩ := RpA.get (i := i) h2 (by simpa using e)
      exact ⟨v, by simpa using q1, q2⟩
theorem RpA.getV : ∀ {vs : List V} {ds : List PyData} {i : Nat} {v : V}, RpA K H vs ds → vs[i]? = some v → ∃ d, ds[i]? = some d ∧ Rp K H v d
  | [], _, _, _, h, e => by simp at e
  | w :: vs, _, 0, _, h, e => by
    cases h with
    | cons h1 h2 => simp at e; subst e; exact ⟨_, rfl, h1⟩
  | w :: vs, _, i + 1, _, h, e => by
    cases h with
    | cons h1 h2 =>
      obtain ⟨v, q1, q2⟩ := RpA.getV (i := i) h2 (by simpa using e)
      exact ⟨v, by simpa using q1, q2⟩
theorem RpA.app : ∀ {vs ws : List V} {ds es : List PyData}, RpA K H vs ds → RpA K H ws es → RpA K H (vs ++ ws) (ds ++ es)
  | _, _, [], _, h, h' => by cases h; exact h'
  | _, _, d :: ds, _, h, h' => by cases h with | cons h1 h2 => exact .cons h1 (h2.app h')
theorem RpA.take : ∀ {vs : List V} {ds : List PyData} (n : Nat), RpA K H vs ds → RpA K H (vs.take n) (ds.take n)
  | _, _, 0, _ => by simpa using RpA.nil
  | _, [], n + 1, h => by cases h; exact .nil
  | _, d :: ds, n + 1, h => by cases h with | cons h1 h2 => exact .cons h1 (h2.take n)
theorem RpA.drop : ∀ {vs : List V} {ds : List PyData} (n : Nat), RpA K H vs ds → RpA K H (vs.drop n) (ds.drop n)
  | _, _, 0, h => by simpa using h
  | _, [], n + 1, h => by cases h; exact .nil
  | _, d :: ds, n + 1, h => by cases h with | cons h1 h2 => exact h2.drop n
theorem RpA.rev {vs : List V} {ds : List PyData} (h : RpA K H vs ds) : RpA K H vs.reverse ds.reverse := by
  induction ds generalizing vs with
  | nil => cases h; exact .nil
  | cons d ds ih =>
    cases h with
    | cons h1 h2 =>
      rw [List.reverse_cons, List.reverse_cons]
      exact (ih h2).app (.cons h1 .nil)
theorem RpA.set : ∀ {vs : List V} {ds : List PyData} {v : V} {d : PyData} (n : Nat), RpA K H vs ds → Rp K H v d → RpA K H (vs.set n v) (ds.set n d)
  | _, [], _, _, n, h, _ => by cases h; exact .nil
  | _, d :: ds, _, _, 0, h, h' => by cases h with | cons h1 h2 => exact .cons h' h2
  | _, d :: ds, _, _, n + 1, h, h' => by cases h with | cons h1 h2 => exact .cons h1 (h2.set n h')
/-- ints -/
def nums : List PyData → Option (List Int)
  | [] => some []
  | .int i :: r => (nums r).map (i :: ·)
  | _ => none
theorem RpA.nums : ∀ {vs : List V} {ds : List PyData} {ns : List Int}, RpA K H vs ds → XL.nums ds = some ns → vs = ns.map V.int
  | _, [], _, h, e => by cases h; cases e; rfl
  | _, .int i :: ds, ns, h, e => by
    cases h with
    | cons h1 h2 =>
      cases h1
      unfold XL.nums at e
      obtain ⟨ms, e1, e2⟩ := Option.map_eq_some_iff.mp e
      subst e2
      rw [h2.nums e1]
      rfl
  | _, .none :: _, _, _, e => by cases e
  | _, .bool _ :: _, _, _, e => by cases e
  | _, .str _ :: _, _, _, e => by cases e
  | _, .list _ :: _, _, _, e => by cases e
  | _, .tuple _ :: _, _, _, e => by cases e
  | _, .dict _ :: _, _, _, e => by cases e
theorem nums_map (ns : List Int) : nums (ns.map PyData.int) = some ns := by
  induction ns with
  | nil => rfl
  | cons n r ih => simp [nums, ih]
theorem nums_eq : ∀ {ds : List PyData} {ns : List Int}, nums ds = some ns → ds = ns.map PyData.int
  | [], _, e => by cases e; rfl
  | .int i :: ds, ns, e => by
    unfold nums at e
    obtain ⟨ms, e1, e2⟩ := Option.map_eq_some_iff.mp e
    subst e2
    rw [nums_eq e1]
    rfl
  | .none :: _, _, e => by cases e
  | .bool _ :: _, _, e => by cases e
  | .str _ :: _, _, e => by cases e
  | .list _ :: _, _, e => by cases e
  | .tuple _ :: _, _, e => by cases e
  | .dict _ :: _, _, e => by cases e
def bools : List PyData → Option (List Bool)
  | [] => some []
  | .bool i :: r => (bools r).map (i :: ·)
  | _ => none
theorem RpA.bools : ∀ {vs : List V} {ds : List PyData} {ns : List Bool}, RpA K H vs ds → XL.bools ds = some ns → vs = ns.map V.bl
  | _, [], _, h, e => by cases h; cases e; rfl
  | _, .bool i :: ds, ns, h, e => by
    cases h with
    | cons h1 h2 =>
      cases h1
      unfold XL.bools at e
      obtain ⟨ms, e1, e2⟩ := Option.map_eq_some_iff.mp e
      subst e2
      rw [h2.bools e1]
      rfl
  | _, .none :: _, _, _, e => by cases e
  | _, .int _ :: _, _, _, e => by cases e
  | _, .str _ :: _, _, _, e => by cases e
  | _, .list _ :: _, _, _, e => by cases e
  | _, .tuple _ :: _, _, _, e => by cases e
  | _, .dict _ :: _, _, _, e => by cases e
@[simp] theorem bools_map (ns : List Bool) : bools (ns.map PyData.bool) = some ns := by
  induction ns with
  | nil => rfl
  | cons n r ih => simp [bools, ih]
theorem RpA.of_nums (ns : List Int) : RpA K H (ns.map V.int) (ns.map PyData.int) := by
  induction ns with
  | nil => exact .nil
  | cons n r ih => exact .cons (.int n) ih
end

/-! ### the state -/
structure Cn where
  H0 : Hp
  P : Addr → Prop
  M : Addr → Prop
  io : Nat → Option Addr
abbrev Own := Nat → Option Addr
def Hd (C : Cn) (own : Own) (a : Addr) : Prop := C.P a ∨ ∃ i, own i = some a
open Classical in
noncomputable def hdn (P : Addr → Prop) (H : Hp) : Hp := fun a => if P a then none else H a
theorem hdn_some {P : Addr → Prop} {H : Hp} {a : Addr} {o : HO} : hdn P H a = some o ↔ ¬ P a ∧ H a = some o := by
  unfold hdn
  by_cases h : P a
  · simp [h]
  · simp [h]
noncomputable abbrev hh (C : Cn) (own : Own) (H : Hp) : Hp := hdn (Hd C own) H
theorem hh_ext (C : Cn) (own : Own) (H : Hp) : Ext (hh C own H) H := fun _ _ h => (hdn_some.mp h).2
theorem hdn_le {P P' : Addr → Prop} {H : Hp} (h : ∀ a, P' a → P a) : Ext (hdn P H) (hdn P' H) := fun a o e => by
  obtain ⟨e1, e2⟩ := hdn_some.mp e
  exact hdn_some.mpr ⟨fun z => e1 (h a z), e2⟩

structure RE (K : PySem.W.Frag) (C : Cn) (own : Own) (σ : St) (H : Hp) (env : En) : Prop where
  len : σ.length = env.length
  inj : ∀ i j a, own i = some a → own j = some a → i = j
  va : ∀ (i : Nat) (d : PyData), env[i]? = some (.va d) → ∃ v, σ[i]? = some (some v) ∧ Rp K (hh C own H) v d
  ow : ∀ (i : Nat) (xs : List PyData), env[i]? = some (.ow xs) → ∃ a vs, own i = some a ∧ σ[i]? = some (some (.ref a)) ∧ H a = some (.lst vs) ∧ RpA K (hh C own H) vs xs ∧ ¬ C.P a ∧ (C.M a ∨ C.H0 a = none)
  io : ∀ (i : Nat) (xs : List PyData), env[i]? = some (.io xs) → ∃ a vs, own i = some a ∧ C.io i = some a ∧ σ[i]? = some (some (.ref a)) ∧ H a = some (.lst vs) ∧ RpA K (hh C own H) vs xs
  only : ∀ i a, own i = some a → (∃ xs, env[i]? = some (.ow xs)) ∨ (∃ xs, env[i]? = some (.io xs))
  ios : ∀ i a, C.io i = some a → ∃ xs, env[i]? = some (.io xs)
  iom : ∀ i a, C.io i = some a → C.M a
  pres : ∀ a o, C.H0 a = some o → ¬ C.M a → H a = some o
  mal : ∀ a, C.M a → ∃ o, H a = some o
  pal : ∀ a, C.P a → ∃ o, H a = some o

def Grow (C : Cn) (own : Own) (H : Hp) (own' : Own) (H' : Hp) : Prop := Ext (hh C own H) (hh C own' H')
theorem Grow.refl {C : Cn} {own : Own} {H : Hp} : Grow C own H own H := Ext.refl _
theorem Grow.trans {C : Cn} {o1 o2 o3 : Own} {H1 H2 H3 : Hp} (a : Grow C o1 H1 o2 H2) (b : Grow C o2 H2 o3 H3) : Grow C o1 H1 o3 H3 := Ext.trans a b

section
variable {K : PySem.W.Frag} {C : Cn} {own : Own} {σ : St} {H : Hp} {env : En}
theorem RE.own_some (R : RE K C own σ H env) {i : Nat} {a : Addr} (h : own i = some a) : ∃ vs, H a = some (.lst vs) := by
  rcases R.only i a h with ⟨xs, e⟩ | ⟨xs, e⟩
  · obtain ⟨b, vs, e1, _, e2, _⟩ := R.ow i xs e
    rw [h] at e1; cases e1; exact ⟨vs, e2⟩
  · obtain ⟨b, vs, e1, _, _, e2, _⟩ := R.io i xs e
    rw [h] at e1; cases e1; exact ⟨vs, e2⟩
theorem RE.hd_some (R : RE K C own σ H env) {a : Addr} (h : Hd C own a) : ∃ o, H a = some o := by
  rcases h with h | ⟨i, h⟩
  · exact R.pal a h
  · obtain ⟨vs, e⟩ := R.own_some h
    exact ⟨_, e⟩
theorem RE.fresh (R : RE K C own σ H env) {p : Addr} (h : H p = none) : ¬ Hd C own p := fun z => by
  obtain ⟨o, e⟩ := R.hd_some z
  rw [h] at e; cases e
theorem RE.h0 (R : RE K C own σ H env) {p : Addr} (h : H p = none) : C.H0 p = none := by
  cases e : C.H0 p with
  | none => rfl
  | some o =>
    by_cases z : C.M p
    · obtain ⟨u, q⟩ := R.mal p z
      rw [h] at q; cases q
    · have := R.pres p o e z
      rw [h] at this; cases this
/-- a heap that has grown -/
theorem RE.up (R : RE K C own σ H env) {H' : Hp} (e : Ext H H') : RE K C own σ H' env ∧ Grow C own H own H' := by
  have g : Grow C own H own H' := fun a o h => by
    obtain ⟨h1, h2⟩ := hdn_some.mp h
    exact hdn_some.mpr ⟨h1, e a o h2⟩
  refine ⟨⟨R.len, R.inj, fun i d h => ?_, fun i xs h => ?_, fun i xs h => ?_, R.only, R.ios, R.iom, fun a o h z => e _ _ (R.pres a o h z), fun a h => ?_, fun a h => ?_⟩, g⟩
  · obtain ⟨v, h1, h2⟩ := R.va i d h
    exact ⟨v, h1, h2.ext g⟩
  · obtain ⟨a, vs, h1, h2, h3, h4, h5⟩ := R.ow i xs h
    exact ⟨a, vs, h1, h2, e _ _ h3, h4.ext g, h5⟩
  · obtain ⟨a, vs, h1, h2, h3, h4, h5⟩ := R.io i xs h
    exact ⟨a, vs, h1, h2, h3, e _ _ h4, h5.ext g⟩
  · obtain ⟨o, q⟩ := R.mal a h
    exact ⟨o, e _ _ q⟩
  · obtain ⟨o, q⟩ := R.pal a h
    exact ⟨o, e _ _ q⟩
theorem ext_new {H : Hp} {p : Addr} {o : HO} (h : H p = none) : Ext H (upd H p o) := fun a u e => by
  rw [upd_ne (ne_of_none e h)]
  exact e
theorem RE.alloc (R : RE K C own σ H env) {p : Addr} {o : HO} (h : H p = none) : RE K C own σ (upd H p o) env ∧ Grow C own H own (upd H p o) ∧ hh C own (upd H p o) p = some o := by
  obtain ⟨r, g⟩ := R.up (ext_new (o := o) h)
  exact ⟨r, g, hdn_some.mpr ⟨R.fresh h, upd_same⟩⟩
end

/-! ### values in operand place -/
inductive RpW (K : PySem.W.Frag) (Hh H : Hp) : V → PyData → Prop
  | st {v : V} {d : PyData} : Rp K Hh v d → RpW K Hh H v d
  | ow {a : Addr} {vs : List V} {xs : List PyData} : H a = some (.lst vs) → RpA K Hh vs xs → RpW K Hh H (.ref a) (.list xs)
section
variable {K : PySem.W.Frag} {Hh H : Hp} {v : V} {d : PyData}
theorem RpW.lst {xs : List PyData} (e : Ext Hh H) (h : RpW K Hh H v (.list xs)) : ∃ a vs, v = .ref a ∧ H a = some (.lst vs) ∧ RpA K Hh vs xs := by
  cases h with
  | st h => cases h with | lst h1 h2 => exact ⟨_, _, rfl, e _ _ h1, h2⟩
  | ow h1 h2 => exact ⟨_, _, rfl, h1, h2⟩
theorem RpW.full (e : Ext Hh H) (h : RpW K Hh H v d) : Rp K H v d := by
  cases h with
  | st h => exact h.ext e
  | ow h1 h2 => exact .lst h1 (h2.ext e)
theorem RpW.tup {xs : List PyData} (e : Ext Hh H) (h : RpW K Hh H v (.tuple xs)) : ∃ a vs, v = .ref a ∧ SqT K H a vs ∧ RpA K Hh vs xs ∧ SqT K Hh a vs := by
  cases h with
  | st h => cases h with | tup h1 h2 => exact ⟨_, _, rfl, e.t h1, h2, h1⟩
theorem RpW.int {i : Int} (h : RpW K Hh H v (.int i)) : v = .int i := by
  cases h with
  | st h => cases h; rfl
theorem RpW.bl {i : Bool} (h : RpW K Hh H v (.bool i)) : v = .bl i := by
  cases h with
  | st h => cases h; rfl
theorem RpW.str {i : Str} (h : RpW K Hh H v (.str i)) : v = .str i := by
  cases h with
  | st h => cases h; rfl
theorem RpW.non (h : RpW K Hh H v .none) : v = .non := by
  cases h with
  | st h => cases h; rfl
end

/-! ### the judgements -/
def Wr (K : PySem.W.Frag) (C : Cn) (own : Own) (σ : St) (H : Hp) (v : V) : Wv → Prop
  | .d d => Rp K (hh C own H) v d
  | .s i => σ[i]? = some (some v)
def SE (K : PySem.W.Frag) (t : TE) (f : Ev) : Prop :=
  ∀ C own σ H env w env', RE K C own σ H env → f env = .ok (w, env') → ∀ Q : VK, (∀ own' v H', RE K C own' σ H' env' → Grow C own H own' H' → Wr K C own' σ H' v w → Q v H') → t σ H Q
/-- as a value that is kept -/
def SV (K : PySem.W.Frag) (t : TE) (f : EvS) : Prop :=
  ∀ C own σ H env d env', RE K C own σ H env → f env = .ok (d, env') → ∀ Q : VK, (∀ own' v H', RE K C own' σ H' env' → Grow C own H own' H' → Rp K (hh C own' H') v d → Q v H') → t σ H Q
def ST (K : PySem.W.Frag) (t : TT) (f : EvT) : Prop :=
  ∀ C own σ H env b env', RE K C own σ H env → f env = .ok (b, env') → ∀ Q : Bool → Hp → Prop, (∀ own' H', RE K C own' σ H' env' → Grow C own H own' H' → Q b H') → t σ H Q
structure XE (X : Cx) (e : Expr) (t : TE) (f : Ev) : Prop where
  pe : PE X e t
  se : SE X.K t f
structure XV (X : Cx) (e : Expr) (t : TE) (f : EvS) : Prop where
  pe : PE X e t
  se : SV X.K t f
structure XT (X : Cx) (e : Expr) (t : TT) (f : EvT) : Prop where
  pt : PT X e t
  se : ST X.K t f

section
variable {K : PySem.W.Frag} {C : Cn} {own : Own} {σ : St} {H : Hp} {env : En} {v : V} {w : Wv} {d : PyData}
theorem Wr.get (R : RE K C own σ H env) (h : Wr K C own σ H v w) (e : rd env w = .ok d) : RpW K (hh C own H) H v d := by
  cases w with
  | d x => cases e; exact .st h
  | s i =>
    unfold rd at e
    simp only at e
    have h : σ[i]? = some (some v) := h
    cases q : env[i]? with
    | none => rw [q] at e; cases e
    | some s =>
      rw [q] at e
      cases s with
      | em => cases e
      | va x =>
        cases e
        obtain ⟨u, h1, h2⟩ := R.va i _ q
        rw [h] at h1; cases h1; exact .st h2
      | ow xs =>
        cases e
        obtain ⟨a, vs, _, h1, h2, h3, _⟩ := R.ow i _ q
        rw [h] at h1; cases h1; exact .ow h2 h3
      | io xs =>
        cases e
        obtain ⟨a, vs, _, _, h1, h2, h3⟩ := R.io i _ q
        rw [h] at h1; cases h1; exact .ow h2 h3
theorem Wr.grow {own' : Own} {H' : Hp} (g : Grow C own H own' H') (h : Wr K C own σ H v w) : Wr K C own' σ H' v w := by
  cases w with
  | d x => exact Rp.ext g _ h
  | s i => exact h
/-- an owned list is given up -/
theorem RE.drop (R : RE K C own σ H env) {i : Nat} {xs : List PyData} (h : env[i]? = some (.ow xs)) :
    ∃ own', RE K C own' σ H (env.set i (.va (.list xs))) ∧ Grow C own H own' H ∧ ∃ a, own i = some a ∧ σ[i]? = some (some (.ref a)) ∧ Rp K (hh C own' H) (.ref a) (.list xs) := by
  obtain ⟨a, vs, h1, h2, h3, h4, h5, h6⟩ := R.ow i xs h
  have hi : i < env.length := (List.getElem?_eq_some_iff.mp h).1
  let own' : Own := fun j => if j = i then none else own j
  have le : ∀ b, Hd C own' b → Hd C own b := fun b z => by
    rcases z with z | ⟨j, z⟩
    · exact .inl z
    · by_cases hj : j = i
      · simp [own', hj] at z
      · exact .inr ⟨j, by simpa [own', hj] using z⟩
  have g : Grow C own H own' H := hdn_le le
  have na : ¬ Hd C own' a := fun z => by
    rcases z with z | ⟨j, z⟩
    · exact h5 z
    · by_cases hj : j = i
      · simp [own', hj] at z
      · exact hj (R.inj j i a (by simpa [own', hj] using z) h1)
  have ra : Rp K (hh C own' H) (.ref a) (.list xs) := .lst (hdn_some.mpr ⟨na, h3⟩) (h4.ext g)
  have other : ∀ {j : Nat} {s : Sl}, j ≠ i → (env.set i (.va (.list xs)))[j]? = some s → env[j]? = some s := fun {j s} hj e => by
    rwa [List.getElem?_set_ne (Ne.symm hj)] at e
  refine ⟨own', ⟨by simpa using R.len, fun j k b e1 e2 => ?_, fun j d e => ?_, fun j ys e => ?_, fun j ys e => ?_, fun j b e => ?_, fun j b e => ?_, R.iom, R.pres, R.mal, R.pal⟩, g, a, h1, h2, ra⟩
  · by_cases hj : j = i
    · simp [own', hj] at e1
    · by_cases hk : k = i
      · simp [own', hk] at e2
      · exact R.inj j k b (by simpa [own', hj] using e1) (by simpa [own', hk] using e2)
  · by_cases hj : j = i
    · subst hj
      rw [List.getElem?_set_self hi] at e
      cases e
      exact ⟨_, h2, ra⟩
    · obtain ⟨u, q1, q2⟩ := R.va j d (other hj e)
      exact ⟨u, q1, q2.ext g⟩
  · by_cases hj : j = i
    · subst hj
      rw [List.getElem?_set_self hi] at e
      cases e
    · obtain ⟨b, us, q1, q2, q3, q4, q5⟩ := R.ow j ys (other hj e)
      exact ⟨b, us, by simpa [own', hj] using q1, q2, q3, q4.ext g, q5⟩
  · by_cases hj : j = i
    · subst hj
      rw [List.getElem?_set_self hi] at e
      cases e
    · obtain ⟨b, us, q1, q2, q3, q4, q5⟩ := R.io j ys (other hj e)
      exact ⟨b, us, by simpa [own', hj] using q1, q2, q3, q4, q5.ext g⟩
  · by_cases hj : j = i
    · simp [own', hj] at e
    · rw [List.getElem?_set_ne (Ne.symm hj)]
      exact R.only j b (by simpa [own', hj] using e)
  · obtain ⟨ys, q⟩ := R.ios j b e
    by_cases hj : j = i
    · subst hj; rw [h] at q; cases q
    · exact ⟨ys, by rw [List.getElem?_set_ne (Ne.symm hj)]; exact q⟩
theorem strg_ok {env' : En} (R : RE K C own σ H env) (h : Wr K C own σ H v w) (e : strg (w, env) = .ok (d, env')) :
    ∃ own', RE K C own' σ H env' ∧ Grow C own H own' H ∧ Rp K (hh C own' H) v d := by
  cases w with
  | d x => cases e; exact ⟨own, R, .refl, h⟩
  | s i =>
    unfold strg at e
    simp only at e
    have h : σ[i]? = some (some v) := h
    cases q : env[i]? with
    | none => rw [q] at e; cases e
    | some s =>
      rw [q] at e
      cases s with
      | em => cases e
      | va x =>
        cases e
        obtain ⟨u, h1, h2⟩ := R.va i _ q
        rw [h] at h1; cases h1; exact ⟨own, R, .refl, h2⟩
      | ow xs =>
        cases e
        obtain ⟨own', r, g, a, _, h1, h2⟩ := R.drop q
        rw [h] at h1; cases h1; exact ⟨own', r, g, h2⟩
      | io xs => cases e
end
/-- from operand place to kept -/
def eV (f : Ev) : EvS := fun env => f env >>= strg
theorem XE.v {X : Cx} {e : Expr} {t : TE} {f : Ev} (h : XE X e t f) : XV X e t (eV f) := by
  refine ⟨h.pe, fun C own σ H env d env' R q Q k => ?_⟩
  obtain ⟨⟨w, e1⟩, q1, q2⟩ := bind_eq q
  refine h.se C own σ H env w e1 R q1 Q fun own1 v H1 R1 g1 w1 => ?_
  obtain ⟨own2, R2, g2, r2⟩ := strg_ok R1 w1 q2
  exact k own2 v H1 R2 (g1.trans g2) r2
end XL

namespace XL
open PySem PySem.Spec L2

/-! ### evaluators of expressions -/
def eVar (i : Nat) : Ev := fun env => match env[i]? with
  | some .em => .bad
  | some _ => .ok (.s i, env)
  | none => .bad
def eC (d : PyData) : Ev := fun env => .ok (.d d, env)
def eBin (op : PyData → PyData → Res PyData) (f g : Ev) : Ev := fun env =>
  f env >>= fun p => g p.2 >>= fun q => rd q.2 p.1 >>= fun x => rd q.2 q.1 >>= fun y => op x y >>= fun z => .ok (.d z, q.2)
def eUn (op : PyData → Res PyData) (f : Ev) : Ev := fun env => f env >>= fun p => rd p.2 p.1 >>= fun x => op x >>= fun z => .ok (.d z, p.2)
/-- an expression that gives a bool, as a test -/
def asB : PyData → Res Bool
  | .bool b => .ok b
  | _ => .bad
def truD : PyData → Res Bool
  | .bool b => .ok b
  | .none => .ok false
  | .int i => .ok (i != 0)
  | .list xs => .ok (!xs.isEmpty)
  | .tuple xs => .ok (!xs.isEmpty)
  | _ => .bad
def eT (f : Ev) : EvT := fun env => f env >>= fun p => rd p.2 p.1 >>= fun x => asB x >>= fun b => .ok (b, p.2)
def eTru (f : Ev) : EvT := fun env => f env >>= fun p => rd p.2 p.1 >>= fun x => truD x >>= fun b => .ok (b, p.2)
def eAndT (f g : EvT) : EvT := fun env => f env >>= fun p => if p.1 = true then g p.2 else .ok (false, p.2)
def eOrT (f g : EvT) : EvT := fun env => f env >>= fun p => if p.1 = true then .ok (true, p.2) else g p.2
def eNotT (f : EvT) : EvT := fun env => f env >>= fun p => .ok (!p.1, p.2)
/-- and, or of bools as values; the last may be anything -/
def eAnd (f g : Ev) : Ev := fun env => f env >>= fun p => rd p.2 p.1 >>= fun x => asB x >>= fun b => if b = true then g p.2 else .ok (.d (.bool false), p.2)
def eOr (f g : Ev) : Ev := fun env => f env >>= fun p => rd p.2 p.1 >>= fun x => asB x >>= fun b => if b = true then .ok (.d (.bool true), p.2) else g p.2
def eNot (f : Ev) : Ev := fun env => f env >>= fun p => rd p.2 p.1 >>= fun x => asB x >>= fun b => .ok (.d (.bool (!b)), p.2)
def eIf (c : EvT) (f g : Ev) : Ev := fun env => c env >>= fun p => if p.1 = true then f p.2 else g p.2
/-- arguments in operand place -/
abbrev EvA := En → Res (List Wv × En)
def eNil : EvA := fun env => .ok ([], env)
def eCons (f : Ev) (g : EvA) : EvA := fun env => f env >>= fun p => g p.2 >>= fun q => .ok (p.1 :: q.1, q.2)
def rdA (env : En) : List Wv → Res (List PyData)
  | [] => .ok []
  | w :: ws => rd env w >>= fun d => rdA env ws >>= fun ds => .ok (d :: ds)
def eCB (op : List PyData → Res PyData) (f : EvA) : Ev := fun env => f env >>= fun p => rdA p.2 p.1 >>= fun ds => op ds >>= fun z => .ok (.d z, p.2)
/-- arguments that are kept -/
abbrev EvL := En → Res (List PyData × En)
def eNilV : EvL := fun env => .ok ([], env)
def eConsV (f : EvS) (g : EvL) : EvL := fun env => f env >>= fun p => g p.2 >>= fun q => .ok (p.1 :: q.1, q.2)
def eTup (f : EvL) : Ev := fun env => f env >>= fun p => if p.1.length ≤ 1000000 then .ok (.d (.tuple p.1), p.2) else .bad
def eLst (f : EvL) : Ev := fun env => f env >>= fun p => if p.1.length ≤ 1000000 then .ok (.d (.list p.1), p.2) else .bad

/-! ### operations on data -/
def BIG : Int := 2 ^ 4000
theorem BIG_ge : 10 ^ 70 ≤ BIG := by unfold BIG; decide +kernel
theorem BIG_nat : BIG = ((2 ^ 4000 : Nat) : Int) := by unfold BIG; rw [Int.natCast_pow]; rfl
theorem big_log {i : Int} (h : -BIG < i ∧ i < BIG) : i.natAbs.log2 < 4000 := by
  rw [BIG_nat] at h
  have h2 : i.natAbs < 2 ^ 4000 := by omega
  by_cases z : i.natAbs = 0
  · rw [z]; decide
  · exact (Nat.log2_lt z).mpr h2
def oAdd : PyData → PyData → Res PyData
  | .int i, .int j => .ok (.int (i + j))
  | .list xs, .list ys => if xs.length + ys.length ≤ 1000000 then .ok (.list (xs ++ ys)) else .bad
  | .tuple xs, .tuple ys => if xs.length + ys.length ≤ 1000000 then .ok (.tuple (xs ++ ys)) else .bad
  | _, _ => .bad
def oSub : PyData → PyData → Res PyData
  | .int i, .int j => .ok (.int (i - j))
  | _, _ => .bad
def rep (k : Int) (xs : List PyData) : List PyData := (List.replicate k.toNat xs).flatten
def oMul : PyData → PyData → Res PyData
  | .int i, .int j => if (-BIG < i ∧ i < BIG) ∧ (-BIG < j ∧ j < BIG) then .ok (.int (i * j)) else .bad
  | .list xs, .int k => if (-1000000 < k ∧ k < 1000000) ∧ xs.length * k.toNat ≤ 1000000 then .ok (.list (rep k xs)) else .bad
  | _, _ => .bad
def oMod : PyData → PyData → Res PyData
  | .int i, .int j => if 0 < j then .ok (.int (i % j)) else .bad
  | _, _ => .bad
def oDiv : PyData → PyData → Res PyData
  | .int i, .int j => if 0 < j ∧ j < BIG then .ok (.int (i / j)) else .bad
  | _, _ => .bad
def oPow : PyData → PyData → Res PyData
  | .int i, .int j => if (0 ≤ j ∧ j ≤ 1000) ∧ (-1000000 < i ∧ i < 1000000) then .ok (.int (i ^ j.toNat)) else .bad
  | _, _ => .bad
def oLt : PyData → PyData → Res PyData
  | .int i, .int j => .ok (.bool (decide (i < j)))
  | _, _ => .bad
def oLe : PyData → PyData → Res PyData
  | .int i, .int j => .ok (.bool (decide (i ≤ j)))
  | _, _ => .bad
def oGt : PyData → PyData → Res PyData
  | .int i, .int j => .ok (.bool (decide (j < i)))
  | _, _ => .bad
def oGe : PyData → PyData → Res PyData
  | .int i, .int j => .ok (.bool (decide (j ≤ i)))
  | _, _ => .bad
def oEq (d e : PyData) : Res PyData := if SeqAt.shaped d = true ∧ SeqAt.shaped e = true then .ok (.bool (PyData.eqv d e)) else .bad
def oNe (d e : PyData) : Res PyData := if SeqAt.shaped d = true ∧ SeqAt.shaped e = true then .ok (.bool (!PyData.eqv d e)) else .bad
def isNoneD : PyData → Bool
  | .none => true
  | _ => false
def oIs : PyData → PyData → Res PyData
  | d, .none => .ok (.bool (isNoneD d))
  | .bool a, .bool b => .ok (.bool (a == b))
  | _, _ => .bad
def oIsNot : PyData → PyData → Res PyData
  | d, .none => .ok (.bool (!isNoneD d))
  | .bool a, .bool b => .ok (.bool (a != b))
  | _, _ => .bad
def oIn : PyData → PyData → Res PyData
  | d, .list xs => if SeqAt.shaped d = true ∧ SeqAt.shaped (.list xs) = true then .ok (.bool (xs.any fun z => PyData.eqv z d)) else .bad
  | _, _ => .bad
def oNotIn : PyData → PyData → Res PyData
  | d, .list xs => if SeqAt.shaped d = true ∧ SeqAt.shaped (.list xs) = true then .ok (.bool (!(xs.any fun z => PyData.eqv z d))) else .bad
  | _, _ => .bad
def oNeg : PyData → Res PyData
  | .int i => .ok (.int (-i))
  | _ => .bad
def oIx : PyData → PyData → Res PyData
  | .list xs, .int i => match atI xs i with | some d => .ok d | none => .bad
  | .tuple xs, .int i => match atI xs i with | some d => .ok d | none => .bad
  | _, _ => .bad

/-! ### soundness -/
/-- a two-place operation on values -/
def O2 (K : PySem.W.Frag) (r : R2) (op : PyData → PyData → Res PyData) : Prop :=
  ∀ C own σ env H x y d e z, RE K C own σ H env → RpW K (hh C own H) H x d → RpW K (hh C own H) H y e → op d e = .ok z →
    ∀ Q : VK, (∀ v H', Ext H H' → Rp K (hh C own H') v z → Q v H') → r x y H Q
def O1 (K : PySem.W.Frag) (r : V → Hp → VK → Prop) (op : PyData → Res PyData) : Prop :=
  ∀ C own σ env H x d z, RE K C own σ H env → RpW K (hh C own H) H x d → op d = .ok z →
    ∀ Q : VK, (∀ v H', Ext H H' → Rp K (hh C own H') v z → Q v H') → r x H Q
inductive RpWA (K : PySem.W.Frag) (Hh H : Hp) : List V → List PyData → Prop
  | nil : RpWA K Hh H [] []
  | cons {v : V} {vs : List V} {d : PyData} {ds : List PyData} : RpW K Hh H v d → RpWA K Hh H vs ds → RpWA K Hh H (v :: vs) (d :: ds)
def OC (K : PySem.W.Frag) (r : List V → Hp → VK → Prop) (op : List PyData → Res PyData) : Prop :=
  ∀ C own σ env H xs ds z, RE K C own σ H env → RpWA K (hh C own H) H xs ds → op ds = .ok z →
    ∀ Q : VK, (∀ v H', Ext H H' → Rp K (hh C own H') v z → Q v H') → r xs H Q

def WrA (K : PySem.W.Frag) (C : Cn) (own : Own) (σ : L2.St) (H : Hp) : List V → List Wv → Prop := Paired (Wr K C own σ H)
def SA (K : PySem.W.Frag) (t : TA) (f : EvA) : Prop :=
  ∀ C own σ H env ws env', RE K C own σ H env → f env = .ok (ws, env') → ∀ Q : List V → Hp → Prop, (∀ own' vs H', RE K C own' σ H' env' → Grow C own H own' H' → WrA K C own' σ H' vs ws → Q vs H') → t σ H Q
def SL (K : PySem.W.Frag) (t : TA) (f : EvL) : Prop :=
  ∀ C own σ H env ds env', RE K C own σ H env → f env = .ok (ds, env') → ∀ Q : List V → Hp → Prop, (∀ own' vs H', RE K C own' σ H' env' → Grow C own H own' H' → RpA K (hh C own' H') vs ds → Q vs H') → t σ H Q
structure XA (X : Cx) (es : List Expr) (t : TA) (f : EvA) : Prop where
  pa : PA X es t
  sa : SA X.K t f
structure XL' (X : Cx) (es : List Expr) (t : TA) (f : EvL) : Prop where
  pa : PA X es t
  sa : SL X.K t f

section
variable {K : PySem.W.Frag} {ta tb te : TE} {f g : Ev}
theorem se_var (i : Nat) : SE K (tVar i) (eVar i) := fun C own σ H env w env' R q Q k => by
  unfold eVar at q
  cases e : env[i]? with
  | none => rw [e] at q; cases q
  | some s =>
    rw [e] at q
    cases s with
    | em => cases q
    | va d =>
      cases q
      obtain ⟨v, h1, h2⟩ := R.va i d e
      exact ⟨v, h1, k own v H R .refl h1⟩
    | ow xs =>
      cases q
      obtain ⟨a, vs, _, h1, _⟩ := R.ow i xs e
      exact ⟨_, h1, k own _ H R .refl h1⟩
    | io xs =>
      cases q
      obtain ⟨a, vs, _, _, h1, _⟩ := R.io i xs e
      exact ⟨_, h1, k own _ H R .refl h1⟩
theorem se_c {v : V} {d : PyData} (h : ∀ H, Rp K H v d) : SE K (tC v) (eC d) := fun C own σ H env w env' R q Q k => by
  cases q
  exact k own v H R .refl (h _)
theorem se_bin {r : R2} {op : PyData → PyData → Res PyData} (ha : SE K ta f) (hb : SE K tb g) (ho : O2 K r op) : SE K (tOp r ta tb) (eBin op f g) := fun C own σ H env w env' R q Q k => by
  obtain ⟨⟨w1, e1⟩, q1, q⟩ := bind_eq q
  obtain ⟨⟨w2, e2⟩, q2, q⟩ := bind_eq q
  obtain ⟨x, q3, q⟩ := bind_eq q
  obtain ⟨y, q4, q⟩ := bind_eq q
  obtain ⟨z, q5, q⟩ := bind_eq q
  cases q
  refine ha C own σ H env w1 e1 R q1 _ fun o1 u H1 R1 g1 r1 => ?_
  refine hb C o1 σ H1 e1 w2 e2 R1 q2 _ fun o2 v H2 R2 g2 r2 => ?_
  refine ho C o2 σ e2 H2 u v x y z R2 ((r1.grow g2).get R2 q3) (r2.get R2 q4) q5 Q fun a H3 e3 r3 => ?_
  obtain ⟨R3, g3⟩ := R2.up e3
  exact k o2 a H3 R3 ((g1.trans g2).trans g3) r3
theorem se_un {r : V → Hp → VK → Prop} {op : PyData → Res PyData} (ha : SE K ta f) (ho : O1 K r op) : SE K (tUn r ta) (eUn op f) := fun C own σ H env w env' R q Q k => by
  obtain ⟨⟨w1, e1⟩, q1, q⟩ := bind_eq q
  obtain ⟨x, q3, q⟩ := bind_eq q
  obtain ⟨z, q5, q⟩ := bind_eq q
  cases q
  refine ha C own σ H env w1 e1 R q1 _ fun o1 u H1 R1 g1 r1 => ?_
  refine ho C o1 σ e1 H1 u x z R1 (r1.get R1 q3) q5 Q fun a H3 e3 r3 => ?_
  obtain ⟨R3, g3⟩ := R1.up e3
  exact k o1 a H3 R3 (g1.trans g3) r3
theorem asB_eq {x : PyData} {b : Bool} (h : asB x = .ok b) : x = .bool b := by
  cases x <;> first | (cases h; rfl) | cases h
theorem st_val (ha : SE K ta f) : ST K (tB ta) (eT f) := fun C own σ H env b env' R q Q k => by
  obtain ⟨⟨w1, e1⟩, q1, q⟩ := bind_eq q
  obtain ⟨x, q3, q⟩ := bind_eq q
  obtain ⟨z, q5, q⟩ := bind_eq q
  cases q
  refine ha C own σ H env w1 e1 R q1 _ fun o1 u H1 R1 g1 r1 => ?_
  have h := r1.get R1 q3
  rw [asB_eq q5] at h
  exact ⟨b, h.bl, k o1 H1 R1 g1⟩
theorem st_cmp (ha : SE K ta f) : ST K (tTest ta) (eT f) := st_val ha
theorem st_and {t u : TT} {f g : EvT} (ha : ST K t f) (hb : ST K u g) : ST K (tAnd t u) (eAndT f g) := fun C own σ H env b env' R q Q k => by
  obtain ⟨⟨b1, e1⟩, q1, q⟩ := bind_eq q
  refine ha C own σ H env b1 e1 R q1 _ fun o1 H1 R1 g1 => ?_
  cases b1 with
  | true => exact iteT (hb C o1 σ H1 e1 b env' R1 q Q fun o2 H2 R2 g2 => k o2 H2 R2 (g1.trans g2))
  | false => cases q; exact iteF (k o1 H1 R1 g1)
theorem st_or {t u : TT} {f g : EvT} (ha : ST K t f) (hb : ST K u g) : ST K (tOr t u) (eOrT f g) := fun C own σ H env b env' R q Q k => by
  obtain ⟨⟨b1, e1⟩, q1, q⟩ := bind_eq q
  refine ha C own σ H env b1 e1 R q1 _ fun o1 H1 R1 g1 => ?_
  cases b1 with
  | false => exact iteF (hb C o1 σ H1 e1 b env' R1 q Q fun o2 H2 R2 g2 => k o2 H2 R2 (g1.trans g2))
  | true => cases q; exact iteT (k o1 H1 R1 g1)
theorem st_not {t : TT} {f : EvT} (ha : ST K t f) : ST K (tNot t) (eNotT f) := fun C own σ H env b env' R q Q k => by
  obtain ⟨⟨b1, e1⟩, q1, q⟩ := bind_eq q
  cases q
  exact ha C own σ H env b1 e1 R q1 _ fun o1 H1 R1 g1 => k o1 H1 R1 g1
theorem se_and (ha : SE K ta f) (hb : SE K tb g) : SE K (tAndV ta tb) (eAnd f g) := fun C own σ H env w env' R q Q k => by
  obtain ⟨⟨w1, e1⟩, q1, q⟩ := bind_eq q
  obtain ⟨x, q3, q⟩ := bind_eq q
  obtain ⟨b, q5, q⟩ := bind_eq q
  refine ha C own σ H env w1 e1 R q1 _ fun o1 u H1 R1 g1 r1 => ?_
  have h := r1.get R1 q3
  rw [asB_eq q5] at h
  refine ⟨b, h.bl, ?_⟩
  cases b with
  | true => exact iteT (hb C o1 σ H1 e1 w env' R1 q Q fun o2 v H2 R2 g2 r2 => k o2 v H2 R2 (g1.trans g2) r2)
  | false => cases q; exact iteF (k o1 _ H1 R1 g1 (Rp.bl false))
theorem se_or (ha : SE K ta f) (hb : SE K tb g) : SE K (tOrV ta tb) (eOr f g) := fun C own σ H env w env' R q Q k => by
  obtain ⟨⟨w1, e1⟩, q1, q⟩ := bind_eq q
  obtain ⟨x, q3, q⟩ := bind_eq q
  obtain ⟨b, q5, q⟩ := bind_eq q
  refine ha C own σ H env w1 e1 R q1 _ fun o1 u H1 R1 g1 r1 => ?_
  have h := r1.get R1 q3
  rw [asB_eq q5] at h
  refine ⟨b, h.bl, ?_⟩
  cases b with
  | false => exact iteF (hb C o1 σ H1 e1 w env' R1 q Q fun o2 v H2 R2 g2 r2 => k o2 v H2 R2 (g1.trans g2) r2)
  | true => cases q; exact iteT (k o1 _ H1 R1 g1 (Rp.bl true))
theorem se_not (ha : SE K ta f) : SE K (tNotV ta) (eNot f) := fun C own σ H env w env' R q Q k => by
  obtain ⟨⟨w1, e1⟩, q1, q⟩ := bind_eq q
  obtain ⟨x, q3, q⟩ := bind_eq q
  obtain ⟨b, q5, q⟩ := bind_eq q
  cases q
  refine ha C own σ H env w1 e1 R q1 _ fun o1 u H1 R1 g1 r1 => ?_
  have h := r1.get R1 q3
  rw [asB_eq q5] at h
  exact ⟨b, h.bl, k o1 _ H1 R1 g1 (Rp.bl _)⟩
theorem se_if {t : TT} {c : EvT} (hc : ST K t c) (ha : SE K ta f) (hb : SE K tb g) : SE K (tIf t ta tb) (eIf c f g) := fun C own σ H env w env' R q Q k => by
  obtain ⟨⟨b1, e1⟩, q1, q⟩ := bind_eq q
  refine hc C own σ H env b1 e1 R q1 _ fun o1 H1 R1 g1 => ?_
  cases b1 with
  | true => exact iteT (ha C o1 σ H1 e1 w env' R1 q Q fun o2 v H2 R2 g2 r2 => k o2 v H2 R2 (g1.trans g2) r2)
  | false => exact iteF (hb C o1 σ H1 e1 w env' R1 q Q fun o2 v H2 R2 g2 r2 => k o2 v H2 R2 (g1.trans g2) r2)
theorem WrA.grow {C : Cn} {own own' : Own} {σ : L2.St} {H H' : Hp} (g : Grow C own H own' H') : ∀ {vs : List V} {ws : List Wv}, WrA K C own σ H vs ws → WrA K C own' σ H' vs ws
  | _, _, .nil => .nil
  | _, _, .cons r t => .cons (r.grow g) (WrA.grow g t)
theorem WrA.get {C : Cn} {own : Own} {σ : L2.St} {H : Hp} {env : En} (R : RE K C own σ H env) : ∀ {vs : List V} {ws : List Wv} {ds : List PyData}, WrA K C own σ H vs ws → rdA env ws = .ok ds → RpWA K (hh C own H) H vs ds
  | _, _, _, .nil, e => by cases e; exact .nil
  | _, _, _, .cons r t, e => by
    obtain ⟨d, q1, e⟩ := bind_eq e
    obtain ⟨ds, q2, e⟩ := bind_eq e
    cases e
    exact .cons (r.get R q1) (WrA.get R t q2)
theorem sa_nil : SA K tNil eNil := fun C own σ H env ws env' R q Q k => by cases q; exact k own [] H R .refl .nil
theorem sa_cons {t : TA} {h : EvA} (ha : SE K ta f) (hr : SA K t h) : SA K (tCons ta t) (eCons f h) := fun C own σ H env ws env' R q Q k => by
  obtain ⟨⟨w1, e1⟩, q1, q⟩ := bind_eq q
  obtain ⟨⟨w2, e2⟩, q2, q⟩ := bind_eq q
  cases q
  refine ha C own σ H env w1 e1 R q1 _ fun o1 u H1 R1 g1 r1 => ?_
  exact hr C o1 σ H1 e1 w2 e2 R1 q2 _ fun o2 vs H2 R2 g2 r2 => k o2 (u :: vs) H2 R2 (g1.trans g2) (.cons (r1.grow g2) r2)
theorem se_cb {r : List V → Hp → VK → Prop} {op : List PyData → Res PyData} {t : TA} {h : EvA} (ha : SA K t h) (ho : OC K r op) : SE K (tCB r t) (eCB op h) := fun C own σ H env w env' R q Q k => by
  obtain ⟨⟨w1, e1⟩, q1, q⟩ := bind_eq q
  obtain ⟨x, q3, q⟩ := bind_eq q
  obtain ⟨z, q5, q⟩ := bind_eq q
  cases q
  refine ha C own σ H env w1 e1 R q1 _ fun o1 u H1 R1 g1 r1 => ?_
  refine ho C o1 σ e1 H1 u x z R1 (r1.get R1 q3) q5 Q fun a H3 e3 r3 => ?_
  obtain ⟨R3, g3⟩ := R1.up e3
  exact k o1 a H3 R3 (g1.trans g3) r3
theorem sl_nil : SL K tNil eNilV := fun C own σ H env ws env' R q Q k => by cases q; exact k own [] H R .refl .nil
theorem sl_cons {t : TA} {h : EvL} {fv : EvS} (ha : SV K ta fv) (hr : SL K t h) : SL K (tCons ta t) (eConsV fv h) := fun C own σ H env ws env' R q Q k => by
  obtain ⟨⟨d1, e1⟩, q1, q⟩ := bind_eq q
  obtain ⟨⟨w2, e2⟩, q2, q⟩ := bind_eq q
  cases q
  refine ha C own σ H env d1 e1 R q1 _ fun o1 u H1 R1 g1 r1 => ?_
  exact hr C o1 σ H1 e1 w2 e2 R1 q2 _ fun o2 vs H2 R2 g2 r2 => k o2 (u :: vs) H2 R2 (g1.trans g2) (.cons (r1.ext g2) r2)
theorem sz {n : Nat} (h : n ≤ 1000000) : n ≤ sizeLine := Nat.le_trans h (by decide)
theorem se_tup {t : TA} {h : EvL} (ha : SL K t h) : SE K (tTup t) (eTup h) := fun C own σ H env w env' R q Q k => by
  obtain ⟨⟨ds, e1⟩, q1, q⟩ := bind_eq q
  split at q
  · rename_i hl
    cases q
    refine ha C own σ H env ds e1 R q1 _ fun o1 vs H1 R1 g1 r1 => ⟨by rw [r1.len]; exact sz hl, fun p hp => ?_⟩
    obtain ⟨R2, g2, h2⟩ := R1.alloc (o := .tup vs) hp
    exact k o1 _ _ R2 (g1.trans g2) (Rp.tup (SqT.of h2) (r1.ext g2))
  · cases q
theorem se_lst {t : TA} {h : EvL} (ha : SL K t h) : SE K (tLst t) (eLst h) := fun C own σ H env w env' R q Q k => by
  obtain ⟨⟨ds, e1⟩, q1, q⟩ := bind_eq q
  split at q
  · rename_i hl
    cases q
    refine ha C own σ H env ds e1 R q1 _ fun o1 vs H1 R1 g1 r1 => ⟨by rw [r1.len]; exact sz hl, fun p hp => ?_⟩
    obtain ⟨R2, g2, h2⟩ := R1.alloc (o := .lst vs) hp
    exact k o1 _ _ R2 (g1.trans g2) (Rp.lst h2 (r1.ext g2))
  · cases q
end

/-! ### the operations, sound -/
section
variable {K : PySem.W.Frag}
theorem O2.or1 {r r' : R2} {op : PyData → PyData → Res PyData} (h : O2 K r op) : O2 K (fun x y H Q => r x y H Q ∨ r' x y H Q) op :=
  fun C own σ env H x y d e z R h1 h2 q Q k => .inl (h C own σ env H x y d e z R h1 h2 q Q k)
theorem fresh_rp {C : Cn} {own : Own} {σ : L2.St} {env : En} {H : Hp} {p : Addr} {vs : List V} {ds : List PyData} (R : RE K C own σ H env) (hp : H p = none) (r : RpA K (hh C own H) vs ds) :
    Ext H (upd H p (.lst vs)) ∧ Rp K (hh C own (upd H p (.lst vs))) (.ref p) (.list ds) := by
  obtain ⟨R2, g2, h2⟩ := R.alloc (o := .lst vs) hp
  exact ⟨ext_new hp, Rp.lst h2 (r.ext g2)⟩
theorem fresh_tp {C : Cn} {own : Own} {σ : L2.St} {env : En} {H : Hp} {p : Addr} {vs : List V} {ds : List PyData} (R : RE K C own σ H env) (hp : H p = none) (r : RpA K (hh C own H) vs ds) :
    Ext H (upd H p (.tup vs)) ∧ Rp K (hh C own (upd H p (.tup vs))) (.ref p) (.tuple ds) := by
  obtain ⟨R2, g2, h2⟩ := R.alloc (o := .tup vs) hp
  exact ⟨ext_new hp, Rp.tup (SqT.of h2) (r.ext g2)⟩
/-- + -/
def rAdd (K : PySem.W.Frag) : R2 := fun x y H Q => (rI0 fun i j => .int (i + j)) x y H Q ∨ (rCat x y H Q ∨ rCatA K x y H Q)
theorem op_addU {X : Cx} : OpR X (binaryOp .Add) (rAdd X.K) := op_add.or (op_cat.or op_catA)
theorem o_add : O2 K (rAdd K) oAdd := fun C own σ env H x y d e z R h1 h2 q Q k => by
  unfold oAdd at q
  split at q
  · cases q
    exact .inl ⟨_, _, h1.int, h2.int, k _ H (.refl H) (.int _)⟩
  · split at q
    · rename_i hl
      cases q
      obtain ⟨a, vs, rfl, ha, ra⟩ := h1.lst (hh_ext C own H)
      obtain ⟨b, ws, rfl, hb, rb⟩ := h2.lst (hh_ext C own H)
      refine .inr (.inl ⟨a, b, vs, ws, rfl, rfl, ha, hb, by rw [ra.len, rb.len]; exact sz hl, fun p hp => ?_⟩)
      obtain ⟨e1, e2⟩ := fresh_rp R hp (ra.app rb)
      exact k _ _ e1 e2
    · cases q
  · split at q
    · rename_i hl
      cases q
      obtain ⟨a, vs, rfl, ha, ra, ha'⟩ := h1.tup (hh_ext C own H)
      obtain ⟨b, ws, rfl, hb, rb, hb'⟩ := h2.tup (hh_ext C own H)
      refine .inr (.inr ⟨a, b, vs, ws, rfl, rfl, ha, hb, by rw [ra.len, rb.len]; exact sz hl, ?_⟩)
      refine ⟨fun e => ?_, fun _ e => ?_, fun e1 e2 p hp => ?_⟩
      · subst e
        cases ra
        exact k _ H (.refl H) (Rp.tup hb' rb)
      · subst e
        cases rb
        rw [List.append_nil] at k
        exact k _ H (.refl H) (Rp.tup ha' ra)
      · obtain ⟨e1, e2⟩ := fresh_tp R hp (ra.app rb)
        exact k _ _ e1 e2
    · cases q
  · cases q
theorem o_sub : O2 K (rI0 fun i j => .int (i - j)) oSub := fun C own σ env H x y d e z R h1 h2 q Q k => by
  unfold oSub at q
  split at q
  · cases q
    exact ⟨_, _, h1.int, h2.int, k _ H (.refl H) (.int _)⟩
  · cases q
def rMul : R2 := fun x y H Q => (rI CMulW fun i j => .int (i * j)) x y H Q ∨ rRep x y H Q
theorem op_mulU {X : Cx} : OpR X (binaryOp .Mult) rMul := op_mulW.or op_rep
theorem RpA.rep {H : Hp} {vs : List V} {ds : List PyData} (r : RpA K H vs ds) : ∀ n : Nat, RpA K H (List.replicate n vs).flatten (List.replicate n ds).flatten
  | 0 => by simpa using RpA.nil
  | n + 1 => by
    rw [List.replicate_succ, List.replicate_succ, List.flatten_cons, List.flatten_cons]
    exact r.app (RpA.rep r n)
theorem o_mul : O2 K rMul oMul := fun C own σ env H x y d e z R h1 h2 q Q k => by
  unfold oMul at q
  split at q
  · split at q
    · rename_i i j hc
      cases q
      refine .inl ⟨_, _, h1.int, h2.int, ?_, k _ H (.refl H) (.int _)⟩
      have a := big_log hc.1
      have b := big_log hc.2
      show i.natAbs.log2 + j.natAbs.log2 < 1000000
      omega
    · cases q
  · split at q
    · rename_i xs j hc
      cases q
      obtain ⟨a, vs, rfl, ha, ra⟩ := h1.lst (hh_ext C own H)
      refine .inr ⟨a, j, vs, rfl, h2.int, ha, by omega, by omega, by rw [ra.len]; exact sz hc.2, fun p hp => ?_⟩
      obtain ⟨e1, e2⟩ := fresh_rp R hp (ra.rep j.toNat)
      exact k _ _ e1 e2
    · cases q
  · cases q
theorem o_mod : O2 K (rI (fun _ j => 0 < j) fun i j => .int (i % j)) oMod := fun C own σ env H x y d e z R h1 h2 q Q k => by
  unfold oMod at q
  split at q
  · split at q
    · rename_i i j hc
      cases q
      exact ⟨_, _, h1.int, h2.int, hc, k _ H (.refl H) (.int _)⟩
    · cases q
  · cases q
theorem o_div : O2 K (rI CDivW fun i j => .int (i / j)) oDiv := fun C own σ env H x y d e z R h1 h2 q Q k => by
  unfold oDiv at q
  split at q
  · split at q
    · rename_i i j hc
      cases q
      refine ⟨_, _, h1.int, h2.int, ⟨hc.1, ?_⟩, k _ H (.refl H) (.int _)⟩
      have := big_log (i := j) ⟨by have := hc.1; have := BIG_ge; omega, hc.2⟩
      omega
    · cases q
  · cases q
theorem o_pow : O2 K (rI CPow fun i j => .int (i ^ j.toNat)) oPow := fun C own σ env H x y d e z R h1 h2 q Q k => by
  unfold oPow at q
  split at q
  · split at q
    · rename_i i j hc
      cases q
      exact ⟨_, _, h1.int, h2.int, ⟨hc.1.1, by omega, by omega⟩, k _ H (.refl H) (.int _)⟩
    · cases q
  · cases q
theorem o_lt : O2 K (rI0 fun i j => .bl (decide (i < j))) oLt := fun C own σ env H x y d e z R h1 h2 q Q k => by
  unfold oLt at q
  split at q
  · cases q
    exact ⟨_, _, h1.int, h2.int, k _ H (.refl H) (.bl _)⟩
  · cases q
theorem o_le : O2 K (rI0 fun i j => .bl (decide (i ≤ j))) oLe := fun C own σ env H x y d e z R h1 h2 q Q k => by
  unfold oLe at q
  split at q
  · cases q
    exact ⟨_, _, h1.int, h2.int, k _ H (.refl H) (.bl _)⟩
  · cases q
theorem o_gt : O2 K (rI0 fun i j => .bl (decide (j < i))) oGt := fun C own σ env H x y d e z R h1 h2 q Q k => by
  unfold oGt at q
  split at q
  · cases q
    exact ⟨_, _, h1.int, h2.int, k _ H (.refl H) (.bl _)⟩
  · cases q
theorem o_ge : O2 K (rI0 fun i j => .bl (decide (j ≤ i))) oGe := fun C own σ env H x y d e z R h1 h2 q Q k => by
  unfold oGe at q
  split at q
  · cases q
    exact ⟨_, _, h1.int, h2.int, k _ H (.refl H) (.bl _)⟩
  · cases q
theorem o_eq : O2 K (rEqD K) oEq := fun C own σ env H x y d e z R h1 h2 q Q k => by
  unfold oEq at q
  split at q
  · rename_i hc
    cases q
    exact ⟨d, e, (h1.full (hh_ext C own H)).dp, (h2.full (hh_ext C own H)).dp, hc.1, hc.2, k _ H (.refl H) (.bl _)⟩
  · cases q
theorem o_ne : O2 K (rNeD K) oNe := fun C own σ env H x y d e z R h1 h2 q Q k => by
  unfold oNe at q
  split at q
  · rename_i hc
    cases q
    exact ⟨d, e, (h1.full (hh_ext C own H)).dp, (h2.full (hh_ext C own H)).dp, hc.1, hc.2, k _ H (.refl H) (.bl _)⟩
  · cases q
theorem isNone_eq {Hh H : Hp} {v : V} {d : PyData} (h : RpW K Hh H v d) : decide (v = .non) = isNoneD d := by
  cases h with
  | st h => cases h <;> simp [isNoneD]
  | ow _ _ => simp [isNoneD]
def rIsU : R2 := fun x y H Q => (y = .non ∧ Q (.bl (decide (x = .non))) H) ∨ rIsB x y H Q
def rNotU : R2 := fun x y H Q => (y = .non ∧ Q (.bl (!decide (x = .non))) H) ∨ rNotB x y H Q
theorem op_isU {X : Cx} : OpR X (compareOp .Is) rIsU := op_isN.or op_isBl
theorem op_notU {X : Cx} : OpR X (compareOp .IsNot) rNotU := op_notN.or op_notBl
theorem o_is : O2 K rIsU oIs := fun C own σ env H x y d e z R h1 h2 q Q k => by
  unfold oIs at q
  split at q
  · cases q
    exact .inl ⟨h2.non, by rw [isNone_eq h1]; exact k _ H (.refl H) (.bl _)⟩
  · rename_i a b
    cases q
    refine .inr ⟨a, b, h1.bl, h2.bl, ?_⟩
    rw [show decide (a = b) = (a == b) by cases a <;> cases b <;> rfl]
    exact k _ H (.refl H) (.bl _)
  · cases q
theorem o_isNot : O2 K rNotU oIsNot := fun C own σ env H x y d e z R h1 h2 q Q k => by
  unfold oIsNot at q
  split at q
  · cases q
    exact .inl ⟨h2.non, by rw [isNone_eq h1]; exact k _ H (.refl H) (.bl _)⟩
  · rename_i a b
    cases q
    refine .inr ⟨a, b, h1.bl, h2.bl, ?_⟩
    rw [show (!decide (a = b)) = (a != b) by cases a <;> cases b <;> rfl]
    exact k _ H (.refl H) (.bl _)
  · cases q
theorem o_in : O2 K (rInD K) oIn := fun C own σ env H x y d e z R h1 h2 q Q k => by
  unfold oIn at q
  split at q
  · split at q
    · rename_i hc
      cases q
      exact ⟨d, _, (h1.full (hh_ext C own H)).dp, (h2.full (hh_ext C own H)).dp, hc.1, hc.2, k _ H (.refl H) (.bl _)⟩
    · cases q
  · cases q
theorem o_notIn : O2 K (rNotInD K) oNotIn := fun C own σ env H x y d e z R h1 h2 q Q k => by
  unfold oNotIn at q
  split at q
  · split at q
    · rename_i hc
      cases q
      exact ⟨d, _, (h1.full (hh_ext C own H)).dp, (h2.full (hh_ext C own H)).dp, hc.1, hc.2, k _ H (.refl H) (.bl _)⟩
    · cases q
  · cases q
theorem o_neg : O1 K (rU fun i => .int (-i)) oNeg := fun C own σ env H x d z R h1 q Q k => by
  unfold oNeg at q
  split at q
  · cases q
    exact ⟨_, h1.int, k _ H (.refl H) (.int _)⟩
  · cases q
theorem RpA.atI {H : Hp} {vs : List V} {ds : List PyData} {i : Int} {d : PyData} (r : RpA K H vs ds) (h : L2.atI ds i = some d) : ∃ v, L2.atI vs i = some v ∧ Rp K H v d := by
  unfold L2.atI at h ⊢
  rw [r.len]
  cases e : ixN ds.length i with
  | none => rw [e] at h; cases h
  | some j =>
    rw [e] at h
    obtain ⟨v, h1, h2⟩ := r.get (i := j) h
    exact ⟨v, h1, h2⟩
def rIxU (K : PySem.W.Frag) : R2 := fun x y H Q => rIxL K x y H Q ∨ rIxT K x y H Q
theorem ix_U {X : Cx} : IxR X (rIxU X.K) := ix_list.or ix_tup
theorem o_ix : O2 K (rIxU K) oIx := fun C own σ env H x y d e z R h1 h2 q Q k => by
  unfold oIx at q
  split at q
  · rename_i xs i
    split at q
    · rename_i w hw
      cases q
      obtain ⟨a, vs, rfl, ha, ra⟩ := h1.lst (hh_ext C own H)
      obtain ⟨v, e1, e2⟩ := ra.atI hw
      exact .inl ⟨a, vs, i, v, rfl, h2.int, SqL.of ha, e1, k v H (.refl H) e2⟩
    · cases q
  · rename_i xs i
    split at q
    · rename_i w hw
      cases q
      obtain ⟨a, vs, rfl, ha, ra, _⟩ := h1.tup (hh_ext C own H)
      obtain ⟨v, e1, e2⟩ := ra.atI hw
      exact .inr ⟨a, vs, i, v, rfl, h2.int, ha, e1, k v H (.refl H) e2⟩
    · cases q
  · cases q
end

/-! ### slices -/
abbrev EvO := En → Res (Option Int × En)
def SO (K : PySem.W.Frag) (t : TO) (f : EvO) : Prop :=
  ∀ C own σ H env o env', RE K C own σ H env → f env = .ok (o, env') → ∀ Q : Option Int → Hp → Prop, (∀ own' H', RE K C own' σ H' env' → Grow C own H own' H' → Q o H') → t σ H Q
structure XO (X : Cx) (e : Option Expr) (t : TO) (f : EvO) : Prop where
  po : PO X e t
  so : SO X.K t f
def eNoPart : EvO := fun env => .ok (none, env)
def asI : PyData → Res Int
  | .int i => .ok i
  | _ => .bad
theorem asI_eq {x : PyData} {b : Int} (h : asI x = .ok b) : x = .int b := by
  cases x <;> first | (cases h; rfl) | cases h
def ePart (f : Ev) : EvO := fun env => f env >>= fun p => rd p.2 p.1 >>= fun x => asI x >>= fun i => .ok (some i, p.2)
def cutD (xs : List PyData) (lo hi : Option Int) : List PyData := (xs.drop (HT.sIx xs.length 0 lo)).take (HT.sIx xs.length xs.length hi - HT.sIx xs.length 0 lo)
def oSl (lo hi : Option Int) : PyData → Res PyData
  | .list xs => .ok (.list (cutD xs lo hi))
  | .tuple xs => .ok (.tuple (cutD xs lo hi))
  | _ => .bad
def eSl (f : Ev) (lo hi : EvO) : Ev := fun env => f env >>= fun p => lo p.2 >>= fun l => hi l.2 >>= fun h => rd h.2 p.1 >>= fun x => oSl l.1 h.1 x >>= fun z => .ok (.d z, h.2)
def oRev : PyData → Res PyData
  | .list xs => .ok (.list xs.reverse)
  | _ => .bad
section
variable {K : PySem.W.Frag} {te : TE} {f : Ev}
theorem so_none : SO K tNoPart eNoPart := fun C own σ H env o env' R q Q k => by cases q; exact k own H R .refl
theorem so_part (h : SE K te f) : SO K (tPart te) (ePart f) := fun C own σ H env o env' R q Q k => by
  obtain ⟨⟨w1, e1⟩, q1, q⟩ := bind_eq q
  obtain ⟨x, q3, q⟩ := bind_eq q
  obtain ⟨i, q5, q⟩ := bind_eq q
  cases q
  refine h C own σ H env w1 e1 R q1 _ fun o1 u H1 R1 g1 r1 => ?_
  have h := r1.get R1 q3
  rw [asI_eq q5] at h
  exact ⟨i, h.int, k o1 H1 R1 g1⟩
def rSlU (K : PySem.W.Frag) : V → Option Int → Option Int → Hp → VK → Prop := fun x lo hi H Q => rSlL K x lo hi H Q ∨ rSlA K x lo hi H Q
theorem sl_U {X : Cx} : SlR X (rSlU X.K) := sl_list.or sl_tupA
theorem RpA.cut {H : Hp} {vs : List V} {ds : List PyData} (r : RpA K H vs ds) (lo hi : Option Int) : RpA K H (cutV vs lo hi) (cutD ds lo hi) := by
  unfold cutV cutD
  rw [r.len]
  exact (r.drop _).take _
theorem cut_whole {ds : List PyData} {lo hi : Option Int} (h : HT.sIx ds.length 0 lo = 0 ∧ HT.sIx ds.length ds.length hi = ds.length) : cutD ds lo hi = ds := by
  unfold cutD
  rw [h.1, h.2]
  simp
theorem se_sl {tl th : TO} {lo hi : EvO} (ha : SE K te f) (hl : SO K tl lo) (hh' : SO K th hi) : SE K (tSl (rSlU K) te tl th) (eSl f lo hi) := fun C own σ H env w env' R q Q k => by
  obtain ⟨⟨w1, e1⟩, q1, q⟩ := bind_eq q
  obtain ⟨⟨l, e2⟩, q2, q⟩ := bind_eq q
  obtain ⟨⟨h, e3⟩, q3, q⟩ := bind_eq q
  obtain ⟨x, q4, q⟩ := bind_eq q
  obtain ⟨z, q5, q⟩ := bind_eq q
  cases q
  refine ha C own σ H env w1 e1 R q1 _ fun o1 u H1 R1 g1 r1 => ?_
  refine hl C o1 σ H1 e1 l e2 R1 q2 _ fun o2 H2 R2 g2 => ?_
  refine hh' C o2 σ H2 e2 h e3 R2 q3 _ fun o3 H3 R3 g3 => ?_
  have r3 := ((r1.grow g2).grow g3).get R3 q4
  have gg := (g1.trans g2).trans g3
  unfold oSl at q5
  split at q5
  · rename_i xs
    cases q5
    obtain ⟨a, vs, rfl, ha, ra⟩ := r3.lst (hh_ext C o3 H3)
    refine .inl ⟨a, vs, rfl, SqL.of ha, fun p hp => ?_⟩
    obtain ⟨e1, e2⟩ := fresh_rp R3 hp (ra.cut l h)
    obtain ⟨R4, g4⟩ := R3.up e1
    exact k o3 _ _ R4 (gg.trans g4) e2
  · rename_i xs
    cases q5
    obtain ⟨a, vs, rfl, ha, ra, ha'⟩ := r3.tup (hh_ext C o3 H3)
    refine .inr ⟨a, vs, rfl, ha, fun hw => ?_, fun _ p hp => ?_⟩
    · rw [ra.len] at hw
      refine k o3 _ H3 R3 gg ?_
      show Rp K (hh C o3 H3) (.ref a) (.tuple (cutD xs l h))
      rw [cut_whole hw]
      exact Rp.tup ha' ra
    · obtain ⟨e1, e2⟩ := fresh_tp R3 hp (ra.cut l h)
      obtain ⟨R4, g4⟩ := R3.up e1
      exact k o3 _ _ R4 (gg.trans g4) e2
  · cases q5
theorem se_rev (ha : SE K te f) : SE K (tRevL K te) (eUn oRev f) := fun C own σ H env w env' R q Q k => by
  obtain ⟨⟨w1, e1⟩, q1, q⟩ := bind_eq q
  obtain ⟨x, q3, q⟩ := bind_eq q
  obtain ⟨z, q5, q⟩ := bind_eq q
  cases q
  refine ha C own σ H env w1 e1 R q1 _ fun o1 u H1 R1 g1 r1 => ?_
  have r3 := r1.get R1 q3
  unfold oRev at q5
  split at q5
  · cases q5
    obtain ⟨a, vs, rfl, ha, ra⟩ := r3.lst (hh_ext C o1 H1)
    refine ⟨a, vs, rfl, SqL.of ha, fun p hp => ?_⟩
    obtain ⟨e1, e2⟩ := fresh_rp R1 hp ra.rev
    obtain ⟨R4, g4⟩ := R1.up e1
    exact k o1 _ _ R4 (g1.trans g4) e2
  · cases q5
end

/-! ### built-in functions -/
def oLen : List PyData → Res PyData
  | [.list xs] => .ok (.int xs.length)
  | [.tuple xs] => .ok (.int xs.length)
  | _ => .bad
def oAbs : List PyData → Res PyData
  | [.int i] => .ok (.int (if i < 0 then -i else i))
  | _ => .bad
def oInt : List PyData → Res PyData
  | [.int i] => .ok (.int i)
  | [.bool b] => .ok (.int (if b then 1 else 0))
  | _ => .bad
/-- the greatest of some ints -/
def maxL : List Int → Int
  | [] => 0
  | n :: r => r.foldl max n
def minL : List Int → Int
  | [] => 0
  | n :: r => r.foldl min n
def oMax : List PyData → Res PyData
  | [.int i, .int j] => .ok (.int (max i j))
  | [.list xs] => match nums xs with
    | some (n :: r) => .ok (.int (maxL (n :: r)))
    | _ => .bad
  | _ => .bad
def oMin : List PyData → Res PyData
  | [.int i, .int j] => .ok (.int (min i j))
  | [.list xs] => match nums xs with
    | some (n :: r) => .ok (.int (minL (n :: r)))
    | _ => .bad
  | _ => .bad
def oSum : List PyData → Res PyData
  | [.list xs] => match nums xs with
    | some ns => .ok (.int ns.sum)
    | none => .bad
  | _ => .bad
def oAll : List PyData → Res PyData
  | [.list xs] => match bools xs with
    | some ns => .ok (.bool (ns.all id))
    | none => .bad
  | _ => .bad
def oAny : List PyData → Res PyData
  | [.list xs] => match bools xs with
    | some ns => .ok (.bool (ns.any id))
    | none => .bad
  | _ => .bad
def oDivmod : List PyData → Res PyData
  | [.int i, .int j] => if 0 < j ∧ j < BIG then .ok (.tuple [.int (i / j), .int (i % j)]) else .bad
  | _ => .bad
def oGcd : List PyData → Res PyData
  | [.int i, .int j] => .ok (.int ((Nat.gcd i.natAbs j.natAbs : Nat) : Int))
  | _ => .bad
def oTuple : List PyData → Res PyData
  | [.list xs] => .ok (.tuple xs)
  | [.tuple xs] => .ok (.tuple xs)
  | _ => .bad
def oList : List PyData → Res PyData
  | [.list xs] => .ok (.list xs)
  | [.tuple xs] => .ok (.list xs)
  | _ => .bad
/-- the place where an int goes -/
def insI (x : Int) : List Int → List Int
  | [] => [x]
  | y :: r => if x ≤ y then x :: y :: r else y :: insI x r
def sortI : List Int → List Int
  | [] => []
  | x :: r => insI x (sortI r)
theorem insI_perm (x : Int) : ∀ l, (insI x l).Perm (x :: l)
  | [] => .refl _
  | y :: r => by
    unfold insI
    split
    · exact .refl _
    · exact ((insI_perm x r).cons y).trans (.swap x y r)
theorem sortI_perm : ∀ l, (sortI l).Perm l
  | [] => .refl _
  | x :: r => (insI_perm x _).trans ((sortI_perm r).cons x)
theorem insI_pw (x : Int) : ∀ {l : List Int}, l.Pairwise (· ≤ ·) → (insI x l).Pairwise (· ≤ ·)
  | [], _ => by simp [insI]
  | y :: r, h => by
    unfold insI
    split
    · rename_i hle
      refine List.pairwise_cons.mpr ⟨fun z hz => ?_, h⟩
      rcases List.mem_cons.mp hz with rfl | hz
      · exact hle
      · exact Int.le_trans hle ((List.pairwise_cons.mp h).1 z hz)
    · rename_i hle
      refine List.pairwise_cons.mpr ⟨fun z hz => ?_, insI_pw x (List.pairwise_cons.mp h).2⟩
      rcases List.mem_cons.mp ((insI_perm x r).mem_iff.mp hz) with rfl | hz
      · omega
      · exact (List.pairwise_cons.mp h).1 z hz
theorem sortI_pw : ∀ l, (sortI l).Pairwise (· ≤ ·)
  | [] => .nil
  | x :: r => insI_pw x (sortI_pw r)
theorem pw_uniq : ∀ {l m : List Int}, l.Perm m → l.Pairwise (· ≤ ·) → m.Pairwise (· ≤ ·) → l = m := fun {l m} h h1 h2 =>
  h.eq_of_pairwise (fun a b _ _ x y => Int.le_antisymm x y) h1 h2
def oSorted : List PyData → Res PyData
  | [.list xs] => match nums xs with
    | some ns => .ok (.list ((sortI ns).map PyData.int))
    | none => .bad
  | _ => .bad

theorem RpWA.one {K : PySem.W.Frag} {Hh H : Hp} {vs : List V} {d : PyData} (h : RpWA K Hh H vs [d]) : ∃ v, vs = [v] ∧ RpW K Hh H v d := by
  cases h with
  | cons h1 h2 => cases h2; exact ⟨_, rfl, h1⟩
theorem RpWA.two {K : PySem.W.Frag} {Hh H : Hp} {vs : List V} {d e : PyData} (h : RpWA K Hh H vs [d, e]) : ∃ v w, vs = [v, w] ∧ RpW K Hh H v d ∧ RpW K Hh H w e := by
  cases h with
  | cons h1 h2 =>
    obtain ⟨w, rfl, h3⟩ := h2.one
    exact ⟨_, _, rfl, h1, h3⟩
section
variable {K : PySem.W.Frag}
def rLen (K : PySem.W.Frag) : List V → Hp → VK → Prop := fun xs H Q => ∃ p ys, xs = [.ref p] ∧ (SqL K H p ys ∨ SqT K H p ys) ∧ Q (.int ys.length) H
theorem oc_len : OC K (rLen K) oLen := fun C own σ env H vs ds z R h q Q k => by
  unfold oLen at q
  split at q
  · cases q
    obtain ⟨v, rfl, h1⟩ := h.one
    obtain ⟨a, ws, rfl, ha, ra⟩ := h1.lst (hh_ext C own H)
    refine ⟨a, ws, rfl, .inl (SqL.of ha), ?_⟩
    rw [ra.len]
    exact k _ H (.refl H) (.int _)
  · cases q
    obtain ⟨v, rfl, h1⟩ := h.one
    obtain ⟨a, ws, rfl, ha, ra, _⟩ := h1.tup (hh_ext C own H)
    refine ⟨a, ws, rfl, .inr ha, ?_⟩
    rw [ra.len]
    exact k _ H (.refl H) (.int _)
  · cases q
def rAbs : List V → Hp → VK → Prop := fun xs H Q => ∃ i, xs = [.int i] ∧ Q (.int (if i < 0 then -i else i)) H
theorem oc_abs : OC K rAbs oAbs := fun C own σ env H vs ds z R h q Q k => by
  unfold oAbs at q
  split at q
  · cases q
    obtain ⟨v, rfl, h1⟩ := h.one
    exact ⟨_, by rw [h1.int], k _ H (.refl H) (.int _)⟩
  · cases q
def rInt : List V → Hp → VK → Prop := fun xs H Q => (∃ i, xs = [.int i] ∧ Q (.int i) H) ∨ ∃ k, xs = [.bl k] ∧ Q (.int (if k then 1 else 0)) H
theorem oc_int : OC K rInt oInt := fun C own σ env H vs ds z R h q Q k => by
  unfold oInt at q
  split at q
  · cases q
    obtain ⟨v, rfl, h1⟩ := h.one
    exact .inl ⟨_, by rw [h1.int], k _ H (.refl H) (.int _)⟩
  · cases q
    obtain ⟨v, rfl, h1⟩ := h.one
    exact .inr ⟨_, by rw [h1.bl], k _ H (.refl H) (.int _)⟩
  · cases q
theorem foldl_max : ∀ (r : List Int) (n : Int), (r.foldl max n ∈ n :: r) ∧ n ≤ r.foldl max n ∧ ∀ y ∈ r, y ≤ r.foldl max n
  | [], n => ⟨by simp, Int.le_refl _, fun y hy => by cases hy⟩
  | m :: r, n => by
    obtain ⟨a, b, c⟩ := foldl_max r (max n m)
    rw [List.foldl_cons]
    refine ⟨?_, by omega, fun y hy => ?_⟩
    · rcases List.mem_cons.mp a with e | e
      · rw [e]
        by_cases h : n ≤ m
        · rw [Int.max_eq_right h]; simp
        · rw [Int.max_eq_left (by omega)]; simp
      · exact List.mem_cons_of_mem _ (List.mem_cons_of_mem _ e)
    · rcases List.mem_cons.mp hy with rfl | hy
      · omega
      · exact c y hy
theorem foldl_min : ∀ (r : List Int) (n : Int), (r.foldl min n ∈ n :: r) ∧ r.foldl min n ≤ n ∧ ∀ y ∈ r, r.foldl min n ≤ y
  | [], n => ⟨by simp, Int.le_refl _, fun y hy => by cases hy⟩
  | m :: r, n => by
    obtain ⟨a, b, c⟩ := foldl_min r (min n m)
    rw [List.foldl_cons]
    refine ⟨?_, by omega, fun y hy => ?_⟩
    · rcases List.mem_cons.mp a with e | e
      · rw [e]
        by_cases h : n ≤ m
        · rw [Int.min_eq_left h]; simp
        · rw [Int.min_eq_right (by omega)]; simp
      · exact List.mem_cons_of_mem _ (List.mem_cons_of_mem _ e)
    · rcases List.mem_cons.mp hy with rfl | hy
      · omega
      · exact c y hy
theorem maxL_mem {l : List Int} (h : l ≠ []) : maxL l ∈ l := by
  cases l with
  | nil => exact absurd rfl h
  | cons n r => exact (foldl_max r n).1
theorem maxL_le {l : List Int} {y : Int} (h : y ∈ l) : y ≤ maxL l := by
  cases l with
  | nil => cases h
  | cons n r =>
    rcases List.mem_cons.mp h with rfl | h
    · exact (foldl_max r _).2.1
    · exact (foldl_max r n).2.2 y h
theorem minL_mem {l : List Int} (h : l ≠ []) : minL l ∈ l := by
  cases l with
  | nil => exact absurd rfl h
  | cons n r => exact (foldl_min r n).1
theorem minL_le {l : List Int} {y : Int} (h : y ∈ l) : minL l ≤ y := by
  cases l with
  | nil => cases h
  | cons n r =>
    rcases List.mem_cons.mp h with rfl | h
    · exact (foldl_min r _).2.1
    · exact (foldl_min r n).2.2 y h
def rMaxU (K : PySem.W.Frag) : List V → Hp → VK → Prop := fun vs H Q => (∃ i j, vs = [.int i, .int j] ∧ Q (.int (if j > i then j else i)) H) ∨ rMax K vs H Q
def rMinU (K : PySem.W.Frag) : List V → Hp → VK → Prop := fun vs H Q => (∃ i j, vs = [.int i, .int j] ∧ Q (.int (if j < i then j else i)) H) ∨ rMin K vs H Q
theorem cr_maxU {X : Cx} (hc : X.calm = true) : CallR X (.builtin "max") (rMaxU X.K) := (call_max2 hc).or (cr_max hc)
theorem cr_minU {X : Cx} (hc : X.calm = true) : CallR X (.builtin "min") (rMinU X.K) := (call_min2 hc).or (cr_min hc)
theorem oc_max : OC K (rMaxU K) oMax := fun C own σ env H vs ds z R h q Q k => by
  unfold oMax at q
  split at q
  · rename_i i j
    cases q
    obtain ⟨v, w, rfl, h1, h2⟩ := h.two
    refine .inl ⟨i, j, by rw [h1.int, h2.int], ?_⟩
    rw [show (if j > i then j else i) = max i j by by_cases h : j > i <;> simp [h] <;> omega]
    exact k _ H (.refl H) (.int _)
  · rename_i xs
    split at q
    · rename_i n r e
      cases q
      obtain ⟨v, rfl, h1⟩ := h.one
      obtain ⟨a, ws, rfl, ha, ra⟩ := h1.lst (hh_ext C own H)
      have e2 := ra.nums e
      subst e2
      refine .inr ⟨a, n :: r, rfl, SqL.of ha, by simp, fun m h1 h2 => ?_⟩
      have e3 : m = maxL (n :: r) := Int.le_antisymm (maxL_le h1) (h2 _ (maxL_mem (by simp)))
      subst e3
      exact k _ H (.refl H) (.int _)
    · cases q
  · cases q
theorem oc_min : OC K (rMinU K) oMin := fun C own σ env H vs ds z R h q Q k => by
  unfold oMin at q
  split at q
  · rename_i i j
    cases q
    obtain ⟨v, w, rfl, h1, h2⟩ := h.two
    refine .inl ⟨i, j, by rw [h1.int, h2.int], ?_⟩
    rw [show (if j < i then j else i) = min i j by by_cases h : j < i <;> simp [h] <;> omega]
    exact k _ H (.refl H) (.int _)
  · rename_i xs
    split at q
    · rename_i n r e
      cases q
      obtain ⟨v, rfl, h1⟩ := h.one
      obtain ⟨a, ws, rfl, ha, ra⟩ := h1.lst (hh_ext C own H)
      have e2 := ra.nums e
      subst e2
      refine .inr ⟨a, n :: r, rfl, SqL.of ha, by simp, fun m h1 h2 => ?_⟩
      have e3 : m = minL (n :: r) := Int.le_antisymm (h2 _ (minL_mem (by simp))) (minL_le h1)
      subst e3
      exact k _ H (.refl H) (.int _)
    · cases q
  · cases q
theorem oc_sum : OC K (rSum K) oSum := fun C own σ env H vs ds z R h q Q k => by
  unfold oSum at q
  split at q
  · split at q
    · rename_i ns e
      cases q
      obtain ⟨v, rfl, h1⟩ := h.one
      obtain ⟨a, ws, rfl, ha, ra⟩ := h1.lst (hh_ext C own H)
      have e2 := ra.nums e
      subst e2
      exact ⟨a, ns, rfl, SqL.of ha, k _ H (.refl H) (.int _)⟩
    · cases q
  · cases q
theorem oc_all : OC K (rAll K) oAll := fun C own σ env H vs ds z R h q Q k => by
  unfold oAll at q
  split at q
  · split at q
    · rename_i ns e
      cases q
      obtain ⟨v, rfl, h1⟩ := h.one
      obtain ⟨a, ws, rfl, ha, ra⟩ := h1.lst (hh_ext C own H)
      have e2 := ra.bools e
      subst e2
      exact ⟨a, ns, rfl, SqL.of ha, k _ H (.refl H) (.bl _)⟩
    · cases q
  · cases q
theorem oc_any : OC K (rAny K) oAny := fun C own σ env H vs ds z R h q Q k => by
  unfold oAny at q
  split at q
  · split at q
    · rename_i ns e
      cases q
      obtain ⟨v, rfl, h1⟩ := h.one
      obtain ⟨a, ws, rfl, ha, ra⟩ := h1.lst (hh_ext C own H)
      have e2 := ra.bools e
      subst e2
      exact ⟨a, ns, rfl, SqL.of ha, k _ H (.refl H) (.bl _)⟩
    · cases q
  · cases q
def rDivmod : List V → Hp → VK → Prop := fun xs H Q => ∃ i j, xs = [.int i, .int j] ∧ CDivP i j ∧ ∀ p, H p = none → Q (.ref p) (upd H p (.tup [.int (i / j), .int (i % j)]))
theorem oc_divmod : OC K rDivmod oDivmod := fun C own σ env H vs ds z R h q Q k => by
  unfold oDivmod at q
  split at q
  · split at q
    · rename_i i j hc
      cases q
      obtain ⟨v, w, rfl, h1, h2⟩ := h.two
      refine ⟨i, j, by rw [h1.int, h2.int], ⟨hc.1, ?_⟩, fun p hp => ?_⟩
      · have := big_log (i := j) ⟨by have := hc.1; have := BIG_ge; omega, hc.2⟩
        unfold Builtin.divisionGoesByPylong
        have e : ¬ (300 < (if j = 0 then 0 else j.natAbs.log2 / 30 + 1)) := by
          split
          · omega
          · omega
        simp
        exact fun z => absurd z e
      · obtain ⟨e1, e2⟩ := fresh_tp (ds := [.int (i / j), .int (i % j)]) R hp (.cons (.int _) (.cons (.int _) .nil))
        exact k _ _ e1 e2
    · cases q
  · cases q
theorem oc_gcd : OC K rGcd oGcd := fun C own σ env H vs ds z R h q Q k => by
  unfold oGcd at q
  split at q
  · cases q
    obtain ⟨v, w, rfl, h1, h2⟩ := h.two
    exact ⟨_, _, by rw [h1.int, h2.int], k _ H (.refl H) (.int _)⟩
  · cases q
def rTupOf (K : PySem.W.Frag) : List V → Hp → VK → Prop := fun xs H Q => ∃ p ys, xs = [.ref p] ∧ ((SqL K H p ys ∧ ∀ l, H l = none → Q (.ref l) (upd H l (.tup ys))) ∨ (SqT K H p ys ∧ Q (.ref p) H))
theorem oc_tuple : OC K (rTupOf K) oTuple := fun C own σ env H vs ds z R h q Q k => by
  unfold oTuple at q
  split at q
  · cases q
    obtain ⟨v, rfl, h1⟩ := h.one
    obtain ⟨a, ws, rfl, ha, ra⟩ := h1.lst (hh_ext C own H)
    refine ⟨a, ws, rfl, .inl ⟨SqL.of ha, fun p hp => ?_⟩⟩
    obtain ⟨e1, e2⟩ := fresh_tp R hp ra
    exact k _ _ e1 e2
  · cases q
    obtain ⟨v, rfl, h1⟩ := h.one
    obtain ⟨a, ws, rfl, ha, ra, ha'⟩ := h1.tup (hh_ext C own H)
    exact ⟨a, ws, rfl, .inr ⟨ha, k _ H (.refl H) (Rp.tup ha' ra)⟩⟩
  · cases q
def rListOf (K : PySem.W.Frag) : List V → Hp → VK → Prop := fun xs H Q => ∃ p ys, xs = [.ref p] ∧ (SqL K H p ys ∨ SqT K H p ys) ∧ ∀ l, H l = none → Q (.ref l) (upd H l (.lst ys))
theorem oc_list : OC K (rListOf K) oList := fun C own σ env H vs ds z R h q Q k => by
  unfold oList at q
  split at q
  · cases q
    obtain ⟨v, rfl, h1⟩ := h.one
    obtain ⟨a, ws, rfl, ha, ra⟩ := h1.lst (hh_ext C own H)
    refine ⟨a, ws, rfl, .inl (SqL.of ha), fun p hp => ?_⟩
    obtain ⟨e1, e2⟩ := fresh_rp R hp ra
    exact k _ _ e1 e2
  · cases q
    obtain ⟨v, rfl, h1⟩ := h.one
    obtain ⟨a, ws, rfl, ha, ra, ha'⟩ := h1.tup (hh_ext C own H)
    refine ⟨a, ws, rfl, .inr ha, fun p hp => ?_⟩
    obtain ⟨e1, e2⟩ := fresh_rp R hp ra
    exact k _ _ e1 e2
  · cases q
theorem oc_sorted : OC K (rSortedI K) oSorted := fun C own σ env H vs ds z R h q Q k => by
  unfold oSorted at q
  split at q
  · split at q
    · rename_i ns e
      cases q
      obtain ⟨v, rfl, h1⟩ := h.one
      obtain ⟨a, ws, rfl, ha, ra⟩ := h1.lst (hh_ext C own H)
      have e2 := ra.nums e
      subst e2
      refine ⟨a, ns, rfl, SqL.of ha, fun ns' p h1 h2 hp => ?_⟩
      have e3 : ns' = sortI ns := pw_uniq (h1.trans (sortI_perm ns).symm) h2 (sortI_pw ns)
      subst e3
      obtain ⟨e1, e2⟩ := fresh_rp R hp (RpA.of_nums (sortI ns))
      exact k _ _ e1 e2
    · cases q
  · cases q
/-! ### isinstance -/
def tyD : PyData → String
  | .none => "NoneType"
  | .bool _ => "bool"
  | .int _ => "int"
  | .str _ => "str"
  | .list _ => "list"
  | .tuple _ => "tuple"
  | .dict _ => "dict"
def isTy (d : PyData) (T : String) : Bool := tyD d == T || (tyD d == "bool" && T == "int")
def eIsi (f : Ev) (Ts : List String) : Ev := fun env => f env >>= fun p => rd p.2 p.1 >>= fun d => .ok (.d (.bool (Ts.any fun T => isTy d T)), p.2)
theorem tyX {H Hh : Hp} {v : V} {d : PyData} (e : Ext Hh H) (h : RpW K Hh H v d) : TyX K H v (.type (tyD d)) := by
  cases d with
  | none => rw [h.non]; exact .base .non
  | bool b => rw [h.bl]; exact .base (.bl b)
  | int i => rw [h.int]; exact .base (.int i)
  | str x => rw [h.str]; exact .base (.str x)
  | list xs =>
    obtain ⟨a, vs, rfl, ha, _⟩ := h.lst e
    exact .base (.lst ha)
  | tuple xs =>
    obtain ⟨a, vs, rfl, ha, _⟩ := h.tup e
    rcases ha with (ha | ⟨o, ha⟩) | ⟨o, _, _, ha, hc, _⟩
    · exact .base (.tup ha)
    · exact .fTuple ha
    · exact .kTuple ha hc
  | dict kvs =>
    cases h with
    | st h => cases h
end
def kitS (T : String) : List PyData → Bool := fun _ => true
def tysOk (Ts : List String) : Bool := ["NoneType", "bool", "int", "str", "list", "tuple", "dict"].all fun a => Ts.all fun T => decide (kitB a T = some (a == T || (a == "bool" && T == "int")))
theorem kitAny_of {K : PySem.W.Frag} {a : String} : ∀ {Ts : List String}, (Ts.all fun T => decide (kitB a T = some (a == T || (a == "bool" && T == "int")))) = true →
    PySem.W.kitAny K (.type a) (Ts.map Value.type) = some (Ts.any fun T => a == T || (a == "bool" && T == "int"))
  | [], _ => rfl
  | T :: r, h => by
    rw [List.all_cons, Bool.and_eq_true] at h
    have h1 := of_decide_eq_true h.1
    refine kitAny_cons (kit_ty h1) (fun e => ?_) fun e => ?_
    · rw [kitAny_of h.2, List.any_cons, e, Bool.false_or]
    · rw [List.any_cons, e, Bool.true_or]
theorem tyD_mem (d : PyData) : tyD d ∈ ["NoneType", "bool", "int", "str", "list", "tuple", "dict"] := by
  cases d <;> simp [tyD]
theorem paired_ty : ∀ Ts : List String, Paired ClsV (Ts.map V.ty) (Ts.map Value.type)
  | [] => .nil
  | _ :: r => .cons (.ty _) (paired_ty r)
section
variable {K : PySem.W.Frag} {ta : TE} {f : Ev}
/-- the names of the classes -/
def tTys (Ts : List String) : TA := fun _ H Q => Q (Ts.map V.ty) H
theorem se_isi1 {T : String} (ha : SE K ta f) (hT : tysOk [T] = true) : SE K (tCB (rIsi K) (tCons ta (tCons (tC (.ty T)) tNil))) (eIsi f [T]) := fun C own σ H env w env' R q Q k => by
  obtain ⟨⟨w1, e1⟩, q1, q⟩ := bind_eq q
  obtain ⟨d, q3, q⟩ := bind_eq q
  cases q
  refine ha C own σ H env w1 e1 R q1 _ fun o1 u H1 R1 g1 r1 => ?_
  have h := r1.get R1 q3
  have h2 := List.all_eq_true.mp hT _ (tyD_mem d)
  rw [List.all_cons, Bool.and_eq_true] at h2
  refine ⟨u, .ty T, .type (tyD d), .type T, _, rfl, .ty T, tyX (hh_ext C o1 H1) h, kit_ty (of_decide_eq_true h2.1), ?_⟩
  have e : ([T].any fun T => isTy d T) = (tyD d == T || (tyD d == "bool" && T == "int")) := by simp [isTy]
  rw [← e]
  exact k o1 _ H1 R1 g1 (Rp.bl _)
theorem se_isiT {Ts : List String} {tt : TA} (ha : SE K ta f) (htt : ∀ σ H Q, Q (Ts.map V.ty) H → tt σ H Q) (hl : Ts.length ≤ 10) (hT : tysOk Ts = true) :
    SE K (tCB (rIsiT K) (tCons ta (tCons (tTup tt) tNil))) (eIsi f Ts) := fun C own σ H env w env' R q Q k => by
  obtain ⟨⟨w1, e1⟩, q1, q⟩ := bind_eq q
  obtain ⟨d, q3, q⟩ := bind_eq q
  cases q
  refine ha C own σ H env w1 e1 R q1 _ fun o1 u H1 R1 g1 r1 => ?_
  refine htt _ _ _ ⟨by rw [List.length_map]; exact sz (by omega), fun p hp => ?_⟩
  obtain ⟨R2, g2, h2'⟩ := R1.alloc (o := .tup (Ts.map V.ty)) hp
  have h := (r1.grow g2).get R2 q3
  have h2 := List.all_eq_true.mp hT _ (tyD_mem d)
  refine ⟨u, p, Ts.map V.ty, .type (tyD d), Ts.map Value.type, _, rfl, upd_same, paired_ty Ts, tyX (hh_ext C o1 _) h, kitAny_of h2, ?_⟩
  exact k o1 _ _ R2 (g1.trans g2) (Rp.bl _)
end
end XL

namespace XL
open PySem PySem.Spec L2

/-! ### another base -/
def Cn.at (C : Cn) (own : Own) (H : Hp) : Cn := { H0 := H, P := C.P, M := fun a => ∃ i, own i = some a, io := C.io }
section
variable {K : PySem.W.Frag} {C : Cn} {own own' : Own} {σ σ' : L2.St} {H H' : Hp} {env env' : En}
theorem RE.rebase (R : RE K C own σ H env) : RE K (C.at own H) own σ H env := by
  refine ⟨R.len, R.inj, R.va, fun i xs h => ?_, R.io, R.only, R.ios, fun i a h => ?_, fun a o h _ => h, fun a ⟨i, h⟩ => ?_, R.pal⟩
  · obtain ⟨a, vs, h1, h2, h3, h4, h5, h6⟩ := R.ow i xs h
    exact ⟨a, vs, h1, h2, h3, h4, h5, .inl ⟨i, h1⟩⟩
  · obtain ⟨xs, q⟩ := R.ios i a h
    obtain ⟨b, vs, h1, h2, _⟩ := R.io i xs q
    have h2 : C.io i = some b := h2
    have h : C.io i = some a := h
    rw [h] at h2; cases h2
    exact ⟨i, h1⟩
  · obtain ⟨vs, e⟩ := R.own_some h
    exact ⟨_, e⟩
theorem RE.unbase' {C' : Cn} (h0 : C'.H0 = C.H0) (hM : C'.M = C.M) (hio : C'.io = C.io) (R : RE K C own σ H env) (R' : RE K (C'.at own H) own' σ' H' env') : RE K C' own' σ' H' env' := by
  have key : ∀ a, (∃ i, own i = some a) → C.M a ∨ C.H0 a = none := fun a ⟨i, h⟩ => by
    rcases R.only i a h with ⟨xs, e⟩ | ⟨xs, e⟩
    · obtain ⟨b, vs, h1, _, _, _, _, h6⟩ := R.ow i xs e
      rw [h] at h1; cases h1; exact h6
    · obtain ⟨b, vs, h1, h2, _⟩ := R.io i xs e
      rw [h] at h1; cases h1; exact .inl (R.iom i _ h2)
  have up : ∀ a o, H a = some o → ∃ o', H' a = some o' := fun a o e => by
    by_cases z : ∃ i, own i = some a
    · exact R'.mal a z
    · exact ⟨o, R'.pres a o e z⟩
  refine ⟨R'.len, R'.inj, R'.va, fun i xs h => ?_, R'.io, R'.only, R'.ios, fun i a h => by rw [hM]; rw [hio] at h; exact R.iom i a h, fun a o h z => ?_, fun a h => ?_, R'.pal⟩
  · obtain ⟨a, vs, h1, h2, h3, h4, h5, h6⟩ := R'.ow i xs h
    refine ⟨a, vs, h1, h2, h3, h4, h5, ?_⟩
    rw [hM, h0]
    rcases h6 with h6 | h6
    · exact key a h6
    · exact .inr (R.h0 h6)
  · rw [h0] at h
    rw [hM] at z
    refine R'.pres a o (R.pres a o h z) fun w => ?_
    rcases key a w with w | w
    · exact z w
    · rw [h] at w; cases w
  · rw [hM] at h
    obtain ⟨o, e⟩ := R.mal a h
    exact up a o e
theorem RE.unbase (R : RE K C own σ H env) (R' : RE K (C.at own H) own' σ' H' env') : RE K C own' σ' H' env' := R.unbase' rfl rfl rfl R'
/-- all that was tracked and not owned stands -/
def Keep (own : Own) (H H' : Hp) : Prop := ∀ a o, H a = some o → (∀ i, own i ≠ some a) → H' a = some o
theorem RE.keep (R' : RE K (C.at own H) own' σ' H' env') : Keep own H H' := fun a o e z => R'.pres a o e fun ⟨i, h⟩ => z i h
end

/-! ### an address more is hidden -/
def Cn.hide (C : Cn) (L : List Addr) : Cn := { H0 := C.H0, P := fun a => C.P a ∨ a ∈ L, M := C.M, io := C.io }
section
variable {K : PySem.W.Frag} {C : Cn} {own own' : Own} {σ σ' : L2.St} {H H' : Hp} {env env' : En} {L L' : List Addr}
theorem hide_le (a : Addr) (h : Hd C own a) : Hd (C.hide L) own a := by
  rcases h with h | h
  · exact .inl (.inl h)
  · exact .inr h
theorem RE.unhide (R : RE K (C.hide L) own σ H env) : RE K C own σ H env := by
  have g : Ext (hh (C.hide L) own H) (hh C own H) := hdn_le hide_le
  refine ⟨R.len, R.inj, fun i d h => ?_, fun i xs h => ?_, fun i xs h => ?_, R.only, R.ios, R.iom, R.pres, R.mal, fun a h => R.pal a (.inl h)⟩
  · obtain ⟨v, h1, h2⟩ := R.va i d h
    exact ⟨v, h1, h2.ext g⟩
  · obtain ⟨a, vs, h1, h2, h3, h4, h5, h6⟩ := R.ow i xs h
    exact ⟨a, vs, h1, h2, h3, h4.ext g, fun z => h5 (.inl z), h6⟩
  · obtain ⟨a, vs, h1, h2, h3, h4, h5⟩ := R.io i xs h
    exact ⟨a, vs, h1, h2, h3, h4, h5.ext g⟩
/-- a new object, hidden -/
theorem RE.hideNew (R : RE K C own σ H env) {p : Addr} {o : HO} (h : H p = none) : RE K (C.hide [p]) own σ (upd H p o) env ∧ Ext (hh C own H) (hh (C.hide [p]) own (upd H p o)) := by
  have e : Ext H (upd H p o) := ext_new h
  have g : Ext (hh C own H) (hh (C.hide [p]) own (upd H p o)) := fun a u q => by
    obtain ⟨q1, q2⟩ := hdn_some.mp q
    refine hdn_some.mpr ⟨fun z => ?_, e a u q2⟩
    rcases z with (z | z) | z
    · exact q1 (.inl z)
    · have : a = p := by simpa using z
      subst this
      rw [h] at q2; cases q2
    · exact q1 (.inr z)
  refine ⟨⟨R.len, R.inj, fun i d h => ?_, fun i xs q => ?_, fun i xs h => ?_, R.only, R.ios, R.iom, fun a o h z => e _ _ (R.pres a o h z), fun a h => ?_, fun a z => ?_⟩, g⟩
  · obtain ⟨v, h1, h2⟩ := R.va i d h
    exact ⟨v, h1, h2.ext g⟩
  · obtain ⟨a, vs, h1, h2, h3, h4, h5, h6⟩ := R.ow i xs q
    refine ⟨a, vs, h1, h2, e _ _ h3, h4.ext g, fun z => ?_, h6⟩
    rcases z with z | z
    · exact h5 z
    · have : a = p := by simpa using z
      subst this
      rw [h] at h3; cases h3
  · obtain ⟨a, vs, h1, h2, h3, h4, h5⟩ := R.io i xs h
    exact ⟨a, vs, h1, h2, h3, e _ _ h4, h5.ext g⟩
  · obtain ⟨o, q⟩ := R.mal a h
    exact ⟨o, e _ _ q⟩
  · rcases z with z | z
    · obtain ⟨o, q⟩ := R.pal a z
      exact ⟨o, e _ _ q⟩
    · have : a = p := by simpa using z
      subst this
      exact ⟨_, upd_same⟩
/-- another content of a hidden, unowned object -/
theorem RE.hidUpd (R : RE K C own σ H env) {p : Addr} {o : HO} (hp : C.P p) (hn : ∀ i, own i ≠ some p) (h0 : C.M p ∨ C.H0 p = none) : RE K C own σ (upd H p o) env ∧ Grow C own H own (upd H p o) := by
  have g : Grow C own H own (upd H p o) := fun a u q => by
    obtain ⟨q1, q2⟩ := hdn_some.mp q
    have ne : a ≠ p := fun z => q1 (.inl (z ▸ hp))
    exact hdn_some.mpr ⟨q1, by rw [upd_ne ne]; exact q2⟩
  have st : ∀ a, (∃ o, H a = some o) → ∃ u, upd H p o a = some u := fun a ⟨u, e⟩ => by
    by_cases z : a = p
    · subst z; exact ⟨_, upd_same⟩
    · exact ⟨u, by rw [upd_ne z]; exact e⟩
  refine ⟨⟨R.len, R.inj, fun i d h => ?_, fun i xs q => ?_, fun i xs h => ?_, R.only, R.ios, R.iom, fun a u h z => ?_, fun a h => st a (R.mal a h), fun a h => st a (R.pal a h)⟩, g⟩
  · obtain ⟨v, h1, h2⟩ := R.va i d h
    exact ⟨v, h1, h2.ext g⟩
  · obtain ⟨a, vs, h1, h2, h3, h4, h5, h6⟩ := R.ow i xs q
    exact ⟨a, vs, h1, h2, by rw [upd_ne (fun z : a = p => hn i (z ▸ h1))]; exact h3, h4.ext g, h5, h6⟩
  · obtain ⟨a, vs, h1, h2, h3, h4, h5⟩ := R.io i xs h
    exact ⟨a, vs, h1, h2, h3, by rw [upd_ne (fun z : a = p => hn i (z ▸ h1))]; exact h4, h5.ext g⟩
  · have ne : a ≠ p := fun e => by
      subst e
      rcases h0 with q | q
      · exact z q
      · rw [h] at q; cases q
    rw [upd_ne ne]
    exact R.pres a u h z
end

/-! ### new lists -/
abbrev EvF := En → Res (List PyData × En)
/-- a new list, hidden so far -/
def NewL (K : PySem.W.Frag) (C : Cn) (own : Own) (σ : L2.St) (H : Hp) (env' : En) (xs : List PyData) (own' : Own) (a : Addr) (H' : Hp) : Prop :=
  RE K (C.hide [a]) own' σ H' env' ∧ Ext (hh C own H) (hh (C.hide [a]) own' H') ∧ (H a = none ∧ C.H0 a = none ∧ ¬ C.P a ∧ ∀ i, own' i ≠ some a) ∧ ∃ vs, H' a = some (.lst vs) ∧ RpA K (hh (C.hide [a]) own' H') vs xs
def SF (K : PySem.W.Frag) (t : TE) (f : EvF) : Prop :=
  ∀ C own σ H env xs env', RE K C own σ H env → f env = .ok (xs, env') → ∀ Q : VK, (∀ own' a H', NewL K C own σ H env' xs own' a H' → Q (.ref a) H') → t σ H Q
structure XF (X : Cx) (e : Expr) (t : TE) (f : EvF) : Prop where
  pe : PE X e t
  se : SF X.K t f
/-- as a value -/
def eF (f : EvF) : EvS := fun env => f env >>= fun p => .ok (.list p.1, p.2)
section
variable {K : PySem.W.Frag} {C : Cn} {own own' : Own} {σ : L2.St} {H H' : Hp} {env env' : En} {xs : List PyData} {a : Addr} {te : TE} {f : EvF}
theorem NewL.val (N : NewL K C own σ H env' xs own' a H') : RE K C own' σ H' env' ∧ Grow C own H own' H' ∧ Rp K (hh C own' H') (.ref a) (.list xs) := by
  obtain ⟨R, e, ⟨n1, n2, n4, n3⟩, vs, h1, h2⟩ := N
  have g : Ext (hh (C.hide [a]) own' H') (hh C own' H') := hdn_le hide_le
  refine ⟨R.unhide, e.trans g, .lst (hdn_some.mpr ⟨fun z => ?_, h1⟩) (h2.ext g)⟩
  rcases z with z | ⟨i, z⟩
  · exact n4 z
  · exact n3 i z
theorem XF.v {X : Cx} {e : Expr} {t : TE} {f : EvF} (h : XF X e t f) : XV X e t (eF f) := by
  refine ⟨h.pe, fun C own σ H env d env' R q Q k => ?_⟩
  obtain ⟨⟨xs, e1⟩, q1, q⟩ := bind_eq q
  cases q
  refine h.se C own σ H env xs e1 R q1 Q fun own' a H' N => ?_
  obtain ⟨r, g, p⟩ := N.val
  exact k own' _ H' r g p
/-- a list that a rule has just laid at a -/
theorem RE.newL (R : RE K C own σ H env) {p : Addr} {vs : List V} (h : H p = none) (r : RpA K (hh C own H) vs xs) : NewL K C own σ H env xs own p (upd H p (.lst vs)) := by
  obtain ⟨R2, g2⟩ := R.hideNew (o := .lst vs) h
  refine ⟨R2, g2, ⟨h, R.h0 h, fun z => ?_, fun i z => ?_⟩, vs, upd_same, r.ext g2⟩
  · obtain ⟨o, e⟩ := R.pal p z
    rw [h] at e; cases e
  · obtain ⟨vs, e⟩ := R.own_some z
    rw [h] at e; cases e
theorem NewL.after {own1 : Own} {H1 : Hp} {env1 : En} (g : Grow C own H own1 H1) (k : ∀ a, H1 a = none → H a = none) (N : NewL K C own1 σ H1 env' xs own' a H') : NewL K C own σ H env' xs own' a H' := by
  obtain ⟨R, e, ⟨n1, n2⟩, r⟩ := N
  exact ⟨R, Ext.trans g e, ⟨k _ n1, n2⟩, r⟩
end
/-- what was there is still there -/
def Live (H H' : Hp) : Prop := ∀ a, H' a = none → H a = none
theorem Live.refl (H : Hp) : Live H H := fun _ h => h
theorem Live.trans {H H1 H2 : Hp} (a : Live H H1) (b : Live H1 H2) : Live H H2 := fun x h => a x (b x h)
theorem Live.of {H H' : Hp} (h : ∀ a o, H a = some o → ∃ o', H' a = some o') : Live H H' := fun a e => by
  cases q : H a with
  | none => rfl
  | some o =>
    obtain ⟨u, z⟩ := h a o q
    rw [e] at z; cases z
theorem Live.ext {H H' : Hp} (e : Ext H H') : Live H H' := .of fun a o h => ⟨o, e a o h⟩
section
variable {K : PySem.W.Frag} {C : Cn} {own own' : Own} {σ σ' : L2.St} {H H' : Hp} {env env' : En} {xs : List PyData} {a : Addr}
theorem RE.live (R : RE K C own σ H env) (R' : RE K (C.at own H) own' σ' H' env') : Live H H' := .of fun a o e => by
  by_cases z : ∃ i, own i = some a
  · exact R'.mal a z
  · exact ⟨o, R'.pres a o e z⟩
/-- SE and its kin with what stands told -/
theorem SE.all {t : TE} {f : Ev} (h : SE K t f) {w : Wv} (R : RE K C own σ H env) (q : f env = .ok (w, env')) (Q : VK)
    (k : ∀ own' v H', RE K C own' σ H' env' → Grow C own H own' H' → Wr K C own' σ H' v w → Keep own H H' → Live H H' → Q v H') : t σ H Q :=
  h (C.at own H) own σ H env w env' R.rebase q Q fun own' v H' R' g w' => k own' v H' (R.unbase R') g w' R'.keep (R.live R')
theorem SV.all {t : TE} {f : EvS} (h : SV K t f) {d : PyData} (R : RE K C own σ H env) (q : f env = .ok (d, env')) (Q : VK)
    (k : ∀ own' v H', RE K C own' σ H' env' → Grow C own H own' H' → Rp K (hh C own' H') v d → Keep own H H' → Live H H' → Q v H') : t σ H Q :=
  h (C.at own H) own σ H env d env' R.rebase q Q fun own' v H' R' g w' => k own' v H' (R.unbase R') g w' R'.keep (R.live R')
theorem ST.all {t : TT} {f : EvT} (h : ST K t f) {b : Bool} (R : RE K C own σ H env) (q : f env = .ok (b, env')) (Q : Bool → Hp → Prop)
    (k : ∀ own' H', RE K C own' σ H' env' → Grow C own H own' H' → Keep own H H' → Live H H' → Q b H') : t σ H Q :=
  h (C.at own H) own σ H env b env' R.rebase q Q fun own' H' R' g => k own' H' (R.unbase R') g R'.keep (R.live R')
theorem SL.all {t : TA} {f : EvL} (h : SL K t f) {ds : List PyData} (R : RE K C own σ H env) (q : f env = .ok (ds, env')) (Q : List V → Hp → Prop)
    (k : ∀ own' vs H', RE K C own' σ H' env' → Grow C own H own' H' → RpA K (hh C own' H') vs ds → Keep own H H' → Live H H' → Q vs H') : t σ H Q :=
  h (C.at own H) own σ H env ds env' R.rebase q Q fun own' v H' R' g w' => k own' v H' (R.unbase R') g w' R'.keep (R.live R')
theorem SA.all {t : TA} {f : EvA} (h : SA K t f) {ws : List Wv} (R : RE K C own σ H env) (q : f env = .ok (ws, env')) (Q : List V → Hp → Prop)
    (k : ∀ own' vs H', RE K C own' σ H' env' → Grow C own H own' H' → WrA K C own' σ H' vs ws → Keep own H H' → Live H H' → Q vs H') : t σ H Q :=
  h (C.at own H) own σ H env ws env' R.rebase q Q fun own' v H' R' g w' => k own' v H' (R.unbase R') g w' R'.keep (R.live R')
end
/-- new lists by rules whose answer is a list -/
def eLstF (f : EvL) : EvF := fun env => f env >>= fun p => if p.1.length ≤ 1000000 then .ok (p.1, p.2) else .bad
def asL : PyData → Res (List PyData)
  | .list xs => .ok xs
  | _ => .bad
theorem asL_eq {x : PyData} {xs : List PyData} (h : asL x = .ok xs) : x = .list xs := by
  cases x <;> first | (cases h; rfl) | cases h
def eCBF (op : List PyData → Res PyData) (f : EvA) : EvF := fun env => f env >>= fun p => rdA p.2 p.1 >>= fun ds => op ds >>= fun z => asL z >>= fun xs => .ok (xs, p.2)
def eBinF (op : PyData → PyData → Res PyData) (f g : Ev) : EvF := fun env =>
  f env >>= fun p => g p.2 >>= fun q => rd q.2 p.1 >>= fun x => rd q.2 q.1 >>= fun y => op x y >>= fun z => asL z >>= fun xs => .ok (xs, q.2)
def OCF (K : PySem.W.Frag) (r : List V → Hp → VK → Prop) (op : List PyData → Res PyData) : Prop :=
  ∀ C own σ env H vs ds xs, RE K C own σ H env → RpWA K (hh C own H) H vs ds → op ds = .ok (.list xs) →
    ∀ Q : VK, (∀ p ws, H p = none → RpA K (hh C own H) ws xs → Q (.ref p) (upd H p (.lst ws))) → r vs H Q
def O2F (K : PySem.W.Frag) (r : R2) (op : PyData → PyData → Res PyData) : Prop :=
  ∀ C own σ env H x y d e xs, RE K C own σ H env → RpW K (hh C own H) H x d → RpW K (hh C own H) H y e → op d e = .ok (.list xs) →
    ∀ Q : VK, (∀ p ws, H p = none → RpA K (hh C own H) ws xs → Q (.ref p) (upd H p (.lst ws))) → r x y H Q
section
variable {K : PySem.W.Frag} {ta tb te : TE} {f g : Ev}
theorem sf_lst {t : TA} {h : EvL} (ha : SL K t h) : SF K (tLst t) (eLstF h) := fun C own σ H env xs env' R q Q k => by
  obtain ⟨⟨ds, e1⟩, q1, q⟩ := bind_eq q
  split at q
  · rename_i hl
    cases q
    refine ha.all R q1 _ fun o1 vs H1 R1 g1 r1 _ l1 => ⟨by rw [r1.len]; exact sz hl, fun p hp => ?_⟩
    exact k o1 p _ ((R1.newL hp r1).after (env1 := e1) g1 l1)
  · cases q
theorem sf_cb {r : List V → Hp → VK → Prop} {op : List PyData → Res PyData} {t : TA} {h : EvA} (ha : SA K t h) (ho : OCF K r op) : SF K (tCB r t) (eCBF op h) := fun C own σ H env w env' R q Q k => by
  obtain ⟨⟨w1, e1⟩, q1, q⟩ := bind_eq q
  obtain ⟨x, q3, q⟩ := bind_eq q
  obtain ⟨z, q5, q⟩ := bind_eq q
  obtain ⟨xs, q6, q⟩ := bind_eq q
  cases q
  have ez := asL_eq q6
  subst ez
  refine ha.all R q1 _ fun o1 u H1 R1 g1 r1 _ l1 => ?_
  exact ho C o1 σ e1 H1 u x _ R1 (r1.get R1 q3) q5 Q fun p ws hp rp => k o1 p _ ((R1.newL hp rp).after (env1 := e1) g1 l1)
theorem sf_bin {r : R2} {op : PyData → PyData → Res PyData} (ha : SE K ta f) (hb : SE K tb g) (ho : O2F K r op) : SF K (tOp r ta tb) (eBinF op f g) := fun C own σ H env w env' R q Q k => by
  obtain ⟨⟨w1, e1⟩, q1, q⟩ := bind_eq q
  obtain ⟨⟨w2, e2⟩, q2, q⟩ := bind_eq q
  obtain ⟨x, q3, q⟩ := bind_eq q
  obtain ⟨y, q4, q⟩ := bind_eq q
  obtain ⟨z, q5, q⟩ := bind_eq q
  obtain ⟨xs, q6, q⟩ := bind_eq q
  cases q
  have ez := asL_eq q6
  subst ez
  refine ha.all R q1 _ fun o1 u H1 R1 g1 r1 _ l1 => ?_
  refine hb.all R1 q2 _ fun o2 v H2 R2 g2 r2 _ l2 => ?_
  exact ho C o2 σ e2 H2 u v x y _ R2 ((r1.grow g2).get R2 q3) (r2.get R2 q4) q5 Q fun p ws hp rp => k o2 p _ ((R2.newL hp rp).after (env1 := e2) (g1.trans g2) (l1.trans l2))
theorem ocf_list : OCF K (rListOf K) oList := fun C own σ env H vs ds xs R h q Q k => by
  unfold oList at q
  split at q
  · cases q
    obtain ⟨v, rfl, h1⟩ := h.one
    obtain ⟨a, ws, rfl, ha, ra⟩ := h1.lst (hh_ext C own H)
    exact ⟨a, ws, rfl, .inl (SqL.of ha), fun p hp => k p ws hp ra⟩
  · cases q
    obtain ⟨v, rfl, h1⟩ := h.one
    obtain ⟨a, ws, rfl, ha, ra, ha'⟩ := h1.tup (hh_ext C own H)
    exact ⟨a, ws, rfl, .inr ha, fun p hp => k p ws hp ra⟩
  · cases q
theorem map_int_inj : ∀ {xs ys : List Int}, xs.map PyData.int = ys.map PyData.int → xs = ys
  | [], [], _ => rfl
  | x :: xs, y :: ys, h => by
    simp only [List.map_cons, List.cons.injEq, PyData.int.injEq] at h
    rw [h.1, map_int_inj h.2]
  | [], _ :: _, h => by cases h
  | _ :: _, [], h => by cases h
theorem ocf_sorted : OCF K (rSortedI K) oSorted := fun C own σ env H vs ds xs R h q Q k => by
  unfold oSorted at q
  split at q
  · split at q
    · rename_i ns e
      cases q
      obtain ⟨v, rfl, h1⟩ := h.one
      obtain ⟨a, ws, rfl, ha, ra⟩ := h1.lst (hh_ext C own H)
      have e2 := ra.nums e
      subst e2
      refine ⟨a, ns, rfl, SqL.of ha, fun ns' p h1 h2 hp => ?_⟩
      have e3 : ns' = sortI ns := pw_uniq (h1.trans (sortI_perm ns).symm) h2 (sortI_pw ns)
      subst e3
      exact k p _ hp (RpA.of_nums (sortI ns))
    · cases q
  · cases q
theorem o2f_add : O2F K (rAdd K) oAdd := fun C own σ env H x y d e xs R h1 h2 q Q k => by
  unfold oAdd at q
  split at q
  · cases q
  · split at q
    · rename_i hl
      cases q
      obtain ⟨a, vs, rfl, ha, ra⟩ := h1.lst (hh_ext C own H)
      obtain ⟨b, ws, rfl, hb, rb⟩ := h2.lst (hh_ext C own H)
      exact .inr (.inl ⟨a, b, vs, ws, rfl, rfl, ha, hb, by rw [ra.len, rb.len]; exact sz hl, fun p hp => k p _ hp (ra.app rb)⟩)
    · cases q
  · split at q <;> cases q
  · cases q
theorem o2f_mul : O2F K rMul oMul := fun C own σ env H x y d e xs R h1 h2 q Q k => by
  unfold oMul at q
  split at q
  · split at q <;> cases q
  · split at q
    · rename_i xs j hc
      cases q
      obtain ⟨a, vs, rfl, ha, ra⟩ := h1.lst (hh_ext C own H)
      exact .inr ⟨a, j, vs, rfl, h2.int, ha, by omega, by omega, by rw [ra.len]; exact sz hc.2, fun p hp => k p _ hp (ra.rep j.toNat)⟩
    · cases q
  · cases q
end

/-! ### statements -/
inductive Fl where
  | nx | bk | ct
  | rt (d : PyData)
abbrev EvSt := En → Res (Fl × En)
def EndsOk (K : PySem.W.Frag) (C : Cn) (own : Own) (σ : L2.St) (H : Hp) (D : Ends) : Fl → Prop
  | .nx => D.nx σ H
  | .bk => D.bk σ H
  | .ct => D.ct σ H
  | .rt d => ∀ v, Rp K (hh C own H) v d → D.rt v H
def SS (K : PySem.W.Frag) (t : TS) (f : EvSt) : Prop :=
  ∀ C own σ H env fl env', RE K C own σ H env → f env = .ok (fl, env') → ∀ D : Ends, (∀ own' σ' H', RE K C own' σ' H' env' → Grow C own H own' H' → EndsOk K C own' σ' H' D fl) → t D σ H
structure XS (X : Cx) (st : Stmt) (t : TS) (f : EvSt) : Prop where
  ps : PS X st t
  ss : SS X.K t f
structure XB (X : Cx) (st : List Stmt) (t : TS) (f : EvSt) : Prop where
  ps : PSs X st t
  ss : SS X.K t f
def sSkip : EvSt := fun env => .ok (.nx, env)
def sSeq (f g : EvSt) : EvSt := fun env => f env >>= fun p => match p.1 with
  | .nx => g p.2
  | fl => .ok (fl, p.2)
def sRet (f : EvS) : EvSt := fun env => f env >>= fun p => .ok (.rt p.1, p.2)
def sIf (c : EvT) (f g : EvSt) : EvSt := fun env => c env >>= fun p => if p.1 = true then f p.2 else g p.2
def sDrop (f : Ev) : EvSt := fun env => f env >>= fun p => .ok (.nx, p.2)
def sBad : EvSt := fun _ => .bad
section
variable {K : PySem.W.Frag} {t u : TS} {f g : EvSt}
theorem ss_skip : SS K tNext sSkip := fun C own σ H env fl env' R q D k => by cases q; exact k own σ H R .refl
theorem ss_seq (h1 : SS K t f) (h2 : SS K u g) : SS K (tSeq t u) (sSeq f g) := fun C own σ H env fl env' R q D k => by
  obtain ⟨⟨fl1, e1⟩, q1, q⟩ := bind_eq q
  refine h1 C own σ H env fl1 e1 R q1 _ fun o1 σ1 H1 R1 g1 => ?_
  cases fl1 with
  | nx => exact h2 C o1 σ1 H1 e1 fl env' R1 q D fun o2 σ2 H2 R2 g2 => k o2 σ2 H2 R2 (g1.trans g2)
  | bk => cases q; exact k o1 σ1 H1 R1 g1
  | ct => cases q; exact k o1 σ1 H1 R1 g1
  | rt d => cases q; exact k o1 σ1 H1 R1 g1
theorem ss_ret {te : TE} {e : EvS} (h : SV K te e) : SS K (tRet te) (sRet e) := fun C own σ H env fl env' R q D k => by
  obtain ⟨⟨d, e1⟩, q1, q⟩ := bind_eq q
  cases q
  exact h C own σ H env d e1 R q1 _ fun o1 v H1 R1 g1 r1 => k o1 σ H1 R1 g1 v r1
theorem ss_retN : SS K tRetN (fun env => .ok (.rt .none, env)) := fun C own σ H env fl env' R q D k => by
  cases q
  exact k own σ H R .refl .non .non
theorem ss_if {tc : TT} {c : EvT} (hc : ST K tc c) (h1 : SS K t f) (h2 : SS K u g) : SS K (tIfS tc t u) (sIf c f g) := fun C own σ H env fl env' R q D k => by
  obtain ⟨⟨b, e1⟩, q1, q⟩ := bind_eq q
  refine hc C own σ H env b e1 R q1 _ fun o1 H1 R1 g1 => ?_
  cases b with
  | true => exact iteT (h1 C o1 σ H1 e1 fl env' R1 q D fun o2 σ2 H2 R2 g2 => k o2 σ2 H2 R2 (g1.trans g2))
  | false => exact iteF (h2 C o1 σ H1 e1 fl env' R1 q D fun o2 σ2 H2 R2 g2 => k o2 σ2 H2 R2 (g1.trans g2))
theorem ss_drop {te : TE} {e : Ev} (h : SE K te e) : SS K (tDrop te) (sDrop e) := fun C own σ H env fl env' R q D k => by
  obtain ⟨⟨d, e1⟩, q1, q⟩ := bind_eq q
  cases q
  exact h C own σ H env d e1 R q1 _ fun o1 v H1 R1 g1 r1 => k o1 σ H1 R1 g1
theorem ss_never : SS K tNever sBad := fun C own σ H env fl env' R q D k => by cases q
theorem ss_break : SS K tBreak (fun env => .ok (.bk, env)) := fun C own σ H env fl env' R q D k => by cases q; exact k own σ H R .refl
theorem ss_cont : SS K tCont (fun env => .ok (.ct, env)) := fun C own σ H env fl env' R q D k => by cases q; exact k own σ H R .refl
end

/-! ### targets -/
abbrev EvG := PyData → En → Res En
def SG (K : PySem.W.Frag) (g : TG) (f : EvG) : Prop :=
  ∀ C own σ H env d v env', RE K C own σ H env → Rp K (hh C own H) v d → f d env = .ok env' → ∀ Q : L2.St → Hp → Prop, (∀ own' σ' H', RE K C own' σ' H' env' → Grow C own H own' H' → Q σ' H') → g v σ H Q
structure XG (X : Cx) (tg : Expr) (g : TG) (f : EvG) : Prop where
  pg : PG X tg g
  sg : SG X.K g f
def put (i : Nat) (s : Sl) (env : En) : Res En := match env[i]? with
  | some (.io _) => .bad
  | some _ => .ok (env.set i s)
  | none => .bad
def gN (i : Nat) : EvG := fun d env => put i (.va d) env
section
variable {K : PySem.W.Frag} {C : Cn} {own : Own} {σ : L2.St} {H : Hp} {env env' : En}
theorem put_eq {i : Nat} {s : Sl} (h : put i s env = .ok env') : i < env.length ∧ env' = env.set i s ∧ ∀ xs, env[i]? ≠ some (.io xs) := by
  unfold put at h
  cases e : env[i]? with
  | none => rw [e] at h; cases h
  | some z =>
    rw [e] at h
    have hi := (List.getElem?_eq_some_iff.mp e).1
    cases z with
    | io xs => cases h
    | em => cases h; exact ⟨hi, rfl, fun xs q => nomatch q⟩
    | va d => cases h; exact ⟨hi, rfl, fun xs q => nomatch q⟩
    | ow ys => cases h; exact ⟨hi, rfl, fun xs q => nomatch q⟩
/-- the slot i given up -/
def Own.cut (own : Own) (i : Nat) : Own := fun j => if j = i then none else own j
theorem cut_some {own : Own} {i j : Nat} {a : Addr} (h : own.cut i j = some a) : j ≠ i ∧ own j = some a := by
  unfold Own.cut at h
  by_cases e : j = i
  · rw [if_pos e] at h; cases h
  · rw [if_neg e] at h; exact ⟨e, h⟩
theorem cut_ne {own : Own} {i j : Nat} (h : j ≠ i) : own.cut i j = own j := by unfold Own.cut; rw [if_neg h]
theorem cut_le {own : Own} {i : Nat} (a : Addr) (h : Hd C (own.cut i) a) : Hd C own a := by
  rcases h with h | ⟨j, h⟩
  · exact .inl h
  · exact .inr ⟨j, (cut_some h).2⟩
theorem set_other {i j : Nat} {s z : Sl} (hj : j ≠ i) (e : (env.set i s)[j]? = some z) : env[j]? = some z := by
  rwa [List.getElem?_set_ne (Ne.symm hj)] at e
/-- a value stored -/
theorem RE.store (R : RE K C own σ H env) {i : Nat} {d : PyData} {v : V} (h : put i (.va d) env = .ok env') (r : Rp K (hh C own H) v d) :
    RE K C (own.cut i) (σ.set i (some v)) H env' ∧ Grow C own H (own.cut i) H := by
  obtain ⟨hi, rfl, nio⟩ := put_eq h
  have g : Grow C own H (own.cut i) H := hdn_le cut_le
  have hσ : i < σ.length := by rw [R.len]; exact hi
  refine ⟨⟨by simpa using R.len, fun j k b e1 e2 => R.inj j k b (cut_some e1).2 (cut_some e2).2, fun j d' e => ?_, fun j ys e => ?_, fun j ys e => ?_, fun j b e => ?_, fun j b e => ?_, R.iom, R.pres, R.mal, R.pal⟩, g⟩
  · by_cases hj : j = i
    · subst hj
      rw [List.getElem?_set_self hi] at e
      cases e
      exact ⟨v, List.getElem?_set_self hσ, r.ext g⟩
    · obtain ⟨u, q1, q2⟩ := R.va j d' (set_other hj e)
      exact ⟨u, by rw [List.getElem?_set_ne (Ne.symm hj)]; exact q1, q2.ext g⟩
  · by_cases hj : j = i
    · subst hj
      rw [List.getElem?_set_self hi] at e
      cases e
    · obtain ⟨b, us, q1, q2, q3, q4, q5⟩ := R.ow j ys (set_other hj e)
      exact ⟨b, us, by rw [cut_ne hj]; exact q1, by rw [List.getElem?_set_ne (Ne.symm hj)]; exact q2, q3, q4.ext g, q5⟩
  · by_cases hj : j = i
    · subst hj
      rw [List.getElem?_set_self hi] at e
      cases e
    · obtain ⟨b, us, q1, q2, q3, q4, q5⟩ := R.io j ys (set_other hj e)
      exact ⟨b, us, by rw [cut_ne hj]; exact q1, q2, by rw [List.getElem?_set_ne (Ne.symm hj)]; exact q3, q4, q5.ext g⟩
  · obtain ⟨hj, e⟩ := cut_some e
    rw [List.getElem?_set_ne (Ne.symm hj)]
    exact R.only j b e
  · obtain ⟨ys, q⟩ := R.ios j b e
    have hj : j ≠ i := fun z => nio ys (z ▸ q)
    exact ⟨ys, by rw [List.getElem?_set_ne (Ne.symm hj)]; exact q⟩
theorem sg_name (i : Nat) : SG K (gName i) (gN i) := fun C own σ H env d v env' R r q Q k => by
  obtain ⟨R2, g2⟩ := R.store q r
  exact k _ _ H R2 g2
/-- the slot i owns a -/
def Own.add (own : Own) (i : Nat) (a : Addr) : Own := fun j => if j = i then some a else own j
theorem RE.storeNew' {own' : Own} {H' : Hp} {i : Nat} {xs : List PyData} {a : Addr} {vs : List V} {env1 : En} (R : RE K (C.hide [a]) own' σ H' env) (n2 : C.H0 a = none) (n4 : ¬ C.P a) (n3 : ∀ i, own' i ≠ some a) (h1 : H' a = some (.lst vs))
    (h2 : RpA K (hh (C.hide [a]) own' H') vs xs) (h : put i (.ow xs) env = .ok env1) :
    ∃ own2, RE K C own2 (σ.set i (some (.ref a))) H' env1 ∧ Ext (hh (C.hide [a]) own' H') (hh C own2 H') ∧ ∀ b, b ≠ a → ∀ j, own2 j = some b → ∃ j', own' j' = some b := by
  obtain ⟨hi, rfl, nio⟩ := put_eq h
  have hσ : i < σ.length := by rw [R.len]; exact hi
  let own2 : Own := (own'.cut i).add i a
  have same : ∀ {j}, j ≠ i → own2 j = own' j := fun {j} hj => by
    show (if j = i then some a else own'.cut i j) = _
    rw [if_neg hj, cut_ne hj]
  have here : own2 i = some a := by
    show (if i = i then some a else _) = _
    rw [if_pos rfl]
  have le : ∀ b, Hd C own2 b → Hd (C.hide [a]) own' b := fun b z => by
    rcases z with z | ⟨j, z⟩
    · exact .inl (.inl z)
    · by_cases hj : j = i
      · subst hj
        rw [here] at z
        cases z
        exact .inl (.inr (by simp))
      · rw [same hj] at z
        exact .inr ⟨j, z⟩
  have g : Ext (hh (C.hide [a]) own' H') (hh C own2 H') := hdn_le le
  refine ⟨own2, ⟨by simpa using R.len, fun j k b e1 e2 => ?_, fun j d' q => ?_, fun j ys q => ?_, fun j ys q => ?_, fun j b q => ?_, fun j b q => ?_, R.iom, R.pres, R.mal, fun a h => R.pal a (.inl h)⟩, g, fun b nb j z => ?_⟩
  · by_cases hj : j = i
    · by_cases hk : k = i
      · rw [hj, hk]
      · subst hj
        rw [here] at e1; cases e1
        rw [same hk] at e2
        exact absurd e2 (n3 k)
    · by_cases hk : k = i
      · subst hk
        rw [here] at e2; cases e2
        rw [same hj] at e1
        exact absurd e1 (n3 j)
      · rw [same hj] at e1
        rw [same hk] at e2
        exact R.inj j k b e1 e2
  · have hj : j ≠ i := fun z => by
      subst z
      rw [List.getElem?_set_self hi] at q
      cases q
    obtain ⟨u, q1, q2⟩ := R.va j d' (set_other hj q)
    exact ⟨u, by rw [List.getElem?_set_ne (Ne.symm hj)]; exact q1, q2.ext g⟩
  · by_cases hj : j = i
    · subst hj
      rw [List.getElem?_set_self hi] at q
      cases q
      exact ⟨a, vs, here, List.getElem?_set_self hσ, h1, h2.ext g, n4, .inr n2⟩
    · obtain ⟨b, us, q1, q2, q3, q4, q5, q6⟩ := R.ow j ys (set_other hj q)
      exact ⟨b, us, by rw [same hj]; exact q1, by rw [List.getElem?_set_ne (Ne.symm hj)]; exact q2, q3, q4.ext g, fun z => q5 (.inl z), q6⟩
  · have hj : j ≠ i := fun z => by
      subst z
      rw [List.getElem?_set_self hi] at q
      cases q
    obtain ⟨b, us, q1, q2, q3, q4, q5⟩ := R.io j ys (set_other hj q)
    exact ⟨b, us, by rw [same hj]; exact q1, q2, by rw [List.getElem?_set_ne (Ne.symm hj)]; exact q3, q4, q5.ext g⟩
  · by_cases hj : j = i
    · subst hj
      exact .inl ⟨xs, List.getElem?_set_self hi⟩
    · rw [same hj] at q
      rw [List.getElem?_set_ne (Ne.symm hj)]
      exact R.only j b q
  · obtain ⟨ys, z⟩ := R.ios j b q
    have hj : j ≠ i := fun w => nio ys (w ▸ z)
    exact ⟨ys, by rw [List.getElem?_set_ne (Ne.symm hj)]; exact z⟩
  · by_cases hj : j = i
    · subst hj
      rw [here] at z
      cases z
      exact absurd rfl nb
    · rw [same hj] at z
      exact ⟨j, z⟩
theorem RE.storeNew {own' : Own} {H' : Hp} {i : Nat} {xs : List PyData} {a : Addr} {env1 : En} (N : NewL K C own σ H env xs own' a H') (h : put i (.ow xs) env = .ok env1) :
    ∃ own2, RE K C own2 (σ.set i (some (.ref a))) H' env1 ∧ Grow C own H own2 H' := by
  obtain ⟨R, e, ⟨n1, n2, n4, n3⟩, vs, h1, h2⟩ := N
  obtain ⟨own2, R2, g2, _⟩ := RE.storeNew' R n2 n4 n3 h1 h2 h
  exact ⟨own2, R2, Ext.trans e g2⟩
end
/-- x = e -/
def sAsg (f : EvS) (g : EvG) : EvSt := fun env => f env >>= fun p => g p.1 p.2 >>= fun e => .ok (.nx, e)
/-- x = a new list that x will change -/
def sNew (f : EvF) (i : Nat) : EvSt := fun env => f env >>= fun p => put i (.ow p.1) p.2 >>= fun e => .ok (.nx, e)
section
variable {K : PySem.W.Frag}
theorem ss_asg {te : TE} {e : EvS} {g : TG} {gf : EvG} (h : SV K te e) (hg : SG K g gf) : SS K (tAsg te g) (sAsg e gf) := fun C own σ H env fl env' R q D k => by
  obtain ⟨⟨d, e1⟩, q1, q⟩ := bind_eq q
  obtain ⟨e2, q2, q⟩ := bind_eq q
  cases q
  refine h C own σ H env d e1 R q1 _ fun o1 v H1 R1 g1 r1 => ?_
  exact hg C o1 σ H1 e1 d v _ R1 r1 q2 _ fun o2 σ2 H2 R2 g2 => k o2 σ2 H2 R2 (g1.trans g2)
theorem ss_new {te : TE} {e : EvF} {i : Nat} (h : SF K te e) : SS K (tAsg te (gName i)) (sNew e i) := fun C own σ H env fl env' R q D k => by
  obtain ⟨⟨xs, e1⟩, q1, q⟩ := bind_eq q
  obtain ⟨e2, q2, q⟩ := bind_eq q
  cases q
  refine h C own σ H env xs e1 R q1 _ fun o1 a H1 N => ?_
  obtain ⟨R1, x1⟩ := N
  obtain ⟨own2, R2, g2⟩ := RE.storeNew (N := (⟨R1, x1⟩ : NewL K C own σ H e1 xs o1 a H1)) q2
  exact k own2 _ H1 R2 g2
end
end XL

namespace XL
open PySem PySem.Spec L2

/-! ### (a, b, ..) = -/
def gAll : List EvG → List PyData → En → Res En
  | [], [], env => .ok env
  | g :: gs, d :: ds, env => g d env >>= gAll gs ds
  | _, _, _ => .bad
def gT (gs : List EvG) : EvG := fun d env => match d with
  | .tuple xs => gAll gs xs env
  | _ => .bad
def SGs (K : PySem.W.Frag) (u : TGs) (gs : List EvG) : Prop :=
  ∀ C own σ H env ds vs env', RE K C own σ H env → RpA K (hh C own H) vs ds → gAll gs ds env = .ok env' → ∀ Q : L2.St → Hp → Prop, (∀ own' σ' H', RE K C own' σ' H' env' → Grow C own H own' H' → Q σ' H') → u vs σ H Q
structure XGs (X : Cx) (es : List Expr) (u : TGs) (gs : List EvG) : Prop where
  pg : PGs X es u
  sg : SGs X.K u gs
section
variable {K : PySem.W.Frag}
theorem sgs_nil : SGs K gNil [] := fun C own σ H env ds vs env' R r q Q k => by
  cases ds with
  | nil => cases r; cases q; exact ⟨rfl, k own σ H R .refl⟩
  | cons d ds => cases q
theorem sgs_cons {g : TG} {u : TGs} {f : EvG} {fs : List EvG} (h : SG K g f) (hs : SGs K u fs) : SGs K (gCons g u) (f :: fs) := fun C own σ H env ds vs env' R r q Q k => by
  cases ds with
  | nil => cases q
  | cons d ds =>
    cases r with
    | cons r1 r2 =>
      obtain ⟨e1, q1, q⟩ := bind_eq q
      refine ⟨_, _, rfl, h C own σ H env d _ e1 R r1 q1 _ fun o1 σ1 H1 R1 g1 => ?_⟩
      exact hs C o1 σ1 H1 e1 ds _ env' R1 (r2.ext g1) q Q fun o2 σ2 H2 R2 g2 => k o2 σ2 H2 R2 (g1.trans g2)
theorem sg_tup {u : TGs} {fs : List EvG} {n : Nat} (h : SGs K u fs) (hn : fs.length = n) : SG K (gTup K n u) (gT fs) := fun C own σ H env d v env' R r q Q k => by
  unfold gT at q
  split at q
  · rename_i xs
    cases r with
    | tup h1 h2 =>
      refine ⟨_, _, rfl, (hh_ext C own H).t h1, ?_, h C own σ H env xs _ env' R h2 q Q k⟩
      rw [h2.len, ← hn]
      have key : ∀ (fs : List EvG) (xs : List PyData) (e e' : En), gAll fs xs e = .ok e' → xs.length = fs.length := by
        intro fs
        induction fs with
        | nil => intro xs e e' z; cases xs with | nil => rfl | cons _ _ => cases z
        | cons f fs ih =>
          intro xs e e' z
          cases xs with
          | nil => cases z
          | cons x xs =>
            obtain ⟨e1, _, z⟩ := bind_eq z
            simp [ih xs e1 e' z]
      exact key fs xs env env' q
  · cases q
end

/-! ### lists that are changed -/
section
variable {K : PySem.W.Frag} {C : Cn} {own : Own} {σ : L2.St} {H : Hp} {env env' : En}
/-- the owned list of a slot -/
def own? (env : En) (i : Nat) : Res (List PyData) := match env[i]? with
  | some (.ow xs) => .ok xs
  | some (.io xs) => .ok xs
  | _ => .bad
/-- its new content -/
def reown (env : En) (i : Nat) (ys : List PyData) : En := match env[i]? with
  | some (.io _) => env.set i (.io ys)
  | _ => env.set i (.ow ys)
theorem RE.own? (R : RE K C own σ H env) {i : Nat} {xs : List PyData} (h : XL.own? env i = .ok xs) : ∃ a vs, own i = some a ∧ σ[i]? = some (some (.ref a)) ∧ H a = some (.lst vs) ∧ RpA K (hh C own H) vs xs := by
  unfold XL.own? at h
  split at h
  · rename_i ys e
    cases h
    obtain ⟨a, vs, h1, h2, h3, h4, _⟩ := R.ow i _ e
    exact ⟨a, vs, h1, h2, h3, h4⟩
  · rename_i ys e
    cases h
    obtain ⟨a, vs, h1, _, h2, h3, h4⟩ := R.io i _ e
    exact ⟨a, vs, h1, h2, h3, h4⟩
  · cases h
theorem RE.mut (R : RE K C own σ H env) {i : Nat} {xs ys : List PyData} {a : Addr} {ws : List V} (h : XL.own? env i = .ok xs) (ha : own i = some a) (r : RpA K (hh C own H) ws ys) :
    RE K C own σ (upd H a (.lst ws)) (reown env i ys) ∧ Grow C own H own (upd H a (.lst ws)) := by
  have hda : Hd C own a := .inr ⟨i, ha⟩
  have g : Grow C own H own (upd H a (.lst ws)) := fun b u q => by
    obtain ⟨q1, q2⟩ := hdn_some.mp q
    have ne : b ≠ a := fun z => q1 (z ▸ hda)
    exact hdn_some.mpr ⟨q1, by rw [upd_ne ne]; exact q2⟩
  have st : ∀ b, (∃ o, H b = some o) → ∃ u, upd H a (.lst ws) b = some u := fun b ⟨u, e⟩ => by
    by_cases z : b = a
    · subst z; exact ⟨_, upd_same⟩
    · exact ⟨u, by rw [upd_ne z]; exact e⟩
  have ne : ∀ {j b}, j ≠ i → own j = some b → b ≠ a := fun {j b} hj e z => hj (R.inj j i a (z ▸ e) ha)
  have lenR : (reown env i ys).length = env.length := by
    unfold reown
    split <;> simp
  have nodup : ∀ {j : Nat} {s : Sl}, j ≠ i → ((reown env i ys)[j]? = some s ↔ env[j]? = some s) := fun {j s} hj => by
    unfold reown
    split <;> rw [List.getElem?_set_ne (Ne.symm hj)]
  have mOr : C.M a ∨ C.H0 a = none := by
    rcases R.only i a ha with ⟨zs, e⟩ | ⟨zs, e⟩
    · obtain ⟨b, vs, h1, _, _, _, _, h6⟩ := R.ow i zs e
      rw [ha] at h1; cases h1; exact h6
    · obtain ⟨b, vs, h1, h2, _⟩ := R.io i zs e
      rw [ha] at h1; cases h1; exact .inl (R.iom i _ h2)
  refine ⟨⟨by rw [lenR]; exact R.len, R.inj, fun j d e => ?_, fun j zs e => ?_, fun j zs e => ?_, fun j b e => ?_, fun j b e => ?_, R.iom, fun b u e z => ?_, fun b e => st b (R.mal b e), fun b e => st b (R.pal b e)⟩, g⟩
  · have hj : j ≠ i := fun z => by
      subst z
      have hi : j < env.length := by rw [← lenR]; exact (List.getElem?_eq_some_iff.mp e).1
      unfold reown at e
      split at e <;> (rw [List.getElem?_set_self hi] at e; cases e)
    obtain ⟨v, q1, q2⟩ := R.va j d ((nodup hj).mp e)
    exact ⟨v, q1, q2.ext g⟩
  · by_cases hj : j = i
    · subst hj
      have hi : j < env.length := by rw [← lenR]; exact (List.getElem?_eq_some_iff.mp e).1
      unfold reown at e
      split at e
      · rw [List.getElem?_set_self hi] at e; cases e
      · rename_i nio
        rw [List.getElem?_set_self hi] at e
        cases e
        rcases R.only j a ha with ⟨us, q⟩ | ⟨us, q⟩
        · obtain ⟨b, vs, h1, h2, h3, h4, h5, h6⟩ := R.ow j us q
          rw [ha] at h1; cases h1
          exact ⟨a, ws, ha, h2, upd_same, r.ext g, h5, h6⟩
        · exact absurd q (nio us)
    · obtain ⟨b, vs, h1, h2, h3, h4, h5⟩ := R.ow j zs ((nodup hj).mp e)
      exact ⟨b, vs, h1, h2, by rw [upd_ne (ne hj h1)]; exact h3, h4.ext g, h5⟩
  · by_cases hj : j = i
    · subst hj
      have hi : j < env.length := by rw [← lenR]; exact (List.getElem?_eq_some_iff.mp e).1
      unfold reown at e
      split at e
      · rename_i us q
        rw [List.getElem?_set_self hi] at e
        cases e
        obtain ⟨b, vs, h1, h2, h3, h4, h5⟩ := R.io j _ q
        rw [ha] at h1; cases h1
        exact ⟨a, ws, ha, h2, h3, upd_same, r.ext g⟩
      · rw [List.getElem?_set_self hi] at e; cases e
    · obtain ⟨b, vs, h1, h2, h3, h4, h5⟩ := R.io j zs ((nodup hj).mp e)
      exact ⟨b, vs, h1, h2, h3, by rw [upd_ne (ne hj h1)]; exact h4, h5.ext g⟩
  · by_cases hj : j = i
    · subst hj
      have hi : j < env.length := by
        rcases R.only j b e with ⟨us, q⟩ | ⟨us, q⟩ <;> exact (List.getElem?_eq_some_iff.mp q).1
      unfold reown
      split
      · exact .inr ⟨ys, List.getElem?_set_self hi⟩
      · exact .inl ⟨ys, List.getElem?_set_self hi⟩
    · rcases R.only j b e with ⟨us, q⟩ | ⟨us, q⟩
      · exact .inl ⟨us, (nodup hj).mpr q⟩
      · exact .inr ⟨us, (nodup hj).mpr q⟩
  · obtain ⟨us, q⟩ := R.ios j b e
    by_cases hj : j = i
    · subst hj
      have hi : j < env.length := (List.getElem?_eq_some_iff.mp q).1
      unfold reown
      rw [q]
      exact ⟨ys, List.getElem?_set_self hi⟩
    · exact ⟨us, (nodup hj).mpr q⟩
  · have nb : b ≠ a := fun w => by
      subst w
      rcases mOr with w | w
      · exact z w
      · rw [e] at w; cases w
    rw [upd_ne nb]
    exact R.pres b u e z
end
/-- x[k] = v -/
def gX (i : Nat) (fi : Ev) : EvG := fun d env => own? env i >>= fun _ => fi env >>= fun p => rd p.2 p.1 >>= fun x => asI x >>= fun k => own? p.2 i >>= fun xs => match ixN xs.length k with
  | some j => .ok (reown p.2 i (xs.set j d))
  | none => .bad
/-- x.append(v) -/
def sApp (i : Nat) (f : EvS) : EvSt := fun env => own? env i >>= fun _ => f env >>= fun p => own? p.2 i >>= fun xs => if xs.length < 1000000 then .ok (.nx, reown p.2 i (xs ++ [p.1])) else .bad
/-- x.extend(ys) -/
def sExt (i : Nat) (f : Ev) : EvSt := fun env => own? env i >>= fun _ => f env >>= fun p => rd p.2 p.1 >>= fun d => asL d >>= fun ys => own? p.2 i >>= fun xs =>
  if xs.length + ys.length ≤ 1000000 then .ok (.nx, reown p.2 i (xs ++ ys)) else .bad
/-- x.pop() -/
def ePop (i : Nat) : Ev := fun env => own? env i >>= fun xs => match xs[xs.length - 1]? with
  | some d => .ok (.d d, reown env i xs.dropLast)
  | none => .bad
/-- x.pop(k) -/
def ePopAt (i : Nat) (fi : Ev) : Ev := fun env => own? env i >>= fun _ => fi env >>= fun p => rd p.2 p.1 >>= fun x => asI x >>= fun k => own? p.2 i >>= fun xs =>
  if 0 ≤ k ∧ k < 1000000 then match xs[k.toNat]? with
    | some d => .ok (.d d, reown p.2 i (xs.eraseIdx k.toNat))
    | none => .bad
  else .bad
section
variable {K : PySem.W.Frag}
theorem RpA.last {H : Hp} : ∀ {vs : List V} {ds : List PyData}, RpA K H vs ds → RpA K H vs.dropLast ds.dropLast
  | _, [], h => by cases h; exact .nil
  | _, [d], h => by cases h with | cons h1 h2 => cases h2; exact .nil
  | _, d :: e :: ds, h => by
    cases h with
    | cons h1 h2 =>
      cases h2 with
      | cons h2 h3 => exact .cons h1 (RpA.last (.cons h2 h3))
theorem RpA.erase {H : Hp} : ∀ {vs : List V} {ds : List PyData} (n : Nat), RpA K H vs ds → RpA K H (vs.eraseIdx n) (ds.eraseIdx n)
  | _, [], n, h => by cases h; exact .nil
  | _, d :: ds, 0, h => by cases h with | cons h1 h2 => exact h2
  | _, d :: ds, n + 1, h => by cases h with | cons h1 h2 => exact .cons h1 (RpA.erase n h2)
theorem sg_sub {i : Nat} {ti : TE} {fi : Ev} (hi : SE K ti fi) : SG K (gSub (tVar i) ti rSetL) (gX i fi) := fun C own σ H env d v env' R r q Q k => by
  obtain ⟨xs0, q0, q⟩ := bind_eq q
  obtain ⟨⟨w, e1⟩, q1, q⟩ := bind_eq q
  obtain ⟨x, q2, q⟩ := bind_eq q
  obtain ⟨n, q3, q⟩ := bind_eq q
  obtain ⟨xs, q4, q⟩ := bind_eq q
  split at q
  · rename_i j hj
    cases q
    obtain ⟨a0, vs0, _, hu, _⟩ := R.own? q0
    refine ⟨.ref a0, hu, hi.all R q1 _ fun o1 y H1 R1 g1 r1 _ _ => ?_⟩
    obtain ⟨a, vs, e1', e2, e3, e4⟩ := R1.own? q4
    rw [hu] at e2; cases e2
    have ry := r1.get R1 q2
    rw [asI_eq q3] at ry
    refine ⟨a0, vs, n, j, rfl, ry.int, e3, by rw [e4.len]; exact hj, ?_⟩
    obtain ⟨R2, g2⟩ := R1.mut q4 e1' (e4.set j (r.ext g1))
    exact k o1 σ _ R2 (g1.trans g2)
  · cases q
theorem szl {n : Nat} (h : n < 1000000) : n < sizeLine := Nat.lt_of_lt_of_le h (by decide)
theorem ss_app {i : Nat} {te : TE} {f : EvS} (h : SV K te f) : SS K (tDrop (tBM K "list" rAppend (tVar i) (tCons te tNil))) (sApp i f) := fun C own σ H env fl env' R q D k => by
  obtain ⟨xs0, q0, q⟩ := bind_eq q
  obtain ⟨⟨d, e1⟩, q1, q⟩ := bind_eq q
  obtain ⟨xs, q2, q⟩ := bind_eq q
  split at q
  · rename_i hl
    cases q
    obtain ⟨a0, vs0, _, hu, hu2, _⟩ := R.own? q0
    refine ⟨.ref a0, hu, .inl ⟨rfl, _, SqL.of hu2⟩, h.all R q1 _ fun o1 v H1 R1 g1 r1 _ _ => ?_⟩
    obtain ⟨a, vs, e1', e2, e3, e4⟩ := R1.own? q2
    rw [hu] at e2; cases e2
    refine ⟨a0, vs, v, rfl, rfl, e3, by rw [e4.len]; exact szl hl, ?_⟩
    obtain ⟨R2, g2⟩ := R1.mut q2 e1' (e4.app (.cons r1 .nil))
    exact k o1 σ _ R2 (g1.trans g2)
  · cases q
theorem ss_ext {i : Nat} {te : TE} {f : Ev} (h : SE K te f) : SS K (tDrop (tBM K "list" rExtend (tVar i) (tCons te tNil))) (sExt i f) := fun C own σ H env fl env' R q D k => by
  obtain ⟨xs0, q0, q⟩ := bind_eq q
  obtain ⟨⟨w, e1⟩, q1, q⟩ := bind_eq q
  obtain ⟨d, q3, q⟩ := bind_eq q
  obtain ⟨ys, q4, q⟩ := bind_eq q
  obtain ⟨xs, q2, q⟩ := bind_eq q
  split at q
  · rename_i hl
    cases q
    obtain ⟨a0, vs0, _, hu, hu2, _⟩ := R.own? q0
    refine ⟨.ref a0, hu, .inl ⟨rfl, _, SqL.of hu2⟩, h.all R q1 _ fun o1 v H1 R1 g1 r1 _ _ => ?_⟩
    obtain ⟨a, vs, e1', e2, e3, e4⟩ := R1.own? q2
    rw [hu] at e2; cases e2
    have ry := r1.get R1 q3
    rw [asL_eq q4] at ry
    obtain ⟨b, ws, rfl, hb, rb⟩ := ry.lst (hh_ext C o1 H1)
    refine ⟨a0, b, vs, ws, rfl, rfl, e3, hb, by rw [e4.len, rb.len]; exact sz hl, ?_⟩
    obtain ⟨R2, g2⟩ := R1.mut q2 e1' (e4.app rb)
    exact k o1 σ _ R2 (g1.trans g2)
  · cases q
theorem se_pop {i : Nat} : SE K (tBM0 K "list" rPop (tVar i)) (ePop i) := fun C own σ H env w env' R q Q k => by
  obtain ⟨xs, q0, q⟩ := bind_eq q
  split at q
  · rename_i d hd
    cases q
    obtain ⟨a, vs, h0, hu, hu2, ra⟩ := R.own? q0
    obtain ⟨v, hv, rv⟩ := ra.get hd
    refine ⟨.ref a, hu, .inl ⟨rfl, _, SqL.of hu2⟩, a, vs, v, rfl, rfl, hu2, by rw [ra.len]; exact hv, ?_⟩
    obtain ⟨R2, g2⟩ := R.mut q0 h0 ra.last
    exact k own v _ R2 g2 (rv.ext g2)
  · cases q
theorem seqIx {k : Int} {n : Nat} (h0 : 0 ≤ k) (h : k.toNat < n) : seqIndex? k n = some k.toNat := by
  have e : ixN n k = some k.toNat := by
    unfold ixN
    rw [if_pos h0, if_pos (by omega)]
  exact (ixN_seq e).1
theorem se_popAt {i : Nat} {ti : TE} {fi : Ev} (hi : SE K ti fi) : SE K (tBM K "list" rPopAt (tVar i) (tCons ti tNil)) (ePopAt i fi) := fun C own σ H env w env' R q Q k => by
  obtain ⟨xs0, q0, q⟩ := bind_eq q
  obtain ⟨⟨w1, e1⟩, q1, q⟩ := bind_eq q
  obtain ⟨x, q3, q⟩ := bind_eq q
  obtain ⟨n, q4, q⟩ := bind_eq q
  obtain ⟨xs, q2, q⟩ := bind_eq q
  split at q
  · rename_i hn
    split at q
    · rename_i d hd
      cases q
      obtain ⟨a0, vs0, _, hu, hu2, _⟩ := R.own? q0
      refine ⟨.ref a0, hu, .inl ⟨rfl, _, SqL.of hu2⟩, hi.all R q1 _ fun o1 v H1 R1 g1 r1 _ _ => ?_⟩
      obtain ⟨a, vs, e1', e2, e3, e4⟩ := R1.own? q2
      rw [hu] at e2; cases e2
      have ry := r1.get R1 q3
      rw [asI_eq q4] at ry
      obtain ⟨u, hv, rv⟩ := e4.get hd
      have hl : n.toNat < vs.length := (List.getElem?_eq_some_iff.mp hv).1
      refine ⟨a0, vs, n, n.toNat, u, rfl, by rw [ry.int], e3, by omega, by omega, seqIx hn.1 hl, hv, ?_⟩
      obtain ⟨R2, g2⟩ := R1.mut q2 e1' (e4.erase n.toNat)
      exact k o1 u _ R2 (g1.trans g2) (rv.ext g2)
    · cases q
  · cases q
end

/-! ### what is walked -/
abbrev EvI := En → Res (List PyData × En)
/-- J gives the items, as long as Hv stands -/
def Yl (K : PySem.W.Frag) (Hv : Hp) (J : It) (ds : List PyData) : Prop :=
  ∀ C own σ H env, RE K C own σ H env → Ext Hv (hh C own H) →
    (∀ (i : Nat) d, ds[i]? = some d → J.go i H ∧ ∀ x H', J.yld i H x H' → Ext H H' ∧ Rp K (hh C own H') x d) ∧ J.stop ds.length H
def SI (K : PySem.W.Frag) (wi : TI) (f : EvI) : Prop :=
  ∀ C own σ H env ds env', RE K C own σ H env → f env = .ok (ds, env') → ∀ R : It → Hp → Prop, (∀ own' J H', RE K C own' σ H' env' → Grow C own H own' H' → Yl K (hh C own' H') J ds → R J H') → wi σ H R
structure XI (X : Cx) (tg iter : Expr) (wi : TI) (f : EvI) : Prop where
  pi : PI X tg iter wi
  si : SI X.K wi f
theorem pi_or {X : Cx} {tg iter : Expr} {w1 w2 : TI} (h1 : PI X tg iter w1) (h2 : PI X tg iter w2) : PI X tg iter (fun σ H R => w1 σ H R ∨ w2 σ H R) :=
  ⟨fun pins s σ H R I h => h.elim (h1.run pins s σ H R I) (h2.run pins s σ H R I)⟩
def iSeq (f : EvS) : EvI := fun env => f env >>= fun p => match p.1 with
  | .list xs => .ok (xs, p.2)
  | .tuple xs => .ok (xs, p.2)
  | _ => .bad
def rangeD (lo hi : Int) : List PyData := (List.range (hi - lo).toNat).map fun i => .int (lo + (i : Nat))
def iR1 (f : Ev) : EvI := fun env => f env >>= fun p => rd p.2 p.1 >>= asI >>= fun n => if -1000000000000 ≤ n ∧ n ≤ 1000000000000 then .ok (rangeD 0 n, p.2) else .bad
def iR2 (f g : Ev) : EvI := fun env => f env >>= fun p => g p.2 >>= fun q => rd q.2 p.1 >>= asI >>= fun n => rd q.2 q.1 >>= asI >>= fun m =>
  if (-1000000000000 ≤ n ∧ n ≤ 1000000000000) ∧ -1000000000000 ≤ m ∧ m ≤ 1000000000000 then .ok (rangeD n m, q.2) else .bad
/-- zip of two lists or of two tuples -/
def zipD (xs ys : List PyData) : List PyData := (xs.zip ys).map fun p => .tuple [p.1, p.2]
def iZip' (f : EvL) : EvI := fun env => f env >>= fun p => match p.1 with
  | [.list xs, .list ys] => .ok (zipD xs ys, p.2)
  | [.tuple xs, .tuple ys] => .ok (zipD xs ys, p.2)
  | _ => .bad
def enumD (xs : List PyData) : List PyData := (List.range xs.length).zip xs |>.map fun p => .tuple [.int p.1, p.2]
def iEn (f : EvL) : EvI := fun env => f env >>= fun p => match p.1 with
  | [.list xs] => .ok (enumD xs, p.2)
  | _ => .bad
section
variable {K : PySem.W.Frag}
theorem yl_list {Hv : Hp} {a : Addr} {vs : List V} {ds : List PyData} (h : Hv a = some (.lst vs)) (r : RpA K Hv vs ds) : Yl K Hv (Itl K a) ds := fun C own σ H env R e => by
  have hq : SqL K H a vs := SqL.of (hh_ext C own H a _ (e a _ h))
  refine ⟨fun i d hd => ?_, ⟨vs, hq, by rw [r.len]; exact Nat.le_refl _⟩⟩
  obtain ⟨v, hv, rv⟩ := r.get hd
  refine ⟨⟨vs, v, hq, hv⟩, fun x H' ⟨e1, e2⟩ => ?_⟩
  subst e1
  have e3 := e2 vs hq
  rw [hv] at e3; cases e3
  exact ⟨Ext.refl _, rv.ext e⟩
theorem yl_tup {Hv : Hp} {a : Addr} {vs : List V} {ds : List PyData} (h : SqT K Hv a vs) (r : RpA K Hv vs ds) : Yl K Hv (Itt K a) ds := fun C own σ H env R e => by
  have hq : SqT K H a vs := (hh_ext C own H).t (e.t h)
  refine ⟨fun i d hd => ?_, ⟨vs, hq, by rw [r.len]; exact Nat.le_refl _⟩⟩
  obtain ⟨v, hv, rv⟩ := r.get hd
  refine ⟨⟨vs, v, hq, hv⟩, fun x H' ⟨e1, e2⟩ => ?_⟩
  subst e1
  have e3 := e2 vs hq
  rw [hv] at e3; cases e3
  exact ⟨Ext.refl _, rv.ext e⟩
theorem yl_range {Hv : Hp} (lo hi : Int) : Yl K Hv (Itr lo (hi - lo).toNat) (rangeD lo hi) := fun C own σ H env R e => by
  unfold rangeD
  refine ⟨fun i d hd => ?_, by show (hi - lo).toNat ≤ _; simp⟩
  rw [List.getElem?_map] at hd
  obtain ⟨j, h1, h2⟩ := Option.map_eq_some_iff.mp hd
  have hi' : i < (hi - lo).toNat := by
    have := (List.getElem?_eq_some_iff.mp h1).1
    simpa using this
  have : j = i := by
    rw [List.getElem?_range hi'] at h1
    exact (Option.some.inj h1).symm
  subst this
  subst h2
  refine ⟨hi', fun x H' ⟨e1, e2⟩ => ?_⟩
  subst e1 e2
  exact ⟨Ext.refl _, .int _⟩
theorem si_seq {te : TE} {f : EvS} (h : SV K te f) : SI K (fun σ H R => iList K te σ H R ∨ iTup K te σ H R) (iSeq f) := fun C own σ H env ds env' R q Q k => by
  obtain ⟨⟨d, e1⟩, q1, q⟩ := bind_eq q
  split at q
  · rename_i xs hx
    cases q
    have hx : d = .list ds := hx
    subst hx
    refine .inl (h C own σ H env _ e1 R q1 _ fun o1 v H1 R1 g1 r1 => ?_)
    cases r1 with
    | lst h1 h2 => exact ⟨_, rfl, ⟨_, SqL.of (hh_ext C o1 H1 _ _ h1)⟩, k o1 _ H1 R1 g1 (yl_list h1 h2)⟩
  · rename_i xs hx
    cases q
    have hx : d = .tuple ds := hx
    subst hx
    refine .inr (h C own σ H env _ e1 R q1 _ fun o1 v H1 R1 g1 r1 => ?_)
    cases r1 with
    | tup h1 h2 => exact ⟨_, rfl, ⟨_, (hh_ext C o1 H1).t h1⟩, k o1 _ H1 R1 g1 (yl_tup h1 h2)⟩
  · cases q
theorem si_range1 {te : TE} {f : Ev} (h : SE K te f) : SI K (iRng1 (tCons te tNil)) (iR1 f) := fun C own σ H env ds env' R q Q k => by
  obtain ⟨⟨w, e1⟩, q1, q⟩ := bind_eq q
  obtain ⟨n, q2, q⟩ := bind_eq q
  obtain ⟨x, q3, q2⟩ := bind_eq q2
  split at q
  · rename_i hn
    cases q
    refine h C own σ H env w e1 R q1 _ fun o1 v H1 R1 g1 r1 => ?_
    have rx := r1.get R1 q3
    rw [asI_eq q2] at rx
    refine ⟨n, by rw [rx.int], by omega, by omega, ?_⟩
    have y := yl_range (K := K) (Hv := hh C o1 H1) 0 n
    rw [Int.sub_zero] at y
    exact k o1 _ H1 R1 g1 y
  · cases q
theorem si_range2 {ta tb : TE} {f g : Ev} (ha : SE K ta f) (hb : SE K tb g) : SI K (iRng2 (tCons ta (tCons tb tNil))) (iR2 f g) := fun C own σ H env ds env' R q Q k => by
  obtain ⟨⟨w, e1⟩, q1, q⟩ := bind_eq q
  obtain ⟨⟨w2, e2⟩, q2, q⟩ := bind_eq q
  obtain ⟨n, q3, q⟩ := bind_eq q
  obtain ⟨x, q4, q3⟩ := bind_eq q3
  obtain ⟨m, q5, q⟩ := bind_eq q
  obtain ⟨y, q6, q5⟩ := bind_eq q5
  split at q
  · rename_i hn
    cases q
    refine ha C own σ H env w e1 R q1 _ fun o1 v H1 R1 g1 r1 => ?_
    refine hb C o1 σ H1 e1 w2 e2 R1 q2 _ fun o2 u H2 R2 g2 r2 => ?_
    have rx := (r1.grow g2).get R2 q4
    rw [asI_eq q3] at rx
    have ry := r2.get R2 q6
    rw [asI_eq q5] at ry
    exact ⟨n, m, by rw [rx.int, ry.int], ⟨by omega, by omega, by omega, by omega⟩, k o2 _ H2 R2 (g1.trans g2) (yl_range n m)⟩
  · cases q
end

/-! ### for -/
def forD (g : EvG) (body : EvSt) : List PyData → En → Res (Fl × En)
  | [], env => .ok (.nx, env)
  | d :: ds, env => g d env >>= body >>= fun p => match p.1 with
    | .nx => forD g body ds p.2
    | .ct => forD g body ds p.2
    | .bk => .ok (.nx, p.2)
    | .rt v => .ok (.rt v, p.2)
def sFor (it : EvI) (g : EvG) (body : EvSt) : EvSt := fun env => it env >>= fun p => forD g body p.1 p.2
section
variable {K : PySem.W.Frag}
theorem ss_for {wi : TI} {g : TG} {tb : TS} {it : EvI} {gf : EvG} {body : EvSt} (hi : SI K wi it) (hg : SG K g gf) (hb : SS K tb body) : SS K (tFor wi g tb) (sFor it gf body) := fun C own σ H env fl env' R q D k => by
  obtain ⟨⟨ds, e1⟩, q1, q⟩ := bind_eq q
  refine hi C own σ H env ds e1 R q1 _ fun o1 J H1 R1 g1 Y => ?_
  refine ⟨fun i m σ2 H2 => m = ds.length - i ∧ i ≤ ds.length ∧ ∃ own2 env2, RE K C own2 σ2 H2 env2 ∧ Grow C o1 H1 own2 H2 ∧ forD gf body (ds.drop i) env2 = .ok (fl, env'), ⟨ds.length, by simp, Nat.zero_le _, o1, e1, R1, .refl, by simpa using q⟩, ?_⟩
  rintro i m σ2 H2 ⟨rfl, hi', own2, env2, R2, g2, q2⟩
  obtain ⟨yi, ystop⟩ := Y C own2 σ2 H2 env2 R2 g2
  by_cases hlt : i < ds.length
  · have hd : ds[i]? = some ds[i] := List.getElem?_eq_getElem hlt
    obtain ⟨hgo, hy⟩ := yi i _ hd
    rw [List.drop_eq_getElem_cons hlt] at q2
    obtain ⟨⟨f3, e3⟩, q3, q4⟩ := bind_eq q2
    obtain ⟨e2, q5, q3⟩ := bind_eq q3
    refine .inr ⟨hgo, fun σ3 H3 => ∃ own3, RE K C own3 σ3 H3 e3 ∧ Grow C o1 H1 own3 H3 ∧ forD gf body (ds.drop (i + 1)) e3 = .ok (fl, env'), fun σ3 H3 ⟨own3, R3, g3, q6⟩ => ?_, fun x H' y => ?_⟩
    · exact ⟨ds.length - (i + 1), by omega, rfl, hlt, own3, e3, R3, g3, q6⟩
    · obtain ⟨ex, rx⟩ := hy x H' y
      obtain ⟨R3, g3⟩ := R2.up ex
      refine hg C own2 σ2 H' env2 _ x e2 R3 rx q5 _ fun o4 σ4 H4 R4 g4 => ?_
      refine hb C o4 σ4 H4 e2 f3 e3 R4 q3 _ fun o5 σ5 H5 R5 g5 => ?_
      have gg : Grow C o1 H1 o5 H5 := ((g2.trans g3).trans g4).trans g5
      cases f3 with
      | nx => exact ⟨o5, R5, gg, q4⟩
      | ct => exact ⟨o5, R5, gg, q4⟩
      | bk => cases q4; exact k o5 σ5 H5 R5 (g1.trans gg)
      | rt v => cases q4; exact k o5 σ5 H5 R5 (g1.trans gg)
  · have e : i = ds.length := by omega
    subst e
    rw [List.drop_length] at q2
    cases q2
    exact .inl ⟨ystop, k own2 σ2 H2 R2 (g1.trans g2)⟩
end

/-! ### while -/
def whN (c : EvT) (body : EvSt) : Nat → En → Res (Fl × En)
  | 0, _ => .bad
  | n + 1, env => c env >>= fun p => if p.1 = true then body p.2 >>= fun q => match q.1 with
      | .nx => whN c body n q.2
      | .ct => whN c body n q.2
      | .bk => .ok (.nx, q.2)
      | .rt v => .ok (.rt v, q.2)
    else .ok (.nx, p.2)
open Classical in
noncomputable def sWhile (c : EvT) (body : EvSt) : EvSt := fun env => if h : ∃ n r, whN c body n env = .ok r then .ok (h.choose_spec.choose) else .bad
theorem whN_mono {c : EvT} {body : EvSt} : ∀ {n : Nat} {env : En} {r : Fl × En}, whN c body n env = .ok r → ∀ m, n ≤ m → whN c body m env = .ok r
  | 0, _, _, h, _, _ => by cases h
  | n + 1, env, r, h, m, hm => by
    obtain ⟨m, rfl⟩ : ∃ k, m = k + 1 := ⟨m - 1, by omega⟩
    obtain ⟨⟨b, e1⟩, q1, q⟩ := bind_eq h
    unfold whN
    rw [q1]
    cases b with
    | false => exact q
    | true =>
      obtain ⟨⟨fl, e2⟩, q2, q⟩ := bind_eq q
      show (body e1 >>= _) = _
      rw [q2]
      cases fl with
      | nx => exact whN_mono (n := n) q m (by omega)
      | ct => exact whN_mono (n := n) q m (by omega)
      | bk => exact q
      | rt v => exact q
theorem sWhile_of {c : EvT} {body : EvSt} {n : Nat} {env : En} {r : Fl × En} (h : whN c body n env = .ok r) : sWhile c body env = .ok r := by
  unfold sWhile
  have hx : ∃ n r, whN c body n env = .ok r := ⟨n, r, h⟩
  rw [dif_pos hx]
  have h2 := hx.choose_spec.choose_spec
  have h3 := whN_mono h (max n hx.choose) (Nat.le_max_left _ _)
  have h4 := whN_mono h2 (max n hx.choose) (Nat.le_max_right _ _)
  rw [h3] at h4
  exact h4.symm
theorem of_sWhile {c : EvT} {body : EvSt} {env : En} {r : Fl × En} (h : sWhile c body env = .ok r) : ∃ n, whN c body n env = .ok r := by
  unfold sWhile at h
  split at h
  · rename_i hx
    cases h
    exact ⟨hx.choose, hx.choose_spec.choose_spec⟩
  · cases h
section
variable {K : PySem.W.Frag}
theorem ss_while {tc : TT} {tb : TS} {c : EvT} {body : EvSt} (hc : ST K tc c) (hb : SS K tb body) : SS K (tWhile tc tb) (sWhile c body) := fun C own σ H env fl env' R q D k => by
  obtain ⟨n, q⟩ := of_sWhile q
  refine ⟨fun m σ2 H2 => ∃ own2 env2, RE K C own2 σ2 H2 env2 ∧ Grow C own H own2 H2 ∧ whN c body m env2 = .ok (fl, env'), ⟨n, own, env, R, .refl, q⟩, ?_⟩
  rintro m σ2 H2 ⟨own2, env2, R2, g2, q2⟩
  cases m with
  | zero => cases q2
  | succ m =>
    obtain ⟨⟨b, e1⟩, q1, q3⟩ := bind_eq q2
    refine hc C own2 σ2 H2 env2 b e1 R2 q1 _ fun o3 H3 R3 g3 => ?_
    cases b with
    | false => cases q3; exact iteF (k o3 σ2 H3 R3 (g2.trans g3))
    | true =>
      obtain ⟨⟨f4, e4⟩, q4, q5⟩ := bind_eq q3
      refine iteT ⟨fun σ' H' => ∃ own' , RE K C own' σ' H' e4 ∧ Grow C own H own' H' ∧ whN c body m e4 = .ok (fl, env'), fun σ' H' ⟨own', R', g', q'⟩ => ⟨m, Nat.lt_succ_self _, own', e4, R', g', q'⟩, ?_⟩
      refine hb C o3 σ2 H3 e1 f4 e4 R3 q4 _ fun o5 σ5 H5 R5 g5 => ?_
      have gg : Grow C own H o5 H5 := (g2.trans g3).trans g5
      cases f4 with
      | nx => exact ⟨o5, R5, gg, q5⟩
      | ct => exact ⟨o5, R5, gg, q5⟩
      | bk => cases q5; exact k o5 σ5 H5 R5 gg
      | rt v => cases q5; exact k o5 σ5 H5 R5 gg
end
end XL

namespace XL
open PySem PySem.Spec L2

/-! ### targets whose slots are told -/
def SGw (K : PySem.W.Frag) (g : TG) (f : EvG) (vs : List Nat) : Prop :=
  ∀ C own σ H env d v env', RE K C own σ H env → Rp K (hh C own H) v d → f d env = .ok env' → ∀ Q : L2.St → Hp → Prop,
    (∀ own' σ' H', RE K C own' σ' H' env' → Grow C own H own' H' → H' = H → σ'.length = σ.length → (∀ j, j ∉ vs → σ'[j]? = σ[j]?) → Q σ' H') → g v σ H Q
def SGsw (K : PySem.W.Frag) (u : TGs) (fs : List EvG) (ws : List Nat) : Prop :=
  ∀ C own σ H env ds vs env', RE K C own σ H env → RpA K (hh C own H) vs ds → gAll fs ds env = .ok env' → ∀ Q : L2.St → Hp → Prop,
    (∀ own' σ' H', RE K C own' σ' H' env' → Grow C own H own' H' → H' = H → σ'.length = σ.length → (∀ j, j ∉ ws → σ'[j]? = σ[j]?) → Q σ' H') → u vs σ H Q
section
variable {K : PySem.W.Frag}
theorem sgw_name (i : Nat) : SGw K (gName i) (gN i) [i] := fun C own σ H env d v env' R r q Q k => by
  obtain ⟨R2, g2⟩ := R.store q r
  refine k _ _ H R2 g2 rfl (by simp) fun j hj => ?_
  rw [List.getElem?_set_ne]
  exact fun e => hj (by simp [e])
theorem sgsw_nil : SGsw K gNil [] [] := fun C own σ H env ds vs env' R r q Q k => by
  cases ds with
  | nil => cases r; cases q; exact ⟨rfl, k own σ H R .refl rfl rfl fun _ _ => rfl⟩
  | cons d ds => cases q
theorem sgsw_cons {g : TG} {u : TGs} {f : EvG} {fs : List EvG} {v1 v2 : List Nat} (h : SGw K g f v1) (hs : SGsw K u fs v2) : SGsw K (gCons g u) (f :: fs) (v1 ++ v2) := fun C own σ H env ds vs env' R r q Q k => by
  cases ds with
  | nil => cases q
  | cons d ds =>
    cases r with
    | cons r1 r2 =>
      obtain ⟨e1, q1, q⟩ := bind_eq q
      refine ⟨_, _, rfl, h C own σ H env d _ e1 R r1 q1 _ fun o1 σ1 H1 R1 g1 e2 l1 s1 => ?_⟩
      refine hs C o1 σ1 H1 e1 ds _ env' R1 (r2.ext g1) q Q fun o2 σ2 H2 R2 g2 e3 l2 s2 => k o2 σ2 H2 R2 (g1.trans g2) (e3.trans e2) (l2.trans l1) fun j hj => ?_
      rw [List.mem_append, not_or] at hj
      rw [s2 j hj.2, s1 j hj.1]
theorem sgw_tup {u : TGs} {fs : List EvG} {n : Nat} {ws : List Nat} (h : SGsw K u fs ws) (hn : fs.length = n) : SGw K (gTup K n u) (gT fs) ws := fun C own σ H env d v env' R r q Q k => by
  unfold gT at q
  split at q
  · rename_i xs
    cases r with
    | tup h1 h2 =>
      refine ⟨_, _, rfl, (hh_ext C own H).t h1, ?_, h C own σ H env xs _ env' R h2 q Q k⟩
      rw [h2.len, ← hn]
      have key : ∀ (fs : List EvG) (xs : List PyData) (e e' : En), gAll fs xs e = .ok e' → xs.length = fs.length := by
        intro fs
        induction fs with
        | nil => intro xs e e' z; cases xs with | nil => rfl | cons _ _ => cases z
        | cons f fs ih =>
          intro xs e e' z
          cases xs with
          | nil => cases z
          | cons x xs =>
            obtain ⟨e1, _, z⟩ := bind_eq z
            simp [ih xs e1 e' z]
      exact key fs xs env env' q
  · cases q
end

/-! ### comprehensions -/
def wipeE : List Nat → En → En
  | [], e => e
  | v :: vs, e => (wipeE vs e).set v .em
/-- nothing owned stands in these slots -/
def clr (e : En) (vs : List Nat) : Bool := vs.all fun v => match e[v]? with
  | some (.ow _) => false
  | some (.io _) => false
  | _ => true
def restE (e e4 : En) : List Nat → En
  | [] => e4
  | v :: vs => (restE e e4 vs).set v ((e[v]?).getD .em)
def lcD (g : EvG) (tst : EvT) (elt : EvS) (vs : List Nat) : List PyData → En → Res (List PyData × En)
  | [], e => .ok ([], e)
  | d :: ds, e => g d (wipeE vs e) >>= tst >>= fun p =>
    if p.1 = true then elt p.2 >>= fun q => if clr q.2 vs = true then lcD g tst elt vs ds (restE e q.2 vs) >>= fun r => .ok (q.1 :: r.1, r.2) else .bad
    else if clr p.2 vs = true then lcD g tst elt vs ds (restE e p.2 vs) else .bad
def eLc (it : EvI) (g : EvG) (tst : EvT) (elt : EvS) (vs : List Nat) : EvF := fun env => it env >>= fun p =>
  if p.1.length ≤ 1000000 ∧ clr p.2 vs = true then lcD g tst elt vs p.1 p.2 else .bad
def eYes : EvT := fun env => .ok (true, env)
section
variable {K : PySem.W.Frag} {C : Cn} {own own' : Own} {σ σ' : L2.St} {H H' : Hp} {env env' e4 : En}
theorem wipe_at {σ : L2.St} {j : Nat} : ∀ {vs : List Nat}, (wipe σ vs)[j]? = if j ∈ vs then (if j < σ.length then some none else none) else σ[j]?
  | [] => by simp [wipe]
  | v :: vs => by
    unfold wipe
    by_cases e : v = j
    · subst e
      rw [if_pos (by simp)]
      by_cases h : v < σ.length
      · rw [List.getElem?_set_self (by rw [wipe_length]; exact h), if_pos h]
      · rw [if_neg h]
        exact List.getElem?_eq_none (by rw [List.length_set, wipe_length]; omega)
    · rw [List.getElem?_set_ne e, wipe_at (vs := vs)]
      have : (j ∈ v :: vs) ↔ j ∈ vs := by simp [Ne.symm e]
      simp only [this]
theorem wipeE_len : ∀ (vs : List Nat), (wipeE vs env).length = env.length
  | [] => rfl
  | v :: vs => by unfold wipeE; rw [List.length_set, wipeE_len vs]
theorem wipeE_at {j : Nat} : ∀ {vs : List Nat}, (wipeE vs env)[j]? = if j ∈ vs then (if j < env.length then some .em else none) else env[j]?
  | [] => by simp [wipeE]
  | v :: vs => by
    unfold wipeE
    by_cases e : v = j
    · subst e
      rw [if_pos (by simp)]
      by_cases h : v < env.length
      · rw [List.getElem?_set_self (by rw [wipeE_len]; exact h), if_pos h]
      · rw [if_neg h]
        exact List.getElem?_eq_none (by rw [List.length_set, wipeE_len]; omega)
    · rw [List.getElem?_set_ne e, wipeE_at (vs := vs)]
      have : (j ∈ v :: vs) ↔ j ∈ vs := by simp [Ne.symm e]
      simp only [this]
theorem restE_len : ∀ (vs : List Nat), (restE env e4 vs).length = e4.length
  | [] => rfl
  | v :: vs => by unfold restE; rw [List.length_set, restE_len vs]
theorem restE_at {j : Nat} (hl : e4.length = env.length) : ∀ {vs : List Nat}, (restE env e4 vs)[j]? = if j ∈ vs then env[j]? else e4[j]?
  | [] => by simp [restE]
  | v :: vs => by
    unfold restE
    by_cases e : v = j
    · subst e
      rw [if_pos (by simp)]
      by_cases h : v < env.length
      · rw [List.getElem?_set_self (by rw [restE_len, hl]; exact h), List.getElem?_eq_getElem h]
        rfl
      · rw [List.getElem?_eq_none (by rw [List.length_set, restE_len, hl]; omega), List.getElem?_eq_none (by omega)]
    · rw [List.getElem?_set_ne e, restE_at hl (vs := vs)]
      have : (j ∈ v :: vs) ↔ j ∈ vs := by simp [Ne.symm e]
      simp only [this]
theorem clr_no {vs : List Nat} (h : clr env vs = true) {j : Nat} (hj : j ∈ vs) : (∀ xs, env[j]? ≠ some (.ow xs)) ∧ ∀ xs, env[j]? ≠ some (.io xs) := by
  have h := List.all_eq_true.mp h j hj
  refine ⟨fun xs e => ?_, fun xs e => ?_⟩ <;> (rw [e] at h; cases h)
theorem RE.wipe (R : RE K C own σ H env) {vs : List Nat} (h : clr env vs = true) : RE K C own (L2.wipe σ vs) H (wipeE vs env) := by
  have key : ∀ {j : Nat} {s : Sl}, (wipeE vs env)[j]? = some s → s ≠ .em → j ∉ vs ∧ env[j]? = some s := fun {j s} e ne => by
    rw [wipeE_at] at e
    by_cases hj : j ∈ vs
    · rw [if_pos hj] at e
      split at e
      · cases e; exact absurd rfl ne
      · cases e
    · rw [if_neg hj] at e
      exact ⟨hj, e⟩
  have back : ∀ {j : Nat} {s : Sl}, env[j]? = some s → ((∃ xs, s = .ow xs) ∨ ∃ xs, s = .io xs) → (wipeE vs env)[j]? = some s := fun {j s} e hs => by
    rw [wipeE_at]
    by_cases hj : j ∈ vs
    · obtain ⟨n1, n2⟩ := clr_no h hj
      rcases hs with ⟨xs, rfl⟩ | ⟨xs, rfl⟩
      · exact absurd e (n1 xs)
      · exact absurd e (n2 xs)
    · rw [if_neg hj]; exact e
  refine ⟨by rw [wipe_length, wipeE_len]; exact R.len, R.inj, fun i d e => ?_, fun i xs e => ?_, fun i xs e => ?_, fun i a e => ?_, fun i a e => ?_, R.iom, R.pres, R.mal, R.pal⟩
  · obtain ⟨hj, e⟩ := key e (fun z => nomatch z)
    obtain ⟨v, h1, h2⟩ := R.va i d e
    exact ⟨v, by rw [wipe_at, if_neg hj]; exact h1, h2⟩
  · obtain ⟨hj, e⟩ := key e (fun z => nomatch z)
    obtain ⟨a, vs, h1, h2, h3⟩ := R.ow i xs e
    exact ⟨a, vs, h1, by rw [wipe_at, if_neg hj]; exact h2, h3⟩
  · obtain ⟨hj, e⟩ := key e (fun z => nomatch z)
    obtain ⟨a, vs, h1, h2, h3, h4⟩ := R.io i xs e
    exact ⟨a, vs, h1, h2, by rw [wipe_at, if_neg hj]; exact h3, h4⟩
  · rcases R.only i a e with ⟨xs, q⟩ | ⟨xs, q⟩
    · exact .inl ⟨xs, back q (.inl ⟨xs, rfl⟩)⟩
    · exact .inr ⟨xs, back q (.inr ⟨xs, rfl⟩)⟩
  · obtain ⟨xs, q⟩ := R.ios i a e
    exact ⟨xs, back q (.inr ⟨xs, rfl⟩)⟩
/-- behind a turn -/
theorem RE.rest (R : RE K C own σ H env) {vs : List Nat} (hc : clr env vs = true) (R4 : RE K C own' σ' H' e4) (hc4 : clr e4 vs = true) (g : Grow C own H own' H') (hs : ∀ j, j ∉ vs → σ'[j]? = σ[j]?) (hl : e4.length = env.length) :
    RE K C own' σ H' (restE env e4 vs) ∧ clr (restE env e4 vs) vs = true := by
  have key : ∀ {j : Nat} {s : Sl}, (restE env e4 vs)[j]? = some s → (j ∈ vs ∧ env[j]? = some s) ∨ (j ∉ vs ∧ e4[j]? = some s) := fun {j s} e => by
    rw [restE_at hl] at e
    by_cases hj : j ∈ vs
    · rw [if_pos hj] at e; exact .inl ⟨hj, e⟩
    · rw [if_neg hj] at e; exact .inr ⟨hj, e⟩
  have back : ∀ {j : Nat} {s : Sl}, e4[j]? = some s → ((∃ xs, s = .ow xs) ∨ ∃ xs, s = .io xs) → (restE env e4 vs)[j]? = some s := fun {j s} e hs => by
    rw [restE_at hl]
    by_cases hj : j ∈ vs
    · obtain ⟨n1, n2⟩ := clr_no hc4 hj
      rcases hs with ⟨xs, rfl⟩ | ⟨xs, rfl⟩
      · exact absurd e (n1 xs)
      · exact absurd e (n2 xs)
    · rw [if_neg hj]; exact e
  refine ⟨⟨by rw [restE_len, hl]; exact R.len, R4.inj, fun i d e => ?_, fun i xs e => ?_, fun i xs e => ?_, fun i a e => ?_, fun i a e => ?_, R.iom, R4.pres, R4.mal, R4.pal⟩, ?_⟩
  · rcases key e with ⟨hj, e⟩ | ⟨hj, e⟩
    · obtain ⟨v, h1, h2⟩ := R.va i d e
      exact ⟨v, h1, h2.ext g⟩
    · obtain ⟨v, h1, h2⟩ := R4.va i d e
      exact ⟨v, by rw [← hs i hj]; exact h1, h2⟩
  · rcases key e with ⟨hj, e⟩ | ⟨hj, e⟩
    · exact absurd e ((clr_no hc hj).1 xs)
    · obtain ⟨a, vs, h1, h2, h3⟩ := R4.ow i xs e
      exact ⟨a, vs, h1, by rw [← hs i hj]; exact h2, h3⟩
  · rcases key e with ⟨hj, e⟩ | ⟨hj, e⟩
    · exact absurd e ((clr_no hc hj).2 xs)
    · obtain ⟨a, vs, h1, h2, h3, h4⟩ := R4.io i xs e
      exact ⟨a, vs, h1, h2, by rw [← hs i hj]; exact h3, h4⟩
  · rcases R4.only i a e with ⟨xs, q⟩ | ⟨xs, q⟩
    · exact .inl ⟨xs, back q (.inl ⟨xs, rfl⟩)⟩
    · exact .inr ⟨xs, back q (.inr ⟨xs, rfl⟩)⟩
  · obtain ⟨xs, q⟩ := R4.ios i a e
    exact ⟨xs, back q (.inr ⟨xs, rfl⟩)⟩
  · refine List.all_eq_true.mpr fun j hj => ?_
    rw [restE_at hl, if_pos hj]
    exact List.all_eq_true.mp hc j hj
theorem RE.notOwn {L : List Addr} {a : Addr} (R : RE K (C.hide L) own σ H env) (ha : a ∈ L) (hio : ∀ i, C.io i ≠ some a) : ∀ i, own i ≠ some a := fun i e => by
  rcases R.only i a e with ⟨xs, q⟩ | ⟨xs, q⟩
  · obtain ⟨b, vs, h1, _, _, _, h5, _⟩ := R.ow i xs q
    rw [e] at h1; cases h1
    exact h5 (.inr ha)
  · obtain ⟨b, vs, h1, h2, _⟩ := R.io i xs q
    rw [e] at h1; cases h1
    exact hio i h2
theorem RE.ioOld (R : RE K C own σ H env) {a : Addr} (h : H a = none) : ∀ i, C.io i ≠ some a := fun i e => by
  obtain ⟨o, q⟩ := R.mal a (R.iom i a e)
  rw [h] at q; cases q
theorem wipe_eq {vs : List Nat} (hl : σ'.length = σ.length) (h : ∀ j, j ∉ vs → σ'[j]? = σ[j]?) : L2.wipe σ' vs = L2.wipe σ vs := by
  refine List.ext_getElem? fun j => ?_
  rw [wipe_at, wipe_at, hl]
  by_cases hj : j ∈ vs
  · rw [if_pos hj, if_pos hj]
  · rw [if_neg hj, if_neg hj, h j hj]
theorem SI.all {wi : TI} {f : EvI} (h : SI K wi f) {ds : List PyData} (R : RE K C own σ H env) (q : f env = .ok (ds, env')) (Q : It → Hp → Prop)
    (k : ∀ own' J H', RE K C own' σ H' env' → Grow C own H own' H' → Yl K (hh C own' H') J ds → Live H H' → Q J H') : wi σ H Q :=
  h (C.at own H) own σ H env ds env' R.rebase q Q fun own' J H' R' g y => k own' J H' (R.unbase R') g y (R.live R')
theorem sf_lc {wi : TI} {g : TG} {tt : TT} {te : TE} {it : EvI} {gf : EvG} {tst : EvT} {elt : EvS} {ws vs : List Nat} (hi : SI K wi it) (hg : SGw K g gf ws) (hws : ∀ j ∈ ws, j ∈ vs) (ht : ST K tt tst) (he : SV K te elt) :
    SF K (tLc wi g tt te vs) (eLc it gf tst elt vs) := fun C own σ H env xs env' R q Q k => by
  obtain ⟨⟨ds, e1⟩, q1, q⟩ := bind_eq q
  split at q
  rotate_left
  · cases q
  rename_i hc
  obtain ⟨hlen, hclr⟩ := hc
  have hlen : ds.length ≤ 1000000 := hlen
  refine hi.all R q1 _ fun o1 J H1 R1 g1 Y l1 => ?_
  intro D hD
  have hio : ∀ i, C.io i ≠ some D := R1.ioOld hD
  have h0 : C.H0 D = none := R1.h0 hD
  have nP : ¬ C.P D := fun z => by
    obtain ⟨o, e⟩ := R1.pal D z
    rw [hD] at e; cases e
  obtain ⟨R2, g2⟩ := R1.hideNew (o := .lst []) hD
  refine ⟨fun i m H3 => m = ds.length - i ∧ i ≤ ds.length ∧ ∃ own3 e3 acc accD ys, RE K (C.hide [D]) own3 σ H3 e3 ∧ clr e3 vs = true ∧ Ext (hh C o1 H1) (hh (C.hide [D]) own3 H3) ∧ H3 D = some (.lst acc) ∧ RpA K (hh (C.hide [D]) own3 H3) acc accD ∧ acc.length ≤ i ∧
      lcD gf tst elt vs (ds.drop i) e3 = .ok (ys, env') ∧ xs = accD ++ ys, ⟨ds.length, by simp, Nat.zero_le _, o1, e1, [], [], xs, R2, hclr, g2, upd_same, .nil, Nat.le_refl _, by simpa using q, rfl⟩, ?_⟩
  rintro i m H3 ⟨rfl, hi', own3, e3, acc, accD, ys, R3, hc3, g3, hD3, ra, hla, q3, hx⟩
  obtain ⟨yi, ystop⟩ := Y (C.hide [D]) own3 σ H3 e3 R3 g3
  by_cases hlt : i < ds.length
  · have hd : ds[i]? = some ds[i] := List.getElem?_eq_getElem hlt
    obtain ⟨hgo, hy⟩ := yi i _ hd
    rw [List.drop_eq_getElem_cons hlt] at q3
    obtain ⟨⟨b, e6⟩, q6, q7⟩ := bind_eq q3
    obtain ⟨e5, q5, q6⟩ := bind_eq q6
    refine .inr ⟨hgo, fun H4 => ∃ own4 e4 acc' accD' ys', RE K (C.hide [D]) own4 σ H4 e4 ∧ clr e4 vs = true ∧ Ext (hh C o1 H1) (hh (C.hide [D]) own4 H4) ∧ H4 D = some (.lst acc') ∧ RpA K (hh (C.hide [D]) own4 H4) acc' accD' ∧ acc'.length ≤ i + 1 ∧
      lcD gf tst elt vs (ds.drop (i + 1)) e4 = .ok (ys', env') ∧ xs = accD' ++ ys', fun H4 h4 => ⟨ds.length - (i + 1), by omega, rfl, hlt, h4⟩, fun x H' y => ?_⟩
    obtain ⟨ex, rx⟩ := hy x H' y
    obtain ⟨R3', g3'⟩ := R3.up ex
    have Rw := R3'.wipe hc3
    refine hg (C.hide [D]) own3 (L2.wipe σ vs) H' (wipeE vs e3) _ x e5 Rw rx q5 _ fun o5 σ5 H5 R5 g5 eH l5 s5 => ?_
    subst eH
    have s5' : ∀ j, j ∉ vs → σ5[j]? = σ[j]? := fun j hj => by
      rw [s5 j (fun z => hj (hws j z)), wipe_at, if_neg hj]
    have l5' : σ5.length = σ.length := by rw [l5, wipe_length]
    refine ⟨wipe_eq l5' s5', ht.all R5 q6 _ fun o6 H6 R6 g6 k6 _ => ?_⟩
    have gA : Ext (hh C o1 H1) (hh (C.hide [D]) o6 H6) := ((g3.trans g3').trans g5).trans g6
    have hn3 := R5.notOwn (a := D) (by simp) hio
    have hD6 : H6 D = some (.lst acc) := k6 D _ (ex D _ hD3) hn3
    have le6 : e6.length = e3.length := by rw [← R6.len, l5', R3.len]
    cases b with
    | true =>
      obtain ⟨⟨d7, e7⟩, q8, q9⟩ := bind_eq q7
      refine iteT (he.all R6 q8 _ fun o7 y7 H7 R7 g7 r7 k7 _ => ?_)
      have hn6 := R6.notOwn (a := D) (by simp) hio
      have hD7 : H7 D = some (.lst acc) := k7 D _ hD6 hn6
      have le7 : e7.length = e3.length := by rw [← R7.len, l5', R3.len]
      have hn7 := R7.notOwn (a := D) (by simp) hio
      refine ⟨acc, hD7, szl (by omega), ?_⟩
      split at q9
      · rename_i hc7
        obtain ⟨⟨ys', ef⟩, q10, q11⟩ := bind_eq q9
        cases q11
        obtain ⟨R8, g8⟩ := R7.hidUpd (p := D) (o := .lst (acc ++ [y7])) (.inr (by simp)) hn7 (.inr h0)
        have gB : Ext (hh (C.hide [D]) own3 H3) (hh (C.hide [D]) o7 (upd H7 D (.lst (acc ++ [y7])))) := (((g3'.trans g5).trans g6).trans g7).trans g8
        obtain ⟨R9, hc9⟩ := R3.rest hc3 R8 hc7 gB s5' le7
        refine ⟨o7, _, _, accD ++ [d7], ys', R9, hc9, ((gA.trans g7).trans g8), upd_same, (ra.ext gB).app (.cons (r7.ext g8) .nil), by simp; omega, q10, by rw [hx]; simp⟩
      · cases q9
    | false =>
      refine iteF ?_
      have q7 : (if clr e6 vs = true then lcD gf tst elt vs (ds.drop (i + 1)) (restE e3 e6 vs) else .bad) = .ok (ys, env') := q7
      split at q7
      · rename_i hc6
        have gB : Ext (hh (C.hide [D]) own3 H3) (hh (C.hide [D]) o6 H6) := (g3'.trans g5).trans g6
        obtain ⟨R9, hc9⟩ := R3.rest hc3 R6 hc6 gB s5' le6
        exact ⟨o6, _, acc, accD, ys, R9, hc9, gA, hD6, ra.ext gB, by omega, q7, hx⟩
      · cases q7
  · have e : i = ds.length := by omega
    subst e
    rw [List.drop_length] at q3
    cases q3
    rw [List.append_nil] at hx
    subst hx
    exact .inl ⟨ystop, k own3 D H3 ⟨R3, Ext.trans g1 g3, ⟨l1 _ hD, h0, nP, R3.notOwn (by simp) hio⟩, acc, hD3, ra⟩⟩
end

/-! ### a, b = e1, e2 -/
abbrev EvP := En → Res (List Sl × En)
def pNil : EvP := fun env => .ok ([], env)
def pV (f : EvS) (g : EvP) : EvP := fun env => f env >>= fun p => g p.2 >>= fun q => .ok (.va p.1 :: q.1, q.2)
def pF (f : EvF) (g : EvP) : EvP := fun env => f env >>= fun p => g p.2 >>= fun q => .ok (.ow p.1 :: q.1, q.2)
inductive ItR (K : PySem.W.Frag) (Hh H : Hp) : List V → List Sl → List Addr → Prop
  | nil : ItR K Hh H [] [] []
  | va {v : V} {vs : List V} {d : PyData} {ss : List Sl} {L : List Addr} : Rp K Hh v d → ItR K Hh H vs ss L → ItR K Hh H (v :: vs) (.va d :: ss) L
  | ow {a : Addr} {ws : List V} {xs : List PyData} {vs : List V} {ss : List Sl} {L : List Addr} : H a = some (.lst ws) → RpA K Hh ws xs → a ∉ L → ItR K Hh H vs ss L → ItR K Hh H (.ref a :: vs) (.ow xs :: ss) (a :: L)
/-- hidden and new -/
structure Hid (C : Cn) (own : Own) (H : Hp) (L : List Addr) : Prop where
  was : ∀ a ∈ L, H a = none
  h0 : ∀ a ∈ L, C.H0 a = none
  nP : ∀ a ∈ L, ¬ C.P a
  nown : ∀ a ∈ L, ∀ i, own i ≠ some a
  nio : ∀ a ∈ L, ∀ i, C.io i ≠ some a
def SP' (K : PySem.W.Frag) (t : TA) (f : EvP) : Prop :=
  ∀ C own σ H env ss env', RE K C own σ H env → f env = .ok (ss, env') → ∀ Q : List V → Hp → Prop,
    (∀ own' vs L H', RE K (C.hide L) own' σ H' env' → Ext (hh C own H) (hh (C.hide L) own' H') → ItR K (hh (C.hide L) own' H') H' vs ss L → Hid C own' H L → Q vs H') → t σ H Q
section
variable {K : PySem.W.Frag} {C : Cn} {own own' : Own} {σ σ' : L2.St} {H H' : Hp} {env env' : En} {L L' : List Addr}
theorem hide_hide : (C.hide L).hide L' = C.hide (L' ++ L) := by
  unfold Cn.hide
  congr 1
  funext a
  simp only [List.mem_append, eq_iff_iff]
  constructor
  · rintro ((h | h) | h)
    · exact .inl h
    · exact .inr (.inr h)
    · exact .inr (.inl h)
  · rintro (h | h | h)
    · exact .inl (.inl h)
    · exact .inr h
    · exact .inl (.inr h)
theorem hide_nil : C.hide [] = C := by
  unfold Cn.hide
  congr 1
  funext a
  simp
theorem sp_nil : SP' K tNil pNil := fun C own σ H env ss env' R q Q k => by
  cases q
  have e : C.hide [] = C := hide_nil
  refine k own [] [] H (by rw [e]; exact R) (by rw [e]; exact Ext.refl _) .nil ⟨?_, ?_, ?_, ?_, ?_⟩ <;> (intro a h; cases h)
theorem ItR.ext {Hh Hh' : Hp} : ∀ {vs : List V} {ss : List Sl} {L : List Addr}, Ext Hh Hh' → (∀ a ∈ L, ∀ o, H a = some o → H' a = some o) → ItR K Hh H vs ss L → ItR K Hh' H' vs ss L
  | _, _, _, e, k, .nil => .nil
  | _, _, _, e, k, .va h t => .va (h.ext e) (ItR.ext e k t)
  | _, _, _, e, k, .ow h1 h2 h3 t => .ow (k _ (by simp) _ h1) (h2.ext e) h3 (ItR.ext e (fun a ha => k a (List.mem_cons_of_mem _ ha)) t)
theorem sp_v {te : TE} {t : TA} {f : EvS} {g : EvP} (h : SV K te f) (hr : SP' K t g) : SP' K (tCons te t) (pV f g) := fun C own σ H env ss env' R q Q k => by
  obtain ⟨⟨d, e1⟩, q1, q⟩ := bind_eq q
  obtain ⟨⟨ss', e2⟩, q2, q⟩ := bind_eq q
  cases q
  refine h.all R q1 _ fun o1 v H1 R1 g1 r1 k1 l1 => ?_
  refine hr C o1 σ H1 e1 ss' _ R1 q2 _ fun o2 vs L H2 R2 g2 r2 hd => ?_
  exact k o2 (v :: vs) L H2 R2 (Ext.trans g1 g2) (.va (r1.ext g2) r2) ⟨fun a ha => l1 a (hd.was a ha), hd.h0, hd.nP, hd.nown, hd.nio⟩
theorem SP'.all {t : TA} {f : EvP} (h : SP' K t f) {ss : List Sl} (R : RE K C own σ H env) (q : f env = .ok (ss, env')) (Q : List V → Hp → Prop)
    (k : ∀ own' vs L H', RE K (C.hide L) own' σ H' env' → Ext (hh C own H) (hh (C.hide L) own' H') → ItR K (hh (C.hide L) own' H') H' vs ss L → Hid C own' H L → Keep own H H' → Q vs H') : t σ H Q :=
  h (C.at own H) own σ H env ss env' R.rebase q Q fun own' vs L H' R' e r hd => by
    have R2 : RE K (C.hide L) own' σ H' env' := RE.unbase' (C := C) (C' := C.hide L) rfl rfl rfl R R'
    exact k own' vs L H' R2 e r ⟨hd.was, fun a ha => R.h0 (hd.was a ha), hd.nP, hd.nown, hd.nio⟩ fun a o e n => R'.pres a o e fun ⟨i, z⟩ => n i z
theorem sp_f {te : TE} {t : TA} {f : EvF} {g : EvP} (h : SF K te f) (hr : SP' K t g) : SP' K (tCons te t) (pF f g) := fun C own σ H env ss env' R q Q k => by
  obtain ⟨⟨xs, e1⟩, q1, q⟩ := bind_eq q
  obtain ⟨⟨ss', e2⟩, q2, q⟩ := bind_eq q
  cases q
  refine h (C.at own H) own σ H env xs e1 R.rebase q1 _ fun o1 a H1 N => ?_
  obtain ⟨R1', g1, ⟨n1, n2, n4, n3⟩, ws, w1, w2⟩ := N
  have R1 : RE K (C.hide [a]) o1 σ H1 e1 := RE.unbase' (C := C) (C' := C.hide [a]) rfl rfl rfl R R1'
  have l1 : Live H H1 := .of fun b o e => by
    by_cases z : ∃ i, own i = some b
    · exact R1'.mal b z
    · exact ⟨o, R1'.pres b o e z⟩
  refine hr.all R1 q2 _ fun o2 vs L H2 R2 g2 r2 hd k2 => ?_
  rw [hide_hide] at R2 g2 r2
  have e : L ++ [a] = L ++ [a] := rfl
  have sw : C.hide (L ++ [a]) = C.hide (a :: L) := by
    unfold Cn.hide
    congr 1
    funext b
    simp only [List.mem_append, List.mem_cons, List.not_mem_nil, or_false, eq_iff_iff]
    constructor
    · rintro (h | h | h)
      · exact .inl h
      · exact .inr (.inr h)
      · exact .inr (.inl h)
    · rintro (h | h | h)
      · exact .inl h
      · exact .inr (.inr h)
      · exact .inr (.inl h)
  rw [sw] at R2 g2 r2
  have w3 : H2 a = some (.lst ws) := k2 a _ w1 n3
  have naL : a ∉ L := fun z => hd.nP a z (.inr (by simp))
  refine k o2 (.ref a :: vs) (a :: L) H2 R2 (Ext.trans g1 g2) (.ow w3 (w2.ext g2) naL r2) ⟨fun b hb => ?_, fun b hb => ?_, fun b hb => ?_, fun b hb => ?_, fun b hb => ?_⟩
  · rcases List.mem_cons.mp hb with rfl | hb
    · exact n1
    · exact l1 b (hd.was b hb)
  · rcases List.mem_cons.mp hb with rfl | hb
    · exact R.h0 n1
    · exact hd.h0 b hb
  · rcases List.mem_cons.mp hb with rfl | hb
    · exact n4
    · exact fun z => hd.nP b hb (.inl z)
  · rcases List.mem_cons.mp hb with rfl | hb
    · exact R2.notOwn (by simp) (R.ioOld n1)
    · exact hd.nown b hb
  · rcases List.mem_cons.mp hb with rfl | hb
    · exact R.ioOld n1
    · exact hd.nio b hb
/-- the items into their slots -/
def putAll : List Nat → List Sl → En → Res En
  | [], [], env => .ok env
  | i :: is, s :: ss, env => put i s env >>= putAll is ss
  | _, _, _ => .bad
def setAll : List Nat → List V → L2.St → L2.St
  | i :: is, v :: vs, σ => setAll is vs (σ.set i (some v))
  | _, _, σ => σ
theorem RE.putAll {own0 : Own} {H0' : Hp} : ∀ {is : List Nat} {ss : List Sl} {vs : List V} {L : List Addr} {env : En} {own : Own} {σ : L2.St}, RE K (C.hide L) own σ H env → ItR K (hh (C.hide L) own H) H vs ss L →
    (∀ a ∈ L, C.H0 a = none) → (∀ a ∈ L, ¬ C.P a) → (∀ a ∈ L, ∀ i, own i ≠ some a) → putAll is ss env = .ok env' → ∃ own', RE K C own' (setAll is vs σ) H env' ∧ Ext (hh (C.hide L) own H) (hh C own' H)
  | [], ss, vs, L, env, own, σ, R, r, _, _, _, q => by
    cases ss with
    | nil =>
      cases q
      cases r
      rw [hide_nil] at R ⊢
      exact ⟨own, R, Ext.refl _⟩
    | cons s ss => cases q
  | i :: is, ss, vs, L, env, own, σ, R, r, h0, hP, hn, q => by
    cases ss with
    | nil => cases q
    | cons s ss =>
      obtain ⟨e1, q1, q2⟩ := bind_eq q
      cases r with
      | va rv rt =>
        obtain ⟨R2, g2⟩ := R.store q1 rv
        obtain ⟨own', R3, g3⟩ := RE.putAll (own0 := own0) (H0' := H0') R2 (rt.ext g2 fun _ _ _ h => h) h0 hP (fun a ha j z => hn a ha j (cut_some z).2) q2
        exact ⟨own', R3, Ext.trans g2 g3⟩
      | @ow a ws xs vs' _ L' w1 w2 naL rt =>
        have e : C.hide (a :: L') = (C.hide L').hide [a] := (hide_hide (L := L') (L' := [a])).symm
        rw [e] at R w2 rt ⊢
        have N : ∃ own2, RE K (C.hide L') own2 (σ.set i (some (.ref a))) H e1 ∧ Ext (hh ((C.hide L').hide [a]) own H) (hh (C.hide L') own2 H) ∧ ∀ b, b ≠ a → ∀ j, own2 j = some b → ∃ j', own j' = some b :=
          RE.storeNew' R (h0 a (by simp)) (fun z => by
            rcases z with z | z
            · exact hP a (by simp) z
            · exact naL z) (hn a (by simp)) w1 w2 q1
        obtain ⟨own2, R2, g2, o2⟩ := N
        obtain ⟨own', R3, g3⟩ := RE.putAll (own0 := own0) (H0' := H0') R2 (rt.ext g2 fun _ _ _ h => h) (fun b hb => h0 b (List.mem_cons_of_mem _ hb)) (fun b hb => hP b (List.mem_cons_of_mem _ hb))
          (fun b hb j z => by
            have nb : b ≠ a := fun w => naL (w ▸ hb)
            obtain ⟨j', z'⟩ := o2 b nb j z
            exact hn b (List.mem_cons_of_mem _ hb) j' z') q2
        exact ⟨own', R3, Ext.trans g2 g3⟩
end
end XL

namespace XL
open PySem PySem.Spec L2

/-! ### what a def promises -/
inductive ArgsR (K : PySem.W.Frag) (P : Addr → Prop) (H : Hp) : List V → List Sl → List Addr → Prop
  | nil : ArgsR K P H [] [] []
  | va {v : V} {vs : List V} {d : PyData} {ss : List Sl} {L : List Addr} : Rp K (hdn P H) v d → ArgsR K P H vs ss L → ArgsR K P H (v :: vs) (.va d :: ss) L
  | io {a : Addr} {ws : List V} {xs : List PyData} {vs : List V} {ss : List Sl} {L : List Addr} : P a → H a = some (.lst ws) → RpA K (hdn P H) ws xs → a ∉ L → ArgsR K P H vs ss L → ArgsR K P H (.ref a :: vs) (.io xs :: ss) (a :: L)
def OutsR (K : PySem.W.Frag) (P : Addr → Prop) (H : Hp) : List Addr → List (List PyData) → Prop := Paired fun a xs => ∃ ws, H a = some (.lst ws) ∧ RpA K (hdn P H) ws xs
def spF (K : PySem.W.Frag) (F : Fn) : Sp := fun vs H Q _ => ∃ (P : Addr → Prop) (args : List Sl) (L : List Addr) (d : PyData) (outs : List (List PyData)),
  (∀ a, P a → ∃ o, H a = some o) ∧ ArgsR K P H vs args L ∧ F args = .ok (d, outs) ∧
  ∀ v H', (∀ a o, H a = some o → a ∉ L → H' a = some o) → Rp K (hdn P H') v d → OutsR K P H' L outs → Q v H'
def outsOf : List Sl → En → List (List PyData)
  | .io _ :: as, e :: es => (match e with | .io xs => xs | _ => []) :: outsOf as es
  | .io _ :: as, [] => [] :: outsOf as []
  | _ :: as, _ :: es => outsOf as es
  | _ :: as, [] => outsOf as []
  | [], _ => []
def eFn (n : Nat) (body : EvSt) : Fn := fun args => if args.length ≤ n then body (args ++ List.replicate (n - args.length) .em) >>= fun p => match p.1 with
  | .rt d => .ok (d, outsOf args p.2)
  | .nx => .ok (.none, outsOf args p.2)
  | _ => .bad
  else .bad
/-- which argument is at which address -/
def ioF : List V → List Sl → Own
  | .ref a :: _, .io _ :: _, 0 => some a
  | _ :: _, _ :: _, 0 => none
  | _ :: vs, _ :: ss, i + 1 => ioF vs ss i
  | _, _, _ => none
section
variable {K : PySem.W.Frag} {P : Addr → Prop} {H H' : Hp}
theorem ArgsR.len : ∀ {vs : List V} {ss : List Sl} {L : List Addr}, ArgsR K P H vs ss L → vs.length = ss.length
  | _, _, _, .nil => rfl
  | _, _, _, .va _ t => by simp [t.len]
  | _, _, _, .io _ _ _ _ t => by simp [t.len]
theorem ioF_succ {v : V} {s : Sl} {vs : List V} {ss : List Sl} {i : Nat} : ioF (v :: vs) (s :: ss) (i + 1) = ioF vs ss i := by
  cases v <;> cases s <;> rfl
theorem ioF_va {v : V} {d : PyData} {vs : List V} {ss : List Sl} : ioF (v :: vs) (.va d :: ss) 0 = none := by
  cases v <;> rfl
theorem ioF_io {a : Addr} {d : List PyData} {vs : List V} {ss : List Sl} : ioF (.ref a :: vs) (.io d :: ss) 0 = some a := rfl
theorem ArgsR.mem : ∀ {vs : List V} {ss : List Sl} {L : List Addr} {i : Nat} {a : Addr}, ArgsR K P H vs ss L → ioF vs ss i = some a → a ∈ L ∧ P a ∧ vs[i]? = some (.ref a) ∧ ∃ xs ws, ss[i]? = some (.io xs) ∧ H a = some (.lst ws) ∧ RpA K (hdn P H) ws xs
  | _, _, _, i, a, .nil, h => by cases i <;> cases h
  | _, _, _, 0, a, .va _ _, h => by rw [ioF_va] at h; cases h
  | _, _, _, i + 1, a, .va _ t, h => by
    rw [ioF_succ] at h
    simpa using t.mem h
  | _, _, _, 0, a, .io h1 h2 h3 _ _, h => by
    rw [ioF_io] at h
    cases h
    exact ⟨by simp, h1, rfl, _, _, rfl, h2, h3⟩
  | _, _, _, i + 1, a, .io _ _ _ _ t, h => by
    rw [ioF_succ] at h
    obtain ⟨q1, q2, q3, q4⟩ := t.mem h
    exact ⟨List.mem_cons_of_mem _ q1, q2, by simpa using q3, by simpa using q4⟩
theorem ArgsR.inj : ∀ {vs : List V} {ss : List Sl} {L : List Addr} {i j : Nat} {a : Addr}, ArgsR K P H vs ss L → ioF vs ss i = some a → ioF vs ss j = some a → i = j
  | _, _, _, i, _, _, .nil, h, _ => by cases i <;> cases h
  | _, _, _, 0, _, a, .va _ _, h, _ => by rw [ioF_va] at h; cases h
  | _, _, _, _ + 1, 0, a, .va _ _, _, h => by rw [ioF_va] at h; cases h
  | _, _, _, i + 1, j + 1, a, .va _ t, h1, h2 => by
    rw [ioF_succ] at h1 h2
    rw [t.inj h1 h2]
  | _, _, _, 0, 0, a, .io _ _ _ _ _, _, _ => rfl
  | _, _, _, 0, j + 1, a, .io _ _ _ n t, h1, h2 => by
    rw [ioF_io] at h1
    cases h1
    rw [ioF_succ] at h2
    exact absurd (t.mem h2).1 n
  | _, _, _, i + 1, 0, a, .io _ _ _ n t, h1, h2 => by
    rw [ioF_io] at h2
    cases h2
    rw [ioF_succ] at h1
    exact absurd (t.mem h1).1 n
  | _, _, _, i + 1, j + 1, a, .io _ _ _ _ t, h1, h2 => by
    rw [ioF_succ] at h1 h2
    rw [t.inj h1 h2]
theorem ArgsR.all : ∀ {vs : List V} {ss : List Sl} {L : List Addr} {a : Addr}, ArgsR K P H vs ss L → a ∈ L → ∃ i, ioF vs ss i = some a
  | _, _, _, a, .nil, h => by cases h
  | _, _, _, a, .va _ t, h => by
    obtain ⟨i, e⟩ := t.all h
    exact ⟨i + 1, by rw [ioF_succ]; exact e⟩
  | _, _, _, a, .io _ _ _ _ t, h => by
    rcases List.mem_cons.mp h with rfl | h
    · exact ⟨0, rfl⟩
    · obtain ⟨i, e⟩ := t.all h
      exact ⟨i + 1, by rw [ioF_succ]; exact e⟩
theorem ArgsR.vaAt : ∀ {vs : List V} {ss : List Sl} {L : List Addr} {i : Nat} {d : PyData}, ArgsR K P H vs ss L → ss[i]? = some (.va d) → ∃ v, vs[i]? = some v ∧ Rp K (hdn P H) v d
  | _, _, _, i, d, .nil, h => by simp at h
  | _, _, _, 0, d, .va r _, h => by simp at h; subst h; exact ⟨_, rfl, r⟩
  | _, _, _, i + 1, d, .va _ t, h => by
    obtain ⟨v, q1, q2⟩ := t.vaAt (i := i) (by simpa using h)
    exact ⟨v, by simpa using q1, q2⟩
  | _, _, _, 0, d, .io _ _ _ _ _, h => by simp at h
  | _, _, _, i + 1, d, .io _ _ _ _ t, h => by
    obtain ⟨v, q1, q2⟩ := t.vaAt (i := i) (by simpa using h)
    exact ⟨v, by simpa using q1, q2⟩
theorem ArgsR.ioAt : ∀ {vs : List V} {ss : List Sl} {L : List Addr} {i : Nat} {xs : List PyData}, ArgsR K P H vs ss L → ss[i]? = some (.io xs) → ∃ a, ioF vs ss i = some a
  | _, _, _, i, d, .nil, h => by simp at h
  | _, _, _, 0, d, .va r _, h => by simp at h
  | _, _, _, i + 1, d, .va _ t, h => by
    obtain ⟨a, q⟩ := t.ioAt (i := i) (by simpa using h)
    exact ⟨a, by rw [ioF_succ]; exact q⟩
  | _, _, _, 0, d, .io _ _ _ _ _, h => ⟨_, rfl⟩
  | _, _, _, i + 1, d, .io _ _ _ _ t, h => by
    obtain ⟨a, q⟩ := t.ioAt (i := i) (by simpa using h)
    exact ⟨a, by rw [ioF_succ]; exact q⟩
theorem ArgsR.no : ∀ {vs : List V} {ss : List Sl} {L : List Addr} {i : Nat} {xs : List PyData}, ArgsR K P H vs ss L → ss[i]? ≠ some (.ow xs)
  | _, _, _, i, d, .nil, h => by simp at h
  | _, _, _, 0, d, .va r _, h => by simp at h
  | _, _, _, i + 1, d, .va _ t, h => t.no (i := i) (by simpa using h)
  | _, _, _, 0, d, .io _ _ _ _ _, h => by simp at h
  | _, _, _, i + 1, d, .io _ _ _ _ t, h => t.no (i := i) (by simpa using h)
theorem outs_ok {Q : Addr → Prop} : ∀ {vs : List V} {ss : List Sl} {L : List Addr} {es : En}, ArgsR K P H vs ss L → (∀ i a, ioF vs ss i = some a → ∃ xs ws, es[i]? = some (.io xs) ∧ H' a = some (.lst ws) ∧ RpA K (hdn Q H') ws xs) → OutsR K Q H' L (outsOf ss es)
  | _, _, _, _, .nil, _ => by unfold outsOf; exact .nil
  | v :: vs, .va d :: ss, L, [], .va _ t, h => by
    show OutsR K Q H' L (outsOf ss [])
    refine outs_ok (es := []) t fun i a e => ?_
    obtain ⟨xs, ws, q, _⟩ := h (i + 1) a (by rw [ioF_succ]; exact e)
    simp at q
  | _, _, _, e :: es, .va _ t, h => outs_ok (es := es) t fun i a e => by simpa using h (i + 1) a (by rw [ioF_succ]; exact e)
  | _, _, _, [], .io _ _ _ _ t, h => by
    obtain ⟨xs, ws, q, _⟩ := h 0 _ rfl
    simp at q
  | _, _, _, e :: es, .io _ _ _ _ t, h => by
    obtain ⟨xs, ws, q, q2, q3⟩ := h 0 _ rfl
    have q : e = .io xs := by simpa using q
    subst q
    exact .cons ⟨ws, q2, q3⟩ (outs_ok (es := es) t fun i a e => by simpa using h (i + 1) a (by rw [ioF_succ]; exact e))
/-- the entry -/
theorem RE.entry {vs : List V} {ss : List Sl} {L : List Addr} {N : List Str} (h : ArgsR K P H vs ss L) (hP : ∀ a, P a → ∃ o, H a = some o) (hl : ss.length ≤ N.length) :
    RE K { H0 := H, P := P, M := fun a => a ∈ L, io := ioF vs ss } (ioF vs ss) (L2.start N vs) H (ss ++ List.replicate (N.length - ss.length) .em) := by
  have lv := h.len
  have eH : ∀ {v : V} {d : PyData}, Rp K (hdn P H) v d → Rp K (hh { H0 := H, P := P, M := fun a => a ∈ L, io := ioF vs ss } (ioF vs ss) H) v d := fun {v d} r => r.ext (hdn_le fun a z => by
    rcases z with z | ⟨i, z⟩
    · exact z
    · exact (h.mem z).2.1)
  have eA : ∀ {v : List V} {d : List PyData}, RpA K (hdn P H) v d → RpA K (hh { H0 := H, P := P, M := fun a => a ∈ L, io := ioF vs ss } (ioF vs ss) H) v d := fun {v d} r => r.ext (hdn_le fun a z => by
    rcases z with z | ⟨i, z⟩
    · exact z
    · exact (h.mem z).2.1)
  have at1 : ∀ {i : Nat} {s : Sl}, (ss ++ List.replicate (N.length - ss.length) .em)[i]? = some s → s ≠ .em → ss[i]? = some s := fun {i s} e ne => by
    by_cases hi : i < ss.length
    · rwa [List.getElem?_append_left hi] at e
    · rw [List.getElem?_append_right (by omega), List.getElem?_replicate] at e
      split at e
      · cases e; exact absurd rfl ne
      · cases e
  have at2 : ∀ {i : Nat} {s : Sl}, ss[i]? = some s → (ss ++ List.replicate (N.length - ss.length) .em)[i]? = some s := fun {i s} e => by
    rw [List.getElem?_append_left (List.getElem?_eq_some_iff.mp e).1]; exact e
  have atV : ∀ {i : Nat} {v : V}, vs[i]? = some v → (L2.start N vs)[i]? = some (some v) := fun {i v} e => by
    unfold L2.start
    rw [List.getElem?_append_left (by simpa using (List.getElem?_eq_some_iff.mp e).1), List.getElem?_map, e]
    rfl
  refine ⟨?_, fun i j a e1 e2 => h.inj e1 e2, fun i d e => ?_, fun i xs e => ?_, fun i xs e => ?_, fun i a e => ?_, fun i a e => ?_, fun i a e => (h.mem e).1, fun a o e _ => e, fun a e => ?_, hP⟩
  · unfold L2.start
    simp
    omega
  · obtain ⟨v, q1, q2⟩ := h.vaAt (at1 e (fun z => nomatch z))
    exact ⟨v, atV q1, eH q2⟩
  · exact absurd (at1 e (fun z => nomatch z)) h.no
  · obtain ⟨a, q⟩ := h.ioAt (at1 e (fun z => nomatch z))
    obtain ⟨_, _, q3, ys, ws, q4, q5, q6⟩ := h.mem q
    rw [at1 e (fun z => nomatch z)] at q4
    cases q4
    exact ⟨a, ws, q, q, atV q3, q5, eA q6⟩
  · obtain ⟨_, _, _, ys, ws, q4, _⟩ := h.mem e
    exact .inr ⟨ys, at2 q4⟩
  · obtain ⟨_, _, _, ys, ws, q4, _⟩ := h.mem e
    exact ⟨ys, at2 q4⟩
  · obtain ⟨i, q⟩ := h.all e
    obtain ⟨_, _, _, ys, ws, _, q5, _⟩ := h.mem q
    exact ⟨_, q5⟩
/-- a body that keeps to its evaluator keeps the promise -/
theorem body_ok {t : TS} {body : EvSt} {N : List Str} {vs : List V} {Q : VK} {E : XK} (hb : SS K t body) (h : spF K (eFn N.length body) vs H Q E) : t { nx := fun _ H' => Q .non H', rt := Q } (L2.start N vs) H := by
  obtain ⟨P, args, L, d, outs, hP, ha, hF, q⟩ := h
  unfold eFn at hF
  split at hF
  rotate_left
  · cases hF
  rename_i hl
  obtain ⟨⟨fl, e⟩, q1, q2⟩ := bind_eq hF
  refine hb _ _ _ H _ fl e (RE.entry (N := N) ha hP hl) q1 _ fun own' σ' H' R' g' => ?_
  have fin : ∀ {v : V} {d : PyData}, Rp K (hh { H0 := H, P := P, M := fun a => a ∈ L, io := ioF vs args } own' H') v d → outs = outsOf args e → (∀ Q' : Prop, (Rp K (hdn P H') v d → OutsR K P H' L outs → Q') → Q') := fun {v d} r ho Q' k => by
    refine k (r.ext (hdn_le fun a z => .inl z)) ?_
    rw [ho]
    refine outs_ok ha fun i a z => ?_
    obtain ⟨xs, e1⟩ := R'.ios i a z
    obtain ⟨b, ws, _, e3, _, e5, e6⟩ := R'.io i xs e1
    have e3 : ioF vs args i = some b := e3
    rw [z] at e3; cases e3
    exact ⟨xs, ws, e1, e5, e6.ext (hdn_le fun a z => .inl z)⟩
  have kp : ∀ a o, H a = some o → a ∉ L → H' a = some o := fun a o e n => R'.pres a o e n
  cases fl with
  | nx =>
    cases q2
    show Q .non H'
    exact fin (v := .non) (d := .none) .non rfl _ fun h1 h2 => q _ _ kp h1 h2
  | bk => cases q2
  | ct => cases q2
  | rt d' =>
    cases q2
    intro v r
    exact fin r rfl _ fun h1 h2 => q _ _ kp h1 h2
end

/-! ### calls -/
abbrev Ag := PyData ⊕ Nat
abbrev EvAg := En → Res (List Ag × En)
def aNil : EvAg := fun env => .ok ([], env)
def aV (f : EvS) (g : EvAg) : EvAg := fun env => f env >>= fun p => g p.2 >>= fun q => .ok (.inl p.1 :: q.1, q.2)
def aIo (i : Nat) (g : EvAg) : EvAg := fun env => own? env i >>= fun _ => g env >>= fun q => .ok (.inr i :: q.1, q.2)
def iosA : List Ag → List Nat
  | [] => []
  | .inl _ :: r => iosA r
  | .inr i :: r => i :: iosA r
def mkArgs (env : En) : List Ag → Res (List Sl)
  | [] => .ok []
  | .inl d :: r => mkArgs env r >>= fun ss => .ok (.va d :: ss)
  | .inr i :: r => own? env i >>= fun xs => mkArgs env r >>= fun ss => .ok (.io xs :: ss)
def wrA : List Ag → List (List PyData) → En → En
  | .inr i :: r, o :: os, env => wrA r os (reown env i o)
  | .inl _ :: r, os, env => wrA r os env
  | _, _, env => env
def eCall (F : Fn) (f : EvAg) : Ev := fun env => f env >>= fun p => if (iosA p.1).Nodup then mkArgs p.2 p.1 >>= F >>= fun r => .ok (.d r.1, wrA p.1 r.2 p.2) else .bad
def AgR (K : PySem.W.Frag) (C : Cn) (own : Own) (σ : L2.St) (H : Hp) (v : V) : Ag → Prop
  | .inl d => Rp K (hh C own H) v d
  | .inr i => σ[i]? = some (some v)
def SAg (K : PySem.W.Frag) (t : TA) (f : EvAg) : Prop :=
  ∀ C own σ H env ags env', RE K C own σ H env → f env = .ok (ags, env') → ∀ Q : List V → Hp → Prop, (∀ own' vs H', RE K C own' σ H' env' → Grow C own H own' H' → Paired (AgR K C own' σ H') vs ags → Q vs H') → t σ H Q
section
variable {K : PySem.W.Frag} {C : Cn} {own own' : Own} {σ σ' : L2.St} {H H' : Hp} {env env' : En}
theorem sag_nil : SAg K tNil aNil := fun C own σ H env ags env' R q Q k => by cases q; exact k own [] H R .refl .nil
theorem sag_v {te : TE} {t : TA} {f : EvS} {g : EvAg} (h : SV K te f) (hr : SAg K t g) : SAg K (tCons te t) (aV f g) := fun C own σ H env ags env' R q Q k => by
  obtain ⟨⟨d, e1⟩, q1, q⟩ := bind_eq q
  obtain ⟨⟨as, e2⟩, q2, q⟩ := bind_eq q
  cases q
  refine h C own σ H env d e1 R q1 _ fun o1 v H1 R1 g1 r1 => ?_
  exact hr C o1 σ H1 e1 as _ R1 q2 _ fun o2 vs H2 R2 g2 r2 => k o2 (v :: vs) H2 R2 (g1.trans g2) (.cons (r1.ext g2) r2)
theorem sag_io {i : Nat} {t : TA} {g : EvAg} (hr : SAg K t g) : SAg K (tCons (tVar i) t) (aIo i g) := fun C own σ H env ags env' R q Q k => by
  obtain ⟨xs, q1, q⟩ := bind_eq q
  obtain ⟨⟨as, e2⟩, q2, q⟩ := bind_eq q
  cases q
  obtain ⟨a, vs, h1, h2, h3, h4⟩ := R.own? q1
  refine ⟨.ref a, h2, ?_⟩
  exact hr C own σ H env as _ R q2 _ fun o2 vs H2 R2 g2 r2 => k o2 (_ :: vs) H2 R2 g2 (.cons h2 r2)
theorem args_ok (R : RE K C own σ H env) : ∀ {vs : List V} {ags : List Ag} {args : List Sl}, Paired (AgR K C own σ H) vs ags → (iosA ags).Nodup → mkArgs env ags = .ok args →
    ∃ L, ArgsR K (Hd C own) H vs args L ∧ Paired (fun i a => own i = some a) (iosA ags) L
  | _, _, _, .nil, _, q => by cases q; exact ⟨[], .nil, .nil⟩
  | v :: _, .inl d :: r, _, .cons h t, n, q => by
    obtain ⟨ss, q1, q⟩ := bind_eq q
    cases q
    obtain ⟨L, h1, h2⟩ := args_ok R t n q1
    exact ⟨L, .va h h1, h2⟩
  | v :: _, .inr i :: r, _, .cons h t, n, q => by
    obtain ⟨xs, q1, q⟩ := bind_eq q
    obtain ⟨ss, q2, q⟩ := bind_eq q
    cases q
    have n : (i :: iosA r).Nodup := n
    obtain ⟨L, h1, h2⟩ := args_ok R t (List.nodup_cons.mp n).2 q2
    obtain ⟨a, ws, e1, e2, e3, e4⟩ := R.own? q1
    have h : σ[i]? = some (some v) := h
    rw [h] at e2; cases e2
    have naL : a ∉ L := fun z => by
      have key : ∀ {is : List Nat} {L : List Addr}, Paired (fun i a => own i = some a) is L → a ∈ L → i ∈ is := by
        intro is L p
        induction p with
        | nil => intro z; cases z
        | cons r t ih =>
          intro z
          rcases List.mem_cons.mp z with rfl | z
          · exact List.mem_cons.mpr (.inl (R.inj _ _ _ e1 r))
          · exact List.mem_cons_of_mem _ (ih z)
      exact (List.nodup_cons.mp n).1 (key h2 z)
    exact ⟨a :: L, .io (.inr ⟨i, e1⟩) e3 e4 naL h1, .cons e1 h2⟩
theorem own?_reown {i j : Nat} {ys : List PyData} (h : j ≠ i) : own? (reown env i ys) j = own? env j := by
  have e : (reown env i ys)[j]? = env[j]? := by
    unfold reown
    split <;> rw [List.getElem?_set_ne (Ne.symm h)]
  unfold own?
  rw [e]
theorem wr_ok : ∀ {ags : List Ag} {L : List Addr} {outs : List (List PyData)} {env : En} {H : Hp}, RE K C own σ H env → Paired (fun i a => own i = some a) (iosA ags) L → (iosA ags).Nodup → OutsR K (Hd C own) H' L outs →
    (∀ i ∈ iosA ags, ∃ xs, own? env i = .ok xs) → (∀ a, a ∉ L → H a = H' a) → RE K C own σ H' (wrA ags outs env)
  | [], L, outs, env, H, R, p, _, o, _, e => by
    cases p
    cases o
    have : H = H' := funext fun a => e a (by simp)
    rw [← this]
    exact R
  | .inl d :: r, L, outs, env, H, R, p, n, o, w, e => wr_ok (ags := r) R p n o w e
  | .inr i :: r, L, outs, env, H, R, p, n, o, w, e => by
    have p' : Paired (fun i a => own i = some a) (i :: iosA r) L := p
    clear p
    have n : (i :: iosA r).Nodup := n
    cases p' with
    | @cons _ a _ L' ha p =>
      cases o with
      | @cons _ ys _ os hy o =>
        obtain ⟨ws, hy1, hy2⟩ := hy
        obtain ⟨xs, hx⟩ := w i (by simp [iosA])
        have hL : ∀ b ∈ a :: L', Hd C own b := by
          have key : ∀ {is : List Nat} {L : List Addr}, Paired (fun i a => own i = some a) is L → ∀ b ∈ L, Hd C own b := by
            intro is L p
            induction p with
            | nil => intro b z; cases z
            | cons r t ih =>
              intro b z
              rcases List.mem_cons.mp z with rfl | z
              · exact .inr ⟨_, r⟩
              · exact ih b z
          exact key (.cons ha p)
        have vis : Ext (hdn (Hd C own) H') (hh C own H) := fun b o q => by
          obtain ⟨q1, q2⟩ := hdn_some.mp q
          exact hdn_some.mpr ⟨q1, by rw [e b (fun z => q1 (hL b z))]; exact q2⟩
        obtain ⟨R2, _⟩ := R.mut hx ha (hy2.ext vis)
        refine wr_ok (ags := r) R2 p (List.nodup_cons.mp n).2 o (fun j hj => ?_) fun b hb => ?_
        · have nj : j ≠ i := fun z => (List.nodup_cons.mp n).1 (z ▸ hj)
          rw [own?_reown nj]
          exact w j (by simp [iosA, hj])
        · by_cases z : b = a
          · subst z; rw [upd_same]; exact hy1.symm
          · rw [upd_ne z]
            exact e b (by simp [z, hb])
theorem call_core {o1 : Own} {H1 : Hp} {e1 : En} {vs : List V} {ags : List Ag} {args : List Sl} {d : PyData} {outs : List (List PyData)} {F : Fn} {E : XK} {Q : VK} (R1 : RE K C o1 σ H1 e1) (r1 : Paired (AgR K C o1 σ H1) vs ags) (hn : (iosA ags).Nodup)
    (q3 : mkArgs e1 ags = .ok args) (q2 : F args = .ok (d, outs)) (k : ∀ v H', RE K C o1 σ H' (wrA ags outs e1) → Grow C o1 H1 o1 H' → Rp K (hh C o1 H') v d → Q v H') : spF K F vs H1 Q E := by
  obtain ⟨L, h1, h2⟩ := args_ok R1 r1 hn q3
  refine ⟨Hd C o1, args, L, d, outs, fun a z => R1.hd_some z, h1, q2, fun v H' kp rv ro => ?_⟩
  have hL : ∀ b ∈ L, ∃ i, o1 i = some b := by
    have key : ∀ {is : List Nat} {L : List Addr}, Paired (fun i a => o1 i = some a) is L → ∀ b ∈ L, ∃ i, o1 i = some b := by
      intro is L p
      induction p with
      | nil => intro b z; cases z
      | cons r t ih =>
        intro b z
        rcases List.mem_cons.mp z with rfl | z
        · exact ⟨_, r⟩
        · exact ih b z
    exact key h2
  have g2 : Grow C o1 H1 o1 H' := fun a o z => by
    obtain ⟨z1, z2⟩ := hdn_some.mp z
    exact hdn_some.mpr ⟨z1, kp a o z2 fun zz => z1 (.inr (hL a zz))⟩
  -- first all that is not handed over
  let Hm : Hp := fun a => if a ∈ L then H1 a else H' a
  have em : Ext H1 Hm := fun a o z => by
    show (if a ∈ L then H1 a else H' a) = _
    by_cases hz : a ∈ L
    · rw [if_pos hz]; exact z
    · rw [if_neg hz]; exact kp a o z hz
  obtain ⟨Rm, _⟩ := R1.up em
  have ws : ∀ {ags : List Ag} {args : List Sl}, mkArgs e1 ags = .ok args → ∀ i ∈ iosA ags, ∃ xs, own? e1 i = .ok xs := by
    intro ags
    induction ags with
    | nil => intro args _ i hi; cases hi
    | cons g r ih =>
      intro args q i hi
      cases g with
      | inl d =>
        obtain ⟨ss, z1, _⟩ := bind_eq q
        exact ih z1 i hi
      | inr j =>
        obtain ⟨xs, z1, q⟩ := bind_eq q
        obtain ⟨ss, z2, _⟩ := bind_eq q
        rcases List.mem_cons.mp hi with rfl | hi
        · exact ⟨xs, z1⟩
        · exact ih z2 i hi
  have R3 : RE K C o1 σ H' (wrA ags outs e1) := wr_ok Rm h2 hn ro (ws q3) fun a ha => by
    show (if a ∈ L then H1 a else H' a) = _
    rw [if_neg ha]
  exact k v H' R3 g2 rv
theorem se_call {t : TA} {f : EvAg} {F : Fn} {E : XK} (h : SAg K t f) : SE K (tCall (spF K F) [] E t) (eCall F f) := fun C own σ H env w env' R q Q k => by
  obtain ⟨⟨ags, e1⟩, q1, q⟩ := bind_eq q
  split at q
  rotate_left
  · cases q
  rename_i hn
  obtain ⟨⟨d, outs⟩, q2, q⟩ := bind_eq q
  obtain ⟨args, q3, q2⟩ := bind_eq q2
  cases q
  refine h C own σ H env ags e1 R q1 _ fun o1 vs H1 R1 g1 r1 => ?_
  rw [List.append_nil]
  exact call_core R1 r1 hn q3 q2 fun v H' R3 g2 rv => k o1 v H' R3 (g1.trans g2) rv
end
end XL

namespace XL
open PySem PySem.Spec L2

/-! ### a def of the text, with what it promises -/
structure Cal (P : Program) (w : World) (K : PySem.W.Frag) (mg : Str → Option Value) (base : Heap) (k : Nat) (x : Str) (st : Stmt) (ps : List Str) (F : Fn) : Prop where
  ex : ∃ (f : Addr) (fd : FuncData), mg x = some (.ref f) ∧ Fun K x x st f fd ∧ Binds K fd ps [] ∧ FnOk P w K mg base CX0 k f fd ps (spF K F)
/-- where it stands -/
structure Def (K : PySem.W.Frag) (mg : Str → Option Value) (x : Str) (st : Stmt) (ps : List Str) : Prop where
  ex : ∃ (f : Addr) (fd : FuncData), mg x = some (.ref f) ∧ Fun K x x st f fd ∧ Binds K fd ps []
theorem spF_len {K : PySem.W.Frag} {F : Fn} {n : Nat} (h : ∀ args r, F args = .ok r → args.length = n) : ∀ vs H Q E, spF K F vs H Q E → vs.length = n := fun vs H Q E ⟨P, args, L, d, outs, _, ha, hF, _⟩ => by
  rw [ha.len]
  exact h _ _ hF
/-- a def takes just so many arguments -/
def ar (n : Nat) (F : Fn) : Fn := fun args => if args.length = n then F args else .bad
theorem ar_len {n : Nat} {F : Fn} : ∀ args r, ar n F args = .ok r → args.length = n := fun args r h => by
  unfold ar at h
  split at h
  · assumption
  · cases h
theorem ar_of {n : Nat} {F : Fn} {args : List Sl} {r : PyData × List (List PyData)} (h : ar n F args = .ok r) : F args = .ok r := by
  unfold ar at h
  split at h
  · exact h
  · cases h
section
variable {P : Program} {w : World} {K : PySem.W.Frag} {mg : Str → Option Value} {base : Heap}
theorem Def.cal {x : Str} {st : Stmt} {ps N : List Str} {k : Nat} {body : EvSt} (D : Def K mg x st ps) (S : FnScope N ps (defScope st))
    (h : ∀ (f : Addr) (cdv : Value) (A : Around) (outer : List Env) (s : Shared) (H : Hp) (E : XK), Room k (A.deeper (PyProof.Rows.envOfC x (defScope st) s.heap.objs.size f cdv)) →
      ∃ t, XB (cxOf CX0 P w K mg base N x (defScope st) f cdv A outer s H E).nox (defBody st) t body) : Cal P w K mg base (k + 1) x st ps (ar ps.length (eFn N.length body)) := by
  obtain ⟨f, fd, g, F, b⟩ := D.ex
  refine ⟨f, fd, g, F, b, F.ok S (spF_len ar_len) fun cdv A outer s H vs Q E hr hsp => ?_⟩
  obtain ⟨t, ht⟩ := h f cdv A outer s H E hr
  obtain ⟨P', args, L, d, outs, h1, h2, h3, h4⟩ := hsp
  exact ⟨t, ht.ps, body_ok (E := E) ht.ss ⟨P', args, L, d, outs, h1, h2, ar_of h3, h4⟩⟩
end

/-! ### expressions -/
section
variable {X : Cx} {pos : Pos}
theorem xv (i : Nat) {x : Str} (hN : X.N[i]? = some x := by rfl) (hv : Vis X.env.scope x := by first | exact Or.inl rfl | exact Or.inr (Or.inl rfl) | exact Or.inr (Or.inr rfl)) (hd : (x == ("__debug__" : Str)) = false := by decide)
    (hcd : (x == ("__classdict__" : Str)) = false := by decide) : XE X (.Name x pos) (tVar i) (eVar i) := ⟨pv i hN hv hd hcd, se_var i⟩
theorem xint {i : Int} {j : Nat} : XE X (.Constant (.int i) j pos) (tC (.int i)) (eC (.int i)) := ⟨pe_int, se_c fun _ => .int i⟩
theorem xbl {b : Bool} {j : Nat} : XE X (.Constant (.bool b) j pos) (tC (.bl b)) (eC (.bool b)) := ⟨pe_bl, se_c fun _ => .bl b⟩
theorem xnon {j : Nat} : XE X (.Constant .none j pos) (tC .non) (eC .none) := ⟨pe_non, se_c fun _ => .non⟩
theorem xstr {x : Str} {j : Nat} : XE X (.Constant (.str x) j pos) (tC (.str x)) (eC (.str x)) := ⟨pe_str, se_c fun _ => .str x⟩
/-- a module's int -/
theorem xgi {x : Str} {i : Int} {t : Tok} (hm : X.mg x = some (.int i t)) (hg : Gl X x := by rfl) (hd : (x == ("__debug__" : Str)) = false := by decide) : XE X (.Name x pos) (tC (.int i)) (eC (.int i)) := ⟨pe_glob hg hm ⟨_, rfl⟩ hd, se_c fun _ => .int i⟩
variable {a b c : Expr} {ta tb tc : TE} {f g h : Ev}
theorem xadd (ha : XE X a ta f) (hb : XE X b tb g) : XE X (.BinOp a .Add b pos) (tOp (rAdd X.K) ta tb) (eBin oAdd f g) := ⟨pe_op op_addU ha.pe hb.pe, se_bin ha.se hb.se o_add⟩
theorem xsub (ha : XE X a ta f) (hb : XE X b tb g) : XE X (.BinOp a .Sub b pos) (tOp (rI0 fun i j => .int (i - j)) ta tb) (eBin oSub f g) := ⟨pe_op op_sub ha.pe hb.pe, se_bin ha.se hb.se o_sub⟩
theorem xmul (ha : XE X a ta f) (hb : XE X b tb g) : XE X (.BinOp a .Mult b pos) (tOp rMul ta tb) (eBin oMul f g) := ⟨pe_op op_mulU ha.pe hb.pe, se_bin ha.se hb.se o_mul⟩
theorem xmod (ha : XE X a ta f) (hb : XE X b tb g) : XE X (.BinOp a .Mod b pos) (tOp (rI (fun _ j => 0 < j) fun i j => .int (i % j)) ta tb) (eBin oMod f g) := ⟨pe_op op_mod ha.pe hb.pe, se_bin ha.se hb.se o_mod⟩
theorem xdiv (ha : XE X a ta f) (hb : XE X b tb g) : XE X (.BinOp a .FloorDiv b pos) (tOp (rI CDivW fun i j => .int (i / j)) ta tb) (eBin oDiv f g) := ⟨pe_op op_fdivW ha.pe hb.pe, se_bin ha.se hb.se o_div⟩
theorem xpow (ha : XE X a ta f) (hb : XE X b tb g) : XE X (.BinOp a .Pow b pos) (tOp (rI CPow fun i j => .int (i ^ j.toNat)) ta tb) (eBin oPow f g) := ⟨pe_op op_pow ha.pe hb.pe, se_bin ha.se hb.se o_pow⟩
theorem xneg (ha : XE X a ta f) : XE X (.UnaryOp .USub a pos) (tUn (rU fun i => .int (-i)) ta) (eUn oNeg f) := ⟨pe_un un_neg ha.pe, se_un ha.se o_neg⟩
/-- a comparison: its operator's rule and its meaning -/
structure Cmp (X : Cx) (op : CmpOp) (r : R2) (o : PyData → PyData → Res PyData) : Prop where
  op : OpR X (compareOp op) r
  so : O2 X.K r o
theorem c_lt : Cmp X .Lt (rI0 fun i j => .bl (decide (i < j))) oLt := ⟨op_lt, o_lt⟩
theorem c_le : Cmp X .LtE (rI0 fun i j => .bl (decide (i ≤ j))) oLe := ⟨op_le, o_le⟩
theorem c_gt : Cmp X .Gt (rI0 fun i j => .bl (decide (j < i))) oGt := ⟨op_gt, o_gt⟩
theorem c_ge : Cmp X .GtE (rI0 fun i j => .bl (decide (j ≤ i))) oGe := ⟨op_ge, o_ge⟩
theorem c_eq {k : Nat} (hr : Room k X.A) : Cmp X .Eq (rEqD X.K) oEq := ⟨op_eqD hr.units, o_eq⟩
theorem c_ne {k : Nat} (hr : Room k X.A) : Cmp X .NotEq (rNeD X.K) oNe := ⟨op_neD hr.units, o_ne⟩
theorem c_is : Cmp X .Is rIsU oIs := ⟨op_isU, o_is⟩
theorem c_isNot : Cmp X .IsNot rNotU oIsNot := ⟨op_notU, o_isNot⟩
theorem room65 {k : Nat} {A : Around} (r : Room k A) : A.units + 65 < cLine := by have := r.un; omega
theorem c_in {k : Nat} (hr : Room k X.A) : Cmp X .In (rInD X.K) oIn := ⟨op_inD (room65 hr), o_in⟩
theorem c_notIn {k : Nat} (hr : Room k X.A) : Cmp X .NotIn (rNotInD X.K) oNotIn := ⟨op_notInD (room65 hr), o_notIn⟩
theorem xcmp {op : CmpOp} {r : R2} {o : PyData → PyData → Res PyData} (hc : Cmp X op r o) (ha : XE X a ta f) (hb : XE X b tb g) (hm : behindInMarks op b = false := by rfl) : XE X (.Compare a [op] [b] pos) (tOp r ta tb) (eBin o f g) := ⟨pe_cmpR hc.op ha.pe hb.pe hm, se_bin ha.se hb.se hc.so⟩
theorem tcmp {op : CmpOp} {r : R2} {o : PyData → PyData → Res PyData} (hc : Cmp X op r o) (ha : XE X a ta f) (hb : XE X b tb g) (hm : behindInMarks op b = false := by rfl) : XT X (.Compare a [op] [b] pos) (tTest (tOp r ta tb)) (eT (eBin o f g)) := ⟨pt_cmpR hc.op ha.pe hb.pe hm, st_cmp (se_bin ha.se hb.se hc.so)⟩
/-- a op b op' c -/
def eChain (o o' : PyData → PyData → Res PyData) (f g h : Ev) : Ev := fun env => f env >>= fun p => g p.2 >>= fun q => rd q.2 p.1 >>= fun x => rd q.2 q.1 >>= fun y => o x y >>= asB >>= fun k =>
  if k = true then h q.2 >>= fun r => rd r.2 q.1 >>= fun y' => rd r.2 r.1 >>= fun z => o' y' z >>= fun v => .ok (.d v, r.2) else .ok (.d (.bool false), q.2)
theorem se_chain {K : PySem.W.Frag} {r r' : R2} {o o' : PyData → PyData → Res PyData} (ho : O2 K r o) (ho' : O2 K r' o') (ha : SE K ta f) (hb : SE K tb g) (hc : SE K tc h) : SE K (tChain r r' ta tb tc) (eChain o o' f g h) := fun C own σ H env w env' R q Q k => by
  obtain ⟨⟨w1, e1⟩, q1, q⟩ := bind_eq q
  obtain ⟨⟨w2, e2⟩, q2, q⟩ := bind_eq q
  obtain ⟨x, q3, q⟩ := bind_eq q
  obtain ⟨y, q4, q⟩ := bind_eq q
  obtain ⟨b', q5, q⟩ := bind_eq q
  obtain ⟨z, q6, q5⟩ := bind_eq q5
  refine ha C own σ H env w1 e1 R q1 _ fun o1 u H1 R1 g1 r1 => ?_
  refine hb C o1 σ H1 e1 w2 e2 R1 q2 _ fun o2 v H2 R2 g2 r2 => ?_
  refine ho C o2 σ e2 H2 u v x y z R2 ((r1.grow g2).get R2 q3) (r2.get R2 q4) q6 _ fun a' H3 e3 r3 => ?_
  obtain ⟨R3, g3⟩ := R2.up e3
  have ez := asB_eq q5
  subst ez
  cases r3
  refine ⟨b', rfl, ?_⟩
  cases b' with
  | false => cases q; exact iteF (k o2 _ H3 R3 ((g1.trans g2).trans g3) (Rp.bl false))
  | true =>
    obtain ⟨⟨w4, e4⟩, q7, q⟩ := bind_eq q
    obtain ⟨y', q8, q⟩ := bind_eq q
    obtain ⟨z', q9, q⟩ := bind_eq q
    obtain ⟨v', q10, q⟩ := bind_eq q
    cases q
    refine iteT (hc C o2 σ H3 e2 w4 _ R3 q7 _ fun o4 t4 H4 R4 g4 r4 => ?_)
    refine ho' C o4 σ _ H4 v t4 y' z' v' R4 (((r2.grow g3).grow g4).get R4 q8) (r4.get R4 q9) q10 Q fun a5 H5 e5 r5 => ?_
    obtain ⟨R5, g5⟩ := R4.up e5
    exact k o4 a5 H5 R5 ((((g1.trans g2).trans g3).trans g4).trans g5) r5
theorem xchain {op op' : CmpOp} {r r' : R2} {o o' : PyData → PyData → Res PyData} (h1 : Cmp X op r o) (h2 : Cmp X op' r' o') (ha : XE X a ta f) (hb : XE X b tb g) (hc : XE X c tc h) (hm : lastMarks [op, op'] [b, c] = false := by with_unfolding_all rfl) :
    XE X (.Compare a [op, op'] [b, c] pos) (tChain r r' ta tb tc) (eChain o o' f g h) := ⟨pe_chain h1.op h2.op ha.pe hb.pe hc.pe hm, se_chain h1.so h2.so ha.se hb.se hc.se⟩
theorem tchain {op op' : CmpOp} {r r' : R2} {o o' : PyData → PyData → Res PyData} (h1 : Cmp X op r o) (h2 : Cmp X op' r' o') (ha : XE X a ta f) (hb : XE X b tb g) (hc : XE X c tc h) (hm : lastMarks [op, op'] [b, c] = false := by with_unfolding_all rfl) :
    XT X (.Compare a [op, op'] [b, c] pos) (tTest (tChain r r' ta tb tc)) (eT (eChain o o' f g h)) := ⟨pt_chain h1.op h2.op ha.pe hb.pe hc.pe hm, st_cmp (se_chain h1.so h2.so ha.se hb.se hc.se)⟩
/-- any expression that gives a bool, as a test -/
theorem tval (ha : XE X a ta f) (he : ∀ whole, isTrue a X.env whole = (do let v ← whole; standAt a.pos; holding [v] (truthy v)) := by intro _; rfl) : XT X a (tB ta) (eT f) := ⟨pt_val ha.pe he, st_val ha.se⟩
theorem st_tru {K : PySem.W.Frag} (ha : SE K ta f) : ST K (fun σ H Q => ta σ H fun x H' => ∃ k, TruV K x H' k ∧ Q k H') (eTru f) := fun C own σ H env b env' R q Q k => by
  obtain ⟨⟨w1, e1⟩, q1, q⟩ := bind_eq q
  obtain ⟨x, q3, q⟩ := bind_eq q
  obtain ⟨z, q5, q⟩ := bind_eq q
  cases q
  refine ha C own σ H env w1 e1 R q1 _ fun o1 u H1 R1 g1 r1 => ?_
  have h := r1.get R1 q3
  refine ⟨b, ?_, k o1 H1 R1 g1⟩
  unfold truD at q5
  split at q5
  · cases q5; rw [h.bl]; rfl
  · cases q5; rw [h.non]; rfl
  · cases q5; rw [h.int]; rfl
  · cases q5
    obtain ⟨a, vs, rfl, e1, e2⟩ := h.lst (hh_ext C o1 H1)
    refine .inl ⟨vs, SqL.of e1, ?_⟩
    have := e2.len
    cases vs <;> cases ‹List PyData› <;> simp_all
  · cases q5
    obtain ⟨a, vs, rfl, e1, e2, _⟩ := h.tup (hh_ext C o1 H1)
    refine .inr (.inl ⟨vs, e1, ?_⟩)
    have := e2.len
    cases vs <;> cases ‹List PyData› <;> simp_all
  · cases q5
theorem ttru (ha : XE X a ta f) (he : ∀ whole, isTrue a X.env whole = (do let v ← whole; standAt a.pos; holding [v] (truthy v)) := by intro _; rfl) : XT X a (fun σ H Q => ta σ H fun x H' => ∃ k, TruV X.K x H' k ∧ Q k H') (eTru f) := ⟨pt_truth ha.pe he, st_tru ha.se⟩
/-- and, or as tests -/
structure XW (X : Cx) (e : Expr) (t : TT) (f : EvT) : Prop where
  pw : PW X e t
  st : ST X.K t f
variable {t u : TT} {p q : EvT} {rest : List Expr}
theorem wand1 (ha : XT X a t p) : XW X (.BoolOp .And [a] pos) t p := ⟨pw_and1 ha.pt, ha.se⟩
theorem wor1 (ha : XT X a t p) : XW X (.BoolOp .Or [a] pos) t p := ⟨pw_or1 ha.pt, ha.se⟩
theorem wand (ha : XT X a t p) (hb : XW X (.BoolOp .And (b :: rest) pos) u q) : XW X (.BoolOp .And (a :: b :: rest) pos) (tAnd t u) (eAndT p q) := ⟨pw_and ha.pt hb.pw, st_and ha.se hb.st⟩
theorem wor (ha : XT X a t p) (hb : XW X (.BoolOp .Or (b :: rest) pos) u q) : XW X (.BoolOp .Or (a :: b :: rest) pos) (tOr t u) (eOrT p q) := ⟨pw_or ha.pt hb.pw, st_or ha.se hb.st⟩
theorem tbo {e : Expr} (h : XW X e t p) : XT X e t p := ⟨h.pw.pt, h.st⟩
theorem tnot (ha : XT X a t p) : XT X (.UnaryOp .Not a pos) (tNot t) (eNotT p) := ⟨pt_not ha.pt, st_not ha.se⟩
/-- and, or, not as values -/
theorem xone {op : BoolOp} (ha : XE X a ta f) : XE X (.BoolOp op [a] pos) ta f := ⟨pe_one ha.pe, ha.se⟩
theorem xand (ha : XE X a ta f) (hb : XE X (.BoolOp .And (b :: rest) pos) tb g) : XE X (.BoolOp .And (a :: b :: rest) pos) (tAndV ta tb) (eAnd f g) := ⟨pe_and ha.pe hb.pe, se_and ha.se hb.se⟩
theorem xor (ha : XE X a ta f) (hb : XE X (.BoolOp .Or (b :: rest) pos) tb g) : XE X (.BoolOp .Or (a :: b :: rest) pos) (tOrV ta tb) (eOr f g) := ⟨pe_or ha.pe hb.pe, se_or ha.se hb.se⟩
theorem xnot (ha : XE X a ta f) : XE X (.UnaryOp .Not a pos) (tNotV ta) (eNot f) := ⟨pe_not ha.pe, se_not ha.se⟩
theorem xif (hc : XT X c t p) (ha : XE X a ta f) (hb : XE X b tb g) : XE X (.IfExp c a b pos) (tIf t ta tb) (eIf p f g) := ⟨pe_ifExp hc.pt ha.pe hb.pe, se_if hc.se ha.se hb.se⟩
theorem xix (ha : XE X a ta f) (hb : XE X b tb g) (hs : PlainIx b := by exact fun _ _ => rfl) : XE X (.Subscript a b pos) (tOp (rIxU X.K) ta tb) (eBin oIx f g) := ⟨pe_ix ix_U ha.pe hb.pe hs, se_bin ha.se hb.se o_ix⟩
theorem xo_none : XO X none tNoPart eNoPart := ⟨po_none, so_none⟩
theorem xo_some (h : XE X a ta f) : XO X (some a) (tPart ta) (ePart f) := ⟨po_some h.pe, so_part h.se⟩
theorem xsl {lo hi : Option Expr} {tl th : TO} {l h' : EvO} {p2 : Pos} (ha : XE X a ta f) (hl : XO X lo tl l) (hh : XO X hi th h') : XE X (.Subscript a (.Slice lo hi none p2) pos) (tSl (rSlU X.K) ta tl th) (eSl f l h') := ⟨pe_slice sl_U ha.pe hl.po hh.po, se_sl ha.se hl.so hh.so⟩
theorem xrev {k : Nat} {p1 p2 p3 : Pos} (ha : XE X a ta f) : XE X (.Subscript a (.Slice none none (some (.UnaryOp .USub (.Constant (.int 1) k p1) p2)) p3) pos) (tRevL X.K ta) (eUn oRev f) := ⟨pe_revL ha.pe, se_rev ha.se⟩
/-! argument lists -/
variable {es : List Expr} {tt : TA}
theorem xa_nil : XA X [] tNil eNil := ⟨pa_nil, sa_nil⟩
theorem xa_cons {fs : EvA} (ha : XE X a ta f) (hr : XA X es tt fs) (hs : starEach (a :: es) X.env = (false, eval a X.env) :: starEach es X.env := by rfl) : XA X (a :: es) (tCons ta tt) (eCons f fs) := ⟨pa_cons ha.pe hr.pa hs, sa_cons ha.se hr.sa⟩
theorem xl_nil : XL' X [] tNil eNilV := ⟨pa_nil, sl_nil⟩
theorem xl_cons {fv : EvS} {fs : EvL} (ha : XV X a ta fv) (hr : XL' X es tt fs) (hs : starEach (a :: es) X.env = (false, eval a X.env) :: starEach es X.env := by rfl) : XL' X (a :: es) (tCons ta tt) (eConsV fv fs) := ⟨pa_cons ha.pe hr.pa hs, sl_cons ha.se hr.sa⟩
theorem xtup {x1 : Nat} {fs : EvL} (h : XL' X es tt fs) : XE X (.Tuple es x1 pos) (tTup tt) (eTup fs) := ⟨pe_tup h.pa, se_tup h.sa⟩
theorem xlst {fs : EvL} (h : XL' X es tt fs) : XE X (.List es pos) (tLst tt) (eLst fs) := ⟨pe_lst h.pa, se_lst h.sa⟩
theorem flst {fs : EvL} (h : XL' X es tt fs) : XF X (.List es pos) (tLst tt) (eLstF fs) := ⟨pe_lst h.pa, sf_lst h.sa⟩
/-! built-in functions: name, rule, meaning -/
structure Blt (X : Cx) (u : Value) (r : List V → Hp → VK → Prop) (o : List PyData → Res PyData) : Prop where
  cr : CallR X u r
  so : OC X.K r o
theorem b_len : Blt X (.builtin "len") (XL.rLen X.K) oLen := ⟨call_len_seq, oc_len⟩
theorem b_abs : Blt X (.builtin "abs") rAbs oAbs := ⟨call_abs, oc_abs⟩
theorem b_int : Blt X (.type "int") rInt oInt := ⟨call_int1, oc_int⟩
theorem b_max (hc : X.calm = true := by rfl) : Blt X (.builtin "max") (rMaxU X.K) oMax := ⟨cr_maxU hc, oc_max⟩
theorem b_min (hc : X.calm = true := by rfl) : Blt X (.builtin "min") (rMinU X.K) oMin := ⟨cr_minU hc, oc_min⟩
theorem b_sum (hc : X.calm = true := by rfl) : Blt X (.builtin "sum") (L2.rSum X.K) oSum := ⟨cr_sum hc, oc_sum⟩
theorem b_all (hc : X.calm = true := by rfl) : Blt X (.builtin "all") (L2.rAll X.K) oAll := ⟨cr_all hc, oc_all⟩
theorem b_any (hc : X.calm = true := by rfl) : Blt X (.builtin "any") (L2.rAny X.K) oAny := ⟨cr_any hc, oc_any⟩
theorem b_divmod : Blt X (.builtin "divmod") rDivmod oDivmod := ⟨call_divmodW, oc_divmod⟩
theorem b_gcd : Blt X (.builtin "math.gcd") rGcd oGcd := ⟨cr_gcd, oc_gcd⟩
theorem b_tuple : Blt X (.type "tuple") (rTupOf X.K) oTuple := ⟨call_tuple_of, oc_tuple⟩
theorem b_list : Blt X (.type "list") (rListOf X.K) oList := ⟨call_list_of, oc_list⟩
theorem b_sorted : Blt X (.builtin "sorted") (rSortedI X.K) oSorted := ⟨cr_sortedI, oc_sorted⟩
variable {id : String} {r : List V → Hp → VK → Prop} {o : List PyData → Res PyData} {x : Str} {ps : Pos} {fs : EvA}
theorem xcb (hc : Blt X (.builtin id) r o) (hm : X.mg x = none) (hv : bootBuiltins x = some (.builtin id)) (ha : XA X (a :: es) tt fs) (hg : Gl X x := by rfl) (hn : x ≠ "__name__" := by decide) (hdb : (x == ("__debug__" : Str)) = false := by decide)
    (he : starEach (a :: es) X.env = (false, eval a X.env) :: starEach es X.env := by rfl) (hpl : (backTo pos (starEach es X.env)).any (·.1) = false := by rfl) : XE X (.Call (.Name x ps) (a :: es) [] pos) (tCB r tt) (eCB o fs) := ⟨pe_callB hc.cr hg hm hv ha.pa hn hdb he hpl, se_cb ha.sa hc.so⟩
theorem xcty (hc : Blt X (.type id) r o) (hm : X.mg x = none) (hv : bootBuiltins x = some (.type id)) (ha : XA X (a :: es) tt fs) (hg : Gl X x := by rfl) (hn : x ≠ "__name__" := by decide) (hdb : (x == ("__debug__" : Str)) = false := by decide)
    (he : starEach (a :: es) X.env = (false, eval a X.env) :: starEach es X.env := by rfl) (hpl : (backTo pos (starEach es X.env)).any (·.1) = false := by rfl) : XE X (.Call (.Name x ps) (a :: es) [] pos) (tCB r tt) (eCB o fs) := ⟨pe_callTy hc.cr hg hm hv ha.pa hn hdb he hpl, se_cb ha.sa hc.so⟩
/-- a built-in function by a module's name -/
theorem xcg (hc : Blt X (.builtin id) r o) (hm : X.mg x = some (.builtin id)) (ha : XA X (a :: es) tt fs) (hg : Gl X x := by rfl) (hdb : (x == ("__debug__" : Str)) = false := by decide)
    (he : starEach (a :: es) X.env = (false, eval a X.env) :: starEach es X.env := by rfl) (hpl : (backTo pos (starEach es X.env)).any (·.1) = false := by rfl) : XE X (.Call (.Name x ps) (a :: es) [] pos) (tCB r tt) (eCB o fs) := ⟨pe_callBfun hc.cr hg hm ha.pa hdb he hpl, se_cb ha.sa hc.so⟩
/-- new lists -/
structure BltF (X : Cx) (u : Value) (r : List V → Hp → VK → Prop) (o : List PyData → Res PyData) : Prop where
  cr : CallR X u r
  so : OCF X.K r o
theorem bf_list : BltF X (.type "list") (rListOf X.K) oList := ⟨call_list_of, ocf_list⟩
theorem bf_sorted : BltF X (.builtin "sorted") (rSortedI X.K) oSorted := ⟨cr_sortedI, ocf_sorted⟩
theorem fcb (hc : BltF X (.builtin id) r o) (hm : X.mg x = none) (hv : bootBuiltins x = some (.builtin id)) (ha : XA X (a :: es) tt fs) (hg : Gl X x := by rfl) (hn : x ≠ "__name__" := by decide) (hdb : (x == ("__debug__" : Str)) = false := by decide)
    (he : starEach (a :: es) X.env = (false, eval a X.env) :: starEach es X.env := by rfl) (hpl : (backTo pos (starEach es X.env)).any (·.1) = false := by rfl) : XF X (.Call (.Name x ps) (a :: es) [] pos) (tCB r tt) (eCBF o fs) := ⟨pe_callB hc.cr hg hm hv ha.pa hn hdb he hpl, sf_cb ha.sa hc.so⟩
theorem fcty (hc : BltF X (.type id) r o) (hm : X.mg x = none) (hv : bootBuiltins x = some (.type id)) (ha : XA X (a :: es) tt fs) (hg : Gl X x := by rfl) (hn : x ≠ "__name__" := by decide) (hdb : (x == ("__debug__" : Str)) = false := by decide)
    (he : starEach (a :: es) X.env = (false, eval a X.env) :: starEach es X.env := by rfl) (hpl : (backTo pos (starEach es X.env)).any (·.1) = false := by rfl) : XF X (.Call (.Name x ps) (a :: es) [] pos) (tCB r tt) (eCBF o fs) := ⟨pe_callTy hc.cr hg hm hv ha.pa hn hdb he hpl, sf_cb ha.sa hc.so⟩
theorem fadd (ha : XE X a ta f) (hb : XE X b tb g) : XF X (.BinOp a .Add b pos) (tOp (rAdd X.K) ta tb) (eBinF oAdd f g) := ⟨pe_op op_addU ha.pe hb.pe, sf_bin ha.se hb.se o2f_add⟩
theorem fmul (ha : XE X a ta f) (hb : XE X b tb g) : XF X (.BinOp a .Mult b pos) (tOp rMul ta tb) (eBinF oMul f g) := ⟨pe_op op_mulU ha.pe hb.pe, sf_bin ha.se hb.se o2f_mul⟩
/-! isinstance -/
theorem xisi1 {T : String} {y : Str} {p2 : Pos} (ha : XE X a ta f) (hm : X.mg "isinstance" = none) (hy : X.mg y = none) (hv : bootBuiltins y = some (.type T)) (hT : tysOk [T] = true := by decide +kernel) (hg : Gl X "isinstance" := by rfl) (hgy : Gl X y := by rfl)
    (hn : y ≠ "__name__" := by decide) (hdb : (y == ("__debug__" : Str)) = false := by decide)
    (he : starEach [a, .Name y p2] X.env = (false, eval a X.env) :: starEach [.Name y p2] X.env := by rfl) (he2 : starEach [.Name y p2] X.env = (false, eval (.Name y p2) X.env) :: starEach [] X.env := by rfl) (hpl : (backTo pos (starEach [.Name y p2] X.env)).any (·.1) = false := by rfl) :
    XE X (.Call (.Name "isinstance" ps) [a, .Name y p2] [] pos) (tCB (rIsi X.K) (tCons ta (tCons (tC (.ty T)) tNil))) (eIsi f [T]) :=
  ⟨pe_callB call_isi hg hm PyProof.Rows.boot_isinstance (pa_cons ha.pe (pa_cons (pe_bltn (v := .ty T) hgy hy hv rfl hn hdb) pa_nil he2) he) (he := he) (hpl := hpl), se_isi1 ha.se hT⟩
/-- the classes by their names -/
structure XTy (X : Cx) (es : List Expr) (t : TA) (Ts : List String) : Prop where
  pa : PA X es t
  st : ∀ σ H Q, Q (Ts.map V.ty) H → t σ H Q
theorem xty_nil : XTy X [] tNil [] := ⟨pa_nil, fun _ _ _ h => h⟩
theorem xty_cons {T : String} {Ts : List String} {y : Str} {p2 : Pos} (hy : X.mg y = none) (hv : bootBuiltins y = some (.type T)) (hr : XTy X es tt Ts) (hgy : Gl X y := by rfl) (hn : y ≠ "__name__" := by decide) (hdb : (y == ("__debug__" : Str)) = false := by decide)
    (hs : starEach (.Name y p2 :: es) X.env = (false, eval (.Name y p2) X.env) :: starEach es X.env := by rfl) : XTy X (.Name y p2 :: es) (tCons (tC (.ty T)) tt) (T :: Ts) :=
  ⟨pa_cons (pe_bltn (v := .ty T) hgy hy hv rfl hn hdb) hr.pa hs, fun σ H Q h => hr.st σ H _ h⟩
theorem xisiT {Ts : List String} {x1 : Nat} {p2 : Pos} (ha : XE X a ta f) (hm : X.mg "isinstance" = none) (ht : XTy X es tt Ts) (hl : Ts.length ≤ 10 := by decide) (hT : tysOk Ts = true := by decide +kernel) (hg : Gl X "isinstance" := by rfl)
    (he : starEach [a, .Tuple es x1 p2] X.env = (false, eval a X.env) :: starEach [.Tuple es x1 p2] X.env := by rfl) (he2 : starEach [.Tuple es x1 p2] X.env = (false, eval (.Tuple es x1 p2) X.env) :: starEach [] X.env := by rfl)
    (hpl : (backTo pos (starEach [.Tuple es x1 p2] X.env)).any (·.1) = false := by rfl) : XE X (.Call (.Name "isinstance" ps) [a, .Tuple es x1 p2] [] pos) (tCB (rIsiT X.K) (tCons ta (tCons (tTup tt) tNil))) (eIsi f Ts) :=
  ⟨pe_callB call_isiT hg hm PyProof.Rows.boot_isinstance (pa_cons ha.pe (pa_cons (pe_tup ht.pa) pa_nil he2) he) (he := he) (hpl := hpl), se_isiT ha.se ht.st hl hT⟩
/-! methods as expressions -/
theorem xpop {i : Nat} {apos : Pos} (ho : PE X a (tVar i)) (hbase : attributeBase a "pop" X.env (eval a X.env) = eval a X.env := by rfl) (hline : (apos.endLine == pos.line) = true := by rfl) : XE X (.Call (.Attribute a "pop" apos) [] [] pos) (tBM0 X.K "list" rPop (tVar i)) (ePop i) :=
  ⟨pe_bm0 PySem.F.plainAttrs_list PySem.F.slot_list_pop PySem.F.type_list_pop mt_pop ho hbase hline, se_pop⟩
theorem xpopAt {i : Nat} {apos : Pos} (ho : PE X a (tVar i)) (hb : XE X b tb g) (hbase : attributeBase a "pop" X.env (eval a X.env) = eval a X.env := by rfl)
    (hfew : ((backTo pos (starEach [b] X.env)).all (fun x => !x.1) && (backToKw pos (keywordEach [] X.env)).all (fun x => x.1.isSome) && decide ([b].length + ([] : List Keyword).length + (if ([] : List Keyword).isEmpty then 0 else 1) < 30)) = true := by rfl)
    (hline : (apos.endLine == pos.line) = true := by rfl) (hs : starEach [b] X.env = (false, eval b X.env) :: starEach [] X.env := by rfl) (hplain : (backTo pos (starEach [] X.env)).any (·.1) = false := by rfl) :
    XE X (.Call (.Attribute a "pop" apos) [b] [] pos) (tBM X.K "list" rPopAt (tVar i) (tCons tb tNil)) (ePopAt i g) :=
  ⟨pe_bm PySem.F.plainAttrs_list PySem.F.slot_list_pop PySem.F.type_list_pop mt_popAt ho (pa_cons hb.pe pa_nil hs) hbase hfew hline hs hplain, se_popAt hb.se⟩
end
end XL

namespace XL
open PySem PySem.Spec L2

/-! ### statements -/
section
variable {X : Cx} {pos : Pos} {e : Expr} {te : TE} {f : EvS} {i : Nat} {x : Str}
theorem sset {pos' : Pos} (hN : X.N.Nodup) (he : XV X e te f) (hi : X.N[i]? = some x := by rfl) (hx : Loc X.env.scope x := by first | exact Or.inl rfl | exact Or.inr rfl) (hs : swapsWith e (some (.Name x pos')) pos.line X.env = pure false := by rfl)
    (hf : X.fn x = true ∨ X.env.scope.names.lookup x = some .local := by first | exact .inl rfl | exact .inr rfl | assumption) : XS X (.Assign [.Name x pos'] e pos) (tAsg te (gName i)) (sAsg f (gN i)) := ⟨ps_set hN hi hx he.pe hs hf, ss_asg he.se (sg_name i)⟩
theorem snew {pos' : Pos} {fl : EvF} (hN : X.N.Nodup) (he : XF X e te fl) (hi : X.N[i]? = some x := by rfl) (hx : Loc X.env.scope x := by first | exact Or.inl rfl | exact Or.inr rfl) (hs : swapsWith e (some (.Name x pos')) pos.line X.env = pure false := by rfl)
    (hf : X.fn x = true ∨ X.env.scope.names.lookup x = some .local := by first | exact .inl rfl | exact .inr rfl | assumption) : XS X (.Assign [.Name x pos'] e pos) (tAsg te (gName i)) (sNew fl i) := ⟨ps_set hN hi hx he.pe hs hf, ss_new he.se⟩
theorem sret (he : XV X e te f) : XS X (.Return (some e) pos) (tRet te) (sRet f) := ⟨ps_ret he.pe, ss_ret he.se⟩
theorem sretN : XS X (.Return none pos) tRetN (fun env => .ok (.rt .none, env)) := ⟨ps_retN, ss_retN⟩
theorem spass : XS X (.Pass pos) tNext sSkip := ⟨ps_pass, ss_skip⟩
theorem sbreak : XS X (.Break pos) tBreak (fun env => .ok (.bk, env)) := ⟨ps_break, ss_break⟩
theorem scont : XS X (.Continue pos) tCont (fun env => .ok (.ct, env)) := ⟨ps_continue, ss_cont⟩
theorem snever {st : Stmt} : XS X st tNever sBad := ⟨ps_never, ss_never⟩
variable {st : Stmt} {sts : List Stmt} {t u : TS} {p q : EvSt}
theorem bnil : XB X [] tNext sSkip := ⟨pss_nil, ss_skip⟩
theorem bone (h : XS X st t p) : XB X [st] t p := ⟨pss_one h.ps, h.ss⟩
theorem bcons (h : XS X st t p) (hr : XB X sts u q) : XB X (st :: sts) (tSeq t u) (sSeq p q) := ⟨pss_cons h.ps hr.ps, ss_seq h.ss hr.ss⟩
theorem sif {c : Expr} {tc : TT} {cf : EvT} {a b : List Stmt} (hc : XT X c tc cf) (ha : XB X a t p) (hb : XB X b u q) : XS X (.If c a b pos) (tIfS tc t u) (sIf cf p q) := ⟨ps_if hc.pt ha.ps hb.ps, ss_if hc.se ha.ss hb.ss⟩
theorem swhile {c : Expr} {tc : TT} {cf : EvT} {a : List Stmt} (hp : PassesOwn (model X.prog X.w) X.A X.env X.xe) (hc : XT X c tc cf) (ha : XB X a t p) : XS X (.While c a [] pos) (tWhile tc t) (sWhile cf p) := ⟨ps_while hp hc.pt ha.ps, ss_while hc.se ha.ss⟩
/-! targets -/
theorem gname {pos' : Pos} (hN : X.N.Nodup) (hi : X.N[i]? = some x := by rfl) (hx : Loc X.env.scope x := by first | exact Or.inl rfl | exact Or.inr rfl)
    (hf : X.fn x = true ∨ X.env.scope.names.lookup x = some .local := by first | exact .inl rfl | exact .inr rfl | assumption) : XG X (.Name x pos') (gName i) (gN i) := ⟨pg_name hN hi hx hf, sg_name i⟩
theorem gnil : XGs X [] gNil [] := ⟨pgs_nil, sgs_nil⟩
theorem gcons {es : List Expr} {g : TG} {gs : TGs} {ev : EvG} {evs : List EvG} (h : XG X e g ev) (hr : XGs X es gs evs) (hs : (assignEach (e :: es) X.env).map (·.2) = assign e X.env :: (assignEach es X.env).map (·.2) := by rfl) : XGs X (e :: es) (gCons g gs) (ev :: evs) :=
  ⟨pgs_cons h.pg hr.pg hs, sgs_cons h.sg hr.sg⟩
theorem gtup {es : List Expr} {k n : Nat} {gs : TGs} {evs : List EvG} {pos' : Pos} (h : XGs X es gs evs) (hc : X.calm = true := by rfl) (hn : (assignEach es X.env).length = n := by rfl) (hst : (assignEach es X.env).findIdx? (·.1) = none := by rfl) (hl : evs.length = n := by rfl) :
    XG X (.Tuple es k pos') (gTup X.K n gs) (gT evs) := ⟨pg_tup hc h.pg hn hst, sg_tup h.sg hl⟩
theorem gsub {o ix : Expr} {ti : TE} {fi : Ev} {pos' : Pos} (ho : PE X o (tVar i)) (hi : XE X ix ti fi)
    (ha : ∀ v, assign (.Subscript o ix pos') X.env v = (do
      let ov ← holding [v] (eval o X.env)
      let iv ← holding [v, ov] (eval ix X.env)
      standAt pos'
      holding [v, ov, iv] (setItem ov iv v)
      release [v, ov, iv] []) := by intro _; rfl) : XG X (.Subscript o ix pos') (gSub (tVar i) ti rSetL) (gX i fi) := ⟨pg_sub ho hi.pe set_list ha, sg_sub hi.se⟩
theorem sasg {tg : Expr} {g : TG} {ev : EvG} (he : XV X e te f) (hg : XG X tg g ev) (hs : swapsWithSole [tg] e pos.line X.env = pure false := by rfl) (hw : swappedStores [tg] e X.env = pure none := by rfl)
    (h1 : (assignEach [tg] X.env).map (·.2) = [assign tg X.env] := by rfl) : XS X (.Assign [tg] e pos) (tAsg te g) (sAsg f ev) := ⟨ps_asg he.pe hg.pg hs hw h1, ss_asg he.se hg.sg⟩
/-! methods as statements -/
theorem sapp {o : Expr} {apos cpos : Pos} (ho : PE X o (tVar i)) (he : XV X e te f) (hbase : attributeBase o "append" X.env (eval o X.env) = eval o X.env := by rfl)
    (hfew : ((backTo cpos (starEach [e] X.env)).all (fun x => !x.1) && (backToKw cpos (keywordEach [] X.env)).all (fun x => x.1.isSome) && decide ([e].length + ([] : List Keyword).length + (if ([] : List Keyword).isEmpty then 0 else 1) < 30)) = true := by rfl)
    (hline : (apos.endLine == cpos.line) = true := by rfl) (hs : starEach [e] X.env = (false, eval e X.env) :: starEach [] X.env := by rfl) (hplain : (backTo cpos (starEach [] X.env)).any (·.1) = false := by rfl)
    (hsw : swapsWith (.Call (.Attribute o "append" apos) [e] [] cpos) none pos.line X.env = pure false := by rfl) :
    XS X (.Expr (.Call (.Attribute o "append" apos) [e] [] cpos) pos) (tDrop (tBM X.K "list" rAppend (tVar i) (tCons te tNil))) (sApp i f) :=
  ⟨ps_expr (pe_bm PySem.F.plainAttrs_list PySem.F.slot_list_append PySem.F.type_list_append mt_append ho (pa_cons he.pe pa_nil hs) hbase hfew hline hs hplain) hsw, ss_app he.se⟩
theorem sext {o : Expr} {apos cpos : Pos} {fe : Ev} (ho : PE X o (tVar i)) (he : XE X e te fe) (hbase : attributeBase o "extend" X.env (eval o X.env) = eval o X.env := by rfl)
    (hfew : ((backTo cpos (starEach [e] X.env)).all (fun x => !x.1) && (backToKw cpos (keywordEach [] X.env)).all (fun x => x.1.isSome) && decide ([e].length + ([] : List Keyword).length + (if ([] : List Keyword).isEmpty then 0 else 1) < 30)) = true := by rfl)
    (hline : (apos.endLine == cpos.line) = true := by rfl) (hs : starEach [e] X.env = (false, eval e X.env) :: starEach [] X.env := by rfl) (hplain : (backTo cpos (starEach [] X.env)).any (·.1) = false := by rfl)
    (hsw : swapsWith (.Call (.Attribute o "extend" apos) [e] [] cpos) none pos.line X.env = pure false := by rfl) :
    XS X (.Expr (.Call (.Attribute o "extend" apos) [e] [] cpos) pos) (tDrop (tBM X.K "list" rExtend (tVar i) (tCons te tNil))) (sExt i fe) :=
  ⟨ps_expr (pe_bm PySem.F.plainAttrs_list PySem.F.slot_list_extend PySem.F.type_list_extend mt_extend ho (pa_cons he.pe pa_nil hs) hbase hfew hline hs hplain) hsw, ss_ext he.se⟩
theorem sexpr {fe : Ev} (he : XE X e te fe) (hsw : swapsWith e none pos.line X.env = pure false := by rfl) : XS X (.Expr e pos) (tDrop te) (sDrop fe) := ⟨ps_expr he.pe hsw, ss_drop he.se⟩
/-! ### for, comprehensions -/
variable {tg iter : Expr} {wi : TI} {it : EvI} {g : TG} {ev : EvG}
theorem iseq (he : XV X iter te f) : XI X tg iter (fun σ H R => iList X.K te σ H R ∨ iTup X.K te σ H R) (iSeq f) := ⟨pi_or (pi_list he.pe) (pi_tup he.pe), si_seq he.se⟩
theorem irange1 {a : Expr} {ta : TE} {fa : Ev} {p : Pos} (hm : X.mg "range" = none) (ha : XE X a ta fa) (hg : Gl X "range" := by rfl) (hs : starEach [a] X.env = [(false, eval a X.env)] := by rfl) (hs' : starEach [a] X.env = (false, eval a X.env) :: starEach [] X.env := by rfl) :
    XI X tg (.Call (.Name "range" p) [a] [] pos) (iRng1 (tCons ta tNil)) (iR1 fa) := ⟨pi_range1 hg hm (pa_cons ha.pe pa_nil hs') hs, si_range1 ha.se⟩
theorem irange2 {a b : Expr} {ta tb : TE} {fa fb : Ev} {p : Pos} (hm : X.mg "range" = none) (ha : XE X a ta fa) (hb : XE X b tb fb) (hg : Gl X "range" := by rfl) (hs : starEach [a, b] X.env = [(false, eval a X.env), (false, eval b X.env)] := by rfl)
    (hs2 : starEach [b] X.env = [(false, eval b X.env)] := by rfl) (hs' : starEach [a, b] X.env = (false, eval a X.env) :: starEach [b] X.env := by rfl) (hs2' : starEach [b] X.env = (false, eval b X.env) :: starEach [] X.env := by rfl) :
    XI X tg (.Call (.Name "range" p) [a, b] [] pos) (iRng2 (tCons ta (tCons tb tNil))) (iR2 fa fb) := ⟨pi_range2 hg hm (pa_cons ha.pe (pa_cons hb.pe pa_nil hs2') hs') hs hs2, si_range2 ha.se hb.se⟩
theorem sfor {a : List Stmt} (hp : PassesOwn (model X.prog X.w) X.A X.env X.xe) (hi : XI X tg iter wi it) (hg : XG X tg g ev) (hb : XB X a t p) (hc : X.calm = true := by rfl) (hs : ∀ x, foldedSetIterable iter X.env x = pure x := by intro _; rfl) :
    XS X (.For tg iter a [] pos) (tFor wi g t) (sFor it ev p) := ⟨ps_for hp hc hi.pi hg.pg hb.ps hs, ss_for hi.si hg.sg hb.ss⟩
/-- a comprehension's target -/
structure XGw (X : Cx) (tg : Expr) (g : TG) (f : EvG) (vs : List Nat) : Prop where
  pg : PG X tg g
  sg : SGw X.K g f vs
structure XGsw (X : Cx) (es : List Expr) (u : TGs) (gs : List EvG) (vs : List Nat) : Prop where
  pg : PGs X es u
  sg : SGsw X.K u gs vs
theorem wname {pos' : Pos} (hN : X.N.Nodup) (hi : X.N[i]? = some x := by rfl) (hx : Loc X.env.scope x := by first | exact Or.inl rfl | exact Or.inr rfl)
    (hf : X.fn x = true ∨ X.env.scope.names.lookup x = some .local := by first | exact .inl rfl | exact .inr rfl | assumption) : XGw X (.Name x pos') (gName i) (gN i) [i] := ⟨pg_name hN hi hx hf, sgw_name i⟩
theorem wnil : XGsw X [] gNil [] [] := ⟨pgs_nil, sgsw_nil⟩
theorem wcons {es : List Expr} {g : TG} {gs : TGs} {ev : EvG} {evs : List EvG} {v1 v2 : List Nat} (h : XGw X e g ev v1) (hr : XGsw X es gs evs v2) (hs : (assignEach (e :: es) X.env).map (·.2) = assign e X.env :: (assignEach es X.env).map (·.2) := by rfl) : XGsw X (e :: es) (gCons g gs) (ev :: evs) (v1 ++ v2) :=
  ⟨pgs_cons h.pg hr.pg hs, sgsw_cons h.sg hr.sg⟩
theorem wtup {es : List Expr} {k n : Nat} {gs : TGs} {evs : List EvG} {vs : List Nat} {pos' : Pos} (h : XGsw X es gs evs vs) (hc : X.calm = true := by rfl) (hn : (assignEach es X.env).length = n := by rfl) (hst : (assignEach es X.env).findIdx? (·.1) = none := by rfl) (hl : evs.length = n := by rfl) :
    XGw X (.Tuple es k pos') (gTup X.K n gs) (gT evs) vs := ⟨pg_tup hc h.pg hn hst, sgw_tup h.sg hl⟩
structure XTs (X : Cx) (ifs : List Expr) (t : TT) (f : EvT) : Prop where
  pt : PTs X ifs t
  st : ST X.K t f
theorem st_yes {K : PySem.W.Frag} : ST K tYes eYes := fun C own σ H env b env' R q Q k => by cases q; exact k own H R .refl
theorem tsnil : XTs X [] tYes eYes := ⟨pts_nil, st_yes⟩
theorem tsone {c : Expr} {tc : TT} {cf : EvT} (h : XT X c tc cf) : XTs X [c] tc cf := ⟨pts_one h.pt, h.se⟩
variable {elt : Expr} {ifs : List Expr} {scope : Scope} {own : List (Str × Nat)} {tt : TT} {tst : EvT} {ws : List Nat}
theorem flc' (own : List (Str × Nat)) (hN : X.N.Nodup) (hi : XI X tg iter wi it) (ok : BlkOk X.N X.env.scope scope own)
    (hg : ∀ (s : Shared) (H : Hp) (C : Addr) (cl : List (Str × Addr)) (fp : List Addr), XGw (X.blk s H scope (PySem.compEnvC scope cl C X.env) fp) tg g ev ws)
    (ht : ∀ (s : Shared) (H : Hp) (C : Addr) (cl : List (Str × Addr)) (fp : List Addr), XTs (X.blk s H scope (PySem.compEnvC scope cl C X.env) fp) ifs tt tst)
    (he : ∀ (s : Shared) (H : Hp) (C : Addr) (cl : List (Str × Addr)) (fp : List Addr), XV (X.blk s H scope (PySem.compEnvC scope cl C X.env) fp) elt te f)
    (hws : ∀ j ∈ ws, j ∈ own.map (·.2) := by decide) (hc : X.calm = true := by rfl) (hs : ∀ x, foldedSetIterable iter X.env x = pure x := by intro _; rfl) (s0 : Shared) (H0 : Hp) :
    XF X (.ListComp elt [⟨tg, iter, ifs, 0⟩] scope pos) (tLc wi g tt te (own.map (·.2))) (eLc it ev tst f (own.map (·.2))) :=
  ⟨pe_lc hc hN hi.pi ok (fun s H C cl fp => (hg s H C cl fp).pg) (fun s H C cl fp => (ht s H C cl fp).pt) (fun s H C cl fp => (he s H C cl fp).pe) hs,
    sf_lc hi.si (hg s0 H0 0 [] []).sg hws (ht s0 H0 0 [] []).st (he s0 H0 0 [] []).se⟩
/-- y = [..] on one line, y a local: as a value, as an owned list -/
theorem ssetLc' (own : List (Str × Nat)) {y : Str} {py spos : Pos} (hN : X.N.Nodup) (hi : XI X tg iter wi it) (ok : BlkOk X.N X.env.scope scope own)
    (hg : ∀ (s : Shared) (H : Hp) (C : Addr) (cl : List (Str × Addr)) (fp : List Addr), XGw (X.blk s H scope (PySem.compEnvC scope cl C X.env) fp) tg g ev ws)
    (ht : ∀ (s : Shared) (H : Hp) (C : Addr) (cl : List (Str × Addr)) (fp : List Addr), XTs (X.blk s H scope (PySem.compEnvC scope cl C X.env) fp) ifs tt tst)
    (he : ∀ (s : Shared) (H : Hp) (C : Addr) (cl : List (Str × Addr)) (fp : List Addr), XV (X.blk s H scope (PySem.compEnvC scope cl C X.env) fp) elt te f)
    (hy : X.N[i]? = some y := by rfl) (hyl : X.env.scope.names.lookup y = some .local := by rfl) (hsw : swapsWith (.ListComp elt [⟨tg, iter, ifs, 0⟩] scope pos) (some (.Name y py)) spos.line X.env = pure true := by exact sw_true rfl rfl rfl (by decide +kernel))
    (hws : ∀ j ∈ ws, j ∈ own.map (·.2) := by decide) (hc : X.calm = true := by rfl) (hs : ∀ x, foldedSetIterable iter X.env x = pure x := by intro _; rfl) (s0 : Shared) (H0 : Hp) :
    XS X (.Assign [.Name y py] (.ListComp elt [⟨tg, iter, ifs, 0⟩] scope pos) spos) (tAsg (tLc wi g tt te (own.map (·.2))) (gName i)) (sAsg (eF (eLc it ev tst f (own.map (·.2)))) (gN i)) :=
  ⟨ps_setLc hc hN hy hyl hsw hi.pi ok (fun s H C cl fp => (hg s H C cl fp).pg) (fun s H C cl fp => (ht s H C cl fp).pt) (fun s H C cl fp => (he s H C cl fp).pe) hs,
    ss_asg (XF.v ⟨pe_lc hc hN hi.pi ok (fun s H C cl fp => (hg s H C cl fp).pg) (fun s H C cl fp => (ht s H C cl fp).pt) (fun s H C cl fp => (he s H C cl fp).pe) hs (pos := pos), sf_lc hi.si (hg s0 H0 0 [] []).sg hws (ht s0 H0 0 [] []).st (he s0 H0 0 [] []).se⟩).se (sg_name i)⟩
theorem snewLc' (own : List (Str × Nat)) {y : Str} {py spos : Pos} (hN : X.N.Nodup) (hi : XI X tg iter wi it) (ok : BlkOk X.N X.env.scope scope own)
    (hg : ∀ (s : Shared) (H : Hp) (C : Addr) (cl : List (Str × Addr)) (fp : List Addr), XGw (X.blk s H scope (PySem.compEnvC scope cl C X.env) fp) tg g ev ws)
    (ht : ∀ (s : Shared) (H : Hp) (C : Addr) (cl : List (Str × Addr)) (fp : List Addr), XTs (X.blk s H scope (PySem.compEnvC scope cl C X.env) fp) ifs tt tst)
    (he : ∀ (s : Shared) (H : Hp) (C : Addr) (cl : List (Str × Addr)) (fp : List Addr), XV (X.blk s H scope (PySem.compEnvC scope cl C X.env) fp) elt te f)
    (hy : X.N[i]? = some y := by rfl) (hyl : X.env.scope.names.lookup y = some .local := by rfl) (hsw : swapsWith (.ListComp elt [⟨tg, iter, ifs, 0⟩] scope pos) (some (.Name y py)) spos.line X.env = pure true := by exact sw_true rfl rfl rfl (by decide +kernel))
    (hws : ∀ j ∈ ws, j ∈ own.map (·.2) := by decide) (hc : X.calm = true := by rfl) (hs : ∀ x, foldedSetIterable iter X.env x = pure x := by intro _; rfl) (s0 : Shared) (H0 : Hp) :
    XS X (.Assign [.Name y py] (.ListComp elt [⟨tg, iter, ifs, 0⟩] scope pos) spos) (tAsg (tLc wi g tt te (own.map (·.2))) (gName i)) (sNew (eLc it ev tst f (own.map (·.2))) i) :=
  ⟨ps_setLc hc hN hy hyl hsw hi.pi ok (fun s H C cl fp => (hg s H C cl fp).pg) (fun s H C cl fp => (ht s H C cl fp).pt) (fun s H C cl fp => (he s H C cl fp).pe) hs,
    ss_new (sf_lc hi.si (hg s0 H0 0 [] []).sg hws (ht s0 H0 0 [] []).st (he s0 H0 0 [] []).se)⟩
theorem flc (own : List (Str × Nat)) (s0 : Shared) (H0 : Hp) {g : Shared → Hp → Addr → List (Str × Addr) → List Addr → TG} {tt : Shared → Hp → Addr → List (Str × Addr) → List Addr → TT} {te : Shared → Hp → Addr → List (Str × Addr) → List Addr → TE} (hN : X.N.Nodup) (hi : XI X tg iter wi it) (ok : BlkOk X.N X.env.scope scope own)
    (hg : ∀ (s : Shared) (H : Hp) (C : Addr) (cl : List (Str × Addr)) (fp : List Addr), XGw (X.blk s H scope (PySem.compEnvC scope cl C X.env) fp) tg (g s H C cl fp) ev ws)
    (ht : ∀ (s : Shared) (H : Hp) (C : Addr) (cl : List (Str × Addr)) (fp : List Addr), XTs (X.blk s H scope (PySem.compEnvC scope cl C X.env) fp) ifs (tt s H C cl fp) tst)
    (he : ∀ (s : Shared) (H : Hp) (C : Addr) (cl : List (Str × Addr)) (fp : List Addr), XV (X.blk s H scope (PySem.compEnvC scope cl C X.env) fp) elt (te s H C cl fp) f)
    (hws : ∀ j ∈ ws, j ∈ own.map (·.2) := by decide) (hc : X.calm = true := by rfl) (hs : ∀ x, foldedSetIterable iter X.env x = pure x := by intro _; rfl) (hge : ∀ s H C cl fp, g s H C cl fp = g s0 H0 0 [] [] := by intros; rfl) (hte : ∀ s H C cl fp, tt s H C cl fp = tt s0 H0 0 [] [] := by intros; rfl) (hee : ∀ s H C cl fp, te s H C cl fp = te s0 H0 0 [] [] := by intros; rfl) :
    XF X (.ListComp elt [⟨tg, iter, ifs, 0⟩] scope pos) (tLc wi (g s0 H0 0 [] []) (tt s0 H0 0 [] []) (te s0 H0 0 [] []) (own.map (·.2))) (eLc it ev tst f (own.map (·.2))) :=
  flc' own hN hi ok (fun s H C cl fp => hge s H C cl fp ▸ hg s H C cl fp) (fun s H C cl fp => hte s H C cl fp ▸ ht s H C cl fp) (fun s H C cl fp => hee s H C cl fp ▸ he s H C cl fp) hws hc hs s0 H0
/-- y = [..] on one line, y a local: as a value, as an owned list -/
theorem ssetLc (own : List (Str × Nat)) (s0 : Shared) (H0 : Hp) {g : Shared → Hp → Addr → List (Str × Addr) → List Addr → TG} {tt : Shared → Hp → Addr → List (Str × Addr) → List Addr → TT} {te : Shared → Hp → Addr → List (Str × Addr) → List Addr → TE} {y : Str} {py spos : Pos} (hN : X.N.Nodup) (hi : XI X tg iter wi it) (ok : BlkOk X.N X.env.scope scope own)
    (hg : ∀ (s : Shared) (H : Hp) (C : Addr) (cl : List (Str × Addr)) (fp : List Addr), XGw (X.blk s H scope (PySem.compEnvC scope cl C X.env) fp) tg (g s H C cl fp) ev ws)
    (ht : ∀ (s : Shared) (H : Hp) (C : Addr) (cl : List (Str × Addr)) (fp : List Addr), XTs (X.blk s H scope (PySem.compEnvC scope cl C X.env) fp) ifs (tt s H C cl fp) tst)
    (he : ∀ (s : Shared) (H : Hp) (C : Addr) (cl : List (Str × Addr)) (fp : List Addr), XV (X.blk s H scope (PySem.compEnvC scope cl C X.env) fp) elt (te s H C cl fp) f)
    (hy : X.N[i]? = some y := by rfl) (hyl : X.env.scope.names.lookup y = some .local := by rfl) (hsw : swapsWith (.ListComp elt [⟨tg, iter, ifs, 0⟩] scope pos) (some (.Name y py)) spos.line X.env = pure true := by exact sw_true rfl rfl rfl (by decide +kernel))
    (hws : ∀ j ∈ ws, j ∈ own.map (·.2) := by decide) (hc : X.calm = true := by rfl) (hs : ∀ x, foldedSetIterable iter X.env x = pure x := by intro _; rfl) (hge : ∀ s H C cl fp, g s H C cl fp = g s0 H0 0 [] [] := by intros; rfl) (hte : ∀ s H C cl fp, tt s H C cl fp = tt s0 H0 0 [] [] := by intros; rfl) (hee : ∀ s H C cl fp, te s H C cl fp = te s0 H0 0 [] [] := by intros; rfl) :
    XS X (.Assign [.Name y py] (.ListComp elt [⟨tg, iter, ifs, 0⟩] scope pos) spos) (tAsg (tLc wi (g s0 H0 0 [] []) (tt s0 H0 0 [] []) (te s0 H0 0 [] []) (own.map (·.2))) (gName i)) (sAsg (eF (eLc it ev tst f (own.map (·.2)))) (gN i)) :=
  ssetLc' own hN hi ok (fun s H C cl fp => hge s H C cl fp ▸ hg s H C cl fp) (fun s H C cl fp => hte s H C cl fp ▸ ht s H C cl fp) (fun s H C cl fp => hee s H C cl fp ▸ he s H C cl fp) hy hyl hsw hws hc hs s0 H0
theorem snewLc (own : List (Str × Nat)) (s0 : Shared) (H0 : Hp) {g : Shared → Hp → Addr → List (Str × Addr) → List Addr → TG} {tt : Shared → Hp → Addr → List (Str × Addr) → List Addr → TT} {te : Shared → Hp → Addr → List (Str × Addr) → List Addr → TE} {y : Str} {py spos : Pos} (hN : X.N.Nodup) (hi : XI X tg iter wi it) (ok : BlkOk X.N X.env.scope scope own)
    (hg : ∀ (s : Shared) (H : Hp) (C : Addr) (cl : List (Str × Addr)) (fp : List Addr), XGw (X.blk s H scope (PySem.compEnvC scope cl C X.env) fp) tg (g s H C cl fp) ev ws)
    (ht : ∀ (s : Shared) (H : Hp) (C : Addr) (cl : List (Str × Addr)) (fp : List Addr), XTs (X.blk s H scope (PySem.compEnvC scope cl C X.env) fp) ifs (tt s H C cl fp) tst)
    (he : ∀ (s : Shared) (H : Hp) (C : Addr) (cl : List (Str × Addr)) (fp : List Addr), XV (X.blk s H scope (PySem.compEnvC scope cl C X.env) fp) elt (te s H C cl fp) f)
    (hy : X.N[i]? = some y := by rfl) (hyl : X.env.scope.names.lookup y = some .local := by rfl) (hsw : swapsWith (.ListComp elt [⟨tg, iter, ifs, 0⟩] scope pos) (some (.Name y py)) spos.line X.env = pure true := by exact sw_true rfl rfl rfl (by decide +kernel))
    (hws : ∀ j ∈ ws, j ∈ own.map (·.2) := by decide) (hc : X.calm = true := by rfl) (hs : ∀ x, foldedSetIterable iter X.env x = pure x := by intro _; rfl) (hge : ∀ s H C cl fp, g s H C cl fp = g s0 H0 0 [] [] := by intros; rfl) (hte : ∀ s H C cl fp, tt s H C cl fp = tt s0 H0 0 [] [] := by intros; rfl) (hee : ∀ s H C cl fp, te s H C cl fp = te s0 H0 0 [] [] := by intros; rfl) :
    XS X (.Assign [.Name y py] (.ListComp elt [⟨tg, iter, ifs, 0⟩] scope pos) spos) (tAsg (tLc wi (g s0 H0 0 [] []) (tt s0 H0 0 [] []) (te s0 H0 0 [] []) (own.map (·.2))) (gName i)) (sNew (eLc it ev tst f (own.map (·.2))) i) :=
  snewLc' own hN hi ok (fun s H C cl fp => hge s H C cl fp ▸ hg s H C cl fp) (fun s H C cl fp => hte s H C cl fp ▸ ht s H C cl fp) (fun s H C cl fp => hee s H C cl fp ▸ he s H C cl fp) hy hyl hsw hws hc hs s0 H0
/-! ### a, b = e1, e2 -/
structure XP (X : Cx) (es : List Expr) (t : TA) (f : EvP) : Prop where
  pa : PA X es t
  sp : SP' X.K t f
variable {es : List Expr} {ta : TA} {fp : EvP}
theorem pnil : XP X [] tNil pNil := ⟨pa_nil, sp_nil⟩
theorem pval (he : XV X e te f) (hr : XP X es ta fp) (hs : starEach (e :: es) X.env = (false, eval e X.env) :: starEach es X.env := by rfl) : XP X (e :: es) (tCons te ta) (pV f fp) := ⟨pa_cons he.pe hr.pa hs, sp_v he.se hr.sp⟩
theorem pfre {fl : EvF} (he : XF X e te fl) (hr : XP X es ta fp) (hs : starEach (e :: es) X.env = (false, eval e X.env) :: starEach es X.env := by rfl) : XP X (e :: es) (tCons te ta) (pF fl fp) := ⟨pa_cons he.pe hr.pa hs, sp_f he.se hr.sp⟩
def sPar (f : EvP) (is : List Nat) : EvSt := fun env => f env >>= fun p => putAll is p.1 p.2 >>= fun e => .ok (.nx, e)
theorem ItR.len {K : PySem.W.Frag} {Hh H : Hp} : ∀ {vs : List V} {ss : List Sl} {L : List Addr}, ItR K Hh H vs ss L → vs.length = ss.length
  | _, _, _, .nil => rfl
  | _, _, _, .va _ t => by simp [t.len]
  | _, _, _, .ow _ _ _ t => by simp [t.len]
theorem putAll_len : ∀ {is : List Nat} {ss : List Sl} {env env' : En}, putAll is ss env = .ok env' → ss.length = is.length
  | [], [], _, _, _ => rfl
  | [], _ :: _, _, _, h => by cases h
  | _ :: _, [], _, _, h => by cases h
  | i :: is, s :: ss, env, env', h => by
    obtain ⟨e, _, h⟩ := bind_eq h
    simp [putAll_len h]
theorem par_end {K : PySem.W.Frag} {C : Cn} {own : Own} {σ : L2.St} {H : Hp} {env env' : En} {is : List Nat} {fl : Fl} (h : SP' K ta fp) (R : RE K C own σ H env) (q : sPar fp is env = .ok (fl, env')) (D : Ends)
    (k : ∀ own' σ' H', RE K C own' σ' H' env' → Grow C own H own' H' → EndsOk K C own' σ' H' D fl) (Q : List V → Hp → Prop) (hQ : ∀ vs H1, vs.length = is.length → (D.nx (setAll is vs σ) H1) → Q vs H1) : ta σ H Q := by
  obtain ⟨⟨ss, e1⟩, q1, q⟩ := bind_eq q
  obtain ⟨e2, q2, q⟩ := bind_eq q
  cases q
  refine h C own σ H env ss e1 R q1 _ fun o1 vs L H1 R1 g1 r1 hd => ?_
  obtain ⟨o2, R2, g2⟩ := RE.putAll (own0 := o1) (H0' := H) R1 r1 hd.h0 hd.nP hd.nown q2
  exact hQ vs H1 (by rw [r1.len, putAll_len q2]) (k o2 _ H1 R2 (Ext.trans g1 g2))
theorem ss_par2 {K : PySem.W.Frag} {i j : Nat} (h : SP' K ta fp) : SS K (tPar i j ta) (sPar fp [i, j]) := fun C own σ H env fl env' R q D k => by
  refine par_end h R q D k _ fun vs H1 hl hn => ?_
  match vs, hl with
  | [v, w], _ => exact ⟨v, w, rfl, hn⟩
theorem ss_par3 {K : PySem.W.Frag} {i j l : Nat} (h : SP' K ta fp) : SS K (tPar3 i j l ta) (sPar fp [i, j, l]) := fun C own σ H env fl env' R q D k => by
  refine par_end h R q D k _ fun vs H1 hl hn => ?_
  match vs, hl with
  | [v, w, u], _ => exact ⟨v, w, u, rfl, hn⟩
/-- the names one behind another -/
def gNs : List Nat → TGs
  | [] => gNil
  | i :: is => gCons (gName i) (gNs is)
theorem gNs_ok : ∀ {is : List Nat} {vs : List V} {σ : L2.St} {H : Hp} {Q : L2.St → Hp → Prop}, vs.length = is.length → Q (setAll is vs σ) H → gNs is vs σ H Q
  | [], [], σ, H, Q, _, h => ⟨rfl, h⟩
  | i :: is, v :: vs, σ, H, Q, hl, h => ⟨v, vs, rfl, gNs_ok (is := is) (by simpa using hl) h⟩
theorem ss_parT {K : PySem.W.Frag} {is : List Nat} {n : Nat} (h : SP' K ta fp) (hn : is.length = n) (hz : n ≤ 1000) : SS K (tAsg (tTup ta) (gTup K n (gNs is))) (sPar fp is) := fun C own σ H env fl env' R q D k => by
  obtain ⟨⟨ss, e1⟩, q1, q⟩ := bind_eq q
  obtain ⟨e2, q2, q⟩ := bind_eq q
  cases q
  refine h C own σ H env ss e1 R q1 _ fun o1 vs L H1 R1 g1 r1 hd => ?_
  have hl : vs.length = is.length := by rw [r1.len, putAll_len q2]
  refine ⟨by rw [hl, hn]; exact sz (by omega), fun p hp => ?_⟩
  obtain ⟨R2, g2, _⟩ := R1.alloc (o := .tup vs) hp
  have r2 := r1.ext g2 fun a _ o e => ext_new (o := .tup vs) hp a o e
  obtain ⟨o2, R3, g3⟩ := RE.putAll (own0 := o1) (H0' := H) R2 r2 hd.h0 hd.nP hd.nown q2
  refine ⟨p, vs, rfl, .inl (.inl upd_same), by rw [hl, hn], gNs_ok hl ?_⟩
  exact k o2 _ _ R3 (Ext.trans (Ext.trans g1 g2) g3)
theorem spar2 {i j : Nat} {x y : Str} {a b : Expr} {px py pt : Pos} {kt k2 : Nat} {pt2 : Pos} (hN : X.N.Nodup) (ha : XP X [a, b] ta fp) (hi : X.N[i]? = some x := by rfl) (hj : X.N[j]? = some y := by rfl) (hij : i ≠ j := by decide)
    (hx : X.env.scope.names.lookup x = some .local := by rfl) (hy : X.env.scope.names.lookup y = some .local := by rfl) (hw : swappedStores [.Tuple [.Name x px, .Name y py] kt pt] (.Tuple [a, b] k2 pt2) X.env = pure (some [x, y]) := by rfl)
    (hs : swapsWithSole [.Tuple [.Name x px, .Name y py] kt pt] (.Tuple [a, b] k2 pt2) pos.line X.env = pure false := by rfl) (hc : X.calm = true := by rfl) :
    XS X (.Assign [.Tuple [.Name x px, .Name y py] kt pt] (.Tuple [a, b] k2 pt2) pos) (tPar i j ta) (sPar fp [i, j]) := ⟨ps_par hc hN hi hj hij hx hy ha.pa hw hs, ss_par2 ha.sp⟩
theorem spar3 {i j l : Nat} {x y z : Str} {a b c : Expr} {px py pz pt : Pos} {kt k2 : Nat} {pt2 : Pos} (hN : X.N.Nodup) (ha : XP X [a, b, c] ta fp) (hi : X.N[i]? = some x := by rfl) (hj : X.N[j]? = some y := by rfl) (hl : X.N[l]? = some z := by rfl) (hij : i ≠ j := by decide) (hil : i ≠ l := by decide) (hjl : j ≠ l := by decide)
    (hx : X.env.scope.names.lookup x = some .local := by rfl) (hy : X.env.scope.names.lookup y = some .local := by rfl) (hz : X.env.scope.names.lookup z = some .local := by rfl) (hw : swappedStores [.Tuple [.Name x px, .Name y py, .Name z pz] kt pt] (.Tuple [a, b, c] k2 pt2) X.env = pure (some [x, y, z]) := by rfl)
    (hs : swapsWithSole [.Tuple [.Name x px, .Name y py, .Name z pz] kt pt] (.Tuple [a, b, c] k2 pt2) pos.line X.env = pure false := by rfl) (hc : X.calm = true := by rfl) :
    XS X (.Assign [.Tuple [.Name x px, .Name y py, .Name z pz] kt pt] (.Tuple [a, b, c] k2 pt2) pos) (tPar3 i j l ta) (sPar fp [i, j, l]) := ⟨ps_par3 hc hN hi hj hl hij hil hjl hx hy hz ha.pa hw hs, ss_par3 ha.sp⟩
/-- the same where the names are not all plain locals -/
structure XNs (X : Cx) (es : List Expr) (is : List Nat) : Prop where
  pg : PGs X es (gNs is)
theorem nnil : XNs X [] [] := ⟨pgs_nil⟩
theorem ncons {is : List Nat} {pos' : Pos} (hN : X.N.Nodup) (h : XNs X es is) (hi : X.N[i]? = some x := by rfl) (hx : Loc X.env.scope x := by first | exact Or.inl rfl | exact Or.inr rfl)
    (hf : X.fn x = true ∨ X.env.scope.names.lookup x = some .local := by first | exact .inl rfl | exact .inr rfl | assumption) (hs : (assignEach (.Name x pos' :: es) X.env).map (·.2) = assign (.Name x pos') X.env :: (assignEach es X.env).map (·.2) := by rfl) : XNs X (.Name x pos' :: es) (i :: is) := ⟨pgs_cons (pg_name hN hi hx hf) h.pg hs⟩
theorem sparT {es' : List Expr} {is : List Nat} {k1 k2 : Nat} {p1 p2 : Pos} (ha : XP X es ta fp) (hn : XNs X es' is) (hc : X.calm = true := by rfl) (hl : (assignEach es' X.env).length = is.length := by rfl) (hst : (assignEach es' X.env).findIdx? (·.1) = none := by rfl) (hz : is.length ≤ 1000 := by decide)
    (hs : swapsWithSole [.Tuple es' k1 p1] (.Tuple es k2 p2) pos.line X.env = pure false := by rfl) (hw : swappedStores [.Tuple es' k1 p1] (.Tuple es k2 p2) X.env = pure none := by rfl) (h1 : (assignEach [.Tuple es' k1 p1] X.env).map (·.2) = [assign (.Tuple es' k1 p1) X.env] := by rfl) :
    XS X (.Assign [.Tuple es' k1 p1] (.Tuple es k2 p2) pos) (tAsg (tTup ta) (gTup X.K is.length (gNs is))) (sPar fp is) := ⟨ps_asg (pe_tup ha.pa) (pg_tup hc hn.pg hl hst) hs hw h1, ss_parT ha.sp rfl hz⟩

/-! ### calls of defs -/
structure XAg (X : Cx) (es : List Expr) (t : TA) (f : EvAg) : Prop where
  pa : PA X es t
  sa : SAg X.K t f
variable {fg : EvAg}
theorem anil : XAg X [] tNil aNil := ⟨pa_nil, sag_nil⟩
theorem aval (he : XV X e te f) (hr : XAg X es ta fg) (hs : starEach (e :: es) X.env = (false, eval e X.env) :: starEach es X.env := by rfl) : XAg X (e :: es) (tCons te ta) (aV f fg) := ⟨pa_cons he.pe hr.pa hs, sag_v he.se hr.sa⟩
theorem aio {x : Str} {pos' : Pos} (i : Nat) (hr : XAg X es ta fg) (hN : X.N[i]? = some x := by rfl) (hv : Vis X.env.scope x := by first | exact Or.inl rfl | exact Or.inr (Or.inl rfl) | exact Or.inr (Or.inr rfl)) (hd : (x == ("__debug__" : Str)) = false := by decide)
    (hcd : (x == ("__classdict__" : Str)) = false := by decide) (hs : starEach (.Name x pos' :: es) X.env = (false, eval (.Name x pos') X.env) :: starEach es X.env := by rfl) : XAg X (.Name x pos' :: es) (tCons (tVar i) ta) (aIo i fg) := ⟨pa_cons (pv i hN hv hd hcd) hr.pa hs, sag_io hr.sa⟩
theorem xcall {k : Nat} {x : Str} {st : Stmt} {ps : List Str} {F : Fn} {p : Pos} (c : Cal X.prog X.w X.K X.mg X.base k x st ps F) (hr : Room k X.A) (ha : XAg X (e :: es) ta fg) (hg : Gl X x := by rfl) (hdb : (x == ("__debug__" : Str)) = false := by decide)
    (he : starEach (e :: es) X.env = (false, eval e X.env) :: starEach es X.env := by rfl) (hpl : (backTo pos (starEach es X.env)).any (·.1) = false := by rfl) : XE X (.Call (.Name x p) (e :: es) [] pos) (tCall (spF X.K F) [] E0 ta) (eCall F fg) := by
  obtain ⟨f, fd, hm, Fu, b, G⟩ := c.ex
  exact ⟨pe_call G hr hg hm Fu.kp b .nil pass0 ha.pa hdb he hpl, se_call ha.sa⟩
/-! by keywords: the arguments as written, then in the parameters' order -/
def permL {α : Type} (pm : List Nat) (l : List α) : List α := pm.filterMap fun (i : Nat) => l[i]?
theorem paired_at {α β : Type} {R : α → β → Prop} : ∀ {l : List α} {m : List β}, Paired R l m → ∀ i : Nat, (l[i]? = none ∧ m[i]? = none) ∨ ∃ a b, l[i]? = some a ∧ m[i]? = some b ∧ R a b
  | _, _, .nil, i => .inl ⟨by simp, by simp⟩
  | _, _, .cons r t, 0 => .inr ⟨_, _, rfl, rfl, r⟩
  | _, _, .cons r t, i + 1 => by simpa using paired_at t i
theorem paired_perm {α β : Type} {R : α → β → Prop} {l : List α} {m : List β} (h : Paired R l m) : ∀ pm : List Nat, Paired R (permL pm l) (permL pm m)
  | [] => .nil
  | i :: pm => by
    unfold permL
    rw [List.filterMap_cons, List.filterMap_cons]
    rcases paired_at h i with ⟨h1, h2⟩ | ⟨a, b, h1, h2, r⟩
    · rw [h1, h2]; exact paired_perm h pm
    · rw [h1, h2]; exact .cons r (paired_perm h pm)
theorem paired_app {α β : Type} {R : α → β → Prop} : ∀ {l : List α} {m : List β} {l' : List α} {m' : List β}, Paired R l m → Paired R l' m' → Paired R (l ++ l') (m ++ m')
  | _, _, _, _, .nil, h => h
  | _, _, _, _, .cons r t, h => .cons r (paired_app t h)
def eCallP (F : Fn) (n m : Nat) (pm : List Nat) (f g : EvAg) : Ev := eCall F (fun env => f env >>= fun p => g p.2 >>= fun q => if p.1.length = n ∧ q.1.length = m then .ok (permL pm (p.1 ++ q.1), q.2) else .bad)
/-- the values of the keywords -/
structure XKg (X : Cx) (kws : List Keyword) (t : TA) (f : EvAg) : Prop where
  pk : PK X kws t
  sa : SAg X.K t f
variable {kws : List Keyword} {tk : TA} {fk : EvAg}
theorem knil : XKg X [] tNil aNil := ⟨pk_nil, sag_nil⟩
theorem kval {nm : Option Str} {kpos : Pos} (he : XV X e te f) (hr : XKg X kws tk fk) : XKg X (⟨nm, e, kpos⟩ :: kws) (tCons te tk) (aV f fk) := ⟨pk_cons he.pe hr.pk, sag_v he.se hr.sa⟩
theorem agR_grow {K : PySem.W.Frag} {C : Cn} {own own' : Own} {σ : L2.St} {H H' : Hp} (g : Grow C own H own' H') : ∀ {vs : List V} {as : List Ag}, Paired (AgR K C own σ H) vs as → Paired (AgR K C own' σ H') vs as
  | _, _, .nil => .nil
  | _, .inl d :: _, .cons r t => .cons (show AgR K C own' σ H' _ (.inl d) from Rp.ext g d r) (agR_grow g t)
  | _, .inr i :: _, .cons r t => .cons (show AgR K C own' σ H' _ (.inr i) from r) (agR_grow g t)
theorem se_callP {K : PySem.W.Frag} {F : Fn} {pm : List Nat} {n m : Nat} {E : XK} (h : SAg K ta fg) (hk : SAg K tk fk) :
    SE K (tCallN n m (spF K F) (fun vs zs => permL pm (vs ++ zs)) E ta tk) (eCallP F n m pm fg fk) := fun C own σ H env w env' R q Q k => by
  obtain ⟨⟨ags, e2⟩, q0, q⟩ := bind_eq q
  split at q
  rotate_left
  · cases q
  rename_i hn
  obtain ⟨⟨d, outs⟩, q2, q⟩ := bind_eq q
  obtain ⟨args, q3, q7⟩ := bind_eq q2
  cases q
  obtain ⟨⟨a1, e1⟩, q1, q0⟩ := bind_eq q0
  obtain ⟨⟨a2, e3⟩, q4, q0⟩ := bind_eq q0
  split at q0
  rotate_left
  · cases q0
  rename_i hl
  cases q0
  refine h C own σ H env a1 e1 R q1 _ fun o1 vs H1 R1 g1 r1 => ?_
  refine hk C o1 σ H1 e1 a2 _ R1 q4 _ fun o2 zs H2 R2 g2 r2 => ?_
  refine ⟨(Paired.length r1).trans hl.1, (Paired.length r2).trans hl.2, ?_⟩
  exact call_core R2 (paired_perm (paired_app (agR_grow g2 r1) r2) pm) hn q3 q7 fun v H' R3 g3 rv => k o2 v H' R3 ((g1.trans g2).trans g3) rv
theorem pe_callN0 {CX : CXT} {k : Nat} {f : Addr} {fd : FuncData} {ps ks : List Str} {sp : Sp} {E : XK} {x : Str} {p : Pos} {g : List Value → List Value → List Value} {gV : List V → List V → List V} (F : FnOk X.prog X.w X.K X.mg X.base CX k f fd ps sp) (hr : Room k X.A) (hg : Gl X x) (hm : X.mg x = some (.ref f))
    (hk : PySem.W.keepIn X.K (.ref f) = true) (hb : KBn X.K fd ps 0 ks g gV) (hx : Passes CX X E) (hkw : PK X kws tk) (hall : (backToKw pos (keywordEach kws X.env)).all (·.1.isSome) = true) (hks : (backToKw pos (keywordEach kws X.env)).filterMap (·.1) = ks)
    (hdb : (x == ("__debug__" : Str)) = false) (hpl : ((backTo pos (starEach [] X.env)).any (·.1) || (backToKw pos (keywordEach kws X.env)).any (·.1.isNone)) = false) :
    PE X (.Call (.Name x p) [] kws pos) (tCallN 0 ks.length sp gV E tNil tk) := by
  refine ⟨fun pins s σ H Q I h => ?_⟩
  refine wpAny_Call_Name_kw (ld_glob I hg hm ?_ hdb)
  refine PySem.W.callWith_KW0 (h₀ := X.base) I.ok.mod.kin hk hall ?_ hpl
  refine thn (hkw.run pos pins s σ H _ I h) fun ws s2 ⟨zs, H2, I2, rz, l1, l2, q2⟩ => ⟨I2.kIn, ?_⟩
  rw [hks]
  exact run_fnN (us := []) (vs := []) F hr hb hx I2 .nil rz l1 l2 q2
/-- how the arguments are bound -/
def KwB (x : Str) (st : Stmt) (ps ks : List Str) (n : Nat) (pm : List Nat) : Prop := ∀ (kV doc pv : Value) (an : Option Addr) (cdv ct : Value) (us ws : List Value), us.length = n → ws.length = ks.length →
  bindArgs (PySem.W.fnOf x x (defArgs st) (defBody st) (defScope st) .none kV doc pv an cdv ct) ⟨us, ks.zip ws⟩ = pure (ps.zip (permL pm (us ++ ws)))
theorem kbn_of {K : PySem.W.Frag} {x : Str} {st : Stmt} {f : Addr} {fd : FuncData} {ps ks : List Str} {n : Nat} {pm : List Nat} (F : Fun K x x st f fd) (h : KwB x st ps ks n pm) :
    KBn K fd ps n ks (fun us ws => permL pm (us ++ ws)) (fun vs zs => permL pm (vs ++ zs)) := by
  obtain ⟨oc, od, kV, doc, pv, an, cdv, ct, osl, rfl, lk, hcd⟩ := F.ex
  exact ⟨fun s us ws _ l1 l2 => .of_eq (h kV doc pv an cdv ct us ws l1 l2), fun r1 r2 => paired_perm (paired_app r1 r2) pm⟩
theorem xcallK {k : Nat} {x : Str} {st : Stmt} {ps ks : List Str} {F : Fn} {p : Pos} {n : Nat} {pm : List Nat} (c : Cal X.prog X.w X.K X.mg X.base k x st ps F) (hr : Room k X.A) (hB : KwB x st ps ks n pm) (ha : XAg X (e :: es) ta fg) (hkw : XKg X kws tk fk) (hg : Gl X x := by rfl) (hdb : (x == ("__debug__" : Str)) = false := by decide)
    (hall : (backToKw pos (keywordEach kws X.env)).all (·.1.isSome) = true := by rfl) (hks : (backToKw pos (keywordEach kws X.env)).filterMap (·.1) = ks := by rfl)
    (he : starEach (e :: es) X.env = (false, eval e X.env) :: starEach es X.env := by rfl)
    (hpl : ((backTo pos (starEach (e :: es) X.env)).any (·.1) || (backToKw pos (keywordEach kws X.env)).any (·.1.isNone)) = false := by rfl) : XE X (.Call (.Name x p) (e :: es) kws pos) (tCallN n ks.length (spF X.K F) (fun vs zs => permL pm (vs ++ zs)) E0 ta tk) (eCallP F n ks.length pm fg fk) := by
  obtain ⟨f, fd, hm, Fu, b, G⟩ := c.ex
  exact ⟨pe_callN G hr hg hm Fu.kp (kbn_of Fu hB) pass0 ha.pa hkw.pk hall hks hdb he hpl, se_callP ha.sa hkw.sa⟩
theorem xcallK0 {k : Nat} {x : Str} {st : Stmt} {ps ks : List Str} {F : Fn} {p : Pos} {pm : List Nat} (c : Cal X.prog X.w X.K X.mg X.base k x st ps F) (hr : Room k X.A) (hB : KwB x st ps ks 0 pm) (hkw : XKg X kws tk fk) (hg : Gl X x := by rfl) (hdb : (x == ("__debug__" : Str)) = false := by decide)
    (hall : (backToKw pos (keywordEach kws X.env)).all (·.1.isSome) = true := by rfl) (hks : (backToKw pos (keywordEach kws X.env)).filterMap (·.1) = ks := by rfl)
    (hpl : ((backTo pos (starEach [] X.env)).any (·.1) || (backToKw pos (keywordEach kws X.env)).any (·.1.isNone)) = false := by rfl) : XE X (.Call (.Name x p) [] kws pos) (tCallN 0 ks.length (spF X.K F) (fun vs zs => permL pm (vs ++ zs)) E0 tNil tk) (eCallP F 0 ks.length pm aNil fk) := by
  obtain ⟨f, fd, hm, Fu, b, G⟩ := c.ex
  exact ⟨pe_callN0 G hr hg hm Fu.kp (kbn_of Fu hB) pass0 hkw.pk hall hks hdb hpl, se_callP sag_nil hkw.sa⟩
end
end XL

namespace XL
open PySem PySem.Spec L2

/-! ### a new list in operand place -/
def eFe (f : EvF) : Ev := fun env => f env >>= fun p => .ok (.d (.list p.1), p.2)
theorem XF.e {X : Cx} {e : Expr} {t : TE} {f : EvF} (h : XF X e t f) : XE X e t (eFe f) := by
  refine ⟨h.pe, fun C own σ H env d env' R q Q k => ?_⟩
  obtain ⟨⟨xs, e1⟩, q1, q⟩ := bind_eq q
  cases q
  refine h.se C own σ H env xs e1 R q1 Q fun own' a H' N => ?_
  obtain ⟨r, g, p⟩ := N.val
  exact k own' _ H' r g p
/-! ### range of three -/
def rgN (i j c : Int) : Nat := if 0 < c then (if i < j then ((j - i - 1) / c + 1).toNat else 0) else (if j < i then ((i - j - 1) / (-c) + 1).toNat else 0)
def rangeC (i j c : Int) : List PyData := (List.range (rgN i j c)).map fun m => .int (i + (m : Nat) * c)
def rgOk (i j c : Int) : Bool := decide (c ≠ 0 ∧ c.natAbs < 1073741824 ∧ (-1000000000000 ≤ i ∧ i ≤ 1000000000000) ∧ -1000000000000 ≤ j ∧ j ≤ 1000000000000)
def iR3 (f g h : Ev) : EvI := fun env => f env >>= fun p => g p.2 >>= fun q => h q.2 >>= fun r => rd r.2 p.1 >>= asI >>= fun i => rd r.2 q.1 >>= asI >>= fun j => rd r.2 r.1 >>= asI >>= fun c =>
  if rgOk i j c = true then .ok (rangeC i j c, r.2) else .bad
theorem ediv_bnd {a b : Int} (hb : 0 < b) (ha : 0 ≤ a) : 0 ≤ a / b ∧ a / b ≤ a := ⟨Int.ediv_nonneg ha (by omega), Int.ediv_le_self _ ha⟩
theorem rgC_of {i j c : Int} (h : rgOk i j c = true) : RgC i j c (rgN i j c) := by
  unfold rgOk at h
  have h := of_decide_eq_true h
  obtain ⟨h0, h1, h2, h3⟩ := h
  have hs : Builtin.Range.rangeSize i j c = (rgN i j c : Int) := by
    unfold Builtin.Range.rangeSize rgN
    by_cases hc : 0 < c
    · rw [if_pos hc, if_pos hc]
      split
      · have := ediv_bnd hc (show 0 ≤ j - i - 1 by omega)
        omega
      · rfl
    · rw [if_neg (show ¬ c > 0 from hc), if_neg hc]
      split
      · have := ediv_bnd (show 0 < -c by omega) (show 0 ≤ i - j - 1 by omega)
        omega
      · rfl
  refine ⟨h0, h1, ?_, hs⟩
  unfold Builtin.Range.small
  rw [hs]
  have hn : (rgN i j c : Int) ≤ 2000000000001 := by
    unfold rgN
    split
    · split
      · have := ediv_bnd (show 0 < c by assumption) (show 0 ≤ j - i - 1 by omega)
        omega
      · decide
    · split
      · have := ediv_bnd (show 0 < -c by omega) (show 0 ≤ i - j - 1 by omega)
        omega
      · decide
  simp only [Builtin.Range.rangeFitsLong, Bool.and_eq_true, Bool.or_eq_true, decide_eq_true_eq, beq_iff_eq]
  refine ⟨by omega, .inr ?_⟩
  split <;> simp only [Bool.and_eq_true, decide_eq_true_eq] <;> omega
section
variable {K : PySem.W.Frag}
theorem yl_rangeC {Hv : Hp} (i j c : Int) : Yl K Hv (Itc i c (rgN i j c)) (rangeC i j c) := fun C own σ H env R e => by
  unfold rangeC
  refine ⟨fun k d hd => ?_, by show rgN i j c ≤ _; simp⟩
  rw [List.getElem?_map] at hd
  obtain ⟨m, h1, h2⟩ := Option.map_eq_some_iff.mp hd
  have hi' : k < rgN i j c := by
    have := (List.getElem?_eq_some_iff.mp h1).1
    simpa using this
  have : m = k := by
    rw [List.getElem?_range hi'] at h1
    exact (Option.some.inj h1).symm
  subst this
  subst h2
  refine ⟨hi', fun x H' ⟨e1, e2⟩ => ?_⟩
  subst e1 e2
  exact ⟨Ext.refl _, .int _⟩
theorem si_range3 {ta tb tc : TE} {f g h : Ev} (ha : SE K ta f) (hb : SE K tb g) (hc : SE K tc h) : SI K (iRng3 (tCons ta (tCons tb (tCons tc tNil)))) (iR3 f g h) := fun C own σ H env ds env' R q Q k => by
  obtain ⟨⟨w, e1⟩, q1, q⟩ := bind_eq q
  obtain ⟨⟨w2, e2⟩, q2, q⟩ := bind_eq q
  obtain ⟨⟨w3, e3⟩, q3, q⟩ := bind_eq q
  obtain ⟨i, q4, q⟩ := bind_eq q
  obtain ⟨x, q5, q4⟩ := bind_eq q4
  obtain ⟨j, q6, q⟩ := bind_eq q
  obtain ⟨y, q7, q6⟩ := bind_eq q6
  obtain ⟨c, q8, q⟩ := bind_eq q
  obtain ⟨z, q9, q8⟩ := bind_eq q8
  split at q
  · rename_i hn
    cases q
    refine ha C own σ H env w e1 R q1 _ fun o1 v H1 R1 g1 r1 => ?_
    refine hb C o1 σ H1 e1 w2 e2 R1 q2 _ fun o2 u H2 R2 g2 r2 => ?_
    refine hc C o2 σ H2 e2 w3 e3 R2 q3 _ fun o3 t H3 R3 g3 r3 => ?_
    have rx := ((r1.grow g2).grow g3).get R3 q5
    rw [asI_eq q4] at rx
    have ry := (r2.grow g3).get R3 q7
    rw [asI_eq q6] at ry
    have rz := r3.get R3 q9
    rw [asI_eq q8] at rz
    exact ⟨i, j, c, _, by rw [rx.int, ry.int, rz.int], rgC_of hn, k o3 _ H3 R3 ((g1.trans g2).trans g3) (yl_rangeC i j c)⟩
  · cases q
/-! ### enumerate, zip -/
theorem enumD_get {xs : List PyData} {i : Nat} {d : PyData} (h : (enumD xs)[i]? = some d) : ∃ x, xs[i]? = some x ∧ d = .tuple [.int (i : Nat), x] := by
  unfold enumD at h
  rw [List.getElem?_map] at h
  obtain ⟨⟨m, x⟩, h1, h2⟩ := Option.map_eq_some_iff.mp h
  rw [List.getElem?_zip_eq_some] at h1
  obtain ⟨h3, h4⟩ := h1
  have hi' : i < xs.length := by
    have := (List.getElem?_eq_some_iff.mp h3).1
    simpa using this
  rw [List.getElem?_range hi'] at h3
  cases h3
  exact ⟨x, h4, h2.symm⟩
theorem enumD_len (xs : List PyData) : (enumD xs).length = xs.length := by simp [enumD]
theorem yl_enum {Hv : Hp} {a : Addr} {vs : List V} {ds : List PyData} (h : Hv a = some (.lst vs)) (r : RpA K Hv vs ds) : Yl K Hv (Ite K a) (enumD ds) := fun C own σ H env R e => by
  have hq : SqL K H a vs := SqL.of (hh_ext C own H a _ (e a _ h))
  refine ⟨fun i d hd => ?_, ⟨vs, hq, by rw [enumD_len, r.len]; exact Nat.le_refl _⟩⟩
  obtain ⟨x, hx, rfl⟩ := enumD_get hd
  obtain ⟨v, hv, rv⟩ := r.get hx
  refine ⟨⟨vs, v, hq, hv⟩, ?_⟩
  rintro _ _ ⟨T, u, rfl, hT, rfl, e2⟩
  have e3 := e2 vs hq
  rw [hv] at e3; cases e3
  obtain ⟨R2, g2, h2⟩ := R.alloc (o := .tup [.int (i : Nat), v]) hT
  exact ⟨ext_new hT, Rp.tup (SqT.of h2) (.cons (.int _) (.cons ((rv.ext e).ext g2) .nil))⟩
theorem zipD_get {xs ys : List PyData} {i : Nat} {d : PyData} (h : (zipD xs ys)[i]? = some d) : ∃ x y, xs[i]? = some x ∧ ys[i]? = some y ∧ d = .tuple [x, y] := by
  unfold zipD at h
  rw [List.getElem?_map] at h
  obtain ⟨⟨x, y⟩, h1, h2⟩ := Option.map_eq_some_iff.mp h
  rw [List.getElem?_zip_eq_some] at h1
  exact ⟨x, y, h1.1, h1.2, h2.symm⟩
theorem zipD_len (xs ys : List PyData) : xs.length ≤ (zipD xs ys).length ∨ ys.length ≤ (zipD xs ys).length := by
  have : (zipD xs ys).length = min xs.length ys.length := by simp [zipD]
  rw [this]; omega
theorem yl_zipL {Hv : Hp} {a b : Addr} {vs ws : List V} {xs ys : List PyData} (h : Hv a = some (.lst vs)) (r : RpA K Hv vs xs) (h' : Hv b = some (.lst ws)) (r' : RpA K Hv ws ys) : Yl K Hv (Itz K a b) (zipD xs ys) := fun C own σ H env R e => by
  have hq : SqL K H a vs := SqL.of (hh_ext C own H a _ (e a _ h))
  have hq' : SqL K H b ws := SqL.of (hh_ext C own H b _ (e b _ h'))
  refine ⟨fun i d hd => ?_, ⟨vs, ws, hq, hq', by rw [r.len, r'.len]; exact zipD_len xs ys⟩⟩
  obtain ⟨x, y, hx, hy, rfl⟩ := zipD_get hd
  obtain ⟨v, hv, rv⟩ := r.get hx
  obtain ⟨v', hv', rv'⟩ := r'.get hy
  refine ⟨⟨vs, ws, v, v', hq, hq', hv, hv'⟩, ?_⟩
  rintro _ _ ⟨T, u, u', rfl, hT, rfl, e2, e2'⟩
  have e3 := e2 vs hq
  rw [hv] at e3; cases e3
  have e3' := e2' ws hq'
  rw [hv'] at e3'; cases e3'
  obtain ⟨R2, g2, h2⟩ := R.alloc (o := .tup [v, v']) hT
  exact ⟨ext_new hT, Rp.tup (SqT.of h2) (.cons ((rv.ext e).ext g2) (.cons ((rv'.ext e).ext g2) .nil))⟩
theorem yl_zipT {Hv : Hp} {a b : Addr} {vs ws : List V} {xs ys : List PyData} (h : SqT K Hv a vs) (r : RpA K Hv vs xs) (h' : SqT K Hv b ws) (r' : RpA K Hv ws ys) : Yl K Hv (RZ.ItzT K a b) (zipD xs ys) := fun C own σ H env R e => by
  have hq : SqT K H a vs := (hh_ext C own H).t (e.t h)
  have hq' : SqT K H b ws := (hh_ext C own H).t (e.t h')
  refine ⟨fun i d hd => ?_, ⟨vs, ws, hq, hq', by rw [r.len, r'.len]; exact zipD_len xs ys⟩⟩
  obtain ⟨x, y, hx, hy, rfl⟩ := zipD_get hd
  obtain ⟨v, hv, rv⟩ := r.get hx
  obtain ⟨v', hv', rv'⟩ := r'.get hy
  refine ⟨⟨vs, ws, v, v', hq, hq', hv, hv'⟩, ?_⟩
  rintro _ _ ⟨T, u, u', rfl, hT, rfl, e2, e2'⟩
  have e3 := e2 vs hq
  rw [hv] at e3; cases e3
  have e3' := e2' ws hq'
  rw [hv'] at e3'; cases e3'
  obtain ⟨R2, g2, h2⟩ := R.alloc (o := .tup [v, v']) hT
  exact ⟨ext_new hT, Rp.tup (SqT.of h2) (.cons ((rv.ext e).ext g2) (.cons ((rv'.ext e).ext g2) .nil))⟩
theorem si_enum {t : TA} {h : EvL} (ha : SL K t h) : SI K (iEnum K t) (iEn h) := fun C own σ H env ds env' R q Q k => by
  obtain ⟨⟨as, e1⟩, q1, q⟩ := bind_eq q
  split at q
  · rename_i xs hx
    cases q
    have hx : as = [.list xs] := hx
    subst hx
    refine ha C own σ H env _ e1 R q1 _ fun o1 vs H1 R1 g1 r1 => ?_
    cases r1 with
    | cons r1 rr =>
      cases rr
      cases r1 with
      | lst h1 h2 => exact ⟨_, _, rfl, SqL.of (hh_ext C o1 H1 _ _ h1), k o1 _ H1 R1 g1 (yl_enum h1 h2)⟩
  · cases q
theorem si_zip {t : TA} {h : EvL} (ha : SL K t h) : SI K (RZ.iZipA K t) (iZip' h) := fun C own σ H env ds env' R q Q k => by
  obtain ⟨⟨as, e1⟩, q1, q⟩ := bind_eq q
  split at q
  · rename_i xs ys hx
    cases q
    have hx : as = [.list xs, .list ys] := hx
    subst hx
    refine ha C own σ H env _ e1 R q1 _ fun o1 vs H1 R1 g1 r1 => ?_
    cases r1 with
    | cons r1 rr =>
      cases rr with
      | cons r2 rr =>
        cases rr
        cases r1 with
        | lst h1 h2 =>
          cases r2 with
          | lst h3 h4 => exact ⟨_, _, _, _, rfl, .inl ⟨SqL.of (hh_ext C o1 H1 _ _ h1), SqL.of (hh_ext C o1 H1 _ _ h3), k o1 _ H1 R1 g1 (yl_zipL h1 h2 h3 h4)⟩⟩
  · rename_i xs ys hx
    cases q
    have hx : as = [.tuple xs, .tuple ys] := hx
    subst hx
    refine ha C own σ H env _ e1 R q1 _ fun o1 vs H1 R1 g1 r1 => ?_
    cases r1 with
    | cons r1 rr =>
      cases rr with
      | cons r2 rr =>
        cases rr
        cases r1 with
        | tup h1 h2 =>
          cases r2 with
          | tup h3 h4 => exact ⟨_, _, _, _, rfl, .inr ⟨(hh_ext C o1 H1).t h1, (hh_ext C o1 H1).t h3, k o1 _ H1 R1 g1 (yl_zipT h1 h2 h3 h4)⟩⟩
  · cases q
/-! ### x.insert(k, v) -/
def sIns (i : Nat) (fk : Ev) (f : EvS) : EvSt := fun env => own? env i >>= fun _ => fk env >>= fun p => f p.2 >>= fun q => rd q.2 p.1 >>= fun x => asI x >>= fun k => own? q.2 i >>= fun xs =>
  if xs.length < 1000000 ∧ 0 ≤ k ∧ k < 1000000000 then .ok (.nx, reown q.2 i (xs.take k.toNat ++ [q.1] ++ xs.drop k.toNat)) else .bad
def rInsertL (x : V) (vs : List V) (H : Hp) (Q : VK) : Prop := ∃ (l : Addr) (xs : List V) (i : Int) (y : V), x = .ref l ∧ vs = [.int i, y] ∧ H l = some (.lst xs) ∧ xs.length < sizeLine ∧ 0 ≤ i ∧ i < 2 ^ 63 ∧
    Q .non (upd H l (.lst (xs.take i.toNat ++ [y] ++ xs.drop i.toNat)))
theorem ss_ins {i : Nat} {tk te : TE} {fk : Ev} {f : EvS} (hk : SE K tk fk) (h : SV K te f) : SS K (tDrop (tBM K "list" rInsertL (tVar i) (tCons tk (tCons te tNil)))) (sIns i fk f) := fun C own σ H env fl env' R q D k => by
  obtain ⟨xs0, q0, q⟩ := bind_eq q
  obtain ⟨⟨w, e1⟩, q1, q⟩ := bind_eq q
  obtain ⟨⟨d, e2⟩, q2, q⟩ := bind_eq q
  obtain ⟨x, q3, q⟩ := bind_eq q
  obtain ⟨n, q4, q⟩ := bind_eq q
  obtain ⟨xs, q5, q⟩ := bind_eq q
  split at q
  · rename_i hn
    cases q
    obtain ⟨a0, vs0, _, hu, hu2, _⟩ := R.own? q0
    refine ⟨.ref a0, hu, .inl ⟨rfl, _, SqL.of hu2⟩, hk.all R q1 _ fun o1 v H1 R1 g1 r1 _ _ => h.all R1 q2 _ fun o2 u H2 R2 g2 r2 _ _ => ?_⟩
    obtain ⟨a, vs, e1', e2', e3, e4⟩ := R2.own? q5
    rw [hu] at e2'; cases e2'
    have rx := (r1.grow g2).get R2 q3
    rw [asI_eq q4] at rx
    refine ⟨a0, vs, n, u, rfl, by rw [rx.int], e3, by rw [e4.len]; exact szl hn.1, hn.2.1, by omega, ?_⟩
    obtain ⟨R3, g3⟩ := R2.mut q5 e1' (((e4.take n.toNat).app (.cons r2 .nil)).app (e4.drop n.toNat))
    exact k o2 σ _ R3 ((g1.trans g2).trans g3)
  · cases q
end
section
variable {X : Cx} {tg iter : Expr} {pos : Pos} {a b c : Expr} {ta tb tc : TE} {f g h : Ev} {p : Pos}
theorem irange3 (hm : X.mg "range" = none) (ha : XE X a ta f) (hb : XE X b tb g) (hc : XE X c tc h) (hg : Gl X "range" := by rfl)
    (hs : starEach [a, b, c] X.env = (false, eval a X.env) :: starEach [b, c] X.env := by rfl) (hs2 : starEach [b, c] X.env = (false, eval b X.env) :: starEach [c] X.env := by rfl) (hs3 : starEach [c] X.env = (false, eval c X.env) :: starEach [] X.env := by rfl)
    (hpl : (backTo pos (starEach [b, c] X.env)).any (·.1) = false := by rfl) :
    XI X tg (.Call (.Name "range" p) [a, b, c] [] pos) (iRng3 (tCons ta (tCons tb (tCons tc tNil)))) (iR3 f g h) := ⟨pi_range3 hg hm (pa_cons ha.pe (pa_cons hb.pe (pa_cons hc.pe pa_nil hs3) hs2) hs) hs hpl, si_range3 ha.se hb.se hc.se⟩
variable {elts : List Expr} {kk : Nat} {tpos : Pos} {fa fb : EvS}
theorem ienum (hm : X.mg "enumerate" = none) (ha : XV X a ta fa) (hg : Gl X "enumerate" := by rfl) (hs : starEach [a] X.env = [(false, eval a X.env)] := by rfl) (hs' : starEach [a] X.env = (false, eval a X.env) :: starEach [] X.env := by rfl) :
    XI X (.Tuple elts kk tpos) (.Call (.Name "enumerate" p) [a] [] pos) (iEnum X.K (tCons ta tNil)) (iEn (eConsV fa eNilV)) := ⟨pi_enum hg hm (pa_cons ha.pe pa_nil hs') hs, si_enum (sl_cons ha.se sl_nil)⟩
theorem izip (hm : X.mg "zip" = none) (ha : XV X a ta fa) (hb : XV X b tb fb) (hg : Gl X "zip" := by rfl) (hs : starEach [a, b] X.env = (false, eval a X.env) :: starEach [b] X.env := by rfl) (hs' : starEach [b] X.env = (false, eval b X.env) :: starEach [] X.env := by rfl)
    (hpl : (backTo pos (starEach [b] X.env)).any (·.1) = false := by rfl) :
    XI X (.Tuple elts kk tpos) (.Call (.Name "zip" p) [a, b] [] pos) (RZ.iZipA X.K (tCons ta (tCons tb tNil))) (iZip' (eConsV fa (eConsV fb eNilV))) := ⟨RZ.pi_zipA hg hm (pa_cons ha.pe (pa_cons hb.pe pa_nil hs') hs) hs hpl, si_zip (sl_cons ha.se (sl_cons hb.se sl_nil))⟩
theorem sins {i : Nat} {o ek e : Expr} {tk te : TE} {fk : Ev} {fe : EvS} {apos cpos : Pos} (ho : PE X o (tVar i)) (hk : XE X ek tk fk) (he : XV X e te fe) (hbase : attributeBase o "insert" X.env (eval o X.env) = eval o X.env := by rfl)
    (hfew : ((backTo cpos (starEach [ek, e] X.env)).all (fun x => !x.1) && (backToKw cpos (keywordEach [] X.env)).all (fun x => x.1.isSome) && decide ([ek, e].length + ([] : List Keyword).length + (if ([] : List Keyword).isEmpty then 0 else 1) < 30)) = true := by rfl)
    (hline : (apos.endLine == cpos.line) = true := by rfl) (hs : starEach [ek, e] X.env = (false, eval ek X.env) :: starEach [e] X.env := by rfl) (hs' : starEach [e] X.env = (false, eval e X.env) :: starEach [] X.env := by rfl) (hplain : (backTo cpos (starEach [e] X.env)).any (·.1) = false := by rfl)
    (hsw : swapsWith (.Call (.Attribute o "insert" apos) [ek, e] [] cpos) none pos.line X.env = pure false := by rfl) :
    XS X (.Expr (.Call (.Attribute o "insert" apos) [ek, e] [] cpos) pos) (tDrop (tBM X.K "list" rInsertL (tVar i) (tCons tk (tCons te tNil)))) (sIns i fk fe) :=
  ⟨ps_expr (pe_bm PySem.F.plainAttrs_list PySem.F.slot_list_insert PySem.F.type_list_insert mt_insert ho (pa_cons hk.pe (pa_cons he.pe pa_nil hs') hs) hbase hfew hline hs hplain) hsw, ss_ins hk.se he.se⟩
end
end XL

namespace XL
open PySem PySem.Spec L2

/-! ### the script, the pot -/
structure CalS (P : Program) (w : World) (K : PySem.W.Frag) (mg : Str → Option Value) (base : Heap) (k : Nat) (x : Str) (st : Stmt) (ps : List Str) (sp : Sp) : Prop where
  ex : ∃ (f : Addr) (fd : FuncData), mg x = some (.ref f) ∧ Fun K x x st f fd ∧ Binds K fd ps [] ∧ FnOk P w K mg base CX0 k f fd ps sp
section
variable {P : Program} {w : World} {K : PySem.W.Frag} {mg : Str → Option Value} {base : Heap}
theorem Cal.s {k : Nat} {x : Str} {st : Stmt} {ps : List Str} {F : Fn} (c : Cal P w K mg base k x st ps F) : CalS P w K mg base k x st ps (spF K F) := ⟨c.ex⟩
theorem Def.calS {x : Str} {st : Stmt} {ps N : List Str} {k : Nat} {sp : Sp} (D : Def K mg x st ps) (S : FnScope N ps (defScope st)) (hl : ∀ vs H Q E, sp vs H Q E → vs.length = ps.length)
    (h : ∀ (f : Addr) (cdv : Value) (A : Around) (outer : List Env) (s : Shared) (H : Hp) (vs : List V) (Q : VK) (E : XK), Room k (A.deeper (PyProof.Rows.envOfC x (defScope st) s.heap.objs.size f cdv)) → sp vs H Q E →
      ∃ t, PSs (cxOf CX0 P w K mg base N x (defScope st) f cdv A outer s H E).nox (defBody st) t ∧ t { nx := fun _ H' => Q .non H', rt := Q } (L2.start N vs) H) : CalS P w K mg base (k + 1) x st ps sp := by
  obtain ⟨f, fd, g, F, b⟩ := D.ex
  exact ⟨f, fd, g, F, b, F.ok S hl fun cdv A outer s H vs Q E hr hsp => h f cdv A outer s H vs Q E hr hsp⟩
end
section
variable {X : Cx} {pos : Pos} {e : Expr} {es : List Expr} {ta : TA}
theorem pcall {k : Nat} {x : Str} {st : Stmt} {ps : List Str} {sp : Sp} {p : Pos} (c : CalS X.prog X.w X.K X.mg X.base k x st ps sp) (hr : Room k X.A) (ha : PA X (e :: es) ta) (hg : Gl X x := by rfl) (hdb : (x == ("__debug__" : Str)) = false := by decide)
    (he : starEach (e :: es) X.env = (false, eval e X.env) :: starEach es X.env := by rfl) (hpl : (backTo pos (starEach es X.env)).any (·.1) = false := by rfl) : PE X (.Call (.Name x p) (e :: es) [] pos) (tCall sp [] E0 ta) := by
  obtain ⟨f, fd, hm, Fu, b, G⟩ := c.ex
  exact pe_call G hr hg hm Fu.kp b .nil pass0 ha hdb he hpl
end
/-- a pot: its first number at least 0, its second below the rest taken -/
def Pot (p0 p1 : Int) : Prop := 0 ≤ p0 ∧ 0 ≤ p1 ∧ p1 ≤ 2147483563
def spPot (K : PySem.W.Frag) : Sp := fun vs H Q _ => ∃ (a : Addr) (ns : List Int) (k : Nat), vs = [.ref a, .int k] ∧ SqL K H a (ns.map V.int) ∧ k ≤ 63 ∧
  ∀ p p0 p1, H p = none → Pot p0 p1 → Q (.ref p) (upd H p (.lst [.int p0, .int p1]))
theorem spPot_len {K : PySem.W.Frag} : ∀ vs H Q E, spPot K vs H Q E → vs.length = ["script", "k"].length := fun vs H Q E ⟨_, _, _, h, _⟩ => by rw [h]; rfl
theorem small_mul {i j : Int} (hi : i.natAbs < 2 ^ 64) (hj : j.natAbs < 2 ^ 64) : CMulW i j := by
  have h : ∀ n : Nat, n < 2 ^ 64 → n.log2 ≤ 64 := fun n hn => by
    by_cases z : n = 0
    · subst z; decide
    · exact Nat.le_of_lt (Nat.lt_of_lt_of_le ((Nat.log2_lt z).mpr hn) (Nat.le_refl _))
  have := h _ hi
  have := h _ hj
  show i.natAbs.log2 + j.natAbs.log2 < 1000000
  omega
abbrev rSubI : R2 := rI0 fun i j => .int (i - j)
abbrev rModI : R2 := rI (fun _ j => 0 < j) fun i j => .int (i % j)
abbrev rPowI : R2 := rI CPow fun i j => .int (i ^ j.toNat)
abbrev rLtI : R2 := rI0 fun i j => .bl (decide (i < j))
/-- the body of _law_pot -/
def tPot (K : PySem.W.Frag) (a b m s t : Int) : TS :=
  tSeq (tAsg (tIf (tTest (tOp rLtI (tVar 1) (tCB (XL.rLen K) (tCons (tVar 0) tNil)))) (tCB XL.rAbs (tCons (tOp (rIxU K) (tVar 0) (tVar 1)) tNil)) (tOp (XL.rAdd K) (tOp XL.rMul (tC (.int a)) (tVar 1)) (tC (.int b)))) (gName 2))
    (tRet (tLst (tCons (tCB (rMaxU K) (tCons (tC (.int 0)) (tCons (tOp rSubI (tVar 2) (tOp rPowI (tC (.int 10)) (tC (.int 18)))) tNil)))
      (tCons (tOp (XL.rAdd K) (tOp rModI (tCB XL.rInt (tCons (tOp (XL.rAdd K) (tOp (XL.rAdd K) (tOp XL.rMul (tOp rModI (tCB XL.rInt (tCons (tVar 2) tNil)) (tC (.int 2147483549))) (tC (.int m))) (tOp XL.rMul (tC (.int s)) (tVar 1))) (tC (.int t))) tNil)) (tC (.int 2147483563))) (tC (.int 1))) tNil))))
/-- an expression that just gives an int -/
def Gi (te : TE) (σ : L2.St) (H : Hp) (z : Int) : Prop := ∀ Q : VK, Q (.int z) H → te σ H Q
section
variable {K : PySem.W.Frag} {σ : L2.St} {H : Hp} {ta tb : TE} {i j : Int}
theorem gi_c : Gi (tC (.int i)) σ H i := fun Q h => h
theorem gi_v {n : Nat} (h : σ[n]? = some (some (.int i))) : Gi (tVar n) σ H i := fun Q q => ⟨_, h, q⟩
theorem gi_add (ha : Gi ta σ H i) (hb : Gi tb σ H j) : Gi (tOp (XL.rAdd K) ta tb) σ H (i + j) := fun Q q => ha _ (hb _ (.inl ⟨i, j, rfl, rfl, q⟩))
theorem gi_mul (ha : Gi ta σ H i) (hb : Gi tb σ H j) (h : CMulW i j) : Gi (tOp XL.rMul ta tb) σ H (i * j) := fun Q q => ha _ (hb _ (.inl ⟨i, j, rfl, rfl, h, q⟩))
theorem gi_sub (ha : Gi ta σ H i) (hb : Gi tb σ H j) : Gi (tOp rSubI ta tb) σ H (i - j) := fun Q q => ha _ (hb _ ⟨i, j, rfl, rfl, q⟩)
theorem gi_mod (ha : Gi ta σ H i) (hb : Gi tb σ H j) (h : 0 < j) : Gi (tOp rModI ta tb) σ H (i % j) := fun Q q => ha _ (hb _ ⟨i, j, rfl, rfl, h, q⟩)
theorem gi_pow (ha : Gi ta σ H i) (hb : Gi tb σ H j) (h : CPow i j) : Gi (tOp rPowI ta tb) σ H (i ^ j.toNat) := fun Q q => ha _ (hb _ ⟨i, j, rfl, rfl, h, q⟩)
theorem gi_int (ha : Gi ta σ H i) : Gi (tCB XL.rInt (tCons ta tNil)) σ H i := fun Q q => ha _ (.inl ⟨i, rfl, q⟩)
theorem gi_abs (ha : Gi ta σ H i) : Gi (tCB XL.rAbs (tCons ta tNil)) σ H (if i < 0 then -i else i) := fun Q q => ha _ ⟨i, rfl, q⟩
theorem gi_max (ha : Gi ta σ H i) (hb : Gi tb σ H j) : Gi (tCB (rMaxU K) (tCons ta (tCons tb tNil))) σ H (if j > i then j else i) := fun Q q => ha _ (hb _ (.inl ⟨i, j, rfl, q⟩))
theorem gi_min (ha : Gi ta σ H i) (hb : Gi tb σ H j) : Gi (tCB (rMinU K) (tCons ta (tCons tb tNil))) σ H (if j < i then j else i) := fun Q q => ha _ (hb _ (.inl ⟨i, j, rfl, q⟩))
theorem gi_len {n : Nat} {a : Addr} {vs : List V} (h : σ[n]? = some (some (.ref a))) (hS : SqL K H a vs) : Gi (tCB (XL.rLen K) (tCons (tVar n) tNil)) σ H vs.length := fun Q q => ⟨_, h, a, vs, rfl, .inl hS, q⟩
theorem gi_if {tc : TT} (b : Bool) (hc : ∀ Q : Bool → Hp → Prop, Q b H → tc σ H Q) (ha : b = true → Gi ta σ H i) (hb : b = false → Gi tb σ H i) : Gi (tIf tc ta tb) σ H i := fun Q q => hc _ (by
  cases b with
  | true => exact iteT (ha rfl Q q)
  | false => exact iteF (hb rfl Q q))
end
theorem pot_sem {K : PySem.W.Frag} {a b m s t : Int} {vs : List V} {H : Hp} {Q : VK} {E : XK} (hb : (a.natAbs < 2 ^ 64 ∧ m.natAbs < 2 ^ 64) ∧ s.natAbs < 2 ^ 64) (h : spPot K vs H Q E) :
    tPot K a b m s t { nx := fun _ H' => Q .non H', rt := Q } (L2.start ["script", "k", "cell"] vs) H := by
  obtain ⟨A, ns, k, rfl, hS, hk, q⟩ := h
  have fin : ∀ c : Int, tRet (tLst (tCons (tCB (rMaxU K) (tCons (tC (.int 0)) (tCons (tOp rSubI (tVar 2) (tOp rPowI (tC (.int 10)) (tC (.int 18)))) tNil)))
      (tCons (tOp (XL.rAdd K) (tOp rModI (tCB XL.rInt (tCons (tOp (XL.rAdd K) (tOp (XL.rAdd K) (tOp XL.rMul (tOp rModI (tCB XL.rInt (tCons (tVar 2) tNil)) (tC (.int 2147483549))) (tC (.int m))) (tOp XL.rMul (tC (.int s)) (tVar 1))) (tC (.int t))) tNil)) (tC (.int 2147483563))) (tC (.int 1))) tNil)))
      { nx := fun _ H' => Q .non H', rt := Q } [some (.ref A), some (.int k), some (.int c)] H := fun c => by
    have hm := Int.emod_nonneg c (show (2147483549 : Int) ≠ 0 by decide)
    have hm2 := Int.emod_lt_of_pos c (show (0 : Int) < 2147483549 by decide)
    refine gi_max gi_c (gi_sub (gi_v (n := 2) rfl) (gi_pow gi_c gi_c ⟨by decide, by decide, by decide⟩)) _ ?_
    refine gi_add (gi_mod (gi_int (gi_add (gi_add (gi_mul (gi_mod (gi_int (gi_v (n := 2) rfl)) gi_c (by decide)) gi_c (small_mul (by omega) hb.1.2)) (gi_mul gi_c (gi_v (n := 1) rfl) (small_mul hb.2 (by omega)))) gi_c)) gi_c (by decide)) gi_c _ ?_
    refine ⟨sz (show 2 ≤ 1000000 by decide), fun p hp => q p _ _ hp ⟨?_, ?_, ?_⟩⟩
    · split <;> omega
    · have := Int.emod_nonneg ((c % 2147483549) * m + s * k + t) (show (2147483563 : Int) ≠ 0 by decide)
      omega
    · have := Int.emod_lt_of_pos ((c % 2147483549) * m + s * k + t) (show (0 : Int) < 2147483563 by decide)
      omega
  have hlt : ∀ Q : Bool → Hp → Prop, Q (decide ((k : Int) < ((ns.map V.int).length : Nat))) H → tTest (tOp rLtI (tVar 1) (tCB (XL.rLen K) (tCons (tVar 0) tNil))) (L2.start ["script", "k", "cell"] [.ref A, .int k]) H Q :=
    fun Q q => ⟨_, rfl, gi_len (σ := L2.start ["script", "k", "cell"] [.ref A, .int k]) (n := 0) (a := A) rfl hS _ ⟨_, _, rfl, rfl, _, rfl, q⟩⟩
  by_cases z : k < ns.length
  · have e : (ns.map V.int)[k]? = some (.int ns[k]) := by rw [List.getElem?_map, List.getElem?_eq_getElem z]; rfl
    refine gi_if (i := if ns[k] < 0 then -ns[k] else ns[k]) true (fun Q q => hlt Q (by rw [List.length_map, decide_eq_true (by omega)]; exact q)) (fun _ => gi_abs fun Q q => ⟨_, rfl, _, rfl, .inl ⟨A, _, k, _, rfl, rfl, hS, atI_nat e, q⟩⟩) (fun q => nomatch q) _ (fin _)
  · refine gi_if (i := a * k + b) false (fun Q q => hlt Q (by rw [List.length_map, decide_eq_false (by omega)]; exact q)) (fun q => nomatch q) (fun _ => gi_add (gi_mul gi_c (gi_v (n := 1) rfl) (small_mul hb.1.1 (by omega))) gi_c) _ (fin _)
/-! ### the law -/
/-- what the law's own right has to answer at any pot -/
def Right (F : Fn) : Prop := ∀ p0 p1, Pot p0 p1 → ∃ outs, F [.io [.int p0, .int p1]] = .ok (.bool true, outs)
theorem SqL.keep {K : PySem.W.Frag} {H H' : Hp} {a : Addr} {xs : List V} (h : SqL K H a xs) (k : ∀ b o, H b = some o → H' b = some o) : SqL K H' a xs := by
  rcases h with (h | ⟨o, h⟩) | h
  · exact .inl (.inl (k _ _ h))
  · exact .inl (.inr ⟨o, k _ _ h⟩)
  · exact .inr h
def tRight (K : PySem.W.Frag) (F : Fn) (tk : TE) : TE := tCall (spF K F) [] E0 (tCons (tCall (spPot K) [] E0 (tCons (tVar 0) (tCons tk tNil))) tNil)
theorem right_sem {K : PySem.W.Frag} {F : Fn} {tk : TE} {σ : L2.St} {H : Hp} {a : Addr} {ns : List Int} {k : Nat} (hF : Right F) (h0 : σ[0]? = some (some (.ref a))) (hk : Gi tk σ H k) (hS : SqL K H a (ns.map V.int)) (hk2 : k ≤ 63) (Q : VK)
    (q : ∀ H', (∀ b o, H b = some o → H' b = some o) → Q (.bl true) H') : tRight K F tk σ H Q := by
  refine ⟨_, h0, hk _ ⟨a, ns, k, rfl, hS, hk2, fun p p0 p1 hp hpot => ?_⟩⟩
  obtain ⟨outs, e⟩ := hF p0 p1 hpot
  refine ⟨fun b => b = p, [.io [.int p0, .int p1]], [p], _, outs, fun b hb => ?_, .io rfl upd_same (.cons (.int _) (.cons (.int _) .nil)) (by simp) .nil, e, fun v H' kp rv _ => ?_⟩
  · subst hb; exact ⟨_, upd_same⟩
  · cases rv
    refine q H' fun b o hb => kp b o ?_ ?_
    · rw [upd_ne (ne_of_none hb hp)]; exact hb
    · simpa using ne_of_none hb hp
def spLaw (K : PySem.W.Frag) : Sp := fun vs H Q _ => ∃ (a : Addr) (ns : List Int), vs = [.ref a] ∧ SqL K H a (ns.map V.int) ∧ ns.length ≤ 63 ∧ ∀ H', Q (.bl true) H'
theorem spLaw_len {K : PySem.W.Frag} : ∀ vs H Q E, spLaw K vs H Q E → vs.length = ["script"].length := fun vs H Q E ⟨_, _, h, _⟩ => by rw [h]; rfl
/-- only the first cell -/
theorem lawC_sem {K : PySem.W.Frag} {F : Fn} {vs : List V} {H : Hp} {Q : VK} {E : XK} {N : List Str} (hF : Right F) (h : spLaw K vs H Q E) : tRet (tRight K F (tC (.int 0))) { nx := fun _ H' => Q .non H', rt := Q } (L2.start ("script" :: N) vs) H := by
  obtain ⟨a, ns, rfl, hS, hl, q⟩ := h
  exact right_sem (k := 0) hF rfl gi_c hS (by omega) _ fun H' _ => q H'
/-- how many turns -/
def tTurns (K : PySem.W.Frag) : TE := tCB (rMaxU K) (tCons (tC (.int 1)) (tCons (tCB (rMinU K) (tCons (tC (.int 2)) (tCons (tCB (XL.rLen K) (tCons (tVar 0) tNil)) tNil))) tNil))
theorem turns_sem {K : PySem.W.Frag} {σ : L2.St} {H : Hp} {a : Addr} {ns : List Int} (h0 : σ[0]? = some (some (.ref a))) (hS : SqL K H a (ns.map V.int)) : ∃ n : Nat, n ≤ 2 ∧ Gi (tTurns K) σ H n := by
  refine ⟨if ns.length ≤ 1 then 1 else 2, by split <;> omega, fun Q q => ?_⟩
  refine gi_max gi_c (gi_min gi_c (gi_len h0 hS)) Q ?_
  have e : (if (if ((ns.map V.int).length : Int) < 2 then ((ns.map V.int).length : Int) else 2) > 1 then (if ((ns.map V.int).length : Int) < 2 then ((ns.map V.int).length : Int) else 2) else 1) = ((if ns.length ≤ 1 then 1 else 2 : Nat) : Int) := by
    rw [List.length_map]
    split <;> split <;> split <;> omega
  rw [e]
  exact q
theorem yes_t {σ : L2.St} {H : Hp} {A B : Hp → Prop} (h : A H) : tYes σ H fun b H3 => if b = true then A H3 else B H3 := by
  show (if true = true then A H else B H)
  exact iteT h
/-- all of the turns in a list -/
def tLawA (K : PySem.W.Frag) (F : Fn) : TS := tRet (tCB (L2.rAll K) (tCons (tLc (iRng1 (tCons (tTurns K) tNil)) (gName 1) tYes (tRight K F (tVar 1)) [1]) tNil))
theorem lawA_sem {K : PySem.W.Frag} {F : Fn} {vs : List V} {H : Hp} {Q : VK} {E : XK} (hF : Right F) (h : spLaw K vs H Q E) : tLawA K F { nx := fun _ H' => Q .non H', rt := Q } (L2.start ["script", "k"] vs) H := by
  obtain ⟨a, ns, rfl, hS, hl, q⟩ := h
  obtain ⟨n, hn, g⟩ := turns_sem (K := K) (σ := [some (.ref a), none]) (H := H) (a := a) (ns := ns) rfl hS
  refine g _ ⟨n, rfl, by omega, by omega, fun D hD => ?_⟩
  refine ⟨fun i m H3 => m = n - i ∧ i ≤ n ∧ (∀ b o, H b = some o → H3 b = some o) ∧ H3 D = some (.lst (List.replicate i (.bl true))), ⟨n, by omega, by omega, fun b o hb => by rw [upd_ne (ne_of_none hb hD)]; exact hb, upd_same⟩, ?_⟩
  rintro i m H3 ⟨rfl, hi, kp, hd⟩
  by_cases z : i < n
  · refine .inr ⟨by show i < Int.toNat n; omega, fun H4 => (∀ b o, H b = some o → H4 b = some o) ∧ H4 D = some (.lst (List.replicate (i + 1) (.bl true))), fun H4 h4 => ⟨n - (i + 1), by omega, rfl, z, h4⟩, ?_⟩
    rintro x H4 ⟨rfl, rfl⟩
    refine ⟨rfl, yes_t ?_⟩
    refine right_sem (k := i) (a := a) (ns := ns) hF rfl (gi_v (by rw [Int.zero_add]; rfl)) (SqL.keep hS kp) (by omega) _ fun H5 kp5 => ⟨_, kp5 _ _ hd, szl (by simp; omega), fun b o hb => ?_, ?_⟩
    · rw [upd_ne (ne_of_none hb hD)]
      exact kp5 _ _ (kp _ _ hb)
    · rw [upd_same, List.replicate_succ']
  · have e : i = n := by omega
    subst e
    refine .inl ⟨by show Int.toNat i ≤ i; omega, D, List.replicate i true, rfl, .inl (.inl (by rw [hd, List.map_replicate])), ?_⟩
    have e2 : (List.replicate i true).all id = true := by simp
    rw [e2]
    exact q H3
/-- the turns one by one -/
def tLawB (K : PySem.W.Frag) (F : Fn) : TS := tSeq (tFor (iRng1 (tCons (tTurns K) tNil)) (gName 1) (tIfS (tNot (tB (tRight K F (tVar 1)))) (tRet (tC (.bl false))) tNext)) (tRet (tC (.bl true)))
theorem lawB_sem {K : PySem.W.Frag} {F : Fn} {vs : List V} {H : Hp} {Q : VK} {E : XK} (hF : Right F) (h : spLaw K vs H Q E) : tLawB K F { nx := fun _ H' => Q .non H', rt := Q } (L2.start ["script", "k"] vs) H := by
  obtain ⟨a, ns, rfl, hS, hl, q⟩ := h
  obtain ⟨n, hn, g⟩ := turns_sem (K := K) (σ := [some (.ref a), none]) (H := H) (a := a) (ns := ns) rfl hS
  refine g _ ⟨n, rfl, by omega, by omega, ?_⟩
  refine for_range (fun i σ H3 => (∃ y, σ = [some (.ref a), y]) ∧ ∀ b o, H b = some o → H3 b = some o) ⟨⟨none, rfl⟩, fun b o hb => hb⟩ ?_ fun σ H3 _ => q H3
  rintro i σ H3 hi ⟨⟨y, rfl⟩, kp⟩
  refine right_sem (k := i) (a := a) (ns := ns) hF rfl (gi_v (by rw [Int.zero_add]; rfl)) (SqL.keep hS kp) (by omega) _ fun H5 kp5 => ⟨true, rfl, iteF ⟨⟨_, rfl⟩, fun b o hb => kp5 _ _ (kp _ _ hb)⟩⟩

/-! ### what the top has written -/
theorem def_mk {K : PySem.W.Frag} {mg : Str → Option Value} {h : Heap} {x : Str} {st : Stmt} {ps : List Str} {f : Addr} {oc : Value} {od an : Option Addr} {osl : Array (Option Value)} {kV doc pm cdv ct : Value} (X : K.In h) (G : h.Ns mainGlobals mg)
    (a : PySem.W.nsIn K mainGlobals x = some (some (.ref f))) (l : K.lookup f = some ⟨oc, od, .func (PySem.W.fnOf x x (defArgs st) (defBody st) (defScope st) .none kV doc pm an cdv ct), osl⟩)
    (c : PySem.W.codeIn K cdv x = true) (k : PySem.W.keepIn K (.ref f) = true)
    (hb : ∀ (kV doc pm : Value) (an : Option Addr) (cdv ct : Value) (us : List Value), us.length = ps.length → bindArgs (PySem.W.fnOf x x (defArgs st) (defBody st) (defScope st) .none kV doc pm an cdv ct) ⟨us, []⟩ = pure (ps.zip us)) : Def K mg x st ps :=
  ⟨f, _, PySem.W.mg_of X G a, fun_mk l c k, (fun_mk l c k).binds hb⟩
theorem law_end {P : Program} {w : World} {K : PySem.W.Frag} {mg : Str → Option Value} {h : Heap} {st : Stmt} {n : Nat} {f fa : Addr} {oc : Value} {od an : Option Addr} {osl : Array (Option Value)} {kV doc pm cdv ct : Value} (X : K.In h) (G : h.Ns mainGlobals mg) (hfa : mg "law" = some (.ref fa))
    (a : PySem.W.nsIn K mainGlobals "law" = some (some (.ref f))) (l : K.lookup f = some ⟨oc, od, .func (PySem.W.fnOf "law" "law" (defArgs st) (defBody st) (defScope st) .none kV doc pm an cdv ct), osl⟩)
    (c : PySem.W.codeIn K cdv "law" = true) (k : PySem.W.keepIn K (.ref f) = true)
    (hb : ∀ (s : Shared) (v : Value), BindsTo s (PySem.W.fnOf "law" "law" (defArgs st) (defBody st) (defScope st) .none kV doc pm an cdv ct) ⟨[v], []⟩ [("script", v)])
    (hok : ∀ (fd : FuncData) (base : Heap), Fun K "law" "law" st fa fd → FnOk P w K mg base CX0 n fa fd ["script"] (spLaw K)) :
    ∃ fd : FuncData, (∀ (s : Shared) (v : Value), BindsTo s fd ⟨[v], []⟩ [("script", v)]) ∧ ∀ base : Heap, K.In base → base.Ns mainGlobals mg → FnOk P w K mg base CX0 n fa fd ["script"] (spLaw K) := by
  have e := hfa.symm.trans (PySem.W.mg_of X G a)
  cases e
  exact ⟨_, hb, fun base _ _ => hok _ base (fun_mk l c k)⟩
/-! one behind the other -/
section
variable {K : PySem.W.Frag} {mg : Str → Option Value} {h : Heap} {x : Str} {goal : Prop}
theorem with_def {st : Stmt} {ps : List Str} {f : Addr} {oc : Value} {od an : Option Addr} {osl : Array (Option Value)} {kV doc pm cdv ct : Value} (X : K.In h) (G : h.Ns mainGlobals mg)
    (a : PySem.W.nsIn K mainGlobals x = some (some (.ref f))) (l : K.lookup f = some ⟨oc, od, .func (PySem.W.fnOf x x (defArgs st) (defBody st) (defScope st) .none kV doc pm an cdv ct), osl⟩)
    (c : PySem.W.codeIn K cdv x = true) (k : PySem.W.keepIn K (.ref f) = true)
    (hb : ∀ (kV doc pm : Value) (an : Option Addr) (cdv ct : Value) (us : List Value), us.length = ps.length → bindArgs (PySem.W.fnOf x x (defArgs st) (defBody st) (defScope st) .none kV doc pm an cdv ct) ⟨us, []⟩ = pure (ps.zip us)) (go : Def K mg x st ps → goal) : goal := go (def_mk X G a l c k hb)
theorem with_none (X : K.In h) (G : h.Ns mainGlobals mg) (a : PySem.W.nsIn K mainGlobals x = some none) (go : mg x = none → goal) : goal := go (PySem.W.mg_none_of X G a)
theorem with_val {v : Value} (X : K.In h) (G : h.Ns mainGlobals mg) (a : PySem.W.nsIn K mainGlobals x = some (some v)) (go : mg x = some v → goal) : goal := go (PySem.W.mg_of X G a)
theorem with_int {i : Int} {t : Tok} (X : K.In h) (G : h.Ns mainGlobals mg) (a : PySem.W.nsIn K mainGlobals x = some (some (.int i t))) (go : (∃ t, mg x = some (.int i t)) → goal) : goal := go ⟨t, PySem.W.mg_of X G a⟩
end
end XL

namespace XL
open PySem PySem.Spec L2

/-! ### one row for each step (printed by steps.py) -/
@[simp] theorem ok_bind {α β : Type} (x : α) (f : α → Res β) : (Res.ok x >>= f) = f x := rfl
@[simp] theorem bad_bind {α β : Type} (f : α → Res β) : (Res.bad >>= f) = .bad := rfl
@[simp] theorem st_sBad (env : En) : sBad env = .bad := rfl
@[simp] theorem st_eVar (i : Nat) (env : En) : eVar i env = match env[i]? with
  | some .em => .bad
  | some _ => .ok (.s i, env)
  | none => .bad := rfl
@[simp] theorem st_eC (d : PyData) (env : En) : eC d env = .ok (.d d, env) := rfl
@[simp] theorem st_eBin (op : PyData → PyData → Res PyData) (f g : Ev) (env : En) : eBin op f g env = f env >>= fun p => g p.2 >>= fun q => rd q.2 p.1 >>= fun x => rd q.2 q.1 >>= fun y => op x y >>= fun z => .ok (.d z, q.2) := rfl
@[simp] theorem st_eUn (op : PyData → Res PyData) (f : Ev) (env : En) : eUn op f env = f env >>= fun p => rd p.2 p.1 >>= fun x => op x >>= fun z => .ok (.d z, p.2) := rfl
@[simp] theorem st_eT (f : Ev) (env : En) : eT f env = f env >>= fun p => rd p.2 p.1 >>= fun x => asB x >>= fun b => .ok (b, p.2) := rfl
@[simp] theorem st_eTru (f : Ev) (env : En) : eTru f env = f env >>= fun p => rd p.2 p.1 >>= fun x => truD x >>= fun b => .ok (b, p.2) := rfl
@[simp] theorem st_eAndT (f g : EvT) (env : En) : eAndT f g env = f env >>= fun p => if p.1 = true then g p.2 else .ok (false, p.2) := rfl
@[simp] theorem st_eOrT (f g : EvT) (env : En) : eOrT f g env = f env >>= fun p => if p.1 = true then .ok (true, p.2) else g p.2 := rfl
@[simp] theorem st_eNotT (f : EvT) (env : En) : eNotT f env = f env >>= fun p => .ok (!p.1, p.2) := rfl
@[simp] theorem st_eAnd (f g : Ev) (env : En) : eAnd f g env = f env >>= fun p => rd p.2 p.1 >>= fun x => asB x >>= fun b => if b = true then g p.2 else .ok (.d (.bool false), p.2) := rfl
@[simp] theorem st_eOr (f g : Ev) (env : En) : eOr f g env = f env >>= fun p => rd p.2 p.1 >>= fun x => asB x >>= fun b => if b = true then .ok (.d (.bool true), p.2) else g p.2 := rfl
@[simp] theorem st_eNot (f : Ev) (env : En) : eNot f env = f env >>= fun p => rd p.2 p.1 >>= fun x => asB x >>= fun b => .ok (.d (.bool (!b)), p.2) := rfl
@[simp] theorem st_eIf (c : EvT) (f g : Ev) (env : En) : eIf c f g env = c env >>= fun p => if p.1 = true then f p.2 else g p.2 := rfl
@[simp] theorem st_eNil  (env : En) : eNil env = .ok ([], env) := rfl
@[simp] theorem st_eCons (f : Ev) (g : EvA) (env : En) : eCons f g env = f env >>= fun p => g p.2 >>= fun q => .ok (p.1 :: q.1, q.2) := rfl
@[simp] theorem st_eCB (op : List PyData → Res PyData) (f : EvA) (env : En) : eCB op f env = f env >>= fun p => rdA p.2 p.1 >>= fun ds => op ds >>= fun z => .ok (.d z, p.2) := rfl
@[simp] theorem st_eNilV  (env : En) : eNilV env = .ok ([], env) := rfl
@[simp] theorem st_eConsV (f : EvS) (g : EvL) (env : En) : eConsV f g env = f env >>= fun p => g p.2 >>= fun q => .ok (p.1 :: q.1, q.2) := rfl
@[simp] theorem st_eTup (f : EvL) (env : En) : eTup f env = f env >>= fun p => if p.1.length ≤ 1000000 then .ok (.d (.tuple p.1), p.2) else .bad := rfl
@[simp] theorem st_eLst (f : EvL) (env : En) : eLst f env = f env >>= fun p => if p.1.length ≤ 1000000 then .ok (.d (.list p.1), p.2) else .bad := rfl
@[simp] theorem st_eNoPart  (env : En) : eNoPart env = .ok (none, env) := rfl
@[simp] theorem st_ePart (f : Ev) (env : En) : ePart f env = f env >>= fun p => rd p.2 p.1 >>= fun x => asI x >>= fun i => .ok (some i, p.2) := rfl
@[simp] theorem st_eSl (f : Ev) (lo hi : EvO) (env : En) : eSl f lo hi env = f env >>= fun p => lo p.2 >>= fun l => hi l.2 >>= fun h => rd h.2 p.1 >>= fun x => oSl l.1 h.1 x >>= fun z => .ok (.d z, h.2) := rfl
@[simp] theorem st_eIsi (f : Ev) (Ts : List String) (env : En) : eIsi f Ts env = f env >>= fun p => rd p.2 p.1 >>= fun d => .ok (.d (.bool (Ts.any fun T => isTy d T)), p.2) := rfl
@[simp] theorem st_eF (f : EvF) (env : En) : eF f env = f env >>= fun p => .ok (.list p.1, p.2) := rfl
@[simp] theorem st_eLstF (f : EvL) (env : En) : eLstF f env = f env >>= fun p => if p.1.length ≤ 1000000 then .ok (p.1, p.2) else .bad := rfl
@[simp] theorem st_eCBF (op : List PyData → Res PyData) (f : EvA) (env : En) : eCBF op f env = f env >>= fun p => rdA p.2 p.1 >>= fun ds => op ds >>= fun z => asL z >>= fun xs => .ok (xs, p.2) := rfl
@[simp] theorem st_eBinF (op : PyData → PyData → Res PyData) (f g : Ev) (env : En) : eBinF op f g env = f env >>= fun p => g p.2 >>= fun q => rd q.2 p.1 >>= fun x => rd q.2 q.1 >>= fun y => op x y >>= fun z => asL z >>= fun xs => .ok (xs, q.2) := rfl
@[simp] theorem st_sSkip  (env : En) : sSkip env = .ok (.nx, env) := rfl
@[simp] theorem st_sSeq (f g : EvSt) (env : En) : sSeq f g env = f env >>= fun p => match p.1 with
  | .nx => g p.2
  | fl => .ok (fl, p.2) := rfl
@[simp] theorem st_sRet (f : EvS) (env : En) : sRet f env = f env >>= fun p => .ok (.rt p.1, p.2) := rfl
@[simp] theorem st_sIf (c : EvT) (f g : EvSt) (env : En) : sIf c f g env = c env >>= fun p => if p.1 = true then f p.2 else g p.2 := rfl
@[simp] theorem st_sDrop (f : Ev) (env : En) : sDrop f env = f env >>= fun p => .ok (.nx, p.2) := rfl
@[simp] theorem st_gN (i : Nat) (d : PyData) (env : En) : gN i d env = put i (.va d) env := rfl
@[simp] theorem st_sAsg (f : EvS) (g : EvG) (env : En) : sAsg f g env = f env >>= fun p => g p.1 p.2 >>= fun e => .ok (.nx, e) := rfl
@[simp] theorem st_sNew (f : EvF) (i : Nat) (env : En) : sNew f i env = f env >>= fun p => put i (.ow p.1) p.2 >>= fun e => .ok (.nx, e) := rfl
@[simp] theorem st_gT (gs : List EvG) (d : PyData) (env : En) : gT gs d env = match d with
  | .tuple xs => gAll gs xs env
  | _ => .bad := rfl
@[simp] theorem st_gX (i : Nat) (fi : Ev) (d : PyData) (env : En) : gX i fi d env = own? env i >>= fun _ => fi env >>= fun p => rd p.2 p.1 >>= fun x => asI x >>= fun k => own? p.2 i >>= fun xs => match ixN xs.length k with
  | some j => .ok (reown p.2 i (xs.set j d))
  | none => .bad := rfl
@[simp] theorem st_sApp (i : Nat) (f : EvS) (env : En) : sApp i f env = own? env i >>= fun _ => f env >>= fun p => own? p.2 i >>= fun xs => if xs.length < 1000000 then .ok (.nx, reown p.2 i (xs ++ [p.1])) else .bad := rfl
@[simp] theorem st_sExt (i : Nat) (f : Ev) (env : En) : sExt i f env = own? env i >>= fun _ => f env >>= fun p => rd p.2 p.1 >>= fun d => asL d >>= fun ys => own? p.2 i >>= fun xs =>
  if xs.length + ys.length ≤ 1000000 then .ok (.nx, reown p.2 i (xs ++ ys)) else .bad := rfl
@[simp] theorem st_ePop (i : Nat) (env : En) : ePop i env = own? env i >>= fun xs => match xs[xs.length - 1]? with
  | some d => .ok (.d d, reown env i xs.dropLast)
  | none => .bad := rfl
@[simp] theorem st_ePopAt (i : Nat) (fi : Ev) (env : En) : ePopAt i fi env = own? env i >>= fun _ => fi env >>= fun p => rd p.2 p.1 >>= fun x => asI x >>= fun k => own? p.2 i >>= fun xs =>
  if 0 ≤ k ∧ k < 1000000 then match xs[k.toNat]? with
    | some d => .ok (.d d, reown p.2 i (xs.eraseIdx k.toNat))
    | none => .bad
  else .bad := rfl
@[simp] theorem st_iSeq (f : EvS) (env : En) : iSeq f env = f env >>= fun p => match p.1 with
  | .list xs => .ok (xs, p.2)
  | .tuple xs => .ok (xs, p.2)
  | _ => .bad := rfl
@[simp] theorem st_iR1 (f : Ev) (env : En) : iR1 f env = f env >>= fun p => rd p.2 p.1 >>= asI >>= fun n => if -1000000000000 ≤ n ∧ n ≤ 1000000000000 then .ok (rangeD 0 n, p.2) else .bad := rfl
@[simp] theorem st_iR2 (f g : Ev) (env : En) : iR2 f g env = f env >>= fun p => g p.2 >>= fun q => rd q.2 p.1 >>= asI >>= fun n => rd q.2 q.1 >>= asI >>= fun m =>
  if (-1000000000000 ≤ n ∧ n ≤ 1000000000000) ∧ -1000000000000 ≤ m ∧ m ≤ 1000000000000 then .ok (rangeD n m, q.2) else .bad := rfl
@[simp] theorem st_iZipP (f : EvL) (env : En) : iZip' f env = f env >>= fun p => match p.1 with
  | [.list xs, .list ys] => .ok (zipD xs ys, p.2)
  | [.tuple xs, .tuple ys] => .ok (zipD xs ys, p.2)
  | _ => .bad := rfl
@[simp] theorem st_iEn (f : EvL) (env : En) : iEn f env = f env >>= fun p => match p.1 with
  | [.list xs] => .ok (enumD xs, p.2)
  | _ => .bad := rfl
@[simp] theorem st_sFor (it : EvI) (g : EvG) (body : EvSt) (env : En) : sFor it g body env = it env >>= fun p => forD g body p.1 p.2 := rfl
@[simp] theorem st_eLc (it : EvI) (g : EvG) (tst : EvT) (elt : EvS) (vs : List Nat) (env : En) : eLc it g tst elt vs env = it env >>= fun p =>
  if p.1.length ≤ 1000000 ∧ clr p.2 vs = true then lcD g tst elt vs p.1 p.2 else .bad := rfl
@[simp] theorem st_eYes  (env : En) : eYes env = .ok (true, env) := rfl
@[simp] theorem st_pNil  (env : En) : pNil env = .ok ([], env) := rfl
@[simp] theorem st_pV (f : EvS) (g : EvP) (env : En) : pV f g env = f env >>= fun p => g p.2 >>= fun q => .ok (.va p.1 :: q.1, q.2) := rfl
@[simp] theorem st_pF (f : EvF) (g : EvP) (env : En) : pF f g env = f env >>= fun p => g p.2 >>= fun q => .ok (.ow p.1 :: q.1, q.2) := rfl
@[simp] theorem st_eFn (n : Nat) (body : EvSt) (args : List Sl) : eFn n body args = if args.length ≤ n then body (args ++ List.replicate (n - args.length) .em) >>= fun p => match p.1 with
  | .rt d => .ok (d, outsOf args p.2)
  | .nx => .ok (.none, outsOf args p.2)
  | _ => .bad
  else .bad := rfl
@[simp] theorem st_aNil  (env : En) : aNil env = .ok ([], env) := rfl
@[simp] theorem st_aV (f : EvS) (g : EvAg) (env : En) : aV f g env = f env >>= fun p => g p.2 >>= fun q => .ok (.inl p.1 :: q.1, q.2) := rfl
@[simp] theorem st_aIo (i : Nat) (g : EvAg) (env : En) : aIo i g env = own? env i >>= fun _ => g env >>= fun q => .ok (.inr i :: q.1, q.2) := rfl
@[simp] theorem st_eCall (F : Fn) (f : EvAg) (env : En) : eCall F f env = f env >>= fun p => if (iosA p.1).Nodup then mkArgs p.2 p.1 >>= F >>= fun r => .ok (.d r.1, wrA p.1 r.2 p.2) else .bad := rfl
@[simp] theorem st_ar (n : Nat) (F : Fn) (args : List Sl) : ar n F args = if args.length = n then F args else .bad := rfl
@[simp] theorem st_eChain (o o' : PyData → PyData → Res PyData) (f g h : Ev) (env : En) : eChain o o' f g h env = f env >>= fun p => g p.2 >>= fun q => rd q.2 p.1 >>= fun x => rd q.2 q.1 >>= fun y => o x y >>= asB >>= fun k =>
  if k = true then h q.2 >>= fun r => rd r.2 q.1 >>= fun y' => rd r.2 r.1 >>= fun z => o' y' z >>= fun v => .ok (.d v, r.2) else .ok (.d (.bool false), q.2) := rfl
@[simp] theorem st_sPar (f : EvP) (is : List Nat) (env : En) : sPar f is env = f env >>= fun p => putAll is p.1 p.2 >>= fun e => .ok (.nx, e) := rfl
@[simp] theorem st_eFe (f : EvF) (env : En) : eFe f env = f env >>= fun p => .ok (.d (.list p.1), p.2) := rfl
@[simp] theorem st_iR3 (f g h : Ev) (env : En) : iR3 f g h env = f env >>= fun p => g p.2 >>= fun q => h q.2 >>= fun r => rd r.2 p.1 >>= asI >>= fun i => rd r.2 q.1 >>= asI >>= fun j => rd r.2 r.1 >>= asI >>= fun c =>
  if rgOk i j c = true then .ok (rangeC i j c, r.2) else .bad := rfl
@[simp] theorem st_sIns (i : Nat) (fk : Ev) (f : EvS) (env : En) : sIns i fk f env = own? env i >>= fun _ => fk env >>= fun p => f p.2 >>= fun q => rd q.2 p.1 >>= fun x => asI x >>= fun k => own? q.2 i >>= fun xs =>
  if xs.length < 1000000 ∧ 0 ≤ k ∧ k < 1000000000 then .ok (.nx, reown q.2 i (xs.take k.toNat ++ [q.1] ++ xs.drop k.toNat)) else .bad := rfl
/-! ### slots -/
@[simp] theorem rd_s (env : En) (i : Nat) : rd env (.s i) = match env[i]? with
  | some s => rdS s
  | none => .bad := rfl
@[simp] theorem rdS_em : rdS .em = .bad := rfl
@[simp] theorem rdS_va (d : PyData) : rdS (.va d) = .ok d := rfl
@[simp] theorem rdS_ow (xs : List PyData) : rdS (.ow xs) = .ok (.list xs) := rfl
@[simp] theorem rdS_io (xs : List PyData) : rdS (.io xs) = .ok (.list xs) := rfl
@[simp] theorem strg_d (d : PyData) (env : En) : strg (.d d, env) = .ok (d, env) := rfl
@[simp] theorem strg_s (i : Nat) (env : En) : strg (.s i, env) = match env[i]? with
  | some (.va d) => .ok (d, env)
  | some (.ow xs) => .ok (.list xs, env.set i (.va (.list xs)))
  | _ => .bad := rfl
@[simp] theorem st_eV (f : Ev) (env : En) : eV f env = f env >>= strg := rfl
@[simp] theorem st_put (i : Nat) (s : Sl) (env : En) : put i s env = match env[i]? with
  | some (.io _) => .bad
  | some _ => .ok (env.set i s)
  | none => .bad := by unfold put; rfl
@[simp] theorem rdA_nil (env : En) : rdA env [] = .ok [] := rfl
@[simp] theorem rdA_cons (env : En) (w : Wv) (ws : List Wv) : rdA env (w :: ws) = rd env w >>= fun d => rdA env ws >>= fun ds => .ok (d :: ds) := rfl
@[simp] theorem asB_b (b : Bool) : asB (.bool b) = .ok b := rfl
@[simp] theorem asI_i (i : Int) : asI (.int i) = .ok i := rfl
@[simp] theorem asL_l (xs : List PyData) : asL (.list xs) = .ok xs := rfl
@[simp] theorem truD_b (b : Bool) : truD (.bool b) = .ok b := rfl
@[simp] theorem truD_i (i : Int) : truD (.int i) = .ok (i != 0) := rfl
@[simp] theorem truD_n : truD .none = .ok false := rfl
@[simp] theorem truD_l (xs : List PyData) : truD (.list xs) = .ok (!xs.isEmpty) := rfl
@[simp] theorem truD_t (xs : List PyData) : truD (.tuple xs) = .ok (!xs.isEmpty) := rfl
@[simp] theorem st_ownQ (env : En) (i : Nat) : own? env i = match env[i]? with
  | some (.ow xs) => .ok xs
  | some (.io xs) => .ok xs
  | _ => .bad := by unfold own?; rfl
@[simp] theorem st_reown (env : En) (i : Nat) (ys : List PyData) : reown env i ys = match env[i]? with
  | some (.io _) => env.set i (.io ys)
  | _ => env.set i (.ow ys) := by unfold reown; rfl
@[simp] theorem iosA_nil : iosA [] = [] := rfl
@[simp] theorem iosA_l (d : PyData) (r : List Ag) : iosA (.inl d :: r) = iosA r := rfl
@[simp] theorem iosA_r (i : Nat) (r : List Ag) : iosA (.inr i :: r) = i :: iosA r := rfl
@[simp] theorem mkArgs_nil (env : En) : mkArgs env [] = .ok [] := rfl
@[simp] theorem mkArgs_l (env : En) (d : PyData) (r : List Ag) : mkArgs env (.inl d :: r) = mkArgs env r >>= fun ss => .ok (.va d :: ss) := rfl
@[simp] theorem mkArgs_r (env : En) (i : Nat) (r : List Ag) : mkArgs env (.inr i :: r) = own? env i >>= fun xs => mkArgs env r >>= fun ss => .ok (.io xs :: ss) := rfl
@[simp] theorem wrA_l (d : PyData) (r : List Ag) (os : List (List PyData)) (env : En) : wrA (.inl d :: r) os env = wrA r os env := by cases os <;> rfl
@[simp] theorem wrA_r (i : Nat) (r : List Ag) (o : List PyData) (os : List (List PyData)) (env : En) : wrA (.inr i :: r) (o :: os) env = wrA r os (reown env i o) := rfl
@[simp] theorem wrA_nil (os : List (List PyData)) (env : En) : wrA [] os env = env := by cases os <;> rfl
@[simp] theorem outsOf_nil (e : En) : outsOf [] e = [] := rfl
@[simp] theorem outsOf_va (d : PyData) (as : List Sl) (e : Sl) (es : En) : outsOf (.va d :: as) (e :: es) = outsOf as es := rfl
@[simp] theorem outsOf_io (xs ys : List PyData) (as : List Sl) (es : En) : outsOf (.io xs :: as) (.io ys :: es) = ys :: outsOf as es := rfl
@[simp] theorem gAll_nil (env : En) : gAll [] [] env = .ok env := rfl
@[simp] theorem gAll_cons (g : EvG) (gs : List EvG) (d : PyData) (ds : List PyData) (env : En) : gAll (g :: gs) (d :: ds) env = g d env >>= fun e => gAll gs ds e := rfl
@[simp] theorem putAll_nil (env : En) : putAll [] [] env = .ok env := rfl
@[simp] theorem putAll_cons (i : Nat) (is : List Nat) (s : Sl) (ss : List Sl) (env : En) : putAll (i :: is) (s :: ss) env = put i s env >>= fun e => putAll is ss e := rfl
@[simp] theorem permL_nil {α : Type} (l : List α) : permL [] l = [] := rfl
@[simp] theorem permL_cons {α : Type} (i : Nat) (pm : List Nat) (l : List α) : permL (i :: pm) l = match l[i]? with
  | some x => x :: permL pm l
  | none => permL pm l := by
  unfold permL
  rw [List.filterMap_cons]
  cases l[i]? <;> rfl
@[simp] theorem st_eCallP (F : Fn) (n m : Nat) (pm : List Nat) (f g : EvAg) (env : En) : eCallP F n m pm f g env = (f env >>= fun p => g p.2 >>= fun q => if p.1.length = n ∧ q.1.length = m then .ok (permL pm (p.1 ++ q.1), q.2) else .bad) >>= fun p => if (iosA p.1).Nodup then mkArgs p.2 p.1 >>= F >>= fun r => .ok (.d r.1, wrA p.1 r.2 p.2) else .bad := rfl
/-! ### operations -/
/-- an int of some use in a product -/
def Sm (i : Int) : Prop := -BIG < i ∧ i < BIG
theorem Sm.of {i : Int} (h : -(10 ^ 70) < i ∧ i < 10 ^ 70) : Sm i := by have := BIG_ge; unfold Sm; omega
@[simp] theorem oAdd_i (i j : Int) : oAdd (.int i) (.int j) = .ok (.int (i + j)) := rfl
@[simp] theorem oSub_i (i j : Int) : oSub (.int i) (.int j) = .ok (.int (i - j)) := rfl
@[simp] theorem oMul_i (i j : Int) : oMul (.int i) (.int j) = if (-BIG < i ∧ i < BIG) ∧ (-BIG < j ∧ j < BIG) then .ok (.int (i * j)) else .bad := rfl
theorem oMul_s {i j : Int} (hi : Sm i) (hj : Sm j) : oMul (.int i) (.int j) = .ok (.int (i * j)) := if_pos ⟨hi, hj⟩
@[simp] theorem oMod_i (i j : Int) : oMod (.int i) (.int j) = if 0 < j then .ok (.int (i % j)) else .bad := rfl
@[simp] theorem oDiv_i (i j : Int) : oDiv (.int i) (.int j) = if 0 < j ∧ j < BIG then .ok (.int (i / j)) else .bad := rfl
@[simp] theorem oPow_i (i j : Int) : oPow (.int i) (.int j) = if (0 ≤ j ∧ j ≤ 1000) ∧ (-1000000 < i ∧ i < 1000000) then .ok (.int (i ^ j.toNat)) else .bad := rfl
@[simp] theorem oLt_i (i j : Int) : oLt (.int i) (.int j) = .ok (.bool (decide (i < j))) := rfl
@[simp] theorem oLe_i (i j : Int) : oLe (.int i) (.int j) = .ok (.bool (decide (i ≤ j))) := rfl
@[simp] theorem oGt_i (i j : Int) : oGt (.int i) (.int j) = .ok (.bool (decide (j < i))) := rfl
@[simp] theorem oGe_i (i j : Int) : oGe (.int i) (.int j) = .ok (.bool (decide (j ≤ i))) := rfl
@[simp] theorem oNeg_i (i : Int) : oNeg (.int i) = .ok (.int (-i)) := rfl
@[simp] theorem oIx_l (xs : List PyData) (i : Int) : oIx (.list xs) (.int i) = match atI xs i with
  | some d => .ok d
  | none => .bad := rfl
@[simp] theorem oIx_t (xs : List PyData) (i : Int) : oIx (.tuple xs) (.int i) = match atI xs i with
  | some d => .ok d
  | none => .bad := rfl
@[simp] theorem atI_0 {α : Type} (x : α) (xs : List α) : atI (x :: xs) 0 = some x := atI_nat (j := 0) rfl
@[simp] theorem atI_1 {α : Type} (x y : α) (xs : List α) : atI (x :: y :: xs) 1 = some y := atI_nat (j := 1) rfl
@[simp] theorem atI_2 {α : Type} (x y z : α) (xs : List α) : atI (x :: y :: z :: xs) 2 = some z := atI_nat (j := 2) rfl
@[simp] theorem ixN_20 : ixN 2 0 = some 0 := rfl
@[simp] theorem ixN_21 : ixN 2 1 = some 1 := rfl
@[simp] theorem ixN_10 : ixN 1 0 = some 0 := rfl
@[simp] theorem ixN_30 : ixN 3 0 = some 0 := rfl
@[simp] theorem ixN_31 : ixN 3 1 = some 1 := rfl
@[simp] theorem ixN_32 : ixN 3 2 = some 2 := rfl
@[simp] theorem oLen_l (xs : List PyData) : oLen [.list xs] = .ok (.int xs.length) := rfl
@[simp] theorem oLen_t (xs : List PyData) : oLen [.tuple xs] = .ok (.int xs.length) := rfl
@[simp] theorem oAbs_i (i : Int) : oAbs [.int i] = .ok (.int (if i < 0 then -i else i)) := rfl
@[simp] theorem oInt_i (i : Int) : oInt [.int i] = .ok (.int i) := rfl
@[simp] theorem oMax_i (i j : Int) : oMax [.int i, .int j] = .ok (.int (max i j)) := rfl
@[simp] theorem oMin_i (i j : Int) : oMin [.int i, .int j] = .ok (.int (min i j)) := rfl
@[simp] theorem oDivmod_i (i j : Int) : oDivmod [.int i, .int j] = if 0 < j ∧ j < BIG then .ok (.tuple [.int (i / j), .int (i % j)]) else .bad := rfl
@[simp] theorem oGcd_i (i j : Int) : oGcd [.int i, .int j] = .ok (.int ((Nat.gcd i.natAbs j.natAbs : Nat) : Int)) := rfl
@[simp] theorem oTuple_l (xs : List PyData) : oTuple [.list xs] = .ok (.tuple xs) := rfl
@[simp] theorem oTuple_t (xs : List PyData) : oTuple [.tuple xs] = .ok (.tuple xs) := rfl
@[simp] theorem oList_l (xs : List PyData) : oList [.list xs] = .ok (.list xs) := rfl
@[simp] theorem oList_t (xs : List PyData) : oList [.tuple xs] = .ok (.list xs) := rfl
@[simp] theorem oIs_n (d : PyData) : oIs d .none = .ok (.bool (isNoneD d)) := by cases d <;> rfl
@[simp] theorem oIsNot_n (d : PyData) : oIsNot d .none = .ok (.bool (!isNoneD d)) := by cases d <;> rfl
@[simp] theorem oIs_b (a b : Bool) : oIs (.bool a) (.bool b) = .ok (.bool (a == b)) := rfl
@[simp] theorem oIsNot_b (a b : Bool) : oIsNot (.bool a) (.bool b) = .ok (.bool (a != b)) := rfl
@[simp] theorem isNoneD_n : isNoneD .none = true := rfl
@[simp] theorem isNoneD_i (i : Int) : isNoneD (.int i) = false := rfl
@[simp] theorem isNoneD_t (xs : List PyData) : isNoneD (.tuple xs) = false := rfl
@[simp] theorem isNoneD_l (xs : List PyData) : isNoneD (.list xs) = false := rfl
/-! ### equality of data -/
@[simp] theorem eqv_i (i j : Int) : PyData.eqv (.int i) (.int j) = (i == j) := by unfold PyData.eqv; rfl
@[simp] theorem eqv_b (i j : Bool) : PyData.eqv (.bool i) (.bool j) = (i == j) := by unfold PyData.eqv; rfl
@[simp] theorem eqv_nn : PyData.eqv .none .none = true := by unfold PyData.eqv; rfl
@[simp] theorem eqv_tn (xs : List PyData) : PyData.eqv (.tuple xs) .none = false := by unfold PyData.eqv; rfl
@[simp] theorem eqv_nt (xs : List PyData) : PyData.eqv .none (.tuple xs) = false := by unfold PyData.eqv; rfl
@[simp] theorem eqv_l (xs ys : List PyData) : PyData.eqv (.list xs) (.list ys) = PyData.eqvAll xs ys := by rw [PyData.eqv]
@[simp] theorem eqv_t (xs ys : List PyData) : PyData.eqv (.tuple xs) (.tuple ys) = PyData.eqvAll xs ys := by rw [PyData.eqv]
@[simp] theorem eqvAll_nil : PyData.eqvAll [] [] = true := by unfold PyData.eqvAll; rfl
@[simp] theorem eqvAll_cons (x y : PyData) (xs ys : List PyData) : PyData.eqvAll (x :: xs) (y :: ys) = (PyData.eqv x y && PyData.eqvAll xs ys) := by rw [PyData.eqvAll]
@[simp] theorem eqvAll_nc (y : PyData) (ys : List PyData) : PyData.eqvAll [] (y :: ys) = false := by rw [PyData.eqvAll]
@[simp] theorem eqvAll_cn (y : PyData) (ys : List PyData) : PyData.eqvAll (y :: ys) [] = false := by rw [PyData.eqvAll]
mutual
theorem eqv_refl : ∀ d : PyData, d.canLay0 = true → PyData.eqv d d = true
  | .none, _ => by simp
  | .bool b, _ => by simp
  | .int i, _ => by simp
  | .str x, _ => by unfold PyData.eqv; simp
  | .list xs, h => by
    rw [eqv_l]
    exact eqvAll_refl xs (by simpa [PyData.canLay0] using h)
  | .tuple xs, h => by
    rw [eqv_t]
    exact eqvAll_refl xs (by simpa [PyData.canLay0] using h)
  | .dict _, h => by simp [PyData.canLay0] at h
theorem eqvAll_refl : ∀ xs : List PyData, PyData.canLayAll0 xs = true → PyData.eqvAll xs xs = true
  | [], _ => by simp
  | x :: xs, h => by
    simp only [PyData.canLayAll0, Bool.and_eq_true] at h
    simp [eqv_refl x h.1, eqvAll_refl xs h.2]
end
/-- data no deeper than n -/
def Sh (n : Nat) (d : PyData) : Prop := d.canLay0 = true ∧ d.depth ≤ n
theorem Sh.shaped {d : PyData} (h : Sh 64 d) : SeqAt.shaped d = true := by
  unfold SeqAt.shaped
  simp [h.1, h.2]
theorem Sh.mono {m n : Nat} {d : PyData} (h : Sh m d) (e : m ≤ n) : Sh n d := ⟨h.1, Nat.le_trans h.2 e⟩
theorem Sh.int (n : Nat) (i : Int) : Sh n (.int i) := ⟨by simp [PyData.canLay0], by simp [PyData.depth]⟩
theorem Sh.bool (n : Nat) (i : Bool) : Sh n (.bool i) := ⟨by simp [PyData.canLay0], by simp [PyData.depth]⟩
theorem Sh.none (n : Nat) : Sh n .none := ⟨by simp [PyData.canLay0], by simp [PyData.depth]⟩
theorem depthAll_le {n : Nat} : ∀ {xs : List PyData}, (∀ x ∈ xs, x.depth ≤ n) → PyData.depthAll xs ≤ n
  | [], _ => by simp [PyData.depthAll]
  | x :: xs, h => by
    have h1 := h x (by simp)
    have h2 := depthAll_le (xs := xs) fun y hy => h y (by simp [hy])
    simp only [PyData.depthAll]
    omega
theorem canLayAll_of {xs : List PyData} (h : ∀ x ∈ xs, x.canLay0 = true) : PyData.canLayAll0 xs = true := by
  induction xs with
  | nil => simp [PyData.canLayAll0]
  | cons x xs ih => simp [PyData.canLayAll0, h x (by simp), ih fun y hy => h y (by simp [hy])]
theorem Sh.list {n : Nat} {xs : List PyData} (h : ∀ x ∈ xs, Sh n x) : Sh (n + 1) (.list xs) := ⟨by simp [PyData.canLay0]; exact canLayAll_of fun x hx => (h x hx).1, by
  have := depthAll_le (n := n) fun x hx => (h x hx).2
  simp only [PyData.depth]
  omega⟩
theorem Sh.tuple {n : Nat} {xs : List PyData} (h : ∀ x ∈ xs, Sh n x) : Sh (n + 1) (.tuple xs) := ⟨by simp [PyData.canLay0]; exact canLayAll_of fun x hx => (h x hx).1, by
  have := depthAll_le (n := n) fun x hx => (h x hx).2
  simp only [PyData.depth]
  omega⟩
theorem oEq_sh {d e : PyData} (h1 : Sh 64 d) (h2 : Sh 64 e) : oEq d e = .ok (.bool (PyData.eqv d e)) := if_pos ⟨h1.shaped, h2.shaped⟩
theorem oNe_sh {d e : PyData} (h1 : Sh 64 d) (h2 : Sh 64 e) : oNe d e = .ok (.bool (!PyData.eqv d e)) := if_pos ⟨h1.shaped, h2.shaped⟩
@[simp] theorem oEq_i (i j : Int) : oEq (.int i) (.int j) = .ok (.bool (i == j)) := by rw [oEq_sh (.int _ _) (.int _ _), eqv_i]
@[simp] theorem oNe_i (i j : Int) : oNe (.int i) (.int j) = .ok (.bool (i != j)) := by rw [oNe_sh (.int _ _) (.int _ _), eqv_i]; rfl
@[simp] theorem oEq_b (i j : Bool) : oEq (.bool i) (.bool j) = .ok (.bool (i == j)) := by rw [oEq_sh (.bool _ _) (.bool _ _), eqv_b]
@[simp] theorem oNe_b (i j : Bool) : oNe (.bool i) (.bool j) = .ok (.bool (i != j)) := by rw [oNe_sh (.bool _ _) (.bool _ _), eqv_b]; rfl
/-- the same data on both sides -/
theorem oEq_same {d : PyData} (h : Sh 64 d) : oEq d d = .ok (.bool true) := by rw [oEq_sh h h, eqv_refl d h.1]
theorem oNe_same {d : PyData} (h : Sh 64 d) : oNe d d = .ok (.bool false) := by rw [oNe_sh h h, eqv_refl d h.1]; rfl
/-! ### kinds -/
@[simp] theorem tyD_i (i : Int) : tyD (.int i) = "int" := rfl
@[simp] theorem tyD_b (i : Bool) : tyD (.bool i) = "bool" := rfl
@[simp] theorem tyD_n : tyD .none = "NoneType" := rfl
@[simp] theorem tyD_s (x : Str) : tyD (.str x) = "str" := rfl
@[simp] theorem tyD_l (xs : List PyData) : tyD (.list xs) = "list" := rfl
@[simp] theorem tyD_d (xs : List (PyData × PyData)) : tyD (.dict xs) = "dict" := rfl
@[simp] theorem tyD_t (xs : List PyData) : tyD (.tuple xs) = "tuple" := rfl
@[simp] theorem isTy_u (d : PyData) (T : String) : isTy d T = (tyD d == T || (tyD d == "bool" && T == "int")) := rfl
@[simp] theorem if_bind {α β : Type} (c : Prop) [Decidable c] (a b : Res α) (f : α → Res β) : ((if c then a else b) >>= f) = if c then a >>= f else b >>= f := by split <;> rfl
@[simp] theorem wipeE_nil (e : En) : wipeE [] e = e := rfl
@[simp] theorem wipeE_cons (v : Nat) (vs : List Nat) (e : En) : wipeE (v :: vs) e = (wipeE vs e).set v .em := rfl
@[simp] theorem clr_nil (e : En) : clr e [] = true := rfl
@[simp] theorem clr_cons (v : Nat) (vs : List Nat) (e : En) : clr e (v :: vs) = ((match e[v]? with
  | some (.ow _) => false
  | some (.io _) => false
  | _ => true) && clr e vs) := rfl
@[simp] theorem restE_nil (e e4 : En) : restE e e4 [] = e4 := rfl
@[simp] theorem restE_cons (e e4 : En) (v : Nat) (vs : List Nat) : restE e e4 (v :: vs) = (restE e e4 vs).set v ((e[v]?).getD .em) := rfl
/-! ### loops -/
theorem while_rule {c : EvT} {body : EvSt} (I : En → Prop) (m : En → Nat) (Fin : En → Prop)
    (h : ∀ env, I env → ∃ b env1, c env = .ok (b, env1) ∧ (b = false → Fin env1) ∧ (b = true → ∃ env2, body env1 = .ok (.nx, env2) ∧ I env2 ∧ m env2 < m env)) (env : En) (h0 : I env) :
    ∃ env', sWhile c body env = .ok (.nx, env') ∧ Fin env' := by
  have key : ∀ n env, I env → m env < n → ∃ env', whN c body n env = .ok (.nx, env') ∧ Fin env' := by
    intro n
    induction n with
    | zero => intro env _ hl; omega
    | succ n ih =>
      intro env hi hl
      obtain ⟨b, e1, h1, h2, h3⟩ := h env hi
      cases b with
      | false => exact ⟨e1, by simp [whN, h1], h2 rfl⟩
      | true =>
        obtain ⟨e2, h4, h5, h6⟩ := h3 rfl
        obtain ⟨e', h7, h8⟩ := ih e2 h5 (by omega)
        exact ⟨e', by simp [whN, h1, h4, h7], h8⟩
  obtain ⟨e', h1, h2⟩ := key (m env + 1) env h0 (Nat.lt_succ_self _)
  exact ⟨e', sWhile_of h1, h2⟩
/-- a for loop that goes through -/
theorem for_rule {g : EvG} {body : EvSt} {ds : List PyData} (I : Nat → En → Prop)
    (h : ∀ i d env, ds[i]? = some d → I i env → ∃ env1, (g d env >>= body) = .ok (.nx, env1) ∧ I (i + 1) env1) {env : En} (h0 : I 0 env) : ∃ env', forD g body ds env = .ok (.nx, env') ∧ I ds.length env' := by
  have key : ∀ (n i : Nat) env, n = ds.length - i → i ≤ ds.length → I i env → ∃ env', forD g body (ds.drop i) env = .ok (.nx, env') ∧ I ds.length env' := by
    intro n
    induction n with
    | zero =>
      intro i env hn hi hI
      have e : i = ds.length := by omega
      subst e
      exact ⟨env, by rw [List.drop_length]; rfl, hI⟩
    | succ n ih =>
      intro i env hn hi hI
      have hl : i < ds.length := by omega
      obtain ⟨e1, h1, h2⟩ := h i _ env (List.getElem?_eq_getElem hl) hI
      obtain ⟨e2, h3, h4⟩ := ih (i + 1) e1 (by omega) hl h2
      refine ⟨e2, ?_, h4⟩
      rw [List.drop_eq_getElem_cons hl]
      show ((g ds[i] env >>= body) >>= _) = _
      rw [h1]
      exact h3
  simpa using key ds.length 0 env (by simp) (Nat.zero_le _) h0
/-- a for loop that may return -/
theorem for_ret {g : EvG} {body : EvSt} {ds : List PyData} (I : Nat → En → Prop) (R : PyData → En → Prop)
    (h : ∀ i d env, ds[i]? = some d → I i env → ∃ r, (g d env >>= body) = .ok r ∧ ((r.1 = .nx ∧ I (i + 1) r.2) ∨ ∃ v, r.1 = .rt v ∧ R v r.2)) {env : En} (h0 : I 0 env) :
    ∃ r, forD g body ds env = .ok r ∧ ((r.1 = .nx ∧ I ds.length r.2) ∨ ∃ v, r.1 = .rt v ∧ R v r.2) := by
  have key : ∀ (n i : Nat) env, n = ds.length - i → i ≤ ds.length → I i env → ∃ r, forD g body (ds.drop i) env = .ok r ∧ ((r.1 = .nx ∧ I ds.length r.2) ∨ ∃ v, r.1 = .rt v ∧ R v r.2) := by
    intro n
    induction n with
    | zero =>
      intro i env hn hi hI
      have e : i = ds.length := by omega
      subst e
      exact ⟨(.nx, env), by rw [List.drop_length]; rfl, .inl ⟨rfl, hI⟩⟩
    | succ n ih =>
      intro i env hn hi hI
      have hl : i < ds.length := by omega
      obtain ⟨⟨fl, e1⟩, h1, h2⟩ := h i _ env (List.getElem?_eq_getElem hl) hI
      rw [List.drop_eq_getElem_cons hl]
      rcases h2 with ⟨rfl, h2⟩ | ⟨v, rfl, h2⟩
      · obtain ⟨e2, h3, h4⟩ := ih (i + 1) e1 (by omega) hl h2
        refine ⟨e2, ?_, h4⟩
        show ((g ds[i] env >>= body) >>= _) = _
        rw [h1]
        exact h3
      · refine ⟨(.rt v, e1), ?_, .inr ⟨v, rfl, h2⟩⟩
        show ((g ds[i] env >>= body) >>= _) = _
        rw [h1]
        rfl
  simpa using key ds.length 0 env (by simp) (Nat.zero_le _) h0
/-- a comprehension that changes nothing -/
theorem lc_rule {g : EvG} {tst : EvT} {elt : EvS} {vs : List Nat} {env : En} (p : PyData → Bool) (v : PyData → PyData) : ∀ {ds : List PyData},
    (∀ d ∈ ds, ∃ e2, (g d (wipeE vs env) >>= tst) = .ok (p d, e2) ∧ (p d = true → ∃ e3, elt e2 = .ok (v d, e3) ∧ clr e3 vs = true ∧ restE env e3 vs = env) ∧ (p d = false → clr e2 vs = true ∧ restE env e2 vs = env)) →
    lcD g tst elt vs ds env = .ok ((ds.filter p).map v, env)
  | [], _ => rfl
  | d :: ds, h => by
    obtain ⟨e2, h1, h2, h3⟩ := h d (by simp)
    have ih := lc_rule (env := env) p v (ds := ds) fun x hx => h x (by simp [hx])
    show ((g d (wipeE vs env) >>= tst) >>= _) = _
    rw [h1]
    cases hp : p d with
    | true =>
      obtain ⟨e3, h4, h5, h6⟩ := h2 hp
      simp [h4, h5, h6, ih, hp]
    | false =>
      obtain ⟨h5, h6⟩ := h3 hp
      simp [h5, h6, ih, hp]
theorem oAll_b (bs : List Bool) : oAll [.list (bs.map PyData.bool)] = .ok (.bool (bs.all id)) := by simp [oAll, bools_map]
theorem oAny_b (bs : List Bool) : oAny [.list (bs.map PyData.bool)] = .ok (.bool (bs.any id)) := by simp [oAny, bools_map]
theorem oSum_i (bs : List Int) : oSum [.list (bs.map PyData.int)] = .ok (.int bs.sum) := by simp [oSum, nums_map]
theorem forD_nil (g : EvG) (body : EvSt) (env : En) : forD g body [] env = .ok (.nx, env) := rfl
theorem forD_cons (g : EvG) (body : EvSt) (d : PyData) (ds : List PyData) (env : En) : forD g body (d :: ds) env = g d env >>= body >>= fun p => match p.1 with
    | .nx => forD g body ds p.2
    | .ct => forD g body ds p.2
    | .bk => .ok (.nx, p.2)
    | .rt v => .ok (.rt v, p.2) := rfl
theorem lc_map {α : Type} {g : EvG} {tst : EvT} {elt : EvS} {vs : List Nat} {env : En} (f : α → PyData) (p : α → Bool) (v : α → PyData) : ∀ {xs : List α},
    (∀ x ∈ xs, ∃ e2, (g (f x) (wipeE vs env) >>= tst) = .ok (p x, e2) ∧ (p x = true → ∃ e3, elt e2 = .ok (v x, e3) ∧ clr e3 vs = true ∧ restE env e3 vs = env) ∧ (p x = false → clr e2 vs = true ∧ restE env e2 vs = env)) →
    lcD g tst elt vs (xs.map f) env = .ok ((xs.filter p).map v, env)
  | [], _ => rfl
  | x :: xs, h => by
    obtain ⟨e2, h1, h2, h3⟩ := h x (by simp)
    have ih := lc_map (env := env) f p v (xs := xs) fun y hy => h y (by simp [hy])
    show ((g (f x) (wipeE vs env) >>= tst) >>= _) = _
    rw [h1]
    cases hp : p x with
    | true =>
      obtain ⟨e3, h4, h5, h6⟩ := h2 hp
      simp [h4, h5, h6, ih, hp]
    | false =>
      obtain ⟨h5, h6⟩ := h3 hp
      simp [h5, h6, ih, hp]
/-- one place of a range, or none -/
theorem filter_one {P : Nat → Bool} {n c : Nat} (hc : c < n) (h : ∀ m, m < n → (P m = true ↔ m = c)) : (List.range n).filter P = [c] := by
  have e : (List.range n).filter P = (List.range n).filter (· == c) := by
    refine List.filter_congr fun m hm => ?_
    have := h m (List.mem_range.mp hm)
    rw [Bool.eq_iff_iff, this]
    simp
  rw [e]
  clear e h
  induction n with
  | zero => omega
  | succ n ih =>
    rw [List.range_succ, List.filter_append]
    by_cases z : c = n
    · subst z
      have : (List.range c).filter (· == c) = [] := List.filter_eq_nil_iff.mpr fun m hm => by
        have := List.mem_range.mp hm
        simp; omega
      simp [this]
    · rw [ih (by omega)]
      simp
      omega
theorem filter_none {P : Nat → Bool} {n : Nat} (h : ∀ m, m < n → P m = false) : (List.range n).filter P = [] := List.filter_eq_nil_iff.mpr fun m hm => by simp [h m (List.mem_range.mp hm)]
/-- a slot without an owned list -/
def Nv (s : Sl) : Prop := s = .em ∨ ∃ d, s = .va d
theorem Nv.em : Nv .em := .inl rfl
theorem Nv.va (d : PyData) : Nv (.va d) := .inr ⟨d, rfl⟩
/-! ### shapes by rows -/
@[simp] theorem sh_int (n : Nat) (i : Int) : Sh n (.int i) := .int n i
@[simp] theorem sh_bool (n : Nat) (i : Bool) : Sh n (.bool i) := .bool n i
@[simp] theorem sh_none (n : Nat) : Sh n .none := .none n
theorem depthAll_of {n : Nat} : ∀ {xs : List PyData}, PyData.depthAll xs ≤ n → ∀ x ∈ xs, x.depth ≤ n
  | [], _, x, h => by cases h
  | y :: ys, h, x, hx => by
    simp only [PyData.depthAll] at h
    rcases List.mem_cons.mp hx with rfl | hx
    · omega
    · exact depthAll_of (xs := ys) (by omega) x hx
theorem canLayAll_mem : ∀ {xs : List PyData}, PyData.canLayAll0 xs = true → ∀ x ∈ xs, x.canLay0 = true
  | [], _, x, h => by cases h
  | y :: ys, h, x, hx => by
    simp only [PyData.canLayAll0, Bool.and_eq_true] at h
    rcases List.mem_cons.mp hx with rfl | hx
    · exact h.1
    · exact canLayAll_mem h.2 x hx
@[simp] theorem sh_list (n : Nat) (xs : List PyData) : Sh (n + 1) (.list xs) ↔ ∀ x ∈ xs, Sh n x := by
  refine ⟨fun h x hx => ⟨canLayAll_mem (by simpa [PyData.canLay0] using h.1) x hx, depthAll_of ?_ x hx⟩, Sh.list⟩
  have := h.2
  simp only [PyData.depth] at this
  omega
@[simp] theorem sh_tuple (n : Nat) (xs : List PyData) : Sh (n + 1) (.tuple xs) ↔ ∀ x ∈ xs, Sh n x := by
  refine ⟨fun h x hx => ⟨canLayAll_mem (by simpa [PyData.canLay0] using h.1) x hx, depthAll_of ?_ x hx⟩, Sh.tuple⟩
  have := h.2
  simp only [PyData.depth] at this
  omega
theorem eqv_self {d : PyData} (h : Sh 64 d) : PyData.eqv d d = true := eqv_refl d h.1
@[simp] theorem oMul_li (xs : List PyData) (k : Int) : oMul (.list xs) (.int k) = if (-1000000 < k ∧ k < 1000000) ∧ xs.length * k.toNat ≤ 1000000 then .ok (.list (rep k xs)) else .bad := rfl
@[simp] theorem rep_2 (xs : List PyData) : rep 2 xs = xs ++ xs := by simp [rep, List.replicate]
@[simp] theorem rep_3 (xs : List PyData) : rep 3 xs = xs ++ (xs ++ xs) := by simp [rep, List.replicate]
theorem eqv_nil (xs : List PyData) : PyData.eqvAll xs [] = xs.isEmpty := by cases xs <;> simp
theorem lc_none {α : Type} {g : EvG} {tst : EvT} {elt : EvS} {vs : List Nat} {env : En} (f : α → PyData) {xs : List α} (h : ∀ x ∈ xs, ∃ e2, (g (f x) (wipeE vs env) >>= tst) = .ok (false, e2) ∧ clr e2 vs = true ∧ restE env e2 vs = env) :
    lcD g tst elt vs (xs.map f) env = .ok ([], env) := by
  have := lc_map (elt := elt) f (fun _ => false) (fun _ => PyData.none) (env := env) (xs := xs) fun x hx => by
    obtain ⟨e2, h1, h2⟩ := h x hx
    exact ⟨e2, h1, fun z => absurd z (by decide), fun _ => h2⟩
  rw [this, List.filter_eq_nil_iff.mpr (by simp)]
  rfl
end XL

namespace XL
open PySem PySem.Spec L2
/-! printed by wip/gen.py from the linked text of k11 -/
def topS (i : Nat) : Stmt := PySem.Challenge.pw_classesshared_k11_whole_meetings_of_clas.main.body.getD i (.Pass ⟨0, 0, 0, 0⟩)
theorem kwb_do_meet_0 : KwB "do_meet" (topS 27) ["cls", "other"] ["other", "cls"] 0 [1, 0] := fun _ _ _ _ _ _ us ws h1 h2 => match us, ws, h1, h2 with | [], [_, _], _, _ => rfl
theorem kwb_shared_1 : KwB "shared" (topS 28) ["cls", "other"] ["other", "cls"] 0 [1, 0] := fun _ _ _ _ _ _ us ws h1 h2 => match us, ws, h1, h2 with | [], [_, _], _, _ => rfl
theorem kwb_first_meeting_2 : KwB "first_meeting" (topS 31) ["cls", "other", "beat"] ["beat", "other", "cls"] 0 [2, 1, 0] := fun _ _ _ _ _ _ us ws h1 h2 => match us, ws, h1, h2 with | [], [_, _, _], _, _ => rfl
theorem kwb_shared_by_all_3 : KwB "shared_by_all" (topS 29) ["classes"] ["classes"] 0 [0] := fun _ _ _ _ _ _ us ws h1 h2 => match us, ws, h1, h2 with | [], [_], _, _ => rfl
theorem kwb_apart_4 : KwB "apart" (topS 30) ["classes"] ["classes"] 0 [0] := fun _ _ _ _ _ _ us ws h1 h2 => match us, ws, h1, h2 with | [], [_], _, _ => rfl
/-! ### is_integer(value): slots 0 value -/
theorem sc_is_integer : FnScope ["value"] ["value"] (defScope (topS 10)) := ⟨rfl, rfl, rfl, by decide +kernel, rfl, by decide +kernel, by decide +kernel⟩
noncomputable def bd_is_integer : EvSt := (sRet (eV (eAnd (eIsi (eVar 0) ["int"]) (eNot (eIsi (eVar 0) ["bool"])))))
noncomputable def ev_is_integer : Fn := ar 1 (eFn 1 bd_is_integer)
theorem ok_is_integer {P : Program} {w : World} {K : PySem.W.Frag} {mg : Str → Option Value} {base : Heap} (D : Def K mg "is_integer" (topS 10) ["value"]) (m_isinstance : mg "isinstance" = none) (m_int : mg "int" = none) (m_bool : mg "bool" = none) :
    Cal P w K mg base 2 "is_integer" (topS 10) ["value"] ev_is_integer := D.cal sc_is_integer fun f cdv A outer s H E hr => ⟨_,
    (bone (sret (XE.v (xand (xisi1 (T := "int") (xv 0) m_isinstance m_int PyProof.Rows.boot_int) (xone (xnot (xisi1 (T := "bool") (xv 0) m_isinstance m_bool PyProof.Rows.boot_bool)))))))⟩
/-! ### is_count(value): slots 0 value -/
theorem sc_is_count : FnScope ["value"] ["value"] (defScope (topS 11)) := ⟨rfl, rfl, rfl, by decide +kernel, rfl, by decide +kernel, by decide +kernel⟩
noncomputable def bd_is_count : EvSt := (sRet (eV (eAnd (eCall ev_is_integer (aV (eV (eVar 0)) aNil)) (eBin oGe (eVar 0) (eC (.int 0))))))
noncomputable def ev_is_count : Fn := ar 1 (eFn 1 bd_is_count)
theorem ok_is_count {P : Program} {w : World} {K : PySem.W.Frag} {mg : Str → Option Value} {base : Heap} (D : Def K mg "is_count" (topS 11) ["value"]) (c_is_integer : Cal P w K mg base 2 "is_integer" (topS 10) ["value"] ev_is_integer) :
    Cal P w K mg base 3 "is_count" (topS 11) ["value"] ev_is_count := D.cal sc_is_count fun f cdv A outer s H E hr => ⟨_,
    (bone (sret (XE.v (xand (xcall c_is_integer (hr.mono (by decide)) (aval (XE.v (xv 0)) anil)) (xone (xcmp c_ge (xv 0) xint))))))⟩
/-! ### is_period(value): slots 0 value -/
theorem sc_is_period : FnScope ["value"] ["value"] (defScope (topS 12)) := ⟨rfl, rfl, rfl, by decide +kernel, rfl, by decide +kernel, by decide +kernel⟩
noncomputable def bd_is_period : EvSt := (sRet (eV (eAnd (eCall ev_is_integer (aV (eV (eVar 0)) aNil)) (eChain oLe oLe (eC (.int 1)) (eVar 0) (eC (.int 1000000000))))))
noncomputable def ev_is_period : Fn := ar 1 (eFn 1 bd_is_period)
theorem ok_is_period {P : Program} {w : World} {K : PySem.W.Frag} {mg : Str → Option Value} {base : Heap} (D : Def K mg "is_period" (topS 12) ["value"]) (c_is_integer : Cal P w K mg base 2 "is_integer" (topS 10) ["value"] ev_is_integer) (n_MOST_PERIOD : ∃ t, mg "MOST_PERIOD" = some (.int 1000000000 t)) :
    Cal P w K mg base 3 "is_period" (topS 12) ["value"] ev_is_period := D.cal sc_is_period fun f cdv A outer s H E hr => ⟨_,
    (bone (sret (XE.v (xand (xcall c_is_integer (hr.mono (by decide)) (aval (XE.v (xv 0)) anil)) (xone (xchain c_le c_le xint (xv 0) (xgi n_MOST_PERIOD.choose_spec)))))))⟩
/-! ### is_beat(value): slots 0 value -/
theorem sc_is_beat : FnScope ["value"] ["value"] (defScope (topS 13)) := ⟨rfl, rfl, rfl, by decide +kernel, rfl, by decide +kernel, by decide +kernel⟩
noncomputable def bd_is_beat : EvSt := (sRet (eV (eAnd (eCall ev_is_count (aV (eV (eVar 0)) aNil)) (eBin oLe (eVar 0) (eC (.int 999999999999999999999999999999))))))
noncomputable def ev_is_beat : Fn := ar 1 (eFn 1 bd_is_beat)
theorem ok_is_beat {P : Program} {w : World} {K : PySem.W.Frag} {mg : Str → Option Value} {base : Heap} (D : Def K mg "is_beat" (topS 13) ["value"]) (c_is_count : Cal P w K mg base 3 "is_count" (topS 11) ["value"] ev_is_count) (n_MOST_BEAT : ∃ t, mg "MOST_BEAT" = some (.int 999999999999999999999999999999 t)) :
    Cal P w K mg base 4 "is_beat" (topS 13) ["value"] ev_is_beat := D.cal sc_is_beat fun f cdv A outer s H E hr => ⟨_,
    (bone (sret (XE.v (xand (xcall c_is_count (hr.mono (by decide)) (aval (XE.v (xv 0)) anil)) (xone (xcmp c_le (xv 0) (xgi n_MOST_BEAT.choose_spec)))))))⟩
/-! ### is_class(value): slots 0 value -/
theorem sc_is_class : FnScope ["value"] ["value"] (defScope (topS 14)) := ⟨rfl, rfl, rfl, by decide +kernel, rfl, by decide +kernel, by decide +kernel⟩
noncomputable def bd_is_class : EvSt := (sSeq (sIf (eOrT (eNotT (eTru (eIsi (eVar 0) ["tuple"]))) (eOrT (eT (eBin oNe (eCB oLen (eCons (eVar 0) eNil)) (eC (.int 2)))) (eNotT (eTru (eCall ev_is_period (aV (eV (eBin oIx (eVar 0) (eC (.int 0)))) aNil)))))) (sRet (eV (eC (.bool false)))) sSkip)
  (sRet (eV (eAnd (eCall ev_is_count (aV (eV (eBin oIx (eVar 0) (eC (.int 1)))) aNil)) (eBin oLt (eBin oIx (eVar 0) (eC (.int 1))) (eBin oIx (eVar 0) (eC (.int 0))))))))
noncomputable def ev_is_class : Fn := ar 1 (eFn 1 bd_is_class)
theorem ok_is_class {P : Program} {w : World} {K : PySem.W.Frag} {mg : Str → Option Value} {base : Heap} (D : Def K mg "is_class" (topS 14) ["value"]) (m_isinstance : mg "isinstance" = none) (m_tuple : mg "tuple" = none) (m_len : mg "len" = none) (c_is_period : Cal P w K mg base 3 "is_period" (topS 12) ["value"] ev_is_period) (c_is_count : Cal P w K mg base 3 "is_count" (topS 11) ["value"] ev_is_count) :
    Cal P w K mg base 4 "is_class" (topS 14) ["value"] ev_is_class := D.cal sc_is_class fun f cdv A outer s H E hr => ⟨_,
    (bcons (sif (tbo (wor (tnot (ttru (xisi1 (T := "tuple") (xv 0) m_isinstance m_tuple PyProof.Rows.boot_tuple))) (wor (tcmp (c_ne hr) (xcb b_len m_len PySem.boot_len (xa_cons (xv 0) xa_nil)) xint) (wor1 (tnot (ttru (xcall c_is_period (hr.mono (by decide)) (aval (XE.v (xix (xv 0) xint)) anil)))))))) (bone (sret (XE.v xbl))) bnil)
    (bone (sret (XE.v (xand (xcall c_is_count (hr.mono (by decide)) (aval (XE.v (xix (xv 0) xint)) anil)) (xone (xcmp c_lt (xix (xv 0) xint) (xix (xv 0) xint))))))))⟩
/-! ### check_beat(beat): slots 0 beat -/
theorem sc_check_beat : FnScope ["beat"] ["beat"] (defScope (topS 15)) := ⟨rfl, rfl, rfl, by decide +kernel, rfl, by decide +kernel, by decide +kernel⟩
noncomputable def bd_check_beat : EvSt := (sIf (eNotT (eTru (eCall ev_is_beat (aV (eV (eVar 0)) aNil)))) sBad sSkip)
noncomputable def ev_check_beat : Fn := ar 1 (eFn 1 bd_check_beat)
theorem ok_check_beat {P : Program} {w : World} {K : PySem.W.Frag} {mg : Str → Option Value} {base : Heap} (D : Def K mg "check_beat" (topS 15) ["beat"]) (c_is_beat : Cal P w K mg base 4 "is_beat" (topS 13) ["value"] ev_is_beat) :
    Cal P w K mg base 5 "check_beat" (topS 15) ["beat"] ev_check_beat := D.cal sc_check_beat fun f cdv A outer s H E hr => ⟨_,
    (bone (sif (tnot (ttru (xcall c_is_beat (hr.mono (by decide)) (aval (XE.v (xv 0)) anil)))) (bone snever) bnil))⟩
/-! ### check_class(cls): slots 0 cls -/
theorem sc_check_class : FnScope ["cls"] ["cls"] (defScope (topS 16)) := ⟨rfl, rfl, rfl, by decide +kernel, rfl, by decide +kernel, by decide +kernel⟩
noncomputable def bd_check_class : EvSt := (sIf (eNotT (eTru (eCall ev_is_class (aV (eV (eVar 0)) aNil)))) sBad sSkip)
noncomputable def ev_check_class : Fn := ar 1 (eFn 1 bd_check_class)
theorem ok_check_class {P : Program} {w : World} {K : PySem.W.Frag} {mg : Str → Option Value} {base : Heap} (D : Def K mg "check_class" (topS 16) ["cls"]) (c_is_class : Cal P w K mg base 4 "is_class" (topS 14) ["value"] ev_is_class) :
    Cal P w K mg base 5 "check_class" (topS 16) ["cls"] ev_check_class := D.cal sc_check_class fun f cdv A outer s H E hr => ⟨_,
    (bone (sif (tnot (ttru (xcall c_is_class (hr.mono (by decide)) (aval (XE.v (xv 0)) anil)))) (bone snever) bnil))⟩
/-! ### check_classes(cls, other): slots 0 cls, 1 other -/
theorem sc_check_classes : FnScope ["cls", "other"] ["cls", "other"] (defScope (topS 17)) := ⟨rfl, rfl, rfl, by decide +kernel, rfl, by decide +kernel, by decide +kernel⟩
noncomputable def bd_check_classes : EvSt := (sSeq (sDrop (eCall ev_check_class (aV (eV (eVar 0)) aNil)))
  (sIf (eNotT (eTru (eCall ev_is_class (aV (eV (eVar 1)) aNil)))) sBad sSkip))
noncomputable def ev_check_classes : Fn := ar 2 (eFn 2 bd_check_classes)
theorem ok_check_classes {P : Program} {w : World} {K : PySem.W.Frag} {mg : Str → Option Value} {base : Heap} (D : Def K mg "check_classes" (topS 17) ["cls", "other"]) (c_check_class : Cal P w K mg base 5 "check_class" (topS 16) ["cls"] ev_check_class) (c_is_class : Cal P w K mg base 4 "is_class" (topS 14) ["value"] ev_is_class) :
    Cal P w K mg base 6 "check_classes" (topS 17) ["cls", "other"] ev_check_classes := D.cal sc_check_classes fun f cdv A outer s H E hr => ⟨_,
    (bcons (sexpr (xcall c_check_class (hr.mono (by decide)) (aval (XE.v (xv 0)) anil)))
    (bone (sif (tnot (ttru (xcall c_is_class (hr.mono (by decide)) (aval (XE.v (xv 1)) anil)))) (bone snever) bnil)))⟩
/-! ### common_of(numbers): slots 0 numbers, 1 found, 2 one -/
theorem sc_common_of : FnScope ["numbers", "found", "one"] ["numbers"] (defScope (topS 18)) := ⟨rfl, rfl, rfl, by decide +kernel, rfl, by decide +kernel, by decide +kernel⟩
noncomputable def fb_common_of_0 : EvSt := (sAsg (eV (eCB oGcd (eCons (eVar 1) (eCons (eVar 2) eNil)))) (gN 1))
noncomputable def bd_common_of : EvSt := (sSeq (sAsg (eV (eC (.int 0))) (gN 1))
  (sSeq (sFor (iSeq (eV (eVar 0))) (gN 2) fb_common_of_0)
  (sRet (eV (eVar 1)))))
noncomputable def ev_common_of : Fn := ar 1 (eFn 3 bd_common_of)
theorem ok_common_of {P : Program} {w : World} {K : PySem.W.Frag} {mg : Str → Option Value} {base : Heap} (D : Def K mg "common_of" (topS 18) ["numbers"]) (g_gcd : mg "gcd" = some (.builtin "math.gcd")) :
    Cal P w K mg base 2 "common_of" (topS 18) ["numbers"] ev_common_of := D.cal sc_common_of fun f cdv A outer s H E hr => ⟨_,
    (bcons (sset sc_common_of.nd (XE.v xint))
    (bcons (sfor PassesOwn.never (iseq (XE.v (xv 0))) (gname sc_common_of.nd) (bone (sset sc_common_of.nd (XE.v (xcg b_gcd g_gcd (xa_cons (xv 1) (xa_cons (xv 2) xa_nil)))))))
    (bone (sret (XE.v (xv 1))))))⟩
/-! ### inverse_of(number, rest): slots 0 number, 1 rest, 2 near, 3 far, 4 one, 5 other, 6 times -/
theorem sc_inverse_of : FnScope ["number", "rest", "near", "far", "one", "other", "times"] ["number", "rest"] (defScope (topS 19)) := ⟨rfl, rfl, rfl, by decide +kernel, rfl, by decide +kernel, by decide +kernel⟩
noncomputable def wc_inverse_of_0 : EvT := (eT (eBin oGt (eVar 2) (eC (.int 0))))
noncomputable def wb_inverse_of_0 : EvSt := (sSeq (sAsg (eV (eBin oDiv (eVar 3) (eVar 2))) (gN 6))
  (sPar (pV (eV (eBin oSub (eVar 3) (eBin oMul (eVar 6) (eVar 2)))) (pV (eV (eVar 2)) (pV (eV (eBin oSub (eVar 5) (eBin oMul (eVar 6) (eVar 4)))) (pV (eV (eVar 4)) pNil)))) [2, 3, 4, 5]))
noncomputable def bd_inverse_of : EvSt := (sSeq (sPar (pV (eV (eBin oMod (eVar 0) (eVar 1))) (pV (eV (eVar 1)) (pV (eV (eC (.int 1))) (pV (eV (eC (.int 0))) pNil)))) [2, 3, 4, 5])
  (sSeq (sWhile wc_inverse_of_0 wb_inverse_of_0)
  (sRet (eV (eBin oMod (eVar 5) (eVar 1))))))
noncomputable def ev_inverse_of : Fn := ar 2 (eFn 7 bd_inverse_of)
theorem ok_inverse_of {P : Program} {w : World} {K : PySem.W.Frag} {mg : Str → Option Value} {base : Heap} (D : Def K mg "inverse_of" (topS 19) ["number", "rest"]) :
    Cal P w K mg base 2 "inverse_of" (topS 19) ["number", "rest"] ev_inverse_of := D.cal sc_inverse_of fun f cdv A outer s H E hr => ⟨_,
    (bcons (sparT (pval (XE.v (xmod (xv 0) (xv 1))) (pval (XE.v (xv 1)) (pval (XE.v xint) (pval (XE.v xint) pnil)))) (ncons sc_inverse_of.nd (ncons sc_inverse_of.nd (ncons sc_inverse_of.nd (ncons sc_inverse_of.nd nnil)))))
    (bcons (swhile PassesOwn.never (tcmp c_gt (xv 2) xint) (bcons (sset sc_inverse_of.nd (XE.v (xdiv (xv 3) (xv 2))))
    (bone (sparT (pval (XE.v (xsub (xv 3) (xmul (xv 6) (xv 2)))) (pval (XE.v (xv 2)) (pval (XE.v (xsub (xv 5) (xmul (xv 6) (xv 4)))) (pval (XE.v (xv 4)) pnil)))) (ncons sc_inverse_of.nd (ncons sc_inverse_of.nd (ncons sc_inverse_of.nd (ncons sc_inverse_of.nd nnil))))))))
    (bone (sret (XE.v (xmod (xv 5) (xv 1)))))))⟩
/-! ### next_in(cls, beat): slots 0 cls, 1 beat -/
theorem sc_next_in : FnScope ["cls", "beat"] ["cls", "beat"] (defScope (topS 22)) := ⟨rfl, rfl, rfl, by decide +kernel, rfl, by decide +kernel, by decide +kernel⟩
noncomputable def bd_next_in : EvSt := (sSeq (sIf (eT (eBin oLe (eVar 1) (eBin oIx (eVar 0) (eC (.int 1))))) (sRet (eV (eBin oIx (eVar 0) (eC (.int 1))))) sSkip)
  (sRet (eV (eBin oAdd (eVar 1) (eBin oMod (eBin oSub (eBin oIx (eVar 0) (eC (.int 1))) (eVar 1)) (eBin oIx (eVar 0) (eC (.int 0))))))))
noncomputable def ev_next_in : Fn := ar 2 (eFn 2 bd_next_in)
theorem ok_next_in {P : Program} {w : World} {K : PySem.W.Frag} {mg : Str → Option Value} {base : Heap} (D : Def K mg "next_in" (topS 22) ["cls", "beat"]) :
    Cal P w K mg base 2 "next_in" (topS 22) ["cls", "beat"] ev_next_in := D.cal sc_next_in fun f cdv A outer s H E hr => ⟨_,
    (bcons (sif (tcmp c_le (xv 1) (xix (xv 0) xint)) (bone (sret (XE.v (xix (xv 0) xint)))) bnil)
    (bone (sret (XE.v (xadd (xv 1) (xmod (xsub (xix (xv 0) xint) (xv 1)) (xix (xv 0) xint)))))))⟩
/-! ### check_some(classes): slots 0 classes, 1 one -/
theorem sc_check_some : FnScope ["classes", "one"] ["classes"] (defScope (topS 23)) := ⟨rfl, rfl, rfl, by decide +kernel, rfl, by decide +kernel, by decide +kernel⟩
noncomputable def ce_check_some_0 : EvS := (eV (eCall ev_is_class (aV (eV (eVar 1)) aNil)))
noncomputable def bd_check_some : EvSt := (sSeq (sIf (eOrT (eNotT (eTru (eIsi (eVar 0) ["list", "tuple"]))) (eNotT (eT (eChain oLe oLe (eC (.int 1)) (eCB oLen (eCons (eVar 0) eNil)) (eC (.int 400)))))) sBad sSkip)
  (sIf (eNotT (eTru (eCB oAll (eCons (eFe (eLc (iSeq (eV (eVar 0))) (gN 1) eYes ce_check_some_0 [1])) eNil)))) sBad sSkip))
noncomputable def ev_check_some : Fn := ar 1 (eFn 2 bd_check_some)
theorem ok_check_some {P : Program} {w : World} {K : PySem.W.Frag} {mg : Str → Option Value} {base : Heap} (D : Def K mg "check_some" (topS 23) ["classes"]) (m_isinstance : mg "isinstance" = none) (m_tuple : mg "tuple" = none) (m_list : mg "list" = none) (m_len : mg "len" = none) (n_MOST_CLASSES : ∃ t, mg "MOST_CLASSES" = some (.int 400 t)) (c_is_class : Cal P w K mg base 4 "is_class" (topS 14) ["value"] ev_is_class) (m_all : mg "all" = none) :
    Cal P w K mg base 5 "check_some" (topS 23) ["classes"] ev_check_some := D.cal sc_check_some fun f cdv A outer s H E hr => ⟨_,
    (bcons (sif (tbo (wor (tnot (ttru (xisiT (xv 0) m_isinstance (xty_cons (T := "list") m_list PyProof.Rows.boot_list (xty_cons (T := "tuple") m_tuple PyProof.Rows.boot_tuple xty_nil))))) (wor1 (tnot (tchain c_le c_le xint (xcb b_len m_len PySem.boot_len (xa_cons (xv 0) xa_nil)) (xgi n_MOST_CLASSES.choose_spec)))))) (bone snever) bnil)
    (bone (sif (tnot (ttru (xcb b_all m_all PyProof.Rows.boot_all (xa_cons (XF.e (flc [("one", 1)] sc_check_some.nd (iseq (XE.v (xv 0))) (blkOk_by (by first | (show blkC ["classes", "one"] (defScope (topS 23)) _ _ = true; decide +kernel) | exact Eq.refl true)) (fun _ _ _ _ _ => (wname sc_check_some.nd)) (fun _ _ _ _ _ => tsnil) (fun _ _ _ _ _ => (XE.v (xcall c_is_class (hr.mono (by decide)) (aval (XE.v (xv 1)) anil)))) (s0 := s) (H0 := H))) xa_nil)))) (bone snever) bnil)))⟩
/-! ### do_meet_in(one, other): slots 0 one, 1 other -/
theorem sc_do_meet_in : FnScope ["one", "other"] ["one", "other"] (defScope (topS 24)) := ⟨rfl, rfl, rfl, by decide +kernel, rfl, by decide +kernel, by decide +kernel⟩
noncomputable def bd_do_meet_in : EvSt := (sRet (eV (eBin oEq (eBin oMod (eBin oSub (eBin oIx (eVar 0) (eC (.int 1))) (eBin oIx (eVar 1) (eC (.int 1)))) (eCall ev_common_of (aV (eV (eLst (eConsV (eV (eBin oIx (eVar 0) (eC (.int 0)))) (eConsV (eV (eBin oIx (eVar 1) (eC (.int 0)))) eNilV)))) aNil))) (eC (.int 0)))))
noncomputable def ev_do_meet_in : Fn := ar 2 (eFn 2 bd_do_meet_in)
theorem ok_do_meet_in {P : Program} {w : World} {K : PySem.W.Frag} {mg : Str → Option Value} {base : Heap} (D : Def K mg "do_meet_in" (topS 24) ["one", "other"]) (c_common_of : Cal P w K mg base 2 "common_of" (topS 18) ["numbers"] ev_common_of) :
    Cal P w K mg base 3 "do_meet_in" (topS 24) ["one", "other"] ev_do_meet_in := D.cal sc_do_meet_in fun f cdv A outer s H E hr => ⟨_,
    (bone (sret (XE.v (xcmp (c_eq hr) (xmod (xsub (xix (xv 0) xint) (xix (xv 1) xint)) (xcall c_common_of (hr.mono (by decide)) (aval (XE.v (xlst (xl_cons (XE.v (xix (xv 0) xint)) (xl_cons (XE.v (xix (xv 1) xint)) xl_nil)))) anil))) xint))))⟩
/-! ### cut_down(one, other): slots 0 one, 1 other, 2 inner, 3 rest, 4 times, 5 period -/
theorem sc_cut_down : FnScope ["one", "other", "inner", "rest", "times", "period"] ["one", "other"] (defScope (topS 25)) := ⟨rfl, rfl, rfl, by decide +kernel, rfl, by decide +kernel, by decide +kernel⟩
noncomputable def tl_cut_down_0 : EvSt := (sSeq (sAsg (eV (eBin oMul (eBin oIx (eVar 0) (eC (.int 0))) (eVar 3))) (gN 5))
  (sRet (eV (eTup (eConsV (eV (eVar 5)) (eConsV (eV (eBin oMod (eBin oAdd (eBin oIx (eVar 0) (eC (.int 1))) (eBin oMul (eBin oIx (eVar 0) (eC (.int 0))) (eVar 4))) (eVar 5))) eNilV))))))
noncomputable def bd_cut_down : EvSt := (sSeq (sAsg (eV (eCall ev_common_of (aV (eV (eLst (eConsV (eV (eBin oIx (eVar 0) (eC (.int 0)))) (eConsV (eV (eBin oIx (eVar 1) (eC (.int 0)))) eNilV)))) aNil))) (gN 2))
  (sSeq (sAsg (eV (eBin oDiv (eBin oIx (eVar 1) (eC (.int 0))) (eVar 2))) (gN 3))
  (sSeq (sAsg (eV (eBin oMod (eBin oMul (eBin oDiv (eBin oSub (eBin oIx (eVar 1) (eC (.int 1))) (eBin oIx (eVar 0) (eC (.int 1)))) (eVar 2)) (eCall ev_inverse_of (aV (eV (eBin oDiv (eBin oIx (eVar 0) (eC (.int 0))) (eVar 2))) (aV (eV (eVar 3)) aNil)))) (eVar 3))) (gN 4))
  tl_cut_down_0)))
noncomputable def ev_cut_down : Fn := ar 2 (eFn 6 bd_cut_down)
theorem ok_cut_down {P : Program} {w : World} {K : PySem.W.Frag} {mg : Str → Option Value} {base : Heap} (D : Def K mg "cut_down" (topS 25) ["one", "other"]) (c_common_of : Cal P w K mg base 2 "common_of" (topS 18) ["numbers"] ev_common_of) (c_inverse_of : Cal P w K mg base 2 "inverse_of" (topS 19) ["number", "rest"] ev_inverse_of) :
    Cal P w K mg base 3 "cut_down" (topS 25) ["one", "other"] ev_cut_down := D.cal sc_cut_down fun f cdv A outer s H E hr => ⟨_,
    (bcons (sset sc_cut_down.nd (XE.v (xcall c_common_of (hr.mono (by decide)) (aval (XE.v (xlst (xl_cons (XE.v (xix (xv 0) xint)) (xl_cons (XE.v (xix (xv 1) xint)) xl_nil)))) anil))))
    (bcons (sset sc_cut_down.nd (XE.v (xdiv (xix (xv 1) xint) (xv 2))))
    (bcons (sset sc_cut_down.nd (XE.v (xmod (xmul (xdiv (xsub (xix (xv 1) xint) (xix (xv 0) xint)) (xv 2)) (xcall c_inverse_of (hr.mono (by decide)) (aval (XE.v (xdiv (xix (xv 0) xint) (xv 2))) (aval (XE.v (xv 3)) anil)))) (xv 3))))
    (bcons (sset sc_cut_down.nd (XE.v (xmul (xix (xv 0) xint) (xv 3))))
    (bone (sret (XE.v (xtup (xl_cons (XE.v (xv 5)) (xl_cons (XE.v (xmod (xadd (xix (xv 0) xint) (xmul (xix (xv 0) xint) (xv 4))) (xv 5))) xl_nil))))))))))⟩
/-! ### do_meet(cls, other): slots 0 cls, 1 other -/
theorem sc_do_meet : FnScope ["cls", "other"] ["cls", "other"] (defScope (topS 27)) := ⟨rfl, rfl, rfl, by decide +kernel, rfl, by decide +kernel, by decide +kernel⟩
noncomputable def bd_do_meet : EvSt := (sSeq (sDrop (eCall ev_check_classes (aV (eV (eVar 0)) (aV (eV (eVar 1)) aNil))))
  (sRet (eV (eCall ev_do_meet_in (aV (eV (eVar 0)) (aV (eV (eVar 1)) aNil))))))
noncomputable def ev_do_meet : Fn := ar 2 (eFn 2 bd_do_meet)
theorem ok_do_meet {P : Program} {w : World} {K : PySem.W.Frag} {mg : Str → Option Value} {base : Heap} (D : Def K mg "do_meet" (topS 27) ["cls", "other"]) (c_check_classes : Cal P w K mg base 6 "check_classes" (topS 17) ["cls", "other"] ev_check_classes) (c_do_meet_in : Cal P w K mg base 3 "do_meet_in" (topS 24) ["one", "other"] ev_do_meet_in) :
    Cal P w K mg base 7 "do_meet" (topS 27) ["cls", "other"] ev_do_meet := D.cal sc_do_meet fun f cdv A outer s H E hr => ⟨_,
    (bcons (sexpr (xcall c_check_classes (hr.mono (by decide)) (aval (XE.v (xv 0)) (aval (XE.v (xv 1)) anil))))
    (bone (sret (XE.v (xcall c_do_meet_in (hr.mono (by decide)) (aval (XE.v (xv 0)) (aval (XE.v (xv 1)) anil)))))))⟩
/-! ### shared(cls, other): slots 0 cls, 1 other -/
theorem sc_shared : FnScope ["cls", "other"] ["cls", "other"] (defScope (topS 28)) := ⟨rfl, rfl, rfl, by decide +kernel, rfl, by decide +kernel, by decide +kernel⟩
noncomputable def bd_shared : EvSt := (sSeq (sDrop (eCall ev_check_classes (aV (eV (eVar 0)) (aV (eV (eVar 1)) aNil))))
  (sRet (eV (eIf (eTru (eCall ev_do_meet_in (aV (eV (eVar 0)) (aV (eV (eVar 1)) aNil)))) (eCall ev_cut_down (aV (eV (eVar 0)) (aV (eV (eVar 1)) aNil))) (eC .none)))))
noncomputable def ev_shared : Fn := ar 2 (eFn 2 bd_shared)
theorem ok_shared {P : Program} {w : World} {K : PySem.W.Frag} {mg : Str → Option Value} {base : Heap} (D : Def K mg "shared" (topS 28) ["cls", "other"]) (c_check_classes : Cal P w K mg base 6 "check_classes" (topS 17) ["cls", "other"] ev_check_classes) (c_do_meet_in : Cal P w K mg base 3 "do_meet_in" (topS 24) ["one", "other"] ev_do_meet_in) (c_cut_down : Cal P w K mg base 3 "cut_down" (topS 25) ["one", "other"] ev_cut_down) :
    Cal P w K mg base 7 "shared" (topS 28) ["cls", "other"] ev_shared := D.cal sc_shared fun f cdv A outer s H E hr => ⟨_,
    (bcons (sexpr (xcall c_check_classes (hr.mono (by decide)) (aval (XE.v (xv 0)) (aval (XE.v (xv 1)) anil))))
    (bone (sret (XE.v (xif (ttru (xcall c_do_meet_in (hr.mono (by decide)) (aval (XE.v (xv 0)) (aval (XE.v (xv 1)) anil)))) (xcall c_cut_down (hr.mono (by decide)) (aval (XE.v (xv 0)) (aval (XE.v (xv 1)) anil))) xnon)))))⟩
/-! ### shared_by_all(classes): slots 0 classes, 1 found, 2 one -/
theorem sc_shared_by_all : FnScope ["classes", "found", "one"] ["classes"] (defScope (topS 29)) := ⟨rfl, rfl, rfl, by decide +kernel, rfl, by decide +kernel, by decide +kernel⟩
noncomputable def fb_shared_by_all_0 : EvSt := (sSeq (sIf (eNotT (eTru (eCall ev_do_meet_in (aV (eV (eVar 1)) (aV (eV (eVar 2)) aNil))))) (sRet (eV (eC .none))) sSkip)
  (sAsg (eV (eCall ev_cut_down (aV (eV (eVar 1)) (aV (eV (eVar 2)) aNil)))) (gN 1)))
noncomputable def bd_shared_by_all : EvSt := (sSeq (sDrop (eCall ev_check_some (aV (eV (eVar 0)) aNil)))
  (sSeq (sAsg (eV (eBin oIx (eVar 0) (eC (.int 0)))) (gN 1))
  (sSeq (sFor (iSeq (eV (eSl (eVar 0) (ePart (eC (.int 1))) eNoPart))) (gN 2) fb_shared_by_all_0)
  (sRet (eV (eVar 1))))))
noncomputable def ev_shared_by_all : Fn := ar 1 (eFn 3 bd_shared_by_all)
theorem ok_shared_by_all {P : Program} {w : World} {K : PySem.W.Frag} {mg : Str → Option Value} {base : Heap} (D : Def K mg "shared_by_all" (topS 29) ["classes"]) (c_check_some : Cal P w K mg base 5 "check_some" (topS 23) ["classes"] ev_check_some) (c_do_meet_in : Cal P w K mg base 3 "do_meet_in" (topS 24) ["one", "other"] ev_do_meet_in) (c_cut_down : Cal P w K mg base 3 "cut_down" (topS 25) ["one", "other"] ev_cut_down) :
    Cal P w K mg base 6 "shared_by_all" (topS 29) ["classes"] ev_shared_by_all := D.cal sc_shared_by_all fun f cdv A outer s H E hr => ⟨_,
    (bcons (sexpr (xcall c_check_some (hr.mono (by decide)) (aval (XE.v (xv 0)) anil)))
    (bcons (sset sc_shared_by_all.nd (XE.v (xix (xv 0) xint)))
    (bcons (sfor PassesOwn.never (iseq (XE.v (xsl (xv 0) (xo_some xint) xo_none))) (gname sc_shared_by_all.nd) (bcons (sif (tnot (ttru (xcall c_do_meet_in (hr.mono (by decide)) (aval (XE.v (xv 1)) (aval (XE.v (xv 2)) anil))))) (bone (sret (XE.v xnon))) bnil)
    (bone (sset sc_shared_by_all.nd (XE.v (xcall c_cut_down (hr.mono (by decide)) (aval (XE.v (xv 1)) (aval (XE.v (xv 2)) anil))))))))
    (bone (sret (XE.v (xv 1)))))))⟩
/-! ### apart(classes): slots 0 classes, 1 near, 2 far -/
theorem sc_apart : FnScope ["classes", "near", "far"] ["classes"] (defScope (topS 30)) := ⟨rfl, rfl, rfl, by decide +kernel, rfl, by decide +kernel, by decide +kernel⟩
noncomputable def fb_apart_0 : EvSt := (sIf (eNotT (eTru (eCall ev_do_meet_in (aV (eV (eBin oIx (eVar 0) (eVar 1))) (aV (eV (eBin oIx (eVar 0) (eVar 2))) aNil))))) (sRet (eV (eTup (eConsV (eV (eVar 1)) (eConsV (eV (eVar 2)) eNilV))))) sSkip)
noncomputable def fb_apart_1 : EvSt := (sFor (iR2 (eBin oAdd (eVar 1) (eC (.int 1))) (eCB oLen (eCons (eVar 0) eNil))) (gN 2) fb_apart_0)
noncomputable def bd_apart : EvSt := (sSeq (sDrop (eCall ev_check_some (aV (eV (eVar 0)) aNil)))
  (sSeq (sFor (iR1 (eCB oLen (eCons (eVar 0) eNil))) (gN 1) fb_apart_1)
  (sRet (eV (eC .none)))))
noncomputable def ev_apart : Fn := ar 1 (eFn 3 bd_apart)
theorem ok_apart {P : Program} {w : World} {K : PySem.W.Frag} {mg : Str → Option Value} {base : Heap} (D : Def K mg "apart" (topS 30) ["classes"]) (c_check_some : Cal P w K mg base 5 "check_some" (topS 23) ["classes"] ev_check_some) (m_range : mg "range" = none) (m_len : mg "len" = none) (c_do_meet_in : Cal P w K mg base 3 "do_meet_in" (topS 24) ["one", "other"] ev_do_meet_in) :
    Cal P w K mg base 6 "apart" (topS 30) ["classes"] ev_apart := D.cal sc_apart fun f cdv A outer s H E hr => ⟨_,
    (bcons (sexpr (xcall c_check_some (hr.mono (by decide)) (aval (XE.v (xv 0)) anil)))
    (bcons (sfor PassesOwn.never (irange1 m_range (xcb b_len m_len PySem.boot_len (xa_cons (xv 0) xa_nil))) (gname sc_apart.nd) (bone (sfor PassesOwn.never (irange2 m_range (xadd (xv 1) xint) (xcb b_len m_len PySem.boot_len (xa_cons (xv 0) xa_nil))) (gname sc_apart.nd) (bone (sif (tnot (ttru (xcall c_do_meet_in (hr.mono (by decide)) (aval (XE.v (xix (xv 0) (xv 1))) (aval (XE.v (xix (xv 0) (xv 2))) anil))))) (bone (sret (XE.v (xtup (xl_cons (XE.v (xv 1)) (xl_cons (XE.v (xv 2)) xl_nil)))))) bnil)))))
    (bone (sret (XE.v xnon)))))⟩
/-! ### first_meeting(cls, other, beat): slots 0 cls, 1 other, 2 beat -/
theorem sc_first_meeting : FnScope ["cls", "other", "beat"] ["cls", "other", "beat"] (defScope (topS 31)) := ⟨rfl, rfl, rfl, by decide +kernel, rfl, by decide +kernel, by decide +kernel⟩
noncomputable def bd_first_meeting : EvSt := (sSeq (sDrop (eCall ev_check_classes (aV (eV (eVar 0)) (aV (eV (eVar 1)) aNil))))
  (sSeq (sDrop (eCall ev_check_beat (aV (eV (eVar 2)) aNil)))
  (sRet (eV (eIf (eTru (eCall ev_do_meet_in (aV (eV (eVar 0)) (aV (eV (eVar 1)) aNil)))) (eCall ev_next_in (aV (eV (eCall ev_cut_down (aV (eV (eVar 0)) (aV (eV (eVar 1)) aNil)))) (aV (eV (eVar 2)) aNil))) (eC .none))))))
noncomputable def ev_first_meeting : Fn := ar 3 (eFn 3 bd_first_meeting)
theorem ok_first_meeting {P : Program} {w : World} {K : PySem.W.Frag} {mg : Str → Option Value} {base : Heap} (D : Def K mg "first_meeting" (topS 31) ["cls", "other", "beat"]) (c_check_classes : Cal P w K mg base 6 "check_classes" (topS 17) ["cls", "other"] ev_check_classes) (c_check_beat : Cal P w K mg base 5 "check_beat" (topS 15) ["beat"] ev_check_beat) (c_do_meet_in : Cal P w K mg base 3 "do_meet_in" (topS 24) ["one", "other"] ev_do_meet_in) (c_next_in : Cal P w K mg base 2 "next_in" (topS 22) ["cls", "beat"] ev_next_in) (c_cut_down : Cal P w K mg base 3 "cut_down" (topS 25) ["one", "other"] ev_cut_down) :
    Cal P w K mg base 7 "first_meeting" (topS 31) ["cls", "other", "beat"] ev_first_meeting := D.cal sc_first_meeting fun f cdv A outer s H E hr => ⟨_,
    (bcons (sexpr (xcall c_check_classes (hr.mono (by decide)) (aval (XE.v (xv 0)) (aval (XE.v (xv 1)) anil))))
    (bcons (sexpr (xcall c_check_beat (hr.mono (by decide)) (aval (XE.v (xv 2)) anil)))
    (bone (sret (XE.v (xif (ttru (xcall c_do_meet_in (hr.mono (by decide)) (aval (XE.v (xv 0)) (aval (XE.v (xv 1)) anil)))) (xcall c_next_in (hr.mono (by decide)) (aval (XE.v (xcall c_cut_down (hr.mono (by decide)) (aval (XE.v (xv 0)) (aval (XE.v (xv 1)) anil)))) (aval (XE.v (xv 2)) anil))) xnon))))))⟩
/-! ### is_wide(value): slots 0 value -/
theorem sc_is_wide : FnScope ["value"] ["value"] (defScope (topS 32)) := ⟨rfl, rfl, rfl, by decide +kernel, rfl, by decide +kernel, by decide +kernel⟩
noncomputable def bd_is_wide : EvSt := (sSeq (sIf (eOrT (eNotT (eTru (eIsi (eVar 0) ["tuple"]))) (eOrT (eT (eBin oNe (eCB oLen (eCons (eVar 0) eNil)) (eC (.int 2)))) (eOrT (eNotT (eTru (eCall ev_is_integer (aV (eV (eBin oIx (eVar 0) (eC (.int 0)))) aNil)))) (eNotT (eTru (eCall ev_is_integer (aV (eV (eBin oIx (eVar 0) (eC (.int 1)))) aNil))))))) (sRet (eV (eC (.bool false)))) sSkip)
  (sRet (eV (eChain oLe oLt (eC (.int 0)) (eBin oIx (eVar 0) (eC (.int 1))) (eBin oIx (eVar 0) (eC (.int 0)))))))
noncomputable def ev_is_wide : Fn := ar 1 (eFn 1 bd_is_wide)
theorem ok_is_wide {P : Program} {w : World} {K : PySem.W.Frag} {mg : Str → Option Value} {base : Heap} (D : Def K mg "is_wide" (topS 32) ["value"]) (m_isinstance : mg "isinstance" = none) (m_tuple : mg "tuple" = none) (m_len : mg "len" = none) (c_is_integer : Cal P w K mg base 2 "is_integer" (topS 10) ["value"] ev_is_integer) :
    Cal P w K mg base 3 "is_wide" (topS 32) ["value"] ev_is_wide := D.cal sc_is_wide fun f cdv A outer s H E hr => ⟨_,
    (bcons (sif (tbo (wor (tnot (ttru (xisi1 (T := "tuple") (xv 0) m_isinstance m_tuple PyProof.Rows.boot_tuple))) (wor (tcmp (c_ne hr) (xcb b_len m_len PySem.boot_len (xa_cons (xv 0) xa_nil)) xint) (wor (tnot (ttru (xcall c_is_integer (hr.mono (by decide)) (aval (XE.v (xix (xv 0) xint)) anil)))) (wor1 (tnot (ttru (xcall c_is_integer (hr.mono (by decide)) (aval (XE.v (xix (xv 0) xint)) anil))))))))) (bone (sret (XE.v xbl))) bnil)
    (bone (sret (XE.v (xchain c_le c_lt xint (xix (xv 0) xint) (xix (xv 0) xint))))))⟩
/-! ### _law_draw(pot, many): slots 0 pot, 1 many, 2 digit -/
theorem sc__law_draw : FnScope ["pot", "many", "digit"] ["pot", "many"] (defScope (topS 35)) := ⟨rfl, rfl, rfl, by decide +kernel, rfl, by decide +kernel, by decide +kernel⟩
noncomputable def bd__law_draw : EvSt := (sSeq (sIf (eT (eBin oGt (eBin oIx (eVar 0) (eC (.int 0))) (eC (.int 0)))) (sSeq (sAsg (eV (eCB oDivmod (eCons (eBin oIx (eVar 0) (eC (.int 0))) (eCons (eVar 1) eNil)))) (gT ((gX 0 (eC (.int 0))) :: ((gN 2) :: []))))
  (sRet (eV (eVar 2)))) sSkip)
  (sSeq (sAsg (eV (eBin oMod (eCB oInt (eCons (eBin oAdd (eBin oMul (eBin oIx (eVar 0) (eC (.int 1))) (eC (.int 48435))) (eC (.int 310))) eNil)) (eC (.int 2147483563)))) (gX 0 (eC (.int 1))))
  (sRet (eV (eBin oMod (eCB oInt (eCons (eBin oDiv (eBin oMod (eCB oInt (eCons (eBin oMul (eBin oIx (eVar 0) (eC (.int 1))) (eBin oIx (eVar 0) (eC (.int 1)))) eNil)) (eC (.int 2147483549))) (eC (.int 79))) eNil)) (eVar 1))))))
noncomputable def ev__law_draw : Fn := ar 2 (eFn 3 bd__law_draw)
theorem ok__law_draw {P : Program} {w : World} {K : PySem.W.Frag} {mg : Str → Option Value} {base : Heap} (D : Def K mg "_law_draw" (topS 35) ["pot", "many"]) (m_divmod : mg "divmod" = none) (m_int : mg "int" = none) :
    Cal P w K mg base 2 "_law_draw" (topS 35) ["pot", "many"] ev__law_draw := D.cal sc__law_draw fun f cdv A outer s H E hr => ⟨_,
    (bcons (sif (tcmp c_gt (xix (xv 0) xint) xint) (bcons (sasg (XE.v (xcb b_divmod m_divmod PyProof.Rows.boot_divmod (xa_cons (xix (xv 0) xint) (xa_cons (xv 1) xa_nil)))) (gtup (gcons (gsub (pv 0) xint) (gcons (gname sc__law_draw.nd) gnil))))
    (bone (sret (XE.v (xv 2))))) bnil)
    (bcons (sasg (XE.v (xmod (xcty b_int m_int PyProof.Rows.boot_int (xa_cons (xadd (xmul (xix (xv 0) xint) xint) xint) xa_nil)) xint)) (gsub (pv 0) xint))
    (bone (sret (XE.v (xmod (xcty b_int m_int PyProof.Rows.boot_int (xa_cons (xdiv (xmod (xcty b_int m_int PyProof.Rows.boot_int (xa_cons (xmul (xix (xv 0) xint) (xix (xv 0) xint)) xa_nil)) xint) xint) xa_nil)) (xv 1)))))))⟩
/-! ### _law_pick(pot, some): slots 0 pot, 1 some -/
theorem sc__law_pick : FnScope ["pot", "some"] ["pot", "some"] (defScope (topS 36)) := ⟨rfl, rfl, rfl, by decide +kernel, rfl, by decide +kernel, by decide +kernel⟩
noncomputable def bd__law_pick : EvSt := (sRet (eV (eBin oIx (eVar 1) (eCall ev__law_draw (aIo 0 (aV (eV (eCB oLen (eCons (eVar 1) eNil))) aNil))))))
noncomputable def ev__law_pick : Fn := ar 2 (eFn 2 bd__law_pick)
theorem ok__law_pick {P : Program} {w : World} {K : PySem.W.Frag} {mg : Str → Option Value} {base : Heap} (D : Def K mg "_law_pick" (topS 36) ["pot", "some"]) (c__law_draw : Cal P w K mg base 2 "_law_draw" (topS 35) ["pot", "many"] ev__law_draw) (m_len : mg "len" = none) :
    Cal P w K mg base 3 "_law_pick" (topS 36) ["pot", "some"] ev__law_pick := D.cal sc__law_pick fun f cdv A outer s H E hr => ⟨_,
    (bone (sret (XE.v (xix (xv 1) (xcall c__law_draw (hr.mono (by decide)) (aio 0 (aval (XE.v (xcb b_len m_len PySem.boot_len (xa_cons (xv 1) xa_nil))) anil)))))))⟩
/-! ### _law_mixed(pot, some): slots 0 pot, 1 some, 2 turn, 3 left, 4 found -/
theorem sc__law_mixed : FnScope ["pot", "some", "turn", "left", "found"] ["pot", "some"] (defScope (topS 37)) := ⟨rfl, rfl, rfl, by decide +kernel, rfl, by decide +kernel, by decide +kernel⟩
noncomputable def fb__law_mixed_0 : EvSt := (sApp 4 (eV (ePopAt 3 (eCall ev__law_draw (aIo 0 (aV (eV (eCB oLen (eCons (eVar 3) eNil))) aNil))))))
noncomputable def bd__law_mixed : EvSt := (sSeq (sPar (pF (eCBF oList (eCons (eVar 1) eNil)) (pF (eLstF eNilV) pNil)) [3, 4])
  (sSeq (sFor (iR1 (eCB oLen (eCons (eVar 1) eNil))) (gN 2) fb__law_mixed_0)
  (sRet (eV (eVar 4)))))
noncomputable def ev__law_mixed : Fn := ar 2 (eFn 5 bd__law_mixed)
theorem ok__law_mixed {P : Program} {w : World} {K : PySem.W.Frag} {mg : Str → Option Value} {base : Heap} (D : Def K mg "_law_mixed" (topS 37) ["pot", "some"]) (m_list : mg "list" = none) (m_range : mg "range" = none) (m_len : mg "len" = none) (c__law_draw : Cal P w K mg base 2 "_law_draw" (topS 35) ["pot", "many"] ev__law_draw) :
    Cal P w K mg base 3 "_law_mixed" (topS 37) ["pot", "some"] ev__law_mixed := D.cal sc__law_mixed fun f cdv A outer s H E hr => ⟨_,
    (bcons (spar2 sc__law_mixed.nd (pfre (fcty bf_list m_list PyProof.Rows.boot_list (xa_cons (xv 1) xa_nil)) (pfre (flst xl_nil) pnil)))
    (bcons (sfor PassesOwn.never (irange1 m_range (xcb b_len m_len PySem.boot_len (xa_cons (xv 1) xa_nil))) (gname sc__law_mixed.nd) (bone (sapp (pv 4) (XE.v (xpopAt (pv 3) (xcall c__law_draw (hr.mono (by decide)) (aio 0 (aval (XE.v (xcb b_len m_len PySem.boot_len (xa_cons (xv 3) xa_nil))) anil))))))))
    (bone (sret (XE.v (xv 4))))))⟩
/-! ### _law_common(one, other): slots 0 one, 1 other -/
theorem sc__law_common : FnScope ["one", "other"] ["one", "other"] (defScope (topS 38)) := ⟨rfl, rfl, rfl, by decide +kernel, rfl, by decide +kernel, by decide +kernel⟩
noncomputable def wc__law_common_0 : EvT := (eT (eBin oGt (eVar 1) (eC (.int 0))))
noncomputable def wb__law_common_0 : EvSt := (sPar (pV (eV (eVar 1)) (pV (eV (eCB oInt (eCons (eBin oMod (eVar 0) (eVar 1)) eNil))) pNil)) [0, 1])
noncomputable def bd__law_common : EvSt := (sSeq (sWhile wc__law_common_0 wb__law_common_0)
  (sRet (eV (eVar 0))))
noncomputable def ev__law_common : Fn := ar 2 (eFn 2 bd__law_common)
theorem ok__law_common {P : Program} {w : World} {K : PySem.W.Frag} {mg : Str → Option Value} {base : Heap} (D : Def K mg "_law_common" (topS 38) ["one", "other"]) (m_int : mg "int" = none) :
    Cal P w K mg base 2 "_law_common" (topS 38) ["one", "other"] ev__law_common := D.cal sc__law_common fun f cdv A outer s H E hr => ⟨_,
    (bcons (swhile PassesOwn.never (tcmp c_gt (xv 1) xint) (bone (spar2 sc__law_common.nd (pval (XE.v (xv 1)) (pval (XE.v (xcty b_int m_int PyProof.Rows.boot_int (xa_cons (xmod (xv 0) (xv 1)) xa_nil))) pnil)))))
    (bone (sret (XE.v (xv 0)))))⟩
/-! ### _law_multiple_all(numbers): slots 0 numbers, 1 found, 2 one -/
theorem sc__law_multiple_all : FnScope ["numbers", "found", "one"] ["numbers"] (defScope (topS 39)) := ⟨rfl, rfl, rfl, by decide +kernel, rfl, by decide +kernel, by decide +kernel⟩
noncomputable def fb__law_multiple_all_0 : EvSt := (sAsg (eV (eBin oDiv (eBin oMul (eVar 1) (eVar 2)) (eCall ev__law_common (aV (eV (eVar 1)) (aV (eV (eVar 2)) aNil))))) (gN 1))
noncomputable def bd__law_multiple_all : EvSt := (sSeq (sAsg (eV (eC (.int 1))) (gN 1))
  (sSeq (sFor (iSeq (eV (eVar 0))) (gN 2) fb__law_multiple_all_0)
  (sRet (eV (eVar 1)))))
noncomputable def ev__law_multiple_all : Fn := ar 1 (eFn 3 bd__law_multiple_all)
theorem ok__law_multiple_all {P : Program} {w : World} {K : PySem.W.Frag} {mg : Str → Option Value} {base : Heap} (D : Def K mg "_law_multiple_all" (topS 39) ["numbers"]) (c__law_common : Cal P w K mg base 2 "_law_common" (topS 38) ["one", "other"] ev__law_common) :
    Cal P w K mg base 3 "_law_multiple_all" (topS 39) ["numbers"] ev__law_multiple_all := D.cal sc__law_multiple_all fun f cdv A outer s H E hr => ⟨_,
    (bcons (sset sc__law_multiple_all.nd (XE.v xint))
    (bcons (sfor PassesOwn.never (iseq (XE.v (xv 0))) (gname sc__law_multiple_all.nd) (bone (sset sc__law_multiple_all.nd (XE.v (xdiv (xmul (xv 1) (xv 2)) (xcall c__law_common (hr.mono (by decide)) (aval (XE.v (xv 1)) (aval (XE.v (xv 2)) anil))))))))
    (bone (sret (XE.v (xv 1))))))⟩
/-! ### _law_class(pot, most): slots 0 pot, 1 most, 2 period -/
theorem sc__law_class : FnScope ["pot", "most", "period"] ["pot", "most"] (defScope (topS 40)) := ⟨rfl, rfl, rfl, by decide +kernel, rfl, by decide +kernel, by decide +kernel⟩
noncomputable def bd__law_class : EvSt := (sSeq (sAsg (eV (eBin oAdd (eC (.int 1)) (eCall ev__law_draw (aIo 0 (aV (eV (eVar 1)) aNil))))) (gN 2))
  (sRet (eV (eTup (eConsV (eV (eVar 2)) (eConsV (eV (eCall ev__law_draw (aIo 0 (aV (eV (eVar 2)) aNil)))) eNilV))))))
noncomputable def ev__law_class : Fn := ar 2 (eFn 3 bd__law_class)
theorem ok__law_class {P : Program} {w : World} {K : PySem.W.Frag} {mg : Str → Option Value} {base : Heap} (D : Def K mg "_law_class" (topS 40) ["pot", "most"]) (c__law_draw : Cal P w K mg base 2 "_law_draw" (topS 35) ["pot", "many"] ev__law_draw) :
    Cal P w K mg base 3 "_law_class" (topS 40) ["pot", "most"] ev__law_class := D.cal sc__law_class fun f cdv A outer s H E hr => ⟨_,
    (bcons (sset sc__law_class.nd (XE.v (xadd xint (xcall c__law_draw (hr.mono (by decide)) (aio 0 (aval (XE.v (xv 1)) anil))))))
    (bone (sret (XE.v (xtup (xl_cons (XE.v (xv 2)) (xl_cons (XE.v (xcall c__law_draw (hr.mono (by decide)) (aio 0 (aval (XE.v (xv 2)) anil)))) xl_nil)))))))⟩
/-! ### _law_do_meet(one, other): slots 0 one, 1 other -/
theorem sc__law_do_meet : FnScope ["one", "other"] ["one", "other"] (defScope (topS 41)) := ⟨rfl, rfl, rfl, by decide +kernel, rfl, by decide +kernel, by decide +kernel⟩
noncomputable def bd__law_do_meet : EvSt := (sRet (eV (eBin oEq (eCB oInt (eCons (eBin oMod (eBin oSub (eBin oIx (eVar 0) (eC (.int 1))) (eBin oIx (eVar 1) (eC (.int 1)))) (eCall ev__law_common (aV (eV (eBin oIx (eVar 0) (eC (.int 0)))) (aV (eV (eBin oIx (eVar 1) (eC (.int 0)))) aNil)))) eNil)) (eC (.int 0)))))
noncomputable def ev__law_do_meet : Fn := ar 2 (eFn 2 bd__law_do_meet)
theorem ok__law_do_meet {P : Program} {w : World} {K : PySem.W.Frag} {mg : Str → Option Value} {base : Heap} (D : Def K mg "_law_do_meet" (topS 41) ["one", "other"]) (c__law_common : Cal P w K mg base 2 "_law_common" (topS 38) ["one", "other"] ev__law_common) (m_int : mg "int" = none) :
    Cal P w K mg base 3 "_law_do_meet" (topS 41) ["one", "other"] ev__law_do_meet := D.cal sc__law_do_meet fun f cdv A outer s H E hr => ⟨_,
    (bone (sret (XE.v (xcmp (c_eq hr) (xcty b_int m_int PyProof.Rows.boot_int (xa_cons (xmod (xsub (xix (xv 0) xint) (xix (xv 1) xint)) (xcall c__law_common (hr.mono (by decide)) (aval (XE.v (xix (xv 0) xint)) (aval (XE.v (xix (xv 1) xint)) anil)))) xa_nil)) xint))))⟩
/-! ### _law_pair_right(pot, one, other): slots 0 pot, 1 one, 2 other, 3 both, 4 beats, 5 numbers, 6 due, 7 turn, 8 beat, 9 late, 10 told, 11 at -/
theorem sc__law_pair_right : FnScope ["pot", "one", "other", "both", "beats", "numbers", "due", "turn", "beat", "late", "told", "at"] ["pot", "one", "other"] (defScope (topS 42)) := ⟨rfl, rfl, rfl, by decide +kernel, rfl, by decide +kernel, by decide +kernel⟩
noncomputable def ct__law_pair_right_0 : EvT := (eAndT (eT (eBin oGe (eVar 8) (eBin oIx (eVar 2) (eC (.int 1))))) (eT (eBin oEq (eCB oInt (eCons (eBin oMod (eBin oSub (eVar 8) (eBin oIx (eVar 2) (eC (.int 1)))) (eBin oIx (eVar 2) (eC (.int 0)))) eNil)) (eC (.int 0)))))
noncomputable def ce__law_pair_right_0 : EvS := (eV (eVar 8))
noncomputable def ct__law_pair_right_1 : EvT := (eAndT (eT (eBin oEq (eCB oInt (eCons (eBin oMod (eBin oSub (eVar 8) (eBin oIx (eVar 1) (eC (.int 1)))) (eBin oIx (eVar 1) (eC (.int 0)))) eNil)) (eC (.int 0)))) (eT (eBin oEq (eCB oInt (eCons (eBin oMod (eBin oSub (eVar 8) (eBin oIx (eVar 2) (eC (.int 1)))) (eBin oIx (eVar 2) (eC (.int 0)))) eNil)) (eC (.int 0)))))
noncomputable def ce__law_pair_right_1 : EvS := (eV (eVar 8))
noncomputable def ct__law_pair_right_2 : EvT := (eAndT (eT (eBin oIsNot (eVar 6) (eC .none))) (eAndT (eT (eBin oGe (eVar 11) (eCB oMax (eCons (eBin oIx (eVar 1) (eC (.int 1))) (eCons (eBin oIx (eVar 2) (eC (.int 1))) eNil))))) (eT (eBin oEq (eCB oInt (eCons (eBin oMod (eBin oSub (eVar 11) (eBin oIx (eVar 6) (eC (.int 1)))) (eVar 3)) eNil)) (eC (.int 0))))))
noncomputable def ce__law_pair_right_2 : EvS := (eV (eVar 11))
noncomputable def tl__law_pair_right_0 : EvSt := (sSeq (sIf (eOrT (eT (eBin oNe (eVar 10) (eCallP ev_first_meeting 0 3 [2, 1, 0] aNil (aV (eV (eVar 8)) (aV (eV (eVar 1)) (aV (eV (eVar 2)) aNil)))))) (eT (eBin oNe (eBin oIs (eVar 10) (eC .none)) (eBin oIs (eVar 6) (eC .none))))) (sRet (eV (eC (.bool false)))) sSkip)
  (sIf (eOrT (eAndT (eT (eBin oIsNot (eVar 6) (eC .none))) (eAndT (eT (eBin oNe (eVar 9) (eLst eNilV))) (eT (eBin oNe (eVar 10) (eBin oIx (eVar 9) (eC (.int 0))))))) (eAndT (eT (eBin oIsNot (eVar 10) (eC .none))) (eT (eBin oLt (eVar 10) (eVar 8))))) (sRet (eV (eC (.bool false)))) sSkip))
noncomputable def fb__law_pair_right_0 : EvSt := (sSeq (sAsg (eV (eCall ev__law_draw (aIo 0 (aV (eV (eBin oMul (eC (.int 2)) (eVar 3))) aNil)))) (gN 8))
  (sSeq (sAsg (eF (eLc (iR2 (eVar 8) (eBin oAdd (eVar 8) (eVar 3))) (gN 11) ct__law_pair_right_2 ce__law_pair_right_2 [11])) (gN 9))
  (sSeq (sAsg (eV (eCall ev_first_meeting (aV (eV (eVar 1)) (aV (eV (eVar 2)) (aV (eV (eVar 8)) aNil))))) (gN 10))
  tl__law_pair_right_0)))
noncomputable def tl__law_pair_right_1 : EvSt := (sSeq (sFor (iR1 (eC (.int 3))) (gN 7) fb__law_pair_right_0)
  (sRet (eV (eOr (eBin oIs (eVar 6) (eC .none)) (eBin oIs (eCall ev_is_wide (aV (eV (eVar 6)) aNil)) (eC (.bool true)))))))
noncomputable def tl__law_pair_right_2 : EvSt := (sSeq (sAsg (eV (eIf (eT (eBin oNe (eVar 5) (eLst eNilV))) (eTup (eConsV (eV (eVar 3)) (eConsV (eV (eBin oIx (eVar 5) (eC (.int 0)))) eNilV))) (eC .none))) (gN 6))
  (sSeq (sIf (eOrT (eT (eBin oNe (eLst (eConsV (eV (eCall ev_do_meet (aV (eV (eVar 1)) (aV (eV (eVar 2)) aNil)))) (eConsV (eV (eCallP ev_do_meet 0 2 [1, 0] aNil (aV (eV (eVar 1)) (aV (eV (eVar 2)) aNil)))) eNilV))) (eBin oMul (eLst (eConsV (eV (eBin oIsNot (eVar 6) (eC .none))) eNilV)) (eC (.int 2))))) (eT (eBin oNe (eLst (eConsV (eV (eCall ev_shared (aV (eV (eVar 1)) (aV (eV (eVar 2)) aNil)))) (eConsV (eV (eCallP ev_shared 0 2 [1, 0] aNil (aV (eV (eVar 1)) (aV (eV (eVar 2)) aNil)))) eNilV))) (eBin oMul (eLst (eConsV (eV (eVar 6)) eNilV)) (eC (.int 2)))))) (sRet (eV (eC (.bool false)))) sSkip)
  (sSeq (sIf (eOrT (eT (eBin oGt (eCB oLen (eCons (eVar 5) eNil)) (eC (.int 1)))) (eT (eBin oNe (eBin oNe (eVar 4) (eLst eNilV)) (eBin oIsNot (eVar 6) (eC .none))))) (sRet (eV (eC (.bool false)))) sSkip)
  tl__law_pair_right_1)))
noncomputable def bd__law_pair_right : EvSt := (sSeq (sAsg (eV (eCall ev__law_multiple_all (aV (eV (eLst (eConsV (eV (eBin oIx (eVar 1) (eC (.int 0)))) (eConsV (eV (eBin oIx (eVar 2) (eC (.int 0)))) eNilV)))) aNil))) (gN 3))
  (sSeq (sAsg (eF (eLc (iR3 (eBin oIx (eVar 1) (eC (.int 1))) (eBin oAdd (eVar 3) (eBin oIx (eVar 1) (eC (.int 1)))) (eBin oIx (eVar 1) (eC (.int 0)))) (gN 8) ct__law_pair_right_0 ce__law_pair_right_0 [8])) (gN 4))
  (sSeq (sAsg (eF (eLc (iR1 (eVar 3)) (gN 8) ct__law_pair_right_1 ce__law_pair_right_1 [8])) (gN 5))
  tl__law_pair_right_2)))
noncomputable def ev__law_pair_right : Fn := ar 3 (eFn 12 bd__law_pair_right)
theorem ok__law_pair_right {P : Program} {w : World} {K : PySem.W.Frag} {mg : Str → Option Value} {base : Heap} (D : Def K mg "_law_pair_right" (topS 42) ["pot", "one", "other"]) (c__law_multiple_all : Cal P w K mg base 3 "_law_multiple_all" (topS 39) ["numbers"] ev__law_multiple_all) (m_range : mg "range" = none) (m_int : mg "int" = none) (c_do_meet : Cal P w K mg base 7 "do_meet" (topS 27) ["cls", "other"] ev_do_meet) (c_shared : Cal P w K mg base 7 "shared" (topS 28) ["cls", "other"] ev_shared) (m_len : mg "len" = none) (c__law_draw : Cal P w K mg base 2 "_law_draw" (topS 35) ["pot", "many"] ev__law_draw) (m_max : mg "max" = none) (c_first_meeting : Cal P w K mg base 7 "first_meeting" (topS 31) ["cls", "other", "beat"] ev_first_meeting) (c_is_wide : Cal P w K mg base 3 "is_wide" (topS 32) ["value"] ev_is_wide) :
    Cal P w K mg base 8 "_law_pair_right" (topS 42) ["pot", "one", "other"] ev__law_pair_right := D.cal sc__law_pair_right fun f cdv A outer s H E hr => ⟨_,
    (bcons (sset sc__law_pair_right.nd (XE.v (xcall c__law_multiple_all (hr.mono (by decide)) (aval (XE.v (xlst (xl_cons (XE.v (xix (xv 1) xint)) (xl_cons (XE.v (xix (xv 2) xint)) xl_nil)))) anil))))
    (bcons (ssetLc [("beat", 8)] sc__law_pair_right.nd (irange3 m_range (xix (xv 1) xint) (xadd (xv 3) (xix (xv 1) xint)) (xix (xv 1) xint)) (blkOk_by (by first | (show blkC ["pot", "one", "other", "both", "beats", "numbers", "due", "turn", "beat", "late", "told", "at"] (defScope (topS 42)) _ _ = true; decide +kernel) | exact Eq.refl true)) (fun _ _ _ _ _ => (wname sc__law_pair_right.nd)) (fun _ _ _ _ _ => (tsone (tbo (wand (tcmp c_ge (xv 8) (xix (xv 2) xint)) (wand1 (tcmp (c_eq hr) (xcty b_int m_int PyProof.Rows.boot_int (xa_cons (xmod (xsub (xv 8) (xix (xv 2) xint)) (xix (xv 2) xint)) xa_nil)) xint)))))) (fun _ _ _ _ _ => (XE.v (xv 8))) (s0 := s) (H0 := H))
    (bcons (ssetLc [("beat", 8)] sc__law_pair_right.nd (irange1 m_range (xv 3)) (blkOk_by (by first | (show blkC ["pot", "one", "other", "both", "beats", "numbers", "due", "turn", "beat", "late", "told", "at"] (defScope (topS 42)) _ _ = true; decide +kernel) | exact Eq.refl true)) (fun _ _ _ _ _ => (wname sc__law_pair_right.nd)) (fun _ _ _ _ _ => (tsone (tbo (wand (tcmp (c_eq hr) (xcty b_int m_int PyProof.Rows.boot_int (xa_cons (xmod (xsub (xv 8) (xix (xv 1) xint)) (xix (xv 1) xint)) xa_nil)) xint) (wand1 (tcmp (c_eq hr) (xcty b_int m_int PyProof.Rows.boot_int (xa_cons (xmod (xsub (xv 8) (xix (xv 2) xint)) (xix (xv 2) xint)) xa_nil)) xint)))))) (fun _ _ _ _ _ => (XE.v (xv 8))) (s0 := s) (H0 := H))
    (bcons (sset sc__law_pair_right.nd (XE.v (xif (tcmp (c_ne hr) (xv 5) (xlst xl_nil)) (xtup (xl_cons (XE.v (xv 3)) (xl_cons (XE.v (xix (xv 5) xint)) xl_nil))) xnon)))
    (bcons (sif (tbo (wor (tcmp (c_ne hr) (xlst (xl_cons (XE.v (xcall c_do_meet (hr.mono (by decide)) (aval (XE.v (xv 1)) (aval (XE.v (xv 2)) anil)))) (xl_cons (XE.v (xcallK0 c_do_meet (hr.mono (by decide)) kwb_do_meet_0 (kval (XE.v (xv 1)) (kval (XE.v (xv 2)) knil)))) xl_nil))) (xmul (xlst (xl_cons (XE.v (xcmp c_isNot (xv 6) xnon)) xl_nil)) xint)) (wor1 (tcmp (c_ne hr) (xlst (xl_cons (XE.v (xcall c_shared (hr.mono (by decide)) (aval (XE.v (xv 1)) (aval (XE.v (xv 2)) anil)))) (xl_cons (XE.v (xcallK0 c_shared (hr.mono (by decide)) kwb_shared_1 (kval (XE.v (xv 1)) (kval (XE.v (xv 2)) knil)))) xl_nil))) (xmul (xlst (xl_cons (XE.v (xv 6)) xl_nil)) xint))))) (bone (sret (XE.v xbl))) bnil)
    (bcons (sif (tbo (wor (tcmp c_gt (xcb b_len m_len PySem.boot_len (xa_cons (xv 5) xa_nil)) xint) (wor1 (tcmp (c_ne hr) (xcmp (c_ne hr) (xv 4) (xlst xl_nil)) (xcmp c_isNot (xv 6) xnon))))) (bone (sret (XE.v xbl))) bnil)
    (bcons (sfor PassesOwn.never (irange1 m_range xint) (gname sc__law_pair_right.nd) (bcons (sset sc__law_pair_right.nd (XE.v (xcall c__law_draw (hr.mono (by decide)) (aio 0 (aval (XE.v (xmul xint (xv 3))) anil)))))
    (bcons (ssetLc [("at", 11)] sc__law_pair_right.nd (irange2 m_range (xv 8) (xadd (xv 8) (xv 3))) (blkOk_by (by first | (show blkC ["pot", "one", "other", "both", "beats", "numbers", "due", "turn", "beat", "late", "told", "at"] (defScope (topS 42)) _ _ = true; decide +kernel) | exact Eq.refl true)) (fun _ _ _ _ _ => (wname sc__law_pair_right.nd)) (fun _ _ _ _ _ => (tsone (tbo (wand (tcmp c_isNot (xv 6) xnon) (wand (tcmp c_ge (xv 11) (xcb b_max m_max PyProof.Rows.boot_max (xa_cons (xix (xv 1) xint) (xa_cons (xix (xv 2) xint) xa_nil)))) (wand1 (tcmp (c_eq hr) (xcty b_int m_int PyProof.Rows.boot_int (xa_cons (xmod (xsub (xv 11) (xix (xv 6) xint)) (xv 3)) xa_nil)) xint))))))) (fun _ _ _ _ _ => (XE.v (xv 11))) (s0 := s) (H0 := H))
    (bcons (sset sc__law_pair_right.nd (XE.v (xcall c_first_meeting (hr.mono (by decide)) (aval (XE.v (xv 1)) (aval (XE.v (xv 2)) (aval (XE.v (xv 8)) anil))))))
    (bcons (sif (tbo (wor (tcmp (c_ne hr) (xv 10) (xcallK0 c_first_meeting (hr.mono (by decide)) kwb_first_meeting_2 (kval (XE.v (xv 8)) (kval (XE.v (xv 1)) (kval (XE.v (xv 2)) knil))))) (wor1 (tcmp (c_ne hr) (xcmp c_is (xv 10) xnon) (xcmp c_is (xv 6) xnon))))) (bone (sret (XE.v xbl))) bnil)
    (bone (sif (tbo (wor (tbo (wand (tcmp c_isNot (xv 6) xnon) (wand (tcmp (c_ne hr) (xv 9) (xlst xl_nil)) (wand1 (tcmp (c_ne hr) (xv 10) (xix (xv 9) xint)))))) (wor1 (tbo (wand (tcmp c_isNot (xv 10) xnon) (wand1 (tcmp c_lt (xv 10) (xv 8)))))))) (bone (sret (XE.v xbl))) bnil)))))))
    (bone (sret (XE.v (xor (xcmp c_is (xv 6) xnon) (xone (xcmp c_is (xcall c_is_wide (hr.mono (by decide)) (aval (XE.v (xv 6)) anil)) xbl)))))))))))))⟩
/-! ### _law_all_right(pot): slots 0 pot, 1 turn, 2 pairs, 3 near, 4 every, 5 numbers, 6 due, 7 told, 8 beat, 9 some, 10 period, 11 at, 12 one, 13 far -/
theorem sc__law_all_right : FnScope ["pot", "turn", "pairs", "near", "every", "numbers", "due", "told", "beat", "some", "period", "at", "one", "far"] ["pot"] (defScope (topS 43)) := ⟨rfl, rfl, rfl, by decide +kernel, rfl, by decide +kernel, by decide +kernel⟩
noncomputable def fb__law_all_right_0 : EvSt := (sSeq (sAsg (eV (eBin oAdd (eC (.int 1)) (eCall ev__law_draw (aIo 0 (aV (eV (eC (.int 12))) aNil))))) (gN 10))
  (sApp 9 (eV (eTup (eConsV (eV (eVar 10)) (eConsV (eV (eCB oInt (eCons (eBin oMod (eVar 8) (eVar 10)) eNil))) eNilV))))))
noncomputable def ct__law_all_right_0 : EvT := (eNotT (eTru (eCall ev__law_do_meet (aV (eV (eBin oIx (eVar 9) (eVar 3))) (aV (eV (eBin oIx (eVar 9) (eVar 13))) aNil)))))
noncomputable def ce__law_all_right_0 : EvS := (eV (eTup (eConsV (eV (eVar 3)) (eConsV (eV (eVar 13)) eNilV))))
noncomputable def fb__law_all_right_1 : EvSt := (sExt 2 (eFe (eLc (iR2 (eBin oAdd (eVar 3) (eC (.int 1))) (eCB oLen (eCons (eVar 9) eNil))) (gN 13) ct__law_all_right_0 ce__law_all_right_0 [13])))
noncomputable def ce__law_all_right_1 : EvS := (eV (eBin oIx (eVar 12) (eC (.int 0))))
noncomputable def ce__law_all_right_2 : EvS := (eV (eBin oNe (eCB oInt (eCons (eBin oMod (eBin oSub (eVar 11) (eBin oIx (eVar 12) (eC (.int 1)))) (eBin oIx (eVar 12) (eC (.int 0)))) eNil)) (eC (.int 0))))
noncomputable def ct__law_all_right_1 : EvT := (eNotT (eTru (eCB oAny (eCons (eFe (eLc (iSeq (eV (eVar 9))) (gN 12) eYes ce__law_all_right_2 [12])) eNil))))
noncomputable def ce__law_all_right_3 : EvS := (eV (eVar 11))
noncomputable def tl__law_all_right_0 : EvSt := (sSeq (sAsg (eV (eLst (eConsV (eV (eCall ev_shared_by_all (aV (eV (eVar 9)) aNil))) (eConsV (eV (eCallP ev_shared_by_all 0 1 [0] aNil (aV (eV (eCB oTuple (eCons (eVar 9) eNil))) aNil))) (eConsV (eV (eCall ev_shared_by_all (aV (eV (eCall ev__law_mixed (aIo 0 (aV (eV (eVar 9)) aNil)))) aNil))) eNilV))))) (gN 7))
  (sRet (eV (eAnd (eBin oEq (eVar 7) (eBin oMul (eLst (eConsV (eV (eVar 6)) eNilV)) (eC (.int 3)))) (eBin oEq (eLst (eConsV (eV (eCall ev_apart (aV (eV (eVar 9)) aNil))) (eConsV (eV (eCallP ev_apart 0 1 [0] aNil (aV (eV (eCB oTuple (eCons (eVar 9) eNil))) aNil))) eNilV))) (eBin oMul (eLst (eConsV (eV (eIf (eT (eBin oNe (eVar 2) (eLst eNilV))) (eBin oIx (eVar 2) (eC (.int 0))) (eC .none))) eNilV)) (eC (.int 2))))))))
noncomputable def tl__law_all_right_1 : EvSt := (sSeq (sAsg (eF (eLc (iR1 (eVar 4)) (gN 11) ct__law_all_right_1 ce__law_all_right_3 [11])) (gN 5))
  (sSeq (sIf (eOrT (eT (eBin oNe (eBin oEq (eVar 5) (eLst eNilV)) (eBin oNe (eVar 2) (eLst eNilV)))) (eT (eBin oGt (eCB oLen (eCons (eVar 5) eNil)) (eC (.int 1))))) (sRet (eV (eC (.bool false)))) sSkip)
  (sSeq (sAsg (eV (eIf (eT (eBin oNe (eVar 5) (eLst eNilV))) (eTup (eConsV (eV (eVar 4)) (eConsV (eV (eBin oIx (eVar 5) (eC (.int 0)))) eNilV))) (eC .none))) (gN 6))
  tl__law_all_right_0)))
noncomputable def tl__law_all_right_2 : EvSt := (sSeq (sNew (eLstF eNilV) 2)
  (sSeq (sFor (iR1 (eCB oLen (eCons (eVar 9) eNil))) (gN 3) fb__law_all_right_1)
  (sSeq (sAsg (eV (eCall ev__law_multiple_all (aV (eF (eLc (iSeq (eV (eVar 9))) (gN 12) eYes ce__law_all_right_1 [12])) aNil))) (gN 4))
  tl__law_all_right_1)))
noncomputable def bd__law_all_right : EvSt := (sSeq (sPar (pV (eV (eCall ev__law_draw (aIo 0 (aV (eV (eC (.int 500))) aNil)))) (pF (eLstF eNilV) pNil)) [8, 9])
  (sSeq (sFor (iR1 (eBin oAdd (eC (.int 2)) (eCall ev__law_draw (aIo 0 (aV (eV (eC (.int 5))) aNil))))) (gN 1) fb__law_all_right_0)
  (sSeq (sIf (eT (eBin oEq (eCall ev__law_draw (aIo 0 (aV (eV (eC (.int 3))) aNil))) (eC (.int 0)))) (sIns 9 (eCall ev__law_draw (aIo 0 (aV (eV (eBin oAdd (eCB oLen (eCons (eVar 9) eNil)) (eC (.int 1)))) aNil))) (eV (eCall ev__law_class (aIo 0 (aV (eV (eC (.int 12))) aNil))))) sSkip)
  tl__law_all_right_2)))
noncomputable def ev__law_all_right : Fn := ar 1 (eFn 14 bd__law_all_right)
theorem ok__law_all_right {P : Program} {w : World} {K : PySem.W.Frag} {mg : Str → Option Value} {base : Heap} (D : Def K mg "_law_all_right" (topS 43) ["pot"]) (c__law_draw : Cal P w K mg base 2 "_law_draw" (topS 35) ["pot", "many"] ev__law_draw) (m_range : mg "range" = none) (m_int : mg "int" = none) (m_len : mg "len" = none) (c__law_class : Cal P w K mg base 3 "_law_class" (topS 40) ["pot", "most"] ev__law_class) (c__law_do_meet : Cal P w K mg base 3 "_law_do_meet" (topS 41) ["one", "other"] ev__law_do_meet) (c__law_multiple_all : Cal P w K mg base 3 "_law_multiple_all" (topS 39) ["numbers"] ev__law_multiple_all) (m_any : mg "any" = none) (c_shared_by_all : Cal P w K mg base 6 "shared_by_all" (topS 29) ["classes"] ev_shared_by_all) (c__law_mixed : Cal P w K mg base 3 "_law_mixed" (topS 37) ["pot", "some"] ev__law_mixed) (m_tuple : mg "tuple" = none) (c_apart : Cal P w K mg base 6 "apart" (topS 30) ["classes"] ev_apart) :
    Cal P w K mg base 7 "_law_all_right" (topS 43) ["pot"] ev__law_all_right := D.cal sc__law_all_right fun f cdv A outer s H E hr => ⟨_,
    (bcons (sparT (pval (XE.v (xcall c__law_draw (hr.mono (by decide)) (aio 0 (aval (XE.v xint) anil)))) (pfre (flst xl_nil) pnil)) (ncons sc__law_all_right.nd (ncons sc__law_all_right.nd nnil)))
    (bcons (sfor PassesOwn.never (irange1 m_range (xadd xint (xcall c__law_draw (hr.mono (by decide)) (aio 0 (aval (XE.v xint) anil))))) (gname sc__law_all_right.nd) (bcons (sset sc__law_all_right.nd (XE.v (xadd xint (xcall c__law_draw (hr.mono (by decide)) (aio 0 (aval (XE.v xint) anil))))))
    (bone (sapp (pv 9) (XE.v (xtup (xl_cons (XE.v (xv 10)) (xl_cons (XE.v (xcty b_int m_int PyProof.Rows.boot_int (xa_cons (xmod (xv 8) (xv 10)) xa_nil))) xl_nil))))))))
    (bcons (sif (tcmp (c_eq hr) (xcall c__law_draw (hr.mono (by decide)) (aio 0 (aval (XE.v xint) anil))) xint) (bone (sins (pv 9) (xcall c__law_draw (hr.mono (by decide)) (aio 0 (aval (XE.v (xadd (xcb b_len m_len PySem.boot_len (xa_cons (xv 9) xa_nil)) xint)) anil))) (XE.v (xcall c__law_class (hr.mono (by decide)) (aio 0 (aval (XE.v xint) anil)))))) bnil)
    (bcons (snew sc__law_all_right.nd (flst xl_nil))
    (bcons (sfor PassesOwn.never (irange1 m_range (xcb b_len m_len PySem.boot_len (xa_cons (xv 9) xa_nil))) (gname sc__law_all_right.nd) (bone (sext (pv 2) (XF.e (flc [("far", 13)] sc__law_all_right.nd (irange2 m_range (xadd (xv 3) xint) (xcb b_len m_len PySem.boot_len (xa_cons (xv 9) xa_nil))) (blkOk_by (by first | (show blkC ["pot", "turn", "pairs", "near", "every", "numbers", "due", "told", "beat", "some", "period", "at", "one", "far"] (defScope (topS 43)) _ _ = true; decide +kernel) | exact Eq.refl true)) (fun _ _ _ _ _ => (wname sc__law_all_right.nd)) (fun _ _ _ _ _ => (tsone (tnot (ttru (xcall c__law_do_meet (hr.mono (by decide)) (aval (XE.v (xix (xv 9) (xv 3))) (aval (XE.v (xix (xv 9) (xv 13))) anil))))))) (fun _ _ _ _ _ => (XE.v (xtup (xl_cons (XE.v (xv 3)) (xl_cons (XE.v (xv 13)) xl_nil))))) (s0 := s) (H0 := H))))))
    (bcons (sset sc__law_all_right.nd (XE.v (xcall c__law_multiple_all (hr.mono (by decide)) (aval (XF.v (flc [("one", 12)] sc__law_all_right.nd (iseq (XE.v (xv 9))) (blkOk_by (by first | (show blkC ["pot", "turn", "pairs", "near", "every", "numbers", "due", "told", "beat", "some", "period", "at", "one", "far"] (defScope (topS 43)) _ _ = true; decide +kernel) | exact Eq.refl true)) (fun _ _ _ _ _ => (wname sc__law_all_right.nd)) (fun _ _ _ _ _ => tsnil) (fun _ _ _ _ _ => (XE.v (xix (xv 12) xint))) (s0 := s) (H0 := H))) anil))))
    (bcons (ssetLc [("at", 11)] sc__law_all_right.nd (irange1 m_range (xv 4)) (blkOk_by (by first | (show blkC ["pot", "turn", "pairs", "near", "every", "numbers", "due", "told", "beat", "some", "period", "at", "one", "far"] (defScope (topS 43)) _ _ = true; decide +kernel) | exact Eq.refl true)) (fun _ _ _ _ _ => (wname sc__law_all_right.nd)) (fun _ _ _ _ _ => (tsone (tnot (ttru (xcb b_any m_any PyProof.Rows.boot_any (xa_cons (XF.e (flc [("one", 12)] sc__law_all_right.nd (iseq (XE.v (xv 9))) (blkOk_by (by first | (show blkC ["pot", "turn", "pairs", "near", "every", "numbers", "due", "told", "beat", "some", "period", "at", "one", "far"] (defScope (topS 43)) _ _ = true; decide +kernel) | exact Eq.refl true)) (fun _ _ _ _ _ => (wname sc__law_all_right.nd)) (fun _ _ _ _ _ => tsnil) (fun _ _ _ _ _ => (XE.v (xcmp (c_ne hr) (xcty b_int m_int PyProof.Rows.boot_int (xa_cons (xmod (xsub (xv 11) (xix (xv 12) xint)) (xix (xv 12) xint)) xa_nil)) xint))) (s0 := s) (H0 := H))) xa_nil)))))) (fun _ _ _ _ _ => (XE.v (xv 11))) (s0 := s) (H0 := H))
    (bcons (sif (tbo (wor (tcmp (c_ne hr) (xcmp (c_eq hr) (xv 5) (xlst xl_nil)) (xcmp (c_ne hr) (xv 2) (xlst xl_nil))) (wor1 (tcmp c_gt (xcb b_len m_len PySem.boot_len (xa_cons (xv 5) xa_nil)) xint)))) (bone (sret (XE.v xbl))) bnil)
    (bcons (sset sc__law_all_right.nd (XE.v (xif (tcmp (c_ne hr) (xv 5) (xlst xl_nil)) (xtup (xl_cons (XE.v (xv 4)) (xl_cons (XE.v (xix (xv 5) xint)) xl_nil))) xnon)))
    (bcons (sset sc__law_all_right.nd (XE.v (xlst (xl_cons (XE.v (xcall c_shared_by_all (hr.mono (by decide)) (aval (XE.v (xv 9)) anil))) (xl_cons (XE.v (xcallK0 c_shared_by_all (hr.mono (by decide)) kwb_shared_by_all_3 (kval (XE.v (xcty b_tuple m_tuple PyProof.Rows.boot_tuple (xa_cons (xv 9) xa_nil))) knil))) (xl_cons (XE.v (xcall c_shared_by_all (hr.mono (by decide)) (aval (XE.v (xcall c__law_mixed (hr.mono (by decide)) (aio 0 (aval (XE.v (xv 9)) anil)))) anil))) xl_nil))))))
    (bone (sret (XE.v (xand (xcmp (c_eq hr) (xv 7) (xmul (xlst (xl_cons (XE.v (xv 6)) xl_nil)) xint)) (xone (xcmp (c_eq hr) (xlst (xl_cons (XE.v (xcall c_apart (hr.mono (by decide)) (aval (XE.v (xv 9)) anil))) (xl_cons (XE.v (xcallK0 c_apart (hr.mono (by decide)) kwb_apart_4 (kval (XE.v (xcty b_tuple m_tuple PyProof.Rows.boot_tuple (xa_cons (xv 9) xa_nil))) knil))) xl_nil))) (xmul (xlst (xl_cons (XE.v (xif (tcmp (c_ne hr) (xv 2) (xlst xl_nil)) (xix (xv 2) xint) xnon)) xl_nil)) xint)))))))))))))))))⟩
/-! ### _law_great_right(pot): slots 0 pot, 1 due, 2 told, 3 beat, 4 late, 5 step, 6 near, 7 far, 8 one, 9 other -/
theorem sc__law_great_right : FnScope ["pot", "due", "told", "beat", "late", "step", "near", "far", "one", "other"] ["pot"] (defScope (topS 44)) := ⟨rfl, rfl, rfl, by decide +kernel, rfl, by decide +kernel, by decide +kernel⟩
noncomputable def tl__law_great_right_0 : EvSt := (sSeq (sIf (eOrT (eT (eBin oNe (eBin oIx (eVar 2) (eC (.int 0))) (eCall ev__law_multiple_all (aV (eV (eLst (eConsV (eV (eBin oIx (eVar 8) (eC (.int 0)))) (eConsV (eV (eBin oIx (eVar 9) (eC (.int 0)))) eNilV)))) aNil)))) (eOrT (eNotT (eT (eChain oLe oLt (eC (.int 0)) (eBin oIx (eVar 2) (eC (.int 1))) (eBin oIx (eVar 2) (eC (.int 0)))))) (eOrT (eT (eBin oNe (eCB oInt (eCons (eBin oMod (eBin oSub (eBin oIx (eVar 2) (eC (.int 1))) (eBin oIx (eVar 8) (eC (.int 1)))) (eBin oIx (eVar 8) (eC (.int 0)))) eNil)) (eC (.int 0)))) (eT (eBin oNe (eCB oInt (eCons (eBin oMod (eBin oSub (eBin oIx (eVar 2) (eC (.int 1))) (eBin oIx (eVar 9) (eC (.int 1)))) (eBin oIx (eVar 9) (eC (.int 0)))) eNil)) (eC (.int 0))))))) (sRet (eV (eC (.bool false)))) sSkip)
  (sSeq (sAsg (eV (eCall ev__law_pick (aIo 0 (aV (eV (eLst (eConsV (eV (eBin oPow (eC (.int 10)) (eC (.int 20)))) (eConsV (eV (eBin oAdd (eBin oPow (eC (.int 10)) (eC (.int 29))) (eC (.int 7)))) (eConsV (eV (eBin oIx (eVar 2) (eC (.int 1)))) (eConsV (eV (eBin oAdd (eBin oIx (eVar 2) (eC (.int 1))) (eC (.int 1)))) eNilV)))))) aNil)))) (gN 3))
  (sSeq (sAsg (eV (eCall ev_first_meeting (aV (eV (eVar 8)) (aV (eV (eVar 9)) (aV (eV (eVar 3)) aNil))))) (gN 4))
  (sRet (eV (eAnd (eChain oLe oLt (eVar 3) (eVar 4) (eBin oAdd (eVar 3) (eBin oIx (eVar 2) (eC (.int 0))))) (eBin oEq (eCB oInt (eCons (eBin oMod (eBin oSub (eVar 4) (eBin oIx (eVar 2) (eC (.int 1)))) (eBin oIx (eVar 2) (eC (.int 0)))) eNil)) (eC (.int 0)))))))))
noncomputable def tl__law_great_right_1 : EvSt := (sSeq (sAsg (eV (eCall ev_shared (aV (eV (eVar 8)) (aV (eV (eVar 9)) aNil)))) (gN 2))
  (sSeq (sIf (eT (eBin oNe (eLst (eConsV (eV (eCall ev_do_meet (aV (eV (eVar 8)) (aV (eV (eVar 9)) aNil)))) (eConsV (eV (eBin oIsNot (eVar 2) (eC .none))) eNilV))) (eLst (eConsV (eV (eVar 1)) (eConsV (eV (eVar 1)) eNilV))))) (sRet (eV (eC (.bool false)))) sSkip)
  (sSeq (sIf (eT (eBin oIs (eVar 2) (eC .none))) (sRet (eV (eBin oIs (eCall ev_first_meeting (aV (eV (eVar 8)) (aV (eV (eVar 9)) (aV (eV (eBin oPow (eC (.int 10)) (eC (.int 20)))) aNil)))) (eC .none)))) sSkip)
  tl__law_great_right_0)))
noncomputable def bd__law_great_right : EvSt := (sSeq (sPar (pV (eV (eBin oAdd (eC (.int 1)) (eCall ev__law_draw (aIo 0 (aV (eV (eC (.int 30000))) aNil))))) (pV (eV (eBin oAdd (eC (.int 1)) (eCall ev__law_draw (aIo 0 (aV (eV (eC (.int 30000))) aNil))))) (pV (eV (eBin oAdd (eC (.int 1)) (eCall ev__law_draw (aIo 0 (aV (eV (eC (.int 30000))) aNil))))) pNil))) [5, 6, 7])
  (sSeq (sPar (pV (eV (eTup (eConsV (eV (eBin oMul (eVar 5) (eVar 6))) (eConsV (eV (eCall ev__law_draw (aIo 0 (aV (eV (eBin oMul (eVar 5) (eVar 6))) aNil)))) eNilV)))) (pV (eV (eTup (eConsV (eV (eBin oMul (eVar 5) (eVar 7))) (eConsV (eV (eCall ev__law_draw (aIo 0 (aV (eV (eBin oMul (eVar 5) (eVar 7))) aNil)))) eNilV)))) pNil)) [8, 9])
  (sSeq (sAsg (eV (eCall ev__law_do_meet (aV (eV (eVar 8)) (aV (eV (eVar 9)) aNil)))) (gN 1))
  tl__law_great_right_1)))
noncomputable def ev__law_great_right : Fn := ar 1 (eFn 10 bd__law_great_right)
theorem ok__law_great_right {P : Program} {w : World} {K : PySem.W.Frag} {mg : Str → Option Value} {base : Heap} (D : Def K mg "_law_great_right" (topS 44) ["pot"]) (c__law_draw : Cal P w K mg base 2 "_law_draw" (topS 35) ["pot", "many"] ev__law_draw) (c__law_do_meet : Cal P w K mg base 3 "_law_do_meet" (topS 41) ["one", "other"] ev__law_do_meet) (c_shared : Cal P w K mg base 7 "shared" (topS 28) ["cls", "other"] ev_shared) (c_do_meet : Cal P w K mg base 7 "do_meet" (topS 27) ["cls", "other"] ev_do_meet) (c_first_meeting : Cal P w K mg base 7 "first_meeting" (topS 31) ["cls", "other", "beat"] ev_first_meeting) (c__law_multiple_all : Cal P w K mg base 3 "_law_multiple_all" (topS 39) ["numbers"] ev__law_multiple_all) (m_int : mg "int" = none) (c__law_pick : Cal P w K mg base 3 "_law_pick" (topS 36) ["pot", "some"] ev__law_pick) :
    Cal P w K mg base 8 "_law_great_right" (topS 44) ["pot"] ev__law_great_right := D.cal sc__law_great_right fun f cdv A outer s H E hr => ⟨_,
    (bcons (spar3 sc__law_great_right.nd (pval (XE.v (xadd xint (xcall c__law_draw (hr.mono (by decide)) (aio 0 (aval (XE.v xint) anil))))) (pval (XE.v (xadd xint (xcall c__law_draw (hr.mono (by decide)) (aio 0 (aval (XE.v xint) anil))))) (pval (XE.v (xadd xint (xcall c__law_draw (hr.mono (by decide)) (aio 0 (aval (XE.v xint) anil))))) pnil))))
    (bcons (spar2 sc__law_great_right.nd (pval (XE.v (xtup (xl_cons (XE.v (xmul (xv 5) (xv 6))) (xl_cons (XE.v (xcall c__law_draw (hr.mono (by decide)) (aio 0 (aval (XE.v (xmul (xv 5) (xv 6))) anil)))) xl_nil)))) (pval (XE.v (xtup (xl_cons (XE.v (xmul (xv 5) (xv 7))) (xl_cons (XE.v (xcall c__law_draw (hr.mono (by decide)) (aio 0 (aval (XE.v (xmul (xv 5) (xv 7))) anil)))) xl_nil)))) pnil)))
    (bcons (sset sc__law_great_right.nd (XE.v (xcall c__law_do_meet (hr.mono (by decide)) (aval (XE.v (xv 8)) (aval (XE.v (xv 9)) anil)))))
    (bcons (sset sc__law_great_right.nd (XE.v (xcall c_shared (hr.mono (by decide)) (aval (XE.v (xv 8)) (aval (XE.v (xv 9)) anil)))))
    (bcons (sif (tcmp (c_ne hr) (xlst (xl_cons (XE.v (xcall c_do_meet (hr.mono (by decide)) (aval (XE.v (xv 8)) (aval (XE.v (xv 9)) anil)))) (xl_cons (XE.v (xcmp c_isNot (xv 2) xnon)) xl_nil))) (xlst (xl_cons (XE.v (xv 1)) (xl_cons (XE.v (xv 1)) xl_nil)))) (bone (sret (XE.v xbl))) bnil)
    (bcons (sif (tcmp c_is (xv 2) xnon) (bone (sret (XE.v (xcmp c_is (xcall c_first_meeting (hr.mono (by decide)) (aval (XE.v (xv 8)) (aval (XE.v (xv 9)) (aval (XE.v (xpow xint xint)) anil)))) xnon)))) bnil)
    (bcons (sif (tbo (wor (tcmp (c_ne hr) (xix (xv 2) xint) (xcall c__law_multiple_all (hr.mono (by decide)) (aval (XE.v (xlst (xl_cons (XE.v (xix (xv 8) xint)) (xl_cons (XE.v (xix (xv 9) xint)) xl_nil)))) anil))) (wor (tnot (tchain c_le c_lt xint (xix (xv 2) xint) (xix (xv 2) xint))) (wor (tcmp (c_ne hr) (xcty b_int m_int PyProof.Rows.boot_int (xa_cons (xmod (xsub (xix (xv 2) xint) (xix (xv 8) xint)) (xix (xv 8) xint)) xa_nil)) xint) (wor1 (tcmp (c_ne hr) (xcty b_int m_int PyProof.Rows.boot_int (xa_cons (xmod (xsub (xix (xv 2) xint) (xix (xv 9) xint)) (xix (xv 9) xint)) xa_nil)) xint)))))) (bone (sret (XE.v xbl))) bnil)
    (bcons (sset sc__law_great_right.nd (XE.v (xcall c__law_pick (hr.mono (by decide)) (aio 0 (aval (XE.v (xlst (xl_cons (XE.v (xpow xint xint)) (xl_cons (XE.v (xadd (xpow xint xint) xint)) (xl_cons (XE.v (xix (xv 2) xint)) (xl_cons (XE.v (xadd (xix (xv 2) xint) xint)) xl_nil)))))) anil)))))
    (bcons (sset sc__law_great_right.nd (XE.v (xcall c_first_meeting (hr.mono (by decide)) (aval (XE.v (xv 8)) (aval (XE.v (xv 9)) (aval (XE.v (xv 3)) anil))))))
    (bone (sret (XE.v (xand (xchain c_le c_lt (xv 3) (xv 4) (xadd (xv 3) (xix (xv 2) xint))) (xone (xcmp (c_eq hr) (xcty b_int m_int PyProof.Rows.boot_int (xa_cons (xmod (xsub (xv 4) (xix (xv 2) xint)) (xix (xv 2) xint)) xa_nil)) xint)))))))))))))))⟩
/-! ### _law_right(pot): slots 0 pot, 1 odds, 2 one, 3 other, 4 odd -/
theorem sc__law_right : FnScope ["pot", "odds", "one", "other", "odd"] ["pot"] (defScope (topS 45)) := ⟨rfl, rfl, rfl, by decide +kernel, rfl, by decide +kernel, by decide +kernel⟩
noncomputable def ce__law_right_0 : EvS := (eV (eCall ev_is_wide (aV (eV (eVar 4)) aNil)))
noncomputable def tl__law_right_0 : EvSt := (sSeq (sIf (eOrT (eT (eBin oNe (eFe (eLc (iSeq (eV (eVar 1))) (gN 4) eYes ce__law_right_0 [4])) (eBin oMul (eLst (eConsV (eV (eC (.bool false))) eNilV)) (eCB oLen (eCons (eVar 1) eNil))))) (eT (eBin oIsNot (eCall ev_is_wide (aV (eV (eTup (eConsV (eV (eBin oPow (eC (.int 10)) (eC (.int 25)))) (eConsV (eV (eBin oPow (eC (.int 10)) (eC (.int 24)))) eNilV)))) aNil)) (eC (.bool true))))) (sRet (eV (eC (.bool false)))) sSkip)
  (sRet (eV (eAnd (eCall ev__law_all_right (aIo 0 aNil)) (eAnd (eCall ev__law_great_right (aIo 0 aNil)) (eCall ev__law_great_right (aIo 0 aNil)))))))
noncomputable def bd__law_right : EvSt := (sSeq (sPar (pV (eV (eCall ev__law_class (aIo 0 (aV (eV (eC (.int 30))) aNil)))) (pV (eV (eCall ev__law_class (aIo 0 (aV (eV (eC (.int 30))) aNil)))) pNil)) [2, 3])
  (sSeq (sIf (eOrT (eNotT (eTru (eCall ev__law_pair_right (aIo 0 (aV (eV (eVar 2)) (aV (eV (eVar 3)) aNil)))))) (eNotT (eTru (eCall ev__law_pair_right (aIo 0 (aV (eV (eVar 2)) (aV (eV (eTup (eConsV (eV (eBin oIx (eVar 3) (eC (.int 0)))) (eConsV (eV (eCB oInt (eCons (eBin oMod (eBin oIx (eVar 2) (eC (.int 1))) (eBin oIx (eVar 3) (eC (.int 0)))) eNil))) eNilV)))) aNil))))))) (sRet (eV (eC (.bool false)))) sSkip)
  (sSeq (sAsg (eV (eLst (eConsV (eV (eTup (eConsV (eV (eC (.int 0))) (eConsV (eV (eC (.int 0))) eNilV)))) (eConsV (eV (eTup (eConsV (eV (eC (.int 3))) (eConsV (eV (eC (.int 3))) eNilV)))) (eConsV (eV (eTup (eConsV (eV (eC (.int 3))) (eConsV (eV (eUn oNeg (eC (.int 1)))) eNilV)))) (eConsV (eV (eLst (eConsV (eV (eC (.int 3))) (eConsV (eV (eC (.int 1))) eNilV)))) (eConsV (eV (eTup (eConsV (eV (eC (.int 3))) eNilV))) (eConsV (eV (eC .none)) (eConsV (eV (eTup (eConsV (eV (eC (.bool true))) (eConsV (eV (eC (.int 0))) eNilV)))) (eConsV (eV (eTup (eConsV (eV (eC (.int 3))) (eConsV (eV (eC (.bool false))) eNilV)))) (eConsV (eV (eTup (eConsV (eV (eC (.int 3))) (eConsV (eV (eC (.int 1))) (eConsV (eV (eC (.int 0))) eNilV))))) (eConsV (eV (eC (.str (Str.ofString "ab")))) eNilV)))))))))))) (gN 1))
  tl__law_right_0)))
noncomputable def ev__law_right : Fn := ar 1 (eFn 5 bd__law_right)
theorem ok__law_right {P : Program} {w : World} {K : PySem.W.Frag} {mg : Str → Option Value} {base : Heap} (D : Def K mg "_law_right" (topS 45) ["pot"]) (c__law_class : Cal P w K mg base 3 "_law_class" (topS 40) ["pot", "most"] ev__law_class) (c__law_pair_right : Cal P w K mg base 8 "_law_pair_right" (topS 42) ["pot", "one", "other"] ev__law_pair_right) (m_int : mg "int" = none) (c_is_wide : Cal P w K mg base 3 "is_wide" (topS 32) ["value"] ev_is_wide) (m_len : mg "len" = none) (c__law_all_right : Cal P w K mg base 7 "_law_all_right" (topS 43) ["pot"] ev__law_all_right) (c__law_great_right : Cal P w K mg base 8 "_law_great_right" (topS 44) ["pot"] ev__law_great_right) :
    Cal P w K mg base 9 "_law_right" (topS 45) ["pot"] ev__law_right := D.cal sc__law_right fun f cdv A outer s H E hr => ⟨_,
    (bcons (spar2 sc__law_right.nd (pval (XE.v (xcall c__law_class (hr.mono (by decide)) (aio 0 (aval (XE.v xint) anil)))) (pval (XE.v (xcall c__law_class (hr.mono (by decide)) (aio 0 (aval (XE.v xint) anil)))) pnil)))
    (bcons (sif (tbo (wor (tnot (ttru (xcall c__law_pair_right (hr.mono (by decide)) (aio 0 (aval (XE.v (xv 2)) (aval (XE.v (xv 3)) anil)))))) (wor1 (tnot (ttru (xcall c__law_pair_right (hr.mono (by decide)) (aio 0 (aval (XE.v (xv 2)) (aval (XE.v (xtup (xl_cons (XE.v (xix (xv 3) xint)) (xl_cons (XE.v (xcty b_int m_int PyProof.Rows.boot_int (xa_cons (xmod (xix (xv 2) xint) (xix (xv 3) xint)) xa_nil))) xl_nil)))) anil))))))))) (bone (sret (XE.v xbl))) bnil)
    (bcons (sset sc__law_right.nd (XE.v (xlst (xl_cons (XE.v (xtup (xl_cons (XE.v xint) (xl_cons (XE.v xint) xl_nil)))) (xl_cons (XE.v (xtup (xl_cons (XE.v xint) (xl_cons (XE.v xint) xl_nil)))) (xl_cons (XE.v (xtup (xl_cons (XE.v xint) (xl_cons (XE.v (xneg xint)) xl_nil)))) (xl_cons (XE.v (xlst (xl_cons (XE.v xint) (xl_cons (XE.v xint) xl_nil)))) (xl_cons (XE.v (xtup (xl_cons (XE.v xint) xl_nil))) (xl_cons (XE.v xnon) (xl_cons (XE.v (xtup (xl_cons (XE.v xbl) (xl_cons (XE.v xint) xl_nil)))) (xl_cons (XE.v (xtup (xl_cons (XE.v xint) (xl_cons (XE.v xbl) xl_nil)))) (xl_cons (XE.v (xtup (xl_cons (XE.v xint) (xl_cons (XE.v xint) (xl_cons (XE.v xint) xl_nil))))) (xl_cons (XE.v xstr) xl_nil)))))))))))))
    (bcons (sif (tbo (wor (tcmp (c_ne hr) (XF.e (flc [("odd", 4)] sc__law_right.nd (iseq (XE.v (xv 1))) (blkOk_by (by first | (show blkC ["pot", "odds", "one", "other", "odd"] (defScope (topS 45)) _ _ = true; decide +kernel) | exact Eq.refl true)) (fun _ _ _ _ _ => (wname sc__law_right.nd)) (fun _ _ _ _ _ => tsnil) (fun _ _ _ _ _ => (XE.v (xcall c_is_wide (hr.mono (by decide)) (aval (XE.v (xv 4)) anil)))) (s0 := s) (H0 := H))) (xmul (xlst (xl_cons (XE.v xbl) xl_nil)) (xcb b_len m_len PySem.boot_len (xa_cons (xv 1) xa_nil)))) (wor1 (tcmp c_isNot (xcall c_is_wide (hr.mono (by decide)) (aval (XE.v (xtup (xl_cons (XE.v (xpow xint xint)) (xl_cons (XE.v (xpow xint xint)) xl_nil)))) anil)) xbl)))) (bone (sret (XE.v xbl))) bnil)
    (bone (sret (XE.v (xand (xcall c__law_all_right (hr.mono (by decide)) (aio 0 anil)) (xand (xcall c__law_great_right (hr.mono (by decide)) (aio 0 anil)) (xone (xcall c__law_great_right (hr.mono (by decide)) (aio 0 anil))))))))))))⟩
/-! ### _law_pot, law -/
theorem sc__law_pot : FnScope ["script", "k", "cell"] ["script", "k"] (defScope (topS 34)) := ⟨rfl, rfl, rfl, by decide +kernel, rfl, by decide +kernel, by decide +kernel⟩
theorem ok__law_pot {P : Program} {w : World} {K : PySem.W.Frag} {mg : Str → Option Value} {base : Heap} (D : Def K mg "_law_pot" (topS 34) ["script", "k"]) (m_len : mg "len" = none) (m_abs : mg "abs" = none) (m_int : mg "int" = none) (m_max : mg "max" = none) :
    CalS P w K mg base 2 "_law_pot" (topS 34) ["script", "k"] (spPot K) := D.calS sc__law_pot spPot_len fun f cdv A outer s H vs Q E hr h => ⟨_,
    ((bcons (sset sc__law_pot.nd (XE.v (xif (tcmp c_lt (xv 1) (xcb b_len m_len PySem.boot_len (xa_cons (xv 0) xa_nil))) (xcb b_abs m_abs PyProof.Rows.boot_abs (xa_cons (xix (xv 0) (xv 1)) xa_nil)) (xadd (xmul xint (xv 1)) xint))))
    (bone (sret (XE.v (xlst (xl_cons (XE.v (xcb b_max m_max PyProof.Rows.boot_max (xa_cons xint (xa_cons (xsub (xv 2) (xpow xint xint)) xa_nil)))) (xl_cons (XE.v (xadd (xmod (xcty b_int m_int PyProof.Rows.boot_int (xa_cons (xadd (xadd (xmul (xmod (xcty b_int m_int PyProof.Rows.boot_int (xa_cons (xv 2) xa_nil)) xint) xint) (xmul xint (xv 1))) xint) xa_nil)) xint) xint)) xl_nil)))))))).ps, pot_sem (a := 8244) (b := 1094) (m := 41509) (s := 734) (t := 1094) (by decide) h⟩
theorem sc_law : FnScope ["script", "k"] ["script"] (defScope (topS 46)) := ⟨rfl, rfl, rfl, by decide +kernel, rfl, by decide +kernel, by decide +kernel⟩
theorem ok_law {P : Program} {w : World} {K : PySem.W.Frag} {mg : Str → Option Value} {base : Heap} {fa : Addr} {fd : FuncData} (F : Fun K "law" "law" (topS 46) fa fd) (c__law_right : Cal P w K mg base 9 "_law_right" (topS 45) ["pot"] ev__law_right) (c__law_pot : CalS P w K mg base 2 "_law_pot" (topS 34) ["script", "k"] (spPot K)) (m_range : mg "range" = none) (m_len : mg "len" = none) (m_min : mg "min" = none) (m_max : mg "max" = none) (m_all : mg "all" = none) (hR : Right ev__law_right) :
    FnOk P w K mg base CX0 10 fa fd ["script"] (spLaw K) := by
  have c__law_right := c__law_right.s
  exact F.ok sc_law spLaw_len fun cdv A outer s H vs Q E hr h => ⟨_,
    pss_one (ps_ret (pe_callB (cr_all rfl) (by rfl) m_all PyProof.Rows.boot_all (pa_cons (pe_lc rfl sc_law.nd (irange1 m_range (xcb b_max m_max PyProof.Rows.boot_max (xa_cons xint (xa_cons (xcb b_min m_min PyProof.Rows.boot_min (xa_cons xint (xa_cons (xcb b_len m_len PySem.boot_len (xa_cons (xv 0) xa_nil)) xa_nil))) xa_nil)))).pi (own := [("k", 1)]) (blkOk_by (by show blkC ["script", "k"] (defScope (topS 46)) _ _ = true; decide +kernel)) (fun _ _ _ _ _ => pg_name (i := 1) sc_law.nd rfl (Or.inl rfl)) (fun _ _ _ _ _ => pts_nil) (fun _ _ _ _ _ => (pcall c__law_right hr (pa_cons (pcall c__law_pot (hr.mono (by decide)) (pa_cons (pv 0) (pa_cons (pv 1) pa_nil))) pa_nil)))) pa_nil))), lawA_sem hR h⟩
theorem all_ok {P : Program} {w : World} {K : PySem.W.Frag} {mg : Str → Option Value} {base : Heap} {fa : Addr} {fd : FuncData} (F : Fun K "law" "law" (topS 46) fa fd) (D_is_integer : Def K mg "is_integer" (topS 10) ["value"]) (D_is_count : Def K mg "is_count" (topS 11) ["value"]) (D_is_period : Def K mg "is_period" (topS 12) ["value"]) (D_is_beat : Def K mg "is_beat" (topS 13) ["value"]) (D_is_class : Def K mg "is_class" (topS 14) ["value"]) (D_check_beat : Def K mg "check_beat" (topS 15) ["beat"]) (D_check_class : Def K mg "check_class" (topS 16) ["cls"]) (D_check_classes : Def K mg "check_classes" (topS 17) ["cls", "other"]) (D_common_of : Def K mg "common_of" (topS 18) ["numbers"]) (D_inverse_of : Def K mg "inverse_of" (topS 19) ["number", "rest"]) (D_next_in : Def K mg "next_in" (topS 22) ["cls", "beat"]) (D_check_some : Def K mg "check_some" (topS 23) ["classes"]) (D_do_meet_in : Def K mg "do_meet_in" (topS 24) ["one", "other"]) (D_cut_down : Def K mg "cut_down" (topS 25) ["one", "other"]) (D_do_meet : Def K mg "do_meet" (topS 27) ["cls", "other"]) (D_shared : Def K mg "shared" (topS 28) ["cls", "other"]) (D_shared_by_all : Def K mg "shared_by_all" (topS 29) ["classes"]) (D_apart : Def K mg "apart" (topS 30) ["classes"]) (D_first_meeting : Def K mg "first_meeting" (topS 31) ["cls", "other", "beat"]) (D_is_wide : Def K mg "is_wide" (topS 32) ["value"]) (D__law_draw : Def K mg "_law_draw" (topS 35) ["pot", "many"]) (D__law_pick : Def K mg "_law_pick" (topS 36) ["pot", "some"]) (D__law_mixed : Def K mg "_law_mixed" (topS 37) ["pot", "some"]) (D__law_common : Def K mg "_law_common" (topS 38) ["one", "other"]) (D__law_multiple_all : Def K mg "_law_multiple_all" (topS 39) ["numbers"]) (D__law_class : Def K mg "_law_class" (topS 40) ["pot", "most"]) (D__law_do_meet : Def K mg "_law_do_meet" (topS 41) ["one", "other"]) (D__law_pair_right : Def K mg "_law_pair_right" (topS 42) ["pot", "one", "other"]) (D__law_all_right : Def K mg "_law_all_right" (topS 43) ["pot"]) (D__law_great_right : Def K mg "_law_great_right" (topS 44) ["pot"]) (D__law_right : Def K mg "_law_right" (topS 45) ["pot"]) (D__law_pot : Def K mg "_law_pot" (topS 34) ["script", "k"]) (m_len : mg "len" = none) (m_abs : mg "abs" = none) (m_int : mg "int" = none) (m_max : mg "max" = none) (m_range : mg "range" = none) (m_min : mg "min" = none) (m_all : mg "all" = none) (m_isinstance : mg "isinstance" = none) (m_bool : mg "bool" = none) (n_MOST_PERIOD : ∃ t, mg "MOST_PERIOD" = some (.int 1000000000 t)) (n_MOST_BEAT : ∃ t, mg "MOST_BEAT" = some (.int 999999999999999999999999999999 t)) (m_tuple : mg "tuple" = none) (g_gcd : mg "gcd" = some (.builtin "math.gcd")) (m_list : mg "list" = none) (n_MOST_CLASSES : ∃ t, mg "MOST_CLASSES" = some (.int 400 t)) (m_divmod : mg "divmod" = none) (m_any : mg "any" = none) (hR : Right ev__law_right) : FnOk P w K mg base CX0 10 fa fd ["script"] (spLaw K) := by
  have c_is_integer : Cal P w K mg base 2 "is_integer" (topS 10) ["value"] ev_is_integer := ok_is_integer D_is_integer m_isinstance m_int m_bool
  have c_is_count : Cal P w K mg base 3 "is_count" (topS 11) ["value"] ev_is_count := ok_is_count D_is_count c_is_integer
  have c_is_period : Cal P w K mg base 3 "is_period" (topS 12) ["value"] ev_is_period := ok_is_period D_is_period c_is_integer n_MOST_PERIOD
  have c_is_beat : Cal P w K mg base 4 "is_beat" (topS 13) ["value"] ev_is_beat := ok_is_beat D_is_beat c_is_count n_MOST_BEAT
  have c_is_class : Cal P w K mg base 4 "is_class" (topS 14) ["value"] ev_is_class := ok_is_class D_is_class m_isinstance m_tuple m_len c_is_period c_is_count
  have c_check_beat : Cal P w K mg base 5 "check_beat" (topS 15) ["beat"] ev_check_beat := ok_check_beat D_check_beat c_is_beat
  have c_check_class : Cal P w K mg base 5 "check_class" (topS 16) ["cls"] ev_check_class := ok_check_class D_check_class c_is_class
  have c_check_classes : Cal P w K mg base 6 "check_classes" (topS 17) ["cls", "other"] ev_check_classes := ok_check_classes D_check_classes c_check_class c_is_class
  have c_common_of : Cal P w K mg base 2 "common_of" (topS 18) ["numbers"] ev_common_of := ok_common_of D_common_of g_gcd
  have c_inverse_of : Cal P w K mg base 2 "inverse_of" (topS 19) ["number", "rest"] ev_inverse_of := ok_inverse_of D_inverse_of
  have c_next_in : Cal P w K mg base 2 "next_in" (topS 22) ["cls", "beat"] ev_next_in := ok_next_in D_next_in
  have c_check_some : Cal P w K mg base 5 "check_some" (topS 23) ["classes"] ev_check_some := ok_check_some D_check_some m_isinstance m_tuple m_list m_len n_MOST_CLASSES c_is_class m_all
  have c_do_meet_in : Cal P w K mg base 3 "do_meet_in" (topS 24) ["one", "other"] ev_do_meet_in := ok_do_meet_in D_do_meet_in c_common_of
  have c_cut_down : Cal P w K mg base 3 "cut_down" (topS 25) ["one", "other"] ev_cut_down := ok_cut_down D_cut_down c_common_of c_inverse_of
  have c_do_meet : Cal P w K mg base 7 "do_meet" (topS 27) ["cls", "other"] ev_do_meet := ok_do_meet D_do_meet c_check_classes c_do_meet_in
  have c_shared : Cal P w K mg base 7 "shared" (topS 28) ["cls", "other"] ev_shared := ok_shared D_shared c_check_classes c_do_meet_in c_cut_down
  have c_shared_by_all : Cal P w K mg base 6 "shared_by_all" (topS 29) ["classes"] ev_shared_by_all := ok_shared_by_all D_shared_by_all c_check_some c_do_meet_in c_cut_down
  have c_apart : Cal P w K mg base 6 "apart" (topS 30) ["classes"] ev_apart := ok_apart D_apart c_check_some m_range m_len c_do_meet_in
  have c_first_meeting : Cal P w K mg base 7 "first_meeting" (topS 31) ["cls", "other", "beat"] ev_first_meeting := ok_first_meeting D_first_meeting c_check_classes c_check_beat c_do_meet_in c_next_in c_cut_down
  have c_is_wide : Cal P w K mg base 3 "is_wide" (topS 32) ["value"] ev_is_wide := ok_is_wide D_is_wide m_isinstance m_tuple m_len c_is_integer
  have c__law_draw : Cal P w K mg base 2 "_law_draw" (topS 35) ["pot", "many"] ev__law_draw := ok__law_draw D__law_draw m_divmod m_int
  have c__law_pick : Cal P w K mg base 3 "_law_pick" (topS 36) ["pot", "some"] ev__law_pick := ok__law_pick D__law_pick c__law_draw m_len
  have c__law_mixed : Cal P w K mg base 3 "_law_mixed" (topS 37) ["pot", "some"] ev__law_mixed := ok__law_mixed D__law_mixed m_list m_range m_len c__law_draw
  have c__law_common : Cal P w K mg base 2 "_law_common" (topS 38) ["one", "other"] ev__law_common := ok__law_common D__law_common m_int
  have c__law_multiple_all : Cal P w K mg base 3 "_law_multiple_all" (topS 39) ["numbers"] ev__law_multiple_all := ok__law_multiple_all D__law_multiple_all c__law_common
  have c__law_class : Cal P w K mg base 3 "_law_class" (topS 40) ["pot", "most"] ev__law_class := ok__law_class D__law_class c__law_draw
  have c__law_do_meet : Cal P w K mg base 3 "_law_do_meet" (topS 41) ["one", "other"] ev__law_do_meet := ok__law_do_meet D__law_do_meet c__law_common m_int
  have c__law_pair_right : Cal P w K mg base 8 "_law_pair_right" (topS 42) ["pot", "one", "other"] ev__law_pair_right := ok__law_pair_right D__law_pair_right c__law_multiple_all m_range m_int c_do_meet c_shared m_len c__law_draw m_max c_first_meeting c_is_wide
  have c__law_all_right : Cal P w K mg base 7 "_law_all_right" (topS 43) ["pot"] ev__law_all_right := ok__law_all_right D__law_all_right c__law_draw m_range m_int m_len c__law_class c__law_do_meet c__law_multiple_all m_any c_shared_by_all c__law_mixed m_tuple c_apart
  have c__law_great_right : Cal P w K mg base 8 "_law_great_right" (topS 44) ["pot"] ev__law_great_right := ok__law_great_right D__law_great_right c__law_draw c__law_do_meet c_shared c_do_meet c_first_meeting c__law_multiple_all m_int c__law_pick
  have c__law_right : Cal P w K mg base 9 "_law_right" (topS 45) ["pot"] ev__law_right := ok__law_right D__law_right c__law_class c__law_pair_right m_int c_is_wide m_len c__law_all_right c__law_great_right
  exact ok_law F c__law_right (ok__law_pot D__law_pot m_len m_abs m_int m_max) m_range m_len m_min m_max m_all hR
end XL

namespace XL
/-! ### common measures, classes -/
def gc (a b : Int) : Int := ((Nat.gcd a.natAbs b.natAbs : Nat) : Int)
def lc (a b : Int) : Int := ((Nat.lcm a.natAbs b.natAbs : Nat) : Int)
theorem gc_l (a b : Int) : gc a b ∣ a := Int.gcd_dvd_left ..
theorem gc_r (a b : Int) : gc a b ∣ b := Int.gcd_dvd_right ..
theorem dvd_gc {d a b : Int} (h1 : d ∣ a) (h2 : d ∣ b) : d ∣ gc a b := Int.dvd_coe_gcd h1 h2
theorem gc_pos {a b : Int} (h : 0 < a) : 0 < gc a b := by
  have h1 : 0 < a.natAbs := by omega
  have := Nat.gcd_pos_of_pos_left b.natAbs h1
  unfold gc
  omega
theorem gc_pos' {a b : Int} (h : 0 < b) : 0 < gc a b := by
  have h1 : 0 < b.natAbs := by omega
  have := Nat.gcd_pos_of_pos_right a.natAbs h1
  unfold gc
  omega
theorem gc_nonneg (a b : Int) : 0 ≤ gc a b := by unfold gc; omega
theorem gc_comm (a b : Int) : gc a b = gc b a := by unfold gc; rw [Nat.gcd_comm]
theorem lc_comm (a b : Int) : lc a b = lc b a := by unfold lc; rw [Nat.lcm_comm]
theorem dvd_anti {a b : Int} (ha : 0 ≤ a) (hb : 0 ≤ b) (h1 : a ∣ b) (h2 : b ∣ a) : a = b := Int.dvd_antisymm ha hb h1 h2
theorem gc_mod (a b : Int) : gc b (a % b) = gc a b := by
  refine dvd_anti (gc_nonneg _ _) (gc_nonneg _ _) (dvd_gc ?_ (gc_l _ _)) (dvd_gc (gc_r _ _) ?_)
  · have h := Int.emod_add_mul_ediv a b
    have h2 : gc b (a % b) ∣ a % b + b * (a / b) := Int.dvd_add (gc_r _ _) (Int.dvd_mul_of_dvd_left (gc_l _ _))
    rwa [h] at h2
  · have h := Int.emod_def a b
    rw [h]
    exact Int.dvd_sub (gc_l _ _) (Int.dvd_mul_of_dvd_left (gc_r _ _))
theorem gc_zero {a : Int} (h : 0 ≤ a) : gc a 0 = a := by
  unfold gc
  rw [show (0 : Int).natAbs = 0 from rfl, Nat.gcd_zero_right]
  omega
theorem lc_l (a b : Int) : a ∣ lc a b := by
  have := Nat.dvd_lcm_left a.natAbs b.natAbs
  exact Int.natAbs_dvd.mp (Int.natCast_dvd_natCast.mpr this)
theorem lc_r (a b : Int) : b ∣ lc a b := by rw [lc_comm]; exact lc_l b a
theorem lc_dvd {a b m : Int} (h1 : a ∣ m) (h2 : b ∣ m) : lc a b ∣ m := by
  have h1' : a.natAbs ∣ m.natAbs := Int.natAbs_dvd_natAbs.mpr h1
  have h2' : b.natAbs ∣ m.natAbs := Int.natAbs_dvd_natAbs.mpr h2
  exact Int.dvd_natAbs.mp (Int.natCast_dvd_natCast.mpr (Nat.lcm_dvd h1' h2'))
theorem lc_pos {a b : Int} (ha : 0 < a) (hb : 0 < b) : 0 < lc a b := by
  have := Nat.lcm_pos (show 0 < a.natAbs by omega) (show 0 < b.natAbs by omega)
  unfold lc
  omega
theorem lc_ediv {a b : Int} (ha : 0 ≤ a) (hb : 0 ≤ b) : a * b / gc a b = lc a b := by
  obtain ⟨m, rfl⟩ := Int.eq_ofNat_of_zero_le ha
  obtain ⟨n, rfl⟩ := Int.eq_ofNat_of_zero_le hb
  unfold gc lc Nat.lcm
  rw [Int.natAbs_natCast, Int.natAbs_natCast]
  rfl
theorem lc_cut {a b : Int} (ha : 0 ≤ a) (hb : 0 ≤ b) : a * (b / gc a b) = lc a b := by
  rw [← lc_ediv ha hb, Int.mul_ediv_assoc _ (gc_r a b)]
theorem lc_le {a b : Int} (ha : 0 < a) (hb : 0 < b) : lc a b ≤ a * b := Int.le_of_dvd (Int.mul_pos ha hb) (lc_dvd (Int.dvd_mul_right a b) (Int.dvd_mul_left a b))
/-- gcd and lcm: what both measures with b and c divide, the measure with their multiple divides -/
theorem gc_lc {a b c t : Int} (hb : 0 < b) (h1 : gc a b ∣ t) (h2 : gc a c ∣ t) : gc a (lc b c) ∣ t := by
  have key : ∀ a b c t : Nat, 0 < b → Nat.gcd a b ∣ t → Nat.gcd a c ∣ t → Nat.gcd a (Nat.lcm b c) ∣ t := by
    intro a b c t hb h1 h2
    obtain ⟨d, hd⟩ : ∃ d, d = Nat.gcd b c := ⟨_, rfl⟩
    have hd0 : 0 < d := by rw [hd]; exact Nat.gcd_pos_of_pos_left _ hb
    obtain ⟨b', hb'⟩ : d ∣ b := hd ▸ Nat.gcd_dvd_left b c
    obtain ⟨c', hc'⟩ : d ∣ c := hd ▸ Nat.gcd_dvd_right b c
    have hco : Nat.gcd b' c' = 1 := by
      have h := Nat.gcd_mul_left d b' c'
      rw [← hb', ← hc', ← hd] at h
      have : d * 1 = d * Nat.gcd b' c' := by rw [Nat.mul_one]; exact h
      exact (Nat.eq_of_mul_eq_mul_left hd0 this).symm
    have hl : Nat.lcm b c = b' * c := by
      unfold Nat.lcm
      rw [← hd]
      refine Nat.div_eq_of_eq_mul_left hd0 ?_
      rw [hb', Nat.mul_comm d b', Nat.mul_assoc, Nat.mul_comm d c, ← Nat.mul_assoc]
    have hl2 : Nat.lcm b c = c' * b := by
      rw [hl, hc', hb']
      rw [← Nat.mul_assoc, Nat.mul_comm b' d, Nat.mul_comm, ]
    have g1 : Nat.gcd a (Nat.lcm b c) ∣ b' * t := by
      have e1 : Nat.gcd a (Nat.lcm b c) ∣ b' * a := Nat.dvd_trans (Nat.gcd_dvd_left _ _) (Nat.dvd_mul_left _ _)
      have e2 : Nat.gcd a (Nat.lcm b c) ∣ b' * c := hl ▸ Nat.gcd_dvd_right _ _
      have e3 := Nat.dvd_gcd e1 e2
      rw [Nat.gcd_mul_left] at e3
      exact Nat.dvd_trans e3 (Nat.mul_dvd_mul_left _ h2)
    have g2 : Nat.gcd a (Nat.lcm b c) ∣ c' * t := by
      have e1 : Nat.gcd a (Nat.lcm b c) ∣ c' * a := Nat.dvd_trans (Nat.gcd_dvd_left _ _) (Nat.dvd_mul_left _ _)
      have e2 : Nat.gcd a (Nat.lcm b c) ∣ c' * b := hl2 ▸ Nat.gcd_dvd_right _ _
      have e3 := Nat.dvd_gcd e1 e2
      rw [Nat.gcd_mul_left] at e3
      exact Nat.dvd_trans e3 (Nat.mul_dvd_mul_left _ h1)
    have := Nat.dvd_gcd g1 g2
    rw [Nat.gcd_mul_right, hco, Nat.one_mul] at this
    exact this
  have h1' : Nat.gcd a.natAbs b.natAbs ∣ t.natAbs := Int.natAbs_dvd_natAbs.mpr h1
  have h2' : Nat.gcd a.natAbs c.natAbs ∣ t.natAbs := Int.natAbs_dvd_natAbs.mpr h2
  have := key a.natAbs b.natAbs c.natAbs t.natAbs (by omega) h1' h2'
  exact Int.dvd_natAbs.mp (Int.natCast_dvd_natCast.mpr this)
/-! ### two classes -/
def Cls (p r : Int) : Prop := 0 < p ∧ 0 ≤ r ∧ r < p
theorem meet_gc {p r q s x : Int} (h1 : p ∣ x - r) (h2 : q ∣ x - s) : gc p q ∣ r - s := by
  have a := Int.dvd_trans (gc_l p q) h1
  have b := Int.dvd_trans (gc_r p q) h2
  have := Int.dvd_sub b a
  rwa [show x - s - (x - r) = r - s by omega] at this
theorem mod_dvd (x m : Int) : m ∣ x % m - x := by
  rw [Int.emod_def]
  exact ⟨-(x / m), by rw [Int.mul_neg]; omega⟩
/-- the common class's first beat, by an inverse i of p/g to q/g -/
theorem crt {p r q s i : Int} (hp : 0 < p) (hq : 0 < q) (hm : gc p q ∣ r - s) (hi : q / gc p q ∣ p / gc p q * i - 1) :
    let c := (r + p * ((s - r) / gc p q * i % (q / gc p q))) % lc p q
    0 ≤ c ∧ c < lc p q ∧ p ∣ c - r ∧ q ∣ c - s := by
  intro c
  have hg := gc_pos (b := q) hp
  have hl := lc_pos hp hq
  have hl2 := lc_cut (Int.le_of_lt hp) (Int.le_of_lt hq)
  obtain ⟨g, hgd⟩ : ∃ g, g = gc p q := ⟨_, rfl⟩
  rw [← hgd] at hg hi hm hl2
  have cd : c = (r + p * ((s - r) / g * i % (q / g))) % lc p q := by rw [hgd]
  obtain ⟨p', ep⟩ : g ∣ p := hgd ▸ gc_l p q
  obtain ⟨q', eq⟩ : g ∣ q := hgd ▸ gc_r p q
  obtain ⟨t, et⟩ := hm
  have e1 : p / g = p' := by rw [ep, Int.mul_ediv_cancel_left _ (by omega)]
  have e2 : q / g = q' := by rw [eq, Int.mul_ediv_cancel_left _ (by omega)]
  have e3 : (s - r) / g = -t := by
    rw [show s - r = g * -t by rw [Int.mul_neg]; omega, Int.mul_ediv_cancel_left _ (by omega)]
  rw [e1, e2] at hi
  rw [e2] at hl2
  rw [e2, e3] at cd
  obtain ⟨u, hu⟩ : ∃ u, u = -t * i % q' := ⟨_, rfl⟩
  rw [← hu] at cd
  have hd := mod_dvd (r + p * u) (lc p q)
  rw [← cd] at hd
  refine ⟨by rw [cd]; exact Int.emod_nonneg _ (by omega), by rw [cd]; exact Int.emod_lt_of_pos _ hl, ?_, ?_⟩
  · have := Int.dvd_add (Int.dvd_trans (lc_l p q) hd) (Int.dvd_mul_right p u)
    rwa [show c - (r + p * u) + p * u = c - r by omega] at this
  · have h4 : q ∣ r + p * u - s := by
      have h5 : q' ∣ p' * u + t := by
        have h6 := Int.emod_def (-t * i) q'
        rw [← hu] at h6
        have h7 : p' * u + t = q' * (-(p' * (-t * i / q'))) - (p' * i - 1) * t := by
          rw [h6, Int.mul_sub, Int.sub_mul, Int.one_mul, Int.mul_neg, Int.neg_mul, Int.mul_neg, Int.mul_left_comm p' q', Int.mul_right_comm p' i t, Int.mul_assoc p' t i]
          omega
        rw [h7]
        exact Int.dvd_sub (Int.dvd_mul_right _ _) (Int.dvd_mul_of_dvd_left hi)
      have h8 := Int.mul_dvd_mul_left g h5
      rw [← eq] at h8
      rwa [show g * (p' * u + t) = r + p * u - s by rw [Int.mul_add, ← et, ← Int.mul_assoc, ← ep]; omega] at h8
    have := Int.dvd_add (Int.dvd_trans (lc_r p q) hd) h4
    rwa [show c - (r + p * u) + (r + p * u - s) = c - s by omega] at this
theorem lc_uniq {p r q s x y : Int} (h1 : p ∣ x - r) (h2 : q ∣ x - s) (h3 : p ∣ y - r) (h4 : q ∣ y - s) : lc p q ∣ x - y := by
  refine lc_dvd ?_ ?_
  · have := Int.dvd_sub h1 h3
    rwa [show x - r - (y - r) = x - y by omega] at this
  · have := Int.dvd_sub h2 h4
    rwa [show x - s - (y - s) = x - y by omega] at this
theorem cls_eq {m x y : Int} (hx : 0 ≤ x) (hx2 : x < m) (hy : 0 ≤ y) (hy2 : y < m) (h : m ∣ x - y) : x = y := by
  obtain ⟨k, hk⟩ := h
  have : k = 0 := by
    rcases Int.lt_trichotomy k 0 with h | h | h
    · have := Int.mul_le_mul_of_nonneg_left (show k ≤ -1 by omega) (show 0 ≤ m by omega)
      rw [Int.mul_neg, Int.mul_one] at this
      omega
    · exact h
    · have := Int.mul_le_mul_of_nonneg_left (show 1 ≤ k by omega) (show 0 ≤ m by omega)
      rw [Int.mul_one] at this
      omega
  subst this
  omega

open Classical in
noncomputable def mid (p r q s : Int) : Int := if h : ∃ c, (0 ≤ c ∧ c < lc p q) ∧ p ∣ c - r ∧ q ∣ c - s then h.choose else 0
theorem mid_eq {p r q s c : Int} (h : 0 ≤ c ∧ c < lc p q ∧ p ∣ c - r ∧ q ∣ c - s) : mid p r q s = c := by
  have hx : ∃ c, (0 ≤ c ∧ c < lc p q) ∧ p ∣ c - r ∧ q ∣ c - s := ⟨c, ⟨h.1, h.2.1⟩, h.2.2⟩
  unfold mid
  rw [dif_pos hx]
  have hs := hx.choose_spec
  exact cls_eq hs.1.1 hs.1.2 h.1 h.2.1 (lc_uniq hs.2.1 hs.2.2 h.2.2.1 h.2.2.2)
end XL

namespace XL
open PySem PySem.Spec L2
abbrev cl (p r : Int) : PyData := .tuple [.int p, .int r]
theorem do_is_integer (d : PyData) : ev_is_integer [.va d] = .ok (.bool (tyD d == "int"), []) := by
  cases d <;> simp (implicitDefEqProofs := false) [ev_is_integer, bd_is_integer]
theorem do_is_count (i : Int) : ev_is_count [.va (.int i)] = .ok (.bool (decide (0 ≤ i)), []) := by
  simp (implicitDefEqProofs := false) [ev_is_count, bd_is_count, do_is_integer]
theorem do_is_period (i : Int) : ev_is_period [.va (.int i)] = .ok (.bool (decide (1 ≤ i ∧ i ≤ 1000000000)), []) := by
  simp (implicitDefEqProofs := false) [ev_is_period, bd_is_period, do_is_integer]
  split <;> simp (implicitDefEqProofs := false) [*]
theorem do_is_beat (i : Int) (h : 0 ≤ i) (h2 : i ≤ 999999999999999999999999999999) : ev_is_beat [.va (.int i)] = .ok (.bool true, []) := by
  simp (implicitDefEqProofs := false) [ev_is_beat, bd_is_beat, do_is_count, h, h2]
theorem do_is_class {p r : Int} (h : Cls p r) (h2 : p ≤ 1000000000) : ev_is_class [.va (cl p r)] = .ok (.bool true, []) := by
  obtain ⟨h0, h3, h4⟩ := h
  simp (implicitDefEqProofs := false) [ev_is_class, bd_is_class, do_is_count, do_is_period, h0, h2, h3, h4, show 1 ≤ p by omega]
theorem do_check_beat (i : Int) (h : 0 ≤ i) (h2 : i ≤ 999999999999999999999999999999) : ev_check_beat [.va (.int i)] = .ok (.none, []) := by
  simp (implicitDefEqProofs := false) [ev_check_beat, bd_check_beat, do_is_beat i h h2]
theorem do_check_class {p r : Int} (h : Cls p r) (h2 : p ≤ 1000000000) : ev_check_class [.va (cl p r)] = .ok (.none, []) := by
  simp (implicitDefEqProofs := false) [ev_check_class, bd_check_class, do_is_class h h2]
theorem do_check_classes {p r q s : Int} (h : Cls p r) (h2 : p ≤ 1000000000) (h3 : Cls q s) (h4 : q ≤ 1000000000) : ev_check_classes [.va (cl p r), .va (cl q s)] = .ok (.none, []) := by
  simp (implicitDefEqProofs := false) [ev_check_classes, bd_check_classes, do_check_class h h2, do_is_class h3 h4]
theorem do_common_of (a b : Int) : ev_common_of [.va (.list [.int a, .int b])] = .ok (.int (gc a b), []) := by
  simp (implicitDefEqProofs := false) [ev_common_of, bd_common_of, fb_common_of_0, forD_nil, forD_cons]
  rfl
theorem do_next_in (p r b : Int) (hp : 0 < p) : ev_next_in [.va (cl p r), .va (.int b)] = .ok (.int (if b ≤ r then r else b + (r - b) % p), []) := by
  simp (implicitDefEqProofs := false) [ev_next_in, bd_next_in, hp]
  split <;> simp (implicitDefEqProofs := false) [*]
theorem do_do_meet_in {p r q s : Int} (hp : 0 < p) : ev_do_meet_in [.va (cl p r), .va (cl q s)] = .ok (.bool (decide (gc p q ∣ r - s)), []) := by
  simp (implicitDefEqProofs := false) [ev_do_meet_in, bd_do_meet_in, do_common_of, gc_pos hp, Int.dvd_iff_emod_eq_zero]
  rfl
def atInt (i : Nat) (env : En) : Nat := match env[i]? with
  | some (.va (.int k)) => k.toNat
  | _ => 0
theorem sm12 {x : Int} (h : -(10 ^ 30) ≤ x) (h2 : x ≤ 10 ^ 30) : -BIG < x ∧ x < BIG := Sm.of (by omega)
theorem do_inverse_of {n r : Int} (hr : 0 < r) (hr2 : r ≤ 10 ^ 12) (hg : gc n r = 1) : ∃ x, ev_inverse_of [.va (.int n), .va (.int r)] = .ok (.int x, []) ∧ r ∣ n * x - 1 ∧ 0 ≤ x ∧ x < r := by
  let I : En → Prop := fun env => ∃ near far one other L, env = [.va (.int n), .va (.int r), .va (.int near), .va (.int far), .va (.int one), .va (.int other), L] ∧ (L = .em ∨ ∃ d, L = .va d) ∧
    0 ≤ near ∧ near < far ∧ far ≤ r ∧ gc far near = 1 ∧ (∃ u, near = one * n + r * u) ∧ (∃ u, far = other * n + r * u) ∧ (∃ a b, 0 ≤ a ∧ 0 ≤ b ∧ -a ≤ one ∧ one ≤ a ∧ -b ≤ other ∧ other ≤ b ∧ a * far + b * near ≤ r ∧ b ≤ r)
  let Fin : En → Prop := fun env => ∃ near far one other L, env = [.va (.int n), .va (.int r), .va (.int near), .va (.int far), .va (.int one), .va (.int other), L] ∧ r ∣ n * other - 1
  have hstep : ∀ env, I env → ∃ b env1, wc_inverse_of_0 env = .ok (b, env1) ∧ (b = false → Fin env1) ∧ (b = true → ∃ env2, wb_inverse_of_0 env1 = .ok (.nx, env2) ∧ I env2 ∧ atInt 2 env2 < atInt 2 env) := by
    rintro env ⟨near, far, one, other, L, rfl, hL, k1, k2, k3, k4, ⟨u, k5⟩, ⟨v, k6⟩, a, b, ha, hb, o1, o2, o3, o4, o5, o6⟩
    have k2' : 0 < far := by omega
    by_cases hn : 0 < near
    · refine ⟨true, _, by simp (implicitDefEqProofs := false) [wc_inverse_of_0, hn]; rfl, fun z => (nomatch z), fun _ => ?_⟩
      obtain ⟨t, ht⟩ : ∃ t, t = far / near := ⟨_, rfl⟩
      have t0 : 0 ≤ t := by rw [ht]; exact Int.ediv_nonneg (Int.le_of_lt k2') k1
      have t1 : t ≤ far := by rw [ht]; exact Int.ediv_le_self _ (Int.le_of_lt k2')
      have hm : far - t * near = far % near := by rw [Int.emod_def, ht, Int.mul_comm]
      have m0 : 0 ≤ far - t * near := by rw [hm]; exact Int.emod_nonneg _ (by omega)
      have m1 : far - t * near < near := by rw [hm]; exact Int.emod_lt_of_pos _ hn
      have af : a ≤ a * far := by
        have := Int.mul_le_mul_of_nonneg_left (show 1 ≤ far by omega) ha
        omega
      have bn : b ≤ b * near := by
        have := Int.mul_le_mul_of_nonneg_left (show 1 ≤ near by omega) hb
        omega
      have b0 : 0 ≤ b * near := Int.mul_nonneg hb k1
      have ta0 : 0 ≤ t * a := Int.mul_nonneg t0 ha
      have to1 : t * one ≤ t * a := Int.mul_le_mul_of_nonneg_left o2 t0
      have to2 : -(t * a) ≤ t * one := by
        have := Int.mul_le_mul_of_nonneg_left o1 t0
        rwa [Int.mul_neg] at this
      have key : (b + t * a) * near + a * (far - t * near) = a * far + b * near := by
        rw [Int.add_mul, Int.mul_sub, Int.mul_assoc, Int.mul_left_comm t a near]
        omega
      have af0 : 0 ≤ a * (far - t * near) := Int.mul_nonneg ha m0
      have bt : b + t * a ≤ (b + t * a) * near := by
        have := Int.mul_le_mul_of_nonneg_left (show 1 ≤ near by omega) (show 0 ≤ b + t * a by omega)
        omega
      refine ⟨[.va (.int n), .va (.int r), .va (.int (far - t * near)), .va (.int near), .va (.int (other - t * one)), .va (.int one), .va (.int t)], ?_, ⟨_, _, _, _, _, rfl, .inr ⟨_, rfl⟩, m0, m1, ?_, ?_, ?_, ⟨u, k5⟩, b + t * a, a, by omega, ha, by omega, by omega, o1, o2, by omega, by omega⟩, ?_⟩
      · have q1 := sm12 (x := t) (by omega) (by omega)
        have q2 := sm12 (x := near) (by omega) (by omega)
        have q3 := sm12 (x := one) (by omega) (by omega)
        rcases hL with rfl | ⟨d, rfl⟩ <;> simp (implicitDefEqProofs := false) [wb_inverse_of_0, hn, q1, q2, q3, q2.2, ← ht]
      · omega
      · rw [hm, gc_mod]
        exact k4
      · refine ⟨v - t * u, ?_⟩
        rw [Int.sub_mul, Int.mul_sub, Int.mul_assoc, ← Int.mul_left_comm t r u]
        have : t * near = t * (one * n) + t * (r * u) := by rw [← Int.mul_add, ← k5]
        omega
      · show (far - t * near).toNat < near.toNat
        omega
    · have : near = 0 := by omega
      subst this
      refine ⟨false, _, by simp (implicitDefEqProofs := false) [wc_inverse_of_0], fun _ => ⟨0, far, one, other, L, rfl, ?_⟩, fun z => (nomatch z)⟩
      rw [gc_zero (Int.le_of_lt k2')] at k4
      exact ⟨-v, by rw [Int.mul_neg, Int.mul_comm n other]; omega⟩
  have h0 : I [.va (.int n), .va (.int r), .va (.int (n % r)), .va (.int r), .va (.int 1), .va (.int 0), .em] := by
    refine ⟨n % r, r, 1, 0, .em, rfl, .inl rfl, Int.emod_nonneg _ (by omega), Int.emod_lt_of_pos _ hr, Int.le_refl _, by rw [gc_mod]; exact hg, ⟨-(n / r), ?_⟩, ⟨1, by omega⟩, 1, 0, by decide, by decide, by decide, by decide, by decide, by decide, by omega, by omega⟩
    rw [Int.emod_def, Int.mul_neg]
    omega
  obtain ⟨e', h1, near, far, one, other, L, rfl, hd⟩ := while_rule I (atInt 2) Fin hstep _ h0
  refine ⟨other % r, by simp (implicitDefEqProofs := false) [ev_inverse_of, bd_inverse_of, hr, h1], ?_, Int.emod_nonneg _ (by omega), Int.emod_lt_of_pos _ hr⟩
  have h3 : r ∣ n * (other % r - other) := Int.dvd_mul_of_dvd_right (mod_dvd other r)
  have h4 := Int.dvd_add h3 hd
  rwa [show n * (other % r - other) + (n * other - 1) = n * (other % r) - 1 by rw [Int.mul_sub]; omega] at h4
theorem gc_cut {p q : Int} (hp : 0 < p) (hq : 0 < q) : gc (p / gc p q) (q / gc p q) = 1 := by
  obtain ⟨m, rfl⟩ := Int.eq_ofNat_of_zero_le (Int.le_of_lt hp)
  obtain ⟨n, rfl⟩ := Int.eq_ofNat_of_zero_le (Int.le_of_lt hq)
  have hm : 0 < m := by omega
  have e1 : ((m : Int) / gc m n) = ((m / Nat.gcd m n : Nat) : Int) := by unfold gc; rw [Int.natAbs_natCast, Int.natAbs_natCast]; rfl
  have e2 : ((n : Int) / gc m n) = ((n / Nat.gcd m n : Nat) : Int) := by unfold gc; rw [Int.natAbs_natCast, Int.natAbs_natCast]; rfl
  rw [e1, e2]
  unfold gc
  rw [Int.natAbs_natCast, Int.natAbs_natCast, Nat.gcd_div (Nat.gcd_dvd_left m n) (Nat.gcd_dvd_right m n), Nat.div_self (Nat.gcd_pos_of_pos_left n hm)]
  rfl
theorem mid_ok {p r q s : Int} (hp : 0 < p) (hq : 0 < q) (hq2 : q ≤ 10 ^ 12) (hm : gc p q ∣ r - s) : 0 ≤ mid p r q s ∧ mid p r q s < lc p q ∧ p ∣ mid p r q s - r ∧ q ∣ mid p r q s - s := by
  have hg := gc_pos (b := q) hp
  have hq' : 0 < q / gc p q := Int.ediv_pos_of_pos_of_dvd hq (Int.le_of_lt hg) (gc_r p q)
  obtain ⟨x, h1, h2, x0, x1⟩ := do_inverse_of (n := p / gc p q) (r := q / gc p q) hq' (Int.le_trans (Int.ediv_le_self _ (Int.le_of_lt hq)) hq2) (gc_cut hp hq)
  have := crt hp hq hm h2
  rw [mid_eq this]
  exact this
theorem do_cut_down {p r q s : Int} (hp : 0 < p) (hp2 : p ≤ 10 ^ 25) (hr : 0 ≤ r) (hr2 : r < p) (hs : 0 ≤ s) (hs2 : s < q) (hq : 0 < q) (hq2 : q ≤ 10 ^ 12) (hm : gc p q ∣ r - s) :
    ev_cut_down [.va (cl p r), .va (cl q s)] = .ok (cl (lc p q) (mid p r q s), []) := by
  have hg := gc_pos (b := q) hp
  have hg2 : gc p q ≤ q := Int.le_of_dvd hq (gc_r p q)
  have hq' : 0 < q / gc p q := Int.ediv_pos_of_pos_of_dvd hq (Int.le_of_lt hg) (gc_r p q)
  have hq3 : q / gc p q ≤ q := Int.ediv_le_self _ (Int.le_of_lt hq)
  obtain ⟨x, h1, h2, x0, x1⟩ := do_inverse_of (n := p / gc p q) (r := q / gc p q) hq' (by omega) (gc_cut hp hq)
  have h3 := mid_eq (crt hp hq hm h2)
  have d1 : -p ≤ (s - r) / gc p q := by
    have := Int.le_ediv_of_mul_le hg (a := -p) (b := s - r) (by
      have := Int.mul_le_mul_of_nonneg_left (show 1 ≤ gc p q by omega) (show 0 ≤ p by omega)
      rw [Int.neg_mul]
      omega)
    exact this
  have d2 : (s - r) / gc p q ≤ q := by
    refine Int.le_trans (Int.ediv_le_ediv hg (show s - r ≤ q by omega)) hq3
  have u0 := Int.emod_nonneg ((s - r) / gc p q * x) (show q / gc p q ≠ 0 by omega)
  have u1 := Int.emod_lt_of_pos ((s - r) / gc p q * x) hq'
  have l0 := lc_cut (Int.le_of_lt hp) (Int.le_of_lt hq)
  have l1 := lc_pos hp hq
  simp (implicitDefEqProofs := false) [ev_cut_down, bd_cut_down, tl_cut_down_0, do_common_of, h1, hg, hq', sm12 (x := gc p q) (by omega) (by omega), sm12 (x := (s - r) / gc p q) (by omega) (by omega), sm12 (x := x) (by omega) (by omega), sm12 (x := p) (by omega) (by omega), sm12 (x := q / gc p q) (by omega) (by omega),
    sm12 (x := (s - r) / gc p q * x % (q / gc p q)) (by omega) (by omega), (sm12 (x := gc p q) (by omega) (by omega)).2, l0, l1, h3]
def meets (p r q s : Int) : Bool := decide (gc p q ∣ r - s)
noncomputable def due (p r q s : Int) : PyData := if gc p q ∣ r - s then cl (lc p q) (mid p r q s) else .none
section
variable {p r q s : Int} (h : Cls p r) (h2 : p ≤ 1000000000) (h3 : Cls q s) (h4 : q ≤ 1000000000)
include h h2 h3 h4
theorem do_do_meet : ev_do_meet [.va (cl p r), .va (cl q s)] = .ok (.bool (decide (gc p q ∣ r - s)), []) := by
  simp (implicitDefEqProofs := false) [ev_do_meet, bd_do_meet, do_check_classes h h2 h3 h4, do_do_meet_in h.1]
theorem do_shared : ev_shared [.va (cl p r), .va (cl q s)] = .ok (due p r q s, []) := by
  unfold due
  by_cases hm : gc p q ∣ r - s
  · simp (implicitDefEqProofs := false) [ev_shared, bd_shared, do_check_classes h h2 h3 h4, do_do_meet_in h.1, hm, do_cut_down h.1 (by omega) h.2.1 h.2.2 h3.2.1 h3.2.2 h3.1 (by omega) hm]
  · simp (implicitDefEqProofs := false) [ev_shared, bd_shared, do_check_classes h h2 h3 h4, do_do_meet_in h.1, hm]
theorem do_first_meeting {b : Int} (hb : 0 ≤ b) (hb2 : b ≤ 999999999999999999999999999999) : ev_first_meeting [.va (cl p r), .va (cl q s), .va (.int b)] = .ok (if gc p q ∣ r - s then .int (if b ≤ mid p r q s then mid p r q s else b + (mid p r q s - b) % lc p q) else .none, []) := by
  by_cases hm : gc p q ∣ r - s
  · simp (implicitDefEqProofs := false) [ev_first_meeting, bd_first_meeting, do_check_classes h h2 h3 h4, do_check_beat b hb hb2, do_do_meet_in h.1, hm, do_cut_down h.1 (by omega) h.2.1 h.2.2 h3.2.1 h3.2.2 h3.1 (by omega) hm, do_next_in _ _ _ (lc_pos h.1 h3.1)]
  · simp (implicitDefEqProofs := false) [ev_first_meeting, bd_first_meeting, do_check_classes h h2 h3 h4, do_check_beat b hb hb2, do_do_meet_in h.1, hm]
end
/-! ### the law's own helpers -/
theorem do_common {a b : Int} (hb : 0 ≤ b) (ha : 0 ≤ a) : ev__law_common [.va (.int a), .va (.int b)] = .ok (.int (gc a b), []) := by
  let I : En → Prop := fun env => ∃ x y, env = [.va (.int x), .va (.int y)] ∧ 0 ≤ x ∧ 0 ≤ y ∧ gc x y = gc a b
  let Fin : En → Prop := fun env => ∃ x y, env = [.va (.int x), .va (.int y)] ∧ x = gc a b
  have hstep : ∀ env, I env → ∃ b env1, wc__law_common_0 env = .ok (b, env1) ∧ (b = false → Fin env1) ∧ (b = true → ∃ env2, wb__law_common_0 env1 = .ok (.nx, env2) ∧ I env2 ∧ atInt 1 env2 < atInt 1 env) := by
    rintro env ⟨x, y, rfl, hx, hy, hg⟩
    by_cases h : 0 < y
    · have m0 := Int.emod_nonneg x (show y ≠ 0 by omega)
      have m1 := Int.emod_lt_of_pos x h
      refine ⟨true, [.va (.int x), .va (.int y)], by simp (implicitDefEqProofs := false) [wc__law_common_0, h], fun z => (nomatch z), fun _ => ⟨[.va (.int y), .va (.int (x % y))], by simp (implicitDefEqProofs := false) [wb__law_common_0, h], ⟨y, x % y, rfl, hy, m0, by rw [gc_mod]; exact hg⟩, ?_⟩⟩
      show (x % y).toNat < y.toNat
      omega
    · have : y = 0 := by omega
      subst this
      refine ⟨false, _, by simp (implicitDefEqProofs := false) [wc__law_common_0], fun _ => ⟨x, 0, rfl, ?_⟩, fun z => (nomatch z)⟩
      rw [← hg, gc_zero hx]
  obtain ⟨e', h1, x, y, rfl, hx⟩ := while_rule I (atInt 1) Fin hstep [.va (.int a), .va (.int b)] ⟨a, b, rfl, ha, hb, rfl⟩
  simp (implicitDefEqProofs := false) [ev__law_common, bd__law_common, h1, hx]
/-- the least common multiple of all -/
def lcs (ns : List Int) : Int := ns.foldl lc 1
theorem do_law_do_meet {p r q s : Int} (hp : 0 < p) (hq : 0 < q) : ev__law_do_meet [.va (cl p r), .va (cl q s)] = .ok (.bool (decide (gc p q ∣ r - s)), []) := by
  simp (implicitDefEqProofs := false) [ev__law_do_meet, bd__law_do_meet, do_common (Int.le_of_lt hq) (Int.le_of_lt hp), gc_pos hp, Int.dvd_iff_emod_eq_zero]
  rfl

theorem lcs_app (ns : List Int) (n : Int) : lcs (ns ++ [n]) = lc (lcs ns) n := by simp (implicitDefEqProofs := false) [lcs, List.foldl_append]
theorem lcs_pos {ns : List Int} (h : ∀ n ∈ ns, 0 < n) : 0 < lcs ns := by
  have key : ∀ (ns : List Int) (a : Int), 0 < a → (∀ n ∈ ns, 0 < n) → 0 < ns.foldl lc a := by
    intro ns
    induction ns with
    | nil => intro a ha _; exact ha
    | cons n ns ih => intro a ha hn; exact ih _ (lc_pos ha (hn n (by simp))) fun m hm => hn m (by simp (implicitDefEqProofs := false) [hm])
  exact key ns 1 (by decide) h
/-- a product that the multiple stays below -/
def pr (ns : List Int) : Int := ns.foldl (· * ·) 1
theorem do_multiple_all {ns : List Int} (h : ∀ n ∈ ns, 0 < n ∧ n ≤ 10 ^ 9) (hb : ∀ i, i ≤ ns.length → lcs (ns.take i) ≤ 10 ^ 30) : ev__law_multiple_all [.va (.list (ns.map .int))] = .ok (.int (lcs ns), []) := by
  have hp : ∀ i, 0 < lcs (ns.take i) := fun i => lcs_pos fun n hn => (h n (List.mem_of_mem_take hn)).1
  obtain ⟨e', h1, L, rfl, hL⟩ := for_rule (g := gN 2) (body := fb__law_multiple_all_0) (ds := ns.map PyData.int) (fun i env => ∃ L : Sl, env = [.va (.list (ns.map .int)), .va (.int (lcs (ns.take i))), L] ∧ (L = .em ∨ ∃ d, L = .va d)) (env := [.va (.list (ns.map .int)), .va (.int 1), .em]) (by
    rintro i d env hd ⟨L, rfl, hL⟩
    rw [List.getElem?_map] at hd
    obtain ⟨n, hn, rfl⟩ := Option.map_eq_some_iff.mp hd
    have hi : i < ns.length := (List.getElem?_eq_some_iff.mp hn).1
    have hn2 := h n (List.mem_of_getElem? hn)
    have h0 := hp i
    have h3 := hb i (Nat.le_of_lt hi)
    have hg := gc_pos (b := n) h0
    have hg2 : gc (lcs (ns.take i)) n ≤ n := Int.le_of_dvd hn2.1 (gc_r _ _)
    have e2 : lcs (ns.take (i + 1)) = lc (lcs (ns.take i)) n := by rw [List.take_add_one, hn]; exact lcs_app _ _
    refine ⟨[.va (.list (ns.map .int)), .va (.int (lcs (ns.take (i + 1)))), .va (.int n)], ?_, _, rfl, .inr ⟨_, rfl⟩⟩
    rw [e2]
    have e3 := lc_ediv (Int.le_of_lt h0) (Int.le_of_lt hn2.1)
    rcases hL with rfl | ⟨d, rfl⟩ <;> simp (implicitDefEqProofs := false) [fb__law_multiple_all_0, do_common (Int.le_of_lt hn2.1) (Int.le_of_lt h0), hg, (sm12 (x := gc (lcs (ns.take i)) n) (by omega) (by omega)).2, sm12 (x := lcs (ns.take i)) (by omega) (by omega), sm12 (x := n) (by omega) (by omega), e3]) ⟨.em, rfl, .inl rfl⟩
  simp (implicitDefEqProofs := false) [ev__law_multiple_all, bd__law_multiple_all, h1]
theorem do_draw {p0 p1 m : Int} (h : Pot p0 p1) (hm : 0 < m) (hm2 : m ≤ 10 ^ 30) : ∃ d q0 q1, ev__law_draw [.io [.int p0, .int p1], .va (.int m)] = .ok (.int d, [[.int q0, .int q1]]) ∧ (0 ≤ d ∧ d < m) ∧ Pot q0 q1 := by
  obtain ⟨h0, h1, h2⟩ := h
  by_cases h : 0 < p0
  · refine ⟨p0 % m, p0 / m, p1, ?_, ⟨Int.emod_nonneg _ (by omega), Int.emod_lt_of_pos _ hm⟩, Int.ediv_nonneg h0 (Int.le_of_lt hm), h1, h2⟩
    simp (implicitDefEqProofs := false) [ev__law_draw, bd__law_draw, h, hm, (sm12 (x := m) (by omega) (by omega)).2]
  · obtain ⟨q, hq⟩ : ∃ q, q = (p1 * 48435 + 310) % 2147483563 := ⟨_, rfl⟩
    have q0 : 0 ≤ q := by rw [hq]; exact Int.emod_nonneg _ (by decide)
    have q1 : q < 2147483563 := by rw [hq]; exact Int.emod_lt_of_pos _ (by decide)
    refine ⟨q * q % 2147483549 / 79 % m, p0, q, ?_, ⟨Int.emod_nonneg _ (by omega), Int.emod_lt_of_pos _ hm⟩, h0, q0, by omega⟩
    simp (implicitDefEqProofs := false) [ev__law_draw, bd__law_draw, h, hm, sm12 (x := p1) (by omega) (by omega), sm12 (x := q) (by omega) (by omega), sm12 (x := 48435) (by omega) (by omega), ← hq, (sm12 (x := 79) (by omega) (by omega)).2]

theorem do_two {p q : Int} (hp : 0 < p) (hp2 : p ≤ 10 ^ 9) (hq : 0 < q) (hq2 : q ≤ 10 ^ 9) : ev__law_multiple_all [.va (.list [.int p, .int q])] = .ok (.int (lc p q), []) := by
  have e1 : lc 1 p = p := by
    refine dvd_anti (Int.le_of_lt (lc_pos (by decide) hp)) (Int.le_of_lt hp) (lc_dvd (Int.one_dvd p) (Int.dvd_refl p)) (lc_r 1 p)
  have e2 : lcs [p, q] = lc p q := by show lc (lc 1 p) q = _; rw [e1]
  rw [← e2]
  refine do_multiple_all (ns := [p, q]) (by intro n hn; simp at hn; omega) fun i hi => ?_
  have h3 := lc_le hp hq
  have h4 : p * q ≤ 10 ^ 9 * 10 ^ 9 := Int.mul_le_mul hp2 hq2 (by omega) (by omega)
  match i with
  | 0 => show (1 : Int) ≤ 10 ^ 30; decide
  | 1 => show lc 1 p ≤ 10 ^ 30; omega
  | n + 2 => rw [List.take_of_length_le (by simp), e2]; omega
theorem do_pick {p0 p1 : Int} {ds : List PyData} (h : Pot p0 p1) (hd : ds ≠ []) (hd2 : ds.length ≤ 1000000) : ∃ d q0 q1, ev__law_pick [.io [.int p0, .int p1], .va (.list ds)] = .ok (d, [[.int q0, .int q1]]) ∧ d ∈ ds ∧ Pot q0 q1 := by
  have hl : 0 < ds.length := List.length_pos_iff.mpr hd
  obtain ⟨i, q0, q1, e, ⟨h0, h1⟩, hp⟩ := do_draw h (m := ds.length) (by omega) (by omega)
  have hi : i.toNat < ds.length := by omega
  have ha : atI ds i = some ds[i.toNat] := by
    have := atI_nat (xs := ds) (j := i.toNat) (List.getElem?_eq_getElem hi)
    rwa [Int.toNat_of_nonneg h0] at this
  exact ⟨ds[i.toNat], q0, q1, by simp (implicitDefEqProofs := false) [ev__law_pick, bd__law_pick, e, ha], List.getElem_mem hi, hp⟩
theorem do_class {p0 p1 m : Int} (h : Pot p0 p1) (hm : 0 < m) (hm2 : m ≤ 10 ^ 9) : ∃ p r q0 q1, ev__law_class [.io [.int p0, .int p1], .va (.int m)] = .ok (cl p r, [[.int q0, .int q1]]) ∧ Cls p r ∧ p ≤ m ∧ Pot q0 q1 := by
  obtain ⟨d, q0, q1, e, ⟨h0, h1⟩, hp⟩ := do_draw h hm (by omega)
  obtain ⟨d2, r0, r1, e2, ⟨h2, h3⟩, hp2⟩ := do_draw hp (m := 1 + d) (by omega) (by omega)
  exact ⟨1 + d, d2, r0, r1, by simp (implicitDefEqProofs := false) [ev__law_class, bd__law_class, e, e2], ⟨by omega, h2, h3⟩, by omega, hp2⟩
theorem do_is_wide (p r : Int) : ev_is_wide [.va (cl p r)] = .ok (.bool (decide (0 ≤ r ∧ r < p)), []) := by
  by_cases h : 0 ≤ r <;> simp (implicitDefEqProofs := false) [ev_is_wide, bd_is_wide, do_is_integer, h]
theorem odds_ok (d : PyData) (h : d ∈ ([.tuple [.int 0, .int 0], .tuple [.int 3, .int 3], .tuple [.int 3, .int (-1)], .list [.int 3, .int 1], .tuple [.int 3], .none, .tuple [.bool true, .int 0], .tuple [.int 3, .bool false], .tuple [.int 3, .int 1, .int 0], .str (Str.ofString "ab")] : List PyData)) :
    ev_is_wide [.va d] = .ok (.bool false, []) := by
  simp only [List.mem_cons, List.not_mem_nil, or_false] at h
  rcases h with rfl | rfl | rfl | rfl | rfl | rfl | rfl | rfl | rfl | rfl <;> simp (implicitDefEqProofs := false) [ev_is_wide, bd_is_wide, do_is_integer]
end XL

namespace XL
open PySem PySem.Spec L2
theorem due_sh (p r q s : Int) : Sh 64 (due p r q s) := by
  unfold due
  split
  · exact (Sh.tuple (n := 0) (by intro x hx; simp at hx; rcases hx with rfl | rfl <;> exact .int _ _)).mono (by decide)
  · exact .none _
theorem sh_two {a b : PyData} (h1 : Sh 60 a) (h2 : Sh 60 b) : Sh 64 (.list [a, b]) := (Sh.list (n := 60) (by intro x hx; simp at hx; rcases hx with rfl | rfl <;> assumption)).mono (by decide)
theorem due_comm {p r q s : Int} (h : Cls p r) (h3 : Cls q s) (hp : p ≤ 10 ^ 9) (hq : q ≤ 10 ^ 9) : due q s p r = due p r q s := by
  unfold due
  have e : (gc q p ∣ s - r) ↔ (gc p q ∣ r - s) := by
    rw [gc_comm, show s - r = -(r - s) by omega, Int.dvd_neg]
  by_cases hm : gc p q ∣ r - s
  · rw [if_pos hm, if_pos (e.mpr hm)]
    obtain ⟨a1, a2, a3, a4⟩ := mid_ok h.1 h3.1 (by omega) hm
    rw [lc_comm q p, mid_eq (p := q) (r := s) (q := p) (s := r) ⟨a1, by rw [lc_comm]; exact a2, a4, a3⟩]
  · rw [if_neg hm, if_neg (fun z => hm (e.mp z))]
/-- the beats of both classes below the multiple -/
def both (p r q s : Int) (m : Nat) : Bool := decide ((((m : Int) - r) % p = 0) ∧ ((m : Int) - s) % q = 0)
theorem both_iff {p r q s : Int} (m : Nat) : both p r q s m = true ↔ p ∣ (m : Int) - r ∧ q ∣ (m : Int) - s := by
  unfold both
  rw [decide_eq_true_iff, Int.dvd_iff_emod_eq_zero, Int.dvd_iff_emod_eq_zero]
theorem numbers_of {p r q s : Int} (h : Cls p r) (h3 : Cls q s) (hq : q ≤ 10 ^ 9) : (List.range (lc p q).toNat).filter (both p r q s) = if gc p q ∣ r - s then [(mid p r q s).toNat] else [] := by
  by_cases hm : gc p q ∣ r - s
  · rw [if_pos hm]
    obtain ⟨a1, a2, a3, a4⟩ := mid_ok h.1 h3.1 (by omega) hm
    refine filter_one (by omega) fun m hlt => ?_
    rw [both_iff]
    constructor
    · rintro ⟨b1, b2⟩
      have := cls_eq (m := lc p q) (x := m) (y := mid p r q s) (by omega) (by omega) a1 a2 (lc_uniq b1 b2 a3 a4)
      omega
    · rintro rfl
      rw [Int.toNat_of_nonneg a1]
      exact ⟨a3, a4⟩
  · rw [if_neg hm]
    refine filter_none fun m _ => ?_
    cases z : both p r q s m with
    | false => rfl
    | true => exact absurd (meet_gc ((both_iff m).mp z).1 ((both_iff m).mp z).2) hm
/-- those from r on -/
def later (r p q s : Int) (m : Nat) : Bool := decide (s ≤ r + (m : Int) * p ∧ (r + (m : Int) * p - s) % q = 0)
theorem beats_of {p r q s : Int} (h : Cls p r) (h3 : Cls q s) (hq : q ≤ 10 ^ 9) : ((List.range (rgN r (lc p q + r) p)).filter (later r p q s) = []) ↔ ¬ gc p q ∣ r - s := by
  have hl := lc_pos h.1 h3.1
  constructor
  · intro e hm
    obtain ⟨a1, a2, a3, a4⟩ := mid_ok h.1 h3.1 (by omega) hm
    obtain ⟨w, hw⟩ : ∃ w, w = (mid p r q s - r) % lc p q := ⟨_, rfl⟩
    have w0 : 0 ≤ w := by rw [hw]; exact Int.emod_nonneg _ (by omega)
    have w1 : w < lc p q := by rw [hw]; exact Int.emod_lt_of_pos _ hl
    have hd : lc p q ∣ w - (mid p r q s - r) := hw ▸ mod_dvd _ _
    have hp : p ∣ w := by
      have := Int.dvd_add (Int.dvd_trans (lc_l p q) hd) a3
      rwa [show w - (mid p r q s - r) + (mid p r q s - r) = w by omega] at this
    have hqd : q ∣ r + w - s := by
      have := Int.dvd_add (Int.dvd_trans (lc_r p q) hd) a4
      rwa [show w - (mid p r q s - r) + (mid p r q s - s) = r + w - s by omega] at this
    have hge : s ≤ r + w := by
      obtain ⟨k, hk⟩ := hqd
      have h1 := h.2.1
      have h2 := h3.2.2
      have h3 := h3.1
      by_cases hk0 : 0 ≤ k
      · have := Int.mul_nonneg (Int.le_of_lt h3) hk0
        omega
      · have := Int.mul_le_mul_of_nonneg_left (show k ≤ -1 by omega) (Int.le_of_lt h3)
        rw [Int.mul_neg, Int.mul_one] at this
        omega
    have hpd := Int.mul_ediv_cancel' hp
    have m0 : 0 ≤ w / p := Int.ediv_nonneg w0 (Int.le_of_lt h.1)
    have hmem : (w / p).toNat ∈ (List.range (rgN r (lc p q + r) p)).filter (later r p q s) := by
      refine List.mem_filter.mpr ⟨List.mem_range.mpr ?_, ?_⟩
      · unfold rgN
        rw [if_pos h.1, if_pos (by omega)]
        have : w / p ≤ (lc p q + r - r - 1) / p := Int.ediv_le_ediv h.1 (by omega)
        omega
      · unfold later
        rw [decide_eq_true_iff, Int.toNat_of_nonneg m0, Int.mul_comm, hpd]
        exact ⟨hge, Int.dvd_iff_emod_eq_zero.mp hqd⟩
    rw [e] at hmem
    cases hmem
  · intro hm
    refine filter_none fun m _ => ?_
    cases z : later r p q s m with
    | false => rfl
    | true =>
      have z := of_decide_eq_true z
      refine absurd (meet_gc (p := p) (r := r) (q := q) (s := s) (x := r + m * p) ?_ ?_) hm
      · rw [show r + (m : Int) * p - r = m * p by omega]; exact Int.dvd_mul_left _ _
      · exact Int.dvd_iff_emod_eq_zero.mpr z.2

theorem late_get {p : Nat → Bool} {v : Nat → PyData} {n : Nat} {P : PyData → Prop} (h : ∀ m, m < n → p m = true → P (v m)) : ((List.range n).filter p).map v = [] ∨ ∃ d ds, ((List.range n).filter p).map v = d :: ds ∧ P d := by
  cases e : (List.range n).filter p with
  | nil => exact .inl rfl
  | cons m ms =>
    have hm : m ∈ (List.range n).filter p := by rw [e]; simp
    have := List.mem_filter.mp hm
    exact .inr ⟨v m, ms.map v, rfl, h m (List.mem_range.mp this.1) this.2⟩
theorem mid_comm {p r q s : Int} (h : Cls p r) (h3 : Cls q s) (hq : q ≤ 10 ^ 9) (hm : gc p q ∣ r - s) : mid q s p r = mid p r q s := by
  obtain ⟨a1, a2, a3, a4⟩ := mid_ok h.1 h3.1 (by omega) hm
  exact mid_eq (p := q) (r := s) (q := p) (s := r) ⟨a1, by rw [lc_comm]; exact a2, a4, a3⟩
theorem meet_comm {p r q s : Int} : (gc q p ∣ s - r) ↔ (gc p q ∣ r - s) := by rw [gc_comm, show s - r = -(r - s) by omega, Int.dvd_neg]
/-- one turn of the three at a pair that meets -/
theorem pair_turn {p0 p1 p r q s L x : Int} {s7 s8 s9 s10 : Sl} {bl nl : PyData} (h0 : Pot p0 p1) (h : Cls p r) (h3 : Cls q s) (hp : p ≤ 30) (hq : q ≤ 30) (hm : gc p q ∣ r - s) (hL : L = lc p q) (hx : x = mid p r q s)
    (n8 : s8 = .em ∨ ∃ d, s8 = .va d) (n9 : s9 = .em ∨ ∃ d, s9 = .va d) (n10 : s10 = .em ∨ ∃ d, s10 = .va d) :
    ∃ q0 q1 d8 d9 d10, fb__law_pair_right_0 [.io [.int p0, .int p1], .va (cl p r), .va (cl q s), .va (.int L), .va bl, .va nl, .va (cl L x), s7, s8, s9, s10, .em] = .ok (.nx, [.io [.int q0, .int q1], .va (cl p r), .va (cl q s), .va (.int L), .va bl, .va nl, .va (cl L x), s7, .va d8, .va d9, .va d10, .em]) ∧ Pot q0 q1 := by
  have hl := lc_pos h.1 h3.1
  have hl2 : lc p q ≤ 900 := Int.le_trans (lc_le h.1 h3.1) (Int.mul_le_mul hp hq (Int.le_of_lt h3.1) (by decide))
  obtain ⟨a1, a2, a3, a4⟩ := mid_ok h.1 h3.1 (by omega) hm
  rw [← hL] at hl hl2 a2
  rw [← hx] at a1 a2 a3 a4
  obtain ⟨b, q0, q1, e, ⟨b0, b1⟩, hpot⟩ := do_draw h0 (m := 2 * L) (by omega) (by omega)
  have fm := do_first_meeting h (by omega) h3 (by omega) (b := b) b0 (by omega)
  rw [if_pos hm, ← hx, ← hL] at fm
  have fm' := do_first_meeting h3 (by omega) h (by omega) (b := b) b0 (by omega)
  rw [if_pos (meet_comm.mpr hm), mid_comm h h3 (by omega) hm, lc_comm q p, ← hx, ← hL] at fm'
  obtain ⟨t, ht⟩ : ∃ t, t = if b ≤ x then x else b + (x - b) % L := ⟨_, rfl⟩
  rw [← ht] at fm fm'
  have t1 : b ≤ t ∧ t < b + L ∧ L ∣ t - x := by
    rw [ht]
    split
    · exact ⟨by omega, by omega, ⟨0, by omega⟩⟩
    · have m0 := Int.emod_nonneg (x - b) (show L ≠ 0 by omega)
      have m1 := Int.emod_lt_of_pos (x - b) hl
      have m2 := mod_dvd (x - b) L
      exact ⟨by omega, by omega, by rwa [show b + (x - b) % L - x = (x - b) % L - (x - b) by omega]⟩
  obtain ⟨ll, hll⟩ : ∃ ll, ll = ((List.range (b + L - b).toNat).filter fun (m : Nat) => decide (max r s ≤ b + (m : Int) ∧ (b + (m : Int) - x) % L = 0)).map fun (m : Nat) => PyData.int (b + (m : Int)) := ⟨_, rfl⟩
  have hget : ll = [] ∨ ∃ d ds, ll = d :: ds ∧ d = .int t := by
    rw [hll]
    refine late_get fun m hm hP => ?_
    have := of_decide_eq_true hP
    have hd := Int.dvd_sub (Int.dvd_iff_emod_eq_zero.mpr this.2) t1.2.2
    have : b + (m : Int) - b = t - b := cls_eq (m := L) (by omega) (by omega) (by omega) (by omega) (by rwa [show b + (m : Int) - b - (t - b) = b + (m : Int) - x - (t - x) by omega])
    rw [show b + (m : Int) = t by omega]
  have c3 : ∀ env : En, (env = [.io [.int q0, .int q1], .va (cl p r), .va (cl q s), .va (.int L), .va bl, .va nl, .va (cl L x), s7, .va (.int b), s9, s10, .em]) →
      lcD (gN 11) ct__law_pair_right_2 ce__law_pair_right_2 [11] (rangeD b (b + L)) env = .ok (ll, env) := by
    rintro env rfl
    rw [hll]
    refine lc_map _ (fun (m : Nat) => decide (max r s ≤ b + (m : Int) ∧ (b + (m : Int) - x) % L = 0)) (fun (m : Nat) => PyData.int (b + (m : Int))) fun m _ => ?_
    refine ⟨[.io [.int q0, .int q1], .va (cl p r), .va (cl q s), .va (.int L), .va bl, .va nl, .va (cl L x), s7, .va (.int b), s9, s10, .va (.int (b + (m : Int)))], ?_, fun _ => ⟨_, by simp (implicitDefEqProofs := false) [ce__law_pair_right_2]; rfl, by simp, by simp⟩, fun _ => by simp⟩
    by_cases k : max r s ≤ b + (m : Int)
    · have k2 : r ≤ b + (m : Int) ∧ s ≤ b + (m : Int) := by omega
      simp (implicitDefEqProofs := false) [ct__law_pair_right_2, hl, k, k2]
      rfl
    · have k2 : ¬ (r ≤ b + (m : Int) ∧ s ≤ b + (m : Int)) := by omega
      simp (implicitDefEqProofs := false) [ct__law_pair_right_2, hl, k, k2]
  have r3 : (rangeD b (b + L)).length ≤ 1000000 := by
    unfold rangeD
    rw [List.length_map, List.length_range]
    omega
  have r4 : -1000000000000 ≤ b ∧ b ≤ 1000000000000 := ⟨by omega, by omega⟩
  have r5 : -1000000000000 ≤ b + L ∧ b + L ≤ 1000000000000 := ⟨by omega, by omega⟩
  have k1 : ¬ t < b := by omega
  refine ⟨q0, q1, .int b, .list ll, .int t, ?_, hpot⟩
  have lls : ll = [] ∨ ∃ ds, ll = .int t :: ds ∧ ∀ d ∈ ds, Sh 63 d := by
    have sh : ∀ d ∈ ll, Sh 63 d := by
      rw [hll]
      intro d hd
      obtain ⟨m, _, rfl⟩ := List.mem_map.mp hd
      exact .int _ _
    rcases hget with hg | ⟨d, ds, hg, rfl⟩
    · exact .inl hg
    · exact .inr ⟨ds, hg, fun d hd => sh d (by rw [hg]; simp (implicitDefEqProofs := false) [hd])⟩
  rcases lls with hg | ⟨ds, hg, hs⟩
  · rw [hg] at c3 ⊢
    rcases n8 with rfl | ⟨d8, rfl⟩ <;> rcases n9 with rfl | ⟨d9, rfl⟩ <;> rcases n10 with rfl | ⟨d10, rfl⟩ <;> simp (implicitDefEqProofs := false) [fb__law_pair_right_0, tl__law_pair_right_0, sm12 (x := L) (by omega) (by omega), sm12 (x := 2) (by omega) (by omega), e, r3, r4, r5, c3, fm, fm', k1, oNe_sh]
  · rw [hg] at c3 ⊢
    have e9 : oNe (.list (.int t :: ds)) (.list []) = .ok (.bool true) := by
      rw [oNe_sh ((sh_list 63 _).mpr (by intro d hd; rcases List.mem_cons.mp hd with rfl | hd; exact .int _ _; exact hs d hd)) (by simp)]
      simp
    rcases n8 with rfl | ⟨d8, rfl⟩ <;> rcases n9 with rfl | ⟨d9, rfl⟩ <;> rcases n10 with rfl | ⟨d10, rfl⟩ <;> simp (implicitDefEqProofs := false) [fb__law_pair_right_0, tl__law_pair_right_0, sm12 (x := L) (by omega) (by omega), sm12 (x := 2) (by omega) (by omega), e, r3, r4, r5, c3, fm, fm', k1, e9]
/-- and at one that does not -/
theorem pair_turn0 {p0 p1 p r q s L : Int} {s7 s8 s9 s10 : Sl} {bl nl : PyData} (h0 : Pot p0 p1) (h : Cls p r) (h3 : Cls q s) (hp : p ≤ 30) (hq : q ≤ 30) (hm : ¬ gc p q ∣ r - s) (hL : L = lc p q)
    (n8 : s8 = .em ∨ ∃ d, s8 = .va d) (n9 : s9 = .em ∨ ∃ d, s9 = .va d) (n10 : s10 = .em ∨ ∃ d, s10 = .va d) :
    ∃ q0 q1 d8 d9 d10, fb__law_pair_right_0 [.io [.int p0, .int p1], .va (cl p r), .va (cl q s), .va (.int L), .va bl, .va nl, .va .none, s7, s8, s9, s10, .em] = .ok (.nx, [.io [.int q0, .int q1], .va (cl p r), .va (cl q s), .va (.int L), .va bl, .va nl, .va .none, s7, .va d8, .va d9, .va d10, .em]) ∧ Pot q0 q1 := by
  have hl := lc_pos h.1 h3.1
  have hl2 : lc p q ≤ 900 := Int.le_trans (lc_le h.1 h3.1) (Int.mul_le_mul hp hq (Int.le_of_lt h3.1) (by decide))
  rw [← hL] at hl hl2
  obtain ⟨b, q0, q1, e, ⟨b0, b1⟩, hpot⟩ := do_draw h0 (m := 2 * L) (by omega) (by omega)
  have fm := do_first_meeting h (by omega) h3 (by omega) (b := b) b0 (by omega)
  rw [if_neg hm] at fm
  have fm' := do_first_meeting h3 (by omega) h (by omega) (b := b) b0 (by omega)
  rw [if_neg (fun z => hm (meet_comm.mp z))] at fm'
  have c3 : ∀ env : En, (env = [.io [.int q0, .int q1], .va (cl p r), .va (cl q s), .va (.int L), .va bl, .va nl, .va .none, s7, .va (.int b), s9, s10, .em]) →
      lcD (gN 11) ct__law_pair_right_2 ce__law_pair_right_2 [11] (rangeD b (b + L)) env = .ok ([], env) := by
    rintro env rfl
    exact lc_none (fun (m : Nat) => PyData.int (b + (m : Int))) fun m _ => ⟨_, by simp (implicitDefEqProofs := false) [ct__law_pair_right_2]; rfl, by simp, by simp⟩
  have r3 : (rangeD b (b + L)).length ≤ 1000000 := by
    unfold rangeD
    rw [List.length_map, List.length_range]
    omega
  have r4 : -1000000000000 ≤ b ∧ b ≤ 1000000000000 := ⟨by omega, by omega⟩
  have r5 : -1000000000000 ≤ b + L ∧ b + L ≤ 1000000000000 := ⟨by omega, by omega⟩
  refine ⟨q0, q1, .int b, .list [], .none, ?_, hpot⟩
  rcases n8 with rfl | ⟨d8, rfl⟩ <;> rcases n9 with rfl | ⟨d9, rfl⟩ <;> rcases n10 with rfl | ⟨d10, rfl⟩ <;> simp (implicitDefEqProofs := false) [fb__law_pair_right_0, tl__law_pair_right_0, sm12 (x := L) (by omega) (by omega), sm12 (x := 2) (by omega) (by omega), e, r3, r4, r5, c3, fm, fm', oNe_sh]
/-- three turns and the answer -/
theorem pair_end {p0 p1 p r q s x : Int} {bl nl : PyData} (h0 : Pot p0 p1) (h : Cls p r) (h3 : Cls q s) (hp : p ≤ 30) (hq : q ≤ 30) (hm : gc p q ∣ r - s) (hx : x = mid p r q s) :
    ∃ q0 q1 rest, tl__law_pair_right_1 [.io [.int p0, .int p1], .va (cl p r), .va (cl q s), .va (.int (lc p q)), .va bl, .va nl, .va (cl (lc p q) x), .em, .em, .em, .em, .em] = .ok (.rt (.bool true), .io [.int q0, .int q1] :: .va (cl p r) :: .va (cl q s) :: rest) ∧ Pot q0 q1 := by
  obtain ⟨a1, a2, _⟩ := mid_ok h.1 h3.1 (by omega) hm
  rw [← hx] at a1 a2
  obtain ⟨env', lp, q0, q1, s7, s8, s9, s10, _, _, _, _, hpot, rfl⟩ := for_rule (g := gN 7) (body := fb__law_pair_right_0) (ds := rangeD 0 3) (fun _ env => ∃ q0 q1 s7 s8 s9 s10, (s7 = .em ∨ ∃ d, s7 = .va d) ∧ (s8 = .em ∨ ∃ d, s8 = .va d) ∧ (s9 = .em ∨ ∃ d, s9 = .va d) ∧ (s10 = .em ∨ ∃ d, s10 = .va d) ∧ Pot q0 q1 ∧
      env = [.io [.int q0, .int q1], .va (cl p r), .va (cl q s), .va (.int (lc p q)), .va bl, .va nl, .va (cl (lc p q) x), s7, s8, s9, s10, .em]) (by
    rintro i d env _ ⟨q0, q1, s7, s8, s9, s10, n7, n8, n9, n10, hpot, rfl⟩
    obtain ⟨r0, r1, d8, d9, d10, e, hpot2⟩ := pair_turn (s7 := .va d) (bl := bl) (nl := nl) hpot h h3 hp hq hm rfl hx n8 n9 n10
    refine ⟨_, ?_, r0, r1, .va d, .va d8, .va d9, .va d10, .inr ⟨_, rfl⟩, .inr ⟨_, rfl⟩, .inr ⟨_, rfl⟩, .inr ⟨_, rfl⟩, hpot2, rfl⟩
    rcases n7 with rfl | ⟨d7, rfl⟩ <;> simp (implicitDefEqProofs := false) [e]) (env := [.io [.int p0, .int p1], .va (cl p r), .va (cl q s), .va (.int (lc p q)), .va bl, .va nl, .va (cl (lc p q) x), .em, .em, .em, .em, .em]) ⟨p0, p1, .em, .em, .em, .em, .inl rfl, .inl rfl, .inl rfl, .inl rfl, h0, rfl⟩
  exact ⟨q0, q1, _, by simp (implicitDefEqProofs := false) [tl__law_pair_right_1, lp, do_is_wide, a1, a2]; rfl, hpot⟩
theorem pair_end0 {p0 p1 p r q s : Int} {bl nl : PyData} (h0 : Pot p0 p1) (h : Cls p r) (h3 : Cls q s) (hp : p ≤ 30) (hq : q ≤ 30) (hm : ¬ gc p q ∣ r - s) :
    ∃ q0 q1 rest, tl__law_pair_right_1 [.io [.int p0, .int p1], .va (cl p r), .va (cl q s), .va (.int (lc p q)), .va bl, .va nl, .va .none, .em, .em, .em, .em, .em] = .ok (.rt (.bool true), .io [.int q0, .int q1] :: .va (cl p r) :: .va (cl q s) :: rest) ∧ Pot q0 q1 := by
  obtain ⟨env', lp, q0, q1, s7, s8, s9, s10, _, _, _, _, hpot, rfl⟩ := for_rule (g := gN 7) (body := fb__law_pair_right_0) (ds := rangeD 0 3) (fun _ env => ∃ q0 q1 s7 s8 s9 s10, (s7 = .em ∨ ∃ d, s7 = .va d) ∧ (s8 = .em ∨ ∃ d, s8 = .va d) ∧ (s9 = .em ∨ ∃ d, s9 = .va d) ∧ (s10 = .em ∨ ∃ d, s10 = .va d) ∧ Pot q0 q1 ∧
      env = [.io [.int q0, .int q1], .va (cl p r), .va (cl q s), .va (.int (lc p q)), .va bl, .va nl, .va .none, s7, s8, s9, s10, .em]) (by
    rintro i d env _ ⟨q0, q1, s7, s8, s9, s10, n7, n8, n9, n10, hpot, rfl⟩
    obtain ⟨r0, r1, d8, d9, d10, e, hpot2⟩ := pair_turn0 (s7 := .va d) (bl := bl) (nl := nl) hpot h h3 hp hq hm rfl n8 n9 n10
    refine ⟨_, ?_, r0, r1, .va d, .va d8, .va d9, .va d10, .inr ⟨_, rfl⟩, .inr ⟨_, rfl⟩, .inr ⟨_, rfl⟩, .inr ⟨_, rfl⟩, hpot2, rfl⟩
    rcases n7 with rfl | ⟨d7, rfl⟩ <;> simp (implicitDefEqProofs := false) [e]) (env := [.io [.int p0, .int p1], .va (cl p r), .va (cl q s), .va (.int (lc p q)), .va bl, .va nl, .va .none, .em, .em, .em, .em, .em]) ⟨p0, p1, .em, .em, .em, .em, .inl rfl, .inl rfl, .inl rfl, .inl rfl, h0, rfl⟩
  exact ⟨q0, q1, _, by simp (implicitDefEqProofs := false) [tl__law_pair_right_1, lp]; rfl, hpot⟩
/-- the checks between -/
theorem pair_mid {p0 p1 p r q s x : Int} {bl : List PyData} (hm : gc p q ∣ r - s) (e0 : oNe (.list bl) (.list []) = .ok (.bool true))
    (dm : ev_do_meet [.va (cl p r), .va (cl q s)] = .ok (.bool true, [])) (dm' : ev_do_meet [.va (cl q s), .va (cl p r)] = .ok (.bool true, []))
    (ds : ev_shared [.va (cl p r), .va (cl q s)] = .ok (cl (lc p q) x, [])) (ds' : ev_shared [.va (cl q s), .va (cl p r)] = .ok (cl (lc p q) x, [])) :
    tl__law_pair_right_2 [.io [.int p0, .int p1], .va (cl p r), .va (cl q s), .va (.int (lc p q)), .va (.list bl), .va (.list [.int x]), .em, .em, .em, .em, .em, .em] =
      tl__law_pair_right_1 [.io [.int p0, .int p1], .va (cl p r), .va (cl q s), .va (.int (lc p q)), .va (.list bl), .va (.list [.int x]), .va (cl (lc p q) x), .em, .em, .em, .em, .em] := by
  simp (implicitDefEqProofs := false) [tl__law_pair_right_2, dm, dm', ds, ds', e0, oNe_sh, oEq_sh]
theorem pair_mid0 {p0 p1 p r q s : Int} {bl : List PyData} (e0 : oNe (.list bl) (.list []) = .ok (.bool false))
    (dm : ev_do_meet [.va (cl p r), .va (cl q s)] = .ok (.bool false, [])) (dm' : ev_do_meet [.va (cl q s), .va (cl p r)] = .ok (.bool false, []))
    (ds : ev_shared [.va (cl p r), .va (cl q s)] = .ok (.none, [])) (ds' : ev_shared [.va (cl q s), .va (cl p r)] = .ok (.none, [])) :
    tl__law_pair_right_2 [.io [.int p0, .int p1], .va (cl p r), .va (cl q s), .va (.int (lc p q)), .va (.list bl), .va (.list []), .em, .em, .em, .em, .em, .em] =
      tl__law_pair_right_1 [.io [.int p0, .int p1], .va (cl p r), .va (cl q s), .va (.int (lc p q)), .va (.list bl), .va (.list []), .va .none, .em, .em, .em, .em, .em] := by
  simp (implicitDefEqProofs := false) [tl__law_pair_right_2, dm, dm', ds, ds', e0, oNe_sh, oEq_sh]
theorem do_pair_right {p0 p1 p r q s : Int} (h0 : Pot p0 p1) (h : Cls p r) (h3 : Cls q s) (hp : p ≤ 30) (hq : q ≤ 30) :
    ∃ q0 q1, ev__law_pair_right [.io [.int p0, .int p1], .va (cl p r), .va (cl q s)] = .ok (.bool true, [[.int q0, .int q1]]) ∧ Pot q0 q1 := by
  have hl := lc_pos h.1 h3.1
  have hl2 : lc p q ≤ 900 := Int.le_trans (lc_le h.1 h3.1) (Int.mul_le_mul hp hq (Int.le_of_lt h3.1) (by decide))
  obtain ⟨bl, hbl⟩ : ∃ bl, bl = ((List.range (rgN r (lc p q + r) p)).filter (later r p q s)).map fun (m : Nat) => PyData.int (r + (m : Int) * p) := ⟨_, rfl⟩
  obtain ⟨nl, hnl⟩ : ∃ nl, nl = ((List.range (lc p q - 0).toNat).filter (both p r q s)).map fun (m : Nat) => PyData.int (0 + (m : Int)) := ⟨_, rfl⟩
  have hp0 := h.1
  have hq0 := h3.1
  have c1 : ∀ env : En, env = [.io [.int p0, .int p1], .va (cl p r), .va (cl q s), .va (.int (lc p q)), .em, .em, .em, .em, .em, .em, .em, .em] →
      lcD (gN 8) ct__law_pair_right_0 ce__law_pair_right_0 [8] (rangeC r (lc p q + r) p) env = .ok (bl, env) := by
    rintro env rfl
    rw [hbl]
    refine lc_map _ (later r p q s) (fun (m : Nat) => PyData.int (r + (m : Int) * p)) fun m _ => ?_
    refine ⟨[.io [.int p0, .int p1], .va (cl p r), .va (cl q s), .va (.int (lc p q)), .em, .em, .em, .em, .va (.int (r + (m : Int) * p)), .em, .em, .em], ?_, fun _ => ⟨_, by simp (implicitDefEqProofs := false) [ce__law_pair_right_0]; rfl, by simp, by simp⟩, fun _ => by simp⟩
    unfold later
    by_cases k : s ≤ r + (m : Int) * p <;> simp (implicitDefEqProofs := false) [ct__law_pair_right_0, hq0, k]
    rfl
  have c2 : ∀ env : En, env = [.io [.int p0, .int p1], .va (cl p r), .va (cl q s), .va (.int (lc p q)), .va (.list bl), .em, .em, .em, .em, .em, .em, .em] →
      lcD (gN 8) ct__law_pair_right_1 ce__law_pair_right_1 [8] (rangeD 0 (lc p q)) env = .ok (nl, env) := by
    rintro env rfl
    rw [hnl]
    refine lc_map _ (both p r q s) (fun (m : Nat) => PyData.int (0 + (m : Int))) fun m _ => ?_
    refine ⟨[.io [.int p0, .int p1], .va (cl p r), .va (cl q s), .va (.int (lc p q)), .va (.list bl), .em, .em, .em, .va (.int (0 + (m : Int))), .em, .em, .em], ?_, fun _ => ⟨_, by simp (implicitDefEqProofs := false) [ce__law_pair_right_1]; rfl, by simp, by simp⟩, fun _ => by simp⟩
    unfold both
    by_cases k : ((m : Int) - r) % p = 0 <;> simp (implicitDefEqProofs := false) [ct__law_pair_right_1, hp0, hq0, k]
    rfl
  have hnl2 := numbers_of h h3 (by omega)
  have hbl2 := beats_of h h3 (by omega)
  rw [Int.sub_zero, hnl2] at hnl
  have blsh : ∀ x ∈ bl, Sh 63 x := by
    rw [hbl]
    intro x hx
    obtain ⟨m, _, rfl⟩ := List.mem_map.mp hx
    exact .int _ _
  have blE : bl.isEmpty = !decide (gc p q ∣ r - s) := by
    rw [hbl, List.isEmpty_map]
    by_cases hm : gc p q ∣ r - s
    · have := fun z => (hbl2.mp z) hm
      rw [decide_eq_true hm]
      cases e : (List.filter (later r p q s) (List.range (rgN r (lc p q + r) p))) with
      | nil => exact absurd e this
      | cons => rfl
    · rw [hbl2.mpr hm, decide_eq_false hm]; rfl
  have r0 := h.2.1
  have r0' := h.2.2
  have r1 : rgOk r (lc p q + r) p = true := decide_eq_true ⟨by omega, by omega, by omega, by omega⟩
  have r2 : (rangeC r (lc p q + r) p).length ≤ 1000000 := by
    unfold rangeC rgN
    rw [List.length_map, List.length_range, if_pos h.1, if_pos (by omega)]
    have := Int.ediv_le_self p (show 0 ≤ lc p q + r - r - 1 by omega)
    omega
  have r3 : (rangeD 0 (lc p q)).length ≤ 1000000 := by
    unfold rangeD
    rw [List.length_map, List.length_range]
    omega
  have r4 : -1000000000000 ≤ lc p q ∧ lc p q ≤ 1000000000000 := ⟨by omega, by omega⟩
  have two := do_two h.1 (by omega) h3.1 (by omega)
  have dm := do_do_meet h (by omega) h3 (by omega)
  have ds := do_shared h (by omega) h3 (by omega)
  have dm' := do_do_meet h3 (by omega) h (by omega)
  have ds' := do_shared h3 (by omega) h (by omega)
  rw [due_comm h h3 (by omega) (by omega)] at ds'
  have e2 : (gc q p ∣ s - r) ↔ (gc p q ∣ r - s) := by rw [gc_comm, show s - r = -(r - s) by omega, Int.dvd_neg]
  simp only [e2] at dm'
  by_cases hm : gc p q ∣ r - s
  · obtain ⟨a1, a2, a3, a4⟩ := mid_ok h.1 h3.1 (by omega) hm
    have hdue : due p r q s = cl (lc p q) (mid p r q s) := if_pos hm
    rw [if_pos hm, List.map_cons, List.map_nil, Int.toNat_of_nonneg a1, Int.zero_add] at hnl
    rw [hdue] at ds ds'
    rw [decide_eq_true hm] at dm dm'
    obtain ⟨x, hx⟩ : ∃ x, x = mid p r q s := ⟨_, rfl⟩
    rw [← hx] at hnl ds ds'
    have e0 : oNe (.list bl) (.list []) = .ok (.bool true) := by
      rw [oNe_sh ((sh_list 63 _).mpr blsh) (by simp), eqv_l, eqv_nil, blE, decide_eq_true hm]; rfl
    subst hnl
    obtain ⟨q0, q1, rest, te, hpot⟩ := pair_end (bl := .list bl) (nl := .list [.int x]) h0 h h3 hp hq hm hx
    have tm := pair_mid (p0 := p0) (p1 := p1) hm e0 dm dm' ds ds'
    rw [te] at tm
    exact ⟨q0, q1, by simp (implicitDefEqProofs := false) [ev__law_pair_right, bd__law_pair_right, two, r1, c1, c2, r2, r3, r4, tm], hpot⟩
  · have hdue : due p r q s = .none := if_neg hm
    rw [if_neg hm, List.map_nil] at hnl
    rw [hdue] at ds ds'
    rw [decide_eq_false hm] at dm dm'
    have e0 : oNe (.list bl) (.list []) = .ok (.bool false) := by
      rw [oNe_sh ((sh_list 63 _).mpr blsh) (by simp), eqv_l, eqv_nil, blE, decide_eq_false hm]; rfl
    subst hnl
    obtain ⟨q0, q1, rest, te, hpot⟩ := pair_end0 (bl := .list bl) (nl := .list []) h0 h h3 hp hq hm
    have tm := pair_mid0 (p0 := p0) (p1 := p1) e0 dm dm' ds ds'
    rw [te] at tm
    exact ⟨q0, q1, by simp (implicitDefEqProofs := false) [ev__law_pair_right, bd__law_pair_right, two, r1, c1, c2, r2, r3, r4, tm], hpot⟩
end XL

namespace XL
open PySem PySem.Spec L2
theorem next_ok {L x b t : Int} (hl : 0 < L) (h0 : 0 ≤ x) (h1 : x < L) (hb : 0 ≤ b) (ht : t = if b ≤ x then x else b + (x - b) % L) : b ≤ t ∧ t < b + L ∧ L ∣ t - x := by
  rw [ht]
  split
  · exact ⟨by omega, by omega, ⟨0, by omega⟩⟩
  · have m0 := Int.emod_nonneg (x - b) (show L ≠ 0 by omega)
    have m1 := Int.emod_lt_of_pos (x - b) hl
    have m2 := mod_dvd (x - b) L
    exact ⟨by omega, by omega, by rwa [show b + (x - b) % L - x = (x - b) % L - (x - b) by omega]⟩
/-- the end of it at a pair that meets -/
theorem great_end {p0 p1 p r q s x : Int} {S5 S6 S7 : Sl} (h0 : Pot p0 p1) (h : Cls p r) (h3 : Cls q s) (hp : p ≤ 10 ^ 9) (hq : q ≤ 10 ^ 9) (hm : gc p q ∣ r - s) (hx : x = mid p r q s) (B : PyData) :
    ∃ q0 q1 rest, tl__law_great_right_0 [.io [.int p0, .int p1], .va B, .va (cl (lc p q) x), .em, .em, S5, S6, S7, .va (cl p r), .va (cl q s)] = .ok (.rt (.bool true), .io [.int q0, .int q1] :: rest) ∧ Pot q0 q1 := by
  obtain ⟨a1, a2, a3, a4⟩ := mid_ok h.1 h3.1 (by omega) hm
  have hl := lc_pos h.1 h3.1
  have hl2 : lc p q ≤ 10 ^ 18 := Int.le_trans (lc_le h.1 h3.1) (Int.mul_le_mul hp hq (Int.le_of_lt h3.1) (by decide))
  have two := do_two h.1 hp h3.1 hq
  have hp0 := h.1
  have hq0 := h3.1
  rw [← hx] at a1 a2 a3 a4
  obtain ⟨d, q0, q1, e, hd, hpot⟩ := do_pick h0 (ds := [.int (10 ^ 20), .int (10 ^ 29 + 7), .int x, .int (x + 1)]) (by simp) (by simp)
  have hb : ∃ b, d = .int b ∧ 0 ≤ b ∧ b ≤ 999999999999999999999999999999 := by
    simp only [List.mem_cons, List.not_mem_nil, or_false] at hd
    rcases hd with rfl | rfl | rfl | rfl
    · exact ⟨_, rfl, by decide, by decide⟩
    · exact ⟨_, rfl, by decide, by decide⟩
    · exact ⟨_, rfl, by omega, by omega⟩
    · exact ⟨_, rfl, by omega, by omega⟩
  obtain ⟨b, rfl, b0, b1⟩ := hb
  have fm := do_first_meeting h (by omega) h3 (by omega) (b := b) b0 b1
  rw [if_pos hm, ← hx] at fm
  obtain ⟨t, ht⟩ : ∃ t, t = if b ≤ x then x else b + (x - b) % lc p q := ⟨_, rfl⟩
  rw [← ht] at fm
  obtain ⟨t1, t2, t3⟩ := next_ok hl a1 a2 b0 ht
  have a3' := Int.dvd_iff_emod_eq_zero.mp a3
  have a4' := Int.dvd_iff_emod_eq_zero.mp a4
  have t3' := Int.dvd_iff_emod_eq_zero.mp t3
  refine ⟨q0, q1, [.va B, .va (cl (lc p q) x), .va (.int b), .va (.int t), S5, S6, S7, .va (cl p r), .va (cl q s)], ?_, hpot⟩
  have e' : ev__law_pick [.io [.int p0, .int p1], .va (.list [.int 100000000000000000000, .int 100000000000000000000000000007, .int x, .int (x + 1)])] = .ok (.int b, [[.int q0, .int q1]]) := e
  simp (implicitDefEqProofs := false) [tl__law_great_right_0, two, a1, a2, a3', a4', hp0, hq0, e', fm, t1, t2, t3', hl]

theorem do_great_right {p0 p1 : Int} (h0 : Pot p0 p1) : ∃ q0 q1, ev__law_great_right [.io [.int p0, .int p1]] = .ok (.bool true, [[.int q0, .int q1]]) ∧ Pot q0 q1 := by
  obtain ⟨d1, a0, a1, e1, ⟨x1, y1⟩, k1⟩ := do_draw h0 (m := 30000) (by decide) (by decide)
  obtain ⟨d2, b0, b1, e2, ⟨x2, y2⟩, k2⟩ := do_draw k1 (m := 30000) (by decide) (by decide)
  obtain ⟨d3, c0, c1, e3, ⟨x3, y3⟩, k3⟩ := do_draw k2 (m := 30000) (by decide) (by decide)
  obtain ⟨st, hst⟩ : ∃ st, st = 1 + d1 := ⟨_, rfl⟩
  obtain ⟨ne, hne⟩ : ∃ ne, ne = 1 + d2 := ⟨_, rfl⟩
  obtain ⟨fa, hfa⟩ : ∃ fa, fa = 1 + d3 := ⟨_, rfl⟩
  have P0 : 0 < st * ne := Int.mul_pos (by omega) (by omega)
  have P1 : st * ne ≤ 30000 * 30000 := Int.mul_le_mul (by omega) (by omega) (by omega) (by decide)
  have Q0 : 0 < st * fa := Int.mul_pos (by omega) (by omega)
  have Q1 : st * fa ≤ 30000 * 30000 := Int.mul_le_mul (by omega) (by omega) (by omega) (by decide)
  obtain ⟨r, f0, f1, e4, ⟨x4, y4⟩, k4⟩ := do_draw k3 (m := st * ne) P0 (by omega)
  obtain ⟨s, g0, g1, e5, ⟨x5, y5⟩, k5⟩ := do_draw k4 (m := st * fa) Q0 (by omega)
  obtain ⟨p, hp⟩ : ∃ p, p = st * ne := ⟨_, rfl⟩
  obtain ⟨q, hq⟩ : ∃ q, q = st * fa := ⟨_, rfl⟩
  rw [← hp] at P0 P1 e4 y4
  rw [← hq] at Q0 Q1 e5 y5
  have C1 : Cls p r := ⟨P0, x4, y4⟩
  have C2 : Cls q s := ⟨Q0, x5, y5⟩
  have lm := do_law_do_meet (p := p) (r := r) (q := q) (s := s) P0 Q0
  have dm := do_do_meet C1 (by omega) C2 (by omega)
  have ds := do_shared C1 (by omega) C2 (by omega)
  have tail : ∃ q0 q1 rest, tl__law_great_right_1 [.io [.int g0, .int g1], .va (.bool (decide (gc p q ∣ r - s))), .em, .em, .em, .va (.int st), .va (.int ne), .va (.int fa), .va (cl p r), .va (cl q s)] = .ok (.rt (.bool true), .io [.int q0, .int q1] :: rest) ∧ Pot q0 q1 := by
    by_cases hm : gc p q ∣ r - s
    · rw [decide_eq_true hm] at dm lm ⊢
      obtain ⟨x, hx⟩ : ∃ x, x = mid p r q s := ⟨_, rfl⟩
      have hdue : due p r q s = cl (lc p q) x := by rw [hx]; exact if_pos hm
      rw [hdue] at ds
      obtain ⟨q0, q1, rest, e6, hpot⟩ := great_end (S5 := .va (.int st)) (S6 := .va (.int ne)) (S7 := .va (.int fa)) k5 C1 C2 (by omega) (by omega) hm hx (.bool true)
      refine ⟨q0, q1, rest, ?_, hpot⟩
      simp (implicitDefEqProofs := false) [tl__law_great_right_1, ds, dm, oNe_sh, e6]
    · rw [decide_eq_false hm] at dm lm ⊢
      have hdue : due p r q s = .none := if_neg hm
      rw [hdue] at ds
      have fm := do_first_meeting C1 (by omega) C2 (by omega) (b := 100000000000000000000) (by decide) (by decide)
      rw [if_neg hm] at fm
      refine ⟨g0, g1, [.va (.bool false), .va .none, .em, .em, .va (.int st), .va (.int ne), .va (.int fa), .va (cl p r), .va (cl q s)], ?_, k5⟩
      simp (implicitDefEqProofs := false) [tl__law_great_right_1, ds, dm, oNe_sh, fm]
  obtain ⟨q0, q1, rest, e6, hpot⟩ := tail
  refine ⟨q0, q1, ?_, hpot⟩
  simp (implicitDefEqProofs := false) [ev__law_great_right, bd__law_great_right, e1, ← hst, e2, ← hne, e3, ← hfa, ← hp, ← hq, e4, e5, lm, e6, sm12 (x := st) (by omega) (by omega), sm12 (x := ne) (by omega) (by omega), sm12 (x := fa) (by omega) (by omega)]
end XL

namespace XL
open PySem PySem.Spec L2
abbrev Cs := List (Int × Int)
def clD (c : Int × Int) : PyData := cl c.1 c.2
def DC (cs : Cs) : List PyData := cs.map clD
def OkC (cs : Cs) : Prop := ∀ c ∈ cs, Cls c.1 c.2 ∧ c.1 ≤ 12
/-- what measures all the periods measures L, and the other way -/
def Lall (cs : Cs) (L : Int) : Prop := 0 < L ∧ ∀ m, L ∣ m ↔ ∀ c ∈ cs, c.1 ∣ m
def Sol (cs : Cs) (x : Int) : Prop := ∀ c ∈ cs, c.1 ∣ x - c.2
/-- the answer for all: the common class or None -/
def Ans (cs : Cs) (d : PyData) : Prop := (∃ L x, Lall cs L ∧ 0 ≤ x ∧ x < L ∧ Sol cs x ∧ d = cl L x) ∨ ((∀ x, ¬ Sol cs x) ∧ d = .none)
theorem Ans.uniq {cs cs' : Cs} {d d' : PyData} (hc : ∀ c, c ∈ cs ↔ c ∈ cs') (h : Ans cs d) (h' : Ans cs' d') : d = d' := by
  have tr : ∀ x, Sol cs x ↔ Sol cs' x := fun x => ⟨fun z c hm => z c ((hc c).mpr hm), fun z c hm => z c ((hc c).mp hm)⟩
  rcases h with ⟨L, x, ⟨l0, l1⟩, x0, x1, sx, rfl⟩ | ⟨no, rfl⟩
  · rcases h' with ⟨L', y, ⟨k0, k1⟩, y0, y1, sy, rfl⟩ | ⟨no, rfl⟩
    · have e : L = L' := dvd_anti (Int.le_of_lt l0) (Int.le_of_lt k0) ((l1 _).mpr fun c hm => (k1 _).mp (Int.dvd_refl _) c ((hc c).mp hm)) ((k1 _).mpr fun c hm => (l1 _).mp (Int.dvd_refl _) c ((hc c).mpr hm))
      subst e
      have : x = y := cls_eq x0 x1 y0 y1 ((l1 _).mpr fun c hm => by
        have := Int.dvd_sub (sx c hm) (sy c ((hc c).mp hm))
        rwa [show x - c.2 - (y - c.2) = x - y by omega] at this)
      rw [this]
    · exact absurd ((tr x).mp sx) (no x)
  · rcases h' with ⟨L', y, _, _, _, sy, rfl⟩ | ⟨_, rfl⟩
    · exact absurd ((tr y).mpr sy) (no y)
    · rfl
theorem Lall.nil : Lall [] 1 := ⟨by decide, fun m => ⟨fun _ c hm => (by cases hm), fun _ => Int.one_dvd m⟩⟩
theorem Lall.snoc {cs : Cs} {L : Int} {c : Int × Int} (h : Lall cs L) (hc : 0 < c.1) : Lall (cs ++ [c]) (lc L c.1) := by
  refine ⟨lc_pos h.1 hc, fun m => ⟨fun hm d hd => ?_, fun hm => lc_dvd ((h.2 m).mpr fun d hd => hm d (by simp [hd])) (hm c (by simp))⟩⟩
  rcases List.mem_append.mp hd with hd | hd
  · exact (h.2 m).mp (Int.dvd_trans (lc_l _ _) hm) d hd
  · have : d = c := by simpa using hd
    rw [this]
    exact Int.dvd_trans (lc_r _ _) hm
theorem snoc_ind {α : Type} {P : List α → Prop} (h0 : P []) (h1 : ∀ l a, P l → P (l ++ [a])) (l : List α) : P l := by
  have key : ∀ l : List α, P l.reverse := by
    intro l
    induction l with
    | nil => exact h0
    | cons a l ih => rw [List.reverse_cons]; exact h1 _ _ ih
  have := key l.reverse
  rwa [List.reverse_reverse] at this
theorem lcs_all : ∀ (cs : Cs), (∀ c ∈ cs, 0 < c.1) → Lall cs (lcs (cs.map (·.1))) := by
  refine snoc_ind ?_ fun cs c ih => ?_
  · intro _; exact Lall.nil
  · intro h
    rw [List.map_append, List.map_cons, List.map_nil, lcs_app]
    exact Lall.snoc (ih fun d hd => h d (by simp [hd])) (h c (by simp))
/-- each two meet: all meet -/
theorem helly : ∀ (cs : Cs), (∀ c ∈ cs, 0 < c.1 ∧ c.1 ≤ 12) → (∀ c ∈ cs, ∀ d ∈ cs, gc c.1 d.1 ∣ c.2 - d.2) → ∃ x, Sol cs x := by
  have key : ∀ (cs : Cs), (∀ c ∈ cs, 0 < c.1 ∧ c.1 ≤ 12) → (∀ c ∈ cs, ∀ d ∈ cs, gc c.1 d.1 ∣ c.2 - d.2) → ∃ x L, Sol cs x ∧ Lall cs L ∧ ∀ a t, (∀ c ∈ cs, gc a c.1 ∣ t) → gc a L ∣ t := by
    refine snoc_ind ?_ fun cs c ih => ?_
    · exact fun _ _ => ⟨0, 1, fun c hm => (by cases hm), Lall.nil, fun a t _ => Int.dvd_trans (gc_r a 1) (Int.one_dvd t)⟩
    · intro h1 h2
      obtain ⟨x, L, sx, hl, hg⟩ := ih (fun d hd => h1 d (by simp [hd])) fun d hd e he => h2 d (by simp [hd]) e (by simp [he])
      have hc := h1 c (by simp)
      have hmeet : gc L c.1 ∣ x - c.2 := by
        rw [gc_comm]
        refine hg c.1 _ fun d hd => ?_
        have e1 := h2 d (by simp [hd]) c (by simp)
        rw [gc_comm] at e1
        have e2 := Int.dvd_trans (gc_r c.1 d.1) (sx d hd)
        have := Int.dvd_add e2 e1
        rwa [show x - d.2 + (d.2 - c.2) = x - c.2 by omega] at this
      obtain ⟨y0, y1, y2, y3⟩ := mid_ok hl.1 hc.1 (by omega) hmeet
      refine ⟨mid L x c.1 c.2, lc L c.1, fun d hd => ?_, Lall.snoc hl hc.1, fun a t ht => gc_lc hl.1 (hg a t fun d hd => ht d (by simp [hd])) (ht c (by simp))⟩
      rcases List.mem_append.mp hd with hd | hd
      · have e1 := (hl.2 _).mp y2 d hd
        have := Int.dvd_add e1 (sx d hd)
        rwa [show mid L x c.1 c.2 - x + (x - d.2) = mid L x c.1 c.2 - d.2 by omega] at this
      · have : d = c := by simpa using hd
        rw [this]
        exact y3
  intro cs h1 h2
  obtain ⟨x, _, hx, _⟩ := key cs h1 h2
  exact ⟨x, hx⟩
theorem DC_len (cs : Cs) : (DC cs).length = cs.length := by simp [DC]
theorem DC_sh (cs : Cs) : ∀ d ∈ DC cs, Sh 60 d := by
  intro d hd
  obtain ⟨c, _, rfl⟩ := List.mem_map.mp hd
  exact (Sh.tuple (n := 0) (by intro x hx; simp at hx; rcases hx with rfl | rfl <;> exact .int _ _)).mono (by decide)
theorem atI_DC {cs : Cs} {i : Nat} {c : Int × Int} (h : cs[i]? = some c) : atI (DC cs) (i : Int) = some (clD c) := atI_nat (by rw [DC, List.getElem?_map, h]; rfl)
theorem do_check_some {cs : Cs} (h : OkC cs) (h1 : 1 ≤ cs.length) (h2 : cs.length ≤ 400) (d : PyData) (hd : d = .list (DC cs) ∨ d = .tuple (DC cs)) : ev_check_some [.va d] = .ok (.none, []) := by
  have c1 : ∀ env : En, env = [.va d, .em] → lcD (gN 1) eYes ce_check_some_0 [1] (DC cs) env = .ok ((cs.map fun _ => true).map .bool, env) := by
    rintro env rfl
    have := lc_map (g := gN 1) (tst := eYes) (elt := ce_check_some_0) (vs := [1]) (env := [.va d, .em]) clD (fun _ => true) (fun _ => .bool true) (xs := cs) fun c hc => by
      obtain ⟨k1, k2⟩ := h c hc
      have := do_is_class k1 (by omega)
      exact ⟨[.va d, .va (clD c)], by simp (implicitDefEqProofs := false), fun _ => ⟨_, by simp (implicitDefEqProofs := false) [ce_check_some_0, clD, this]; rfl, by simp, by simp⟩, fun z => (nomatch z)⟩
    rw [DC, this, List.filter_eq_self.mpr (by simp)]
    simp
  have l1 : (1 : Int) ≤ cs.length ∧ (cs.length : Int) ≤ 400 := ⟨by omega, by omega⟩
  have l2 : cs.length ≤ 1000000 := by omega
  have e1 := oAll_b (cs.map fun _ => true)
  have e2 : (cs.map fun _ => true).all id = true := by simp
  rw [e2] at e1
  obtain ⟨bs, hbs⟩ : ∃ bs, bs = (cs.map fun _ => true).map PyData.bool := ⟨_, rfl⟩
  rw [← hbs] at e1 c1
  rcases hd with rfl | rfl <;> simp (implicitDefEqProofs := false) [ev_check_some, bd_check_some, DC_len, l1, l2, c1, e1]

@[simp] theorem outs1 (d : PyData) (e : En) : outsOf [.va d] e = [] := by cases e <;> rfl
theorem cut_1 (x : PyData) (xs : List PyData) : cutD (x :: xs) (some 1) none = xs := by
  unfold cutD
  rw [show HT.sIx (x :: xs).length 0 (some 1) = min 1 (x :: xs).length from HT.sIx_nat (x :: xs).length 0 1, HT.sIx_none]
  rw [show min 1 (x :: xs).length = 1 by rw [List.length_cons]; omega]
  show List.take ((x :: xs).length - 1) xs = xs
  rw [List.length_cons, Nat.add_sub_cancel, List.take_length]
theorem pow12 : ∀ n : Nat, n ≤ 20 → (12 : Int) ^ n ≤ 10 ^ 25 := by decide
theorem do_shared_by_all {cs : Cs} (h : OkC cs) (h1 : 1 ≤ cs.length) (h2 : cs.length ≤ 15) (d : PyData) (hd : d = .list (DC cs) ∨ d = .tuple (DC cs)) : ∃ a, ev_shared_by_all [.va d] = .ok (a, []) ∧ Ans cs a := by
  have chk := do_check_some h h1 (by omega) d hd
  obtain ⟨c, r, rfl⟩ : ∃ c r, cs = c :: r := by
    cases cs with
    | nil => simp at h1
    | cons c r => exact ⟨c, r, rfl⟩
  obtain ⟨⟨hc0, hc1, hc2⟩, hc3⟩ := h c (by simp)
  have hr : ∀ e ∈ r, Cls e.1 e.2 ∧ e.1 ≤ 12 := fun e he => h e (by simp [he])
  obtain ⟨z, lp, hz⟩ := for_ret (g := gN 2) (body := fb_shared_by_all_0) (ds := DC r) (fun i env => ∃ L x s2, (s2 = .em ∨ ∃ d, s2 = .va d) ∧ env = [.va d, .va (cl L x), s2] ∧ Lall (c :: r.take i) L ∧ 0 ≤ x ∧ x < L ∧ Sol (c :: r.take i) x ∧ L ≤ 12 ^ (i + 1))
    (fun v env => v = .none ∧ ∀ x, ¬ Sol (c :: r) x) (by
      rintro i e env he ⟨L, x, s2, n2, rfl, hl, x0, x1, sx, hL⟩
      rw [DC, List.getElem?_map] at he
      obtain ⟨f, hf, rfl⟩ := Option.map_eq_some_iff.mp he
      have hi : i < r.length := (List.getElem?_eq_some_iff.mp hf).1
      have hi2 : i + 1 ≤ 15 := by simp at h2; omega
      have hmem : f ∈ r := List.mem_of_getElem? hf
      obtain ⟨⟨f0, f1, f2⟩, f3⟩ := hr f hmem
      have htk : c :: r.take (i + 1) = (c :: r.take i) ++ [f] := by rw [List.take_add_one, hf]; rfl
      have dm := do_do_meet_in (p := L) (r := x) (q := f.1) (s := f.2) hl.1
      have hLb := pow12 (i + 1) (by omega)
      by_cases hm : gc L f.1 ∣ x - f.2
      · have cd := do_cut_down (p := L) (r := x) (q := f.1) (s := f.2) hl.1 (by omega) x0 x1 f1 f2 f0 (by omega) hm
        obtain ⟨y0, y1, y2, y3⟩ := mid_ok hl.1 f0 (by omega) hm
        rw [decide_eq_true hm] at dm
        refine ⟨(.nx, [.va d, .va (cl (lc L f.1) (mid L x f.1 f.2)), .va (clD f)]), ?_, .inl ⟨rfl, _, _, _, .inr ⟨_, rfl⟩, rfl, ?_, y0, y1, ?_, ?_⟩⟩
        · rcases n2 with rfl | ⟨d2, rfl⟩ <;> simp (implicitDefEqProofs := false) [fb_shared_by_all_0, clD, dm, cd]
        · rw [htk]; exact Lall.snoc hl f0
        · rw [htk]
          intro e he
          rcases List.mem_append.mp he with he | he
          · have e1 := (hl.2 _).mp y2 e he
            have := Int.dvd_add e1 (sx e he)
            rwa [show mid L x f.1 f.2 - x + (x - e.2) = mid L x f.1 f.2 - e.2 by omega] at this
          · have : e = f := by simpa using he
            rw [this]; exact y3
        · have e1 := lc_le hl.1 f0
          have e2 : L * f.1 ≤ 12 ^ (i + 1) * 12 := Int.mul_le_mul hL f3 (Int.le_of_lt f0) (Int.le_of_lt (Int.lt_of_lt_of_le hl.1 hL))
          rw [Int.pow_succ 12 (i + 1)]
          omega
      · rw [decide_eq_false hm] at dm
        refine ⟨(.rt .none, [.va d, .va (cl L x), .va (clD f)]), ?_, .inr ⟨_, rfl, rfl, fun y hy => hm ?_⟩⟩
        · rcases n2 with rfl | ⟨d2, rfl⟩ <;> simp (implicitDefEqProofs := false) [fb_shared_by_all_0, clD, dm]
        · have e1 : L ∣ y - x := (hl.2 _).mpr fun e he => by
            have q1 : e ∈ c :: r := by
              rcases List.mem_cons.mp he with rfl | he
              · simp
              · simp [List.mem_of_mem_take he]
            have := Int.dvd_sub (hy e q1) (sx e he)
            rwa [show y - e.2 - (x - e.2) = y - x by omega] at this
          exact meet_gc (x := y) e1 (hy f (by simp [hmem]))) (env := [.va d, .va (clD c), .em]) ⟨c.1, c.2, .em, .inl rfl, rfl, ⟨hc0, fun m => by simp⟩, hc1, hc2, by simp [Sol], by omega⟩
  obtain ⟨fl, env'⟩ := z
  have hall : c :: r.take (DC r).length = c :: r := by rw [DC_len, List.take_length]
  have dcc : DC (c :: r) = clD c :: DC r := rfl
  have os1 : oSl (some 1) none (.list (clD c :: DC r)) = .ok (.list (DC r)) := by rw [oSl, cut_1]
  have os2 : oSl (some 1) none (.tuple (clD c :: DC r)) = .ok (.tuple (DC r)) := by rw [oSl, cut_1]
  rcases hz with ⟨rfl, L, x, s2, n2, rfl, hl, x0, x1, sx, _⟩ | ⟨v, rfl, rfl, hno⟩
  · rw [hall] at hl sx
    refine ⟨cl L x, ?_, .inl ⟨L, x, hl, x0, x1, sx, rfl⟩⟩
    rw [dcc] at hd
    rcases hd with rfl | rfl <;> rw [dcc] at * <;> simp (implicitDefEqProofs := false) [ev_shared_by_all, bd_shared_by_all, chk, os1, os2, lp]
  · refine ⟨.none, ?_, .inr ⟨hno, rfl⟩⟩
    rw [dcc] at hd
    rcases hd with rfl | rfl <;> rw [dcc] at * <;> simp (implicitDefEqProofs := false) [ev_shared_by_all, bd_shared_by_all, chk, os1, os2, lp]
end XL

namespace XL
open PySem PySem.Spec L2
/-! ### the pairs that do not meet -/
def at0 (cs : Cs) (i : Nat) : Int × Int := (cs[i]?).getD (0, 0)
def badP (cs : Cs) (i j : Nat) : Bool := !decide (gc (at0 cs i).1 (at0 cs j).1 ∣ (at0 cs i).2 - (at0 cs j).2)
def rowP (cs : Cs) (i : Nat) : List PyData := ((List.range (cs.length - (i + 1))).filter fun k => badP cs i (i + 1 + k)).map fun k => .tuple [.int i, .int ((i + 1 + k : Nat) : Int)]
def prs (cs : Cs) (n : Nat) : List PyData := (List.range n).flatMap (rowP cs)
theorem prs_succ (cs : Cs) (n : Nat) : prs cs (n + 1) = prs cs n ++ rowP cs n := by simp [prs, List.range_succ, List.flatMap_append]
def hdD : List PyData → PyData
  | [] => .none
  | d :: _ => d
theorem first_filter {P : Nat → Bool} : ∀ {n k : Nat}, k < n → (∀ j, j < k → P j = false) → P k = true → ∃ tl, (List.range n).filter P = k :: tl := by
  intro n k hk h0 h1
  have e : List.range n = List.range k ++ (k :: (List.range (n - k - 1)).map (· + (k + 1))) := by
    apply List.ext_getElem
    · simp; omega
    · intro i h1 h2
      by_cases z : i < k
      · rw [List.getElem_append_left (by simpa using z)]; simp
      · rw [List.getElem_append_right (by simpa using z)]
        simp only [List.length_range, List.getElem_range]
        by_cases w : i - k = 0
        · have : i = k := by omega
          subst this
          simp
        · obtain ⟨j, hj⟩ : ∃ j, i - k = j + 1 := ⟨i - k - 1, by omega⟩
          simp only [hj, List.getElem_cons_succ, List.getElem_map, List.getElem_range]
          omega
  rw [e, List.filter_append, List.filter_eq_nil_iff.mpr (by intro j hj; simp [h0 j (List.mem_range.mp hj)])]
  exact ⟨_, by simp [h1]; rfl⟩
theorem row_first {cs : Cs} {i k : Nat} (hk : k < cs.length - (i + 1)) (h0 : ∀ j, j < k → badP cs i (i + 1 + j) = false) (h1 : badP cs i (i + 1 + k) = true) : ∃ tl, rowP cs i = .tuple [.int i, .int ((i + 1 + k : Nat) : Int)] :: tl := by
  obtain ⟨tl, e⟩ := first_filter (P := fun k => badP cs i (i + 1 + k)) hk h0 h1
  exact ⟨_, by rw [rowP, e, List.map_cons]⟩
theorem row_nil {cs : Cs} {i : Nat} (h0 : ∀ j, j < cs.length - (i + 1) → badP cs i (i + 1 + j) = false) : rowP cs i = [] := by
  rw [rowP, filter_none h0, List.map_nil]
theorem prs_hd {cs : Cs} {n i : Nat} {d : PyData} {tl : List PyData} (hi : i < n) (h0 : prs cs i = []) (h1 : rowP cs i = d :: tl) : hdD (prs cs n) = d := by
  have key : ∀ m, prs cs (i + 1 + m) = d :: (tl ++ ((List.range m).flatMap fun k => rowP cs (i + 1 + k))) := by
    intro m
    induction m with
    | zero => rw [Nat.add_zero, prs_succ, h0, h1]; simp
    | succ m ih => rw [← Nat.add_assoc, prs_succ, ih, List.range_succ, List.flatMap_append]; simp
  have := key (n - (i + 1))
  rw [show i + 1 + (n - (i + 1)) = n by omega] at this
  rw [this]
  rfl
theorem range_at {lo hi : Int} {i : Nat} {d : PyData} (h : (rangeD lo hi)[i]? = some d) : i < (hi - lo).toNat ∧ d = .int (lo + (i : Nat)) := by
  unfold rangeD at h
  rw [List.getElem?_map] at h
  obtain ⟨j, h1, h2⟩ := Option.map_eq_some_iff.mp h
  have hl : i < (hi - lo).toNat := by
    have := (List.getElem?_eq_some_iff.mp h1).1
    simpa using this
  rw [List.getElem?_range hl] at h1
  cases h1
  exact ⟨hl, h2.symm⟩
theorem range_len (lo hi : Int) : (rangeD lo hi).length = (hi - lo).toNat := by simp [rangeD]
theorem at0_DC {cs : Cs} {i : Nat} (h : i < cs.length) : atI (DC cs) (i : Int) = some (clD (at0 cs i)) := by
  rw [atI_DC (List.getElem?_eq_getElem h)]
  simp [at0, List.getElem?_eq_getElem h]
theorem at0_mem {cs : Cs} {i : Nat} (h : i < cs.length) : at0 cs i ∈ cs := by
  simp only [at0, List.getElem?_eq_getElem h, Option.getD_some]
  exact List.getElem_mem h
theorem do_apart {cs : Cs} (h : OkC cs) (h1 : 1 ≤ cs.length) (h2 : cs.length ≤ 15) (d : PyData) (hd : d = .list (DC cs) ∨ d = .tuple (DC cs)) : ev_apart [.va d] = .ok (hdD (prs cs cs.length), []) := by
  have chk := do_check_some h h1 (by omega) d hd
  have ix : ∀ i : Nat, i < cs.length → oIx d (.int i) = .ok (clD (at0 cs i)) := fun i hi => by
    rcases hd with rfl | rfl <;> simp [at0_DC hi]
  have ln : oLen [d] = .ok (.int cs.length) := by
    rcases hd with rfl | rfl <;> simp [DC_len]
  obtain ⟨z, lp, hz⟩ := for_ret (g := gN 1) (body := fb_apart_1) (ds := rangeD 0 cs.length) (fun i env => prs cs i = [] ∧ ∃ s1 s2, (s1 = .em ∨ ∃ d, s1 = .va d) ∧ (s2 = .em ∨ ∃ d, s2 = .va d) ∧ env = [.va d, s1, s2])
    (fun v env => v = hdD (prs cs cs.length)) (by
      rintro i e env he ⟨hp, s1, s2, n1, n2, rfl⟩
      obtain ⟨hi, rfl⟩ := range_at he
      rw [Int.zero_add]
      have hi : i < cs.length := by omega
      have lenR : (rangeD ((i : Int) + 1) cs.length).length = cs.length - (i + 1) := by rw [range_len]; omega
      obtain ⟨z, lp, hz⟩ := for_ret (g := gN 2) (body := fb_apart_0) (ds := rangeD ((i : Int) + 1) cs.length) (fun k env => (∀ j, j < k → badP cs i (i + 1 + j) = false) ∧ ∃ s2, (s2 = .em ∨ ∃ d, s2 = .va d) ∧ env = [.va d, .va (.int i), s2])
        (fun v env => ∃ tl, rowP cs i = v :: tl) (by
          rintro k e env he ⟨hb, s2, n2, rfl⟩
          obtain ⟨hk, rfl⟩ := range_at he
          have hk : k < cs.length - (i + 1) := by omega
          have ea : (i : Int) + 1 + (k : Nat) = ((i + 1 + k : Nat) : Int) := by omega
          rw [ea]
          obtain ⟨⟨c0, _⟩, _⟩ := h _ (at0_mem hi)
          have dm := do_do_meet_in (p := (at0 cs i).1) (r := (at0 cs i).2) (q := (at0 cs (i + 1 + k)).1) (s := (at0 cs (i + 1 + k)).2) c0
          cases hbad : badP cs i (i + 1 + k) with
          | false =>
            have : decide (gc (at0 cs i).1 (at0 cs (i + 1 + k)).1 ∣ (at0 cs i).2 - (at0 cs (i + 1 + k)).2) = true := by simpa [badP] using hbad
            rw [this] at dm
            have e1 := ix i hi
            have e2 := ix (i + 1 + k) (by omega)
            obtain ⟨J, hJ⟩ : ∃ J : Int, J = ((i + 1 + k : Nat) : Int) := ⟨_, rfl⟩
            rw [← hJ] at e2 ⊢
            simp only [clD] at e1 e2
            refine ⟨(.nx, [.va d, .va (.int i), .va (.int J)]), ?_, .inl ⟨rfl, fun j hj => ?_, _, .inr ⟨_, rfl⟩, rfl⟩⟩
            · rcases n2 with rfl | ⟨d2, rfl⟩ <;> simp (implicitDefEqProofs := false) [fb_apart_0, e1, e2, dm]
            · rcases Nat.lt_succ_iff_lt_or_eq.mp hj with hj | rfl
              · exact hb j hj
              · exact hbad
          | true =>
            have : decide (gc (at0 cs i).1 (at0 cs (i + 1 + k)).1 ∣ (at0 cs i).2 - (at0 cs (i + 1 + k)).2) = false := by simpa [badP] using hbad
            rw [this] at dm
            have e1 := ix i hi
            have e2 := ix (i + 1 + k) (by omega)
            obtain ⟨tl, ht⟩ := row_first hk hb hbad
            obtain ⟨J, hJ⟩ : ∃ J : Int, J = ((i + 1 + k : Nat) : Int) := ⟨_, rfl⟩
            rw [← hJ] at e2 ht ⊢
            simp only [clD] at e1 e2
            refine ⟨(.rt (.tuple [.int i, .int J]), [.va d, .va (.int i), .va (.int J)]), ?_, .inr ⟨_, rfl, tl, ht⟩⟩
            rcases n2 with rfl | ⟨d2, rfl⟩ <;> simp (implicitDefEqProofs := false) [fb_apart_0, e1, e2, dm]) (env := [.va d, .va (.int i), s2]) ⟨fun j hj => by omega, s2, n2, rfl⟩
      have b1 : -1000000000000 ≤ (i : Int) + 1 ∧ (i : Int) + 1 ≤ 1000000000000 := ⟨by omega, by omega⟩
      have b2 : -1000000000000 ≤ (cs.length : Int) ∧ (cs.length : Int) ≤ 1000000000000 := ⟨by omega, by omega⟩
      have run : (gN 1 (.int i) [.va d, s1, s2] >>= fb_apart_1) = .ok z := by
        rcases n1 with rfl | ⟨d1, rfl⟩ <;> simp (implicitDefEqProofs := false) [fb_apart_1, ln, b1, b2, lp]
      refine ⟨z, run, ?_⟩
      rcases hz with ⟨hf, hb, s2', n2', he'⟩ | ⟨v, hf, tl, hr⟩
      · rw [lenR] at hb
        exact .inl ⟨hf, by rw [prs_succ, hp, row_nil hb]; rfl, _, s2', .inr ⟨_, rfl⟩, n2', he'⟩
      · exact .inr ⟨v, hf, (prs_hd hi hp hr).symm⟩) (env := [.va d, .em, .em]) ⟨rfl, .em, .em, .inl rfl, .inl rfl, rfl⟩
  have b2 : -1000000000000 ≤ (cs.length : Int) ∧ (cs.length : Int) ≤ 1000000000000 := ⟨by omega, by omega⟩
  obtain ⟨fl, env'⟩ := z
  rcases hz with ⟨hf, hp, s1, s2, n1, n2, he'⟩ | ⟨v, hf, hv⟩
  · have hf : fl = .nx := hf
    have he' : env' = [.va d, s1, s2] := he'
    rw [range_len, Int.sub_zero, Int.toNat_natCast] at hp
    rw [hp]
    subst hf he'
    simp (implicitDefEqProofs := false) [ev_apart, bd_apart, chk, ln, b2, lp, hdD]
  · have hf : fl = .rt v := hf
    have hv : v = hdD (prs cs cs.length) := hv
    subst hf hv
    simp (implicitDefEqProofs := false) [ev_apart, bd_apart, chk, ln, b2, lp]
/-! ### the same classes in another order -/
theorem erase_perm {α : Type} : ∀ (l : List α) (k : Nat) (h : k < l.length), (l[k] :: l.eraseIdx k).Perm l
  | x :: l, 0, _ => .refl _
  | x :: l, k + 1, h => by
    have h : k < l.length := by simpa using h
    exact (List.Perm.swap x l[k] (l.eraseIdx k)).trans ((erase_perm l k h).cons x)
theorem do_mixed {p0 p1 : Int} {ds : List PyData} (h0 : Pot p0 p1) (hl : ds.length ≤ 1000) : ∃ es q0 q1, ev__law_mixed [.io [.int p0, .int p1], .va (.list ds)] = .ok (.list es, [[.int q0, .int q1]]) ∧ es.Perm ds ∧ Pot q0 q1 := by
  obtain ⟨env', lp, q0, q1, s2, left, found, hpot, n2, hlen, hperm, rfl⟩ := for_rule (g := gN 2) (body := fb__law_mixed_0) (ds := rangeD 0 ds.length) (fun i env => ∃ q0 q1 s2 left found, Pot q0 q1 ∧ (s2 = .em ∨ ∃ d, s2 = .va d) ∧ left.length = ds.length - i ∧ (found ++ left).Perm ds ∧ env = [.io [.int q0, .int q1], .va (.list ds), s2, .ow left, .ow found]) (by
    rintro i d env hd ⟨q0, q1, s2, left, found, hpot, n2, hlen, hperm, rfl⟩
    obtain ⟨hi, rfl⟩ := range_at hd
    have hi : i < ds.length := by omega
    obtain ⟨k, r0, r1, e, ⟨k0, k1⟩, hp2⟩ := do_draw hpot (m := left.length) (by omega) (by omega)
    have hk : k.toNat < left.length := by omega
    have hg : left[k.toNat]? = some left[k.toNat] := List.getElem?_eq_getElem hk
    have hkk : k < 1000000 := by omega
    have hfl : found.length < 1000000 := by
      have := hperm.length_eq
      rw [List.length_append] at this
      omega
    refine ⟨[.io [.int r0, .int r1], .va (.list ds), .va (.int (0 + (i : Nat))), .ow (left.eraseIdx k.toNat), .ow (found ++ [left[k.toNat]])], ?_, r0, r1, _, _, _, hp2, .inr ⟨_, rfl⟩, ?_, ?_, rfl⟩
    · rcases n2 with rfl | ⟨d2, rfl⟩ <;> simp (implicitDefEqProofs := false) [fb__law_mixed_0, e, k0, hkk, hg, hfl]
    · rw [List.length_eraseIdx_of_lt hk]; omega
    · rw [List.append_assoc]
      exact (List.Perm.append_left found (erase_perm left k.toNat hk)).trans hperm) (env := [.io [.int p0, .int p1], .va (.list ds), .em, .ow ds, .ow []]) ⟨p0, p1, .em, ds, [], h0, .inl rfl, by simp, by simp, rfl⟩
  have b2 : -1000000000000 ≤ (ds.length : Int) ∧ (ds.length : Int) ≤ 1000000000000 := ⟨by omega, by omega⟩
  rw [range_len] at hlen
  have : left = [] := List.eq_nil_of_length_eq_zero (by omega)
  subst this
  rw [List.append_nil] at hperm
  exact ⟨found, q0, q1, by simp (implicitDefEqProofs := false) [ev__law_mixed, bd__law_mixed, b2, lp], hperm, hpot⟩
end XL

namespace XL
open PySem PySem.Spec L2
theorem Sol.bad {cs : Cs} {x : Int} (h : Sol cs x) {i j : Nat} (hi : i < cs.length) (hj : j < cs.length) : badP cs i j = false := by
  have := meet_gc (h _ (at0_mem hi)) (h _ (at0_mem hj))
  simp [badP, this]
theorem prs_sol {cs : Cs} (h : OkC cs) : prs cs cs.length = [] ↔ ∃ x, Sol cs x := by
  constructor
  · intro e
    have good : ∀ i j, i < j → j < cs.length → gc (at0 cs i).1 (at0 cs j).1 ∣ (at0 cs i).2 - (at0 cs j).2 := by
      intro i j hij hj
      have hrow : rowP cs i = [] := by
        have := List.flatMap_eq_nil_iff.mp e i (List.mem_range.mpr (by omega))
        exact this
      have hf : (List.range (cs.length - (i + 1))).filter (fun k => badP cs i (i + 1 + k)) = [] := List.map_eq_nil_iff.mp hrow
      have := List.filter_eq_nil_iff.mp hf (j - (i + 1)) (List.mem_range.mpr (by omega))
      rw [show i + 1 + (j - (i + 1)) = j by omega] at this
      simpa [badP] using this
    refine helly cs (fun c hc => ⟨(h c hc).1.1, (h c hc).2⟩) fun c hc d hd => ?_
    obtain ⟨i, hi, rfl⟩ := List.getElem_of_mem hc
    obtain ⟨j, hj, rfl⟩ := List.getElem_of_mem hd
    have ei : cs[i] = at0 cs i := by simp [at0, List.getElem?_eq_getElem hi]
    have ej : cs[j] = at0 cs j := by simp [at0, List.getElem?_eq_getElem hj]
    rw [ei, ej]
    rcases Nat.lt_trichotomy i j with z | z | z
    · exact good i j z hj
    · subst z
      rw [Int.sub_self]
      exact Int.dvd_zero _
    · have := good j i z hi
      rwa [meet_comm] at this
  · rintro ⟨x, hx⟩
    refine List.flatMap_eq_nil_iff.mpr fun i hi => ?_
    have hi := List.mem_range.mp hi
    exact row_nil fun j hj => hx.bad hi (by omega)
theorem prs_len {cs : Cs} : ∀ n, (prs cs n).length ≤ n * cs.length
  | 0 => by simp [prs]
  | n + 1 => by
    rw [prs_succ, List.length_append]
    have h1 := prs_len (cs := cs) n
    have h2 : (rowP cs n).length ≤ cs.length := by
      rw [rowP, List.length_map]
      refine Nat.le_trans (List.length_filter_le _ _) ?_
      rw [List.length_range]; omega
    rw [Nat.succ_mul]
    omega
theorem prs_sh {cs : Cs} {n : Nat} : ∀ d ∈ prs cs n, Sh 60 d := by
  intro d hd
  obtain ⟨i, _, hd⟩ := List.mem_flatMap.mp hd
  obtain ⟨k, _, rfl⟩ := List.mem_map.mp hd
  exact (Sh.tuple (n := 0) (by intro x hx; simp at hx; rcases hx with rfl | rfl <;> exact .int _ _)).mono (by decide)
theorem lcs_le12 : ∀ (ns : List Int), (∀ n ∈ ns, 0 < n ∧ n ≤ 12) → lcs ns ≤ 12 ^ ns.length := by
  refine snoc_ind ?_ fun ns n ih => ?_
  · intro _; decide
  · intro h
    have h1 := ih fun m hm => h m (by simp [hm])
    have hn := h n (by simp)
    have hp : 0 < lcs ns := lcs_pos fun m hm => (h m (by simp [hm])).1
    rw [lcs_app, List.length_append]
    refine Int.le_trans (lc_le hp hn.1) ?_
    show lcs ns * n ≤ 12 ^ (ns.length + 1)
    rw [Int.pow_succ]
    exact Int.mul_le_mul h1 hn.2 (Int.le_of_lt hn.1) (Int.le_trans (Int.le_of_lt hp) h1)
theorem sol_mod {cs : Cs} {L x : Int} (hl : Lall cs L) (h : Sol cs x) : Sol cs (x % L) ∧ 0 ≤ x % L ∧ x % L < L := by
  refine ⟨fun c hc => ?_, Int.emod_nonneg _ (by have := hl.1; omega), Int.emod_lt_of_pos _ hl.1⟩
  have e := (hl.2 _).mp (mod_dvd x L) c hc
  have := Int.dvd_add e (h c hc)
  rwa [show x % L - x + (x - c.2) = x % L - c.2 by omega] at this
/-- a place at which all of them stand -/
def solB (cs : Cs) (m : Nat) : Bool := !((cs.map fun c => (((m : Int) - c.2) % c.1 != 0)).any id)
theorem solB_iff (cs : Cs) (m : Nat) : solB cs m = true ↔ Sol cs m := by
  simp [solB, Sol, Int.dvd_iff_emod_eq_zero]
theorem nums_sol {cs : Cs} {L : Int} (hl : Lall cs L) (hs : ∃ x, Sol cs x) : ∃ x, (List.range L.toNat).filter (solB cs) = [x.toNat] ∧ Sol cs x ∧ 0 ≤ x ∧ x < L := by
  obtain ⟨x, hx⟩ := hs
  obtain ⟨a1, a2, a3⟩ := sol_mod hl hx
  refine ⟨x % L, filter_one (by omega) fun m hm => ?_, a1, a2, a3⟩
  rw [solB_iff]
  constructor
  · intro z
    have := cls_eq (m := L) (x := m) (y := x % L) (by omega) (by omega) a2 a3 ((hl.2 _).mpr fun c hc => by
      have := Int.dvd_sub (z c hc) (a1 c hc)
      rwa [show (m : Int) - c.2 - (x % L - c.2) = m - x % L by omega] at this)
    omega
  · rintro rfl
    rw [Int.toNat_of_nonneg a2]
    exact a1
theorem nums_no {cs : Cs} {n : Nat} (hs : ¬ ∃ x, Sol cs x) : (List.range n).filter (solB cs) = [] := by
  refine filter_none fun m _ => ?_
  cases z : solB cs m with
  | false => rfl
  | true => exact absurd ⟨_, (solB_iff cs m).mp z⟩ hs
theorem perm_map {α β : Type} {f : α → β} {l m : List β} (h : l.Perm m) : ∀ cs : List α, m = cs.map f → ∃ cs' : List α, l = cs'.map f ∧ cs'.Perm cs := by
  induction h with
  | nil =>
    intro cs hm
    have : cs = [] := List.map_eq_nil_iff.mp hm.symm
    subst this
    exact ⟨[], rfl, .refl _⟩
  | cons x h ih =>
    intro cs hm
    cases cs with
    | nil => cases hm
    | cons c cs =>
      rw [List.map_cons] at hm
      injection hm with e1 e2
      obtain ⟨cs', h1, h2⟩ := ih cs e2
      exact ⟨c :: cs', by rw [List.map_cons, h1, e1], h2.cons c⟩
  | swap x y l =>
    intro cs hm
    match cs, hm with
    | a :: b :: r, hm =>
      rw [List.map_cons, List.map_cons] at hm
      injection hm with e1 e2
      injection e2 with e2 e3
      exact ⟨b :: a :: r, by rw [List.map_cons, List.map_cons, e1, e2, e3], .swap a b r⟩
  | trans h1 h2 ih1 ih2 =>
    intro cs hm
    obtain ⟨c2, e1, e2⟩ := ih2 cs hm
    obtain ⟨c3, e3, e4⟩ := ih1 c2 e1
    exact ⟨c3, e3, e4.trans e2⟩
/-! ### the last part -/
theorem all_end {p0 p1 : Int} {cs : Cs} {due : PyData} {S1 S3 S4 S5 S8 S10 S11 S12 S13 : Sl} {B : PyData} (h0 : Pot p0 p1) (h : OkC cs) (h1 : 1 ≤ cs.length) (h2 : cs.length ≤ 15) (hd : Ans cs due) (dsh : Sh 60 due) :
    ∃ q0 q1 rest, tl__law_all_right_0 [.io [.int p0, .int p1], S1, .ow (prs cs cs.length), S3, S4, S5, .va due, .em, S8, .va (.list (DC cs)), S10, S11, S12, S13] = .ok (.rt (.bool true), .io [.int q0, .int q1] :: rest) ∧ Pot q0 q1 := by
  obtain ⟨a1, e1, k1⟩ := do_shared_by_all h h1 h2 _ (.inl rfl)
  obtain ⟨a2, e2, k2⟩ := do_shared_by_all h h1 h2 _ (.inr rfl)
  obtain ⟨es, q0, q1, e3, hperm, hpot⟩ := do_mixed (ds := DC cs) h0 (by rw [DC_len]; omega)
  obtain ⟨cs', hes, hmem⟩ : ∃ cs' : Cs, es = DC cs' ∧ cs'.Perm cs := perm_map hperm cs rfl
  subst hes
  have h' : OkC cs' := fun c hc => h c (hmem.mem_iff.mp hc)
  obtain ⟨a3, e4, k3⟩ := do_shared_by_all h' (by rw [hmem.length_eq]; exact h1) (by rw [hmem.length_eq]; exact h2) _ (.inl rfl)
  have u1 := Ans.uniq (fun c => Iff.rfl) k1 hd
  have u2 := Ans.uniq (fun c => Iff.rfl) k2 hd
  have u3 := Ans.uniq (fun c => hmem.mem_iff) k3 hd
  rw [u1] at e1
  rw [u2] at e2
  rw [u3] at e4
  have p1' := do_apart h h1 h2 _ (.inl rfl)
  have p2' := do_apart h h1 h2 _ (.inr rfl)
  have pl : (prs cs cs.length).length ≤ 1000000 := Nat.le_trans (prs_len _) (Nat.le_trans (Nat.mul_le_mul h2 h2) (by decide))
  obtain ⟨ps, hps⟩ : ∃ ps, ps = prs cs cs.length := ⟨_, rfl⟩
  have psh : ∀ d ∈ ps, Sh 60 d := by rw [hps]; exact prs_sh
  rw [← hps] at p1' p2' ⊢
  have hsh : Sh 60 (hdD ps) := by
    cases ps with
    | nil => exact .none _
    | cons d tl => exact psh d (by simp)
  have s3 : Sh 64 (.list [due, due, due]) := ((sh_list 60 _).mpr (by intro x hx; simp at hx; rw [hx]; exact dsh)).mono (by decide)
  have s2 : Sh 64 (.list [hdD ps, hdD ps]) := ((sh_list 60 _).mpr (by intro x hx; simp at hx; rw [hx]; exact hsh)).mono (by decide)
  have q3 := oEq_same s3
  have q2 := oEq_same s2
  refine ⟨q0, q1, [S1, .ow ps, S3, S4, S5, .va due, .va (.list [due, due, due]), S8, .va (.list (DC cs)), S10, S11, S12, S13], ?_, hpot⟩
  have n0 : oNe (.list ps) (.list []) = .ok (.bool (!ps.isEmpty)) := by
    rw [oNe_sh (((sh_list 60 _).mpr psh).mono (by decide)) (by simp), eqv_l, eqv_nil]
  cases ps with
  | nil => 
    simp only [hdD] at p1' p2' q2
    simp (implicitDefEqProofs := false) [tl__law_all_right_0, e1, e2, e3, e4, q3, p1', p2', n0, q2]
  | cons d tl =>
    simp only [hdD] at p1' p2' q2
    simp (implicitDefEqProofs := false) [tl__law_all_right_0, e1, e2, e3, e4, q3, p1', p2', n0, q2]

theorem L_le {cs : Cs} {L : Int} (h : OkC cs) (hl : Lall cs L) : L ≤ 27720 := by
  refine Int.le_of_dvd (by decide) ((hl.2 _).mpr fun c hc => ?_)
  obtain ⟨⟨h0, _⟩, h1⟩ := h c hc
  have key : ∀ n : Nat, n < 13 → 0 < n → (n : Int) ∣ 27720 := by decide
  have := key c.1.toNat (by omega) (by omega)
  rwa [Int.toNat_of_nonneg (Int.le_of_lt h0)] at this
/-- the numbers -/
theorem all_mid {p0 p1 : Int} {cs : Cs} {b : Int} {S1 S3 S10 : Sl} (h0 : Pot p0 p1) (h : OkC cs) (h1 : 1 ≤ cs.length) (h2 : cs.length ≤ 7) (L : Int) (hl : Lall cs L) (hL : L ≤ 27720) :
    ∃ q0 q1 rest, tl__law_all_right_1 [.io [.int p0, .int p1], S1, .ow (prs cs cs.length), S3, .va (.int L), .em, .em, .em, .va (.int b), .va (.list (DC cs)), S10, .em, .em, .em] = .ok (.rt (.bool true), .io [.int q0, .int q1] :: rest) ∧ Pot q0 q1 := by
  have hL0 := hl.1
  have c2 : ∀ (env : En) (m : Nat), env = [.io [.int p0, .int p1], S1, .ow (prs cs cs.length), S3, .va (.int L), .em, .em, .em, .va (.int b), .va (.list (DC cs)), S10, .va (.int (0 + (m : Nat))), .em, .em] →
      lcD (gN 12) eYes ce__law_all_right_2 [12] (DC cs) env = .ok ((cs.map fun c => (((m : Int) - c.2) % c.1 != 0)).map .bool, env) := by
    rintro env m rfl
    have := lc_map (g := gN 12) (tst := eYes) (elt := ce__law_all_right_2) (vs := [12]) (env := [.io [.int p0, .int p1], S1, .ow (prs cs cs.length), S3, .va (.int L), .em, .em, .em, .va (.int b), .va (.list (DC cs)), S10, .va (.int (0 + (m : Nat))), .em, .em]) clD (fun _ => true) (fun c => .bool (((m : Int) - c.2) % c.1 != 0)) (xs := cs) fun c hc => by
      obtain ⟨⟨k1, _⟩, _⟩ := h c hc
      exact ⟨[.io [.int p0, .int p1], S1, .ow (prs cs cs.length), S3, .va (.int L), .em, .em, .em, .va (.int b), .va (.list (DC cs)), S10, .va (.int (0 + (m : Nat))), .va (clD c), .em], by simp (implicitDefEqProofs := false), fun _ => ⟨_, by simp (implicitDefEqProofs := false) [ce__law_all_right_2, clD, k1]; rfl, by simp, by simp⟩, fun z => (nomatch z)⟩
    refine this.trans ?_
    rw [List.filter_eq_self.mpr (by simp), List.map_map]
    rfl
  have l2 : (DC cs).length ≤ 1000000 := by rw [DC_len]; omega
  have c1 : ∀ (env : En), env = [.io [.int p0, .int p1], S1, .ow (prs cs cs.length), S3, .va (.int L), .em, .em, .em, .va (.int b), .va (.list (DC cs)), S10, .em, .em, .em] →
      lcD (gN 11) ct__law_all_right_1 ce__law_all_right_3 [11] (rangeD 0 L) env = .ok (((List.range (L - 0).toNat).filter (solB cs)).map (fun (m : Nat) => PyData.int (0 + (m : Int))), env) := by
    rintro env rfl
    refine lc_map _ (solB cs) (fun (m : Nat) => PyData.int (0 + (m : Int))) fun m _ => ?_
    have e1 := oAny_b (cs.map fun c => (((m : Int) - c.2) % c.1 != 0))
    have c2' := c2 _ m rfl
    obtain ⟨bs, hbs⟩ : ∃ bs, bs = (cs.map fun c => (((m : Int) - c.2) % c.1 != 0)).map PyData.bool := ⟨_, rfl⟩
    rw [← hbs] at e1 c2'
    obtain ⟨J, hJ⟩ : ∃ J : Int, J = 0 + (m : Int) := ⟨_, rfl⟩
    rw [← hJ] at c2' ⊢
    refine ⟨[.io [.int p0, .int p1], S1, .ow (prs cs cs.length), S3, .va (.int L), .em, .em, .em, .va (.int b), .va (.list (DC cs)), S10, .va (.int J), .em, .em], ?_, fun _ => ⟨_, by simp (implicitDefEqProofs := false) [ce__law_all_right_3]; rfl, by simp, by simp⟩, fun _ => by simp⟩
    unfold solB
    simp (implicitDefEqProofs := false) only [ct__law_all_right_1, st_gN, st_put, ok_bind, wipeE_cons, wipeE_nil, List.set_cons_succ, List.set_cons_zero, List.getElem?_cons_succ, List.getElem?_cons_zero, st_eNotT, st_eTru, st_eCB, st_eCons, st_eFe, st_eLc, st_iSeq, st_eV, st_eVar, strg_s, DC_len, clr_cons, clr_nil, Bool.and_self, and_true, l2, c2', e1, st_eNil, rdA_cons, rdA_nil, rd_d, truD_b, show cs.length ≤ 1000000 by omega, if_true]
  rw [Int.sub_zero] at c1
  have rl : (rangeD 0 L).length ≤ 1000000 := by rw [range_len]; omega
  have rb : -1000000000000 ≤ L ∧ L ≤ 1000000000000 := ⟨by omega, by omega⟩
  have n0 : oNe (.list (prs cs cs.length)) (.list []) = .ok (.bool (!(prs cs cs.length).isEmpty)) := by
    rw [oNe_sh (((sh_list 60 _).mpr prs_sh).mono (by decide)) (by simp), eqv_l, eqv_nil]
  by_cases hs : ∃ x, Sol cs x
  · obtain ⟨x, e, sx, x0, x1⟩ := nums_sol hl hs
    rw [e, List.map_cons, List.map_nil, Int.toNat_of_nonneg x0, Int.zero_add] at c1
    have en := (prs_sol h).mpr hs
    have ans : Ans cs (cl L x) := .inl ⟨L, x, hl, x0, x1, sx, rfl⟩
    obtain ⟨q0, q1, rest, e6, hpot⟩ := all_end (S1 := S1) (S3 := S3) (S4 := .va (.int L)) (S5 := .va (.list [.int x])) (S8 := .va (.int b)) (S10 := S10) (S11 := .em) (S12 := .em) (S13 := .em) (B := .none) h0 h h1 (by omega) ans ((Sh.tuple (n := 0) (by intro y hy; simp at hy; rcases hy with rfl | rfl <;> exact .int _ _)).mono (by decide))
    refine ⟨q0, q1, rest, ?_, hpot⟩
    rw [en] at c1 e6 n0 ⊢
    simp (implicitDefEqProofs := false) [tl__law_all_right_1, rb, rl, c1, n0, oNe_sh, oEq_sh, e6]
  · rw [nums_no hs, List.map_nil] at c1
    have en : (prs cs cs.length).isEmpty = false := by
      cases e : prs cs cs.length with
      | nil => exact absurd ((prs_sol h).mp e) hs
      | cons => rfl
    rw [en] at n0
    have ans : Ans cs .none := .inr ⟨fun x hx => hs ⟨x, hx⟩, rfl⟩
    obtain ⟨q0, q1, rest, e6, hpot⟩ := all_end (S1 := S1) (S3 := S3) (S4 := .va (.int L)) (S5 := .va (.list [])) (S8 := .va (.int b)) (S10 := S10) (S11 := .em) (S12 := .em) (S13 := .em) (B := .none) h0 h h1 (by omega) ans (.none _)
    refine ⟨q0, q1, rest, ?_, hpot⟩
    simp (implicitDefEqProofs := false) [tl__law_all_right_1, rb, rl, c1, n0, oNe_sh, oEq_sh, e6]
end XL

namespace XL
open PySem PySem.Spec L2
/-- the pairs -/
theorem all_pairs {p0 p1 : Int} {cs : Cs} {b : Int} {S1 S10 : Sl} (h0 : Pot p0 p1) (h : OkC cs) (h1 : 1 ≤ cs.length) (h2 : cs.length ≤ 7) :
    ∃ q0 q1 rest, tl__law_all_right_2 [.io [.int p0, .int p1], S1, .em, .em, .em, .em, .em, .em, .va (.int b), .ow (DC cs), S10, .em, .em, .em] = .ok (.rt (.bool true), .io [.int q0, .int q1] :: rest) ∧ Pot q0 q1 := by
  obtain ⟨env', lp, s3, n3, rfl⟩ := for_rule (g := gN 3) (body := fb__law_all_right_1) (ds := rangeD 0 cs.length) (fun i env => ∃ s3, (s3 = .em ∨ ∃ d, s3 = .va d) ∧ env = [.io [.int p0, .int p1], S1, .ow (prs cs i), s3, .em, .em, .em, .em, .va (.int b), .ow (DC cs), S10, .em, .em, .em]) (by
    rintro i d env hd ⟨s3, n3, rfl⟩
    obtain ⟨hi, rfl⟩ := range_at hd
    rw [Int.zero_add]
    have hi : i < cs.length := by omega
    have c1 : lcD (gN 13) ct__law_all_right_0 ce__law_all_right_0 [13] (rangeD ((i : Int) + 1) cs.length) [.io [.int p0, .int p1], S1, .ow (prs cs i), .va (.int i), .em, .em, .em, .em, .va (.int b), .ow (DC cs), S10, .em, .em, .em] =
        .ok (rowP cs i, [.io [.int p0, .int p1], S1, .ow (prs cs i), .va (.int i), .em, .em, .em, .em, .va (.int b), .ow (DC cs), S10, .em, .em, .em]) := by
      have e : ((cs.length : Int) - ((i : Int) + 1)).toNat = cs.length - (i + 1) := by omega
      rw [rangeD, e]
      refine lc_map _ (fun k => badP cs i (i + 1 + k)) (fun k => .tuple [.int i, .int ((i + 1 + k : Nat) : Int)]) fun k hk => ?_
      have hk := List.mem_range.mp hk
      obtain ⟨⟨c0, _⟩, _⟩ := h _ (at0_mem hi)
      obtain ⟨⟨d0, _⟩, _⟩ := h _ (at0_mem (show i + 1 + k < cs.length by omega))
      have dm := do_law_do_meet (p := (at0 cs i).1) (r := (at0 cs i).2) (q := (at0 cs (i + 1 + k)).1) (s := (at0 cs (i + 1 + k)).2) c0 d0
      have e1 := at0_DC hi
      have e2 := at0_DC (show i + 1 + k < cs.length by omega)
      obtain ⟨J, hJ⟩ : ∃ J : Int, J = ((i + 1 + k : Nat) : Int) := ⟨_, rfl⟩
      rw [show (i : Int) + 1 + (k : Nat) = J by omega, ← hJ]
      rw [← hJ] at e2
      simp only [clD] at e1 e2
      refine ⟨[.io [.int p0, .int p1], S1, .ow (prs cs i), .va (.int i), .em, .em, .em, .em, .va (.int b), .ow (DC cs), S10, .em, .em, .va (.int J)], ?_, fun _ => ⟨_, by simp (implicitDefEqProofs := false) [ce__law_all_right_0]; rfl, by simp, by simp⟩, fun _ => by simp⟩
      simp (implicitDefEqProofs := false) [ct__law_all_right_0, e1, e2, dm, badP]
    have b1 : -1000000000000 ≤ (i : Int) + 1 ∧ (i : Int) + 1 ≤ 1000000000000 := ⟨by omega, by omega⟩
    have b2 : -1000000000000 ≤ (cs.length : Int) ∧ (cs.length : Int) ≤ 1000000000000 := ⟨by omega, by omega⟩
    have rl : (rangeD ((i : Int) + 1) cs.length).length ≤ 1000000 := by rw [range_len]; omega
    have pl : (prs cs i).length + (rowP cs i).length ≤ 1000000 := by
      have := prs_len (cs := cs) (i + 1)
      rw [prs_succ, List.length_append] at this
      have h3 : (i + 1) * cs.length ≤ 7 * 7 := Nat.mul_le_mul (by omega) h2
      omega
    refine ⟨[.io [.int p0, .int p1], S1, .ow (prs cs (i + 1)), .va (.int i), .em, .em, .em, .em, .va (.int b), .ow (DC cs), S10, .em, .em, .em], ?_, _, .inr ⟨_, rfl⟩, rfl⟩
    rw [prs_succ]
    rcases n3 with rfl | ⟨d3, rfl⟩ <;> simp (implicitDefEqProofs := false) [fb__law_all_right_1, DC_len, b1, b2, rl, c1, pl]) (env := [.io [.int p0, .int p1], S1, .ow [], .em, .em, .em, .em, .em, .va (.int b), .ow (DC cs), S10, .em, .em, .em]) ⟨.em, .inl rfl, rfl⟩
  rw [range_len, Int.sub_zero, Int.toNat_natCast] at lp
  have b2 : -1000000000000 ≤ (cs.length : Int) ∧ (cs.length : Int) ≤ 1000000000000 := ⟨by omega, by omega⟩
  have hper : ∀ n ∈ cs.map (·.1), 0 < n ∧ n ≤ 12 := by
    intro n hn
    obtain ⟨c, hc, rfl⟩ := List.mem_map.mp hn
    exact ⟨(h c hc).1.1, (h c hc).2⟩
  have hl := lcs_all cs fun c hc => (h c hc).1.1
  have mul := do_multiple_all (ns := cs.map (·.1)) (fun n hn => ⟨(hper n hn).1, by have := (hper n hn).2; omega⟩) fun i hi => by
    have h3 := lcs_le12 ((cs.map (·.1)).take i) fun n hn => hper n (List.mem_of_mem_take hn)
    have h4 : ((cs.map (·.1)).take i).length ≤ 20 := by rw [List.length_take, List.length_map]; omega
    have := pow12 _ h4
    omega
  have c3 : ∀ env : En, env = [.io [.int p0, .int p1], S1, .ow (prs cs cs.length), s3, .em, .em, .em, .em, .va (.int b), .va (.list (DC cs)), S10, .em, .em, .em] →
      lcD (gN 12) eYes ce__law_all_right_1 [12] (DC cs) env = .ok ((cs.map (·.1)).map .int, env) := by
    rintro env rfl
    have := lc_map (g := gN 12) (tst := eYes) (elt := ce__law_all_right_1) (vs := [12]) (env := [.io [.int p0, .int p1], S1, .ow (prs cs cs.length), s3, .em, .em, .em, .em, .va (.int b), .va (.list (DC cs)), S10, .em, .em, .em]) clD (fun _ => true) (fun c => .int c.1) (xs := cs) fun c hc =>
      ⟨[.io [.int p0, .int p1], S1, .ow (prs cs cs.length), s3, .em, .em, .em, .em, .va (.int b), .va (.list (DC cs)), S10, .em, .va (clD c), .em], by simp (implicitDefEqProofs := false), fun _ => ⟨_, by simp (implicitDefEqProofs := false) [ce__law_all_right_1, clD]; rfl, by simp, by simp⟩, fun z => (nomatch z)⟩
    refine this.trans ?_
    rw [List.filter_eq_self.mpr (by simp), List.map_map]
    rfl
  obtain ⟨ns, hns⟩ : ∃ ns, ns = (cs.map (·.1)).map PyData.int := ⟨_, rfl⟩
  rw [← hns] at c3 mul
  obtain ⟨L, hL⟩ : ∃ L, L = lcs (cs.map (·.1)) := ⟨_, rfl⟩
  rw [← hL] at mul hl
  have l3 : cs.length ≤ 1000000 := by omega
  obtain ⟨q0, q1, rest, e6, hpot⟩ := all_mid (b := b) (S1 := S1) (S3 := s3) (S10 := S10) h0 h h1 h2 L hl (L_le h hl)
  refine ⟨q0, q1, rest, ?_, hpot⟩
  simp (implicitDefEqProofs := false) [tl__law_all_right_2, DC_len, b2, lp, l3, c3, mul, e6]
theorem okC_snoc {cs : Cs} {c : Int × Int} (h : OkC cs) (hc : Cls c.1 c.2 ∧ c.1 ≤ 12) : OkC (cs ++ [c]) := fun d hd => by
  rcases List.mem_append.mp hd with hd | hd
  · exact h d hd
  · have : d = c := by simpa using hd
    rw [this]; exact hc
theorem do_all_right {p0 p1 : Int} (h0 : Pot p0 p1) : ∃ q0 q1, ev__law_all_right [.io [.int p0, .int p1]] = .ok (.bool true, [[.int q0, .int q1]]) ∧ Pot q0 q1 := by
  obtain ⟨b, a0, a1, e1, ⟨x1, y1⟩, k1⟩ := do_draw h0 (m := 500) (by decide) (by decide)
  obtain ⟨n, b0, b1, e2, ⟨x2, y2⟩, k2⟩ := do_draw k1 (m := 5) (by decide) (by decide)
  obtain ⟨env', lp, q0, q1, cs, s1, s10, hpot, n1, n10, hlen, hok, rfl⟩ := for_rule (g := gN 1) (body := fb__law_all_right_0) (ds := rangeD 0 (2 + n)) (fun i env => ∃ q0 q1 cs s1 s10, Pot q0 q1 ∧ (s1 = .em ∨ ∃ d, s1 = .va d) ∧ (s10 = .em ∨ ∃ d, s10 = .va d) ∧ cs.length = i ∧ OkC cs ∧ env = [.io [.int q0, .int q1], s1, .em, .em, .em, .em, .em, .em, .va (.int b), .ow (DC cs), s10, .em, .em, .em]) (by
    rintro i d env hd ⟨q0, q1, cs, s1, s10, hpot, n1, n10, hlen, hok, rfl⟩
    obtain ⟨hi, rfl⟩ := range_at hd
    obtain ⟨k, r0, r1, e, ⟨k0, k1⟩, hp2⟩ := do_draw hpot (m := 12) (by decide) (by decide)
    obtain ⟨p, hp⟩ : ∃ p, p = 1 + k := ⟨_, rfl⟩
    have hp0 : 0 < p := by omega
    have hl : cs.length < 1000000 := by omega
    refine ⟨[.io [.int r0, .int r1], .va (.int (0 + (i : Nat))), .em, .em, .em, .em, .em, .em, .va (.int b), .ow (DC (cs ++ [(p, b % p)])), .va (.int p), .em, .em, .em], ?_, r0, r1, _, _, _, hp2, .inr ⟨_, rfl⟩, .inr ⟨_, rfl⟩, by simp [hlen], okC_snoc hok ⟨⟨hp0, Int.emod_nonneg _ (by omega), Int.emod_lt_of_pos _ hp0⟩, by show p ≤ 12; omega⟩, rfl⟩
    have ed : DC (cs ++ [(p, b % p)]) = DC cs ++ [cl p (b % p)] := by simp [DC, clD]
    rw [ed]
    rcases n1 with rfl | ⟨d1, rfl⟩ <;> rcases n10 with rfl | ⟨d10, rfl⟩ <;> simp (implicitDefEqProofs := false) [fb__law_all_right_0, e, ← hp, hp0, DC_len, hl]) (env := [.io [.int b0, .int b1], .em, .em, .em, .em, .em, .em, .em, .va (.int b), .ow [], .em, .em, .em, .em]) ⟨b0, b1, [], .em, .em, k2, .inl rfl, .inl rfl, rfl, fun c hc => (by cases hc), rfl⟩
  rw [range_len] at hlen
  have hlen2 : 2 ≤ cs.length ∧ cs.length ≤ 6 := by omega
  have b2 : -1000000000000 ≤ 2 + n ∧ 2 + n ≤ 1000000000000 := ⟨by omega, by omega⟩
  obtain ⟨t, c0, c1, e3, ⟨x3, y3⟩, k3⟩ := do_draw hpot (m := 3) (by decide) (by decide)
  by_cases ht : t = 0
  · obtain ⟨j, d0, d1, e4, ⟨x4, y4⟩, k4⟩ := do_draw k3 (m := (cs.length : Int) + 1) (by omega) (by omega)
    obtain ⟨p, r, f0, f1, e5, hc, hp, k5⟩ := do_class k4 (m := 12) (by decide) (by decide)
    have hok' : OkC (cs.take j.toNat ++ [(p, r)] ++ cs.drop j.toNat) := fun d hd => by
      rcases List.mem_append.mp hd with hd | hd
      · rcases List.mem_append.mp hd with hd | hd
        · exact hok d (List.mem_of_mem_take hd)
        · have : d = (p, r) := by simpa using hd
          rw [this]; exact ⟨hc, hp⟩
      · exact hok d (List.mem_of_mem_drop hd)
    have hl7 : (cs.take j.toNat ++ [(p, r)] ++ cs.drop j.toNat).length = cs.length + 1 := by
      simp only [List.length_append, List.length_take, List.length_drop, List.length_cons, List.length_nil]
      omega
    obtain ⟨q0', q1', rest, e6, hpot'⟩ := all_pairs (b := b) (S1 := s1) (S10 := s10) k5 hok' (by omega) (by omega)
    have ed : DC (cs.take j.toNat ++ [(p, r)] ++ cs.drop j.toNat) = (DC cs).take j.toNat ++ (cl p r :: (DC cs).drop j.toNat) := by simp [DC, clD, List.map_take, List.map_drop]
    rw [ed] at e6
    have l9 : cs.length < 1000000 ∧ 0 ≤ j ∧ j < 1000000000 := ⟨by omega, by omega, by omega⟩
    refine ⟨q0', q1', ?_, hpot'⟩
    simp (implicitDefEqProofs := false) [ev__law_all_right, bd__law_all_right, e1, e2, b2, lp, e3, ht, e4, e5, DC_len, l9, e6]
  · obtain ⟨q0', q1', rest, e6, hpot'⟩ := all_pairs (b := b) (S1 := s1) (S10 := s10) k3 hok (by omega) (by omega)
    refine ⟨q0', q1', ?_, hpot'⟩
    simp (implicitDefEqProofs := false) [ev__law_all_right, bd__law_all_right, e1, e2, b2, lp, e3, ht, e6]
theorem do_right {p0 p1 : Int} (h0 : Pot p0 p1) : ∃ q0 q1, ev__law_right [.io [.int p0, .int p1]] = .ok (.bool true, [[.int q0, .int q1]]) ∧ Pot q0 q1 := by
  obtain ⟨p, r, a0, a1, e1, hc, hp, k1⟩ := do_class h0 (m := 30) (by decide) (by decide)
  obtain ⟨q, s, b0, b1, e2, hc2, hq, k2⟩ := do_class k1 (m := 30) (by decide) (by decide)
  obtain ⟨c0, c1, e3, k3⟩ := do_pair_right k2 hc hc2 hp hq
  have hq0 := hc2.1
  obtain ⟨d0, d1, e4, k4⟩ := do_pair_right k3 hc (q := q) (s := r % q) ⟨hq0, Int.emod_nonneg _ (by omega), Int.emod_lt_of_pos _ hq0⟩ hp hq
  obtain ⟨f0, f1, e5, k5⟩ := do_all_right k4
  obtain ⟨g0, g1, e6, k6⟩ := do_great_right k5
  obtain ⟨i0, i1, e7, k7⟩ := do_great_right k6
  obtain ⟨odds, hodds⟩ : ∃ odds, odds = ([.tuple [.int 0, .int 0], .tuple [.int 3, .int 3], .tuple [.int 3, .int (-1)], .list [.int 3, .int 1], .tuple [.int 3], .none, .tuple [.bool true, .int 0], .tuple [.int 3, .bool false], .tuple [.int 3, .int 1, .int 0], .str (Str.ofString "ab")] : List PyData) := ⟨_, rfl⟩
  have c1' : ∀ env : En, env = [.io [.int d0, .int d1], .va (.list odds), .va (cl p r), .va (cl q s), .em] → lcD (gN 4) eYes ce__law_right_0 [4] odds env = .ok (odds.map fun _ => .bool false, env) := by
    rintro env rfl
    have := lc_map (g := gN 4) (tst := eYes) (elt := ce__law_right_0) (vs := [4]) (env := [.io [.int d0, .int d1], .va (.list odds), .va (cl p r), .va (cl q s), .em]) (fun d : PyData => d) (fun _ => true) (fun _ => .bool false) (xs := odds) fun d hd => by
      have hw := odds_ok d (by rw [← hodds]; exact hd)
      exact ⟨[.io [.int d0, .int d1], .va (.list odds), .va (cl p r), .va (cl q s), .va d], by simp (implicitDefEqProofs := false), fun _ => ⟨_, by simp (implicitDefEqProofs := false) [ce__law_right_0, hw]; rfl, by simp, by simp⟩, fun z => (nomatch z)⟩
    rw [List.map_id', List.filter_eq_self.mpr (by simp)] at this
    exact this
  have w := do_is_wide 10000000000000000000000000 1000000000000000000000000
  rw [decide_eq_true (by decide)] at w
  have tail : ∃ rest, tl__law_right_0 [.io [.int d0, .int d1], .va (.list odds), .va (cl p r), .va (cl q s), .em] = .ok (.rt (.bool true), .io [.int i0, .int i1] :: rest) := by
    refine ⟨[.va (.list odds), .va (cl p r), .va (cl q s), .em], ?_⟩
    have ol : odds.length = 10 := by rw [hodds]; rfl
    have oe : odds.map (fun _ => PyData.bool false) = [.bool false, .bool false, .bool false, .bool false, .bool false, .bool false, .bool false, .bool false, .bool false, .bool false] := by rw [hodds]; rfl
    rw [oe] at c1'
    have r10 : rep 10 [.bool false] = [.bool false, .bool false, .bool false, .bool false, .bool false, .bool false, .bool false, .bool false, .bool false, .bool false] := rfl
    simp (implicitDefEqProofs := false) [tl__law_right_0, ol, c1', r10, oNe_sh, w, e5, e6, e7]
  obtain ⟨rest, e8⟩ := tail
  refine ⟨i0, i1, ?_, k7⟩
  rw [hodds] at e8
  simp (implicitDefEqProofs := false) [ev__law_right, bd__law_right, e1, e2, e3, e4, hq0, e8]
theorem right_ok : Right ev__law_right := fun p0 p1 h => by
  obtain ⟨q0, q1, e, _⟩ := do_right h
  exact ⟨_, e⟩
end XL

open PySem PySem.W PyProof.Rows
set_option maxHeartbeats 0 in
theorem PySem.Challenge.cw_classesshared_k11_whole_meetings_of_clas_holds : PySem.Challenge.rw_classesshared_k11_whole_meetings_of_clas.Holds := by
  w_on; o_law; k_head; (case hw => w_witness2)
  k_fill
  refine L2.walk_of (l := PySem.Challenge.rw_classesshared_k11_whole_meetings_of_clas) (n := 63) (k := 10) (x := "script") (CX := fun _ => L2.CX0) (sp := fun w => XL.spLaw _) rfl (by decide) rfl ⟨rfl, by decide, by decide⟩ (fun w h Y => PySem.W.kIn_of Y) ?F (fun _ _ a ns hl _ hS => ⟨a, ns, rfl, hS, hl, fun _ => rfl⟩) (fun _ _ _ _ _ h => h)
  case F =>
    intro w mg fa h KX G hmg
    refine' XL.with_def (x := "is_integer") (st := XL.topS 10) (ps := ["value"]) KX G ?a10 ?l10 ?c10 ?k10 (fun _ _ _ _ _ _ us hl => match us, hl with | [_], _ => rfl) ?go10
    (case a10 => k_is); (case l10 => k_is); (case c10 => k_is); (case k10 => k_is); intro D_is_integer
    refine' XL.with_def (x := "is_count") (st := XL.topS 11) (ps := ["value"]) KX G ?a11 ?l11 ?c11 ?k11 (fun _ _ _ _ _ _ us hl => match us, hl with | [_], _ => rfl) ?go11
    (case a11 => k_is); (case l11 => k_is); (case c11 => k_is); (case k11 => k_is); intro D_is_count
    refine' XL.with_def (x := "is_period") (st := XL.topS 12) (ps := ["value"]) KX G ?a12 ?l12 ?c12 ?k12 (fun _ _ _ _ _ _ us hl => match us, hl with | [_], _ => rfl) ?go12
    (case a12 => k_is); (case l12 => k_is); (case c12 => k_is); (case k12 => k_is); intro D_is_period
    refine' XL.with_def (x := "is_beat") (st := XL.topS 13) (ps := ["value"]) KX G ?a13 ?l13 ?c13 ?k13 (fun _ _ _ _ _ _ us hl => match us, hl with | [_], _ => rfl) ?go13
    (case a13 => k_is); (case l13 => k_is); (case c13 => k_is); (case k13 => k_is); intro D_is_beat
    refine' XL.with_def (x := "is_class") (st := XL.topS 14) (ps := ["value"]) KX G ?a14 ?l14 ?c14 ?k14 (fun _ _ _ _ _ _ us hl => match us, hl with | [_], _ => rfl) ?go14
    (case a14 => k_is); (case l14 => k_is); (case c14 => k_is); (case k14 => k_is); intro D_is_class
    refine' XL.with_def (x := "check_beat") (st := XL.topS 15) (ps := ["beat"]) KX G ?a15 ?l15 ?c15 ?k15 (fun _ _ _ _ _ _ us hl => match us, hl with | [_], _ => rfl) ?go15
    (case a15 => k_is); (case l15 => k_is); (case c15 => k_is); (case k15 => k_is); intro D_check_beat
    refine' XL.with_def (x := "check_class") (st := XL.topS 16) (ps := ["cls"]) KX G ?a16 ?l16 ?c16 ?k16 (fun _ _ _ _ _ _ us hl => match us, hl with | [_], _ => rfl) ?go16
    (case a16 => k_is); (case l16 => k_is); (case c16 => k_is); (case k16 => k_is); intro D_check_class
    refine' XL.with_def (x := "check_classes") (st := XL.topS 17) (ps := ["cls", "other"]) KX G ?a17 ?l17 ?c17 ?k17 (fun _ _ _ _ _ _ us hl => match us, hl with | [_, _], _ => rfl) ?go17
    (case a17 => k_is); (case l17 => k_is); (case c17 => k_is); (case k17 => k_is); intro D_check_classes
    refine' XL.with_def (x := "common_of") (st := XL.topS 18) (ps := ["numbers"]) KX G ?a18 ?l18 ?c18 ?k18 (fun _ _ _ _ _ _ us hl => match us, hl with | [_], _ => rfl) ?go18
    (case a18 => k_is); (case l18 => k_is); (case c18 => k_is); (case k18 => k_is); intro D_common_of
    refine' XL.with_def (x := "inverse_of") (st := XL.topS 19) (ps := ["number", "rest"]) KX G ?a19 ?l19 ?c19 ?k19 (fun _ _ _ _ _ _ us hl => match us, hl with | [_, _], _ => rfl) ?go19
    (case a19 => k_is); (case l19 => k_is); (case c19 => k_is); (case k19 => k_is); intro D_inverse_of
    refine' XL.with_def (x := "next_in") (st := XL.topS 22) (ps := ["cls", "beat"]) KX G ?a22 ?l22 ?c22 ?k22 (fun _ _ _ _ _ _ us hl => match us, hl with | [_, _], _ => rfl) ?go22
    (case a22 => k_is); (case l22 => k_is); (case c22 => k_is); (case k22 => k_is); intro D_next_in
    refine' XL.with_def (x := "check_some") (st := XL.topS 23) (ps := ["classes"]) KX G ?a23 ?l23 ?c23 ?k23 (fun _ _ _ _ _ _ us hl => match us, hl with | [_], _ => rfl) ?go23
    (case a23 => k_is); (case l23 => k_is); (case c23 => k_is); (case k23 => k_is); intro D_check_some
    refine' XL.with_def (x := "do_meet_in") (st := XL.topS 24) (ps := ["one", "other"]) KX G ?a24 ?l24 ?c24 ?k24 (fun _ _ _ _ _ _ us hl => match us, hl with | [_, _], _ => rfl) ?go24
    (case a24 => k_is); (case l24 => k_is); (case c24 => k_is); (case k24 => k_is); intro D_do_meet_in
    refine' XL.with_def (x := "cut_down") (st := XL.topS 25) (ps := ["one", "other"]) KX G ?a25 ?l25 ?c25 ?k25 (fun _ _ _ _ _ _ us hl => match us, hl with | [_, _], _ => rfl) ?go25
    (case a25 => k_is); (case l25 => k_is); (case c25 => k_is); (case k25 => k_is); intro D_cut_down
    refine' XL.with_def (x := "do_meet") (st := XL.topS 27) (ps := ["cls", "other"]) KX G ?a27 ?l27 ?c27 ?k27 (fun _ _ _ _ _ _ us hl => match us, hl with | [_, _], _ => rfl) ?go27
    (case a27 => k_is); (case l27 => k_is); (case c27 => k_is); (case k27 => k_is); intro D_do_meet
    refine' XL.with_def (x := "shared") (st := XL.topS 28) (ps := ["cls", "other"]) KX G ?a28 ?l28 ?c28 ?k28 (fun _ _ _ _ _ _ us hl => match us, hl with | [_, _], _ => rfl) ?go28
    (case a28 => k_is); (case l28 => k_is); (case c28 => k_is); (case k28 => k_is); intro D_shared
    refine' XL.with_def (x := "shared_by_all") (st := XL.topS 29) (ps := ["classes"]) KX G ?a29 ?l29 ?c29 ?k29 (fun _ _ _ _ _ _ us hl => match us, hl with | [_], _ => rfl) ?go29
    (case a29 => k_is); (case l29 => k_is); (case c29 => k_is); (case k29 => k_is); intro D_shared_by_all
    refine' XL.with_def (x := "apart") (st := XL.topS 30) (ps := ["classes"]) KX G ?a30 ?l30 ?c30 ?k30 (fun _ _ _ _ _ _ us hl => match us, hl with | [_], _ => rfl) ?go30
    (case a30 => k_is); (case l30 => k_is); (case c30 => k_is); (case k30 => k_is); intro D_apart
    refine' XL.with_def (x := "first_meeting") (st := XL.topS 31) (ps := ["cls", "other", "beat"]) KX G ?a31 ?l31 ?c31 ?k31 (fun _ _ _ _ _ _ us hl => match us, hl with | [_, _, _], _ => rfl) ?go31
    (case a31 => k_is); (case l31 => k_is); (case c31 => k_is); (case k31 => k_is); intro D_first_meeting
    refine' XL.with_def (x := "is_wide") (st := XL.topS 32) (ps := ["value"]) KX G ?a32 ?l32 ?c32 ?k32 (fun _ _ _ _ _ _ us hl => match us, hl with | [_], _ => rfl) ?go32
    (case a32 => k_is); (case l32 => k_is); (case c32 => k_is); (case k32 => k_is); intro D_is_wide
    refine' XL.with_def (x := "_law_draw") (st := XL.topS 35) (ps := ["pot", "many"]) KX G ?a35 ?l35 ?c35 ?k35 (fun _ _ _ _ _ _ us hl => match us, hl with | [_, _], _ => rfl) ?go35
    (case a35 => k_is); (case l35 => k_is); (case c35 => k_is); (case k35 => k_is); intro D__law_draw
    refine' XL.with_def (x := "_law_pick") (st := XL.topS 36) (ps := ["pot", "some"]) KX G ?a36 ?l36 ?c36 ?k36 (fun _ _ _ _ _ _ us hl => match us, hl with | [_, _], _ => rfl) ?go36
    (case a36 => k_is); (case l36 => k_is); (case c36 => k_is); (case k36 => k_is); intro D__law_pick
    refine' XL.with_def (x := "_law_mixed") (st := XL.topS 37) (ps := ["pot", "some"]) KX G ?a37 ?l37 ?c37 ?k37 (fun _ _ _ _ _ _ us hl => match us, hl with | [_, _], _ => rfl) ?go37
    (case a37 => k_is); (case l37 => k_is); (case c37 => k_is); (case k37 => k_is); intro D__law_mixed
    refine' XL.with_def (x := "_law_common") (st := XL.topS 38) (ps := ["one", "other"]) KX G ?a38 ?l38 ?c38 ?k38 (fun _ _ _ _ _ _ us hl => match us, hl with | [_, _], _ => rfl) ?go38
    (case a38 => k_is); (case l38 => k_is); (case c38 => k_is); (case k38 => k_is); intro D__law_common
    refine' XL.with_def (x := "_law_multiple_all") (st := XL.topS 39) (ps := ["numbers"]) KX G ?a39 ?l39 ?c39 ?k39 (fun _ _ _ _ _ _ us hl => match us, hl with | [_], _ => rfl) ?go39
    (case a39 => k_is); (case l39 => k_is); (case c39 => k_is); (case k39 => k_is); intro D__law_multiple_all
    refine' XL.with_def (x := "_law_class") (st := XL.topS 40) (ps := ["pot", "most"]) KX G ?a40 ?l40 ?c40 ?k40 (fun _ _ _ _ _ _ us hl => match us, hl with | [_, _], _ => rfl) ?go40
    (case a40 => k_is); (case l40 => k_is); (case c40 => k_is); (case k40 => k_is); intro D__law_class
    refine' XL.with_def (x := "_law_do_meet") (st := XL.topS 41) (ps := ["one", "other"]) KX G ?a41 ?l41 ?c41 ?k41 (fun _ _ _ _ _ _ us hl => match us, hl with | [_, _], _ => rfl) ?go41
    (case a41 => k_is); (case l41 => k_is); (case c41 => k_is); (case k41 => k_is); intro D__law_do_meet
    refine' XL.with_def (x := "_law_pair_right") (st := XL.topS 42) (ps := ["pot", "one", "other"]) KX G ?a42 ?l42 ?c42 ?k42 (fun _ _ _ _ _ _ us hl => match us, hl with | [_, _, _], _ => rfl) ?go42
    (case a42 => k_is); (case l42 => k_is); (case c42 => k_is); (case k42 => k_is); intro D__law_pair_right
    refine' XL.with_def (x := "_law_all_right") (st := XL.topS 43) (ps := ["pot"]) KX G ?a43 ?l43 ?c43 ?k43 (fun _ _ _ _ _ _ us hl => match us, hl with | [_], _ => rfl) ?go43
    (case a43 => k_is); (case l43 => k_is); (case c43 => k_is); (case k43 => k_is); intro D__law_all_right
    refine' XL.with_def (x := "_law_great_right") (st := XL.topS 44) (ps := ["pot"]) KX G ?a44 ?l44 ?c44 ?k44 (fun _ _ _ _ _ _ us hl => match us, hl with | [_], _ => rfl) ?go44
    (case a44 => k_is); (case l44 => k_is); (case c44 => k_is); (case k44 => k_is); intro D__law_great_right
    refine' XL.with_def (x := "_law_right") (st := XL.topS 45) (ps := ["pot"]) KX G ?a45 ?l45 ?c45 ?k45 (fun _ _ _ _ _ _ us hl => match us, hl with | [_], _ => rfl) ?go45
    (case a45 => k_is); (case l45 => k_is); (case c45 => k_is); (case k45 => k_is); intro D__law_right
    refine' XL.with_def (x := "_law_pot") (st := XL.topS 34) (ps := ["script", "k"]) KX G ?a34 ?l34 ?c34 ?k34 (fun _ _ _ _ _ _ us hl => match us, hl with | [_, _], _ => rfl) ?go34
    (case a34 => k_is); (case l34 => k_is); (case c34 => k_is); (case k34 => k_is); intro D__law_pot
    refine' XL.with_none (x := "len") KX G ?z0 ?h0; (case z0 => k_is); intro m_len
    refine' XL.with_none (x := "abs") KX G ?z1 ?h1; (case z1 => k_is); intro m_abs
    refine' XL.with_none (x := "int") KX G ?z2 ?h2; (case z2 => k_is); intro m_int
    refine' XL.with_none (x := "max") KX G ?z3 ?h3; (case z3 => k_is); intro m_max
    refine' XL.with_none (x := "range") KX G ?z4 ?h4; (case z4 => k_is); intro m_range
    refine' XL.with_none (x := "min") KX G ?z5 ?h5; (case z5 => k_is); intro m_min
    refine' XL.with_none (x := "all") KX G ?z6 ?h6; (case z6 => k_is); intro m_all
    refine' XL.with_none (x := "isinstance") KX G ?z7 ?h7; (case z7 => k_is); intro m_isinstance
    refine' XL.with_none (x := "bool") KX G ?z8 ?h8; (case z8 => k_is); intro m_bool
    refine' XL.with_int (x := "MOST_PERIOD") (i := 1000000000) KX G ?z9 ?h9; (case z9 => k_is); intro n_MOST_PERIOD
    refine' XL.with_int (x := "MOST_BEAT") (i := 999999999999999999999999999999) KX G ?z10 ?h10; (case z10 => k_is); intro n_MOST_BEAT
    refine' XL.with_none (x := "tuple") KX G ?z11 ?h11; (case z11 => k_is); intro m_tuple
    refine' XL.with_val (x := "gcd") (v := (.builtin "math.gcd")) KX G ?z12 ?h12; (case z12 => k_is); intro g_gcd
    refine' XL.with_none (x := "list") KX G ?z13 ?h13; (case z13 => k_is); intro m_list
    refine' XL.with_int (x := "MOST_CLASSES") (i := 400) KX G ?z14 ?h14; (case z14 => k_is); intro n_MOST_CLASSES
    refine' XL.with_none (x := "divmod") KX G ?z15 ?h15; (case z15 => k_is); intro m_divmod
    refine' XL.with_none (x := "any") KX G ?z16 ?h16; (case z16 => k_is); intro m_any
    refine' XL.law_end (st := XL.topS 46) KX G hmg ?a ?l ?c ?k (fun _ _ => .of_eq rfl) (fun fd base F => XL.all_ok F D_is_integer D_is_count D_is_period D_is_beat D_is_class D_check_beat D_check_class D_check_classes D_common_of D_inverse_of D_next_in D_check_some D_do_meet_in D_cut_down D_do_meet D_shared D_shared_by_all D_apart D_first_meeting D_is_wide D__law_draw D__law_pick D__law_mixed D__law_common D__law_multiple_all D__law_class D__law_do_meet D__law_pair_right D__law_all_right D__law_great_right D__law_right D__law_pot m_len m_abs m_int m_max m_range m_min m_all m_isinstance m_bool n_MOST_PERIOD n_MOST_BEAT m_tuple g_gcd m_list n_MOST_CLASSES m_divmod m_any XL.right_ok)
    (case a => k_is); (case l => k_is); (case c => k_is); (case k => k_is)
